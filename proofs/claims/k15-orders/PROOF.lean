import PyProof.Rows.All
import Wide.All
import OpenK.AllK
import Wide.FinOn
import KE.KExcSuper
import KE.RegKSuper
import HandS.ForMost
import HandS.Exc
import HandS.ExcField
import HandS.ExcIs
import HandS.ExcInit
import HandS.ExcOwn
import HandS.WordsExc
import HandS.Defaults
import HandS.Wide
import HandS.Deep
import HandS.TupAny
import HandS.TupMul
import HandS.IsInst
import HandS.Walk
import HandS.Style
import HandS.Property
import HandS.ClsMeth
import HandS.SortInts
import HandS.Head0
import HandS.Head1
import HandS.Head2
import HandS.HeadEnd
import HandS.HeadHook1
import HandS.HeadHook2
import HandS.HeadHook3
import HandS.HeadHook4
import KE.Datum
import KE.DatumIndex
import HandS.OwnIter
import HandS.IterVal
import PyProof.Rows.TupIter
import HandS.MakeKwOnly
import HandS.TryMany
import KE.GoesNew
import PyProof.Rows.Range3
import HandS.Conv
import PySem.Challenge.RW_restnights_k15_orders_whole_steepest
set_option Elab.async false
set_option linter.all false
set_option maxRecDepth 100000
set_option maxHeartbeats 4000000
namespace XN
open PySem PySem.Spec PySem.W PySem.Calls PyProof.Rows PySem.HandSPX

/-- the rows self.f = f of an __init__ -/
inductive Stores : List Str → List Stmt → Prop
  | nil : Stores [] []
  | cons {f : Str} {fs : List Str} {sts : List Stmt} (p1 p2 p3 p4 : Pos) (h : Stores fs sts) : Stores (f :: fs) (.Assign [.Attribute (.Name "self" p1) f p2] (.Name f p3) p4 :: sts)

/-- what the written part says of an own class of errors at C whose __init__ (at fI) is: super().__init__(text), then a store for each of fs -/
structure ExcK (prog : Program) (K : Frag) (C fI : Addr) (fs : List Str) : Prop where
  cls : ∃ nm q N bs bm sn sub ab col dd k0 k1 k2 k3 k5, K.lookup C = some (excClassObj nm q C N bs bm true sn sub ab col dd k0 k1 k2 k3 k5 "ValueError.__new__") ∧ refsVE bm = true
  sa : findIn K (.ref C) "__setattr__" = some (some (.builtin "object.__setattr__"))
  noF : ∀ f ∈ fs, findIn K (.ref C) f = some none
  iC : findIn K (.ref C) "__init__" = some (some (.ref fI))
  tC : typeIn K (.ref fI) = some (.type "function")
  kC : keepIn K (.ref C) = true
  exC : subIn K (.ref C) (.type "BaseException") = some true
  veC : subIn K (.ref C) (.type "ValueError") = some true
  tyC : typeIn K (.ref C) = some (.type "type")
  sup : ks_superIn K C C "__init__" = some (some (.builtin "ValueError.__init__"))
  slf : mroIn K C (.ref C) = some true
  tp : nsIn K cStatics "thirdparty.any" = some none
  nosup : nsIn K mainGlobals "super" = some none
  top : (prog.main.scope.names.lookup ("super" : Str)).isSome = false
  nd : fs.Nodup
  noself : ("self" : Str) ∉ fs
  nodbg : ∀ f ∈ fs, (f == ("__debug__" : Str)) = false
  few : fs.length ≤ 20
  fn : ∃ (oc : Value) (od : Option Addr) (doc pm : Value) (an : Option Addr) (ct : Value) (osl : Array (Option Value)) (qual : Str) (params : Arguments) (scope : Scope) (body : List Stmt) (cc cda : Addr) (m : Str) (mj : Nat) (q1 q2 q3 q4 q5 q6 q7 : Pos) (ar : Arg) (vs : Array Value) (file : Str) (tf : Tok)
      (cl ccl : Value) (cld ccd : Option Addr) (csl cch : Array (Option Value)),
    K.lookup fI = some ⟨oc, od, .func (ksFn "__init__" qual params body scope .none .none doc pm an (.ref cda) ct cc), osl⟩ ∧ codeIn K (.ref cda) qual = true ∧
    body = .Expr (.Call (.Attribute (.Call (.Name "super" q1) [] [] q2) "__init__" q3) [.Constant (.str m) mj q4] [] q5) q6 :: body.drop 1 ∧ Stores fs (body.drop 1) ∧
    (q3.endLine == q5.line) = true ∧ (params.posonlyargs ++ params.args).head? = some ar ∧ ar.arg = "self" ∧
    K.lookup cc = some ⟨cl, cld, .cell (some (.ref C)), csl⟩ ∧ K.lookup cda = some ⟨ccl, ccd, .fields vs, cch⟩ ∧ vs[2]? = some (.str file tf) ∧ ((prog.main.file : Str) == file) = true ∧
    (∀ us : List Value, us.length = fs.length + 1 → bindArgs (ksFn "__init__" qual params body scope .none .none doc pm an (.ref cda) ct cc) ⟨us, []⟩ = pure ((("self" : Str) :: fs).zip us)) ∧
    scope.kind = .function ∧ scope.isCoroutine = false ∧ scope.isGenerator = false ∧ (∀ x ∈ scope.names, x.2 ≠ .cell) ∧ (∀ x ∈ ("self" : Str) :: fs, scope.names.lookup x = some .local) ∧
    scope.names.lookup ("super" : Str) = some .globalImplicit ∧ scope.names.lookup ("__class__" : Str) = some .free

/-- what __init__ leaves of the fresh exception at x -/
structure InitEnd (h h' : Heap) (x C : Addr) (fs : List Str) (us : List Value) (d : Option Addr) : Prop where
  keep : ∀ b o, b ≠ x → h.get? b = some o → h'.get? b = some o
  obj : ∃ t1 : Addr, h'.get? x = some { cls := .ref C, dict := d, data := .fields #[.ref t1, .none, .none, .none, .bool false, .none] }
  dict : match d with
    | none => fs = []
    | some dx => h.objs.size ≤ dx ∧ dx ≠ x ∧ ∃ m, h'.Ns1 dx m ∧ (∀ y, m y = (fs.zip us).lookup y) ∧ PySem.Within m fs

section
variable {prog : Program} {w : World} {A : Around} {E : Value → Shared → Prop} {R : Result → Shared → Prop} {s : Shared} {K : Frag} {mg mb : Str → Option Value} {C fI : Addr} {fs : List Str}

theorem eval_super {env : Env} {msg : Str} {mj : Nat} {q1 q2 q3 q4 q5 : Pos} (h : (q3.endLine == q5.line) = true) : ∃ pl : Sem Bool, eval (.Call (.Attribute (.Call (.Name "super" q1) [] [] q2) "__init__" q3) [.Constant (.str msg) mj q4] [] q5) env = (do
      let ov ← attributeBase (.Call (.Name "super" q1) [] [] q2) "__init__" env (eval (.Call (.Name "super" q1) [] [] q2) env)
      standAt q3.atName
      let (f, first) ← holding [ov] (getMethod ov "__init__" pl)
      callWith q5 f first (backTo q5 (starEach [.Constant (.str msg) mj q4] env)) []) := by
  have e : ∀ o : Expr, methodCallPos true o env q3 q5 = pure q5 := fun o => by
    unfold methodCallPos
    rw [h]
    rfl
  refine ⟨(do return (← importBound (.Call (.Name "super" q1) [] [] q2) env).getD true), ?_⟩
  show (do
    let ov ← attributeBase (.Call (.Name "super" q1) [] [] q2) "__init__" env (eval (.Call (.Name "super" q1) [] [] q2) env)
    standAt q3.atName
    let (f, first) ← holding [ov] (calleeOf true (.Call (.Name "super" q1) [] [] q2) env ov "__init__")
    let callPos ← methodCallPos true (.Call (.Name "super" q1) [] [] q2) env q3 q5
    callWith callPos f first (backTo q5 (starEach [.Constant (.str msg) mj q4] env)) []) = _
  simp only [e, pure_bind]
  rfl
/-- super().__init__(text) at the instance at x -/
theorem super_init {body : List Stmt} {env : Env} {fd : FuncData} {cc cda x t0 L : Addr} {m : Str → Option Value} {msg : Str} {mj : Nat} {q1 q2 q3 q4 q5 q6 : Pos} {ar : Arg} {of occ ocd : Obj} {vs : Array Value} {file : Str} {tf : Tok} {Q : Flow → Shared → Prop}
    (T : ExcK prog K C fI fs) (X : K.In s.heap) (hg : s.heap.Ns mainGlobals mg) (hb : s.heap.Ns builtinsNs mb) (hbb : mb "super" = bootBuiltins "super") (hmg : mg "super" = none)
    (hks : env.kindOf "super" = some .globalImplicit) (hkc : env.kindOf "__class__" = some .free) (hka : env.kindOf "self" = some .local) (hk : env.scope.kind = .function) (hfu : env.func = some fI) (hco : env.code = .ref cda) (hgl : env.globals = mainGlobals) (hbl : env.builtins = builtinsNs) (hloc : env.locals = L)
    (hcells : env.cells.lookup ("__class__" : Str) = some cc) (hst : interactive env = false)
    (hf : s.heap.get? fI = some of) (hfd : of.data = .func fd) (hp : (fd.params.posonlyargs ++ fd.params.args).head? = some ar) (har : ar.arg = "self")
    (hcode : s.heap.get? cda = some ocd) (hcd2 : ocd.data = .fields vs) (hvs : vs[2]? = some (.str file tf)) (hfile : ((prog.main.file : Str) == file) = true)
    (hcell : s.heap.get? cc = some occ) (hcell2 : occ.data = .cell (some (.ref C))) (hns : s.heap.Ns L m) (hself : m "self" = some (.ref x)) (hx : s.heap.get? x = some (excO C t0))
    (heL : ∃ pl : Sem Bool, eval (.Call (.Attribute (.Call (.Name "super" q1) [] [] q2) "__init__" q3) [.Constant (.str msg) mj q4] [] q5) env = (do
      let ov ← attributeBase (.Call (.Name "super" q1) [] [] q2) "__init__" env (eval (.Call (.Name "super" q1) [] [] q2) env)
      standAt q3.atName
      let (f, first) ← holding [ov] (getMethod ov "__init__" pl)
      callWith q5 f first (backTo q5 (starEach [.Constant (.str msg) mj q4] env)) []))
    (hsw : swapsWith (.Call (.Attribute (.Call (.Name "super" q1) [] [] q2) "__init__" q3) [.Constant (.str msg) mj q4] [] q5) none q6.line env = pure false)
    (hq : ∀ h' tk t1, (∀ b o, b ≠ x → s.heap.get? b = some o → h'.get? b = some o) → h'.get? x = some (excO C t1) → Q .next { s with heap := h', toks := tk }) :
    _root_.PySem.wpAt (model prog w) A (.func body env) (exec (.Expr (.Call (.Attribute (.Call (.Name "super" q1) [] [] q2) "__init__" q3) [.Constant (.str msg) mj q4] [] q5) q6) env) Q E s := by
  obtain ⟨nm, q, N, bs, bm, sn, sub, ab, col, dd, k0, k1, k2, k3, k5, hC, hbm⟩ := T.cls
  have hcl : clsIn K C = some { name := nm, bases := bs, mro := .ref C :: bm, ns := N, qualname := q, hasDict := true, slotNames := sn, subclasses := sub, abstract := ab, collection := col, hasDel := false } := by unfold clsIn; rw [hC] <;> rfl
  refine ks_wpAt_Expr_any ?_ hst hsw
  obtain ⟨pl, heL⟩ := heL
  refine ks_wpAt_MethodCall (pl := pl) ?_ heL
  have hat : (("__init__" : Str) == ("__class__" : Str)) = false := by decide
  obtain ⟨hh, g, d, t, os⟩ := s
  refine ks_wpAt_super_base hks hkc hat hfu hf hfd hp hco hcode hcd2 hvs hfile T.top ?_
  refine ks_loadName_global hk hks (loadGlobal_builtin (by rw [hgl]; exact hg) hmg (by rw [hbl]; exact hb) (hbb.trans (PyProof.Rows.Boot.«super»)) ⟨rfl, ?_⟩)
  refine wpAny_loadName_free hk hkc hcells ⟨occ, hcell, hcell2⟩ ?_
  rw [har]
  refine wpAny_loadName_local hk hka (by rw [hloc]; exact hns) hself ?_
  have hCg := X _ _ hC
  refine ks_wpAny_isType_cls hCg rfl ⟨rfl, ?_⟩
  refine ks_wpAny_call_super hCg rfl hx rfl (fun c e => by cases e) (looks_mroIn X T.slf) (fun h1 e1 k1' => ?_)
  have X1 : K.In h1 := X.keeps k1'
  have hx1 := k1' _ _ hx
  have I1 : InstAt h1 x (excO C t0) C none := ⟨hx1, rfl, rfl, trivial⟩
  have hsup : alongIn K "__init__" (((Value.ref C :: bm).dropWhile (· != .ref C)).drop 1) = some (some (.builtin "ValueError.__init__")) := by
    have z := T.sup
    unfold ks_superIn at z
    rw [hcl] at z
    exact z
  refine kxs_getMethod kxs_ValueError e1 (looks_opaque X1 T.tp) (l₀ := Value.ref C :: bm) (fun A Q E s k q => wpAny_bind ((looks_clsIn X1 hcl) A _ E s k (wpAny_pure q))) rfl X1 hsup (I1.type.andThen (looks_subIn X1 T.veC)) (ks_ne X1 I1 hcl) (by decide) ?_
  -- the wrapper, called
  have hmw : (h1.push (kxs_mw "ValueError.__init__" x)).get? h1.objs.size = some (kxs_mw "ValueError.__init__" x) := Heap.get?_push_at rfl rfl
  have up : ∀ y o, h1.get? y = some o → (h1.push (kxs_mw "ValueError.__init__" x)).get? y = some o := fun y o e => Heap.get?_push_of_some _ e
  refine kxs_callWith (i := "ValueError.__init__") (x := x) (by rfl) ?_
  refine evalArgs_plain ?_
  show wpAny _ _ (spliced ((false, eval (.Constant (.str msg) mj q4) env) :: [])) _ _ _
  refine spliced_cons (Calls.Constant_str (spliced_nil ⟨hmw, ?_⟩))
  have hu := hmw
  refine wpAny_call (codeAny_of_tree ?_)
  show wpAny _ A.in1 (callAny (.ref h1.objs.size) _) _ _ _
  simp only [callAny]
  refine wpAny_bind (wpAny_load hu ?_)
  simp only [kxs_mw, show (Value.type "method-wrapper" == Value.type "method" || Value.type "method-wrapper" == Value.type "builtin_function_or_method" || Value.type "method-wrapper" == Value.type "method-wrapper") = true by decide, if_true]
  refine KFB.if_so (by decide) ?_
  refine wpAny_bind (check_bound_init F.excBase_ValueError.toExcCallFacts (up _ _ (k1' _ _ hCg)) (up _ _ hx1) rfl ?_)
  refine wpAny_bind (wpAny_pure (wpAny_pure ?_))
  refine ⟨plainId_quiet F.excBase_ValueError.init.plain _, codeAny_builtin F.excBase_ValueError.initEntry ?_⟩
  refine exc_init_tree (cls := .ref C) (t0 := t0) (dv := none) (c2 := .none) (c3 := .none) (b4 := .bool false) (up _ _ hx1) (by show 1 ≤ sizeLine; rw [sizeLine_eq]; decide) (fun h' k he ht => ?_)
  exact hq h' _ _ (fun b o hb e => k b o hb (up _ _ (k1' b o e))) he

/-! ### the stores -/
theorem lookup_out {α : Type} : ∀ {fs : List Str} {us : List α} {f : Str}, f ∉ fs → (fs.zip us).lookup f = none
  | [], _, _, _ => rfl
  | _ :: _, [], _, _ => by simp
  | g :: fs, u :: us, f, h => by
    have hne : (f == g) = false := by
      have : f ≠ g := fun e => h (by rw [e]; exact List.mem_cons_self)
      simpa using this
    rw [List.zip_cons_cons, List.lookup_cons, hne]
    exact lookup_out fun q => h (List.mem_cons_of_mem _ q)

theorem Ns.keep {h h' : Heap} {L : Addr} {m : Str → Option Value} (n : h.Ns L m) (k : ∀ o, h.get? L = some o → h'.get? L = some o) : h'.Ns L m := by
  obtain ⟨o, es, ep, ho, r⟩ := n
  exact ⟨o, es, ep, k o ho, r⟩

theorem stores_old {env : Env} {L x dx : Addr} {m : Str → Option Value} (hk : env.scope.kind = .function) (hloc : env.locals = L) (hself : m "self" = some (.ref x)) (hks : env.kindOf "self" = some .local) (hLx : L ≠ dx)
    (T : findIn K (.ref C) "__setattr__" = some (some (.builtin "object.__setattr__"))) {cd : ClassData} (hcl : clsIn K C = some cd) (hre : refsVE cd.mro = true) (hhd : cd.hasDict = true) :
    ∀ {fs : List Str} {sts : List Stmt}, Stores fs sts → fs.Nodup → (∀ f ∈ fs, findIn K (.ref C) f = some none) → (∀ f ∈ fs, env.kindOf f = some .local) → (∀ f ∈ fs, (f == ("__debug__" : Str)) = false) →
    ∀ (us : List Value), us.length = fs.length → (∀ y, y ∈ fs → m y = (fs.zip us).lookup y) → ∀ (s : Shared) (m0 : Str → Option Value) (nl : List Str) (t1 : Addr), K.In s.heap → s.heap.Ns L m →
    s.heap.get? x = some { cls := .ref C, dict := some dx, data := .fields #[.ref t1, .none, .none, .none, .bool false, .none] } → s.heap.Ns1 dx m0 → PySem.Within m0 nl → nl.length + fs.length ≤ 900 → K.lookup dx = none → dx ≠ x →
    ∀ {Q : Flow → Shared → Prop}, (∀ h' tk m1, (∀ b o, b ≠ dx → s.heap.get? b = some o → h'.get? b = some o) → h'.Ns1 dx m1 → (∀ y, m1 y = match (fs.zip us).lookup y with | some u => some u | none => m0 y) → PySem.Within m1 (fs ++ nl) → Q .next { s with heap := h', toks := tk }) →
    wpAny (model prog w) A (execs sts env) Q E s := by
  intro fs sts S
  induction S with
  | nil =>
    intro _ _ _ _ us hl _ s m0 nl t1 X hn hx hns hw _ _ _ Q hq
    refine wpAny_execs_nil ?_
    exact hq s.heap s.toks m0 (fun _ _ _ e => e) hns (fun y => by simp) hw
  | cons p1 p2 p3 p4 S ih =>
    rename_i f fs sts
    intro nd noF hloc' hdbg us hl hm s m0 nl t1 X hn hx hns hw hsz hkd hdx Q hq
    cases us with
    | nil => cases hl
    | cons u us =>
      have hfu : m f = some u := by
        rw [hm f List.mem_cons_self, List.zip_cons_cons, List.lookup_cons, show (f == f) = true by simp]
      have ndf := List.nodup_cons.mp nd
      refine wpAny_execs_cons (plainObj_wpAny_Assign_Attribute ?_ (by rfl))
      refine wpAny_Name (wpAny_loadName_local hk (hloc' f List.mem_cons_self) (by rw [hloc]; exact hn) hfu ?_) (hdbg f List.mem_cons_self)
      refine wpAny_Name (wpAny_loadName_local hk hks (by rw [hloc]; exact hn) hself ?_) (by decide)
      obtain ⟨oD, _, _, hoD, _, _⟩ := hns.count hw
      obtain ⟨hp, g, d, t, os⟩ := s
      refine set_plain X (ox := { cls := .ref C, dict := some dx, data := .fields #[.ref t1, .none, .none, .none, .bool false, .none] }) (od := some oD) ⟨hx, rfl, rfl, hoD⟩ T ?_
      refine PySem.OEX.osa_old X hx hns hw (by omega) hcl hre hhd (noF f List.mem_cons_self) (fun h3 tk3 k3 hn3 => ?_)
      have X3 : K.In h3 := fun a o e => k3 a o (fun z => by rw [z, hkd] at e; cases e) (X a o e)
      refine ih ndf.2 (fun g hg => noF g (List.mem_cons_of_mem _ hg)) (fun g hg => hloc' g (List.mem_cons_of_mem _ hg)) (fun g hg => hdbg g (List.mem_cons_of_mem _ hg)) us (by simpa using hl) (fun y hy => ?_) ⟨h3, g, d, tk3, os⟩ _ (f :: nl) t1 X3 (Ns.keep hn fun o e => k3 L o hLx e) (k3 _ _ (Ne.symm hdx) hx) hn3 (Within.cons f u hw) (by simp only [List.length_cons] at hsz ⊢; omega) hkd hdx (fun h' tk m1 k hn1 hm1 hw1 => ?_)
      · rw [hm y (List.mem_cons_of_mem _ hy), List.zip_cons_cons, List.lookup_cons]
        have : (y == f) = false := by
          have : y ≠ f := fun e => ndf.1 (e ▸ hy)
          simpa using this
        rw [this]
      · refine hq h' tk m1 (fun b o hb e => k b o hb (k3 b o hb e)) hn1 (fun y => ?_) (fun y hy => ?_)
        · rw [hm1 y, List.zip_cons_cons, List.lookup_cons]
          by_cases e : y = f
          · subst e
            rw [lookup_out ndf.1]
            simp
          · have : (y == f) = false := by simpa using e
            rw [this]
            simp only [if_neg e]
        · have := hw1 y hy
          simp only [List.mem_append, List.mem_cons] at this ⊢
          rcases this with h | h | h
          · exact .inl (.inr h)
          · exact .inl (.inl h)
          · exact .inr h

theorem knone {h : Heap} {a : Addr} (X : K.In h) (e : h.get? a = none) : K.lookup a = none := by
  cases q : K.lookup a with
  | none => rfl
  | some o => rw [X _ _ q] at e; cases e
theorem rev_lookup {α : Type} : ∀ {fs : List Str} {us : List α} (y : Str), fs.Nodup → (fs.zip us).reverse.lookup y = (fs.zip us).lookup y
  | [], _, _, _ => by simp
  | _ :: _, [], _, _ => by simp
  | f :: fs, u :: us, y, nd => by
    have ndf := List.nodup_cons.mp nd
    rw [List.zip_cons_cons, List.reverse_cons, List.lookup_append, rev_lookup y ndf.2, List.lookup_cons]
    by_cases e : y = f
    · subst e
      rw [lookup_out ndf.1]
      simp
    · have e' : (y == f) = false := by simpa using e
      rw [e']
      cases h : (fs.zip us).lookup y <;> simp [List.lookup, e', h]

theorem exc_init (T : ExcK prog K C fI fs) {x t0 : Addr} {us : List Value} (X : K.In s.heap) (hg : s.heap.Ns mainGlobals mg) (hb : s.heap.Ns builtinsNs mb) (hbb : mb "super" = bootBuiltins "super") (hmg : mg "super" = none) (hlim : s.heap.NoLimit)
    (hx : s.heap.get? x = some (excO C t0)) (hnx : K.lookup x = none) (hroom : A.depth < recursionLimit) (hus : us.length = fs.length)
    (hq : ∀ h' tk d, InitEnd s.heap h' x C fs us d → R (.ok (.ret .none)) { s with heap := h', toks := tk }) :
    codeAny (model prog w) A (.call (.ref fI) ⟨.ref x :: us, []⟩) R s := by
  obtain ⟨oc, od, doc, pm, an, ct, osl, qual, params, scope, body, cc, cda, msg, mj, q1, q2, q3, q4, q5, q6, q7, ar, vs, file, tf, cl, ccl, cld, ccd, csl, cch, lk, hcd, hbody, hst, hline, hp, har, hcc, hcda, hvs, hfile, hbind, hk, hco, hgen, hncell, hloc, hsu, hcls⟩ := T.fn
  obtain ⟨nm, q, N, bs, bm, sn, sub, ab, col, dd, k0, k1, k2, k3, k5, hC, hbm⟩ := T.cls
  have hcl : clsIn K C = some { name := nm, bases := bs, mro := .ref C :: bm, ns := N, qualname := q, hasDict := true, slotNames := sn, subclasses := sub, abstract := ab, collection := col, hasDel := false } := by unfold clsIn; rw [hC] <;> rfl
  have hbt : BindsTo s (ksFn "__init__" qual params body scope .none .none doc pm an (.ref cda) ct cc) ⟨.ref x :: us, []⟩ ((("self" : Str) :: fs).zip (.ref x :: us)) := .of_eq (hbind _ (by rw [List.length_cons, hus]))
  have hnd : (("self" : Str) :: fs).Nodup := List.nodup_cons.mpr ⟨T.noself, T.nd⟩
  have getL : ∀ {y : Str} {v : Value}, ((("self" : Str) :: fs).zip (Value.ref x :: us)).lookup y = some v → ((("self" : Str) :: fs).zip (Value.ref x :: us)).reverse.lookup y = some v := fun {y v} h => by rw [rev_lookup y hnd]; exact h
  refine ks_codeAny_call_defAt (fd := ksFn "__init__" qual params body scope .none .none doc pm an (.ref cda) ct cc) (body := body) hroom (X _ _ lk) rfl hlim (codeRec_of X hcd) rfl hbt hncell (fun y hy => ?_) (fun h₀ hns hk₀ => ?_) hco hgen hk
  · obtain ⟨a, b⟩ := y
    exact hloc _ (List.of_mem_zip hy).1
  have hns' : h₀.Ns s.heap.objs.size (fun y => ((("self" : Str) :: fs).zip (Value.ref x :: us)).reverse.lookup y) := hns
  have X0 : K.In h₀ := X.keeps hk₀
  have hx0 := hk₀ _ _ hx
  have hLx : s.heap.objs.size ≠ x := Nat.ne_of_gt (Heap.lt_size hx)
  have hself : (fun y => ((("self" : Str) :: fs).zip (Value.ref x :: us)).reverse.lookup y) "self" = some (.ref x) := getL (by simp)
  generalize hA' : A.deeper (callEnv (ksFn "__init__" qual params body scope .none .none doc pm an (.ref cda) ct cc) s.heap.objs.size fI) = A'
  have hkind : ∀ y k, scope.names.lookup y = some k → (callEnv (ksFn "__init__" qual params body scope .none .none doc pm an (.ref cda) ct cc) s.heap.objs.size fI).kindOf y = some k := fun y k h => h
  generalize hst0 : ({ s with heap := h₀, toks := s.toks + ((("self" : Str) :: fs).zip (Value.ref x :: us)).length } : Shared) = s0
  have hs0 : s0.heap = h₀ := by rw [← hst0]
  rw [hbody]
  refine ks_wpAt_execs_cons ?_
  refine super_init (L := s.heap.objs.size) (m := fun y => ((("self" : Str) :: fs).zip (Value.ref x :: us)).reverse.lookup y) (x := x) (t0 := t0) T (by rw [hs0]; exact X0) (by rw [hs0]; exact hg.keeps hk₀) (by rw [hs0]; exact hb.keeps hk₀) hbb hmg (hkind _ _ hsu) (hkind _ _ hcls) (hkind _ _ (hloc _ List.mem_cons_self)) hk rfl rfl rfl rfl rfl rfl (by simp [interactive, callEnv, newEnv, hk])
    (by rw [hs0]; exact X0 _ _ lk) rfl hp har (by rw [hs0]; exact X0 _ _ hcda) rfl hvs hfile (by rw [hs0]; exact X0 _ _ hcc) rfl (by rw [hs0]; exact hns') hself (by rw [hs0]; exact hx0) (eval_super hline) (by rfl) (fun h1 tk1 t1 kk1 hx1 => ?_)
  rw [hs0] at kk1
  refine PySem.wpAt_of_wpAny ?_
  have X1 : K.In h1 := fun a o e => kk1 a o (fun z => by rw [z, hnx] at e; cases e) (X0 a o e)
  have hnsL : h1.Ns s.heap.objs.size (fun y => ((("self" : Str) :: fs).zip (Value.ref x :: us)).reverse.lookup y) := Ns.keep hns' fun o e => kk1 _ o hLx e
  have old1 : ∀ b o, b ≠ x → s.heap.get? b = some o → h1.get? b = some o := fun b o hb e => kk1 b o hb (hk₀ b o e)
  have hmf : ∀ y, y ∈ fs → (fun y => ((("self" : Str) :: fs).zip (Value.ref x :: us)).reverse.lookup y) y = (fs.zip us).lookup y := fun y hy => by
    show ((("self" : Str) :: fs).zip (Value.ref x :: us)).reverse.lookup y = _
    rw [rev_lookup y hnd, List.zip_cons_cons, List.lookup_cons]
    have : (y == ("self" : Str)) = false := by
      have : y ≠ "self" := fun e => T.noself (e ▸ hy)
      simpa using this
    rw [this]
  generalize hsts : body.drop 1 = sts at hst ⊢
  subst hst0
  cases hst with
  | nil =>
    refine wpAny_execs_nil ?_
    exact hq h1 tk1 none ⟨old1, ⟨t1, hx1⟩, rfl⟩
  | cons p1 p2 p3 p4 S =>
    rename_i f fs' sts'
    cases us with
    | nil => cases hus
    | cons u us =>
      have ndf := List.nodup_cons.mp T.nd
      have hfu := (hmf f List.mem_cons_self).trans (show ((f :: fs').zip (u :: us)).lookup f = some u by simp)
      refine wpAny_execs_cons (plainObj_wpAny_Assign_Attribute ?_ (by rfl))
      refine wpAny_Name (wpAny_loadName_local hk (hkind _ _ (hloc f (List.mem_cons_of_mem _ List.mem_cons_self))) hnsL hfu ?_) (T.nodbg f List.mem_cons_self)
      refine wpAny_Name (wpAny_loadName_local hk (hkind _ _ (hloc "self" List.mem_cons_self)) hnsL hself ?_) (by decide)
      refine set_plain X1 (ox := excO C t1) (od := none) ⟨hx1, rfl, rfl, trivial⟩ T.sa ?_
      refine exc_osa X1 hx1 hcl (show refsVE (.ref C :: bm) = true from hbm) rfl (T.noF f List.mem_cons_self) (fun h3 tk3 dx k3 dn dne hx3 hn3 => ?_)
      have X3 : K.In h3 := fun a o e => k3 a o (fun z => by rw [z, hnx] at e; cases e) (X1 a o e)
      have dnone : h1.get? dx = none := Heap.get?_none_of_le dn
      have hLd : s.heap.objs.size ≠ dx := fun z => by
        obtain ⟨o, _, _, ho, _⟩ := hnsL
        rw [z, dnone] at ho
        cases ho
      have few := T.few
      refine stores_old (x := x) (dx := dx) (L := s.heap.objs.size) (m := fun y => ((("self" : Str) :: f :: fs').zip (Value.ref x :: u :: us)).reverse.lookup y) hk rfl hself (hkind _ _ (hloc "self" List.mem_cons_self)) hLd T.sa hcl (show refsVE (.ref C :: bm) = true from hbm) rfl S ndf.2 (fun g hg => T.noF g (List.mem_cons_of_mem _ hg)) (fun g hg => hkind _ _ (hloc g (List.mem_cons_of_mem _ (List.mem_cons_of_mem _ hg)))) (fun g hg => T.nodbg g (List.mem_cons_of_mem _ hg)) us (by simpa using hus)
        (fun y hy => ?_) _ _ [f] t1 X3 (Ns.keep hnsL fun o e => k3 _ o hLx e) hx3 hn3 (Within.cons f u Within.nil) (by simp only [List.length_cons, List.length_nil] at few ⊢; omega) (knone X1 dnone) dne (fun h' tk m1 k hn1 hm1 hw1 => ?_)
      · refine (hmf y (List.mem_cons_of_mem _ hy)).trans ?_
        rw [List.zip_cons_cons, List.lookup_cons]
        have : (y == f) = false := by
          have : y ≠ f := fun e => ndf.1 (e ▸ hy)
          simpa using this
        rw [this]
      · refine hq h' tk (some dx) ⟨fun b o hb e => ?_, ⟨t1, k _ _ (Ne.symm dne) hx3⟩, ?_, dne, m1, hn1, fun y => ?_, fun y hy => ?_⟩
        · have e1 := old1 b o hb e
          exact k b o (fun z => by rw [z, dnone] at e1; cases e1) (k3 b o hb e1)
        · exact Nat.le_of_lt (Nat.lt_of_lt_of_le hnsL.lt dn)
        · rw [hm1 y, List.zip_cons_cons, List.lookup_cons]
          by_cases e : y = f
          · subst e
            rw [lookup_out ndf.1]
            simp
          · have : (y == f) = false := by simpa using e
            rw [this]
            simp only [if_neg e]
            cases (fs'.zip us).lookup y <;> rfl
        · have := hw1 y hy
          simp only [List.mem_append, List.mem_cons, List.not_mem_nil, or_false] at this ⊢
          rcases this with h | h
          · exact .inr h
          · exact .inl h
end
end XN

namespace L2
open PySem PySem.Spec PyProof.Rows XN
theorem zip_lookup_rel : ∀ {fs : List Str} {vs : List V} {us : List Value} (y : Str), Vals vs us → RelO ((fs.zip vs).lookup y) ((fs.zip us).lookup y)
  | [], _, _, _, _ => trivial
  | _ :: _, [], [], _, .nil => trivial
  | f :: fs, v :: vs, u :: us, y, .cons r t => by
    rw [List.zip_cons_cons, List.zip_cons_cons, List.lookup_cons, List.lookup_cons]
    cases h : (y == f) with
    | true => exact r
    | false => exact zip_lookup_rel y t
section
variable {X : Cx} {C fI : Addr} {fs : List Str}
/-- C(e, ..), C an own class of errors that stores its arguments under fs -/
def tMkX (C : Addr) (fs : List Str) (ta : TA) : St → Hp → XK → Prop := fun σ H Q => ta σ H fun vs H1 => vs.length = fs.length ∧ ∀ d, H1 d = none → Q (.ref C) (some d) (upd H1 d (.xd (fs.zip vs)))
theorem pmk_exc {x : Str} {k : Nat} {e : Expr} {es : List Expr} {ta : TA} {p pos : Pos} (T : ExcK X.prog X.K C fI fs) (hfs : fs ≠ []) (gC : X.mg x = some (.ref C)) (hr : Room k X.A) (ha : PA X (e :: es) ta) (hg : Gl X x)
    (hms : X.mg "super" = none) (hdb : (x == ("__debug__" : Str)) = false := by decide)
    (he : starEach (e :: es) X.env = (false, eval e X.env) :: starEach es X.env := by rfl) (hpl : (backTo pos (starEach es X.env)).any (·.1) = false := by rfl) :
    PMk X (.Call (.Name x p) (e :: es) [] pos) (tMkX C fs ta) := by
  intro pins s σ H Q I h
  obtain ⟨nm, q, N, bs, bm, sn, sub, ab, col, dd, k0, k1, k2, k3, k5, hC, hbm⟩ := T.cls
  refine wpAny_Call_Name_kw (ld_glob I hg gC ?_ hdb)
  refine PySem.W.callWith_K (h₀ := X.base) I.ok.mod.kin T.kC (thn (ha.run pos pins s σ H _ I h) fun us s1 hh => ?_) he hpl
  obtain ⟨vs, H1, I1, r1, hl, q1⟩ := hh
  refine ⟨I1.kIn, ?_⟩
  show wpAny _ _ (call (.ref C) us) _ _ _
  have hlim := I1.nolimit
  have KX := I1.kIn
  obtain ⟨hp, g, dr, tk, os⟩ := s1
  have kk : ∀ b o, hp.get? b = some o → ((hp.push (PySem.W.kdv_tup us)).push (PySem.HandSPX.excO C hp.objs.size)).get? b = some o := fun b o e => Heap.get?_push_of_some _ (Heap.get?_push_of_some _ e)
  have hget : ((hp.push (PySem.W.kdv_tup us)).push (PySem.HandSPX.excO C hp.objs.size)).get? (hp.objs.size + 1) = some (PySem.HandSPX.excO C hp.objs.size) := by heap_get
  have hnx : X.K.lookup (hp.objs.size + 1) = none := knone KX (Heap.get?_none_of_le (Nat.le_succ _))
  have hlen : us.length = fs.length := by rw [← hl]; exact (Paired.length r1).symm
  obtain ⟨mb, hb1, hb2⟩ := I1.mod.blt
  refine wpAny_call (PySem.HandSPX.call_own F.excBase_ValueError (fun Y => PySem.HandSPX.refsVE_contains Y bm hbm) (KX _ _ hC) (PySem.W.looks_findIn KX T.iC) (fun self => PySem.W.bind_fn KX self T.tC) (by have := T.few; rw [hlen, sizeLine_eq]; omega) ?_)
  refine exc_init (s := ⟨(hp.push (PySem.W.kdv_tup us)).push (PySem.HandSPX.excO C hp.objs.size), g, dr, tk, os⟩) T (KX.keeps kk) ((I1.mod.glob.keeps I1.bk).keeps kk) ((hb1.keeps I1.bk).keeps kk) (hb2 _ (by decide)) hms (hlim.keeps kk) hget hnx (by have := hr.dp; rw [make_depth]; omega) hlen (fun h' tk' d M => ?_)
  show _ ∧ MkP X pins σ Q (.ref (hp.objs.size + 1)) ⟨h', g, dr, tk', os⟩
  obtain ⟨kp, ⟨t1, hobj⟩, hd⟩ := M
  have kp' : ∀ b o, hp.get? b = some o → h'.get? b = some o := fun b o e => kp b o (Nat.ne_of_lt (Nat.lt_succ_of_lt (Heap.lt_size e))) (kk b o e)
  refine ⟨rfl, ?_⟩
  cases d with
  | none => exact absurd hd hfs
  | some dx =>
    obtain ⟨hdn, hde, m, hns, hm, hw⟩ := hd
    have hdx : hp.objs.size ≤ dx := by
      have z : hp.objs.size + 2 ≤ dx := by
        first
          | (simpa only [Heap.size_push] using hdn)
          | exact hdn
          | (have q := hdn; rw [Heap.size_push, Heap.size_push] at q; exact q)
      omega
    obtain ⟨G', g1, g2⟩ := restrict h' fun b => decide (b ≠ hp.objs.size + 1)
    have gk : ∀ b, b ≠ hp.objs.size + 1 → G'.get? b = h'.get? b := fun b hb => g1 b (decide_eq_true hb)
    have ge : G'.get? (hp.objs.size + 1) = none := g2 _ (by simp)
    have old : ∀ b o, hp.get? b = some o → G'.get? b = some o := fun b o q => (gk b (Nat.ne_of_lt (Nat.lt_succ_of_lt (Heap.lt_size q)))).trans (kp' b o q)
    have ob : ObjOk X.prog X.w (upd H1 dx (.xd (fs.zip vs))) G' dx (.xd (fs.zip vs)) :=
      ⟨_, hns.at (fun o q => (gk dx hde).trans q), fun f => by rw [hm f]; exact zip_lookup_rel f r1⟩
    have J : Inv X pins σ (upd H1 dx (.xd (fs.zip vs))) ⟨G', g, dr, tk', os⟩ := I1.laid (t' := tk') old hdx ob
    refine ⟨hp.objs.size + 1, _, _, ⟨G', g, dr, tk', os⟩, _, .ref C, some dx, rfl, J, fun b o q => ?_, ge, hobj, ⟨rfl, rfl⟩, rfl, rfl, ?_, rfl, I1.bare, raises_own T.exC T.tyC, q1 dx (I1.hok.fresh hdx)⟩
    · by_cases hb : b = hp.objs.size + 1
      · have q' : G'.get? b = some o := q
        rw [hb, ge] at q'
        cases q'
      · exact (gk b hb).symm.trans q
    · rw [upd_ne (Ne.symm hde)]
      exact I1.hok.fresh (Nat.le_succ _)
end
end L2

/-! My layer over the hand layer: calls by bundles, operators of several kinds in one rule, one intro lemma a reading, a stepper. -/
namespace Rn
open PySem PySem.Spec PyProof.Rows L2
abbrev St : Type := L2.St

/-! ### defs by bundles -/
/-- the module's name x stands for a def that keeps sp -/
structure GFn (P : Program) (w : World) (K : PySem.W.Frag) (mg : Str → Option Value) (base : Heap) (x : Str) (k : Nat) (ps : List Str) (sp : Sp) : Prop where
  ex : ∃ f fd, mg x = some (.ref f) ∧ PySem.W.keepIn K (.ref f) = true ∧ Binds K fd ps [] ∧ FnOk P w K mg base (L2.CX P w) k f fd ps sp
section
variable {X : Cx} {k : Nat} {ps : List Str} {sp : Sp} {x : Str} {p pos : Pos} {e : Expr} {es : List Expr} {t : TA} {W : WX}
/-- the i-th def's call: sp's wish with the exceptions that W takes -/
def tG (sp : Sp) (W : WX) (t : TA) : TE := fun σ H Q => t σ H fun vs H1 => sp vs H1 Q fun c d H' => W c d σ H'
theorem pe_g (G : GFn X.prog X.w X.K X.mg X.base x k ps sp) (hr : Room k X.A) (tk : Takes X W) (ha : PA X (e :: es) t) (hg : Gl X x := by rfl) (hdb : (x == ("__debug__" : Str)) = false := by decide)
    (he : starEach (e :: es) X.env = (false, eval e X.env) :: starEach es X.env := by rfl) (hpl : (backTo pos (starEach es X.env)).any (·.1) = false := by rfl) :
    PE X (.Call (.Name x p) (e :: es) [] pos) (tG sp W t) := by
  obtain ⟨f, fd, hm, hk, hb, F⟩ := G.ex
  exact pe_callS F hr hg hm hk hb (fun σ => passAt tk σ) ha hdb he hpl
end

/-! ### operators of several kinds -/
section
variable {X : Cx}
def rAddS : R2 := fun x y H Q => ∃ i j, x = .str i ∧ y = .str j ∧ i.length + j.length ≤ sizeLine ∧ Q (.str (i ++ j)) H
def rAddZ (K : PySem.W.Frag) : R2 := fun x y H Q => (rI0 fun i j => .int (i + j)) x y H Q ∨ (rAddS x y H Q ∨ (rCat x y H Q ∨ rCatA K x y H Q))
theorem op_addZ : OpR X (binaryOp .Add) (rAddZ X.K) := op_add.or (op_add_str.or (op_cat.or op_catA))
def rMulZ (K : PySem.W.Frag) : R2 := fun x y H Q => ((rI CMul fun i j => .int (i * j)) x y H Q ∨ (rI CMulW fun i j => .int (i * j)) x y H Q) ∨ (rRep x y H Q ∨ rRepT K x y H Q)
theorem op_mulZ : OpR X (binaryOp .Mult) (rMulZ X.K) := (op_mul.or op_mulW).or (op_rep.or op_repT)
def rDivZ : R2 := rI CDivW fun i j => .int (i / j)
theorem op_divZ : OpR X (binaryOp .FloorDiv) rDivZ := op_fdivW
def rModZ : R2 := rI (fun _ j => 0 < j) fun i j => .int (i % j)
theorem op_modZ : OpR X (binaryOp .Mod) rModZ := op_mod
def rEqZ (K : PySem.W.Frag) : R2 := fun x y H Q => rEq x y H Q ∨ rEqD K x y H Q
def rNeZ (K : PySem.W.Frag) : R2 := fun x y H Q => rNe x y H Q ∨ rNeD K x y H Q
theorem op_eqZ (hu : X.A.units + 64 < cLine) : OpR X (compareOp .Eq) (rEqZ X.K) := op_eq.or (op_eqD hu)
theorem op_neZ (hu : X.A.units + 64 < cLine) : OpR X (compareOp .NotEq) (rNeZ X.K) := op_ne.or (op_neD hu)
def rInZ (K : PySem.W.Frag) : R2 := fun x y H Q => rIn K false x y H Q ∨ rInD K x y H Q
def rNotInZ (K : PySem.W.Frag) : R2 := fun x y H Q => rIn K true x y H Q ∨ rNotInD K x y H Q
theorem op_inZ (hu : X.A.units + 65 < cLine) : OpR X (compareOp .In) (rInZ X.K) := op_in_seq.or (op_inD hu)
theorem op_notInZ (hu : X.A.units + 65 < cLine) : OpR X (compareOp .NotIn) (rNotInZ X.K) := op_notIn_seq.or (op_notInD hu)
def rSlZ (K : PySem.W.Frag) : V → Option Int → Option Int → Hp → VK → Prop := fun x lo hi H Q => rSlL K x lo hi H Q ∨ (rSlA K x lo hi H Q ∨ rSlS x lo hi H Q)
theorem sl_Z : SlR X (rSlZ X.K) := sl_list.or (sl_tupA.or sl_str)
end
/-! ### intro lemmas: values -/
theorem decV_int (i j : Int) : decide (V.int i = V.int j) = decide (i = j) := by
  by_cases e : i = j
  · subst e; simp
  · have : ¬ V.int i = V.int j := fun q => e (V.int.inj q)
    simp [e]
section
variable {K : PySem.W.Frag} {H : Hp} {Q : VK} {i j : Int} {a b : Addr} {xs ys : List V} {v : V} {z : Str}
theorem zAdd_int (h : Q (.int (i + j)) H) : rAddZ K (.int i) (.int j) H Q := .inl ⟨i, j, rfl, rfl, h⟩
theorem zAdd_str {z y : Str} (hl : z.length + y.length ≤ sizeLine) (h : Q (.str (z ++ y)) H) : rAddZ K (.str z) (.str y) H Q := .inr (.inl ⟨z, y, rfl, rfl, hl, h⟩)
theorem zAdd_lst (ha : H a = some (.lst xs)) (hb : H b = some (.lst ys)) (hl : xs.length + ys.length ≤ sizeLine) (h : ∀ p, H p = none → Q (.ref p) (upd H p (.lst (xs ++ ys)))) : rAddZ K (.ref a) (.ref b) H Q :=
  .inr (.inr (.inl ⟨a, b, xs, ys, rfl, rfl, ha, hb, hl, h⟩))
theorem zAdd_tup (ha : SqT K H a xs) (hb : SqT K H b ys) (hl : xs.length + ys.length ≤ sizeLine) (h0 : xs = [] → Q (.ref b) H) (h1 : xs ≠ [] → ys = [] → Q (.ref a) H) (h : xs ≠ [] → ys ≠ [] → ∀ p, H p = none → Q (.ref p) (upd H p (.tup (xs ++ ys)))) : rAddZ K (.ref a) (.ref b) H Q :=
  .inr (.inr (.inr ⟨a, b, xs, ys, rfl, rfl, ha, hb, hl, h0, h1, h⟩))
theorem zSub_int (h : Q (.int (i - j)) H) : rI0 (fun i j => V.int (i - j)) (.int i) (.int j) H Q := ⟨i, j, rfl, rfl, h⟩
theorem zMul_int (hc : CMul i j) (h : Q (.int (i * j)) H) : rMulZ K (.int i) (.int j) H Q := .inl (.inl ⟨i, j, rfl, rfl, hc, h⟩)
theorem zMul_wide (hc : CMulW i j) (h : Q (.int (i * j)) H) : rMulZ K (.int i) (.int j) H Q := .inl (.inr ⟨i, j, rfl, rfl, hc, h⟩)
theorem zMul_lst (ha : H a = some (.lst xs)) (h0 : -(2 ^ 63) ≤ j) (h1 : j < 2 ^ 63) (hl : xs.length * j.toNat ≤ sizeLine) (h : ∀ p, H p = none → Q (.ref p) (upd H p (.lst (List.replicate j.toNat xs).flatten))) : rMulZ K (.ref a) (.int j) H Q :=
  .inr (.inl ⟨a, j, xs, rfl, rfl, ha, h0, h1, hl, h⟩)
theorem zDiv (hc : CDivW i j) (h : Q (.int (i / j)) H) : rDivZ (.int i) (.int j) H Q := ⟨i, j, rfl, rfl, hc, h⟩
theorem zMod (hc : 0 < j) (h : Q (.int (i % j)) H) : rModZ (.int i) (.int j) H Q := ⟨i, j, rfl, rfl, hc, h⟩
theorem zPow (hc : CPow i j) (h : Q (.int (i ^ j.toNat)) H) : rI CPow (fun i j => V.int (i ^ j.toNat)) (.int i) (.int j) H Q := ⟨i, j, rfl, rfl, hc, h⟩
theorem zCmp {g : Int → Int → V} (h : Q (g i j) H) : rI0 g (.int i) (.int j) H Q := ⟨i, j, rfl, rfl, h⟩
theorem zEq {x y : V} (hs : scal x y = true) (h : Q (.bl (decide (x = y))) H) : rEqZ K x y H Q := .inl ⟨hs, h⟩
theorem zNe {x y : V} (hs : scal x y = true) (h : Q (.bl (!decide (x = y))) H) : rNeZ K x y H Q := .inl ⟨hs, h⟩
theorem zEq_int (h : Q (.bl (decide (i = j))) H) : rEqZ K (.int i) (.int j) H Q := .inl ⟨rfl, by rw [decV_int]; exact h⟩
theorem zNe_int (h : Q (.bl (!decide (i = j))) H) : rNeZ K (.int i) (.int j) H Q := .inl ⟨rfl, by rw [decV_int]; exact h⟩
theorem zEq_D {x y : V} {d e : PyData} (hd : Dp K H x d) (he : Dp K H y e) (s1 : SeqAt.shaped d = true) (s2 : SeqAt.shaped e = true) (h : Q (.bl (PyData.eqv d e)) H) : rEqZ K x y H Q := .inr ⟨d, e, hd, he, s1, s2, h⟩
theorem zNe_D {x y : V} {d e : PyData} (hd : Dp K H x d) (he : Dp K H y e) (s1 : SeqAt.shaped d = true) (s2 : SeqAt.shaped e = true) (h : Q (.bl (!PyData.eqv d e)) H) : rNeZ K x y H Q := .inr ⟨d, e, hd, he, s1, s2, h⟩
theorem zNeg (h : Q (.int (-i)) H) : rU (fun i => V.int (-i)) (.int i) H Q := ⟨i, rfl, h⟩
theorem zIx_lst (hs : SqL K H a xs) (hv : atI xs i = some v) (h : Q v H) : rIx K (.ref a) (.int i) H Q := .inl ⟨a, xs, i, v, rfl, rfl, hs, hv, h⟩
theorem zIx_tup (hs : SqT K H a xs) (hv : atI xs i = some v) (h : Q v H) : rIx K (.ref a) (.int i) H Q := .inr (.inl ⟨a, xs, i, v, rfl, rfl, hs, hv, h⟩)
theorem zIx_str {c : Nat} (hl : z.length ≤ sizeLine) (hv : atI z.cps.toList i = some c) (h : Q (.str ⟨#[c]⟩) H) : rIx K (.str z) (.int i) H Q := .inr (.inr ⟨z, i, c, rfl, rfl, hl, hv, h⟩)
theorem zSl_lst {lo hi : Option Int} (hs : SqL K H a xs) (h : ∀ p, H p = none → Q (.ref p) (upd H p (.lst (cutV xs lo hi)))) : rSlZ K (.ref a) lo hi H Q := .inl ⟨a, xs, rfl, hs, h⟩
theorem zSl_str {lo hi : Option Int} (hl : z.length ≤ sizeLine) (h : Q (.str (cutS z lo hi)) H) : rSlZ K (.str z) lo hi H Q := .inr (.inr ⟨z, rfl, hl, h⟩)
theorem zIn_flat {x : V} (hs : SqL K H a xs ∨ SqT K H a xs) (hx : flatV x = true) (hf : xs.all flatV = true) (h : Q (.bl (inV x xs)) H) : rInZ K x (.ref a) H Q := .inl ⟨a, xs, rfl, hs, hx, hf, h⟩
theorem zNotIn_flat {x : V} (hs : SqL K H a xs ∨ SqT K H a xs) (hx : flatV x = true) (hf : xs.all flatV = true) (h : Q (.bl (!inV x xs)) H) : rNotInZ K x (.ref a) H Q := .inl ⟨a, xs, rfl, hs, hx, hf, h⟩
theorem zIn_D {x : V} {d : PyData} {ds : List PyData} (hd : Dp K H x d) (he : Dp K H (.ref a) (.list ds)) (s1 : SeqAt.shaped d = true) (s2 : SeqAt.shaped (.list ds) = true) (h : Q (.bl (ds.any fun z => PyData.eqv z d)) H) : rInZ K x (.ref a) H Q := .inr ⟨d, ds, hd, he, s1, s2, h⟩
end

/-! ### intro lemmas: the combinators -/
section
variable {K : PySem.W.Frag} {σ : St} {H : Hp} {Q : VK} {D : Ends} {ta tb tc te : TE} {t u : TS} {c c' : TT} {g : TG} {r r' : R2} {i : Nat} {v : V} {T : TA} {QA : List V → Hp → Prop} {QT : Bool → Hp → Prop} {wi : TI} {id : String}
theorem rd_var (h1 : σ[i]? = some (some v)) (h : Q v H) : tVar i σ H Q := ⟨v, h1, h⟩
theorem rd_c (h : Q v H) : tC v σ H Q := h
theorem rd_op (h : ta σ H fun x H1 => tb σ H1 fun y H2 => r x y H2 Q) : tOp r ta tb σ H Q := h
theorem rd_un {rr : V → Hp → VK → Prop} (h : ta σ H fun x H1 => rr x H1 Q) : tUn rr ta σ H Q := h
theorem rd_nil (h : QA [] H) : tNil σ H QA := h
theorem rd_cons (h : ta σ H fun x H1 => T σ H1 fun xs H2 => QA (x :: xs) H2) : tCons ta T σ H QA := h
theorem rd_cb {rc : List V → Hp → VK → Prop} (h : T σ H fun vs H1 => rc vs H1 Q) : tCB rc T σ H Q := h
theorem rd_g {sp : Sp} {W : WX} (h : T σ H fun vs H1 => sp vs H1 Q fun c d H' => W c d σ H') : tG sp W T σ H Q := h
/-- a new object, then Q -/
def kNew (o : HO) (Q : VK) : Hp → Prop := fun H1 => ∀ p, H1 p = none → Q (.ref p) (upd H1 p o)
theorem rd_tup (h : T σ H fun xs H1 => xs.length ≤ sizeLine ∧ kNew (.tup xs) Q H1) : tTup T σ H Q := h
theorem rd_lst (h : T σ H fun xs H1 => xs.length ≤ sizeLine ∧ kNew (.lst xs) Q H1) : tLst T σ H Q := h
theorem rd_sl {rs : V → Option Int → Option Int → Hp → VK → Prop} {tl th : TO} (h : te σ H fun x H1 => tl σ H1 fun l H2 => th σ H2 fun u H3 => rs x l u H3 Q) : tSl rs te tl th σ H Q := h
theorem rd_part {QO : Option Int → Hp → Prop} (h : te σ H fun x H1 => ∃ i, x = .int i ∧ QO (some i) H1) : tPart te σ H QO := h
theorem rd_nopart {QO : Option Int → Hp → Prop} (h : QO none H) : tNoPart σ H QO := h
theorem rd_bm {Ty : String} {rm : V → List V → Hp → VK → Prop} (h : te σ H fun x H1 => tyV K Ty x H1 ∧ T σ H1 fun xs H2 => rm x xs H2 Q) : tBM K Ty rm te T σ H Q := h
theorem rd_bm0 {Ty : String} {rm : V → List V → Hp → VK → Prop} (h : te σ H fun x H1 => tyV K Ty x H1 ∧ rm x [] H1 Q) : tBM0 K Ty rm te σ H Q := h
theorem rd_ifE (h : c σ H fun b H1 => if b = true then ta σ H1 Q else tb σ H1 Q) : tIf c ta tb σ H Q := h
theorem rd_andV (h : ta σ H fun x H1 => ∃ c, x = .bl c ∧ if c = true then tb σ H1 Q else Q (.bl false) H1) : tAndV ta tb σ H Q := h
theorem rd_orV (h : ta σ H fun x H1 => ∃ c, x = .bl c ∧ if c = true then Q (.bl true) H1 else tb σ H1 Q) : tOrV ta tb σ H Q := h
theorem rd_notV (h : ta σ H fun x H1 => ∃ c, x = .bl c ∧ Q (.bl (!c)) H1) : tNotV ta σ H Q := h
theorem rd_test (h : te σ H fun x H1 => ∃ k, x = .bl k ∧ QT k H1) : tTest te σ H QT := h
theorem rd_tB (h : te σ H fun x H1 => ∃ k, x = .bl k ∧ QT k H1) : tB te σ H QT := h
theorem rd_and (h : c σ H fun b H1 => if b = true then c' σ H1 QT else QT false H1) : tAnd c c' σ H QT := h
theorem rd_or (h : c σ H fun b H1 => if b = true then QT true H1 else c' σ H1 QT) : tOr c c' σ H QT := h
theorem rd_not (h : c σ H fun b H1 => QT (!b) H1) : tNot c σ H QT := h
theorem rd_chain (h : ta σ H fun x H1 => tb σ H1 fun y H2 => r x y H2 fun z H3 => ∃ k, z = .bl k ∧ (if k = true then tc σ H3 fun w' H4 => r' y w' H4 Q else Q (.bl false) H3)) : tChain r r' ta tb tc σ H Q := h
theorem rd_bl {b : Bool} {P : Bool → Prop} (h : P b) : ∃ k, V.bl b = .bl k ∧ P k := ⟨b, rfl, h⟩
theorem rd_intE {n : Int} {P : Int → Prop} (h : P n) : ∃ k, V.int n = .int k ∧ P k := ⟨n, rfl, h⟩
theorem rd_seq (h : t { D with nx := u D } σ H) : tSeq t u D σ H := h
theorem rd_asg (h : te σ H fun x H1 => g x σ H1 D.nx) : tAsg te g D σ H := h
theorem rd_gname {QG : St → Hp → Prop} (h : QG (σ.set i (some v)) H) : gName i v σ H QG := h
theorem rd_gsub {to ti : TE} {ts : TSet} {QG : St → Hp → Prop} (h : to σ H fun o H1 => ti σ H1 fun i H2 => ts o i v H2 fun H3 => QG σ H3) : gSub to ti ts v σ H QG := h
theorem rd_drop (h : te σ H fun _ H1 => D.nx σ H1) : tDrop te D σ H := h
theorem rd_ret (h : te σ H D.rt) : tRet te D σ H := h
theorem rd_retN (h : D.rt .non H) : tRetN D σ H := h
theorem rd_next (h : D.nx σ H) : tNext D σ H := h
theorem rd_brk (h : D.bk σ H) : tBreak D σ H := h
theorem rd_ct (h : D.ct σ H) : tCont D σ H := h
theorem rd_ifS (h : c σ H fun b H1 => if b = true then t D σ H1 else u D σ H1) : tIfS c t u D σ H := h
theorem rd_aug {ti : TIp} {x : V} (h1 : σ[i]? = some (some x)) (h : te σ H fun y H1 => ti x y H1 fun z H2 => D.nx (σ.set i (some z)) H2) : tAug i te ti D σ H := ⟨x, h1, h⟩
theorem rd_fld {f : Str} (h : te σ H fun x H1 => ∃ a C dx fs v, x = .ref a ∧ H1 a = some (.ins C dx fs) ∧ Cls K C ∧ NoAttr K C f ∧ fs.lookup f = some v ∧ Q v H1) : tFld K te f σ H Q := h
theorem rd_yes (h : QT true H) : tYes σ H QT := h
theorem rd_sfld {f : Str} {tv : TE} (h : tv σ H fun y H1 => te σ H1 fun x H2 => ∃ a C dx fs, x = .ref a ∧ H2 a = some (.ins C dx fs) ∧ Cls K C ∧ NoAttr K C f ∧ fs.length < 1000 ∧ D.nx σ (upd H2 a (.ins C dx (putF f y fs)))) : sFld K te tv f D σ H := h
theorem iteB {A B : Prop} {b : Bool} (h1 : b = true → A) (h2 : b = false → B) : if b = true then A else B := by
  cases b with
  | true => exact iteT (h1 rfl)
  | false => exact iteF (h2 rfl)
theorem iteD {p : Prop} {_ : Decidable p} {A B : Prop} (h1 : p → A) (h2 : ¬ p → B) : if decide p = true then A else B := by
  by_cases h : p
  · rw [decide_eq_true h]; exact iteT (h1 h)
  · rw [decide_eq_false h]; exact iteF (h2 h)
theorem iteND {p : Prop} {_ : Decidable p} {A B : Prop} (h1 : ¬ p → A) (h2 : p → B) : if (!decide p) = true then A else B := by
  by_cases h : p
  · rw [decide_eq_true h]; exact iteF (h2 h)
  · rw [decide_eq_false h]; exact iteT (h1 h)
end
end Rn

/-! data that stays: a part F of the heap H that nothing changes; typed data in it; what a step leaves (Gr). -/
namespace Rn
open PySem PySem.Spec PyProof.Rows L2
open PySem.W (Datum Tup)

/-! ### parts of a heap -/
def Xt (F H : Hp) : Prop := ∀ b o, F b = some o → H b = some o
theorem Xt.refl (F : Hp) : Xt F F := fun _ _ h => h
theorem Xt.trans {F G H : Hp} (a : Xt F G) (b : Xt G H) : Xt F H := fun c o h => b c o (a c o h)
theorem Xt.upd {F H : Hp} {p : Addr} {o : HO} (a : Xt F H) (n : F p = none) : Xt F (L2.upd H p o) := fun b u h => by
  by_cases e : b = p
  · subst e; rw [n] at h; cases h
  · rw [upd_ne e]; exact a b u h
theorem Xt.updF {F H : Hp} {p : Addr} {o : HO} (a : Xt F H) (h : H p = some o) : Xt (L2.upd F p o) H := fun b u q => by
  by_cases e : b = p
  · subst e; rw [upd_same] at q; rw [← q]; exact h
  · rw [upd_ne e] at q; exact a b u q
/-- from (F, H) to (F', H'): F' grows of F by what was not there, H' is H but at S -/
structure Gr (S : List Addr) (F H F' H' : Hp) : Prop where
  ff : Xt F F'
  fh : Xt F' H'
  hh : ∀ b o, b ∉ S → H b = some o → H' b = some o
  th : ∀ b, H b ≠ none → H' b ≠ none
  nw : ∀ b, H b ≠ none → F b = none → F' b = none
section
variable {S S' : List Addr} {F H F' H' F'' H'' : Hp} {p : Addr} {o : HO}
theorem Gr.refl (e : Xt F H) : Gr S F H F H := ⟨.refl _, e, fun _ _ _ h => h, fun _ h => h, fun _ _ h => h⟩
theorem Gr.trans (a : Gr S F H F' H') (b : Gr S' F' H' F'' H'') (s : ∀ p ∈ S', p ∈ S ∨ H p = none) : Gr S F H F'' H'' :=
  ⟨a.ff.trans b.ff, b.fh, fun c o n h => b.hh c o (fun m => by
    rcases s c m with k | k
    · exact n k
    · rw [k] at h; cases h) (a.hh c o n h), fun c h => b.th c (a.th c h), fun c h f => b.nw c (a.th c h) (a.nw c h f)⟩
theorem Gr.tr0 (a : Gr S F H F' H') (b : Gr [] F' H' F'' H'') : Gr S F H F'' H'' := a.trans b fun _ h => nomatch h
theorem Gr.weak (a : Gr [] F H F' H') : Gr S F H F' H' := ⟨a.ff, a.fh, fun b o _ h => a.hh b o (fun m => nomatch m) h, a.th, a.nw⟩
/-- a new object, free to change -/
theorem Gr.newM (e : Xt F H) (n : H p = none) : Gr [] F H F (L2.upd H p o) := by
  have nf : F p = none := by
    cases q : F p with
    | none => rfl
    | some u => rw [e p u q] at n; cases n
  refine ⟨.refl _, e.upd nf, fun b u _ h => ?_, fun b h => ?_, fun _ _ h => h⟩
  · rw [upd_ne (ne_of_none h n)]; exact h
  · intro z
    by_cases q : b = p
    · subst q; exact h n
    · rw [upd_ne q] at z; exact h z
/-- a new object that stays -/
theorem Gr.newF (e : Xt F H) (n : H p = none) : Gr [] F H (L2.upd F p o) (L2.upd H p o) := by
  have g := Gr.newM (o := o) e n
  refine ⟨fun b u h => ?_, Xt.updF g.fh upd_same, g.hh, g.th, fun b h f => ?_⟩
  · have : b ≠ p := fun z => by subst z; rw [e b u h] at n; cases n
    rw [upd_ne this]; exact h
  · have : b ≠ p := fun z => by subst z; exact h n
    rw [upd_ne this]; exact f
/-- p changes -/
theorem Gr.chg (e : Xt F H) (n : F p = none) (h : H p ≠ none) : Gr [p] F H F (L2.upd H p o) := by
  refine ⟨.refl _, e.upd n, fun b u m q => ?_, fun b q z => ?_, fun _ _ h => h⟩
  · rw [upd_ne (fun z => m (by simp [z]))]; exact q
  · by_cases k : b = p
    · subst k; rw [upd_same] at z; cases z
    · rw [upd_ne k] at z; exact q z
/-- p stays from here on -/
theorem Gr.frz (e : Xt F H) (n : F p = none) (h : H p = some o) (g : Gr S F'' H'' F H) (k : H'' p = none) : Gr S F'' H'' (L2.upd F p o) H := by
  refine ⟨fun b u q => ?_, e.updF h, g.hh, g.th, fun b q f => ?_⟩
  · have : b ≠ p := fun z => by subst z; rw [g.ff b u q] at n; cases n
    rw [upd_ne this]; exact g.ff b u q
  · have : b ≠ p := fun z => by subst z; exact q k
    rw [upd_ne this]; exact g.nw b q f
theorem Xt.frz (e : Xt F H) (n : F p = none) : Xt F (L2.upd F p o) := fun b u q => by
  have : b ≠ p := fun z => by subst z; rw [q] at n; cases n
  rw [upd_ne this]; exact q
theorem Gr.at_ (g : Gr S F H F' H') (h : H p = some o) (n : p ∉ S) : H' p = some o := g.hh p o n h
theorem Gr.at0 (g : Gr [] F H F' H') (h : H p = some o) : H' p = some o := g.hh p o (fun m => nomatch m) h
theorem Gr.no (g : Gr S F H F' H') (h : F p = none) (q : H p ≠ none) : F' p = none := g.nw p q h
theorem Gr.old (g : Gr S F H F' H') (n : H' p = none) : H p = none := by
  cases q : H p with
  | none => rfl
  | some u => exact absurd n (g.th p (by rw [q]; exact nofun))
end

/-- a step that leaves the part that stays as it is -/
structure Gc (S : List Addr) (F H H' : Hp) : Prop where
  gr : Gr S F H F H'
theorem Gc.fh {S : List Addr} {F H H' : Hp} (g : Gc S F H H') : Xt F H' := g.gr.fh
theorem Gc.old {S : List Addr} {F H H' : Hp} {p : Addr} (g : Gc S F H H') (n : H' p = none) : H p = none := g.gr.old n
theorem Gc.at0 {F H H' : Hp} {p : Addr} {o : HO} (g : Gc [] F H H') (h : H p = some o) : H' p = some o := g.gr.at0 h
theorem Gc.th {S : List Addr} {F H H' : Hp} (g : Gc S F H H') : ∀ b, H b ≠ none → H' b ≠ none := g.gr.th
/-! ### typed data -/
section
variable {K : PySem.W.Frag} {F G H : Hp} {a : Addr} {v : V} {vs ws : List V}
theorem rd_ext (e : Xt F H) {u : HO} (h : Rd F a u) : Rd H a u := by
  rcases h with h | ⟨o, h⟩
  · exact .inl (e _ _ h)
  · exact .inr ⟨o, e _ _ h⟩
theorem sqL_ext (e : Xt F H) (h : SqL K F a vs) : SqL K H a vs := by
  rcases h with h | h
  · exact .inl (rd_ext e h)
  · exact .inr h
theorem sqT_ext (e : Xt F H) (h : SqT K F a vs) : SqT K H a vs := by
  rcases h with h | h
  · exact .inl (rd_ext e h)
  · exact .inr h
mutual
theorem dp_ext (e : Xt F H) : ∀ {d : PyData} {v : V}, Dp K F v d → Dp K H v d
  | .none, _, h => by cases h; exact .non
  | .bool b, _, h => by cases h; exact .bl b
  | .int i, _, h => by cases h; exact .int i
  | .str x, _, h => by cases h; exact .str x
  | .list ds, _, h => by
    cases h with
    | lst h1 h2 => exact .lst (sqL_ext e h1) (dpAll_ext e h2)
  | .tuple ds, _, h => by
    cases h with
    | tup h1 h2 => exact .tup (sqT_ext e h1) (dpAll_ext e h2)
  | .dict _, _, h => by cases h
theorem dpAll_ext (e : Xt F H) : ∀ {ds : List PyData} {vs : List V}, DpAll K F vs ds → DpAll K H vs ds
  | [], _, h => by cases h; exact .nil
  | d :: ds, _, h => by
    cases h with
    | cons h1 h2 => exact .cons (dp_ext e h1) (dpAll_ext e h2)
end
end
/-- in F, v is x -/
def Rp (K : PySem.W.Frag) (F : Hp) (v : V) {α : Type} [DecidableEq α] [Datum α] (x : α) : Prop := Dp K F v (Datum.toD x)
/-- item by item -/
def RpA (K : PySem.W.Frag) (F : Hp) (vs : List V) {α : Type} [DecidableEq α] [Datum α] (xs : List α) : Prop := DpAll K F vs (xs.map Datum.toD)
section
variable {K : PySem.W.Frag} {F G H : Hp} {a : Addr} {v : V} {vs ws : List V} {α β : Type} [DecidableEq α] [Datum α] [DecidableEq β] [Datum β] {x : α} {y : β} {xs ys : List α}
theorem Rp.ext {v : V} {α : Type} [DecidableEq α] [Datum α] {x : α} (h : Rp K F v x) (e : Xt F H) : Rp K H v x := dp_ext e h
theorem RpA.ext {vs : List V} {α : Type} [DecidableEq α] [Datum α] {xs : List α} (h : RpA K F vs xs) (e : Xt F H) : RpA K H vs xs := dpAll_ext e h
theorem rp_int (i : Int) : Rp K F (.int i) i := Dp.int i
theorem rp_bl (b : Bool) : Rp K F (.bl b) b := Dp.bl b
theorem rp_str (z : Str) : Rp K F (.str z) z := Dp.str z
theorem rp_non : Rp K F .non () := Dp.non
theorem Rp.int {v : V} {i : Int} (h : Rp K F v i) : v = .int i := by cases h; rfl
theorem Rp.bl {v : V} {i : Bool} (h : Rp K F v i) : v = .bl i := by cases h; rfl
theorem Rp.str {v : V} {i : Str} (h : Rp K F v i) : v = .str i := by cases h; rfl
theorem RpA.nil : RpA K F [] ([] : List α) := DpAll.nil
theorem RpA.cons (h : Rp K F v x) (t : RpA K F vs xs) : RpA K F (v :: vs) (x :: xs) := DpAll.cons h t
theorem RpA.un {vs : List V} {x : α} {xs : List α} (h : RpA K F vs (x :: xs)) : ∃ v ws, vs = v :: ws ∧ Rp K F v x ∧ RpA K F ws xs := by cases h with | cons a b => exact ⟨_, _, rfl, a, b⟩
theorem RpA.unnil {vs : List V} (h : RpA K F vs ([] : List α)) : vs = [] := by cases h; rfl
theorem rp_lst (hs : SqL K F a vs) (h : RpA K F vs xs) : Rp K F (.ref a) xs := Dp.lst hs h
theorem rp_tup (hs : SqT K F a vs) (h : RpA K F vs xs) : Rp K F (.ref a) (Tup.mk xs) := Dp.tup hs h
theorem rp_pair {v w : V} (hs : SqT K F a [v, w]) (h : Rp K F v x) (k : Rp K F w y) : Rp K F (.ref a) (x, y) := Dp.tup hs (.cons h (.cons k .nil))
theorem Rp.lst {v : V} {xs : List α} (h : Rp K F v xs) : ∃ a vs, v = .ref a ∧ SqL K F a vs ∧ RpA K F vs xs := by
  have h' : Dp K F v (.list (xs.map Datum.toD)) := h
  cases h' with
  | lst a b => exact ⟨_, _, rfl, a, b⟩
theorem Rp.tup {v : V} {xs : List α} (h : Rp K F v (Tup.mk xs)) : ∃ a vs, v = .ref a ∧ SqT K F a vs ∧ RpA K F vs xs := by
  have h' : Dp K F v (.tuple (xs.map Datum.toD)) := h
  cases h' with
  | tup a b => exact ⟨_, _, rfl, a, b⟩
theorem Rp.pair {v : V} {x : α} {y : β} (h : Rp K F v (x, y)) : ∃ a u w, v = .ref a ∧ SqT K F a [u, w] ∧ Rp K F u x ∧ Rp K F w y := by
  have h' : Dp K F v (.tuple [Datum.toD x, Datum.toD y]) := h
  cases h' with
  | tup a b =>
    cases b with
    | cons h1 h2 =>
      cases h2 with
      | cons h2 h3 =>
        cases h3
        exact ⟨_, _, _, rfl, a, h1, h2⟩
theorem RpA.length : ∀ {vs : List V} {xs : List α}, RpA K F vs xs → vs.length = xs.length
  | [], [], _ => rfl
  | [], _ :: _, h => by obtain ⟨_, _, e, _⟩ := h.un; cases e
  | _ :: _, [], h => by have := h.unnil; cases this
  | v :: vs, x :: xs, h => by
    obtain ⟨_, _, e, _, t⟩ := h.un
    cases e
    rw [List.length_cons, List.length_cons, RpA.length t]
theorem RpA.at_ : ∀ {vs : List V} {xs : List α}, RpA K F vs xs → ∀ {i : Nat} {x : α}, xs[i]? = some x → ∃ v, vs[i]? = some v ∧ Rp K F v x
  | vs, [], h, i, x, e => by simp at e
  | vs, y :: ys, h, i, x, e => by
    obtain ⟨v, ws, rfl, hv, t⟩ := h.un
    cases i with
    | zero => simp at e; subst e; exact ⟨v, rfl, hv⟩
    | succ i => simp at e; obtain ⟨u, q, r⟩ := RpA.at_ t e; exact ⟨u, by simpa using q, r⟩
theorem RpA.at' {vs : List V} {xs : List α} (h : RpA K F vs xs) {i : Nat} {v : V} (e : vs[i]? = some v) : ∃ x, xs[i]? = some x ∧ Rp K F v x := by
  have hi : i < xs.length := by rw [← h.length]; exact (List.getElem?_eq_some_iff.mp e).1
  obtain ⟨u, q, r⟩ := h.at_ (List.getElem?_eq_getElem hi)
  rw [e] at q; cases q
  exact ⟨xs[i], List.getElem?_eq_getElem hi, r⟩
theorem RpA.append : ∀ {vs ws : List V} {xs ys : List α}, RpA K F vs xs → RpA K F ws ys → RpA K F (vs ++ ws) (xs ++ ys)
  | vs, ws, [], ys, h, k => by rw [h.unnil]; exact k
  | vs, ws, x :: xs, ys, h, k => by
    obtain ⟨v, us, rfl, hv, t⟩ := h.un
    exact RpA.cons hv (RpA.append t k)
theorem RpA.snoc (h : RpA K F vs xs) (k : Rp K F v x) : RpA K F (vs ++ [v]) (xs ++ [x]) := h.append (RpA.cons k RpA.nil)
theorem RpA.take : ∀ (n : Nat) {vs : List V} {xs : List α}, RpA K F vs xs → RpA K F (vs.take n) (xs.take n)
  | 0, _, _, _ => .nil
  | n + 1, vs, [], h => by rw [h.unnil]; exact .nil
  | n + 1, vs, x :: xs, h => by
    obtain ⟨v, us, rfl, hv, t⟩ := h.un
    rw [List.take_succ_cons, List.take_succ_cons]
    exact RpA.cons hv (RpA.take n t)
theorem RpA.drop : ∀ (n : Nat) {vs : List V} {xs : List α}, RpA K F vs xs → RpA K F (vs.drop n) (xs.drop n)
  | 0, _, _, h => h
  | n + 1, vs, [], h => by rw [h.unnil]; exact .nil
  | n + 1, vs, x :: xs, h => by
    obtain ⟨v, us, rfl, hv, t⟩ := h.un
    rw [List.drop_succ_cons, List.drop_succ_cons]
    exact RpA.drop n t
theorem RpA.set : ∀ (n : Nat) {vs : List V} {xs : List α} {v : V} {x : α}, RpA K F vs xs → Rp K F v x → RpA K F (vs.set n v) (xs.set n x)
  | n, vs, [], v, x, h, k => by rw [h.unnil]; exact .nil
  | 0, vs, x :: xs, v, y, h, k => by
    obtain ⟨u, us, rfl, hv, t⟩ := h.un
    exact RpA.cons k t
  | n + 1, vs, x :: xs, v, y, h, k => by
    obtain ⟨u, us, rfl, hv, t⟩ := h.un
    exact RpA.cons hv (RpA.set n t k)
theorem RpA.ints : ∀ {ns : List Int}, RpA K F (ns.map V.int) ns
  | [] => .nil
  | n :: ns => RpA.cons (rp_int n) RpA.ints
theorem RpA.unints : ∀ {vs : List V} {ns : List Int}, RpA K F vs ns → vs = ns.map V.int
  | vs, [], h => h.unnil
  | vs, n :: ns, h => by
    obtain ⟨v, us, rfl, hv, t⟩ := h.un
    rw [hv.int, RpA.unints t]; rfl
theorem Rp.ints {v : V} {ns : List Int} (h : Rp K F v ns) : ∃ a, v = .ref a ∧ SqL K F a (ns.map V.int) := by
  obtain ⟨a, vs, rfl, hs, t⟩ := h.lst
  exact ⟨a, rfl, by rw [← t.unints]; exact hs⟩
theorem rp_ints {ns : List Int} (h : SqL K F a (ns.map V.int)) : Rp K F (.ref a) ns := rp_lst h RpA.ints
theorem RpA.map {γ : Type} {g : α → V} {f : γ → α} : ∀ {l : List γ} , (∀ z ∈ l, Rp K F (g (f z)) (f z)) → RpA K F (l.map fun z => g (f z)) (l.map f)
  | [], _ => .nil
  | z :: l, h => RpA.cons (h z (by simp)) (RpA.map fun y hy => h y (by simp [hy]))
theorem rp_toD {v : V} {x : α} (h : Rp K F v x) : Dp K F v (Datum.toD x) := h
end

/-! ### == and in, of plain data -/
section
variable {X : Cx}
def rEqT (K : PySem.W.Frag) : R2 := fun x y H Q => ∃ d e, Dp K H x d ∧ Dp K H y e ∧ d.plain = true ∧ e.plain = true ∧ d.depth ≤ 64 ∧ Q (.bl (PyData.eqv d e)) H
def rNeT (K : PySem.W.Frag) : R2 := fun x y H Q => ∃ d e, Dp K H x d ∧ Dp K H y e ∧ d.plain = true ∧ e.plain = true ∧ d.depth ≤ 64 ∧ Q (.bl (!PyData.eqv d e)) H
theorem op_eqT (hu : X.A.units + 64 < cLine) : OpR X (compareOp .Eq) (rEqT X.K) := by
  intro pins s σ H x y v u Q I rx ry h
  obtain ⟨d, e, hd, he, sd, se, hl, q⟩ := h
  obtain ⟨as, r1⟩ := Dp.reads I d x v hd rx
  obtain ⟨bs, r2⟩ := Dp.reads I e y u he ry
  exact PySem.SeqAt.eq_plain r1 r2 sd se (by have := Nat.min_le_left d.depth e.depth; omega) ⟨.bl _, H, I, rfl, q⟩
theorem op_neT (hu : X.A.units + 64 < cLine) : OpR X (compareOp .NotEq) (rNeT X.K) := by
  intro pins s σ H x y v u Q I rx ry h
  obtain ⟨d, e, hd, he, sd, se, hl, q⟩ := h
  obtain ⟨as, r1⟩ := Dp.reads I d x v hd rx
  obtain ⟨bs, r2⟩ := Dp.reads I e y u he ry
  exact PySem.SeqAt.ne_plain r1 r2 sd se (by have := Nat.min_le_left d.depth e.depth; omega) ⟨.bl _, H, I, rfl, q⟩
def rInT (K : PySem.W.Frag) : R2 := fun x y H Q => ∃ d ds, Dp K H x d ∧ (Dp K H y (.list ds) ∨ Dp K H y (.tuple ds)) ∧ d.plain = true ∧ PyData.plainAll ds = true ∧ PyData.depthAll ds ≤ 64 ∧ Q (.bl (ds.any fun z => PyData.eqv z d)) H
def rNotInT (K : PySem.W.Frag) : R2 := fun x y H Q => ∃ d ds, Dp K H x d ∧ (Dp K H y (.list ds) ∨ Dp K H y (.tuple ds)) ∧ d.plain = true ∧ PyData.plainAll ds = true ∧ PyData.depthAll ds ≤ 64 ∧ Q (.bl (!ds.any fun z => PyData.eqv z d)) H
theorem op_inT (hu : X.A.units + 65 < cLine) : OpR X (compareOp .In) (rInT X.K) := by
  intro pins s σ H x y v u Q I rx ry h
  obtain ⟨d, ds, hd, he, sd, se, hl, q⟩ := h
  obtain ⟨as, r1⟩ := Dp.reads I d x v hd rx
  have hm := Nat.min_le_left (PyData.depthAll ds) d.depth
  rcases he with he | he
  · obtain ⟨bs, r2⟩ := Dp.reads I _ y u he ry
    exact PySem.SeqAt.in_list_data r2 r1 se sd (by omega) ⟨.bl _, H, I, rfl, q⟩
  · obtain ⟨bs, r2⟩ := Dp.reads I _ y u he ry
    exact PySem.SeqAt.in_tuple_data r2 r1 se sd (by omega) ⟨.bl _, H, I, rfl, q⟩
theorem op_notInT (hu : X.A.units + 65 < cLine) : OpR X (compareOp .NotIn) (rNotInT X.K) := by
  intro pins s σ H x y v u Q I rx ry h
  obtain ⟨d, ds, hd, he, sd, se, hl, q⟩ := h
  obtain ⟨as, r1⟩ := Dp.reads I d x v hd rx
  have hm := Nat.min_le_left (PyData.depthAll ds) d.depth
  rcases he with he | he
  · obtain ⟨bs, r2⟩ := Dp.reads I _ y u he ry
    exact PySem.SeqAt.notIn_list_data r2 r1 se sd (by omega) ⟨.bl _, H, I, rfl, q⟩
  · obtain ⟨bs, r2⟩ := Dp.reads I _ y u he ry
    exact PySem.SeqAt.notIn_tuple_data r2 r1 se sd (by omega) ⟨.bl _, H, I, rfl, q⟩
/-- l.index(z), z in l -/
def rIndexT (K : PySem.W.Frag) : V → List V → Hp → VK → Prop := fun x xs H Q => ∃ (α : Type) (_ : DecidableEq α) (_ : Datum α) (y : V) (l : List α) (z : α), xs = [y] ∧ Rp K H x l ∧ Rp K H y z ∧ z ∈ l ∧ Datum.depth α ≤ 60 ∧ Q (.int (l.idxOf z : Nat)) H
theorem mt_indexT (hu : X.A.units + 65 < cLine) : MtR X "list.index" (rIndexT X.K) := by
  intro pins s σ H x xs v us Q I rx rxs h
  obtain ⟨α, _, _, y, l, z, rfl, hl, hy, hz, hd, q⟩ := h
  obtain ⟨a, vs, rfl, hs, ha⟩ := hl.lst
  cases rx
  cases rxs with
  | cons ry rt =>
    rename_i uy ut
    cases rt
    obtain ⟨its, rv, hl, hlen⟩ := I.list hs
    obtain ⟨bs, r1⟩ := Dp.reads I _ y uy hy ry
    obtain ⟨as, r2⟩ := Dp.readsAll I _ _ its ha rv
    exact PySem.W.index_list_datum (xs := l) (x := z) hl.isList ⟨as, r2⟩ ⟨bs, r1⟩ (by omega) (by rw [← ha.length]; exact rv.length ▸ hlen) hz ⟨.int _, H, I.kept (t' := s.toks + 1) (fun _ _ e => e), ⟨_, rfl⟩, q⟩
end
end Rn

/-! len(o) by an own __len__; a walk over o whose __iter__ gives iter(self.f), f a tuple. -/
namespace Rn
open PySem PySem.Spec PyProof.Rows L2

/-! ### len(o) -/
/-- the class at C has an own __len__ that keeps sp -/
structure LenC (P : Program) (w : World) (K : PySem.W.Frag) (mg : Str → Option Value) (base : Heap) (C : Addr) (k : Nat) (sp : Sp) : Prop where
  ex : ∃ f fd ps, PySem.W.findIn K (.ref C) "__len__" = some (some (.ref f)) ∧ PySem.W.isFn K (.ref f) = true ∧ Binds K fd ps [] ∧ FnOk P w K mg base (L2.CX P w) k f fd ps sp
def rLenO (C : Addr) (sp : Sp) : List V → Hp → VK → Prop := fun vs H Q => ∃ a dx fs, vs = [.ref a] ∧ H a = some (.ins C dx fs) ∧
  sp [.ref a] H (fun v H' => ∃ n : Int, v = .int n ∧ 0 ≤ n ∧ n < 2 ^ 63 ∧ Q (.int n) H') fun _ _ _ => False
section
variable {X : Cx} {C : Addr} {k : Nat} {sp : Sp}
theorem call_lenO (L : LenC X.prog X.w X.K X.mg X.base C k sp) (hr : Room (k + 1) X.A) : CallR X (.builtin "len") (rLenO C sp) := by
  obtain ⟨f, fd, ps, hs, hf, bN, FN⟩ := L.ex
  intro pins s σ H xs us Q I r h
  obtain ⟨a, dx, fs, rfl, ha, hsp⟩ := h
  obtain rfl := Vals.ref1 r
  obtain ⟨mA, J, _⟩ := ins_get I.hok ha
  obtain ⟨od, J, _⟩ := J.look
  obtain ⟨m, hF⟩ := I.fr
  refine PySem.W.len_K hF I.ok.mod.kin J hs hf ?_
  have sb : Sub X k X.A.in1 := Sub.in1 ⟨hr, rfl⟩
  have e0 : Env0 X.prog X.w X.K X.mg X.base X.A.in1 X.stack s H := by
    have e := I.env0
    exact ⟨by rw [sb.fr]; exact e.frames, e.mod, e.bs, e.bsz, e.funs, e.frf, e.hok, e.bare⟩
  have hl := FN.len _ _ _ _ hsp
  have r2 : Vals [V.ref a] [Value.ref a] := .cons rfl .nil
  refine wpAny_call (codeAny_mono (FN.run X.A.in1 X.stack s H ⟨[.ref a], []⟩ [.ref a] [.ref a] _ (fun _ _ _ => False) sb.room e0 (by
    have := bN s [.ref a] I.kIn (by simpa using hl)
    simpa using this) r2 hsp) fun r s' hq => ?_)
  cases r with
  | error e =>
    obtain ⟨_, _, _, _, _, _, _, _, _, _, _, _, hE⟩ := hq
    exact hE.elim
  | ok fl =>
    cases fl with
    | ret u =>
      obtain ⟨v, H', I', rv, n, rfl, h0, h1, q⟩ := I.after hq
      obtain ⟨t, rfl⟩ := rv
      exact ⟨⟨h0, h1⟩, .int n, H', I'.kept (t' := s'.toks + 1) (fun _ _ e => e), ⟨_, rfl⟩, q⟩
    | next => exact False.elim hq
    | brk => exact False.elim hq
    | cont => exact False.elim hq
end

/-! ### a def's run, its promise told by the state at the call -/
theorem fn_runS {CX : CXT} {P : Program} {w : World} {K : PySem.W.Frag} {mg : Str → Option Value} {base : Heap} {k : Nat} {f : Addr} {name qual : Str} {params : Arguments} {body : List Stmt} {scope : Scope} {dV kV doc pm cdv ct oc : Value} {an od : Option Addr}
    {osl : Array (Option Value)} {N ps : List Str} {s : Shared} {A : Around} {outer : List Env} {H : Hp} {args : Args} {us : List Value} {vs : List V} {Q : VK} {E : XK}
    (lk : K.lookup f = some ⟨oc, od, .func (PySem.W.fnOf name qual params body scope dV kV doc pm an cdv ct), osl⟩) (hcd : PySem.W.codeIn K cdv qual = true) (S : FnScope N ps scope) (hl : vs.length = ps.length)
    (hr : Room (k + 1) A) (e0 : Env0 P w K mg base A outer s H) (hb : BindsTo s (PySem.W.fnOf name qual params body scope dV kV doc pm an cdv ct) args (ps.zip us)) (r : Vals vs us)
    (hbody : Room k (A.deeper (envOfC qual scope s.heap.objs.size f cdv)) → ∃ t, PSs (cxOf CX P w K mg base N qual scope f cdv A outer s H E) body t ∧ t { nx := fun _ H' => Q .non H', rt := Q } (start N vs) H) :
    codeAny (model P w) A (.call (.ref f) args) (CR CX outer P w H s Q E) s := by
  have KX : K.In s.heap := e0.mod.kin.keeps fun b o e => (e0.bs b o e).1
  have lim : s.heap.NoLimit := e0.mod.nolimit.keeps fun b o e => (e0.bs b o e).1
  have hkind : ∀ y ∈ ps.zip us, scope.names.lookup y.1 = some .local ∨ (scope.names.lookup y.1 = some .cell ∧ ((cellsFrom (s.heap.objs.size + 1) scope.names []).lookup y.1).isSome = true) := fun ⟨n, v⟩ hy => by
    rcases S.par n (List.of_mem_zip hy).1 with q | q
    · exact .inl q
    · exact .inr ⟨q, PySem.W.cellsFrom_some _ _ _ (.inl q)⟩
  refine codeAny_call_function hr.depth (KX _ _ lk) rfl S.co S.gen rfl (PySem.W.codeRec_of KX hcd) (hb _ _ _ _ ?_)
  refine wpAny_newFunctionEnv_cells S.kind hkind fun env he s1 x => ?_
  subst he
  refine ⟨lim.keeps x.toInCall.keep, codeAny_func ?_⟩
  obtain ⟨t, ht, hq⟩ := hbody (hr.deeper _)
  have I : Inv (cxOf CX P w K mg base N qual scope f cdv A outer s H E) [] (start N vs) H s1 := inv_start S hr.hd e0 hl r x
  refine wpAny_mono (ht.run [] s1 (start N vs) H _ I hq) (fun fl s' hs => ?_) fun e s' hs => hs
  have fin : ∀ {σ' : St} {H' : Hp} {v : V} {u : Value}, Inv (cxOf CX P w K mg base N qual scope f cdv A outer s H E) [] σ' H' s' → RelV v u → Q v H' → CE outer P w H s Q u s' :=
    fun {σ' H' v u} J rv q => ⟨v, H', J.os, J.bare, J.base, J.hok, rv, q⟩
  cases fl with
  | ret u =>
    obtain ⟨v, σ', H', J, rv, q⟩ := hs
    exact fin J rv q
  | next =>
    obtain ⟨σ', H', J, q⟩ := hs
    exact fin (v := V.non) (u := Value.none) J rfl q
  | brk =>
    obtain ⟨_, _, _, q⟩ := hs
    exact False.elim q
  | cont =>
    obtain ⟨_, _, _, q⟩ := hs
    exact False.elim q

/-! ### iter(t), t a tuple -/
def itT (t : Addr) (i : Nat) : Obj := { cls := .type "tuple_iterator", data := .fields #[.ref t, rawInt i] }
def ItT (t it : Addr) (i : Nat) : HO := .ext fun h => h.get? it = some (itT t i)
theorem itT_ok {P : Program} {w : World} {H : Hp} {h : Heap} {t it : Addr} {i : Nat} (e : h.get? it = some (itT t i)) : ObjOk P w H h it (ItT t it i) := ⟨e, ⟨_, e⟩, fun h1 h2 q k => k _ q⟩
def rIterT (K : PySem.W.Frag) (n : Nat) : List V → Hp → VK → Prop := fun xs H Q => ∃ (l : Addr) (zs : List V), xs = [.ref l] ∧ SqT K H l zs ∧ ∀ it, H it = Option.none → n ≤ it → Q (.ref it) (upd H it (ItT l it 0))
section
variable {X : Cx}
theorem call_iterT : CallR X (.builtin "iter") (rIterT X.K X.s_0.heap.objs.size) := by
  intro pins s σ H xs us Q I r h
  obtain ⟨l, zs, rfl, hq, q⟩ := h
  obtain rfl := Vals.ref1 r
  obtain ⟨its, rv, pl, hz⟩ := I.tuple hq
  refine Calls.call_function_entry (by decide +kernel) (by decide +kernel) PySem.W.kdk_entry_iter (PySem.W.kdk_args_iter _) ?_
  unfold Builtin.«iter»
  refine wpAny_bind (m := someArgs "iter" 1 2 _) (wpAny_of_eq (a := [Value.ref l]) (by first | rfl | kernel_rfl!) ?_)
  show wpAny _ _ (pyIter (.ref l) >>= _) _ _ _
  refine wpAny_bind (wpAny_pyIter_tuple (show s.heap.IsTuple l its.toArray from pl) ?_)
  refine wpAny_pure ⟨_, rfl, ?_⟩
  exact ⟨.ref s.heap.objs.size, _, I.laid (t' := s.toks) (fun b u e => Heap.get?_push_of_some _ e) (Nat.le_refl _) (itT_ok (Heap.get?_push_size _ rfl)), rfl, q _ (I.hok.fresh (Nat.le_refl _)) I.sz⟩
end

/-! ### a walk over o -/
/-- the class at C has an own __iter__, which is: return iter(self.fl) -/
abbrev iterBody (fl : Str) (p1 p2 p3 p4 p5 : Pos) : List Stmt := [.Return (some (.Call (.Name "iter" p1) [.Attribute (.Name "self" p2) fl p3] [] p4)) p5]
structure IterC (P : Program) (w : World) (K : PySem.W.Frag) (mg : Str → Option Value) (C : Addr) (fl : Str) : Prop where
  cl : Cls K C
  na : NoAttr K C fl
  fr : mg "iter" = none
  ex : ∃ f fd params scope nm qual p1 p2 p3 p4 p5 p6, PySem.W.findIn K (.ref C) "__iter__" = some (some (.ref f)) ∧ PySem.W.isFn K (.ref f) = true ∧
    FunD K nm qual params (iterBody fl p1 p2 p3 p4 p5) scope [] [] f fd ∧ Binds K fd ["self"] [] ∧ FnScope ["self"] ["self"] scope ∧ scope.names.lookup ("iter" : Str) = some .globalImplicit ∧ p6 = p5
theorem drop_old {H : Hp} {it b : Addr} {o : HO} (h : H b = some o) (n : H it = none) (u : HO) : ItX.dropH (upd H it u) it b = some o := by
  rw [ItX.dropH_upd n]; exact h
def iOwn (K : PySem.W.Frag) (C : Addr) (fl : Str) (te : TE) : TI := fun σ H R => te σ H fun x H1 => ∃ a dx fs b, x = .ref a ∧ H1 a = some (.ins C dx fs) ∧ fs.lookup fl = some (.ref b) ∧ (∃ xs, SqT K H1 b xs) ∧ R (Itt K b) H1
section
variable {X : Cx} {C : Addr} {fl : Str} {tg e : Expr} {te : TE} {k : Nat}
theorem pi_own (T : IterC X.prog X.w X.K X.mg C fl) (hr : Room 1 X.A) (he : PE X e te) : PI X tg e (iOwn X.K C fl te) := by
  refine ⟨fun pins s σ H R I h => ?_⟩
  refine thn (he.run pins s σ H _ I h) fun u s1 ⟨x, H1, I1, r1, a, dx, fs, b, ex, ha, hf, ⟨xs, hs⟩, q⟩ => ?_
  subst ex
  obtain rfl : u = .ref a := r1
  obtain ⟨f, fd, params, scope, nm, qual, p1, p2, p3, p4, p5, p6, hfi, hfn, F, bI, S, hgl, _⟩ := T.ex
  obtain ⟨mA, J, _⟩ := ins_get I1.hok ha
  obtain ⟨od, J, _⟩ := J.look
  obtain ⟨m, hF⟩ := I1.fr
  refine PySem.W.owit_iter hF I1.ok.mod.kin J hfi hfn ?_
  obtain ⟨oc, od', dV, kV, doc, pm, an, cdv, ct, osl, rfl, lk, hcd, hD, _⟩ := F.ex
  have r2 : Vals [V.ref a] [Value.ref a] := .cons rfl .nil
  have hb : BindsTo s1 (PySem.W.fnOf nm qual params (iterBody fl p1 p2 p3 p4 p5) scope dV kV doc pm an cdv ct) ⟨[.ref a], []⟩ ((["self"] : List Str).zip [.ref a]) := by
    have := bI s1 [.ref a] I1.kIn rfl
    simpa using this
  refine wpAny_call (codeAny_mono (fn_runS (CX := CX0) (P := X.prog) (w := X.w) (mg := X.mg) (base := X.base) (k := 0) (N := ["self"]) (Q := fun v H' => ∃ it, v = .ref it ∧ H1 it = none ∧ s1.heap.objs.size ≤ it ∧ H' = upd H1 it (ItT b it 0)) (E := fun _ _ _ => False) lk hcd S rfl (hr.mono (by omega)) I1.env0 hb r2 fun hr' => ?_) fun r s2 hq => ?_)
  · have hvis : Vis scope ("self" : Str) := by
      rcases S.par "self" (by simp) with q | q
      · exact .inl q
      · exact .inr (.inl q)
    refine ⟨_, PSs.nox (pss_one (ps_ret (pe_callB (id := "iter") call_iterT hgl T.fr (by decide +kernel) (pa_cons (pe_fld (pv 0 (hv := hvis)) (by rfl)) pa_nil)))), ?_⟩
    exact ⟨_, rfl, a, C, dx, fs, .ref b, rfl, ha, T.cl, T.na, hf, b, xs, rfl, hs, fun it n le => ⟨it, rfl, n, le, rfl⟩⟩
  · cases r with
    | error e => exact False.elim hq
    | ok fl =>
      cases fl with
      | next => exact False.elim hq
      | brk => exact False.elim hq
      | cont => exact False.elim hq
      | ret u2 =>
        obtain ⟨v, H', I2, rv, it, rfl, hn, le, rfl⟩ := I1.after hq
        obtain rfl : u2 = .ref it := rv
        have eo : s2.heap.get? it = some (itT b 0) := (I2.hok it _ upd_same).1
        have st : s2.heap.IsTupleIter it b 0 := ⟨_, eo, rfl, rfl⟩
        show wpAny _ _ (specialOf (.ref it) "__next__") _ _ _
        refine wpAny_specialOf (name := Str.ofString "__next__") ⟨_, eo, rfl⟩ slot_tupleiter_next.lookup ?_
        have I3 := ItX.inv_drop I2 (show upd H1 it (ItT b it 0) it = some (.ext _) from upd_same)
        rw [ItX.dropH_upd hn] at I3
        have fp := ItX.inv_fp I2 (upd_same (H := H1) (a := it) (o := ItT b it 0)) (Nat.le_trans I1.sz le)
        rw [ItX.dropH_upd hn] at fp
        exact ⟨it, [it], _, _, H1, rfl, I3, turn_tuple b it, st, fun b' hb' => by
          have e : b' = it := by simpa using hb'
          rw [e]; exact fp, q⟩
end
end Rn

/-! what a look at the heap says of an own class of errors whose __init__ is super().__init__(text), self.f = f .. -/
namespace Rn
open PySem PySem.Spec PyProof.Rows L2 XN
open He (ga ma eqO eqO_ok ba)
abbrev XnV : Type := Option (Str × Str × Arguments × FuncBody × Scope × Addr × Value × Value × Addr)
/-- one class: its name, what __init__ stores, __init__ as it stands -/
structure XD where
  x : Str
  fs : List Str
  qual : Str
  params : Arguments
  body : List Stmt
  scope : Scope
def xnObs (K : PySem.W.Frag) (d : XD) : XnV := match K.lookup (ma K (ga K d.x) "__init__") with
  | some ⟨_, _, .func fd, _⟩ => some (fd.name, fd.qualname, fd.params, fd.body, fd.scope, fd.globals, fd.defaults, fd.kwdefaults, fd.builtins)
  | _ => none
def XD.val (d : XD) : XnV := some ("__init__", d.qual, d.params, .stmts d.body, d.scope, mainGlobals, .none, .none, builtinsNs)
def xnCls (K : PySem.W.Frag) (C : Addr) : Bool := match K.lookup C with
  | some ⟨.type "type", _, .cls cd, sl⟩ => (match cd.mro, sl.toList with
    | .ref C' :: bm, [_, _, _, _, some (.builtin n), _] => C' == C && (n == "ValueError.__new__" && (!cd.hasDel && (cd.hasDict && PySem.HandSPX.refsVE bm)))
    | _, _ => false)
  | _ => false
def xnFun (K : PySem.W.Frag) (C fI : Addr) (qual file : Str) : Bool := match K.lookup fI with
  | some ⟨_, _, .func fd, _⟩ => (match fd.closure, fd.code with
    | [(n, cc)], .ref cda => n == "__class__" && (PySem.W.codeIn K (.ref cda) qual && ((match K.lookup cc with
      | some ⟨_, _, .cell (some (.ref C')), _⟩ => C' == C
      | _ => false) && (match K.lookup cda with
      | some ⟨_, _, .fields vs, _⟩ => (match (vs[2]? : Option Value) with
        | some (Value.str f _) => file == f
        | _ => false)
      | _ => false)))
    | _, _ => false)
  | _ => false
def xnB (file : Str) (K : PySem.W.Frag) (d : XD) : Bool :=
  xnCls K (ga K d.x) && (xnFun K (ga K d.x) (ma K (ga K d.x) "__init__") d.qual file &&
  (eqO (PySem.W.findIn K (.ref (ga K d.x)) "__setattr__") (some (some (.builtin "object.__setattr__"))) &&
  ((d.fs.all fun f => eqO (PySem.W.findIn K (.ref (ga K d.x)) f) (some none)) &&
  (eqO (PySem.W.findIn K (.ref (ga K d.x)) "__init__") (some (some (.ref (ma K (ga K d.x) "__init__")))) &&
  (decide (PySem.W.typeIn K (.ref (ma K (ga K d.x) "__init__")) = some (.type "function")) &&
  (PySem.W.keepIn K (.ref (ga K d.x)) &&
  (decide (PySem.W.subIn K (.ref (ga K d.x)) (.type "BaseException") = some true) &&
  (decide (PySem.W.subIn K (.ref (ga K d.x)) (.type "ValueError") = some true) &&
  (decide (PySem.W.typeIn K (.ref (ga K d.x)) = some (.type "type")) &&
  (eqO (PySem.W.ks_superIn K (ga K d.x) (ga K d.x) "__init__") (some (some (.builtin "ValueError.__init__"))) &&
  (decide (PySem.W.mroIn K (ga K d.x) (.ref (ga K d.x)) = some true) &&
  (eqO (PySem.W.nsIn K cStatics "thirdparty.any") (some none) &&
  eqO (PySem.W.nsIn K mainGlobals "super") (some none)))))))))))))
/-- what its text is -/
structure XnS (prog : Program) (d : XD) : Prop where
  sh : ∃ m mj q1 q2 q3 q4 q5 q6 ar, d.body = .Expr (.Call (.Attribute (.Call (.Name "super" q1) [] [] q2) "__init__" q3) [.Constant (.str m) mj q4] [] q5) q6 :: d.body.drop 1 ∧ Stores d.fs (d.body.drop 1) ∧
    (q3.endLine == q5.line) = true ∧ (d.params.posonlyargs ++ d.params.args).head? = some ar ∧ ar.arg = "self"
  bind : ∀ (doc pm : Value) (an : Option Addr) (cda : Addr) (ct : Value) (cc : Addr) (us : List Value), us.length = d.fs.length + 1 → bindArgs (PySem.W.ksFn "__init__" d.qual d.params d.body d.scope .none .none doc pm an (.ref cda) ct cc) ⟨us, []⟩ = pure ((("self" : Str) :: d.fs).zip us)
  kind : d.scope.kind = .function
  co : d.scope.isCoroutine = false
  gen : d.scope.isGenerator = false
  nocell : ∀ x ∈ d.scope.names, x.2 ≠ .cell
  loc : ∀ x ∈ ("self" : Str) :: d.fs, d.scope.names.lookup x = some .local
  sup : d.scope.names.lookup ("super" : Str) = some .globalImplicit
  cls : d.scope.names.lookup ("__class__" : Str) = some .free
  top : (prog.main.scope.names.lookup ("super" : Str)).isSome = false
  nd : d.fs.Nodup
  noself : ("self" : Str) ∉ d.fs
  nodbg : ∀ f ∈ d.fs, (f == ("__debug__" : Str)) = false
  few : d.fs.length ≤ 20
theorem excK_of {prog : Program} {K : PySem.W.Frag} {d : XD} (S : XnS prog d) (b : xnB prog.main.file K d = true) (e : xnObs K d = d.val) : ExcK prog K (ga K d.x) (ma K (ga K d.x) "__init__") d.fs := by
  obtain ⟨b1, b⟩ := ba b
  obtain ⟨b2, b⟩ := ba b
  obtain ⟨b3, b⟩ := ba b
  obtain ⟨b4, b⟩ := ba b
  obtain ⟨b5, b⟩ := ba b
  obtain ⟨b6, b⟩ := ba b
  obtain ⟨b7, b⟩ := ba b
  obtain ⟨b8, b⟩ := ba b
  obtain ⟨b9, b⟩ := ba b
  obtain ⟨b10, b⟩ := ba b
  obtain ⟨b11, b⟩ := ba b
  obtain ⟨b12, b⟩ := ba b
  obtain ⟨b13, b14⟩ := ba b
  refine ⟨?_, eqO_ok b3, fun f hf => eqO_ok (List.all_eq_true.mp b4 f hf), eqO_ok b5, of_decide_eq_true b6, b7, of_decide_eq_true b8, of_decide_eq_true b9, of_decide_eq_true b10, eqO_ok b11, of_decide_eq_true b12, eqO_ok b13, eqO_ok b14, S.top, S.nd, S.noself, S.nodbg, S.few, ?_⟩
  · unfold xnCls at b1
    split at b1
    · rename_i dd cd sl ho
      split at b1
      · rename_i C' bm k0 k1 k2 k3 n k5 hm hs
        simp only [Bool.and_eq_true, beq_iff_eq, Bool.not_eq_true'] at b1
        obtain ⟨h1, h2, hdel, hdict, ht⟩ := b1
        subst h1 h2
        obtain ⟨nm, bs, mro, ns, qn, hd, sn, sub, ab, col, del⟩ := cd
        dsimp only at hm hdel hdict
        subst hm hdel hdict
        have hsl : sl = #[k0, k1, k2, k3, some (.builtin "ValueError.__new__"), k5] := by
          obtain ⟨l⟩ := sl
          simp only at hs
          rw [hs]
        subst hsl
        exact ⟨nm, qn, ns, bs, bm, sn, sub, ab, col, dd, k0, k1, k2, k3, k5, ho, ht⟩
      · cases b1
    · cases b1
  · unfold xnFun at b2
    unfold xnObs at e
    split at b2
    · rename_i oc od fd osl ho
      rw [ho] at e
      split at b2
      · rename_i n cc cda hcl hcode
        obtain ⟨n1, n2, n3, n4, n5, n6, n7, n8, n9, n10, n11, n12, n13, n14, n15⟩ := fd
        dsimp only at hcl hcode
        subst hcl hcode
        have e2 : (some (n1, n2, n3, n4, n5, n6, n8, n9, n15) : XnV) = XD.val d := e
        unfold XD.val at e2
        simp only [Option.some.injEq, Prod.mk.injEq] at e2
        obtain ⟨h1, h2, h3, h4, h5, h6, h7, h8, h9⟩ := e2
        subst h1 h2 h3 h4 h5 h6 h7 h8 h9
        obtain ⟨c1, c⟩ := ba b2
        obtain ⟨c2, c⟩ := ba c
        obtain ⟨c3, c4⟩ := ba c
        have hn : n = "__class__" := beq_iff_eq.mp c1
        subst hn
        split at c3
        · rename_i cl cld C' csl hcc
          have hC : C' = ga K d.x := beq_iff_eq.mp c3
          subst hC
          split at c4
          · rename_i ccl ccd vs cch hcda
            split at c4
            · rename_i f tf hf
              obtain ⟨m, mj, q1, q2, q3, q4, q5, q6, ar, s1, s2, s3, s4, s5⟩ := S.sh
              exact ⟨oc, od, _, _, _, _, osl, d.qual, d.params, d.scope, d.body, cc, cda, m, mj, q1, q2, q3, q4, q5, q6, q6, ar, vs, f, tf, cl, ccl, cld, ccd, csl, cch, ho, c2, s1, s2, s3, s4, s5, hcc, hcda, hf, c4, fun us hl => S.bind _ _ _ _ _ _ us hl, S.kind, S.co, S.gen, S.nocell, S.loc, S.sup, S.cls⟩
            · cases c4
          · cases c4
        · cases c3
      · cases b2
    · cases b2

/-! ### defs at addresses of their own (a property's getter, a classmethod's def) -/
open He (dflB kwdB dflB_ok kwdB_ok Dv FnW)
structure DefA where
  ad : PySem.W.Frag → Addr
  name : Str
  qual : Str
  params : Arguments
  body : List Stmt
  scope : Scope
  dfl : List Dv := []
  kwd : List (Str × Dv) := []
def faW (K : PySem.W.Frag) (a : Addr) : FnW := match K.lookup a with
  | some ⟨_, _, .func fd, _⟩ => some (fd.name, fd.qualname, fd.params, fd.body, fd.scope, fd.globals, fd.closure, fd.builtins)
  | _ => none
def DefA.val (d : DefA) : FnW := some (d.name, d.qual, d.params, .stmts d.body, d.scope, mainGlobals, [], builtinsNs)
def DefA.dvs (K : PySem.W.Frag) (d : DefA) : List V := d.dfl.map (Dv.v K)
def DefA.kws (K : PySem.W.Frag) (d : DefA) : List (Str × V) := d.kwd.map fun q => (q.1, q.2.v K)
def DefA.ok (K : PySem.W.Frag) (d : DefA) : Bool := PySem.W.keepIn K (.ref (d.ad K)) && (match K.lookup (d.ad K) with
  | some ⟨_, _, .func fd, _⟩ => PySem.W.codeIn K fd.code d.qual && (dflB K fd.defaults (d.dvs K) && kwdB K fd.kwdefaults (d.kws K))
  | _ => false)
theorem DefA.funD {K : PySem.W.Frag} {d : DefA} (e : faW K (d.ad K) = d.val) (c : d.ok K = true) : ∃ fd, FunD K d.name d.qual d.params d.body d.scope (d.dvs K) (d.kws K) (d.ad K) fd := by
  obtain ⟨kp, c2⟩ := ba c
  unfold faW at e
  cases q : K.lookup (d.ad K) with
  | none => rw [q] at c2; cases c2
  | some o =>
    obtain ⟨oc, od, dt, osl⟩ := o
    rw [q] at c2 e
    cases dt with
    | func fd =>
      obtain ⟨n1, n2, n3, n4, n5, n6, n7, n8, n9, n10, n11, n12, n13, n14, n15⟩ := fd
      have e2 : (some (n1, n2, n3, n4, n5, n6, n7, n15) : FnW) = DefA.val d := e
      unfold DefA.val at e2
      simp only [Option.some.injEq, Prod.mk.injEq] at e2
      obtain ⟨h1, h2, h3, h4, h5, h6, h7, h8⟩ := e2
      subst h1 h2 h3 h4 h5 h6 h7 h8
      obtain ⟨k1, k2⟩ := ba (show (PySem.W.codeIn K n13 d.qual && (dflB K n8 (d.dvs K) && kwdB K n9 (d.kws K))) = true from c2)
      obtain ⟨k3, k4⟩ := ba k2
      exact ⟨_, ⟨oc, od, n8, n9, n10, n11, n12, n13, n14, osl, rfl, q, k1, dflB_ok k3, kwdB_ok k4⟩, kp⟩
    | _ => cases c2
/-- the getter of the property f of the class named x -/
def prAd (x f : Str) (K : PySem.W.Frag) : Addr := match PySem.W.recIn K (ma K (ga K x) f) "property" with
  | some (.ref g :: _) => g
  | _ => 0
def prB (x f : Str) : PySem.W.Frag → Bool := fun K =>
  eqO (PySem.W.findIn K (.ref (ga K x)) f) (some (some (.ref (ma K (ga K x) f)))) && (eqO (PySem.W.specialIn K (.ref (ma K (ga K x) f)) "__get__") (some (some (.builtin "property.__get__"))) &&
  (decide (PySem.W.takesIn K (.ref (ma K (ga K x) f)) = some true) && (match PySem.W.recIn K (ma K (ga K x) f) "property" with
    | some (.ref _ :: _) => true
    | _ => false)))
theorem prB_ok {K : PySem.W.Frag} {x f : Str} (h : prB x f K = true) : PropOf K (ga K x) f (ma K (ga K x) f) (prAd x f K) := by
  obtain ⟨h1, h⟩ := ba (show (eqO _ _ && (eqO _ _ && (decide _ && _))) = true from h)
  obtain ⟨h2, h⟩ := ba h
  obtain ⟨h3, h4⟩ := ba h
  refine ⟨eqO_ok h1, eqO_ok h2, of_decide_eq_true h3, ?_⟩
  unfold prAd
  split at h4
  · rename_i g rest e
    rw [e]
    exact ⟨rest, rfl⟩
  · cases h4
end Rn

/-! the head's Hook: facts by names, defs, own looks; from the module's names and the statics on. -/
namespace Rn
open PySem PySem.Spec PyProof.Rows L2
open ClX
open He (frG frG_in growD fAd ga ma Fa DefD obsD valD SaysD)

/-- what the looks want: the defs' and classes' names, the methods -/
structure Want where
  gn : List Str
  cn : List Str
  ms : List (Str × Str)
def stepG (g : Addr → Option Obj) (a : Addr) : List Addr := match g a with
  | some o => (match o.data with
    | .func fd => He.refV fd.code ++ (He.refV fd.defaults ++ (He.refV fd.kwdefaults ++ fd.closure.map (·.2)))
    | .cls cd => cd.ns :: cd.mro.flatMap He.refV
    | .fields vs => vs.toList.flatMap He.refV
    | _ => [])
  | none => []
def asY (g : Addr → Option Obj) (n : Want) : List Addr :=
  let b := [mainGlobals, cStatics]
  let a1 := b ++ (n.gn ++ n.cn).map (ga (frG g b))
  let a2 := a1 ++ a1.flatMap (stepG g)
  let a3 := n.ms.map fun p => ma (frG g a2) (ga (frG g a2) p.1) p.2
  let a4 := a3.flatMap (stepG g)
  let a5 := a4.flatMap fun a => match g a with
    | some ⟨_, _, .func fd, _⟩ => He.refV fd.code
    | _ => []
  a2 ++ (a3 ++ (a4 ++ a5))
abbrev Look1 : Type := PySem.W.Frag → Bool
abbrev AlY : Type := ((He.AlD × Bool) × List XnV) × List He.FnW
def obsY (fa : List Fa) (fn : List DefD) (xs : List Look1) (file : Str) (xd : List XD) (da : List DefA) (K : PySem.W.Frag) : AlY := (((obsD fa fn K, (xs.all fun f => f K) && ((xd.all fun d => xnB file K d) && da.all fun d => d.ok K)), xd.map fun d => xnObs K d), da.map fun d => faW K (d.ad K))
def valY (fn : List DefD) (xd : List XD) (da : List DefA) : AlY := (((valD fn, true), xd.map XD.val), da.map DefA.val)
def obsYG (n : Want) (fa : List Fa) (fn : List DefD) (xs : List Look1) (file : Str) (xd : List XD) (da : List DefA) (g : Addr → Option Obj) : AlY := obsY fa fn xs file xd da (frG g (asY g n))
def SaysY (fa : List Fa) (fn : List DefD) (xs : List Look1) (file : Str) (xd : List XD) (da : List DefA) (K : PySem.W.Frag) : Prop := obsY fa fn xs file xd da K = valY fn xd da
def hookY (n : Want) (fa : List Fa) (fn : List DefD) (xs : List Look1) (file : Str) (xd : List XD) (da : List DefA) : PySem.W.Hook where
  α := AlY
  obs := fun s => obsYG n fa fn xs file xd da s.heap.get?
  val := fun _ => valY fn xd da
  says := fun _ h => ∃ K : PySem.W.Frag, K.In h ∧ SaysY fa fn xs file xd da K
  of := fun _ _ e => ⟨_, frG_in, e⟩
  keeps := fun _ _ _ ⟨K, hK, c⟩ k => ⟨K, PySem.W.Frag.In.keeps hK k, c⟩
theorem obsYG_eq {n : Want} {fa : List Fa} {fn : List DefD} {xs : List Look1} {file : Str} {xd : List XD} {da : List DefA} {g : Addr → Option Obj} {s : Shared} (h : ∀ a, g a = s.heap.get? a) : obsYG n fa fn xs file xd da g = (hookY n fa fn xs file xd da).obs s := by
  have e : g = s.heap.get? := funext h
  rw [e] <;> rfl
section
variable {fa : List Fa} {fn : List DefD} {xs : List Look1} {file : Str} {xd : List XD} {da : List DefA} {K : PySem.W.Frag}
theorem SaysY.d (c : SaysY fa fn xs file xd da K) : SaysD fa fn K := congrArg (fun z : AlY => z.1.1.1) c
theorem SaysY.all (c : SaysY fa fn xs file xd da K) : ((xs.all fun f => f K) && ((xd.all fun d => xnB file K d) && da.all fun d => d.ok K)) = true := congrArg (fun z : AlY => z.1.1.2) c
theorem SaysY.lk (c : SaysY fa fn xs file xd da K) (i : Nat) {f : Look1} (h : xs[i]? = some f := by rfl) : f K = true :=
  List.all_eq_true.mp (He.ba c.all).1 f (List.mem_of_getElem? h)
theorem SaysY.x (c : SaysY fa fn xs file xd da K) (i : Nat) {d : XD} (h : xd[i]? = some d := by rfl) : xnB file K d = true ∧ xnObs K d = d.val := by
  have e : xd.map (fun d => xnObs K d) = xd.map XD.val := congrArg (fun z : AlY => z.1.2) c
  have e2 : (xd.map fun d => xnObs K d)[i]? = (xd.map XD.val)[i]? := by rw [e]
  rw [List.getElem?_map, List.getElem?_map, h] at e2
  exact ⟨List.all_eq_true.mp (He.ba (He.ba c.all).2).1 d (List.mem_of_getElem? h), Option.some.inj e2⟩
theorem SaysY.a (c : SaysY fa fn xs file xd da K) (i : Nat) {d : DefA} (h : da[i]? = some d := by rfl) : ∃ fd, FunD K d.name d.qual d.params d.body d.scope (d.dvs K) (d.kws K) (d.ad K) fd := by
  have e : da.map (fun d => faW K (d.ad K)) = da.map DefA.val := congrArg (fun z : AlY => z.2) c
  have e2 : (da.map fun d => faW K (d.ad K))[i]? = (da.map DefA.val)[i]? := by rw [e]
  rw [List.getElem?_map, List.getElem?_map, h] at e2
  exact DefA.funD (Option.some.inj e2) (List.all_eq_true.mp (He.ba (He.ba c.all).2).2 d (List.mem_of_getElem? h))
end

/-! ### looks -/
/-- a class's constant -/
def cvalI (x f : Str) (i : Int) : Look1 := fun K => match PySem.W.typeIn K (.ref (ga K x)) with
  | some mc => PySem.W.readsIn K (ga K x) mc && (He.eqO (PySem.W.specialIn K (.ref (ga K x)) "__getattribute__") (some (some (.builtin "type.__getattribute__"))) && (match PySem.W.findCls K (.ref (ga K x)) mc f with
    | some (.val (.int j _)) => decide (j = i)
    | _ => false))
  | _ => false
theorem cvalI_ok {K : PySem.W.Frag} {x f : Str} {i : Int} (h : cvalI x f i K = true) : ∃ mc u, CRead K (ga K x) mc ∧ CVal K (ga K x) mc f (.int i) u := by
  unfold cvalI at h
  cases e : PySem.W.typeIn K (.ref (ga K x)) with
  | none => rw [e] at h; cases h
  | some mc =>
    rw [e] at h
    obtain ⟨h1, h23⟩ := He.ba h
    obtain ⟨h2, h3⟩ := He.ba h23
    cases q : PySem.W.findCls K (.ref (ga K x)) mc f with
    | none => rw [q] at h3; cases h3
    | some r =>
      rw [q] at h3
      cases r with
      | val u =>
        cases u with
        | int j t =>
          have ej : j = i := of_decide_eq_true h3
          subst ej
          exact ⟨mc, _, ⟨h1, He.eqO_ok h2⟩, ⟨q, ⟨t, rfl⟩⟩⟩
        | _ => cases h3
      | _ => cases h3
/-- C.f, C a class by the name x, f its constant i -/
def tCv (i : Int) : TE := tC (.int i)
section
variable {X : Cx} {x f : Str} {i : Int} {p pos : Pos}
theorem pe_cv (h : ∃ C mc u, X.mg x = some (.ref C) ∧ CRead X.K C mc ∧ CVal X.K C mc f (.int i) u) (hg : Gl X x := by rfl) (hdb : (x == ("__debug__" : Str)) = false := by decide)
    (hb : attributeBase (.Name x p) f X.env (eval (.Name x p) X.env) = eval (.Name x p) X.env := by rfl) : PE X (.Attribute (.Name x p) f pos) (tC (.int i)) := by
  obtain ⟨C, mc, u, hm, hr, hv⟩ := h
  refine ⟨fun pins s σ H Q I h => ?_⟩
  exact (pe_cval (ta := tC (.ref C)) (pe_glob hg hm rfl hdb) hb).run pins s σ H Q I ⟨C, mc, _, u, rfl, hr, hv, h⟩
end
end Rn

/-! constructors, methods, defs by bundles; what they may let out is taken by Takes. -/
namespace Rn
open PySem PySem.Spec PyProof.Rows L2

/-- the module's name x stands for a class whose __init__ keeps sp (self ahead) -/
structure MkC (P : Program) (w : World) (K : PySem.W.Frag) (mg : Str → Option Value) (base : Heap) (x : Str) (C : Addr) (k : Nat) (sp : Sp) : Prop where
  ex : ∃ f fd ps, mg x = some (.ref C) ∧ Mk K C f ∧ Binds K fd ps [] ∧ FnOk P w K mg base (L2.CX P w) k f fd ps sp
/-- a method of the class at C that keeps sp -/
structure MtC (P : Program) (w : World) (K : PySem.W.Frag) (mg : Str → Option Value) (base : Heap) (C : Addr) (m : Str) (k : Nat) (sp : Sp) : Prop where
  ex : ∃ f fd ps, Cls K C ∧ Meth K C m f ∧ Binds K fd ps [] ∧ FnOk P w K mg base (L2.CX P w) k f fd ps sp
def tMk (C : Addr) (sp : Sp) (W : WX) (t : TA) : TE := fun σ H Q => t σ H fun vs H1 => ∀ x dx, H1 x = none → H1 dx = none → dx ≠ x →
  sp (.ref x :: vs) (upd (upd H1 dx (.own x)) x (.ins C dx [])) (fun v H2 => v = .non ∧ Q (.ref x) H2) fun c d H' => W c d σ H'
def tMt (C : Addr) (m : Str) (sp : Sp) (W : WX) (ta : TE) (t : TA) : TE := fun σ H Q => ta σ H fun x H1 => ∃ a dx fs, x = .ref a ∧ H1 a = some (.ins C dx fs) ∧ fs.lookup m = none ∧
  t σ H1 fun vs H2 => sp (x :: vs) H2 Q fun c d H' => W c d σ H'
section
variable {X : Cx} {k : Nat} {f C : Addr} {fd : FuncData} {ps : List Str} {sp : Sp} {W : WX} {x m : Str} {p pos apos : Pos} {e o : Expr} {es : List Expr} {ta : TE} {t : TA}
theorem run_makeS {pins : List (Addr × Obj)} {σ : St} {H : Hp} {s : Shared} {Q : VK} {us : List Value} {vs : List V} (M : Mk X.K C f) (F : FnOk X.prog X.w X.K X.mg X.base (L2.CX X.prog X.w) k f fd ps sp) (hr : Room (k + 1) X.A) (hb : Binds X.K fd ps [])
    (tk : Takes X W) (I : L2.Inv X pins σ H s) (r : Vals vs us)
    (h : ∀ x dx, H x = none → H dx = none → dx ≠ x → sp (.ref x :: vs) (upd (upd H dx (.own x)) x (.ins C dx [])) (fun v H2 => v = .non ∧ Q (.ref x) H2) fun c d H' => W c d σ H') :
    wpAny (model X.prog X.w) X.A (call (.ref C) us) (EP X pins σ Q) X.xe s := by
  have hq := h (s.heap.objs.size + 1) s.heap.objs.size (I.hok.fresh (Nat.le_succ _)) (I.hok.fresh (Nat.le_refl _)) (Nat.ne_of_lt (Nat.lt_succ_self _))
  have I2 := Inv.made (C := C) I
  have r2 : Vals (V.ref (s.heap.objs.size + 1) :: vs) (Value.ref (s.heap.objs.size + 1) :: us) := .cons rfl r
  have hl : (Value.ref (s.heap.objs.size + 1) :: us ++ []).length = ps.length := by
    have e := r2.length
    rw [F.len _ _ _ _ hq] at e
    rw [List.append_nil]
    exact e.symm
  refine wpAny_call (make_map (f := f) I.kIn M.makes M.init (beq_iff_eq.mp M.fn) (codeAny_mono (F.run _ X.stack _ _ ⟨Value.ref (s.heap.objs.size + 1) :: us, []⟩ (Value.ref (s.heap.objs.size + 1) :: us) _ _ _ (hr.make C us [])
    (I2.env0.make C us []) (by have := hb _ (Value.ref (s.heap.objs.size + 1) :: us) I2.kIn hl; rw [List.append_nil] at this; exact this) r2 hq) fun r s' hq' => ?_))
  cases r with
  | error e => exact passAt tk σ pins _ _ e s' I2 hq'
  | ok fl =>
    cases fl with
    | ret u =>
      obtain ⟨v, H', I3, rv, ev, q3⟩ := I2.after hq'
      subst ev
      exact ⟨rv, ⟨V.ref (s.heap.objs.size + 1), H', I3, rfl, q3⟩⟩
    | next => exact False.elim hq'
    | brk => exact False.elim hq'
    | cont => exact False.elim hq'
theorem pe_mk (M : MkC X.prog X.w X.K X.mg X.base x C k sp) (hr : Room (k + 1) X.A) (tk : Takes X W) (ha : PA X (e :: es) t) (hg : Gl X x := by rfl) (hdb : (x == ("__debug__" : Str)) = false := by decide)
    (he : starEach (e :: es) X.env = (false, eval e X.env) :: starEach es X.env := by rfl) (hpl : (backTo pos (starEach es X.env)).any (·.1) = false := by rfl) :
    PE X (.Call (.Name x p) (e :: es) [] pos) (tMk C sp W t) := by
  obtain ⟨f, fd, ps, hm, M, hb, F⟩ := M.ex
  refine ⟨fun pins s σ H Q I h => ?_⟩
  refine wpAny_Call_Name_kw (ld_glob I hg hm ?_ hdb)
  refine PySem.W.callWith_K (h₀ := X.base) I.ok.mod.kin M.kp (thn (ha.run pos pins s σ H _ I h) fun us s1 ⟨vs, H1, I1, r, q⟩ => ⟨I1.kIn, ?_⟩) he hpl
  exact run_makeS M F hr hb tk I1 r q
theorem pe_mk0 (M : MkC X.prog X.w X.K X.mg X.base x C k sp) (hr : Room (k + 1) X.A) (tk : Takes X W) (hg : Gl X x := by rfl) (hdb : (x == ("__debug__" : Str)) = false := by decide) : PE X (.Call (.Name x p) [] [] pos) (tMk C sp W tNil) := by
  obtain ⟨f, fd, ps, hm, M, hb, F⟩ := M.ex
  refine ⟨fun pins s σ H Q I h => ?_⟩
  refine wpAny_Call_Name_kw (ld_glob I hg hm ?_ hdb)
  exact PySem.W.callWith_K0 I.kIn M.kp (run_makeS (us := []) M F hr hb tk I .nil h)
theorem pe_mt {pl : Sem Bool} (M : MtC X.prog X.w X.K X.mg X.base C m k sp) (hr : Room k X.A) (tk : Takes X W) (he : PE X o ta) (ha : PA X (e :: es) t)
    (hst : starEach (e :: es) X.env = (false, eval e X.env) :: starEach es X.env := by rfl) (hpl : (backTo pos (starEach es X.env)).any (·.1) = false := by rfl)
    (ht : eval (.Call (.Attribute o m apos) (e :: es) [] pos) X.env = (do
      let ov ← eval o X.env
      standAt apos.atName
      let (f, first) ← holding [ov] (getMethod ov m pl)
      callWith pos f first (backTo pos (starEach (e :: es) X.env)) (backToKw pos (keywordEach [] X.env))) := by rfl) :
    PE X (.Call (.Attribute o m apos) (e :: es) [] pos) (tMt C m sp W ta t) := by
  obtain ⟨f, fd, ps, c, hm, hb, F⟩ := M.ex
  refine ⟨fun pins s σ H Q I h => ?_⟩
  refine PySem.W.methodCall_KW (pl := pl) (thn (he.run pins s σ H _ I h) fun u s1 ⟨x, H1, I1, rx, a, dx, fs, ex, ea, l, q⟩ => ?_) ht
  subst ex
  obtain rfl : u = Value.ref a := rx
  refine getmeth_ok I1 ea c hm l ?_
  refine PySem.W.callWith_K (first := [.ref a]) (h₀ := X.base) I.ok.mod.kin hm.kp (thn (ha.run pos pins s1 σ H1 _ I1 q) fun us s2 ⟨vs, H2, I2, r, q2⟩ => ⟨I2.kIn, ?_⟩) hst hpl
  exact run_fnS (us := .ref a :: us) (vs := .ref a :: vs) (E := WE W) F hr hb (passAt tk σ) I2 (.cons rfl r) q2
theorem pe_mt0 {pl : Sem Bool} (M : MtC X.prog X.w X.K X.mg X.base C m k sp) (hr : Room k X.A) (tk : Takes X W) (he : PE X o ta)
    (ht : eval (.Call (.Attribute o m apos) [] [] pos) X.env = (do
      let ov ← eval o X.env
      standAt apos.atName
      let (f, first) ← holding [ov] (getMethod ov m pl)
      callWith pos f first (backTo pos (starEach [] X.env)) (backToKw pos (keywordEach [] X.env))) := by rfl) :
    PE X (.Call (.Attribute o m apos) [] [] pos) (tMt C m sp W ta tNil) := by
  obtain ⟨f, fd, ps, c, hm, hb, F⟩ := M.ex
  refine ⟨fun pins s σ H Q I h => ?_⟩
  refine PySem.W.methodCall_KW (pl := pl) (thn (he.run pins s σ H _ I h) fun u s1 ⟨x, H1, I1, rx, a, dx, fs, ex, ea, l, q⟩ => ?_) ht
  subst ex
  obtain rfl : u = Value.ref a := rx
  refine getmeth_ok I1 ea c hm l ?_
  exact PySem.W.callWith_K0 (first := [.ref a]) I1.kIn hm.kp (run_fnS (us := [.ref a]) (vs := [.ref a]) (E := WE W) F hr hb (passAt tk σ) I1 (.cons rfl .nil) q)
theorem pe_g0 {x : Str} {ps : List Str} {k : Nat} (G : GFn X.prog X.w X.K X.mg X.base x k ps sp) (hr : Room k X.A) (tk : Takes X W) (hg : Gl X x := by rfl) (hdb : (x == ("__debug__" : Str)) = false := by decide) :
    PE X (.Call (.Name x p) [] [] pos) (tG sp W tNil) := by
  obtain ⟨f, fd, hm, hk, hb, F⟩ := G.ex
  refine ⟨fun pins s σ H Q I h => ?_⟩
  refine wpAny_Call_Name_kw (ld_glob I hg hm ?_ hdb)
  exact PySem.W.callWith_K0 I.kIn hk (run_fnS (us := []) (vs := []) (E := WE W) F hr hb (passAt tk σ) I .nil h)
end

/-- what a def may let out, whatever the world -/
def CXe (P : Program) : CXT := fun o H s E u s' => ∃ w, L2.CX P w o H s E u s'
theorem fnOk_e {P : Program} {w : World} {K : PySem.W.Frag} {mg : Str → Option Value} {base : Heap} {k : Nat} {f : Addr} {fd : FuncData} {ps : List Str} {sp : Sp} (F : FnOk P w K mg base (L2.CX P w) k f fd ps sp) : FnOk P w K mg base (CXe P) k f fd ps sp :=
  ⟨F.len, fun A outer s H args us vs Q E hr e0 hb r h => codeAny_mono (F.run A outer s H args us vs Q E hr e0 hb r h) fun res s' hq => by
    cases res with
    | error e => exact ⟨w, hq⟩
    | ok fl => cases fl <;> exact hq⟩
theorem cxe_no {P : Program} {H : Hp} {s : Shared} {e : Value} {s' : Shared} (h : CXe P [] H s (fun _ _ _ => False) e s') : False := by
  obtain ⟨_, _, _, _, _, _, _, _, _, _, _, _, _, hE⟩ := h
  exact hE
/-! ### the calls' readings by names -/
def yLen (K : PySem.W.Frag) : List V → Hp → VK → Prop := fun xs H Q => ∃ x n, xs = [x] ∧ LenV K x H n ∧ Q (.int n) H
def yMin2 : List V → Hp → VK → Prop := fun xs H Q => ∃ i j, xs = [.int i, .int j] ∧ Q (.int (if j < i then j else i)) H
def yMax2 : List V → Hp → VK → Prop := fun xs H Q => ∃ i j, xs = [.int i, .int j] ∧ Q (.int (if j > i then j else i)) H
def yAbs : List V → Hp → VK → Prop := fun xs H Q => ∃ i, xs = [.int i] ∧ Q (.int (if i < 0 then -i else i)) H
def yInt : List V → Hp → VK → Prop := fun xs H Q => (∃ i, xs = [.int i] ∧ Q (.int i) H) ∨ ∃ k, xs = [.bl k] ∧ Q (.int (if k then 1 else 0)) H
def yList (K : PySem.W.Frag) : List V → Hp → VK → Prop := fun xs H Q => ∃ p ys, xs = [.ref p] ∧ (SqL K H p ys ∨ SqT K H p ys) ∧ ∀ l, H l = none → Q (.ref l) (upd H l (.lst ys))
def yTuple (K : PySem.W.Frag) : List V → Hp → VK → Prop := fun xs H Q => ∃ p ys, xs = [.ref p] ∧ ((SqL K H p ys ∧ ∀ l, H l = none → Q (.ref l) (upd H l (.tup ys))) ∨ (SqT K H p ys ∧ Q (.ref p) H))
section
variable {X : Cx}
theorem cy_len : CallR X (.builtin "len") (yLen X.K) := call_len
theorem cy_min2 (hc : X.calm = true) : CallR X (.builtin "min") yMin2 := call_min2 hc
theorem cy_max2 (hc : X.calm = true) : CallR X (.builtin "max") yMax2 := call_max2 hc
theorem cy_abs : CallR X (.builtin "abs") yAbs := call_abs
theorem cy_int : CallR X (.type "int") yInt := call_int1
theorem cy_list : CallR X (.type "list") (yList X.K) := call_list_of
theorem cy_tuple : CallR X (.type "tuple") (yTuple X.K) := call_tuple_of
end
/-! ### small rules -/
section
variable {X : Cx}
/-- a module's whole number -/
theorem pe_gi {x : Str} {i : Int} {p : Pos} (h : ∃ t, X.mg x = some (.int i t)) (hg : Gl X x := by rfl) (hd : (x == ("__debug__" : Str)) = false := by decide) : PE X (.Name x p) (tC (.int i)) := by
  obtain ⟨t, h⟩ := h
  exact pe_glob hg h ⟨t, rfl⟩ hd
/-- walked in the one way or the other -/
def iOr (w1 w2 : TI) : TI := fun σ H R => w1 σ H R ∨ w2 σ H R
theorem pi_or {tg l : Expr} {w1 w2 : TI} (h1 : PI X tg l w1) (h2 : PI X tg l w2) : PI X tg l (iOr w1 w2) :=
  ⟨fun pins s σ H R I h => h.elim (h1.run pins s σ H R I) (h2.run pins s σ H R I)⟩
/-- a list or a tuple, walked -/
theorem pi_seq {tg l : Expr} {tl : TE} (hl : PE X l tl) : PI X tg l (iOr (iList X.K tl) (iTup X.K tl)) := pi_or (pi_list hl) (pi_tup hl)
theorem hu65 {A : Around} {k : Nat} (hr : Room k A) : A.units + 65 < cLine := by
  have := hr.un
  omega
end
end Rn

/-! readings of typed data. -/
namespace Rn
open PySem PySem.Spec PyProof.Rows L2
open PySem.W (Datum Tup)

/-! ### lists: of our own making, changing -/
section
variable {K : PySem.W.Frag} {S : List Addr} {F H F' H' G : Hp} {p q : Addr} {v : V} {vs : List V} {α β : Type} [DecidableEq α] [Datum α] [DecidableEq β] [Datum β] {x : α} {xs ys : List α} {o : HO}
/-- a list made by the text -/
def Ld (K : PySem.W.Frag) (F : Hp) (v : V) {α : Type} [DecidableEq α] [Datum α] (xs : List α) : Prop := ∃ a vs, v = .ref a ∧ F a = some (.lst vs) ∧ RpA K F vs xs
theorem Ld.ext {v : V} {α : Type} [DecidableEq α] [Datum α] {xs : List α} (h : Ld K F v xs) (e : Xt F H) : Ld K H v xs := by
  obtain ⟨a, vs, h1, h2, h3⟩ := h
  exact ⟨a, vs, h1, e _ _ h2, h3.ext e⟩
theorem Ld.rp {v : V} {α : Type} [DecidableEq α] [Datum α] {xs : List α} (h : Ld K F v xs) : Rp K F v xs := by
  obtain ⟨a, vs, rfl, h2, h3⟩ := h
  exact rp_lst (.inl (.inl h2)) h3
theorem ld_of (h : F p = some (.lst vs)) (r : RpA K F vs xs) : Ld K F (.ref p) xs := ⟨p, vs, rfl, h, r⟩
/-- a list that changes -/
def Mu (K : PySem.W.Frag) (F H : Hp) (p : Addr) {α : Type} [DecidableEq α] [Datum α] (xs : List α) : Prop := F p = none ∧ ∃ vs, H p = some (.lst vs) ∧ RpA K F vs xs
theorem Mu.gr {α : Type} {i1 : DecidableEq α} {i2 : Datum α} {xs : List α} (m : Mu K F H p xs) (g : Gr S F H F' H') (n : p ∉ S) : Mu K F' H' p xs := by
  obtain ⟨h1, vs, h2, h3⟩ := m
  exact ⟨g.nw p (by rw [h2]; exact nofun) h1, vs, g.hh p _ n h2, h3.ext g.ff⟩
theorem Mu.gr0 {α : Type} {i1 : DecidableEq α} {i2 : Datum α} {xs : List α} (m : Mu K F H p xs) (g : Gr [] F H F' H') : Mu K F' H' p xs := m.gr g (fun h => nomatch h)
theorem Mu.by {α : Type} {i1 : DecidableEq α} {i2 : Datum α} {xs : List α} (g : Gr S F H F' H') (m : Mu K F H p xs) (n : p ∉ S) : Mu K F' H' p xs := m.gr g n
/-- it stays from here on -/
theorem Mu.frz {α : Type} [DecidableEq α] [Datum α] {xs : List α} (m : Mu K F H p xs) (e : Xt F H) : ∃ F', Xt F' H ∧ Xt F F' ∧ Ld K F' (.ref p) xs ∧ (∀ S F0 H0, Gr S F0 H0 F H → H0 p = none → Gr S F0 H0 F' H) ∧ ∀ q, q ≠ p → F q = none → F' q = none := by
  obtain ⟨h1, vs, h2, h3⟩ := m
  refine ⟨upd F p (.lst vs), e.updF h2, e.frz h1, ⟨p, vs, rfl, upd_same, h3.ext (e.frz h1)⟩, fun S F0 H0 g n => Gr.frz e h1 h2 g n, fun q n h => ?_⟩
  rw [upd_ne n]; exact h
/-- v is a list to be read -/
def Sees (K : PySem.W.Frag) (F H : Hp) (v : V) {α : Type} [DecidableEq α] [Datum α] (xs : List α) : Prop := ∃ a vs, v = .ref a ∧ SqL K H a vs ∧ RpA K F vs xs
theorem Rp.sees {v : V} {α : Type} [DecidableEq α] [Datum α] {xs : List α} (h : Rp K F v xs) (e : Xt F H) : Sees K F H v xs := by
  obtain ⟨a, vs, h1, h2, h3⟩ := h.lst
  exact ⟨a, vs, h1, sqL_ext e h2, h3⟩
theorem Mu.sees {α : Type} [DecidableEq α] [Datum α] {xs : List α} (m : Mu K F H p xs) : Sees K F H (.ref p) xs := by
  obtain ⟨h1, vs, h2, h3⟩ := m
  exact ⟨p, vs, rfl, .inl (.inl h2), h3⟩
/-- v is a tuple to be read -/
def SeesT (K : PySem.W.Frag) (F H : Hp) (v : V) {α : Type} [DecidableEq α] [Datum α] (xs : List α) : Prop := ∃ a vs, v = .ref a ∧ SqT K H a vs ∧ RpA K F vs xs
theorem Rp.seesT {v : V} {α : Type} [DecidableEq α] [Datum α] {xs : List α} (h : Rp K F v (Tup.mk xs)) (e : Xt F H) : SeesT K F H v xs := by
  obtain ⟨a, vs, h1, h2, h3⟩ := h.tup
  exact ⟨a, vs, h1, sqT_ext e h2, h3⟩
end

/-! ### whole numbers -/
theorem ite_min (i j : Int) : (if j < i then j else i) = min i j := by rw [Int.min_def]; split <;> split <;> omega
theorem ite_max (i j : Int) : (if j > i then j else i) = max i j := by rw [Int.max_def]; split <;> split <;> omega
def lmin : List Int → Int
  | [] => 0
  | [x] => x
  | x :: y :: r => min x (lmin (y :: r))
theorem lmin_mem : ∀ {xs : List Int}, xs ≠ [] → lmin xs ∈ xs
  | [x], _ => by simp [lmin]
  | x :: y :: r, _ => by
    have h := lmin_mem (xs := y :: r) (by simp)
    rw [lmin, Int.min_def]
    split
    · simp
    · exact List.mem_cons_of_mem _ h
theorem lmin_le : ∀ {xs : List Int} {x : Int}, x ∈ xs → lmin xs ≤ x
  | [x], y, h => by simp at h; subst h; simp [lmin]
  | x :: y :: r, z, h => by
    rw [lmin, Int.min_def]
    rcases List.mem_cons.mp h with e | e
    · subst e; split <;> omega
    · have := lmin_le e; split <;> omega
theorem lmin_eq {xs : List Int} {m : Int} (h : m ∈ xs) (k : ∀ y, y ∈ xs → m ≤ y) : m = lmin xs := by
  have h1 := lmin_le h
  have h2 := k _ (lmin_mem (List.ne_nil_of_mem h))
  omega
def lmax : List Int → Int
  | [] => 0
  | [x] => x
  | x :: y :: r => max x (lmax (y :: r))
theorem lmax_mem : ∀ {xs : List Int}, xs ≠ [] → lmax xs ∈ xs
  | [x], _ => by simp [lmax]
  | x :: y :: r, _ => by
    have h := lmax_mem (xs := y :: r) (by simp)
    rw [lmax, Int.max_def]
    split
    · exact List.mem_cons_of_mem _ h
    · simp
theorem le_lmax : ∀ {xs : List Int} {x : Int}, x ∈ xs → x ≤ lmax xs
  | [x], y, h => by simp at h; subst h; simp [lmax]
  | x :: y :: r, z, h => by
    rw [lmax, Int.max_def]
    rcases List.mem_cons.mp h with e | e
    · subst e; split <;> omega
    · have := le_lmax e; split <;> omega
theorem lmax_eq {xs : List Int} {m : Int} (h : m ∈ xs) (k : ∀ y, y ∈ xs → y ≤ m) : m = lmax xs := by
  have h1 := le_lmax h
  have h2 := k _ (lmax_mem (List.ne_nil_of_mem h))
  omega

/-! ### readings -/
def cutL {α : Type} (xs : List α) (lo hi : Option Int) : List α := (xs.drop (HT.sIx xs.length 0 lo)).take (HT.sIx xs.length xs.length hi - HT.sIx xs.length 0 lo)
theorem cutL_len {α : Type} (xs : List α) (lo hi : Option Int) : (cutL xs lo hi).length ≤ xs.length := by
  unfold cutL
  rw [List.length_take, List.length_drop]
  omega
theorem sIx_pos (n d : Nat) {k : Int} (h : 0 ≤ k) : HT.sIx n d (some k) = min k.toNat n := by
  show (if k < 0 then (k + (n : Int)).toNat else min k.toNat n) = _
  rw [if_neg (by omega)]
theorem cutL_to {α : Type} {xs : List α} {k : Int} (h : 0 ≤ k) : cutL xs none (some k) = xs.take k.toNat := by
  unfold cutL
  rw [sIx_pos _ _ h]
  show (xs.drop 0).take (min k.toNat xs.length - 0) = _
  rw [List.drop_zero, Nat.sub_zero]
  by_cases q : k.toNat ≤ xs.length
  · rw [Nat.min_eq_left q]
  · rw [Nat.min_eq_right (by omega), List.take_length, List.take_of_length_le (by omega)]
theorem cutL_from {α : Type} {xs : List α} {k : Int} (h : 0 ≤ k) : cutL xs (some k) none = xs.drop k.toNat := by
  unfold cutL
  rw [sIx_pos _ _ h]
  show (xs.drop (min k.toNat xs.length)).take (xs.length - min k.toNat xs.length) = _
  by_cases q : k.toNat ≤ xs.length
  · rw [Nat.min_eq_left q]
    exact List.take_of_length_le (by rw [List.length_drop]; omega)
  · rw [Nat.min_eq_right (by omega), List.drop_length, List.drop_of_length_le (by omega)]
    simp
section
variable {K : PySem.W.Frag} {S : List Addr} {F H F' H' G : Hp} {p q a b : Addr} {v w : V} {vs ws : List V} {α β : Type} [DecidableEq α] [Datum α] [DecidableEq β] [Datum β] {x y : α} {xs ys : List α} {o : HO} {Q : VK} {i j : Int} {ns : List Int} {lo hi : Option Int}
theorem RpA.cut {vs : List V} {xs : List α} (h : RpA K F vs xs) (lo hi : Option Int) : RpA K F (cutV vs lo hi) (cutL xs lo hi) := by
  unfold cutV cutL
  rw [h.length]
  exact (h.drop _).take _
theorem RpA.mem {vs : List V} {xs : List α} (h : RpA K F vs xs) {i : Nat} {v : V} (e : vs[i]? = some v) : ∃ x, xs[i]? = some x ∧ Rp K F v x := h.at' e
theorem q_len (h : Sees K F H v xs) (k : Q (.int (xs.length : Nat)) H) : yLen K [v] H Q := by
  obtain ⟨a, vs, rfl, h1, h2⟩ := h
  exact ⟨_, vs.length, rfl, .inl ⟨vs, h1, rfl⟩, by rw [h2.length]; exact k⟩
theorem q_lenT (h : SeesT K F H v xs) (k : Q (.int (xs.length : Nat)) H) : yLen K [v] H Q := by
  obtain ⟨a, vs, rfl, h1, h2⟩ := h
  exact ⟨_, vs.length, rfl, .inr ⟨vs, h1, rfl⟩, by rw [h2.length]; exact k⟩
theorem q_sum (h : Sees K F H v ns) (k : Q (.int ns.sum) H) : rSum K [v] H Q := by
  obtain ⟨a, vs, rfl, h1, h2⟩ := h
  rw [h2.unints] at h1
  exact ⟨a, ns, rfl, h1, k⟩
theorem q_minL (h : Sees K F H v ns) (hn : ns ≠ []) (k : Q (.int (lmin ns)) H) : rMin K [v] H Q := by
  obtain ⟨a, vs, rfl, h1, h2⟩ := h
  rw [h2.unints] at h1
  exact ⟨a, ns, rfl, h1, List.length_pos_iff.mpr hn, fun m hm hl => by rw [lmin_eq hm hl]; exact k⟩
theorem q_maxL (h : Sees K F H v ns) (hn : ns ≠ []) (k : Q (.int (lmax ns)) H) : rMax K [v] H Q := by
  obtain ⟨a, vs, rfl, h1, h2⟩ := h
  rw [h2.unints] at h1
  exact ⟨a, ns, rfl, h1, List.length_pos_iff.mpr hn, fun m hm hl => by rw [lmax_eq hm hl]; exact k⟩
theorem q_min2 (k : Q (.int (min i j)) H) : yMin2 [V.int i, V.int j] H Q := ⟨i, j, rfl, by rw [ite_min]; exact k⟩
theorem q_max2 (k : Q (.int (max i j)) H) : yMax2 [V.int i, V.int j] H Q := ⟨i, j, rfl, by rw [ite_max]; exact k⟩
theorem q_abs (k : Q (.int (i.natAbs : Nat)) H) : yAbs [V.int i] H Q := ⟨i, rfl, by
  have e : (if i < 0 then -i else i) = (i.natAbs : Nat) := by split <;> omega
  rw [e]; exact k⟩
theorem q_int1 (k : Q (.int i) H) : yInt [V.int i] H Q := .inl ⟨i, rfl, k⟩
theorem atI_ok {γ : Type} {zs : List γ} (h0 : 0 ≤ i) (h1 : i.toNat < zs.length) : atI zs i = some zs[i.toNat] := by
  have e : ((i.toNat : Nat) : Int) = i := Int.toNat_of_nonneg h0
  have q := atI_nat (xs := zs) (j := i.toNat) (List.getElem?_eq_getElem h1)
  rw [e] at q
  exact q
theorem atI_neg {γ : Type} {zs : List γ} (h1 : zs ≠ []) : atI zs (-1) = zs.getLast? := by
  have hl := List.length_pos_iff.mpr h1
  unfold atI ixN
  rw [if_neg (by omega), if_pos (by omega)]
  show zs[(-1 + (zs.length : Int)).toNat]? = _
  rw [List.getLast?_eq_getElem?]
  congr 1
  omega
/-- xs[i] -/
theorem q_ix (h : Sees K F H v xs) (h0 : 0 ≤ i) (h1 : i.toNat < xs.length) (k : ∀ u, Rp K F u (xs[i.toNat]'h1) → Q u H) : rIx K v (.int i) H Q := by
  obtain ⟨a, vs, rfl, h2, h3⟩ := h
  have hv : i.toNat < vs.length := by rw [h3.length]; exact h1
  obtain ⟨x, hx, hr⟩ := h3.at' (List.getElem?_eq_getElem hv)
  rw [List.getElem?_eq_getElem h1] at hx
  cases hx
  exact zIx_lst h2 (atI_ok h0 hv) (k _ hr)
theorem q_ixT (h : SeesT K F H v xs) (h0 : 0 ≤ i) (h1 : i.toNat < xs.length) (k : ∀ u, Rp K F u (xs[i.toNat]'h1) → Q u H) : rIx K v (.int i) H Q := by
  obtain ⟨a, vs, rfl, h2, h3⟩ := h
  have hv : i.toNat < vs.length := by rw [h3.length]; exact h1
  obtain ⟨x, hx, hr⟩ := h3.at' (List.getElem?_eq_getElem hv)
  rw [List.getElem?_eq_getElem h1] at hx
  cases hx
  exact zIx_tup h2 (atI_ok h0 hv) (k _ hr)
/-- the i-th whole number -/
abbrev iat (ns : List Int) (i : Int) : Int := ns.getD i.toNat 0
theorem q_ixI (h : Sees K F H v ns) (h0 : 0 ≤ i) (h1 : i.toNat < ns.length) (k : Q (.int (iat ns i)) H) : rIx K v (.int i) H Q :=
  q_ix h h0 h1 fun u r => by
    rw [r.int]
    have e : iat ns i = ns[i.toNat] := by simp [iat, List.getD, h1]
    rw [← e]; exact k
theorem q_ixTI (h : SeesT K F H v ns) (h0 : 0 ≤ i) (h1 : i.toNat < ns.length) (k : Q (.int (iat ns i)) H) : rIx K v (.int i) H Q :=
  q_ixT h h0 h1 fun u r => by
    rw [r.int]
    have e : iat ns i = ns[i.toNat] := by simp [iat, List.getD, h1]
    rw [← e]; exact k
theorem q_last (h : Sees K F H v ns) (h1 : ns ≠ []) (k : Q (.int (ns.getLast h1)) H) : rIx K v (.int (-1)) H Q := by
  obtain ⟨a, vs, rfl, h2, h3⟩ := h
  rw [h3.unints] at h2
  refine zIx_lst h2 (v := .int (ns.getLast h1)) ?_ k
  rw [atI_neg (by simpa using h1), List.getLast?_map, List.getLast?_eq_some_getLast h1]
  rfl
/-- a new object that stays, that changes -/
theorem q_newF (e : Xt F H) (k : ∀ p F' H', H p = none → Gr [] F H F' H' → F' p = some o → Q (.ref p) H') : kNew o Q H := fun p n => k p _ _ n (Gr.newF e n) upd_same
theorem q_newM (e : Xt F H) (k : ∀ p H', H p = none → Gc [] F H H' → F p = none → H' p = some o → Q (.ref p) H') : kNew o Q H := fun p n => k p _ n ⟨Gr.newM e n⟩ (by
  cases h : F p with
  | none => rfl
  | some u => rw [e p u h] at n; cases n) upd_same
/-- xs[lo:hi] -/
theorem q_sl (h : Sees K G H v xs) (e' : Xt G F) (e : Xt F H) (k : ∀ p F' H', H p = none → Gr [] F H F' H' → Ld K F' (.ref p) (cutL xs lo hi) → Q (.ref p) H') : rSlZ K v lo hi H Q := by
  obtain ⟨a, vs, rfl, h2, h3⟩ := h
  exact zSl_lst h2 (q_newF e fun p F' H' n g f => k p F' H' n g (ld_of f ((h3.cut lo hi).ext (e'.trans g.ff))))
theorem q_slM (h : Sees K G H v xs) (e' : Xt G F) (e : Xt F H) (k : ∀ p H', H p = none → Gc [] F H H' → Mu K F H' p (cutL xs lo hi) → Q (.ref p) H') : rSlZ K v lo hi H Q := by
  obtain ⟨a, vs, rfl, h2, h3⟩ := h
  exact zSl_lst h2 (q_newM e fun p H' n g f h => k p H' n g ⟨f, _, h, (h3.cut lo hi).ext e'⟩)
/-- list(xs) -/
theorem q_list (h : Sees K G H v xs) (e' : Xt G F) (e : Xt F H) (k : ∀ p F' H', H p = none → Gr [] F H F' H' → Ld K F' (.ref p) xs → Q (.ref p) H') : yList K [v] H Q := by
  obtain ⟨a, vs, rfl, h2, h3⟩ := h
  exact ⟨a, vs, rfl, .inl h2, q_newF e fun p F' H' n g f => k p F' H' n g (ld_of f (h3.ext (e'.trans g.ff)))⟩
theorem q_listM (h : Sees K G H v xs) (e' : Xt G F) (e : Xt F H) (k : ∀ p H', H p = none → Gc [] F H H' → Mu K F H' p xs → Q (.ref p) H') : yList K [v] H Q := by
  obtain ⟨a, vs, rfl, h2, h3⟩ := h
  exact ⟨a, vs, rfl, .inl h2, q_newM e fun p H' n g f h => k p H' n g ⟨f, _, h, h3.ext e'⟩⟩
theorem q_listT (h : SeesT K G H v xs) (e' : Xt G F) (e : Xt F H) (k : ∀ p F' H', H p = none → Gr [] F H F' H' → Ld K F' (.ref p) xs → Q (.ref p) H') : yList K [v] H Q := by
  obtain ⟨a, vs, rfl, h2, h3⟩ := h
  exact ⟨a, vs, rfl, .inr h2, q_newF e fun p F' H' n g f => k p F' H' n g (ld_of f (h3.ext (e'.trans g.ff)))⟩
/-- tuple(xs) -/
theorem q_tuple (h : Sees K G H v xs) (e' : Xt G F) (e : Xt F H) (k : ∀ u F' H', Gr [] F H F' H' → Rp K F' u (Tup.mk xs) → Q u H') : yTuple K [v] H Q := by
  obtain ⟨a, vs, rfl, h2, h3⟩ := h
  exact ⟨a, vs, rfl, .inl ⟨h2, q_newF e fun p F' H' n g f => k _ F' H' g (rp_tup (.inl (.inl f)) (h3.ext (e'.trans g.ff)))⟩⟩
theorem q_tupleT {v : V} (h : Rp K G v (Tup.mk xs)) (e' : Xt G F) (e : Xt F H) (k : ∀ u F' H', Gr [] F H F' H' → Rp K F' u (Tup.mk xs) → Q u H') : yTuple K [v] H Q := by
  have h0 := h
  obtain ⟨a, vs, rfl, h2, h3⟩ := h.tup
  exact ⟨a, vs, rfl, .inr ⟨sqT_ext (e'.trans e) h2, k _ F H (Gr.refl e) (h0.ext e')⟩⟩
/-- xs + ys -/
theorem q_cat (h : Ld K F v xs) (h' : Ld K G w ys) (e : Xt F H) (e' : Xt G F) (hl : xs.length + ys.length ≤ sizeLine) (k : ∀ p F' H', H p = none → Gr [] F H F' H' → Ld K F' (.ref p) (xs ++ ys) → Q (.ref p) H') : rAddZ K v w H Q := by
  obtain ⟨a, vs, rfl, h2, h3⟩ := h
  obtain ⟨b, ws, rfl, h4, h5⟩ := h'
  exact zAdd_lst (e _ _ h2) ((e'.trans e) _ _ h4) (by rw [h3.length, h5.length]; exact hl) (q_newF e fun p F' H' n g f => k p F' H' n g (ld_of f ((h3.append (h5.ext e')).ext g.ff)))
/-- [x] * k -/
theorem RpA.rep1 {v : V} {x : α} (h : Rp K F v x) : ∀ n : Nat, RpA K F (List.replicate n [v]).flatten (List.replicate n x)
  | 0 => .nil
  | n + 1 => by
    rw [List.replicate_succ, List.replicate_succ, List.flatten_cons]
    exact RpA.cons h (RpA.rep1 h n)
theorem q_rep1 (ha : F a = some (.lst [v])) (h : Rp K F v x) (e : Xt F H) (h0 : 0 ≤ j) (hl : j ≤ 16777216) (k : ∀ p F' H', H p = none → Gr [] F H F' H' → Ld K F' (.ref p) (List.replicate j.toNat x) → Q (.ref p) H') : rMulZ K (.ref a) (.int j) H Q :=
  zMul_lst (e _ _ ha) (by omega) (by omega) (by show 1 * j.toNat ≤ sizeLine; rw [sizeLine_eq]; omega) (q_newF e fun p F' H' n g f => k p F' H' n g (ld_of f ((RpA.rep1 h _).ext g.ff)))
/-- p.append(x) -/
theorem q_app (m : Mu K F H p xs) (e : Xt F H) (h : Rp K F v x) (hl : xs.length < sizeLine) (k : ∀ H', Gc [p] F H H' → Mu K F H' p (xs ++ [x]) → Q .non H') : rAppend (.ref p) [v] H Q := by
  obtain ⟨h1, vs, h2, h3⟩ := m
  exact ⟨p, vs, v, rfl, rfl, h2, by rw [h3.length]; exact hl, k _ ⟨Gr.chg e h1 (by rw [h2]; exact nofun)⟩ ⟨h1, _, upd_same, h3.snoc h⟩⟩
theorem q_tyL (h : Sees K F H v xs) : tyV K "list" v H := by
  obtain ⟨a, vs, rfl, h2, h3⟩ := h
  exact .inl ⟨rfl, vs, h2⟩
end
end Rn

/-! loops and comprehensions over typed data; the pool of draws. -/
namespace Rn
open PySem PySem.Spec PyProof.Rows L2
open PySem.W (Datum Tup)

/-- J walks over xs, which stand in F -/
structure Feed (K : PySem.W.Frag) (F : Hp) (J : It) {α : Type} [DecidableEq α] [Datum α] (xs : List α) : Prop where
  ex : ∃ Y, Walk J xs.length (fun H => Xt F H) Y ∧ ∀ i F1 H1 x H', Xt F F1 → Xt F1 H1 → Y i H1 x H' → ∃ F', Gr [] F1 H1 F' H' ∧ ∃ z, xs[i]? = some z ∧ Rp K F' x z
section
variable {K : PySem.W.Frag} {S : List Addr} {F F0 H F' H' G : Hp} {p q a b : Addr} {v w : V} {vs ws : List V} {α β : Type} [DecidableEq α] [Datum α] [DecidableEq β] [Datum β] {x y : α} {xs : List α} {ys : List β} {lo : Int} {n : Nat} {J : It}
theorem Rp.feed {v : V} {xs : List α} (h : Rp K F v xs) : ∃ a, v = .ref a ∧ (∃ vs, SqL K F a vs) ∧ Feed K F (Itl K a) xs := by
  obtain ⟨a, vs, rfl, h1, h2⟩ := h.lst
  refine ⟨a, rfl, ⟨vs, h1⟩, ⟨YAt vs, ?_, fun i F1 H1 x H' e1 e2 y => ?_⟩⟩
  · rw [← h2.length]
    exact walk_list.mono (fun H e => sqL_ext e h1) fun _ _ _ _ _ _ y => y
  · obtain ⟨rfl, hx⟩ := y
    obtain ⟨z, hz, r⟩ := h2.at' hx
    exact ⟨F1, Gr.refl e2, z, hz, r.ext e1⟩
theorem Rp.feedT {v : V} {xs : List α} (h : Rp K F v (Tup.mk xs)) : ∃ a, v = .ref a ∧ (∃ vs, SqT K F a vs) ∧ Feed K F (Itt K a) xs := by
  obtain ⟨a, vs, rfl, h1, h2⟩ := h.tup
  refine ⟨a, rfl, ⟨vs, h1⟩, ⟨YAt vs, ?_, fun i F1 H1 x H' e1 e2 y => ?_⟩⟩
  · rw [← h2.length]
    exact walk_tup.mono (fun H e => sqT_ext e h1) fun _ _ _ _ _ _ y => y
  · obtain ⟨rfl, hx⟩ := y
    obtain ⟨z, hz, r⟩ := h2.at' hx
    exact ⟨F1, Gr.refl e2, z, hz, r.ext e1⟩
/-- lo, lo + 1, .. -/
def rng (lo : Int) (n : Nat) : List Int := (List.range n).map fun i => lo + (i : Nat)
theorem rng_length (lo : Int) (n : Nat) : (rng lo n).length = n := by simp [rng]
theorem rng_at {lo : Int} {n i : Nat} (h : i < n) : (rng lo n)[i]? = some (lo + (i : Nat)) := by simp [rng, h]
theorem rng_mem {lo o : Int} {n : Nat} : o ∈ rng lo n ↔ lo ≤ o ∧ o < lo + n := by
  unfold rng
  rw [List.mem_map]
  constructor
  · rintro ⟨i, hi, rfl⟩
    have := List.mem_range.mp hi
    omega
  · intro h
    exact ⟨(o - lo).toNat, List.mem_range.mpr (by omega), by omega⟩
theorem map_rng_ne {γ : Type} {f : Int → γ} {lo : Int} {n : Nat} (h : 0 < n) : (rng lo n).map f ≠ [] := by
  intro e
  have q := congrArg List.length e
  rw [List.length_map, rng_length] at q
  simp at q
  omega
theorem feed_rng : Feed K F (Itr lo n) (rng lo n) := by
  refine ⟨fun i H x H' => i < n ∧ (YFn fun i => V.int (lo + (i : Nat))) i H x H', ?_, fun i F1 H1 x H' e1 e2 y => ?_⟩
  · rw [rng_length]
    exact walk_range.mono (fun H e => trivial) fun _ _ _ _ hi _ y => ⟨hi, y⟩
  · obtain ⟨hi, rfl, rfl⟩ := y
    exact ⟨F1, Gr.refl e2, _, rng_at hi, rp_int _⟩
/-- enumerate -/
def enum {α : Type} (xs : List α) : List (Int × α) := (rng 0 xs.length).zip xs
theorem enum_length {α : Type} (xs : List α) : (enum xs).length = xs.length := by simp [enum, rng_length]
theorem enum_at {α : Type} {xs : List α} {i : Nat} {x : α} (h : xs[i]? = some x) : (enum xs)[i]? = some ((i : Int), x) := by
  have hi : i < xs.length := (List.getElem?_eq_some_iff.mp h).1
  rw [enum, List.getElem?_zip_eq_some]
  exact ⟨by rw [rng_at hi]; simp, h⟩
theorem Rp.feedE {v : V} {xs : List α} (h : Rp K F v xs) : ∃ a, v = .ref a ∧ (∃ vs, SqL K F a vs) ∧ Feed K F (Ite K a) (enum xs) := by
  obtain ⟨a, vs, rfl, h1, h2⟩ := h.lst
  refine ⟨a, rfl, ⟨vs, h1⟩, ⟨YPair (fun i => some (.int (i : Nat))) (fun i => vs[i]?), ?_, fun i F1 H1 x H' e1 e2 y => ?_⟩⟩
  · rw [enum_length, ← h2.length]
    exact walk_enum.mono (fun H e => sqL_ext e h1) fun _ _ _ _ _ _ y => y
  · obtain ⟨T, x, y, rfl, hn, rfl, hx, hy⟩ := y
    cases hx
    obtain ⟨z, hz, r⟩ := h2.at' hy
    exact ⟨_, Gr.newF e2 hn, _, enum_at hz, rp_pair (.inl (.inl upd_same)) (rp_int _) (r.ext (e1.trans (Gr.newF e2 hn).ff))⟩
theorem feed_zip {v w : V} (h : Rp K F v xs) (k : Rp K F w ys) : ∃ a b, v = .ref a ∧ w = .ref b ∧ (∃ vs, SqL K F a vs) ∧ (∃ vs, SqL K F b vs) ∧ Feed K F (Itz K a b) (xs.zip ys) := by
  obtain ⟨a, vs, rfl, h1, h2⟩ := h.lst
  obtain ⟨b, ws, rfl, k1, k2⟩ := k.lst
  refine ⟨a, b, rfl, rfl, ⟨vs, h1⟩, ⟨ws, k1⟩, ⟨YPair (fun i => vs[i]?) (fun i => ws[i]?), ?_, fun i F1 H1 x H' e1 e2 y => ?_⟩⟩
  · exact (walk_zip (xs := vs) (ys := ws) (by rw [List.length_zip, h2.length, k2.length])).mono (fun H e => ⟨sqL_ext e h1, sqL_ext e k1⟩) fun _ _ _ _ _ _ y => y
  · obtain ⟨T, x, y, rfl, hn, rfl, hx, hy⟩ := y
    obtain ⟨z, hz, r⟩ := h2.at' hx
    obtain ⟨z', hz', r'⟩ := k2.at' hy
    exact ⟨_, Gr.newF e2 hn, _, List.getElem?_zip_eq_some.mpr ⟨hz, hz'⟩, rp_pair (.inl (.inl upd_same)) (r.ext (e1.trans (Gr.newF e2 hn).ff)) (r'.ext (e1.trans (Gr.newF e2 hn).ff))⟩

/-- a for over typed data: N i holds of the slots, the part that stays and the heap at turn i -/
theorem for_feed (fd : Feed K F J xs) {g : TG} {tb : TS} {D : Ends} {σ : St} (N : Nat → St → Hp → Hp → Prop) (h0 : N 0 σ F0 H) (he : ∀ i σ F' H', i ≤ xs.length → N i σ F' H' → Xt F F' ∧ Xt F' H')
    (hs : ∀ i (hi : i < xs.length) x σ F1 H1 F2 H2, N i σ F1 H1 → Gr [] F1 H1 F2 H2 → Rp K F2 x (xs[i]'hi) → g x σ H2 fun σ2 H3 =>
      tb { D with nx := fun σ' H' => ∃ F', N (i + 1) σ' F' H', ct := fun σ' H' => ∃ F', N (i + 1) σ' F' H', bk := D.nx } σ2 H3) (hd : ∀ σ F' H', N xs.length σ F' H' → D.nx σ H') :
    ∃ W : Nat → Nat → St → Hp → Prop, (∃ m, W 0 m σ H) ∧ ∀ i m σ H, W i m σ H →
      (J.stop i H ∧ D.nx σ H) ∨ (J.go i H ∧ ∃ N : St → Hp → Prop, (∀ σ' H', N σ' H' → ∃ m', m' < m ∧ W (i + 1) m' σ' H') ∧ ∀ x H', J.yld i H x H' → g x σ H' fun σ2 H2 => tb { D with nx := N, ct := N, bk := D.nx } σ2 H2) := by
  obtain ⟨Y, w, hy⟩ := fd.ex
  refine for_it w (fun i σ H => ∃ F', N i σ F' H) ⟨_, h0⟩ (fun i σ H hi ⟨F', h⟩ => ?_) (fun i x σ H H' hi ⟨F', h⟩ y => ?_) fun σ H ⟨F', h⟩ => hd σ F' H h
  · obtain ⟨e1, e2⟩ := he i σ F' H hi h
    exact e1.trans e2
  · obtain ⟨e1, e2⟩ := he i σ F' H (Nat.le_of_lt hi) h
    obtain ⟨F2, g2, z, hz, r⟩ := hy i F' H x H' e1 e2 y
    rw [List.getElem?_eq_getElem hi] at hz
    cases hz
    exact hs i hi x σ F' H F2 H' h g2 r
/-- a comprehension over typed data -/
theorem lc_feed (fd : Feed K F J xs) {g : TG} {tt : TT} {te : TE} {wp : List Nat} {σ : St} {H1 : Hp} {D : Addr} {Qd : Hp → Prop} (I : Nat → List β → Hp → Hp → Prop) (e : Xt F H1) (hD : H1 D = none) (hS : ∀ p ∈ S, H1 p ≠ none)
    (hn : xs.length ≤ sizeLine) (h0 : ∀ H', Gc [] F H1 H' → I 0 [] F H')
    (hs : ∀ i (hi : i < xs.length) ys F1 H2 x F3 H3 (T : V → Hp → Prop) (N : Hp → Prop), Gr S F H1 F1 H2 → Mu K F1 H2 D ys → I i ys F1 H2 → Gr [] F1 H2 F3 H3 → Rp K F3 x (xs[i]'hi) →
      (∀ y F6 H6 z, Gr S F3 H3 F6 H6 → Rp K F6 y z → (∀ H7, Gc [D] F6 H6 H7 → I (i + 1) (ys ++ [z]) F6 H7) → T y H6) → (∀ F5 H5, Gr S F3 H3 F5 H5 → I (i + 1) ys F5 H5 → N H5) →
      g x (wipe σ wp) H3 fun σ2 H4 => wipe σ2 wp = wipe σ wp ∧ tt σ2 H4 fun b H5 => if b = true then te σ2 H5 T else N H5)
    (hd : ∀ ys F1 F2 H2, Gr S F H1 F1 H2 → I xs.length ys F1 H2 → Xt F1 F2 → (∀ q, q ≠ D → F1 q = none → F2 q = none) → Gr S F H1 F2 H2 → Ld K F2 (.ref D) ys → Qd H2) :
    ∃ W : Nat → Nat → Hp → Prop, (∃ m, W 0 m (upd H1 D (.lst []))) ∧ ∀ i m H, W i m H →
      (J.stop i H ∧ Qd H) ∨ (J.go i H ∧ ∃ Nx : Hp → Prop, (∀ H', Nx H' → ∃ m', m' < m ∧ W (i + 1) m' H') ∧ ∀ x H', J.yld i H x H' → g x (wipe σ wp) H' fun σ2 H2 => wipe σ2 wp = wipe σ wp ∧ tt σ2 H2 fun b H3 =>
        if b = true then te σ2 H3 fun y H4 => ∃ acc, H4 D = some (.lst acc) ∧ acc.length < sizeLine ∧ Nx (upd H4 D (.lst (acc ++ [y]))) else Nx H3) := by
  obtain ⟨Y, w, hy⟩ := fd.ex
  have hDS : D ∉ S := fun m => hS D m hD
  have nfD : F D = none := by
    cases h : F D with
    | none => rfl
    | some u => rw [e D u h] at hD; cases hD
  refine lc_it w (fun i H => ∃ F1 ys, ys.length ≤ i ∧ Gr S F H1 F1 H ∧ Mu K F1 H D ys ∧ I i ys F1 H) ⟨F, [], Nat.le_refl _, (Gr.newM e hD).weak, ⟨nfD, [], upd_same, .nil⟩, h0 _ ⟨Gr.newM e hD⟩⟩ (fun i H hi ⟨F1, ys, _, g, _, _⟩ => g.ff.trans g.fh) (fun i x H H' hi ⟨F1, ys, hl, gg, m, hI⟩ y => ?_) fun H ⟨F1, ys, hl, gg, m, hI⟩ => ?_
  · obtain ⟨F3, g3, z, hz, r⟩ := hy i F1 H x H' gg.ff gg.fh y
    rw [List.getElem?_eq_getElem hi] at hz
    cases hz
    refine hs i hi ys F1 H x F3 H' _ _ gg m hI g3 r (fun y F6 H6 z g6 r6 h6 => ?_) fun F5 H5 g5 h5 => ?_
    · have m6 := (m.gr0 g3).gr g6 hDS
      obtain ⟨n6, acc, ha, rr⟩ := m6
      have gc : Gr [D] F6 H6 F6 (upd H6 D (.lst (acc ++ [y]))) := Gr.chg g6.fh n6 (by rw [ha]; exact nofun)
      have sz := rr.length
      refine ⟨acc, ha, by omega, F6, ys ++ [z], by simp; omega, ?_, ⟨n6, _, upd_same, rr.snoc r6⟩, h6 _ ⟨gc⟩⟩
      refine ((gg.tr0 g3).trans g6 fun p hp => .inl hp).trans gc fun p hp => .inr ?_
      rw [List.mem_singleton.mp hp]; exact hD
    · exact ⟨F5, ys, by omega, (gg.tr0 g3).trans g5 fun p hp => .inl hp, (m.gr0 g3).gr g5 hDS, h5⟩
  · obtain ⟨F2, x1, x2, x3, x4, x5⟩ := m.frz gg.fh
    exact hd ys F1 F2 H gg hI x2 x5 (x4 _ _ _ gg hD) x3
/-- a comprehension without a test that only makes things: f item by item -/
theorem lc_map (fd : Feed K F J xs) (f : α → β) {g : TG} {tt : TT} {te : TE} {wp : List Nat} {σ : St} {H1 : Hp} {D : Addr} {Qd : Hp → Prop} (e : Xt F H1) (hD : H1 D = none) (hn : xs.length ≤ sizeLine)
    (hs : ∀ z F2 H2 x F3 H3 (T : V → Hp → Prop), z ∈ xs → Gr [] F H1 F2 H2 → Gr [] F2 H2 F3 H3 → Rp K F3 x z → (∀ y F6 H6, Gr [] F3 H3 F6 H6 → Rp K F6 y (f z) → T y H6) →
      ∀ N : Hp → Prop, g x (wipe σ wp) H3 fun σ2 H4 => wipe σ2 wp = wipe σ wp ∧ tt σ2 H4 fun b H5 => if b = true then te σ2 H5 T else N H5)
    (hd : ∀ F2 H2, Gr [] F H1 F2 H2 → Ld K F2 (.ref D) (xs.map f) → Qd H2) :
    ∃ W : Nat → Nat → Hp → Prop, (∃ m, W 0 m (upd H1 D (.lst []))) ∧ ∀ i m H, W i m H →
      (J.stop i H ∧ Qd H) ∨ (J.go i H ∧ ∃ Nx : Hp → Prop, (∀ H', Nx H' → ∃ m', m' < m ∧ W (i + 1) m' H') ∧ ∀ x H', J.yld i H x H' → g x (wipe σ wp) H' fun σ2 H2 => wipe σ2 wp = wipe σ wp ∧ tt σ2 H2 fun b H3 =>
        if b = true then te σ2 H3 fun y H4 => ∃ acc, H4 D = some (.lst acc) ∧ acc.length < sizeLine ∧ Nx (upd H4 D (.lst (acc ++ [y]))) else Nx H3) := by
  refine lc_feed (S := []) fd (β := β) (fun i ys _ _ => ys = (xs.take i).map f) e hD (fun _ h => nomatch h) hn (fun _ _ => by simp) (fun i hi ys F1 H2 x F3 H3 T N g1 m hI g2 r k1 _ => ?_) fun ys F1 F2 H2 _ hI _ _ g l => ?_
  · exact hs xs[i] F1 H2 x F3 H3 T (List.getElem_mem hi) g1 g2 r (fun y F6 H6 g6 r6 => k1 y F6 H6 _ g6 r6 fun _ _ => by rw [hI, List.take_add_one, List.getElem?_eq_getElem hi, List.map_append]; rfl) N
  · rw [hI, List.take_length] at l
    exact hd F2 H2 g l
theorem Mu.frz_none {K : PySem.W.Frag} {F H : Hp} {p : Addr} {α : Type} [DecidableEq α] [Datum α] {xs : List α} (m : Mu K F H p xs) : F p = none := m.1
theorem Mu.some {K : PySem.W.Frag} {F H : Hp} {p : Addr} {α : Type} [DecidableEq α] [Datum α] {xs : List α} (m : Mu K F H p xs) : H p ≠ none := by
  obtain ⟨_, vs, h, _⟩ := m
  rw [h]; exact nofun
theorem cdiv_small {i j : Int} (h : 0 < j) (k : j < 2 ^ 200) : CDivW i j := wide_div h (b := 200) (by omega) (by decide) (by decide)
theorem cmul_l {i j : Int} (h : -(2 ^ 64) < i) (k : i < 2 ^ 64) : CMul i j := .inl ⟨h, k⟩
theorem cmul_r {i j : Int} (h : -(2 ^ 64) < j) (k : j < 2 ^ 64) : CMul i j := .inr ⟨h, k⟩
theorem cpow_small {i j : Int} (h : 0 ≤ j) (k : j ≤ 1000000) (l : i.natAbs < 2 ^ 64) : CPow i j := ⟨h, k, l⟩
end

/-! ### more readings of the combinators -/
section
variable {σ : St} {H : Hp} {Q : VK} {T : TA} {C : Addr} {sp : Sp} {W : WX} {ta : TE} {m : Str}
theorem rd_mt (h : ta σ H fun x H1 => ∃ a dx fs, x = .ref a ∧ H1 a = some (.ins C dx fs) ∧ fs.lookup m = none ∧ T σ H1 fun vs H2 => sp (x :: vs) H2 Q fun c d H' => W c d σ H') : tMt C m sp W ta T σ H Q := h
end

/-! ### more small ones -/
theorem cxK {CX : CXT} {P : Program} {w : World} {K : PySem.W.Frag} {mg : Str → Option Value} {base : Heap} {N : List Str} {q : Str} {sc : Scope} {f : Addr} {cdv : Value} {A : Around} {outer : List Env} {s : Shared} {H : Hp} {E : XK} : (cxOf CX P w K mg base N q sc f cdv A outer s H E).K = K := rfl
theorem iteDT {p : Prop} {_ : Decidable p} {A B : Prop} (h : p) (k : A) : if decide p = true then A else B := by rw [decide_eq_true h]; exact iteT k
theorem iteDF {p : Prop} {_ : Decidable p} {A B : Prop} (h : ¬ p) (k : B) : if decide p = true then A else B := by rw [decide_eq_false h]; exact iteF k
theorem iteNot {b : Bool} {A B : Prop} (h : if b = true then B else A) : if (!b) = true then A else B := by
  cases b with
  | true => exact iteF (by simpa using h)
  | false => exact iteT (by simpa using h)
theorem zSet_raw {H : Hp} {p : Addr} {xs : List V} {k : Int} {j : Nat} {v : V} {Q : Hp → Prop} (h : H p = some (.lst xs)) (hj : ixN xs.length k = some j) (q : Q (upd H p (.lst (xs.set j v)))) : rSetL (.ref p) (.int k) v H Q := ⟨p, xs, k, j, rfl, rfl, h, hj, q⟩
theorem zIx_raw {K : PySem.W.Frag} {H : Hp} {p : Addr} {xs : List V} {i : Int} {v : V} {Q : VK} (h : H p = some (.lst xs)) (hv : atI xs i = some v) (q : Q v H) : rIx K (.ref p) (.int i) H Q := zIx_lst (.inl (.inl h)) hv q
theorem zIx_rawF {K : PySem.W.Frag} {F H : Hp} {p : Addr} {xs : List V} {i : Int} {v : V} {Q : VK} (h : F p = some (.lst xs)) (e : Xt F H) (hv : atI xs i = some v) (q : Q v H) : rIx K (.ref p) (.int i) H Q := zIx_lst (.inl (.inl (e _ _ h))) hv q
theorem zIx_rawT {K : PySem.W.Frag} {F H : Hp} {p : Addr} {xs : List V} {i : Int} {v : V} {Q : VK} (h : F p = some (.tup xs)) (e : Xt F H) (hv : atI xs i = some v) (q : Q v H) : rIx K (.ref p) (.int i) H Q := zIx_tup (.inl (.inl (e _ _ h))) hv q

theorem Gr.s0 {P : Addr → Prop} : ∀ p ∈ ([] : List Addr), P p := fun _ h => nomatch h
theorem Gr.n0 {p : Addr} : p ∉ ([] : List Addr) := fun h => nomatch h
/-! ### objects -/
section
variable {K : PySem.W.Frag} {S : List Addr} {F H F' H' : Hp} {p a x C dx : Addr} {o : HO} {v : V} {vs : List V} {f : Str} {fs : List (Str × V)} {Q : VK} {E : XK} {sp : Sp}
def kFl (K : PySem.W.Frag) (f : Str) (Q : VK) : VK := fun x H1 => ∃ a C dx fs v, x = .ref a ∧ H1 a = some (.ins C dx fs) ∧ Cls K C ∧ NoAttr K C f ∧ fs.lookup f = some v ∧ Q v H1
def kSf (K : PySem.W.Frag) (f : Str) (y : V) (R : Hp → Prop) : VK := fun x H2 => ∃ a C dx fs, x = .ref a ∧ H2 a = some (.ins C dx fs) ∧ Cls K C ∧ NoAttr K C f ∧ fs.length < 1000 ∧ R (upd H2 a (.ins C dx (putF f y fs)))
theorem rd_fl {te : TE} {σ : St} (h : te σ H (kFl K f Q)) : tFld K te f σ H Q := h
theorem rd_sf {te tv : TE} {D : Ends} {σ : St} (h : tv σ H fun y H1 => te σ H1 (kSf K f y (D.nx σ))) : sFld K te tv f D σ H := h
theorem q_fld (h : F a = some (.ins C dx fs)) (e : Xt F H) (c : Cls K C) (n : NoAttr K C f) (l : fs.lookup f = some v) (k : Q v H) : kFl K f Q (.ref a) H := ⟨a, C, dx, fs, v, rfl, e _ _ h, c, n, l, k⟩
theorem q_fldM (h : H a = some (.ins C dx fs)) (c : Cls K C) (n : NoAttr K C f) (l : fs.lookup f = some v) (k : Q v H) : kFl K f Q (.ref a) H := ⟨a, C, dx, fs, v, rfl, h, c, n, l, k⟩
theorem q_sfld {y : V} {R : Hp → Prop} (h : H a = some (.ins C dx fs)) (c : Cls K C) (n : NoAttr K C f) (l : fs.length < 1000) (k : R (upd H a (.ins C dx (putF f y fs)))) :
    kSf K f y R (.ref a) H := ⟨a, C, dx, fs, rfl, h, c, n, l, k⟩
def kMk (C : Addr) (sp : Sp) (E : XK) (Q : VK) : List V → Hp → Prop := fun vs H1 => ∀ x dx, H1 x = none → H1 dx = none → dx ≠ x → sp (.ref x :: vs) (upd (upd H1 dx (.own x)) x (.ins C dx [])) (fun v H2 => v = .non ∧ Q (.ref x) H2) E
/-- a new instance, free to change -/
theorem q_mk (e : Xt F H) (k : ∀ x dx H', H x = none → Gc [] F H H' → F x = none → H' x = some (.ins C dx []) → sp (.ref x :: vs) H' (fun v H2 => v = .non ∧ Q (.ref x) H2) E) :
    kMk C sp E Q vs H := by
  intro x dx n1 n2 ne
  have g1 := Gr.newM (o := .own x) e n2
  have n3 : upd H dx (.own x) x = none := by rw [upd_ne (Ne.symm ne)]; exact n1
  have g2 := Gr.newM (o := .ins C dx []) g1.fh n3
  refine k x dx _ n1 ⟨g1.tr0 g2⟩ ?_ upd_same
  cases h : F x with
  | none => rfl
  | some u => rw [e x u h] at n1; cases n1
/-- an object stays from here on -/
theorem obj_frz (e : Xt F H) (n : F p = none) (h : H p = some o) : ∃ F', Xt F' H ∧ Xt F F' ∧ F' p = some o ∧ (∀ S F0 H0, Gr S F0 H0 F H → H0 p = none → Gr S F0 H0 F' H) ∧ ∀ q, q ≠ p → F q = none → F' q = none := by
  refine ⟨upd F p o, e.updF h, e.frz n, upd_same, fun S F0 H0 g k => Gr.frz e n h g k, fun q m k => ?_⟩
  rw [upd_ne m]; exact k
end

theorem rd_mk {σ : St} {H : Hp} {Q : VK} {T : TA} {C : Addr} {sp : Sp} {W : WX} (h : T σ H (kMk C sp (fun c d H' => W c d σ H') Q)) : tMk C sp W T σ H Q := h
/-! ### walks: readings -/
section
variable {K : PySem.W.Frag} {F H : Hp} {σ : St} {v w : V} {D : Ends} {Q : VK} {g : TG} {tt : TT} {te tl : TE} {ta : TA} {tb : TS} {wi w1 w2 : TI} {vs : List Nat} {R : It → Hp → Prop} {n i j : Int} {C : Addr} {fl : Str} {α β : Type} [DecidableEq α] [Datum α] [DecidableEq β] [Datum β] {xs : List α} {ys : List β}
theorem rd_lc (h : wi σ H fun J H1 => ∀ D, H1 D = none → ∃ W : Nat → Nat → Hp → Prop, (∃ m, W 0 m (upd H1 D (.lst []))) ∧ ∀ i m H, W i m H →
  (J.stop i H ∧ Q (.ref D) H) ∨ (J.go i H ∧ ∃ Nx : Hp → Prop, (∀ H', Nx H' → ∃ m', m' < m ∧ W (i + 1) m' H') ∧ ∀ x H', J.yld i H x H' → g x (wipe σ vs) H' fun σ2 H2 => wipe σ2 vs = wipe σ vs ∧ tt σ2 H2 fun b H3 =>
    if b = true then te σ2 H3 fun y H4 => ∃ acc, H4 D = some (.lst acc) ∧ acc.length < sizeLine ∧ Nx (upd H4 D (.lst (acc ++ [y]))) else Nx H3)) : tLc wi g tt te vs σ H Q := h
theorem rd_for (h : wi σ H fun J H1 => ∃ W : Nat → Nat → St → Hp → Prop, (∃ m, W 0 m σ H1) ∧ ∀ i m σ H, W i m σ H →
  (J.stop i H ∧ D.nx σ H) ∨ (J.go i H ∧ ∃ N : St → Hp → Prop, (∀ σ' H', N σ' H' → ∃ m', m' < m ∧ W (i + 1) m' σ' H') ∧ ∀ x H', J.yld i H x H' → g x σ H' fun σ2 H2 => tb { D with nx := N, ct := N, bk := D.nx } σ2 H2)) : tFor wi g tb D σ H := h
theorem rd_orl (h : w1 σ H R) : iOr w1 w2 σ H R := .inl h
theorem rd_orr (h : w2 σ H R) : iOr w1 w2 σ H R := .inr h
def kL (K : PySem.W.Frag) (R : It → Hp → Prop) : VK := fun x H1 => ∃ a, x = .ref a ∧ (∃ xs, SqL K H1 a xs) ∧ R (Itl K a) H1
def kT (K : PySem.W.Frag) (R : It → Hp → Prop) : VK := fun x H1 => ∃ a, x = .ref a ∧ (∃ xs, SqT K H1 a xs) ∧ R (Itt K a) H1
def k1 (R : It → Hp → Prop) : List V → Hp → Prop := fun vs H1 => ∃ j : Int, vs = [.int j] ∧ -(2 ^ 62) ≤ j ∧ j < 2 ^ 62 ∧ R (Itr 0 j.toNat) H1
def k2 (R : It → Hp → Prop) : List V → Hp → Prop := fun vs H1 => ∃ i j : Int, vs = [.int i, .int j] ∧ (-(2 ^ 62) ≤ i ∧ i < 2 ^ 62 ∧ -(2 ^ 62) ≤ j ∧ j < 2 ^ 62) ∧ R (Itr i (j - i).toNat) H1
def kE (K : PySem.W.Frag) (R : It → Hp → Prop) : List V → Hp → Prop := fun vs H1 => ∃ a xs, vs = [.ref a] ∧ SqL K H1 a xs ∧ R (Ite K a) H1
def kZ (K : PySem.W.Frag) (R : It → Hp → Prop) : List V → Hp → Prop := fun vs H1 => ∃ a b xs ys, vs = [.ref a, .ref b] ∧ SqL K H1 a xs ∧ SqL K H1 b ys ∧ R (Itz K a b) H1
def kO (K : PySem.W.Frag) (C : Addr) (fl : Str) (R : It → Hp → Prop) : VK := fun x H1 => ∃ a dx fs b, x = .ref a ∧ H1 a = some (.ins C dx fs) ∧ fs.lookup fl = some (.ref b) ∧ (∃ xs, SqT K H1 b xs) ∧ R (Itt K b) H1
theorem rd_iL (h : tl σ H (kL K R)) : iList K tl σ H R := h
theorem rd_iT (h : tl σ H (kT K R)) : iTup K tl σ H R := h
theorem rd_i1 (h : ta σ H (k1 R)) : iRng1 ta σ H R := h
theorem rd_i2 (h : ta σ H (k2 R)) : iRng2 ta σ H R := h
theorem rd_iZ (h : ta σ H (kZ K R)) : iZip K ta σ H R := h
theorem rd_iE (h : ta σ H (kE K R)) : iEnum K ta σ H R := h
theorem rd_iO (h : te σ H (kO K C fl R)) : iOwn K C fl te σ H R := h
theorem q_iL (h : Rp K F v xs) (e : Xt F H) (k : ∀ a, Feed K F (Itl K a) xs → R (Itl K a) H) : kL K R v H := by
  obtain ⟨a, rfl, ⟨ws, hs⟩, fd⟩ := h.feed
  exact ⟨a, rfl, ⟨ws, sqL_ext e hs⟩, k a fd⟩
theorem q_iT (h : Rp K F v (Tup.mk xs)) (e : Xt F H) (k : ∀ a, Feed K F (Itt K a) xs → R (Itt K a) H) : kT K R v H := by
  obtain ⟨a, rfl, ⟨ws, hs⟩, fd⟩ := h.feedT
  exact ⟨a, rfl, ⟨ws, sqT_ext e hs⟩, k a fd⟩
theorem q_i1 (h0 : -(2 ^ 62) ≤ n) (h1 : n < 2 ^ 62) (k : R (Itr 0 n.toNat) H) : k1 R [.int n] H := ⟨n, rfl, h0, h1, k⟩
theorem q_i2 (h0 : -(2 ^ 62) ≤ i) (h1 : i < 2 ^ 62) (h2 : -(2 ^ 62) ≤ j) (h3 : j < 2 ^ 62) (k : R (Itr i (j - i).toNat) H) : k2 R [.int i, .int j] H := ⟨i, j, rfl, ⟨h0, h1, h2, h3⟩, k⟩
theorem q_iE (h : Rp K F v xs) (e : Xt F H) (k : ∀ a, Feed K F (Ite K a) (enum xs) → R (Ite K a) H) : kE K R [v] H := by
  obtain ⟨a, rfl, ⟨ws, hs⟩, fd⟩ := h.feedE
  exact ⟨a, ws, rfl, sqL_ext e hs, k a fd⟩
theorem q_iZ (h : Rp K F v xs) (h' : Rp K F w ys) (e : Xt F H) (k : ∀ a b, Feed K F (Itz K a b) (xs.zip ys) → R (Itz K a b) H) : kZ K R [v, w] H := by
  obtain ⟨a, b, rfl, rfl, ⟨vs, hs⟩, ⟨ws, ht⟩, fd⟩ := feed_zip h h'
  exact ⟨a, b, vs, ws, rfl, sqL_ext e hs, sqL_ext e ht, k a b fd⟩
theorem q_iO {a dx : Addr} {fs : List (Str × V)} (ha : F a = some (.ins C dx fs)) (l : fs.lookup fl = some v) (h : Rp K F v (Tup.mk xs)) (e : Xt F H) (k : ∀ b, Feed K F (Itt K b) xs → R (Itt K b) H) :
    kO K C fl R (.ref a) H := by
  obtain ⟨b, rfl, ⟨ws, hs⟩, fd⟩ := h.feedT
  exact ⟨a, dx, fs, b, rfl, e _ _ ha, l, ⟨ws, sqT_ext e hs⟩, k b fd⟩
end

/-! ### a row, then the rest -/
theorem rd_seqA {te : TE} {g : TG} {u : TS} {D : Ends} {σ : St} {H : Hp} (h : tAsg te g { D with nx := u D } σ H) : tSeq (tAsg te g) u D σ H := h
theorem rd_seqD {te : TE} {u : TS} {D : Ends} {σ : St} {H : Hp} (h : tDrop te { D with nx := u D } σ H) : tSeq (tDrop te) u D σ H := h
/-- the rest from what holds between -/
theorem rd_cut {t u : TS} {D : Ends} {σ : St} {H : Hp} (P : St → Hp → Prop) (k : ∀ N : St → Hp → Prop, (∀ σ H, P σ H → N σ H) → t { D with nx := N } σ H) (h : ∀ σ H, P σ H → u D σ H) : tSeq t u D σ H := k (u D) h
/-! ### while -/
theorem rd_while {c : TT} {tb : TS} {D : Ends} {σ : St} {H : Hp} (W : Nat → St → Hp → Prop) (h0 : ∃ m, W m σ H) (h : ∀ m σ H, W m σ H →
  c σ H fun b H1 => if b = true then ∃ N : St → Hp → Prop, (∀ σ' H', N σ' H' → ∃ m', m' < m ∧ W m' σ' H') ∧ tb { D with nx := N, ct := N, bk := D.nx } σ H1 else D.nx σ H1) : tWhile c tb D σ H := ⟨W, h0, h⟩
theorem q_lastS {K : PySem.W.Frag} {F H : Hp} {v : V} {ns : List Int} {x : Int} {Q : VK} (h : Sees K F H v (ns ++ [x])) (k : Q (.int x) H) : rIx K v (.int (-1)) H Q := q_last h (by simp) (by rw [List.getLast_append]; simpa using k)
/-! ### isinstance of a whole number -/
theorem q_isi_int {K : PySem.W.Frag} {H : Hp} {i : Int} {Q : VK} (k : Q (.bl true) H) : rIsi K [.int i, .ty "int"] H Q := ⟨_, _, _, _, true, rfl, .ty _, .base (.int i), kit_ty (by decide +kernel), k⟩
theorem q_isi_ib {K : PySem.W.Frag} {H : Hp} {i : Int} {Q : VK} (k : Q (.bl false) H) : rIsi K [.int i, .ty "bool"] H Q := ⟨_, _, _, _, false, rfl, .ty _, .base (.int i), kit_ty (by decide +kernel), k⟩
/-! ### targets -/
section
variable {K : PySem.W.Frag} {F H : Hp} {σ : St} {v : V} {α β : Type} [DecidableEq α] [Datum α] [DecidableEq β] [Datum β] {x : α} {y : β} {t : TGs} {g : TG} {r : List V} {QG : St → Hp → Prop}
theorem rd_gcons (h : g v σ H fun σ' H' => t r σ' H' QG) : gCons g t (v :: r) σ H QG := ⟨v, r, rfl, h⟩
theorem rd_gnil (h : QG σ H) : gNil [] σ H QG := ⟨rfl, h⟩
theorem q_g2 (h : Rp K F v (x, y)) (e : Xt F H) (k : ∀ u w, Rp K F u x → Rp K F w y → t [u, w] σ H QG) : gTup K 2 t v σ H QG := by
  obtain ⟨a, u, w, rfl, hs, h1, h2⟩ := h.pair
  exact ⟨a, _, rfl, sqT_ext e hs, rfl, k u w h1 h2⟩
end

/-! ### the pool of draws -/
def PoolAt (H : Hp) (p : Addr) : Prop := ∃ a b c : Int, H p = some (.lst [.int a, .int b, .int c]) ∧ 0 ≤ b ∧ b < 2147483648
theorem PoolAt.gr {S : List Addr} {F H F' H' : Hp} {p : Addr} (h : PoolAt H p) (g : Gr S F H F' H') (n : p ∉ S) : PoolAt H' p := by
  obtain ⟨a, b, c, h1, h2⟩ := h
  exact ⟨a, b, c, g.hh p _ n h1, h2⟩
theorem PoolAt.some {H : Hp} {p : Addr} (h : PoolAt H p) : H p ≠ none := by
  obtain ⟨a, b, c, h1, h2⟩ := h
  rw [h1]; exact nofun
/-- _law_pool(script, at) -/
def sp_pool (K : PySem.W.Frag) : Sp := fun vs H Q _ => ∃ (F : Hp) (a : Addr) (ns : List Int) (i : Int), vs = [.ref a, .int i] ∧ SqL K H a (ns.map V.int) ∧ 0 ≤ i ∧ Xt F H ∧ ∀ p H', H p = none → Gc [] F H H' → F p = none → PoolAt H' p → Q (.ref p) H'
/-- _law_draw(pool, many) -/
def sp_draw : Sp := fun vs H Q _ => ∃ (F : Hp) (p : Addr) (m : Int), vs = [.ref p, .int m] ∧ Xt F H ∧ F p = none ∧ PoolAt H p ∧ 0 < m ∧ m < 2 ^ 200 ∧ ∀ (v : Int) H', 0 ≤ v → v < m → Gc [p] F H H' → PoolAt H' p → Q (.int v) H'
end Rn

/-! the rules with the written part named. -/
namespace Rn
open PySem PySem.Spec PyProof.Rows L2
section
variable {X : Cx} (K : PySem.W.Frag)
theorem kAdd (hK : X.K = K := by rfl) : OpR X (binaryOp .Add) (rAddZ K) := by subst hK; exact op_addZ
theorem kMul (hK : X.K = K := by rfl) : OpR X (binaryOp .Mult) (rMulZ K) := by subst hK; exact op_mulZ
def rEqY (K : PySem.W.Frag) : R2 := fun x y H Q => rEq x y H Q ∨ rEqT K x y H Q
def rNeY (K : PySem.W.Frag) : R2 := fun x y H Q => rNe x y H Q ∨ rNeT K x y H Q
theorem kEq (hu : X.A.units + 65 < cLine) (hK : X.K = K := by rfl) : OpR X (compareOp .Eq) (rEqY K) := by subst hK; exact op_eq.or (op_eqT (by omega))
theorem kNe (hu : X.A.units + 65 < cLine) (hK : X.K = K := by rfl) : OpR X (compareOp .NotEq) (rNeY K) := by subst hK; exact op_ne.or (op_neT (by omega))
theorem kIn (hu : X.A.units + 65 < cLine) (hK : X.K = K := by rfl) : OpR X (compareOp .In) (rInT K) := by subst hK; exact op_inT hu
theorem kNotIn (hu : X.A.units + 65 < cLine) (hK : X.K = K := by rfl) : OpR X (compareOp .NotIn) (rNotInT K) := by subst hK; exact op_notInT hu
theorem kIx (hK : X.K = K := by rfl) : IxR X (rIx K) := by subst hK; exact ix_seq
theorem kSl (hK : X.K = K := by rfl) : SlR X (rSlZ K) := by subst hK; exact sl_Z
theorem kLen (hK : X.K = K := by rfl) : CallR X (.builtin "len") (yLen K) := by subst hK; exact cy_len
theorem kList (hK : X.K = K := by rfl) : CallR X (.type "list") (yList K) := by subst hK; exact cy_list
theorem kTuple (hK : X.K = K := by rfl) : CallR X (.type "tuple") (yTuple K) := by subst hK; exact cy_tuple
theorem kSum (hc : X.calm = true) (hK : X.K = K := by rfl) : CallR X (.builtin "sum") (rSum K) := by subst hK; exact cr_sum hc
theorem kMin (hc : X.calm = true) (hK : X.K = K := by rfl) : CallR X (.builtin "min") (rMin K) := by subst hK; exact cr_min hc
theorem kMax (hc : X.calm = true) (hK : X.K = K := by rfl) : CallR X (.builtin "max") (rMax K) := by subst hK; exact cr_max hc
theorem kIsi (hK : X.K = K := by rfl) : CallR X (.builtin "isinstance") (rIsi K) := by subst hK; exact call_isi
theorem kIndex (hu : X.A.units + 65 < cLine) (hK : X.K = K := by rfl) : MtR X "list.index" (rIndexT K) := by subst hK; exact mt_indexT hu
theorem kFld {e : Expr} {f : Str} {pos : Pos} {ta : TE} (he : PE X e ta) (hb : attributeBase e f X.env (eval e X.env) = eval e X.env) (hK : X.K = K := by rfl) : PE X (.Attribute e f pos) (tFld K ta f) := by subst hK; exact pe_fld he hb
theorem ksFld {o value : Expr} {f : Str} {pos pos' : Pos} {ta tv : TE} (ha : PE X o ta) (hv : PE X value tv) (hs : swapsWith value (some (.Attribute o f pos')) pos.line X.env = pure false) (hK : X.K = K := by rfl) : PS X (.Assign [.Attribute o f pos'] value pos) (sFld K ta tv f) := by subst hK; exact ps_fld ha hv hs
theorem kgTup {es : List Expr} {k : Nat} {t : TGs} {n : Nat} {pos : Pos} (hc : X.calm = true) (h : PGs X es t) (hK : X.K = K := by rfl)
    (hn : (assignEach es X.env).length = n := by rfl) (hst : (assignEach es X.env).findIdx? (·.1) = none := by rfl) : PG X (.Tuple es k pos) (gTup K n t) := by subst hK; exact pg_tup hc h hn hst
theorem kiList {tg l : Expr} {tl : TE} (hl : PE X l tl) (hK : X.K = K := by rfl) : PI X tg l (iList K tl) := by subst hK; exact pi_list hl
theorem kiTup {tg l : Expr} {tl : TE} (hl : PE X l tl) (hK : X.K = K := by rfl) : PI X tg l (iTup K tl) := by subst hK; exact pi_tup hl
theorem kiEnum {e : Expr} {ta : TA} {p pos tpos : Pos} {elts : List Expr} {kk : Nat} (hg : Gl X "enumerate") (hm : X.mg "enumerate" = none) (ha : PA X [e] ta) (hK : X.K = K := by rfl) (hs : starEach [e] X.env = [(false, eval e X.env)] := by rfl) :
    PI X (.Tuple elts kk tpos) (.Call (.Name "enumerate" p) [e] [] pos) (iEnum K ta) := by subst hK; exact pi_enum hg hm ha hs
theorem kiZip {e e2 : Expr} {ta : TA} {p pos tpos : Pos} {elts : List Expr} {kk : Nat} (hg : Gl X "zip") (hm : X.mg "zip" = none) (ha : PA X [e, e2] ta) (hK : X.K = K := by rfl)
    (hs : starEach [e, e2] X.env = (false, eval e X.env) :: starEach [e2] X.env := by rfl) (hpl : (backTo pos (starEach [e2] X.env)).any (·.1) = false := by rfl) :
    PI X (.Tuple elts kk tpos) (.Call (.Name "zip" p) [e, e2] [] pos) (iZip K ta) := by subst hK; exact pi_zip hg hm ha hs hpl
theorem kiRev {tg e : Expr} {ta : TA} {p pos : Pos} (hg : Gl X "reversed") (hm : X.mg "reversed" = none) (ha : PA X [e] ta) (hK : X.K = K := by rfl) (hs : starEach [e] X.env = [(false, eval e X.env)] := by rfl) : PI X tg (.Call (.Name "reversed" p) [e] [] pos) (iRev K ta) := by subst hK; exact pi_reversed hg hm ha hs
theorem kRevL {e : Expr} {te : TE} {k : Nat} {p1 p2 p3 pos : Pos} (he : PE X e te) (hK : X.K = K := by rfl) : PE X (.Subscript e (.Slice none none (some (.UnaryOp .USub (.Constant (.int 1) k p1) p2)) p3) pos) (tRevL K te) := by subst hK; exact pe_revL he
theorem kBm {o e : Expr} {es : List Expr} {T : String} {name : Str} {id : String} {r : V → List V → Hp → VK → Prop} {to : TE} {t : TA} {apos cpos : Pos} (pa : PlainAttrs T) (slot : Slot T name id) (hty : typeOf (.builtin id) = pure (.type "method_descriptor")) (hm : MtR X id r) (ho : PE X o to) (ha : PA X (e :: es) t) (hK : X.K = K := by rfl)
    (hbase : attributeBase o name X.env (eval o X.env) = eval o X.env := by rfl)
    (hfew : ((backTo cpos (starEach (e :: es) X.env)).all (fun x => !x.1) && (backToKw cpos (keywordEach [] X.env)).all (fun x => x.1.isSome)
      && decide ((e :: es).length + ([] : List Keyword).length + (if ([] : List Keyword).isEmpty then 0 else 1) < 30)) = true := by rfl)
    (hline : (apos.endLine == cpos.line) = true := by rfl) (hs : starEach (e :: es) X.env = (false, eval e X.env) :: starEach es X.env := by rfl) (hplain : (backTo cpos (starEach es X.env)).any (·.1) = false := by rfl) :
    PE X (.Call (.Attribute o name apos) (e :: es) [] cpos) (tBM K T r to t) := by subst hK; exact pe_bm pa slot hty hm ho ha hbase hfew hline hs hplain
theorem kBm0 {o : Expr} {T : String} {name : Str} {id : String} {r : V → List V → Hp → VK → Prop} {to : TE} {apos cpos : Pos} (pa : PlainAttrs T) (slot : Slot T name id) (hty : typeOf (.builtin id) = pure (.type "method_descriptor")) (hm : MtR X id r) (ho : PE X o to) (hK : X.K = K := by rfl)
    (hbase : attributeBase o name X.env (eval o X.env) = eval o X.env := by rfl) (hline : (apos.endLine == cpos.line) = true := by rfl) : PE X (.Call (.Attribute o name apos) [] [] cpos) (tBM0 K T r to) := by subst hK; exact pe_bm0 pa slot hty hm ho hbase hline
end
section
open PySem.W (Datum Tup)
variable {K : PySem.W.Frag} {F G H : Hp} {v w : V} {α : Type} [DecidableEq α] [Datum α] {x y : α} {xs : List α} {Q : VK} {i j : Int}
theorem yEq_int (h : Q (.bl (decide (i = j))) H) : rEqY K (.int i) (.int j) H Q := .inl ⟨rfl, by rw [decV_int]; exact h⟩
theorem yNe_int (h : Q (.bl (!decide (i = j))) H) : rNeY K (.int i) (.int j) H Q := .inl ⟨rfl, by rw [decV_int]; exact h⟩
theorem q_eq (h : Rp K F v x) (k : Rp K G w y) (e : Xt F H) (e' : Xt G H) (hd : Datum.depth α ≤ 64) (q : Q (.bl (decide (x = y))) H) : rEqY K v w H Q :=
  .inr ⟨_, _, h.ext e, k.ext e', Datum.plain x, Datum.plain y, Nat.le_trans (Datum.depth_le x) hd, by rw [Datum.eqv]; exact q⟩
theorem q_ne (h : Rp K F v x) (k : Rp K G w y) (e : Xt F H) (e' : Xt G H) (hd : Datum.depth α ≤ 64) (q : Q (.bl (!decide (x = y))) H) : rNeY K v w H Q :=
  .inr ⟨_, _, h.ext e, k.ext e', Datum.plain x, Datum.plain y, Nat.le_trans (Datum.depth_le x) hd, by rw [Datum.eqv]; exact q⟩
theorem q_in (h : Rp K F v x) (k : Sees K G H w xs) (e : Xt F H) (e' : Xt G H) (hd : Datum.depth α ≤ 64) (q : Q (.bl (decide (x ∈ xs))) H) : rInT K v w H Q := by
  obtain ⟨a, ws, rfl, h1, h2⟩ := k
  exact ⟨_, _, h.ext e, .inl (.lst h1 (h2.ext e')), Datum.plain x, PySem.W.plainAll_map xs, Nat.le_trans (PySem.W.depthAll_map xs) hd, by rw [PySem.W.any_datum]; exact q⟩
theorem q_notIn (h : Rp K F v x) (k : Sees K G H w xs) (e : Xt F H) (e' : Xt G H) (hd : Datum.depth α ≤ 64) (q : Q (.bl (!decide (x ∈ xs))) H) : rNotInT K v w H Q := by
  obtain ⟨a, ws, rfl, h1, h2⟩ := k
  exact ⟨_, _, h.ext e, .inl (.lst h1 (h2.ext e')), Datum.plain x, PySem.W.plainAll_map xs, Nat.le_trans (PySem.W.depthAll_map xs) hd, by rw [PySem.W.any_datum]; exact q⟩
theorem q_index (h : Rp K F v x) (k : Sees K G H w xs) (e : Xt F H) (e' : Xt G H) (hd : Datum.depth α ≤ 60) (hm : x ∈ xs) (q : ∀ j : Nat, xs[j]? = some x → Q (.int j) H) : rIndexT K w [v] H Q := by
  obtain ⟨a, ws, rfl, h1, h2⟩ := k
  refine ⟨α, _, _, v, xs, x, rfl, rp_lst h1 (h2.ext e'), h.ext e, hm, hd, q _ ?_⟩
  have hl := List.idxOf_lt_length_of_mem hm
  rw [List.getElem?_eq_getElem hl, List.getElem_idxOf hl]
end
theorem blkOk_r {N : List Str} {sc scope : Scope} {own : List (Str × Nat)} (h : blkC N sc scope own = true) : BlkOk N sc scope own := blkOk_by h
end Rn

/-! constructors with keywords, properties: by bundles. -/
namespace Rn
open PySem PySem.Spec PyProof.Rows L2
/-- the module's name x stands for a class whose __init__ takes n values and the keywords ks -/
structure MkKC (P : Program) (w : World) (K : PySem.W.Frag) (mg : Str → Option Value) (base : Heap) (x : Str) (C : Addr) (n : Nat) (ks : List Str) (k : Nat) (sp : Sp) : Prop where
  ex : ∃ f fd ps, mg x = some (.ref C) ∧ Mk K C f ∧ KBn K fd ps (n + 1) ks (fun us ws => us ++ ws) (fun vs zs => vs ++ zs) ∧ FnOk P w K mg base (L2.CX P w) k f fd ps sp
/-- the class at C has the name f as a property whose getter keeps sp and lets nothing out -/
structure PrC (P : Program) (w : World) (K : PySem.W.Frag) (mg : Str → Option Value) (base : Heap) (C : Addr) (f : Str) (k : Nat) (sp : Sp) : Prop where
  ex : ∃ p g fd ps, Cls K C ∧ PropOf K C f p g ∧ Binds K fd ps [] ∧ FnOk P w K mg base (L2.CX P w) k g fd ps sp
def kMkK (C : Addr) (n m : Nat) (sp : Sp) (E : XK) (Q : VK) (vs : List V) : List V → Hp → Prop := fun zs H1 => vs.length = n ∧ zs.length = m ∧ ∀ x dx, H1 x = none → H1 dx = none → dx ≠ x →
  sp (.ref x :: (vs ++ zs)) (upd (upd H1 dx (.own x)) x (.ins C dx [])) (fun v H2 => v = .non ∧ Q (.ref x) H2) E
def tMkK (C : Addr) (n m : Nat) (sp : Sp) (W : WX) (t tk : TA) : TE := fun σ H Q => t σ H fun vs H1 => tk σ H1 (kMkK C n m sp (fun c d H' => W c d σ H') Q vs)
section
variable {X : Cx} {k n : Nat} {f C : Addr} {fd : FuncData} {ps ks : List Str} {sp : Sp} {W : WX} {x fl : Str} {p pos : Pos} {e : Expr} {es : List Expr} {kws : List Keyword} {ta : TE} {t tk : TA}
theorem run_makeKS {pins : List (Addr × Obj)} {σ : St} {H : Hp} {s : Shared} {Q : VK} {us ws : List Value} {vs zs : List V} (M : Mk X.K C f) (F : FnOk X.prog X.w X.K X.mg X.base (L2.CX X.prog X.w) k f fd ps sp) (hr : Room (k + 1) X.A)
    (hb : KBn X.K fd ps (n + 1) ks (fun us ws => us ++ ws) (fun vs zs => vs ++ zs)) (tk : Takes X W) (I : L2.Inv X pins σ H s) (r : Vals vs us) (rz : Vals zs ws) (l1 : vs.length = n) (l2 : zs.length = ks.length)
    (h : ∀ x dx, H x = none → H dx = none → dx ≠ x → sp (.ref x :: (vs ++ zs)) (upd (upd H dx (.own x)) x (.ins C dx [])) (fun v H2 => v = .non ∧ Q (.ref x) H2) fun c d H' => W c d σ H') :
    wpAny (model X.prog X.w) X.A (call (.ref C) us (ks.zip ws)) (EP X pins σ Q) X.xe s := by
  have hq := h (s.heap.objs.size + 1) s.heap.objs.size (I.hok.fresh (Nat.le_succ _)) (I.hok.fresh (Nat.le_refl _)) (Nat.ne_of_lt (Nat.lt_succ_self _))
  have I2 := Inv.made (C := C) I
  have r1 : Vals (V.ref (s.heap.objs.size + 1) :: vs) (Value.ref (s.heap.objs.size + 1) :: us) := .cons rfl r
  have r2 := hb.rel r1 rz
  have n1 : (Value.ref (s.heap.objs.size + 1) :: us).length = n + 1 := by
    rw [List.length_cons, ← r.length, l1]
  refine wpAny_call (make_map (f := f) I.kIn M.makes M.init (beq_iff_eq.mp M.fn) (codeAny_mono (F.run _ X.stack _ _ ⟨Value.ref (s.heap.objs.size + 1) :: us, ks.zip ws⟩ ((Value.ref (s.heap.objs.size + 1) :: us) ++ ws) _ _ _ (hr.make C us (ks.zip ws))
    (I2.env0.make C us (ks.zip ws)) (hb.to _ (Value.ref (s.heap.objs.size + 1) :: us) ws I2.kIn n1 (rz.length.symm.trans l2)) r2 hq) fun r s' hq' => ?_))
  cases r with
  | error e => exact passAt tk σ pins _ _ e s' I2 hq'
  | ok fl =>
    cases fl with
    | ret u =>
      obtain ⟨v, H', I3, rv, ev, q3⟩ := I2.after hq'
      subst ev
      exact ⟨rv, ⟨V.ref (s.heap.objs.size + 1), H', I3, rfl, q3⟩⟩
    | next => exact False.elim hq'
    | brk => exact False.elim hq'
    | cont => exact False.elim hq'
theorem pe_mkK (M : MkKC X.prog X.w X.K X.mg X.base x C n ks k sp) (hr : Room (k + 1) X.A) (tkx : Takes X W) (ha : PA X (e :: es) t) (hkw : PK X kws tk) (hg : Gl X x := by rfl)
    (hall : (backToKw pos (keywordEach kws X.env)).all (·.1.isSome) = true := by rfl) (hks : (backToKw pos (keywordEach kws X.env)).filterMap (·.1) = ks := by rfl) (hdb : (x == ("__debug__" : Str)) = false := by decide)
    (he : starEach (e :: es) X.env = (false, eval e X.env) :: starEach es X.env := by rfl) (hpl : ((backTo pos (starEach (e :: es) X.env)).any (·.1) || (backToKw pos (keywordEach kws X.env)).any (·.1.isNone)) = false := by rfl) :
    PE X (.Call (.Name x p) (e :: es) kws pos) (tMkK C n ks.length sp W t tk) := by
  obtain ⟨f, fd, ps, hm, M, hb, F⟩ := M.ex
  refine ⟨fun pins s σ H Q I h => ?_⟩
  refine wpAny_Call_Name_kw (ld_glob I hg hm ?_ hdb)
  refine PySem.W.callWith_KW (h₀ := X.base) I.ok.mod.kin M.kp hall (thn (ha.run pos pins s σ H _ I h) fun us s1 ⟨vs, H1, I1, r, q⟩ => ?_) hpl he
  refine thn (hkw.run pos pins s1 σ H1 _ I1 q) fun ws s2 ⟨zs, H2, I2, rz, l1, l2, q2⟩ => ⟨I2.kIn, ?_⟩
  rw [hks]
  exact run_makeKS M F hr hb tkx I2 r rz l1 l2 q2
/-- e.f, a property -/
def tPr (C : Addr) (sp : Sp) (ta : TE) : TE := fun σ H Q => ta σ H fun x H1 => ∃ a dx fs, x = .ref a ∧ H1 a = some (.ins C dx fs) ∧ sp [.ref a] H1 Q fun _ _ _ => False
theorem pe_pr (M : PrC X.prog X.w X.K X.mg X.base C fl k sp) (hr : Room (k + 1) X.A) (he : PE X e ta) (hab : attributeBase e fl X.env (eval e X.env) = eval e X.env := by rfl) : PE X (.Attribute e fl pos) (tPr C sp ta) := by
  obtain ⟨p, g, fd, ps, c, hp, hb, F⟩ := M.ex
  refine ⟨fun pins s σ H Q I h => ?_⟩
  refine (pe_prop (E := fun _ _ _ => False) he c hp F hr hb .nil ?_ hab).run pins s σ H Q I h
  intro pins σ H s e s' _ hc
  obtain ⟨_, _, _, _, _, _, _, _, _, _, _, _, hE⟩ := hc
  exact hE.elim
end
end Rn

/-! try with several except clauses, each with or without a name (the walk follows the library's ps_try_many and ps_try_as). -/
namespace Rn
open PySem PySem.Spec PyProof.Rows L2
/-- a clause: its class, the slot of its name, its suite -/
structure Cl where
  c : Value
  i : Option Nat
  ts : Addr → Value → Option Addr → TS
def wManyN (K : PySem.W.Frag) (Wout : WX) (D : Ends) : List Cl → WX
  | [] => Wout
  | ⟨c, none, ts⟩ :: r => fun cls d σ H => ∃ b, PySem.W.exmOne K cls c = some b ∧ (b = true → ∀ a, H a = none → ts a cls d D σ H) ∧ (b = false → wManyN K Wout D r cls d σ H)
  | ⟨c, some i, ts⟩ :: r => fun cls d σ H => ∃ b, PySem.W.exmOne K cls c = some b ∧ (b = true → ∀ a, H a = none → ts a cls d { nx := fun σ' H' => D.nx (σ'.set i none) H', rt := D.rt, bk := fun σ' H' => D.bk (σ'.set i none) H', ct := fun σ' H' => D.ct (σ'.set i none) H' } (σ.set i (some (.ref a))) H) ∧
      (b = false → wManyN K Wout D r cls d σ H)
inductive HdsOkN (X : Cx) : List ExceptHandler → List Cl → Prop
  | nil : HdsOkN X [] []
  | cons {x : Str} {c : Value} {ts : Addr → Value → Option Addr → TS} {b₀ : Stmt} {suite : List Stmt} {np pos' : Pos} {hds : List ExceptHandler} {l : List Cl} (hc : Names X x c)
      (hsu : ∀ (a : Addr) (oe : Obj) (cls : Value) (d : Option Addr) (pn : List (Addr × Obj)), Zc cls d oe → (∃ vs, oe.data = .fields vs) → PSs (X.suite a ((a, oe) :: pn)) (b₀ :: suite) (ts a cls d)) (r : HdsOkN X hds l) :
      HdsOkN X (.ExceptHandler (some (.Name x np)) none (b₀ :: suite) pos' :: hds) (⟨c, none, ts⟩ :: l)
  | named {x n : Str} {c : Value} {i : Nat} {ts : Addr → Value → Option Addr → TS} {b₀ : Stmt} {suite : List Stmt} {np pos' : Pos} {hds : List ExceptHandler} {l : List Cl} (hN : X.N.Nodup) (hi : X.N[i]? = some n) (hln : X.env.kindOf n = some .local) (hc : Names X x c)
      (hsu : ∀ (a : Addr) (oe : Obj) (cls : Value) (d : Option Addr) (pn : List (Addr × Obj)), Zc cls d oe → (∃ vs, oe.data = .fields vs) → PSs (X.suite a ((a, oe) :: pn)) (b₀ :: suite) (ts a cls d)) (r : HdsOkN X hds l) :
      HdsOkN X (.ExceptHandler (some (.Name x np)) (some n) (b₀ :: suite) pos' :: hds) (⟨c, some i, ts⟩ :: l)
section
variable {X : Cx} {body : List Stmt} {h₀ : ExceptHandler} {hds : List ExceptHandler} {l : List Cl} {pos : Pos} {tb : WX → TS} {Wout : WX}
theorem ps_try_manyN (hs : X.stack = X.env :: X.outer) (hf : X.env.frame = some X.env.locals) (tk : Takes X Wout)
    (hb : ∀ (W : WX) (pn : List (Addr × Obj)) (xe : Value → Shared → Prop), Takes (X.tr pn xe) W → PassesOwn (model X.prog X.w) X.A X.env xe → PSs (X.tr pn xe) body (tb W))
    (hh : HdsOkN X (h₀ :: hds) l) : PS X (.Try body (h₀ :: hds) [] [] pos) (fun D σ H => tb (wManyN X.K Wout D l) D σ H) := by
  refine ⟨fun pins s σ H D I h => ?_⟩
  have ok := I.ok
  have hfr : X.A.frames = some (X.env :: X.outer) := by rw [ok.frames, hs]
  refine wpAny_Try_except ?_
  refine wpAny_mono ((hb (wManyN X.K Wout D l) (X.pn ++ pins) (fun e s₁ => wpAny (model X.prog X.w) X.A (noteFrame e X.env) (fun _ s₂ => wpAny (model X.prog X.w) X.A (setFlight e none) (fun _ s₃ =>
    wpAny (model X.prog X.w) X.A (handleBy e X.env (h₀ :: hds)) (SP X pins D) X.xe s₃) X.xe s₂) X.xe s₁) (fun u s' xx => ?_) PassesOwn.looking).run [] s σ H D (I.toTry _) h) (fun f s1 hsp => ?_) (fun e s1 he => he)
  · -- the catch
    obtain ⟨a, B, sI, pins', σ', H', cls, d, rfl, J', nb, up, sky, na, os, ag, w⟩ := xx
    have J : L2.Inv X pins σ' H' sI := J'.ofTry ok
    have sky' : Sky B (X.env :: X.outer) a (Zc cls d) X.env.locals s'.heap := by rw [← hs]; exact sky
    show wpAny (model X.prog X.w) X.A (noteFrame (.ref a) X.env) _ _ _
    refine Sky.land Zc.steady hfr hf sky' fun h3 fl3 up3 => ?_
    have J3 : L2.Inv X pins σ' H' { s' with heap := h3 } := J.landed nb fl3.1 (up.trans up3) os ag
    obtain ⟨oe3, vs3, he3, hz3, hd3⟩ := fl3.there
    have notFr : ∀ {h : Heap} {o : Obj} {vs : Array Value}, h.FunFrames B (X.env :: X.outer) → h.get? a = some o → o.data = .fields vs → a ∉ frs (X.env :: X.outer) := fun {h o vs} ff e dd hm => by
      obtain ⟨_, o', e', hnf⟩ := ff.mem hm
      rw [e] at e'; cases e'
      exact hnf _ dd
    have nfr := notFr fl3.2.2.1 he3 hd3
    have nL : a ≠ X.env.locals := fun z => nfr (List.mem_filterMap.mpr ⟨X.env, List.mem_cons_self, by rw [hf, z]⟩)
    have nF : a ∉ X.fs := fun hm => by
      obtain ⟨e, he, q⟩ := List.mem_filterMap.mp hm
      exact nfr (List.mem_filterMap.mpr ⟨e, List.mem_cons_of_mem _ he, q⟩)
    have S3 := J3.suite he3 hd3 na nL nF
    have go : ∀ {hds' : List ExceptHandler} {l' : List Cl}, HdsOkN X hds' l' → wManyN X.K Wout D l' cls d σ' H' →
        wpAny (model X.prog X.w) X.A (handleBy (.ref a) X.env hds') (SP X pins D) X.xe { s' with heap := h3 } := by
      intro hds' l' hk
      induction hk with
      | nil =>
        intro w
        refine wpAny_handleBy_nil ?_
        obtain ⟨k1, k2, k3, oe, vs, T, oT, ts', he, hz, hd, h1, hr⟩ := id fl3
        unfold PySem.passOn
        refine wpAny_bind (wpAny_field he hd h1 ?_)
        rw [if_neg (show ¬ ((Value.ref T == Value.none) = true) from by simp)]
        have fin : wpAny (model X.prog X.w) X.A (setFlight (.ref a) X.env.frame) (fun _ s4 => wpAny (model X.prog X.w) X.A (throw (.ref a) : Sem Flow) (SP X pins D) X.xe s4) X.xe { s' with heap := h3 } := by
          rw [hf]
          refine HandSPX.setFlight_upZ fl3 fun h4 hh4 up4 => wpAny_throw (tk _ _ ?_)
          exact ⟨a, B, sI, pins, σ', H', cls, d, rfl, J, nb, (up.trans up3).trans up4, .inr (.inr (by rw [hs]; exact hh4)), na, os, ag, w⟩
        first
          | exact wpAny_bind (wpAny_pure (wpAny_bind fin))
          | exact wpAny_bind fin
      | @cons x c ts b₀ suite np pos' hds2 l2 hc hsu r ih =>
        intro w
        obtain ⟨b, hb1, hyes, hno⟩ := w
        refine wpAny_handleBy_cons (codeAny_handlers_test ?_) (by intro q; cases q)
        have LT : PySem.W.Looks (model X.prog X.w) h3 (typeOf (.ref a)) cls := fun A Q E s k q => wpAny_typeOf_ref (k _ _ he3) (by rw [hz3.1]; exact q)
        have LM := PySem.W.exm_one (M := model X.prog X.w) (J3.kIn) LT hb1
        have test : ∀ {Q : Value → Shared → Prop} {E : Value → Shared → Prop}, Q c { s' with heap := h3 } → wpAny (model X.prog X.w) (X.A.mark (some (.ref a))) (eval (.Name x np) X.env) Q E { s' with heap := h3 } := fun {Q E} q => by
          obtain ⟨hg, hdbg, hm | ⟨hm, hv, hnn⟩⟩ := hc
          · exact ld_glob (X := X.suite a ((a, oe3) :: (X.pn ++ pins))) S3 hg hm q hdbg
          · exact ld_blt (X := X.suite a ((a, oe3) :: (X.pn ++ pins))) S3 hg hm hv q hnn hdbg
        refine test (LM.here ?_)
        cases b with
        | true =>
          refine codeAny_handlers_suite ?_
          refine HandSPX.lands_againZ fl3 fun h4 fl4 up4 => ?_
          have J4 : L2.Inv X pins σ' H' { s' with heap := h4 } := J.landed nb fl4.1 ((up.trans up3).trans up4) os ag
          obtain ⟨oe4, vs4, he4, hz4, hd4⟩ := fl4.there
          have S4 := J4.suite he4 hd4 na nL nF
          refine wpAny_mono ((hsu a oe4 cls d (X.pn ++ pins) hz4 ⟨_, hd4⟩).run [] _ _ H' _ S4 (hyes rfl a na)) (fun f s6 hsp => ?_) (fun _ _ z => False.elim z)
          cases f with
          | next =>
            obtain ⟨σ6, H6, S6, q6⟩ := hsp
            exact ⟨_, _, S6.unsuite ok, q6⟩
          | brk =>
            obtain ⟨σ6, H6, S6, q6⟩ := hsp
            exact ⟨_, _, S6.unsuite ok, q6⟩
          | cont =>
            obtain ⟨σ6, H6, S6, q6⟩ := hsp
            exact ⟨_, _, S6.unsuite ok, q6⟩
          | ret u =>
            obtain ⟨v6, σ6, H6, S6, r6, q6⟩ := hsp
            exact ⟨_, _, _, S6.unsuite ok, r6, q6⟩
        | false =>
          show wpAny _ X.A (handleBy (.ref a) X.env hds2) _ _ _
          exact ih (hno rfl)
      | @named x n c ci ts b₀ suite np pos' hds2 l2 hN hi hln hc hsu r ih =>
        intro w
        obtain ⟨b, hb1, hyes, hno⟩ := w
        refine wpAny_handleBy_cons (codeAny_handlers_test ?_) (by intro q; cases q)
        have LT : PySem.W.Looks (model X.prog X.w) h3 (typeOf (.ref a)) cls := fun A Q E s k q => wpAny_typeOf_ref (k _ _ he3) (by rw [hz3.1]; exact q)
        have LM := PySem.W.exm_one (M := model X.prog X.w) (J3.kIn) LT hb1
        have test : ∀ {Q : Value → Shared → Prop} {E : Value → Shared → Prop}, Q c { s' with heap := h3 } → wpAny (model X.prog X.w) (X.A.mark (some (.ref a))) (eval (.Name x np) X.env) Q E { s' with heap := h3 } := fun {Q E} q => by
          obtain ⟨hg, hdbg, hm | ⟨hm, hv, hnn⟩⟩ := hc
          · exact ld_glob (X := X.suite a ((a, oe3) :: (X.pn ++ pins))) S3 hg hm q hdbg
          · exact ld_blt (X := X.suite a ((a, oe3) :: (X.pn ++ pins))) S3 hg hm hv q hnn hdbg
        refine test (LM.here ?_)
        cases b with
        | true =>
          refine codeAny_handlers_suite_as ?_
          refine HandSPX.lands_againZ fl3 fun h4 fl4 up4 => ?_
          have J4 : L2.Inv X pins σ' H' { s' with heap := h4 } := J.landed nb fl4.1 ((up.trans up3).trans up4) os ag
          obtain ⟨oe4, vs4, he4, hz4, hd4⟩ := fl4.there
          have S4 := J4.suite he4 hd4 na nL nF
          refine store_ok (X := X.suite a ((a, oe4) :: (X.pn ++ pins))) (v := .ref a) S4 hN hi (.inl hln) rfl (fun s5 S5 => ?_) (.inr hln)
          refine wpAny_mono ((hsu a oe4 cls d (X.pn ++ pins) hz4 ⟨_, hd4⟩).run [] s5 _ H' _ S5 (hyes rfl a na)) (fun f s6 hsp => ?_) (fun _ _ z => False.elim z)
          have end_ : ∀ {σ6 : St} {H6 : Hp} {Q : Shared → Prop}, L2.Inv (X.suite a ((a, oe4) :: (X.pn ++ pins))) [] σ6 H6 s6 → (∀ s7, L2.Inv X pins (σ6.set ci none) H6 s7 → Q s7) →
              wpAny (model X.prog X.w) X.A (do bindName X.env n .none; unbindBehindTheSuite X.env n pos') (fun _ s7 => Q s7) X.xe s6 := fun {σ6 H6 Q} S6 hq => gone_ok (S6.unsuite ok) hN hi hln hq
          cases f with
          | next =>
            obtain ⟨σ6, H6, S6, q6⟩ := hsp
            exact end_ S6 fun s7 J7 => ⟨_, _, J7, q6⟩
          | brk =>
            obtain ⟨σ6, H6, S6, q6⟩ := hsp
            exact end_ S6 fun s7 J7 => ⟨_, _, J7, q6⟩
          | cont =>
            obtain ⟨σ6, H6, S6, q6⟩ := hsp
            exact end_ S6 fun s7 J7 => ⟨_, _, J7, q6⟩
          | ret u =>
            obtain ⟨v6, σ6, H6, S6, r6, q6⟩ := hsp
            exact end_ S6 fun s7 J7 => ⟨_, _, _, J7, r6, q6⟩
        | false =>
          show wpAny _ X.A (handleBy (.ref a) X.env hds2) _ _ _
          exact ih (hno rfl)
    exact go hh w
  · cases f with
    | next =>
      obtain ⟨σ', H', J', q⟩ := hsp
      exact wpAny_execs_nil ⟨σ', H', J'.ofTry ok, q⟩
    | brk =>
      obtain ⟨σ', H', J', q⟩ := hsp
      exact ⟨σ', H', J'.ofTry ok, q⟩
    | cont =>
      obtain ⟨σ', H', J', q⟩ := hsp
      exact ⟨σ', H', J'.ofTry ok, q⟩
    | ret u =>
      obtain ⟨v, σ', H', J', r, q⟩ := hsp
      exact ⟨v, σ', H', J'.ofTry ok, r, q⟩
end
end Rn

/-! isinstance of an exception with a dict (the walk follows the library's kin_classE). -/
namespace PySem.W
open PySem PySem.Spec PySem.Calls PyProof.Rows
section
variable {prog : Program} {w : World} {A : Around} {E : Value → Shared → Prop} {s : Shared} {K : Frag} {x D : Addr} {ox : Obj} {od0 : Obj}
theorem kin_classX {Q : Option Value → Shared → Prop} (hga : findIn K (.ref D) "__getattribute__" = some (some (.builtin "BaseException.__getattribute__"))) (hgt : findIn K (.ref D) "__getattr__" = some none) (hsub : subIn K (.ref D) (.type "BaseException") = some true)
    (hdct : hasDictIn K D = true) (ha : findIn K (.ref D) "__class__" = some (some (.builtin "object.__class__")))
    (hn : specialIn K (.builtin "object.__class__") "__get__" = some (some (.builtin "getset_descriptor.__get__"))) (htk : takesIn K (.builtin "object.__class__") = some true) (hm : mroIn K D (.type "object") = some true)
    (X : K.In s.heap) (I : InstAt s.heap x ox D (some od0)) (h : Q (some (.ref D)) { s with toks := s.toks + 1 }) : wpAny (model prog w) A (getAttr? (.ref x) "__class__") Q E s := by
  have hf : findObj K D (some od0) "__class__" = some (.bind (.builtin "getset_descriptor.__get__") (.builtin "object.__class__")) := findObj_data (by obtain ⟨cd, hc, _⟩ := any_some hdct; rw [hc]; rfl) ha hn htk
  obtain ⟨hp, g, d, t, os⟩ := s
  have L0 := I.type (M := model prog w)
  have L1 := looks_findIn (M := model prog w) X hga
  have L2 := looks_findIn (M := model prog w) X hgt
  have L3 := looks_find (M := model prog w) X I hf
  have sub : Looks (model prog w) hp (isInstance (.ref x) (.type "BaseException")) true := L0.andThen (looks_subIn X hsub)
  have hx0 : (false && onTheHeap (Value.builtin "BaseException.__getattribute__")) = false := rfl
  have hx2 : (Value.builtin "BaseException.__getattribute__" == Value.builtin "object.__getattribute__") = false := by decide +kernel
  have hx1 : (onTheHeap (Value.ref D) && Value.builtin "BaseException.__getattribute__" == Value.builtin "object.__getattribute__") = false := by rw [hx2]; rfl
  unfold getAttr? getAttrBy? getAttrBy
  refine wpAny_bind (wpAny_mkText (wpAny_bind (wpAny_attempt (wpAny_holding (wpAny_bind (L0.at (wpAny_bind (L1.at ?_))))))))
  show wpAny _ _ (if (onTheHeap (Value.ref D) && Value.builtin "BaseException.__getattribute__" == Value.builtin "object.__getattribute__") = true then _ else _) _ _ _
  rw [hx1, if_neg Bool.false_ne_true]
  unfold getAttrByItsOwn hookBefore
  refine wpAny_bind ?_
  rw [if_pos (show onTheHeap (Value.ref D) = true from rfl)]
  refine L2.at ?_
  refine wpAny_bind (wpAny_attempt (wpAny_holding ?_))
  unfold callGetattribute
  rw [hx0, if_neg Bool.false_ne_true]
  unfold boundAndCalled
  rw [PySem.F.excAttr_ValueError.ga.bind (.ref x)]
  refine wpAny_bind (wpAny_pure ?_)
  show wpAny _ _ (call (.builtin "BaseException.__getattribute__") [.ref x, .str "__class__" t]) _ _ _
  refine wpAny_call (codeAny_call_builtin PySem.F.excAttr_ValueError.ga.plain PySem.F.entry_bexc_ga ?_)
  refine @check_slot (model prog w) _ _ ⟨hp, g, d, t + 1, os⟩ "BaseException.__getattribute__" "BaseException" "__getattribute__" (.ref x) [.str "__class__" t] [] _ (by decide +kernel) (by decide +kernel) sub (PySem.F.args_bexc_ga (.ref x) (.str "__class__" t)) ?_
  unfold Builtin.«object.__getattribute__»
  refine wpAny_bind (wpAny_of_eq (a := ((Value.ref x : Value), [Value.str "__class__" t])) (by first | rfl | (simp only [slotArgs]; rfl)) ?_)
  refine wpAny_bind (wpAny_pure (wpAny_bind (L0.at (wpAny_bind (L3.at ?_)))))
  show wpAny _ _ (holding [Value.builtin "object.__class__"] (call (.builtin "getset_descriptor.__get__") [.builtin "object.__class__", .ref x, .ref D]) >>= ret) _ _ _
  refine wpAny_bind (wpAny_holding (wpAny_call (class_get (s := ⟨hp, g, d, t + 1, os⟩) (ox := ox) (od := some od0) X I hm ?_)))
  refine wpAny_pure ?_
  show wpAny _ _ (handedOut (.ref D)) _ _ _
  rw [handedOut_of (v := .ref D) rfl]
  first
    | exact wpAny_pure (wpAny_pure h)
    | exact wpAny_pure h
    | exact wpAny_pure (wpAny_bind (wpAny_pure (wpAny_pure h)))
theorem kitx_excX (hga : findIn K (.ref D) "__getattribute__" = some (some (.builtin "BaseException.__getattribute__"))) (hgt : findIn K (.ref D) "__getattr__" = some none) (hsub : subIn K (.ref D) (.type "BaseException") = some true) (hdct : hasDictIn K D = true) (ha : findIn K (.ref D) "__class__" = some (some (.builtin "object.__class__")))
    (hn : specialIn K (.builtin "object.__class__") "__get__" = some (some (.builtin "getset_descriptor.__get__"))) (htk : takesIn K (.builtin "object.__class__") = some true) (hm : mroIn K D (.type "object") = some true) :
    KitX K (.ref x) (.ref D) (fun h => InstAt h x ox D (some od0)) where
  ty := fun _ _ _ I => I.type
  it := fun _ _ X _ => by
    obtain ⟨cdD, hcD, _⟩ := any_some hdct
    unfold clsIn at hcD
    split at hcD
    · rename_i c' d' cd' sl' ho
      intro A' Q' E' s' k q
      unfold isType loadHead
      exact wpAny_bind (wpAny_loadPart (k _ _ (X _ _ ho)) (wpAny_pure q))
    · cases hcD
  ne := fun h tp dd its n sl X htp => by
    obtain ⟨cdD, hcD, _⟩ := any_some hdct
    refine Bool.eq_false_iff.mpr fun q => ?_
    have e : D = tp := Value.ref.inj (beq_iff_eq.mp q)
    subst e
    unfold clsIn at hcD
    split at hcD
    · rename_i c' d' cd' sl' ho
      have z := (X _ _ ho).symm.trans htp
      cases z
    · cases hcD
  ca := fun X I k => kin_classX hga hgt hsub hdct ha hn htk hm X I k
end
end PySem.W
namespace Rn
open PySem PySem.Spec PyProof.Rows L2
def rIsX (K : PySem.W.Frag) (D a : Addr) (d : Option Addr) : List V → Hp → VK → Prop := fun xs H Q => ∃ (c : V) (cv : Value) (b : Bool) (dd : Addr) (fs : List (Str × V)), xs = [.ref a, c] ∧ (∀ u, RelV c u → u = cv) ∧ PySem.W.kitOne K (.ref D) cv = some b ∧ d = some dd ∧ H dd = some (.xd fs) ∧ Q (.bl b) H
theorem call_isX {X : Cx} {a D : Addr} {d : Option Addr} {oe : Obj} {pn : List (Addr × Obj)} (C : ExcC X.K D) (hz : Zc (.ref D) d oe) (hf : ∃ vs, oe.data = .fields vs) : CallR (X.suite a ((a, oe) :: pn)) (.builtin "isinstance") (rIsX X.K D a d) := by
  intro pins s σ H xs us Q I r h
  obtain ⟨c, cv, b, dd, fs, rfl, hcv, e, ed, ea, q⟩ := h
  cases r with
  | cons rx rr =>
    cases rr with
    | cons rt rr =>
      cases rr
      cases rx
      have ec := hcv _ rt
      subst ec
      subst ed
      obtain ⟨hget, _⟩ := I.pin (a, oe) (List.mem_append.mpr (.inl List.mem_cons_self))
      obtain ⟨vs, hv⟩ := hf
      have hx : ObjOk X.prog X.w H s.heap dd (.xd fs) := I.hok dd _ ea
      obtain ⟨mA, hns, hr⟩ := hx
      obtain ⟨od, ho, hl⟩ := lookIn_ns hns
      have J : PySem.W.InstAt s.heap a oe D (some od) := ⟨hget, hz.1, by unfold PySem.W.notCls; rw [hv] <;> rfl, by rw [hz.2]; exact ho⟩
      exact PySem.W.kia_one (PySem.W.kitx_excX C.hg C.hk C.hs C.hd C.ha C.hn C.ht C.hm) I.kIn J e (fun z => nomatch z) fun tk => ⟨.bl b, H, I.kept (t' := tk) fun _ _ z => z, rfl, q⟩
end Rn

/-! x in o by an own __contains__. -/
namespace Rn
open PySem PySem.Spec PyProof.Rows L2
structure ConC (P : Program) (w : World) (K : PySem.W.Frag) (mg : Str → Option Value) (base : Heap) (C : Addr) (k : Nat) (sp : Sp) : Prop where
  ex : ∃ f fd ps, PySem.W.findIn K (.ref C) "__contains__" = some (some (.ref f)) ∧ PySem.W.isFn K (.ref f) = true ∧ Binds K fd ps [] ∧ FnOk P w K mg base (L2.CX P w) k f fd ps sp
/-- x in y, y an instance of the class at C -/
def rInO (C : Addr) (sp : Sp) : R2 := fun x y H Q => ∃ a dx fs, y = .ref a ∧ H a = some (.ins C dx fs) ∧ sp [.ref a, x] H (fun v H' => ∃ b : Bool, v = .bl b ∧ Q (.bl b) H') fun _ _ _ => False
section
variable {X : Cx} {C : Addr} {k : Nat} {sp : Sp}
theorem op_inO (L : ConC X.prog X.w X.K X.mg X.base C k sp) (hr : Room (k + 1) X.A) : OpR X (compareOp .In) (rInO C sp) := by
  obtain ⟨f, fd, ps, hs, hf, bN, FN⟩ := L.ex
  intro pins s σ H x y v u Q I rx ry h
  obtain ⟨a, dx, fs, rfl, ha, hsp⟩ := h
  obtain rfl : u = .ref a := ry
  obtain ⟨mA, J, _⟩ := ins_get I.hok ha
  obtain ⟨od, J, _⟩ := J.look
  obtain ⟨m, hF⟩ := I.fr
  refine PySem.W.in_K hF I.ok.mod.kin J hs hf ?_
  have np : PassesAt (L2.CX X.prog X.w) X σ (fun _ _ _ => False) := fun _ _ _ _ _ _ hc => by
    obtain ⟨_, _, _, _, _, _, _, _, _, _, _, _, hE⟩ := hc
    exact hE.elim
  refine wpAny_mono (run_fnS (E := fun _ _ _ _ => False) (us := [.ref a, v]) (vs := [.ref a, x]) FN (hr.mono (Nat.le_succ _)) bN np I (.cons rfl (.cons rx .nil)) hsp) (fun r s' hq => ?_) fun _ _ z => z
  obtain ⟨z, H', I', rz, b, rfl, q⟩ := hq
  obtain rfl : r = .bool b := rz
  exact wpAny_truthy_bool ⟨.bl b, H', I', rfl, q⟩
end
end Rn

/-! enumerate(v), zip(v, ..), the iterators' making left open. -/
namespace PySem
open Sem (wp)
abbrev enumRec (itv : Value) : Obj := { cls := .type "enumerate", data := .fields #[.none, .bool false, itv, rawInt 0, .none, .none] }
theorem meetsIn_enum (prog : Program) (w : World) (v : Value) :
    MeetsIn prog w (Builtin.«enumerate.__new__» ⟨[.type "enumerate", v], []⟩) (fun A R s => wpAny (model prog w) A.in1 (pyIter v) (fun itv s1 =>
      R (.ok (.ret (.ref s1.heap.objs.size))) { s1 with heap := s1.heap.push (enumRec itv) }) (fun e s' => R (.error e) s') s) :=
  .of_wp fun A R s h => by
    obtain ⟨hp, g, d, tk, os⟩ := s
    have hsub := sub_enumerate
    have q1 : ∀ {Q : Value → Shared → Prop}, (∀ itv s1, R (.ok (.ret (.ref s1.heap.objs.size))) { s1 with heap := s1.heap.push (enumRec itv) } → Q itv s1) → wpAny (model prog w) A.in1 (pyIter v) Q (fun e s' => R (.error e) s') ⟨hp, g, d, tk, os⟩ :=
      fun q1 => wpAny_mono h q1 fun _ _ z => z
    wp_walk using q1
    refine wpAny_stack_any fun st => wpAny_pure ?_
    split
    · rename_i c _ _ _ _ _
      cases (c == Value.type "enumerate")
      · wp_walk using q1
        intro itv s1 hr
        obtain ⟨hp1, g1, d1, tk1, os1⟩ := s1
        wp_walk
        exact ⟨_, rfl, hr⟩
      · wp_walk using q1
        intro itv s1 hr
        obtain ⟨hp1, g1, d1, tk1, os1⟩ := s1
        wp_walk
        exact ⟨_, rfl, hr⟩
    · wp_walk using q1
      intro itv s1 hr
      obtain ⟨hp1, g1, d1, tk1, os1⟩ := s1
      wp_walk
      exact ⟨_, rfl, hr⟩
abbrev zT2 (h : Heap) (i1 i2 : Value) : Heap := h.push { cls := .type "tuple", data := .seq #[i1, i2] }
abbrev zO2 (h : Heap) (i1 i2 : Value) : Heap := (zT2 h i1 i2).push { cls := .type "tuple", data := .seq #[.none, .none] }
abbrev zZ2 (h : Heap) (i1 i2 : Value) : Heap := (zO2 h i1 i2).push { cls := .type "zip", data := .fields #[.none, .bool false, .bool false, .ref h.objs.size, .ref (zT2 h i1 i2).objs.size] }
theorem meetsIn_zip2 (prog : Program) (w : World) (v1 v2 : Value) :
    MeetsIn prog w (Builtin.«zip.__new__» ⟨[.type "zip", v1, v2], []⟩) (fun A R s => wpAny (model prog w) A.in1 (pyIter v1) (fun i1 s1 => wpAny (model prog w) A.in1 (pyIter v2) (fun i2 s2 =>
      R (.ok (.ret (.ref (zO2 s2.heap i1 i2).objs.size))) { s2 with heap := zZ2 s2.heap i1 i2 }) (fun e s' => R (.error e) s') s1) (fun e s' => R (.error e) s') s) :=
  .of_wp fun A R s h => by
    obtain ⟨hp, g, d, tk, os⟩ := s
    have hsub := sub_zip
    have q1 : ∀ {Q : Value → Shared → Prop}, (∀ i1 s1, wpAny (model prog w) A.in1 (pyIter v2) (fun i2 s2 => R (.ok (.ret (.ref (zO2 s2.heap i1 i2).objs.size))) { s2 with heap := zZ2 s2.heap i1 i2 }) (fun e s' => R (.error e) s') s1 → Q i1 s1) →
        wpAny (model prog w) A.in1 (pyIter v1) Q (fun e s' => R (.error e) s') ⟨hp, g, d, tk, os⟩ := fun q1 => wpAny_mono h q1 fun _ _ z => z
    wp_walk using q1
    intro i1 s1 h1
    have q2 : ∀ {Q : Value → Shared → Prop}, (∀ i2 s2, R (.ok (.ret (.ref (zO2 s2.heap i1 i2).objs.size))) { s2 with heap := zZ2 s2.heap i1 i2 } → Q i2 s2) →
        wpAny (model prog w) A.in1 (pyIter v2) Q (fun e s' => R (.error e) s') s1 := fun q1 => wpAny_mono h1 q1 fun _ _ z => z
    wp_walk using q2
    intro i2 s2 hr
    obtain ⟨hp1, g1, d1, tk1, os1⟩ := s2
    wp_walk
    exact ⟨_, rfl, hr⟩
abbrev zT3 (h : Heap) (i1 i2 i3 : Value) : Heap := h.push { cls := .type "tuple", data := .seq #[i1, i2, i3] }
abbrev zO3 (h : Heap) (i1 i2 i3 : Value) : Heap := (zT3 h i1 i2 i3).push { cls := .type "tuple", data := .seq #[.none, .none, .none] }
abbrev zZ3 (h : Heap) (i1 i2 i3 : Value) : Heap := (zO3 h i1 i2 i3).push { cls := .type "zip", data := .fields #[.none, .bool false, .bool false, .ref h.objs.size, .ref (zT3 h i1 i2 i3).objs.size] }
theorem meetsIn_zip3 (prog : Program) (w : World) (v1 v2 v3 : Value) :
    MeetsIn prog w (Builtin.«zip.__new__» ⟨[.type "zip", v1, v2, v3], []⟩) (fun A R s => wpAny (model prog w) A.in1 (pyIter v1) (fun i1 s1 => wpAny (model prog w) A.in1 (pyIter v2) (fun i2 s2 => wpAny (model prog w) A.in1 (pyIter v3) (fun i3 s3 =>
      R (.ok (.ret (.ref (zO3 s3.heap i1 i2 i3).objs.size))) { s3 with heap := zZ3 s3.heap i1 i2 i3 }) (fun e s' => R (.error e) s') s2) (fun e s' => R (.error e) s') s1) (fun e s' => R (.error e) s') s) :=
  .of_wp fun A R s h => by
    obtain ⟨hp, g, d, tk, os⟩ := s
    have hsub := sub_zip
    have q1 : ∀ {Q : Value → Shared → Prop}, (∀ i1 s1, wpAny (model prog w) A.in1 (pyIter v2) (fun i2 s2 => wpAny (model prog w) A.in1 (pyIter v3) (fun i3 s3 => R (.ok (.ret (.ref (zO3 s3.heap i1 i2 i3).objs.size))) { s3 with heap := zZ3 s3.heap i1 i2 i3 }) (fun e s' => R (.error e) s') s2) (fun e s' => R (.error e) s') s1 → Q i1 s1) →
        wpAny (model prog w) A.in1 (pyIter v1) Q (fun e s' => R (.error e) s') ⟨hp, g, d, tk, os⟩ := fun q1 => wpAny_mono h q1 fun _ _ z => z
    wp_walk using q1
    intro i1 s1 h1
    have q2 : ∀ {Q : Value → Shared → Prop}, (∀ i2 s2, wpAny (model prog w) A.in1 (pyIter v3) (fun i3 s3 => R (.ok (.ret (.ref (zO3 s3.heap i1 i2 i3).objs.size))) { s3 with heap := zZ3 s3.heap i1 i2 i3 }) (fun e s' => R (.error e) s') s2 → Q i2 s2) →
        wpAny (model prog w) A.in1 (pyIter v2) Q (fun e s' => R (.error e) s') s1 := fun q1 => wpAny_mono h1 q1 fun _ _ z => z
    wp_walk using q2
    intro i2 s2 h2
    have q3 : ∀ {Q : Value → Shared → Prop}, (∀ i3 s3, R (.ok (.ret (.ref (zO3 s3.heap i1 i2 i3).objs.size))) { s3 with heap := zZ3 s3.heap i1 i2 i3 } → Q i3 s3) →
        wpAny (model prog w) A.in1 (pyIter v3) Q (fun e s' => R (.error e) s') s2 := fun q1 => wpAny_mono h2 q1 fun _ _ z => z
    wp_walk using q3
    intro i3 s3 hr
    obtain ⟨hp1, g1, d1, tk1, os1⟩ := s3
    wp_walk
    exact ⟨_, rfl, hr⟩
end PySem

/-! enumerate and zip over lists, tuples and own iterables whose __iter__ is iter(self.f). -/
namespace Rn
open PySem PySem.Spec PyProof.Rows L2
/-- what is walked: a tuple or a list, where, of what -/
structure Src where
  tp : Bool
  a : Addr
  xs : List V
def SqK (K : PySem.W.Frag) (H : Hp) (r : Src) : Prop := match r with | ⟨true, a, xs⟩ => SqT K H a xs | ⟨false, a, xs⟩ => SqL K H a xs
def ItK (h : Heap) (it : Addr) (r : Src) (i : Nat) : Prop := match r with | ⟨true, a, _⟩ => h.IsTupleIter it a i | ⟨false, a, _⟩ => h.IsListIter it a i
def HvK (h : Heap) (r : Src) (its : List Value) : Prop := match r with | ⟨true, a, _⟩ => h.IsTuple a its.toArray | ⟨false, a, _⟩ => h.IsList a its.toArray
section
variable {X : Cx} {pins : List (Addr × Obj)} {σ : L2.St} {H H1 : Hp} {s s1 : Shared} {K : PySem.W.Frag} {r : Src} {it a b : Addr} {i : Nat} {h h' : Heap}
theorem ItK.obj (q : ItK h it r i) : ∃ o, h.get? it = some o ∧ ∀ v, o.data ≠ .cell v := by
  obtain ⟨tp, a, xs⟩ := r
  cases tp with
  | true => obtain ⟨o, e, c, d⟩ := q; exact ⟨o, e, fun v z => by rw [d] at z; cases z⟩
  | false => obtain ⟨o, e, c, d⟩ := q; exact ⟨o, e, fun v z => by rw [d] at z; cases z⟩
theorem ItK.keep (q : ItK h it r i) (k : ∀ o, h.get? it = some o → h'.get? it = some o) : ItK h' it r i := by
  obtain ⟨tp, a, xs⟩ := r
  cases tp with
  | true => obtain ⟨o, e, c, d⟩ := q; exact ⟨o, k o e, c, d⟩
  | false => obtain ⟨o, e, c, d⟩ := q; exact ⟨o, k o e, c, d⟩
theorem hvK (I : Inv X pins σ H s) (q : SqK X.K H r) : ∃ its, Vals r.xs its ∧ HvK s.heap r its ∧ r.a < s.heap.objs.size := by
  obtain ⟨tp, a, xs⟩ := r
  cases tp with
  | true =>
    obtain ⟨its, rv, p, _⟩ := I.tuple q
    exact ⟨its, rv, p, by obtain ⟨o, e, _⟩ := p; exact Heap.lt_size e⟩
  | false =>
    obtain ⟨its, rv, p, _⟩ := I.list q
    exact ⟨its, rv, p.isList, p.lt⟩
theorem drawK {prog : Program} {w : World} {A : Around} (hh : A.handled = none) (r : Src) (it : Addr) (hne : r.a ≠ it) (its : List Value) :
    Draws prog w A it [it, r.a] its.length (fun i v => its[i]? = some v) (fun i h => ItK h it r i ∧ HvK h r its) := by
  obtain ⟨tp, a, xs⟩ := r
  cases tp with
  | true => exact Draws.tuple hh it a hne its.toArray |> fun D => by simpa [ItK, HvK] using D
  | false => exact Draws.list hh it a hne its.toArray |> fun D => by simpa [ItK, HvK] using D
theorem vals_at : ∀ {xs : List V} {us : List Value}, Vals xs us → ∀ {i : Nat} {u : Value}, us[i]? = some u → ∃ x, xs[i]? = some x ∧ RelV x u
  | _, _, .nil, i, u, h => by simp at h
  | _, _, .cons r t, 0, u, h => by simp at h; subst h; exact ⟨_, rfl, r⟩
  | _, _, .cons r t, i + 1, u, h => by simp at h; obtain ⟨x, q, e⟩ := vals_at t h; exact ⟨x, by simpa using q, e⟩
/-! ### enumerate -/
def JEn (K : PySem.W.Frag) (r : Src) : It :=
  ⟨fun i H => SqK K H r ∧ i < r.xs.length, fun i H v H' => SqK K H r → YPair (fun i => some (.int (i : Nat))) (fun i => r.xs[i]?) i H v H', fun i H => SqK K H r ∧ i = r.xs.length⟩
theorem walk_JEn : Walk (JEn K r) r.xs.length (fun H => SqK K H r) (YPair (fun i => some (.int (i : Nat))) (fun i => r.xs[i]?)) :=
  ⟨fun i H hi q => ⟨q, hi⟩, fun H q => ⟨q, rfl⟩, fun i H v H' hi q y => y q⟩
theorem turn_enumK {P : Program} {w : World} {elts : List Expr} {kk : Nat} {tpos : Pos} (r : Src) (e it : Addr) (hei : e ≠ it) (hae : r.a ≠ e) (hai : r.a ≠ it) :
    Turn P w K (.Tuple elts kk tpos) (JEn K r) [e, it] e (fun i h => (∃ old, IsEnum h e it (0 + (i : Int)) old) ∧ ItK h it r i) where
  mem := by simp
  obj := fun i h st b hb => by
    obtain ⟨⟨old, he⟩, hi⟩ := st
    have e' : b = e ∨ b = it := by simpa using hb
    rcases e' with z | z
    · rw [z]; exact ⟨_, he, fun v q => nomatch q⟩
    · rw [z]; exact hi.obj
  keep := fun i h h' st k => by
    obtain ⟨⟨old, he⟩, hi⟩ := st
    exact ⟨⟨old, k e (by simp) _ he⟩, hi.keep fun o q => k it (by simp) o q⟩
  item := by
    intro X hP hw hK hc i pins s σ H E I hf st hg
    subst hP hw hK
    obtain ⟨he, hi⟩ := st
    obtain ⟨its, rv, hv, _⟩ := hvK I hg.1
    have hl := rv.length
    have D := drawK (prog := X.prog) (w := X.w) (A := X.A.in1) (I.ok.hd hc) r it hai its
    have W := GoesN.enumFrom (elts := elts) (x1 := kk) (pos := tpos) 0 D e hei (by simp; exact ⟨hei, Ne.symm hae⟩) (by simp)
    refine W.goes i s _ E (by rw [← hl]; exact hg.2) ⟨he, hi, hv⟩ fun v h' tk hY st' hk htk => ?_
    obtain ⟨T, t, x, rfl, hT, hx, hTup⟩ := hY
    obtain ⟨y, hy, ry⟩ := vals_at rv hx
    have new : ObjOk X.prog X.w (upd H T (.tup [.int (i : Nat), y])) h' T (.tup [.int (i : Nat), y]) :=
      ⟨by show 2 ≤ sizeLine; decide, [.int (0 + (i : Int)) t, x], .cons ⟨_, by rw [Int.zero_add]⟩ (.cons ry .nil), hTup⟩
    have I1 : Inv X pins σ (upd H T (.tup [.int (i : Nat), y])) { s with heap := h', toks := tk } := I.turnedNew (ch := [e, it]) hk hf hT new
    refine ⟨.ref T, _, I1, rfl, fun _ => ⟨T, .int (i : Nat), y, rfl, I.hok.fresh hT, rfl, rfl, hy⟩, ⟨st'.1, st'.2.1⟩, fun b hb => ?_⟩
    have hlt : b < s.heap.objs.size := by
      have e' : b = e ∨ b = it := by simpa using hb
      rcases e' with z | z
      · rw [z]; obtain ⟨_, he⟩ := he; exact Heap.lt_size he
      · rw [z]; obtain ⟨o, q, _⟩ := hi.obj; exact Heap.lt_size q
    rw [upd_ne (Nat.ne_of_lt (Nat.lt_of_lt_of_le hlt hT))]
    exact (hf b hb).1
  done := by
    intro X hP hw hK hc i pins s σ H E I hf st hg
    subst hP hw hK
    obtain ⟨he, hi⟩ := st
    obtain ⟨its, rv, hv, _⟩ := hvK I hg.1
    have hl := rv.length
    have D := drawK (prog := X.prog) (w := X.w) (A := X.A.in1) (I.ok.hd hc) r it hai its
    have W := GoesN.enumFrom (elts := elts) (x1 := kk) (pos := tpos) 0 D e hei (by simp; exact ⟨hei, Ne.symm hae⟩) (by simp)
    have hn : i = its.length := by rw [hg.2, hl]
    subst hn
    exact wpAny_mono (W.stops s (fun s1 => Inv X pins σ H s1) E ⟨he, hi, hv⟩ fun h' tk hk htk => I.turnedL (ch := [e, it]) hk hf) (fun r s1 q => q) fun _ _ z => z
  self := fun A i s Q E st h => let ⟨⟨_, he⟩, _⟩ := st; wpAny_pyIter_enum he h
/-! ### zip -/
def JZ2 (K : PySem.W.Frag) (r1 r2 : Src) : It :=
  ⟨fun i H => (SqK K H r1 ∧ SqK K H r2) ∧ i < min r1.xs.length r2.xs.length, fun i H v H' => SqK K H r1 ∧ SqK K H r2 → YPair (fun i => r1.xs[i]?) (fun i => r2.xs[i]?) i H v H', fun i H => (SqK K H r1 ∧ SqK K H r2) ∧ i = min r1.xs.length r2.xs.length⟩
theorem walk_JZ2 {r1 r2 : Src} : Walk (JZ2 K r1 r2) (min r1.xs.length r2.xs.length) (fun H => SqK K H r1 ∧ SqK K H r2) (YPair (fun i => r1.xs[i]?) (fun i => r2.xs[i]?)) :=
  ⟨fun i H hi q => ⟨q, hi⟩, fun H q => ⟨q, rfl⟩, fun i H v H' hi q y => y q⟩
theorem turn_zip2K {P : Program} {w : World} {elts : List Expr} {kk : Nat} {tpos : Pos} (r1 r2 : Src) (z TI TO i1 i2 : Addr) (S : ZipSep2 z TI TO i1 i2 [i1, r1.a] [i2, r2.a]) (h1 : r1.a ≠ i1) (h2 : r2.a ≠ i2) :
    Turn P w K (.Tuple elts kk tpos) (JZ2 K r1 r2) [z, TI, TO, i1, i2] z (fun i h => IsZip h z TI TO .none ∧ IsTupOf2 h TI (.ref i1) (.ref i2) ∧ (∃ a1 a2, IsTupOf2 h TO a1 a2) ∧ ItK h i1 r1 i ∧ ItK h i2 r2 i) where
  mem := by simp
  obj := fun i h st b hb => by
    obtain ⟨hz, hTI, ⟨x, y, hTO⟩, q1, q2⟩ := st
    have e' : b = z ∨ b = TI ∨ b = TO ∨ b = i1 ∨ b = i2 := by simpa using hb
    rcases e' with q | q | q | q | q
    · rw [q]; exact ⟨_, hz, fun v q => nomatch q⟩
    · rw [q]; exact ⟨_, hTI, fun v q => nomatch q⟩
    · rw [q]; exact ⟨_, hTO, fun v q => nomatch q⟩
    · rw [q]; exact q1.obj
    · rw [q]; exact q2.obj
  keep := fun i h h' st k => by
    obtain ⟨hz, hTI, ⟨x, y, hTO⟩, q1, q2⟩ := st
    exact ⟨k z (by simp) _ hz, k TI (by simp) _ hTI, ⟨x, y, k TO (by simp) _ hTO⟩, q1.keep fun o q => k i1 (by simp) o q, q2.keep fun o q => k i2 (by simp) o q⟩
  item := by
    intro X hP hw hK hc i pins s σ H E I hf st hg
    subst hP hw hK
    obtain ⟨hz, hTI, hTO, q1, q2⟩ := st
    obtain ⟨its, rv, hv, _⟩ := hvK I hg.1.1
    obtain ⟨its2, rv2, hv2, _⟩ := hvK I hg.1.2
    have hl := rv.length
    have hl2 := rv2.length
    have D := drawK (prog := X.prog) (w := X.w) (A := X.A.in1) (I.ok.hd hc) r1 i1 h1 its
    have D2 := drawK (prog := X.prog) (w := X.w) (A := X.A.in1) (I.ok.hd hc) r2 i2 h2 its2
    have W := GoesN.zip2 (elts := elts) (x1 := kk) (pos := tpos) S D D2
    refine W.goes i s _ E (by rw [← hl, ← hl2]; exact hg.2) ⟨hz, hTI, hTO, ⟨q1, hv⟩, q2, hv2⟩ fun v h' tk hY st' hk htk => ?_
    obtain ⟨T, x, y, rfl, hT, hx, hy, hTup⟩ := hY
    obtain ⟨x', hx', rx⟩ := vals_at rv hx
    obtain ⟨y', hy', ry⟩ := vals_at rv2 hy
    have new : ObjOk X.prog X.w (upd H T (.tup [x', y'])) h' T (.tup [x', y']) := ⟨by show 2 ≤ sizeLine; decide, [x, y], .cons rx (.cons ry .nil), hTup⟩
    have I1 : Inv X pins σ (upd H T (.tup [x', y'])) { s with heap := h', toks := tk } := I.turnedNew (ch := [z, TI, TO, i1, i2]) (fun b o hb q => hk b o (fun m => hb (by simp at m ⊢; rcases m with m | m | m | m <;> simp [m])) q) hf hT new
    refine ⟨.ref T, _, I1, rfl, fun _ => ⟨T, x', y', rfl, I.hok.fresh hT, rfl, hx', hy'⟩, ⟨st'.1, st'.2.1, st'.2.2.1, st'.2.2.2.1.1, st'.2.2.2.2.1⟩, fun b hb => ?_⟩
    have hlt : b < s.heap.objs.size := by
      have e' : b = z ∨ b = TI ∨ b = TO ∨ b = i1 ∨ b = i2 := by simpa using hb
      rcases e' with q | q | q | q | q
      · rw [q]; exact Heap.lt_size hz
      · rw [q]; exact Heap.lt_size hTI
      · rw [q]; obtain ⟨_, _, q⟩ := hTO; exact Heap.lt_size q
      · rw [q]; obtain ⟨o, q, _⟩ := q1.obj; exact Heap.lt_size q
      · rw [q]; obtain ⟨o, q, _⟩ := q2.obj; exact Heap.lt_size q
    rw [upd_ne (Nat.ne_of_lt (Nat.lt_of_lt_of_le hlt hT))]
    exact (hf b hb).1
  done := by
    intro X hP hw hK hc i pins s σ H E I hf st hg
    subst hP hw hK
    obtain ⟨hz, hTI, hTO, q1, q2⟩ := st
    obtain ⟨its, rv, hv, _⟩ := hvK I hg.1.1
    obtain ⟨its2, rv2, hv2, _⟩ := hvK I hg.1.2
    have D := drawK (prog := X.prog) (w := X.w) (A := X.A.in1) (I.ok.hd hc) r1 i1 h1 its
    have D2 := drawK (prog := X.prog) (w := X.w) (A := X.A.in1) (I.ok.hd hc) r2 i2 h2 its2
    have W := GoesN.zip2 (elts := elts) (x1 := kk) (pos := tpos) S D D2
    have hn : i = min its.length its2.length := by rw [hg.2, rv.length, rv2.length]
    subst hn
    exact wpAny_mono (W.stops s (fun s1 => Inv X pins σ H s1) E ⟨hz, hTI, hTO, ⟨q1, hv⟩, q2, hv2⟩ fun h' tk hk htk => I.turnedL (ch := [z, TI, TO, i1, i2]) (fun b o hb q => hk b o (fun m => hb (by simp at m ⊢; rcases m with m | m | m | m <;> simp [m])) q) hf) (fun r s1 q => q) fun _ _ z => z
  self := fun A i s Q E st h => wpAny_pyIter_zip st.1 h
/-! ### three -/
def YTrip (xs ys zs : Nat → Option V) : Nat → Hp → V → Hp → Prop := fun i H v H' => ∃ T x y z, v = .ref T ∧ H T = none ∧ H' = upd H T (.tup [x, y, z]) ∧ xs i = some x ∧ ys i = some y ∧ zs i = some z
def JZ3 (K : PySem.W.Frag) (r1 r2 r3 : Src) : It :=
  ⟨fun i H => (SqK K H r1 ∧ SqK K H r2 ∧ SqK K H r3) ∧ i < min (min r1.xs.length r2.xs.length) r3.xs.length, fun i H v H' => SqK K H r1 ∧ SqK K H r2 ∧ SqK K H r3 → YTrip (fun i => r1.xs[i]?) (fun i => r2.xs[i]?) (fun i => r3.xs[i]?) i H v H', fun i H => (SqK K H r1 ∧ SqK K H r2 ∧ SqK K H r3) ∧ i = min (min r1.xs.length r2.xs.length) r3.xs.length⟩
theorem walk_JZ3 {r1 r2 r3 : Src} : Walk (JZ3 K r1 r2 r3) (min (min r1.xs.length r2.xs.length) r3.xs.length) (fun H => SqK K H r1 ∧ SqK K H r2 ∧ SqK K H r3) (YTrip (fun i => r1.xs[i]?) (fun i => r2.xs[i]?) (fun i => r3.xs[i]?)) :=
  ⟨fun i H hi q => ⟨q, hi⟩, fun H q => ⟨q, rfl⟩, fun i H v H' hi q y => y q⟩
theorem turn_zip3K {P : Program} {w : World} {elts : List Expr} {kk : Nat} {tpos : Pos} (r1 r2 r3 : Src) (z TI TO i1 i2 i3 : Addr) (S : ZipSep3 z TI TO i1 i2 i3 [i1, r1.a] [i2, r2.a] [i3, r3.a]) (h1 : r1.a ≠ i1) (h2 : r2.a ≠ i2) (h3 : r3.a ≠ i3) :
    Turn P w K (.Tuple elts kk tpos) (JZ3 K r1 r2 r3) [z, TI, TO, i1, i2, i3] z (fun i h => IsZip h z TI TO .none ∧ IsTupOf3 h TI (.ref i1) (.ref i2) (.ref i3) ∧ (∃ a1 a2 a3, IsTupOf3 h TO a1 a2 a3) ∧ ItK h i1 r1 i ∧ ItK h i2 r2 i ∧ ItK h i3 r3 i) where
  mem := by simp
  obj := fun i h st b hb => by
    obtain ⟨hz, hTI, ⟨x, y, u, hTO⟩, q1, q2, q3⟩ := st
    have e' : b = z ∨ b = TI ∨ b = TO ∨ b = i1 ∨ b = i2 ∨ b = i3 := by simpa using hb
    rcases e' with q | q | q | q | q | q
    · rw [q]; exact ⟨_, hz, fun v q => nomatch q⟩
    · rw [q]; exact ⟨_, hTI, fun v q => nomatch q⟩
    · rw [q]; exact ⟨_, hTO, fun v q => nomatch q⟩
    · rw [q]; exact q1.obj
    · rw [q]; exact q2.obj
    · rw [q]; exact q3.obj
  keep := fun i h h' st k => by
    obtain ⟨hz, hTI, ⟨x, y, u, hTO⟩, q1, q2, q3⟩ := st
    exact ⟨k z (by simp) _ hz, k TI (by simp) _ hTI, ⟨x, y, u, k TO (by simp) _ hTO⟩, q1.keep fun o q => k i1 (by simp) o q, q2.keep fun o q => k i2 (by simp) o q, q3.keep fun o q => k i3 (by simp) o q⟩
  item := by
    intro X hP hw hK hc i pins s σ H E I hf st hg
    subst hP hw hK
    obtain ⟨hz, hTI, hTO, q1, q2, q3⟩ := st
    obtain ⟨its, rv, hv, _⟩ := hvK I hg.1.1
    obtain ⟨its2, rv2, hv2, _⟩ := hvK I hg.1.2.1
    obtain ⟨its3, rv3, hv3, _⟩ := hvK I hg.1.2.2
    have hl := rv.length
    have hl2 := rv2.length
    have hl3 := rv3.length
    have D := drawK (prog := X.prog) (w := X.w) (A := X.A.in1) (I.ok.hd hc) r1 i1 h1 its
    have D2 := drawK (prog := X.prog) (w := X.w) (A := X.A.in1) (I.ok.hd hc) r2 i2 h2 its2
    have D3 := drawK (prog := X.prog) (w := X.w) (A := X.A.in1) (I.ok.hd hc) r3 i3 h3 its3
    have W := GoesN.zip3 (elts := elts) (x1 := kk) (pos := tpos) S D D2 D3
    refine W.goes i s _ E (by rw [← hl, ← hl2, ← hl3]; exact hg.2) ⟨hz, hTI, hTO, ⟨q1, hv⟩, ⟨q2, hv2⟩, q3, hv3⟩ fun v h' tk hY st' hk htk => ?_
    obtain ⟨T, x, y, u, rfl, hT, hx, hy, hu, hTup⟩ := hY
    obtain ⟨x', hx', rx⟩ := vals_at rv hx
    obtain ⟨y', hy', ry⟩ := vals_at rv2 hy
    obtain ⟨u', hu', ru⟩ := vals_at rv3 hu
    have new : ObjOk X.prog X.w (upd H T (.tup [x', y', u'])) h' T (.tup [x', y', u']) := ⟨by show 3 ≤ sizeLine; decide, [x, y, u], .cons rx (.cons ry (.cons ru .nil)), hTup⟩
    have I1 : Inv X pins σ (upd H T (.tup [x', y', u'])) { s with heap := h', toks := tk } := I.turnedNew (ch := [z, TI, TO, i1, i2, i3]) (fun b o hb q => hk b o (fun m => hb (by simp at m ⊢; rcases m with m | m | m | m | m <;> simp [m])) q) hf hT new
    refine ⟨.ref T, _, I1, rfl, fun _ => ⟨T, x', y', u', rfl, I.hok.fresh hT, rfl, hx', hy', hu'⟩, ⟨st'.1, st'.2.1, st'.2.2.1, st'.2.2.2.1.1, st'.2.2.2.2.1.1, st'.2.2.2.2.2.1⟩, fun b hb => ?_⟩
    have hlt : b < s.heap.objs.size := by
      have e' : b = z ∨ b = TI ∨ b = TO ∨ b = i1 ∨ b = i2 ∨ b = i3 := by simpa using hb
      rcases e' with q | q | q | q | q | q
      · rw [q]; exact Heap.lt_size hz
      · rw [q]; exact Heap.lt_size hTI
      · rw [q]; obtain ⟨_, _, _, q⟩ := hTO; exact Heap.lt_size q
      · rw [q]; obtain ⟨o, q, _⟩ := q1.obj; exact Heap.lt_size q
      · rw [q]; obtain ⟨o, q, _⟩ := q2.obj; exact Heap.lt_size q
      · rw [q]; obtain ⟨o, q, _⟩ := q3.obj; exact Heap.lt_size q
    rw [upd_ne (Nat.ne_of_lt (Nat.lt_of_lt_of_le hlt hT))]
    exact (hf b hb).1
  done := by
    intro X hP hw hK hc i pins s σ H E I hf st hg
    subst hP hw hK
    obtain ⟨hz, hTI, hTO, q1, q2, q3⟩ := st
    obtain ⟨its, rv, hv, _⟩ := hvK I hg.1.1
    obtain ⟨its2, rv2, hv2, _⟩ := hvK I hg.1.2.1
    obtain ⟨its3, rv3, hv3, _⟩ := hvK I hg.1.2.2
    have D := drawK (prog := X.prog) (w := X.w) (A := X.A.in1) (I.ok.hd hc) r1 i1 h1 its
    have D2 := drawK (prog := X.prog) (w := X.w) (A := X.A.in1) (I.ok.hd hc) r2 i2 h2 its2
    have D3 := drawK (prog := X.prog) (w := X.w) (A := X.A.in1) (I.ok.hd hc) r3 i3 h3 its3
    have W := GoesN.zip3 (elts := elts) (x1 := kk) (pos := tpos) S D D2 D3
    have hn : i = min (min its.length its2.length) its3.length := by rw [hg.2, rv.length, rv2.length, rv3.length]
    subst hn
    exact wpAny_mono (W.stops s (fun s1 => Inv X pins σ H s1) E ⟨hz, hTI, hTO, ⟨q1, hv⟩, ⟨q2, hv2⟩, q3, hv3⟩ fun h' tk hk htk => I.turnedL (ch := [z, TI, TO, i1, i2, i3]) (fun b o hb q => hk b o (fun m => hb (by simp at m ⊢; rcases m with m | m | m | m | m <;> simp [m])) q) hf) (fun r s1 q => q) fun _ _ z => z
  self := fun A i s Q E st h => wpAny_pyIter_zip st.1 h
end
end Rn

/-! the making of iterators; enumerate(..), zip(..) as what a for walks. -/
namespace Rn
open PySem PySem.Spec PyProof.Rows L2
inductive Kd | L | T | O (C : Addr) (fl : Str)
def Vw (K : PySem.W.Frag) : Kd → V → Hp → Src → Prop
  | .L, v, H, r => r.tp = false ∧ v = .ref r.a ∧ SqK K H r
  | .T, v, H, r => r.tp = true ∧ v = .ref r.a ∧ SqK K H r
  | .O C fl, v, H, r => r.tp = true ∧ (∃ a dx fs, v = .ref a ∧ H a = some (.ins C dx fs) ∧ fs.lookup fl = some (.ref r.a)) ∧ SqK K H r
def KdOk (X : Cx) : Kd → Prop
  | .O C fl => IterC X.prog X.w X.K X.mg C fl
  | _ => True
section
variable {X : Cx} {pins : List (Addr × Obj)} {σ : L2.St} {H H1 : Hp} {s s1 : Shared} {K : PySem.W.Frag} {r r1 r2 r3 : Src} {it a b : Addr} {i : Nat} {h h' : Heap} {kd kd1 kd2 kd3 : Kd}
theorem Vw.sq {v : V} (q : Vw K kd v H r) : SqK K H r := by
  cases kd with
  | L => exact q.2.2
  | T => exact q.2.2
  | O C fl => exact q.2.2
theorem iter_kd {A1 : Around} {u : Value} {v : V} {Q : Value → Shared → Prop} {E : Value → Shared → Prop} (hk : KdOk X kd) (sb : Sub X 1 A1) (I : Inv X pins σ H s) (hv : Vw X.K kd v H r) (rv : RelV v u)
    (h : ∀ it s2, Inv X pins σ H s2 → ItK s2.heap it r 0 → s.heap.objs.size ≤ it → it < s2.heap.objs.size → FpOk X pins H it → Q (.ref it) s2) : wpAny (model X.prog X.w) A1 (pyIter u) Q E s := by
  cases kd with
  | L =>
    obtain ⟨h1, rfl, hq⟩ := hv
    obtain rfl : u = .ref r.a := rv
    obtain ⟨its, rv', p, _⟩ := hvK I hq
    obtain ⟨tp, a, xs⟩ := r
    cases h1
    refine wpAny_pyIter_list p ?_
    refine h _ _ (I.kept (t' := s.toks) (fun _ _ e => Heap.get?_push_of_some _ e)) ⟨_, Heap.get?_push_size _ rfl, rfl, rfl⟩ (Nat.le_refl _) ?_ (I.fpOk (Nat.le_refl _) (I.hok.fresh (Nat.le_refl _)))
    show _ < (Heap.push _ _).objs.size
    rw [Heap.size_push]; exact Nat.lt_succ_self _
  | T =>
    obtain ⟨h1, rfl, hq⟩ := hv
    obtain rfl : u = .ref r.a := rv
    obtain ⟨its, rv', p, _⟩ := hvK I hq
    obtain ⟨tp, a, xs⟩ := r
    cases h1
    refine wpAny_pyIter_tuple p ?_
    refine h _ _ (I.kept (t' := s.toks) (fun _ _ e => Heap.get?_push_of_some _ e)) ⟨_, Heap.get?_push_size _ rfl, rfl, rfl⟩ (Nat.le_refl _) ?_ (I.fpOk (Nat.le_refl _) (I.hok.fresh (Nat.le_refl _)))
    show _ < (Heap.push _ _).objs.size
    rw [Heap.size_push]; exact Nat.lt_succ_self _
  | O C fl =>
    obtain ⟨tp, b, xs⟩ := r
    obtain ⟨h1, ⟨a, dx, fs, rfl, ha, hf⟩, hq⟩ := hv
    cases h1
    obtain rfl : u = .ref a := rv
    have T : IterC X.prog X.w X.K X.mg C fl := hk
    obtain ⟨f, fd, params, scope, nm, qual, p1, p2, p3, p4, p5, p6, hfi, hfn, F, bI, S, hgl, _⟩ := T.ex
    obtain ⟨mA, J, _⟩ := ins_get I.hok ha
    obtain ⟨od, J, _⟩ := J.look
    obtain ⟨m, hF⟩ := I.fr
    refine PySem.W.owit_iter hF I.ok.mod.kin J hfi hfn ?_
    obtain ⟨oc, od', dV, kV, doc, pm, an, cdv, ct, osl, rfl, lk, hcd, hD, _⟩ := F.ex
    have r2 : Vals [V.ref a] [Value.ref a] := .cons rfl .nil
    have hb : BindsTo s (PySem.W.fnOf nm qual params (iterBody fl p1 p2 p3 p4 p5) scope dV kV doc pm an cdv ct) ⟨[.ref a], []⟩ ((["self"] : List Str).zip [.ref a]) := by
      have := bI s [.ref a] I.kIn rfl
      simpa using this
    have e0 : Env0 X.prog X.w X.K X.mg X.base A1 X.stack s H := by
      have e := I.env0
      exact ⟨by rw [sb.fr]; exact e.frames, e.mod, e.bs, e.bsz, e.funs, e.frf, e.hok, e.bare⟩
    refine wpAny_call (codeAny_mono (fn_runS (CX := CX0) (P := X.prog) (w := X.w) (mg := X.mg) (base := X.base) (k := 0) (N := ["self"]) (Q := fun v H' => ∃ it, v = .ref it ∧ H it = none ∧ s.heap.objs.size ≤ it ∧ H' = upd H it (ItT b it 0)) (E := fun _ _ _ => False) lk hcd S rfl sb.room e0 hb r2 fun hr' => ?_) fun r s2 hq' => ?_)
    · have hvis : Vis scope ("self" : Str) := by
        rcases S.par "self" (by simp) with q | q
        · exact .inl q
        · exact .inr (.inl q)
      refine ⟨_, PSs.nox (pss_one (ps_ret (pe_callB (id := "iter") call_iterT hgl T.fr (by decide +kernel) (pa_cons (pe_fld (pv 0 (hv := hvis)) (by rfl)) pa_nil)))), ?_⟩
      exact ⟨_, rfl, a, C, dx, fs, .ref b, rfl, ha, T.cl, T.na, hf, b, xs, rfl, hq, fun it n le => ⟨it, rfl, n, le, rfl⟩⟩
    · cases r with
      | error e => exact False.elim hq'
      | ok fl =>
        cases fl with
        | next => exact False.elim hq'
        | brk => exact False.elim hq'
        | cont => exact False.elim hq'
        | ret u2 =>
          obtain ⟨v, H', I2, rv, it, rfl, hn, le, rfl⟩ := I.after hq'
          obtain rfl : u2 = .ref it := rv
          have eo : s2.heap.get? it = some (itT b 0) := (I2.hok it _ upd_same).1
          have st : s2.heap.IsTupleIter it b 0 := ⟨_, eo, rfl, rfl⟩
          show wpAny _ _ (specialOf (.ref it) "__next__") _ _ _
          refine wpAny_specialOf (name := Str.ofString "__next__") ⟨_, eo, rfl⟩ slot_tupleiter_next.lookup ?_
          have I3 := ItX.inv_drop I2 (show upd H it (ItT b it 0) it = some (.ext _) from upd_same)
          rw [ItX.dropH_upd hn] at I3
          have fp := ItX.inv_fp I2 (upd_same (H := H) (a := it) (o := ItT b it 0)) (Nat.le_trans I.sz le)
          rw [ItX.dropH_upd hn] at fp
          exact h it s2 I3 st le (Heap.lt_size eo) fp
theorem SqK.lt (I : Inv X pins σ H s) (q : SqK X.K H r) : r.a < s.heap.objs.size := by
  obtain ⟨_, _, _, h⟩ := hvK I q
  exact h
def iEnumK (K : PySem.W.Frag) (kd : Kd) (ta : TA) : TI := fun σ H R => ta σ H fun vs H1 => ∃ v r, vs = [v] ∧ Vw K kd v H1 r ∧ R (JEn K r) H1
theorem pi_enumK {e : Expr} {ta : TA} {p pos tpos : Pos} {elts : List Expr} {kk : Nat} (kd : Kd) (hk : KdOk X kd) (hr : Room 3 X.A) (hg : Gl X "enumerate") (hm : X.mg "enumerate" = none) (ha : PA X [e] ta) (hs : starEach [e] X.env = [(false, eval e X.env)] := by rfl) :
    PI X (.Tuple elts kk tpos) (.Call (.Name "enumerate" p) [e] [] pos) (iEnumK X.K kd ta) := by
  refine ⟨fun pins s σ H R I h => ?_⟩
  refine Call_ (ld_blt I hg hm boot_enumerate (PyProof.Rows.callWith_type1 (thn (ha.run pos pins s σ H _ I h) fun us s1 ⟨vs, H1, I1, r1, q1⟩ => ?_) hs rfl))
  obtain ⟨v, r, rfl, hv, q⟩ := q1
  cases r1 with
  | cons ru rr =>
    cases rr
    have sb : Sub X 1 X.A.in1.in1 := (Sub.in1 (Sub.in1 ⟨hr, rfl⟩))
    refine callType_newIn F.called_enumerate (by decide) (F.typeCall_enumerate_1 _) (F.newCall_enumerate_1 _) (fun obj => F.args_object_init_2 obj _) F.entry_enumerate_new (meetsIn_enum X.prog X.w _) ?_
    refine iter_kd hk sb I1 hv ru fun it s2 I2 hi le lt fp => ?_
    have he : IsEnum (s2.heap.push (enumRec (.ref it))) s2.heap.objs.size it (0 + ((0 : Nat) : Int)) .none := Heap.get?_push_size _ rfl
    refine ⟨⟨_, he, rfl⟩, wpAny_pyIter_enum (it := it) (i := 0) (old := .none) (by simpa using he) ?_⟩
    have I3 : Inv X pins σ H1 { s2 with heap := s2.heap.push (enumRec (.ref it)) } := I2.kept (t' := s2.toks) (fun _ _ e => Heap.get?_push_of_some _ e)
    have hal : r.a < s1.heap.objs.size := SqK.lt I1 hv.sq
    refine ⟨s2.heap.objs.size, [s2.heap.objs.size, it], _, _, H1, rfl, I3, turn_enumK r s2.heap.objs.size it (Nat.ne_of_gt lt) (Nat.ne_of_lt (Nat.lt_trans (Nat.lt_of_lt_of_le hal le) lt)) (Nat.ne_of_lt (Nat.lt_of_lt_of_le hal le)), ⟨⟨_, he⟩, hi.keep fun o e => Heap.get?_push_of_some _ e⟩, fun b hb => ?_, q⟩
    have e' : b = s2.heap.objs.size ∨ b = it := by simpa using hb
    rcases e' with z | z
    · rw [z]; exact I2.fpOk (Nat.le_refl _) (I2.hok.fresh (Nat.le_refl _))
    · rw [z]; exact fp
def iZip2K (K : PySem.W.Frag) (kd1 kd2 : Kd) (ta : TA) : TI := fun σ H R => ta σ H fun vs H1 => ∃ v1 v2 r1 r2, vs = [v1, v2] ∧ Vw K kd1 v1 H1 r1 ∧ Vw K kd2 v2 H1 r2 ∧ R (JZ2 K r1 r2) H1
theorem FpOk.mono {b : Addr} {pl : List (Addr × Obj)} (f : FpOk X (pins ++ pl) H b) : FpOk X pins H b := ⟨f.1, f.2.1, f.2.2.1, f.2.2.2.1, f.2.2.2.2.1, fun p hp => f.2.2.2.2.2 p (by
  rcases List.mem_append.mp hp with h | h
  · exact List.mem_append_left _ h
  · exact List.mem_append_right _ (List.mem_append_left _ h))⟩
theorem pin_at {b : Addr} {o : Obj} {pl : List (Addr × Obj)} (I : Inv X (pins ++ pl) σ H s) (h : (b, o) ∈ pl) : s.heap.get? b = some o := (I.pin (b, o) (List.mem_append_right _ (List.mem_append_right _ h))).1
theorem pi_zip2K {e e2 : Expr} {ta : TA} {p pos tpos : Pos} {elts : List Expr} {kk : Nat} (kd1 kd2 : Kd) (hk1 : KdOk X kd1) (hk2 : KdOk X kd2) (hr : Room 3 X.A) (hg : Gl X "zip") (hm : X.mg "zip" = none) (ha : PA X [e, e2] ta)
    (hs : starEach [e, e2] X.env = (false, eval e X.env) :: starEach [e2] X.env := by rfl) (hpl : (backTo pos (starEach [e2] X.env)).any (·.1) = false := by rfl) :
    PI X (.Tuple elts kk tpos) (.Call (.Name "zip" p) [e, e2] [] pos) (iZip2K X.K kd1 kd2 ta) := by
  refine ⟨fun pins s σ H R I h => ?_⟩
  refine Call_ (ld_blt I hg hm PyProof.Rows.boot_zip (PyProof.Rows.callWith_type1 (thn (ha.run pos pins s σ H _ I h) fun us s1 ⟨vs, H1, I1, r1, q1⟩ => ?_) hs hpl))
  obtain ⟨v1, v2, r1', r2', rfl, hv1, hv2, q⟩ := q1
  cases r1 with
  | cons ru rr =>
    cases rr with
    | cons ru2 rr =>
      cases rr
      have sb : Sub X 1 X.A.in1.in1 := (Sub.in1 (Sub.in1 ⟨hr, rfl⟩))
      refine callType_newIn F.called_zip (by decide) (F.typeCall_zip_2 _ _) (F.newCall_zip_2 _ _) (fun obj => F.args_object_init_3 obj _ _) F.entry_zip_new (meetsIn_zip2 X.prog X.w _ _) ?_
      refine iter_kd hk1 sb I1 hv1 ru fun i1 s2 I2 hi1 le1 lt1 fp1 => ?_
      have I2p := I2.pinned (fp := [i1]) (fun b hb => by rw [List.mem_singleton.mp hb]; exact fp1) (fun b hb => by rw [List.mem_singleton.mp hb]; exact hi1.obj)
      have le12 : s1.heap.objs.size ≤ s2.heap.objs.size := Nat.le_of_lt (Nat.lt_of_le_of_lt le1 lt1)
      refine iter_kd hk2 sb I2p hv2 ru2 fun i2 s3 I3p hi2 le2 lt2 fp2 => ?_
      have I3 := I3p.unpinned
      have hi1' : ItK s3.heap i1 r1' 0 := hi1.keep fun o e => pin_at I3p (mem_pinsAt (by simp) e)
      have lt1' : i1 < s2.heap.objs.size := lt1
      have h32 : s2.heap.objs.size ≤ s3.heap.objs.size := Nat.le_of_lt (Nat.lt_of_le_of_lt le2 lt2)
      have ha1 : r1'.a < s1.heap.objs.size := SqK.lt I1 hv1.sq
      have ha2 : r2'.a < s1.heap.objs.size := SqK.lt I1 hv2.sq
      have zT : (zT2 s3.heap (.ref i1) (.ref i2)).objs.size = s3.heap.objs.size + 1 := Heap.size_push ..
      have zO : (zO2 s3.heap (.ref i1) (.ref i2)).objs.size = s3.heap.objs.size + 2 := by rw [Heap.size_push, zT]
      have gZ := Heap.get?_push_size (zO2 s3.heap (.ref i1) (.ref i2)) (o := { cls := .type "zip", data := .fields #[.none, .bool false, .bool false, .ref s3.heap.objs.size, .ref (zT2 s3.heap (.ref i1) (.ref i2)).objs.size] }) rfl
      have gO : (zZ2 s3.heap (.ref i1) (.ref i2)).get? (zT2 s3.heap (.ref i1) (.ref i2)).objs.size = some { cls := .type "tuple", data := .seq #[.none, .none] } := Heap.get?_push_of_some _ (Heap.get?_push_size _ rfl)
      have gT : (zZ2 s3.heap (.ref i1) (.ref i2)).get? s3.heap.objs.size = some { cls := .type "tuple", data := .seq #[.ref i1, .ref i2] } := Heap.get?_push_of_some _ (Heap.get?_push_of_some _ (Heap.get?_push_size _ rfl))
      have kp : ∀ b o, s3.heap.get? b = some o → (zZ2 s3.heap (.ref i1) (.ref i2)).get? b = some o := fun b o e => Heap.get?_push_of_some _ (Heap.get?_push_of_some _ (Heap.get?_push_of_some _ e))
      rw [zO, zT] at gZ
      rw [zT] at gO
      have hz : IsZip (zZ2 s3.heap (.ref i1) (.ref i2)) (s3.heap.objs.size + 2) s3.heap.objs.size (s3.heap.objs.size + 1) .none := by
        show (zZ2 s3.heap (.ref i1) (.ref i2)).get? _ = _
        unfold zZ2
        rw [zT]
        exact gZ
      rw [zO]
      refine ⟨⟨_, hz, rfl⟩, wpAny_pyIter_zip hz ?_⟩
      have I4 : Inv X pins σ H1 { s3 with heap := zZ2 s3.heap (.ref i1) (.ref i2) } := I3.kept (t' := s3.toks) kp
      have a1 : r1'.a < s3.heap.objs.size := Nat.lt_of_lt_of_le ha1 (Nat.le_trans le12 h32)
      have a2 : r2'.a < s3.heap.objs.size := Nat.lt_of_lt_of_le ha2 (Nat.le_trans le12 h32)
      have l1 : i1 < s3.heap.objs.size := Nat.lt_of_lt_of_le lt1' h32
      have l2 : i2 < s3.heap.objs.size := lt2
      have n12 : i1 ≠ i2 := Nat.ne_of_lt (Nat.lt_of_lt_of_le lt1' le2)
      have e1 : r1'.a ≠ i1 := Nat.ne_of_lt (Nat.lt_of_lt_of_le ha1 le1)
      have e2 : r2'.a ≠ i2 := Nat.ne_of_lt (Nat.lt_of_lt_of_le (Nat.lt_of_lt_of_le ha2 le12) le2)
      have e3 : r1'.a ≠ i2 := Nat.ne_of_lt (Nat.lt_of_lt_of_le (Nat.lt_of_lt_of_le ha1 le12) le2)
      have e4 : r2'.a ≠ i1 := Nat.ne_of_lt (Nat.lt_of_lt_of_le ha2 le1)
      refine ⟨s3.heap.objs.size + 2, [s3.heap.objs.size + 2, s3.heap.objs.size, s3.heap.objs.size + 1, i1, i2], _, _, H1, rfl, I4, turn_zip2K r1' r2' (s3.heap.objs.size + 2) s3.heap.objs.size (s3.heap.objs.size + 1) i1 i2 ?_ e1 e2, ⟨hz, gT, ⟨_, _, gO⟩, hi1'.keep fun o e => kp _ o e, hi2.keep fun o e => kp _ o e⟩, fun b hb => ?_, q⟩
      · have w1 : ∀ {x y : Nat}, x < y → x ≠ y := fun h => Nat.ne_of_lt h
        have w2 : ∀ {x y : Nat}, y < x → x ≠ y := fun h => Nat.ne_of_gt h
        have k1 : (s3.heap.objs.size : Nat) < s3.heap.objs.size + 1 := Nat.lt_succ_self _
        have k2 : (s3.heap.objs.size : Nat) < s3.heap.objs.size + 2 := Nat.lt_add_of_pos_right (by decide)
        have k3 : (s3.heap.objs.size + 1 : Nat) < s3.heap.objs.size + 2 := Nat.lt_succ_self _
        refine ⟨w1 k2, w1 k3, w1 k1, w2 l1, by simp, ?_, ?_, w2 l2, by simp, ?_, ?_, ?_, ?_⟩
        all_goals (simp only [List.mem_cons, List.not_mem_nil, or_false, not_or]; refine ⟨?_, ?_⟩)
        · exact w2 (Nat.lt_trans l1 k2)
        · exact w2 (Nat.lt_trans a1 k2)
        · exact w2 (Nat.lt_trans l1 k1)
        · exact w2 (Nat.lt_trans a1 k1)
        · exact w2 (Nat.lt_trans l2 k2)
        · exact w2 (Nat.lt_trans a2 k2)
        · exact w2 (Nat.lt_trans l2 k1)
        · exact w2 (Nat.lt_trans a2 k1)
        · exact n12
        · exact e4.symm
        · exact n12.symm
        · exact e3.symm
      · have fN : ∀ {m : Nat}, s3.heap.objs.size ≤ m → FpOk X pins H1 m := fun h => I3.fpOk h (I3.hok.fresh h)
        have e' : b = s3.heap.objs.size + 2 ∨ b = s3.heap.objs.size ∨ b = s3.heap.objs.size + 1 ∨ b = i1 ∨ b = i2 := by simpa using hb
        rcases e' with z | z | z | z | z
        · rw [z]; exact fN (Nat.le_add_right _ _)
        · rw [z]; exact fN (Nat.le_refl _)
        · rw [z]; exact fN (Nat.le_add_right _ _)
        · rw [z]; exact fp1
        · rw [z]; exact Rn.FpOk.mono fp2
end
end Rn

/-! plain values PV of Python's data, what stands for them in a heap (RV), growth of heaps. -/
namespace Vc
open PySem PySem.Spec PyProof.Rows L2 Rn

inductive PV where
  | non | bl (b : Bool) | int (i : Int) | str (s : Str) | lst (l : List PV) | tup (l : List PV) | obj (c : Str) (ns : List Str) (l : List PV)
mutual
inductive RV (K : PySem.W.Frag) (F : Hp) : V → PV → Prop
  | non : RV K F .non .non
  | bl (b : Bool) : RV K F (.bl b) (.bl b)
  | int (i : Int) : RV K F (.int i) (.int i)
  | str (s : Str) : RV K F (.str s) (.str s)
  | lst {a : Addr} {vs : List V} {ds : List PV} : F a = some (.lst vs) → RVs K F vs ds → RV K F (.ref a) (.lst ds)
  | tup {a : Addr} {vs : List V} {ds : List PV} : SqT K F a vs → RVs K F vs ds → RV K F (.ref a) (.tup ds)
  | obj {a dx : Addr} {c : Str} {ns : List Str} {vs : List V} {ds : List PV} : F a = some (.ins (He.ga K c) dx (ns.zip vs)) → vs.length = ns.length → RVs K F vs ds → RV K F (.ref a) (.obj c ns ds)
inductive RVs (K : PySem.W.Frag) (F : Hp) : List V → List PV → Prop
  | nil : RVs K F [] []
  | cons {v : V} {vs : List V} {d : PV} {ds : List PV} : RV K F v d → RVs K F vs ds → RVs K F (v :: vs) (d :: ds)
end
section
variable {K : PySem.W.Frag} {F G H F' H' : Hp} {a p : Addr} {v : V} {vs ws : List V} {d : PV} {ds es : List PV}
mutual
theorem RV.ext (e : Xt F H) : ∀ {v : V} {d : PV}, RV K F v d → RV K H v d
  | _, _, .non => .non
  | _, _, .bl b => .bl b
  | _, _, .int b => .int b
  | _, _, .str b => .str b
  | _, _, .lst s t => .lst (e _ _ s) (RVs.ext e t)
  | _, _, .tup s t => .tup (sqT_ext e s) (RVs.ext e t)
  | _, _, .obj s l t => .obj (e _ _ s) l (RVs.ext e t)
theorem RVs.ext (e : Xt F H) : ∀ {vs : List V} {ds : List PV}, RVs K F vs ds → RVs K H vs ds
  | _, _, .nil => .nil
  | _, _, .cons s t => .cons (RV.ext e s) (RVs.ext e t)
end
theorem RV.non_ (h : RV K F v .non) : v = .non := by cases h; rfl
theorem RV.bl_ {b : Bool} (h : RV K F v (.bl b)) : v = .bl b := by cases h; rfl
theorem RV.int_ {i : Int} (h : RV K F v (.int i)) : v = .int i := by cases h; rfl
theorem RV.str_ {s : Str} (h : RV K F v (.str s)) : v = .str s := by cases h; rfl
theorem RV.lst_ (h : RV K F v (.lst ds)) : ∃ a vs, v = .ref a ∧ F a = some (.lst vs) ∧ RVs K F vs ds := by cases h with | lst a b => exact ⟨_, _, rfl, a, b⟩
theorem RV.tup_ (h : RV K F v (.tup ds)) : ∃ a vs, v = .ref a ∧ SqT K F a vs ∧ RVs K F vs ds := by cases h with | tup a b => exact ⟨_, _, rfl, a, b⟩
theorem RV.obj_ {c : Str} {ns : List Str} (h : RV K F v (.obj c ns ds)) : ∃ a dx vs, v = .ref a ∧ F a = some (.ins (He.ga K c) dx (ns.zip vs)) ∧ vs.length = ns.length ∧ RVs K F vs ds := by cases h with | obj a b c => exact ⟨_, _, _, rfl, a, b, c⟩
theorem RVs.nil_ (h : RVs K F vs []) : vs = [] := by cases h; rfl
theorem RVs.cons_ (h : RVs K F vs (d :: ds)) : ∃ v ws, vs = v :: ws ∧ RV K F v d ∧ RVs K F ws ds := by cases h with | cons a b => exact ⟨_, _, rfl, a, b⟩
theorem RVs.length : ∀ {vs : List V} {ds : List PV}, RVs K F vs ds → vs.length = ds.length
  | _, _, .nil => rfl
  | _, _, .cons _ t => by rw [List.length_cons, List.length_cons, RVs.length t]
theorem RVs.append : ∀ {vs : List V} {ds : List PV}, RVs K F vs ds → RVs K F ws es → RVs K F (vs ++ ws) (ds ++ es)
  | _, _, .nil, k => k
  | _, _, .cons s t, k => .cons s (RVs.append t k)
theorem RVs.snoc (h : RVs K F vs ds) (k : RV K F v d) : RVs K F (vs ++ [v]) (ds ++ [d]) := h.append (.cons k .nil)
theorem RVs.take : ∀ (n : Nat) {vs : List V} {ds : List PV}, RVs K F vs ds → RVs K F (vs.take n) (ds.take n)
  | 0, _, _, _ => .nil
  | n + 1, _, _, .nil => .nil
  | n + 1, _, _, .cons s t => .cons s (RVs.take n t)
theorem RVs.drop : ∀ (n : Nat) {vs : List V} {ds : List PV}, RVs K F vs ds → RVs K F (vs.drop n) (ds.drop n)
  | 0, _, _, h => h
  | n + 1, _, _, .nil => .nil
  | n + 1, _, _, .cons s t => RVs.drop n t
theorem RVs.set : ∀ (n : Nat) {vs : List V} {ds : List PV}, RVs K F vs ds → RV K F v d → RVs K F (vs.set n v) (ds.set n d)
  | _, _, _, .nil, _ => .nil
  | 0, _, _, .cons s t, k => .cons k t
  | n + 1, _, _, .cons s t, k => .cons s (RVs.set n t k)
theorem RVs.at_ : ∀ {vs : List V} {ds : List PV}, RVs K F vs ds → ∀ {i : Nat} {d : PV}, ds[i]? = some d → ∃ v, vs[i]? = some v ∧ RV K F v d
  | _, _, .nil, i, d, e => by simp at e
  | _, _, .cons s t, 0, d, e => by simp at e; subst e; exact ⟨_, rfl, s⟩
  | _, _, .cons s t, i + 1, d, e => by simp at e; obtain ⟨u, q, r⟩ := RVs.at_ t e; exact ⟨u, by simpa using q, r⟩
theorem RVs.at' : ∀ {vs : List V} {ds : List PV}, RVs K F vs ds → ∀ {i : Nat} {v : V}, vs[i]? = some v → ∃ d, ds[i]? = some d ∧ RV K F v d
  | _, _, .nil, i, d, e => by simp at e
  | _, _, .cons s t, 0, d, e => by simp at e; subst e; exact ⟨_, rfl, s⟩
  | _, _, .cons s t, i + 1, d, e => by simp at e; obtain ⟨u, q, r⟩ := RVs.at' t e; exact ⟨u, by simpa using q, r⟩
theorem RVs.reverse : ∀ {vs : List V} {ds : List PV}, RVs K F vs ds → RVs K F vs.reverse ds.reverse
  | _, _, .nil => .nil
  | _, _, .cons s t => by rw [List.reverse_cons, List.reverse_cons]; exact (RVs.reverse t).snoc s
end

/-! ### typed values -/
class Py (α : Type) where
  toP : α → PV
open Py (toP)
instance : Py Int := ⟨.int⟩
instance : Py Bool := ⟨.bl⟩
instance : Py Str := ⟨.str⟩
instance : Py Unit := ⟨fun _ => .non⟩
instance : Py PV := ⟨id⟩
instance {α : Type} [Py α] : Py (List α) := ⟨fun xs => .lst (xs.map toP)⟩
instance {α β : Type} [Py α] [Py β] : Py (α × β) := ⟨fun x => .tup [toP x.1, toP x.2]⟩
instance {α : Type} [Py α] : Py (Option α) := ⟨fun x => match x with | none => .non | some x => toP x⟩
open PySem.W (Tup Datum)
instance {α : Type} [Py α] : Py (Tup α) := ⟨fun xs => .tup (xs.items.map toP)⟩
structure T3 (α β γ : Type) where
  a : α
  b : β
  c : γ
instance {α β γ : Type} [Py α] [Py β] [Py γ] : Py (T3 α β γ) := ⟨fun x => .tup [toP x.a, toP x.b, toP x.c]⟩
section
variable {K : PySem.W.Frag} {F G H F' H' : Hp} {a p : Addr} {v : V} {vs ws : List V} {α β γ : Type} [Py α] [Py β] [Py γ]
theorem rvs_at {xs : List α} (h : RVs K F vs (xs.map toP)) {i : Nat} {v : V} (e : vs[i]? = some v) : ∃ x, xs[i]? = some x ∧ RV K F v (toP x) := by
  obtain ⟨d, q, r⟩ := h.at' e
  rw [List.getElem?_map] at q
  cases k : xs[i]? with
  | none => rw [k] at q; cases q
  | some x => rw [k] at q; cases q; exact ⟨x, rfl, r⟩
theorem rvs_at' {xs : List α} (h : RVs K F vs (xs.map toP)) {i : Nat} {x : α} (e : xs[i]? = some x) : ∃ v, vs[i]? = some v ∧ RV K F v (toP x) := h.at_ (by rw [List.getElem?_map, e]; rfl)
theorem rvs_len {xs : List α} (h : RVs K F vs (xs.map toP)) : vs.length = xs.length := by rw [h.length, List.length_map]
theorem rvs_ints : ∀ {vs : List V} {ns : List Int}, RVs K F vs (ns.map toP) → vs = ns.map V.int
  | _, [], h => h.nil_
  | _, n :: ns, h => by
    obtain ⟨v, us, rfl, hv, t⟩ := h.cons_
    rw [RV.int_ hv, rvs_ints t]; rfl
theorem rvs_strs : ∀ {vs : List V} {ns : List Str}, RVs K F vs (ns.map toP) → vs = ns.map V.str
  | _, [], h => h.nil_
  | _, n :: ns, h => by
    obtain ⟨v, us, rfl, hv, t⟩ := h.cons_
    rw [RV.str_ hv, rvs_strs t]; rfl
theorem rvs_of_ints : ∀ {ns : List Int}, RVs K F (ns.map V.int) (ns.map toP)
  | [] => .nil
  | n :: ns => .cons (.int n) rvs_of_ints
theorem rv_list {xs : List α} (h : RV K F v (toP xs)) : ∃ a vs, v = .ref a ∧ F a = some (.lst vs) ∧ RVs K F vs (xs.map toP) := RV.lst_ h
theorem rv_tp {xs : Tup α} (h : RV K F v (toP xs)) : ∃ a vs, v = .ref a ∧ SqT K F a vs ∧ RVs K F vs (xs.items.map toP) := RV.tup_ h
theorem rv_pair {x : α × β} (h : RV K F v (toP x)) : ∃ a u w, v = .ref a ∧ SqT K F a [u, w] ∧ RV K F u (toP x.1) ∧ RV K F w (toP x.2) := by
  obtain ⟨a, vs, rfl, h1, h2⟩ := RV.tup_ h
  obtain ⟨u, us, rfl, h3, h4⟩ := h2.cons_
  obtain ⟨w, ws, rfl, h5, h6⟩ := h4.cons_
  cases h6
  exact ⟨a, u, w, rfl, h1, h3, h5⟩
end


/-! ### plain data -/
class PyD (α : Type) [Py α] [DecidableEq α] [Datum α] : Prop where
  dp : ∀ {K : PySem.W.Frag} {F : Hp} {v : V} {x : α}, RV K F v (toP x) → Dp K F v (Datum.toD x)
instance : PyD Int := ⟨fun h => by rw [RV.int_ h]; exact .int _⟩
instance : PyD Bool := ⟨fun h => by rw [RV.bl_ h]; exact .bl _⟩
instance : PyD Str := ⟨fun h => by rw [RV.str_ h]; exact .str _⟩
instance : PyD Unit := ⟨fun h => by rw [RV.non_ h]; exact .non⟩
theorem dps {α : Type} [Py α] [DecidableEq α] [Datum α] [PyD α] {K : PySem.W.Frag} {F : Hp} : ∀ {vs : List V} {xs : List α}, RVs K F vs (xs.map toP) → DpAll K F vs (xs.map Datum.toD)
  | _, [], h => by rw [h.nil_]; exact .nil
  | _, x :: xs, h => by
    obtain ⟨v, ws, rfl, h1, h2⟩ := h.cons_
    exact .cons (PyD.dp h1) (dps h2)
instance {α : Type} [Py α] [DecidableEq α] [Datum α] [PyD α] : PyD (List α) := ⟨fun h => by
  obtain ⟨a, vs, rfl, h1, h2⟩ := rv_list h
  exact .lst (.inl (.inl h1)) (dps h2)⟩
instance {α : Type} [Py α] [DecidableEq α] [Datum α] [PyD α] : PyD (Tup α) := ⟨fun h => by
  obtain ⟨a, vs, rfl, h1, h2⟩ := rv_tp h
  exact .tup h1 (dps h2)⟩
instance {α β : Type} [Py α] [DecidableEq α] [Datum α] [PyD α] [Py β] [DecidableEq β] [Datum β] [PyD β] : PyD (α × β) := ⟨fun h => by
  obtain ⟨a, u, w, rfl, h1, h2, h3⟩ := rv_pair h
  exact .tup h1 (.cons (PyD.dp h2) (.cons (PyD.dp h3) .nil))⟩

/-! ### growth -/
structure Gw (S : Addr → Prop) (F H F' H' : Hp) : Prop where
  ff : Xt F F'
  fh : Xt F' H'
  hh : ∀ b o, ¬ S b → H b = some o → H' b = some o
  th : ∀ b, H b ≠ none → H' b ≠ none
  nw : ∀ b, H b ≠ none → F b = none → F' b = none
abbrev Nil : Addr → Prop := fun _ => False
abbrev G0 := Gw Nil
section
variable {S S' : Addr → Prop} {F H F' H' F'' H'' : Hp} {p : Addr} {o : HO}
theorem Gw.refl (e : Xt F H) : Gw S F H F H := ⟨.refl _, e, fun _ _ _ h => h, fun _ h => h, fun _ _ h => h⟩
theorem Gw.trans (a : Gw S F H F' H') (b : Gw S' F' H' F'' H'') (s : ∀ p, S' p → S p ∨ H p = none) : Gw S F H F'' H'' :=
  ⟨a.ff.trans b.ff, b.fh, fun c o n h => b.hh c o (fun m => by
    rcases s c m with k | k
    · exact n k
    · rw [k] at h; cases h) (a.hh c o n h), fun c h => b.th c (a.th c h), fun c h f => b.nw c (a.th c h) (a.nw c h f)⟩
theorem Gw.tr (a : Gw S F H F' H') (b : Gw S F' H' F'' H'') : Gw S F H F'' H'' := a.trans b fun _ h => .inl h
theorem Gw.tr0 (a : Gw S F H F' H') (b : G0 F' H' F'' H'') : Gw S F H F'' H'' := a.trans b fun _ h => h.elim
theorem Gw.mono (a : Gw S F H F' H') (s : ∀ p, S p → S' p) : Gw S' F H F' H' := ⟨a.ff, a.fh, fun b o n h => a.hh b o (fun m => n (s b m)) h, a.th, a.nw⟩
theorem Gw.weak (a : G0 F H F' H') : Gw S F H F' H' := a.mono fun _ h => h.elim
theorem none_of (e : Xt F H) (n : H p = none) : F p = none := by
  cases q : F p with
  | none => rfl
  | some u => rw [e p u q] at n; cases n
theorem G0.newM (e : Xt F H) (n : H p = none) : G0 F H F (L2.upd H p o) := by
  refine ⟨.refl _, e.upd (none_of e n), fun b u _ h => ?_, fun b h => ?_, fun _ _ h => h⟩
  · rw [upd_ne (ne_of_none h n)]; exact h
  · intro z
    by_cases q : b = p
    · subst q; exact h n
    · rw [upd_ne q] at z; exact h z
theorem G0.newF (e : Xt F H) (n : H p = none) : G0 F H (L2.upd F p o) (L2.upd H p o) := by
  have g := G0.newM (o := o) e n
  refine ⟨fun b u h => ?_, Xt.updF g.fh upd_same, g.hh, g.th, fun b h f => ?_⟩
  · have : b ≠ p := fun z => by subst z; rw [e b u h] at n; cases n
    rw [upd_ne this]; exact h
  · have : b ≠ p := fun z => by subst z; exact h n
    rw [upd_ne this]; exact f
theorem Gw.chg (e : Xt F H) (n : F p = none) (h : H p ≠ none) : Gw (· = p) F H F (L2.upd H p o) := by
  refine ⟨.refl _, e.upd n, fun b u m q => ?_, fun b q z => ?_, fun _ _ h => h⟩
  · rw [upd_ne m]; exact q
  · by_cases k : b = p
    · subst k; rw [upd_same] at z; cases z
    · rw [upd_ne k] at z; exact q z
theorem Gw.old (g : Gw S F H F' H') (n : H' p = none) : H p = none := by
  cases q : H p with
  | none => rfl
  | some u => exact absurd n (g.th p (by rw [q]; exact nofun))
end
end Vc

/-! what a reading asks, told over plain values: environments, expressions. -/
namespace Vc
open Py (toP)
open PySem PySem.Spec PyProof.Rows L2 Rn
/-- an error: its class, its fields -/
structure Err where
  c : Str
  ns : List Str
  as : List PV
abbrev Wp (α : Type) := (α → Prop) → (Err → Prop) → Prop
/-- what a variable owns: an object that changes -/
structure Res where
  flux : Bool
  R : PySem.W.Frag → Hp → Hp → (Addr → Prop) → V → Prop
  ext : ∀ {K F F' H A v}, R K F H A v → Xt F F' → R K F' H A v
  loc : ∀ {K F H H' A v}, R K F H A v → (∀ a, A a → H' a = H a) → R K F H' A v
  flx : flux = true → ∀ {K F F' H A v}, R K F H A v → R K F' H A v
inductive Slot : Type 1
  | u
  | v {α : Type} [Py α] (x : α)
  | o (R : Res)
/-- np: so many of the first variables own what stood ahead of the call (S) -/
structure Ct where
  K : PySem.W.Frag
  F0 : Hp
  H0 : Hp
  S : Addr → Prop
  np : Nat
def SlotOk (K : PySem.W.Frag) (F H : Hp) (A : Addr → Prop) (sv : Option (Option V)) : Slot → Prop
  | .u => True
  | @Slot.v α _ x => ∃ v, sv = some (some v) ∧ RV K F v (toP x)
  | .o R => ∃ v, sv = some (some v) ∧ R.R K F H A v
structure Env (c : Ct) (A : Nat → Addr → Prop) (Γ : List Slot) (σ : L2.St) (F H : Hp) : Prop where
  g : Gw c.S c.F0 c.H0 F H
  len : Γ.length ≤ σ.length
  sl : ∀ i s, Γ[i]? = some s → SlotOk c.K F H (A i) σ[i]? s
  own : ∀ i a, A i a → F a = none ∧ H a ≠ none ∧ (c.H0 a = none ∨ (i < c.np ∧ c.S a))
  dj : ∀ i j a, A i a → A j a → i = j
/-- what an expression may change -/
def Eff (Γ : List Slot) (A : Nat → Addr → Prop) : Addr → Prop := fun a => ∃ i R, Γ[i]? = some (.o R) ∧ R.flux = true ∧ A i a
def ErrAt (K : PySem.W.Frag) (F : Hp) (e : Err) (k : Value) (d : Option Addr) : Prop := k = .ref (He.ga K e.c) ∧ ∃ dx vs, d = some dx ∧ F dx = some (.xd (e.ns.zip vs)) ∧ vs.length = e.ns.length ∧ RVs K F vs e.as
theorem set_get {γ : Type u} {l : List γ} {i j : Nat} {x y : γ} (h : (l.set i x)[j]? = some y) : (i = j ∧ y = x ∧ i < l.length) ∨ (i ≠ j ∧ l[j]? = some y) := by
  by_cases e : i = j
  · subst e
    rw [List.getElem?_set] at h
    simp at h
    exact .inl ⟨rfl, h.2.symm, h.1⟩
  · rw [List.getElem?_set_ne e] at h
    exact .inr ⟨e, h⟩
section
variable {c : Ct} {A : Nat → Addr → Prop} {Γ Δ : List Slot} {σ : L2.St} {F H F' H' : Hp} {i : Nat} {v : V} {α : Type} [Py α] {x : α} {R : Res} {p : Addr} {o : HO}
theorem Env.xt (E : Env c A Γ σ F H) : Xt F H := E.g.fh
theorem SlotOk.grow {K : PySem.W.Frag} {B : Addr → Prop} {sv : Option (Option V)} (h1 : Xt F F') (h2 : ∀ a, B a → H' a = H a) : ∀ {s : Slot}, SlotOk K F H B sv s → SlotOk K F' H' B sv s
  | .u, _ => True.intro
  | @Slot.v α _ x, ⟨v, e, r⟩ => ⟨v, e, r.ext h1⟩
  | .o R, ⟨v, e, r⟩ => ⟨v, e, R.loc (R.ext r h1) h2⟩
theorem Env.same (E : Env c A Γ σ F H) (g : G0 F H F' H') {i : Nat} {a : Addr} (h : A i a) : H' a = H a := by
  cases q : H a with
  | none => exact absurd q (E.own i a h).2.1
  | some o => exact g.hh a o (fun z => z) q
theorem Env.grow (E : Env c A Γ σ F H) (g : G0 F H F' H') : Env c A Γ σ F' H' :=
  ⟨E.g.tr0 g, E.len, fun i s h => (E.sl i s h).grow g.ff fun a => E.same g, fun i a h => ⟨g.nw a (E.own i a h).2.1 (E.own i a h).1, g.th a (E.own i a h).2.1, (E.own i a h).2.2⟩, E.dj⟩
theorem Env.look (E : Env c A Γ σ F H) (h : Γ[i]? = some (.v x)) : ∃ v, σ[i]? = some (some v) ∧ RV c.K F v (toP x) := E.sl i _ h
theorem Env.lookR (E : Env c A Γ σ F H) (h : Γ[i]? = some (.o R)) : ∃ v, σ[i]? = some (some v) ∧ R.R c.K F H (A i) v := E.sl i _ h
theorem Env.setv (E : Env c A Γ σ F H) (i : Nat) (r : RV c.K F v (toP x)) : Env c A (Γ.set i (.v x)) (σ.set i (some v)) F H := by
  refine ⟨E.g, by simpa using E.len, fun j s h => ?_, E.own, E.dj⟩
  rcases set_get h with ⟨rfl, rfl, hi⟩ | ⟨hn, h⟩
  · exact ⟨v, by rw [List.getElem?_set_self (Nat.lt_of_lt_of_le hi E.len)], r⟩
  · rw [List.getElem?_set_ne hn]; exact E.sl j s h
/-- told frozen: the slots stay, slot i is told anew -/
theorem Env.slot (E : Env c A Γ σ F H) (i : Nat) {s0 : Slot} (r : SlotOk c.K F H (A i) σ[i]? s0) : Env c A (Γ.set i s0) σ F H := by
  refine ⟨E.g, by simpa using E.len, fun j s h => ?_, E.own, E.dj⟩
  rcases set_get h with ⟨rfl, rfl, hi⟩ | ⟨hn, h⟩
  · exact r
  · exact E.sl j s h
/-- a variable gets an object of its own -/
theorem Env.seto (E : Env c A Γ σ F H) (i : Nat) {B : Addr → Prop} (hB : ∀ a, B a → F a = none ∧ H a ≠ none ∧ (c.H0 a = none ∨ (i < c.np ∧ c.S a)) ∧ ∀ j, j ≠ i → ¬ A j a) (r : R.R c.K F H B v) :
    Env c (fun j => if j = i then B else A j) (Γ.set i (.o R)) (σ.set i (some v)) F H := by
  refine ⟨E.g, by simpa using E.len, fun j s h => ?_, fun j a h => ?_, fun j k a h1 h2 => ?_⟩
  · rcases set_get h with ⟨rfl, rfl, hi⟩ | ⟨hn, h⟩
    · exact ⟨v, by rw [List.getElem?_set_self (Nat.lt_of_lt_of_le hi E.len)], by simpa using r⟩
    · rw [List.getElem?_set_ne hn]; simp only [if_neg (Ne.symm hn)]; exact E.sl j s h
  · by_cases e : j = i
    · subst e; rw [if_pos rfl] at h; exact ⟨(hB a h).1, (hB a h).2.1, (hB a h).2.2.1⟩
    · rw [if_neg e] at h; exact E.own j a h
  · by_cases e : j = i <;> by_cases e' : k = i
    · omega
    · subst e; rw [if_pos rfl] at h1; rw [if_neg e'] at h2; exact absurd h2 ((hB a h1).2.2.2 k e')
    · subst e'; rw [if_pos rfl] at h2; rw [if_neg e] at h1; exact absurd h1 ((hB a h2).2.2.2 j e)
    · rw [if_neg e] at h1; rw [if_neg e'] at h2; exact E.dj j k a h1 h2
/-- the object of slot i was changed: nothing else was -/
theorem Env.mut (E : Env c A Γ σ F H) (i : Nat) {B : Addr → Prop} (hF : Xt F F') (hFH : Xt F' H') (hk : ∀ a o, ¬ A i a → H a = some o → H' a = some o) (hth : ∀ a, H a ≠ none → H' a ≠ none) (hnw : ∀ b, H b ≠ none → F b = none → F' b = none)
    (hB : ∀ a, B a → F' a = none ∧ H' a ≠ none ∧ (A i a ∨ H a = none)) (hi : σ[i]? = some (some v)) (r : R.R c.K F' H' B v) : Env c (fun j => if j = i then B else A j) (Γ.set i (.o R)) σ F' H' := by
  have hs : ∀ j a, j ≠ i → A j a → H' a = H a := fun j a hj h => by
    cases q : H a with
    | none => exact absurd q (E.own j a h).2.1
    | some o => exact hk a o (fun z => hj (E.dj j i a h z)) q
  have g : Gw c.S c.F0 c.H0 F' H' := ⟨E.g.ff.trans hF, hFH, fun b o n h => by
    refine hk b o (fun z => ?_) (E.g.hh b o n h)
    rcases (E.own i b z).2.2 with q | q
    · rw [q] at h; cases h
    · exact n q.2, fun b h => hth b (E.g.th b h), fun b h f => hnw b (E.g.th b h) (E.g.nw b h f)⟩
  refine ⟨g, by simpa using E.len, fun j s h => ?_, fun j a h => ?_, fun j k a h1 h2 => ?_⟩
  · rcases set_get h with ⟨rfl, rfl, _⟩ | ⟨hn, h⟩
    · exact ⟨v, hi, by simpa using r⟩
    · simp only [if_neg (Ne.symm hn)]; exact (E.sl j s h).grow hF (fun a => hs j a (Ne.symm hn))
  · by_cases e : j = i
    · subst e; rw [if_pos rfl] at h
      refine ⟨(hB a h).1, (hB a h).2.1, ?_⟩
      rcases (hB a h).2.2 with q | q
      · exact (E.own j a q).2.2
      · refine .inl ?_
        cases z : c.H0 a with
        | none => rfl
        | some u => exact absurd q (E.g.th a (by rw [z]; exact nofun))
    · rw [if_neg e] at h
      have q := E.own j a h
      exact ⟨hnw a q.2.1 q.1, hth a q.2.1, q.2.2⟩
  · have key : ∀ j a, j ≠ i → A j a → ¬ B a := fun j a hj h hb => by
      rcases (hB a hb).2.2 with q | q
      · exact hj (E.dj j i a h q)
      · exact (E.own j a h).2.1 q
    by_cases e : j = i <;> by_cases e' : k = i
    · omega
    · subst e; rw [if_pos rfl] at h1; rw [if_neg e'] at h2; exact absurd h1 (key k a e' h2)
    · subst e'; rw [if_pos rfl] at h2; rw [if_neg e] at h1; exact absurd h2 (key j a e h1)
    · rw [if_neg e] at h1; rw [if_neg e'] at h2; exact E.dj j k a h1 h2
/-- the same environment, told with less -/
inductive Wk : List Slot → List Slot → Prop
  | nil {Γ : List Slot} : Wk Γ []
  | u {s : Slot} {Γ Δ : List Slot} : Wk Γ Δ → Wk (s :: Γ) (.u :: Δ)
  | same {s : Slot} {Γ Δ : List Slot} : Wk Γ Δ → Wk (s :: Γ) (s :: Δ)
theorem Wk.at_ : ∀ {Γ Δ : List Slot}, Wk Γ Δ → ∀ {i : Nat} {s : Slot}, Δ[i]? = some s → s = .u ∨ Γ[i]? = some s
  | _, _, .nil, _, _, h => by simp at h
  | _, _, .u w, 0, s, h => by simp at h; exact .inl h.symm
  | _, _, .u w, i + 1, s, h => by simp at h ⊢; exact w.at_ h
  | _, _, .same w, 0, s, h => by simp at h ⊢; exact .inr h
  | _, _, .same w, i + 1, s, h => by simp at h ⊢; exact w.at_ h
theorem Wk.len : ∀ {Γ Δ : List Slot}, Wk Γ Δ → Δ.length ≤ Γ.length
  | _, _, .nil => by simp
  | _, _, .u w => by simp; exact w.len
  | _, _, .same w => by simp; exact w.len
theorem Wk.refl : ∀ {Γ : List Slot}, Wk Γ Γ
  | [] => .nil
  | _ :: _ => .same Wk.refl
theorem Env.wk (E : Env c A Γ σ F H) (w : Wk Γ Δ) : Env c A Δ σ F H :=
  ⟨E.g, Nat.le_trans w.len E.len, fun i s h => by
    rcases w.at_ h with rfl | h
    · exact True.intro
    · exact E.sl i s h, E.own, E.dj⟩
end

/-! ### expressions -/
def EOk (c : Ct) (W : WX) (Γ : List Slot) (t : TE) {α : Type} [Py α] (w : Wp α) : Prop :=
  ∀ (A : Nat → Addr → Prop) (σ : L2.St) (F H : Hp) (Q : VK) (N : α → Prop) (E : Err → Prop), Env c A Γ σ F H →
    (∀ x v F' H', Gw (Eff Γ A) F H F' H' → Env c A Γ σ F' H' → RV c.K F' v (toP x) → N x → Q v H') →
    (∀ e k d F' H', Env c A Γ σ F' H' → ErrAt c.K F' e k d → E e → W k d σ H') → w N E → t σ H Q
/-- tests -/
def COk (c : Ct) (W : WX) (Γ : List Slot) (t : TT) (w : Wp Bool) : Prop :=
  ∀ (A : Nat → Addr → Prop) (σ : L2.St) (F H : Hp) (Q : Bool → Hp → Prop) (N : Bool → Prop) (E : Err → Prop), Env c A Γ σ F H →
    (∀ x F' H', Gw (Eff Γ A) F H F' H' → Env c A Γ σ F' H' → N x → Q x H') →
    (∀ e k d F' H', Env c A Γ σ F' H' → ErrAt c.K F' e k d → E e → W k d σ H') → w N E → t σ H Q
/-- an expression that gives an object of its own -/
def ROk (c : Ct) (W : WX) (Γ : List Slot) (t : TE) {α : Type} (R : α → Res) (w : Wp α) : Prop :=
  ∀ (A : Nat → Addr → Prop) (σ : L2.St) (F H : Hp) (Q : VK) (N : α → Prop) (E : Err → Prop), Env c A Γ σ F H →
    (∀ x v F' H' B, Gw (Eff Γ A) F H F' H' → Env c A Γ σ F' H' → (∀ a, B a → F' a = none ∧ H' a ≠ none ∧ H a = none) → (R x).R c.K F' H' B v → N x → Q v H') →
    (∀ e k d F' H', Env c A Γ σ F' H' → ErrAt c.K F' e k d → E e → W k d σ H') → w N E → t σ H Q
/-- a list that changes -/
def mu {α : Type} [Py α] (xs : List α) : Res where
  flux := false
  R := fun K F H A v => ∃ p vs, v = .ref p ∧ (∀ a, A a ↔ a = p) ∧ H p = some (.lst vs) ∧ RVs K F vs (xs.map toP)
  ext := fun ⟨p, vs, h1, h2, h3, h4⟩ e => ⟨p, vs, h1, h2, h3, h4.ext e⟩
  loc := fun ⟨p, vs, h1, h2, h3, h4⟩ e => ⟨p, vs, h1, h2, by rw [e p ((h2 p).mpr rfl)]; exact h3, h4⟩
  flx := fun h => nomatch h
abbrev MOk (c : Ct) (W : WX) (Γ : List Slot) (t : TE) {α : Type} [Py α] (w : Wp (List α)) : Prop := ROk c W Γ t (fun xs : List α => mu xs) w
/-- the pool of draws -/
def pool (p : Addr) : Res where
  flux := true
  R := fun _ _ H A v => v = .ref p ∧ (∀ a, A a ↔ a = p) ∧ PoolAt H p
  ext := fun h _ => h
  loc := fun ⟨h1, h2, a, b, d, h3, h4⟩ e => ⟨h1, h2, a, b, d, by rw [e p ((h2 p).mpr rfl)]; exact h3, h4⟩
  flx := fun _ _ _ _ _ _ _ h => h
section
variable {c : Ct} {W : WX} {A : Nat → Addr → Prop} {Γ Δ : List Slot} {σ : L2.St} {F H F' H' : Hp} {i : Nat} {v : V} {α β γ : Type} [Py α] [Py β] [Py γ] {x : α} {R : Res} {p : Addr} {o : HO} {t ta tb tc : TE} {wa : Wp α} {wb : Wp β} {wc : Wp γ}
theorem xt_frz (nF : F p = none) : Xt F (upd F p o) := fun b u q => by
  have : b ≠ p := fun z => by subst z; rw [q] at nF; cases nF
  rw [upd_ne this]; exact q
theorem env_frz (E : Env c A Γ σ F H) (nF : F p = none) (h0 : c.H0 p = none) (hA2 : ∀ j, ¬ A j p) (hp : H p = some o) : Env c A Γ σ (upd F p o) H := by
  have xf : Xt F (upd F p o) := xt_frz nF
  refine ⟨⟨E.g.ff.trans xf, Xt.updF E.g.fh hp, E.g.hh, E.g.th, fun b h f => ?_⟩, E.len, fun i s h => (E.sl i s h).grow xf fun _ _ => rfl, fun i a h => ⟨?_, (E.own i a h).2⟩, E.dj⟩
  · have : b ≠ p := fun z => by subst z; exact h h0
    rw [upd_ne this]; exact E.g.nw b h f
  · have : a ≠ p := fun z => by subst z; exact hA2 i h
    rw [upd_ne this]; exact (E.own i a h).1

theorem Env.base (E : Env c A Γ σ F H) (g : Gw (Eff Γ A) F H F' H') : Gw c.S c.F0 c.H0 F' H' := E.g.trans g fun p ⟨j, R, _, _, h⟩ => by
  rcases (E.own j p h).2.2 with q | q
  · exact .inr q
  · exact .inl q.2
theorem Env.fresh (E : Env c A Γ σ F H) (n : H p = none) : c.H0 p = none := by
  cases z : c.H0 p with
  | none => rfl
  | some u => exact absurd n (E.g.th p (by rw [z]; exact nofun))
theorem Env.noA (E : Env c A Γ σ F H) (n : H p = none) : ∀ j, ¬ A j p := fun j h => (E.own j p h).2.1 n
/-- an expression's own object, told as a value -/
theorem e_frz {w : Wp (List α)} (h : MOk c W Γ t w) : EOk c W Γ t w := fun A σ F H Q N E I k ke hw =>
  h A σ F H Q N E I (fun x v F' H' B g I' hB ⟨p, vs, h1, h2, h3, h4⟩ n => by
    subst h1
    obtain ⟨nF, _, nH⟩ := hB p ((h2 p).mpr rfl)
    have I2 := env_frz I' nF (I.fresh nH) (I.noA nH) h3
    refine k x _ _ H' ⟨g.ff.trans (xt_frz nF), I2.g.fh, g.hh, g.th, fun b hb hf => ?_⟩ I2 (.lst upd_same (h4.ext (xt_frz nF))) n
    have : b ≠ p := fun z => by subst z; exact hb nH
    rw [upd_ne this]; exact g.nw b hb hf) ke hw
/-- nothing but the bits of it -/
class Flat (α : Type) [Py α] : Prop where
  fl : ∀ {K : PySem.W.Frag} {F F' : Hp} {v : V} {x : α}, RV K F v (toP x) → RV K F' v (toP x)
instance : Flat Int := ⟨fun h => by rw [RV.int_ h]; exact .int _⟩
instance : Flat Bool := ⟨fun h => by rw [RV.bl_ h]; exact .bl _⟩
instance : Flat Str := ⟨fun h => by rw [RV.str_ h]; exact .str _⟩
instance : Flat Unit := ⟨fun h => by rw [RV.non_ h]; exact .non⟩
instance {α : Type} [Py α] [Flat α] : Flat (Option α) := ⟨fun {K F F' v x} h => by
  cases x with
  | none => rw [RV.non_ h]; exact .non
  | some x => exact Flat.fl (α := α) (x := x) h⟩
theorem flats [Flat α] {K : PySem.W.Frag} {F F' : Hp} : ∀ {vs : List V} {xs : List α}, RVs K F vs (xs.map toP) → RVs K F' vs (xs.map toP)
  | _, [], h => by rw [h.nil_]; exact .nil
  | _, x :: xs, h => by
    obtain ⟨v, ws, rfl, h1, h2⟩ := h.cons_
    exact .cons (Flat.fl h1) (flats h2)
/-- a list of one's own is looked at -/
def lessA (A : Nat → Addr → Prop) (i : Nat) : Nat → Addr → Prop := fun j a => j ≠ i ∧ A j a
theorem own0 (I : Env c A Γ σ F H) (hi : c.np ≤ i) (h : A i p) : c.H0 p = none := by
  rcases (I.own i p h).2.2 with q | q
  · exact q
  · omega
theorem peek_env {xs : List α} {p : Addr} {vs : List V} (I : Env c A Γ σ F H) (hv : σ[i]? = some (some (.ref p))) (hA : ∀ a, A i a ↔ a = p) (hp : H p = some (.lst vs)) (r : RVs c.K F vs (xs.map toP)) (hi : c.np ≤ i) :
    Env c (lessA A i) (Γ.set i (.v xs)) σ (upd F p (.lst vs)) H := by
  have q := I.own i p ((hA p).mpr rfl)
  have I1 : Env c (lessA A i) Γ σ F H ∨ True := .inr True.intro
  have xf : Xt F (upd F p (.lst vs)) := xt_frz q.1
  have h0 := own0 I hi ((hA p).mpr rfl)
  refine ⟨⟨I.g.ff.trans xf, Xt.updF I.g.fh hp, I.g.hh, I.g.th, fun b h f => ?_⟩, by simpa using I.len, fun j s h => ?_, fun j a h => ⟨?_, (I.own j a h.2).2⟩, fun j k a h1 h2 => I.dj j k a h1.2 h2.2⟩
  · have : b ≠ p := fun z => by subst z; exact h h0
    rw [upd_ne this]; exact I.g.nw b h f
  · rcases set_get h with ⟨rfl, rfl, _⟩ | ⟨hn, h⟩
    · exact ⟨_, hv, .lst upd_same (r.ext xf)⟩
    · have w := (I.sl j s h).grow xf (fun _ _ => rfl) (H' := H)
      cases s with
      | u => exact True.intro
      | v x => exact w
      | o R =>
        obtain ⟨v, e, rr⟩ := w
        have ea : lessA A i j = A j := funext fun a => propext ⟨fun h => h.2, fun h => ⟨Ne.symm hn, h⟩⟩
        exact ⟨v, e, by rw [ea]; exact rr⟩
  · have : a ≠ p := fun z => by subst z; exact h.1 (I.dj j i a h.2 ((hA a).mpr rfl))
    rw [upd_ne this]; exact (I.own j a h.2).1
theorem peek_back {xs : List α} {p : Addr} {vs : List V} (I : Env c A Γ σ F H) (hΓ : Γ[i]? = some (.o (mu xs))) (hA : ∀ a, A i a ↔ a = p) (hp : H p = some (.lst vs)) (I' : Env c (lessA A i) (Γ.set i (.v xs)) σ F' H') (g : Gw (Eff (Γ.set i (.v xs)) (lessA A i)) (upd F p (.lst vs)) H F' H') :
    Gw (Eff Γ A) F H F H' ∧ Env c A Γ σ F H' := by
  have q := I.own i p ((hA p).mpr rfl)
  have xf : Xt F (upd F p (.lst vs)) := xt_frz q.1
  have hef : ∀ a, Eff (Γ.set i (.v xs)) (lessA A i) a → ∃ j R, j ≠ i ∧ Γ[j]? = some (.o R) ∧ R.flux = true ∧ A j a := fun a ⟨j, R, h1, h2, h3⟩ => by
    rcases set_get h1 with ⟨_, e, _⟩ | ⟨hn, h⟩
    · cases e
    · exact ⟨j, R, Ne.symm hn, h, h2, h3.2⟩
  have g2 : Gw (Eff Γ A) F H F H' := ⟨.refl _, (xf.trans g.ff).trans g.fh, fun b o n h => g.hh b o (fun z => n (by obtain ⟨j, R, _, h1, h2, h3⟩ := hef b z; exact ⟨j, R, h1, h2, h3⟩)) h, g.th, fun _ _ h => h⟩
  refine ⟨g2, I.base g2, I.len, fun j s h => ?_, fun j a h => ⟨(I.own j a h).1, g.th a (I.own j a h).2.1, (I.own j a h).2.2⟩, I.dj⟩
  have same : ∀ R, Γ[j]? = some (.o R) → R.flux = false → ∀ a, A j a → H' a = H a := fun R hR hf a ha => by
    cases z : H a with
    | none => exact absurd z (I.own j a ha).2.1
    | some o => exact g.hh a o (fun hz => by
        obtain ⟨k, R', _, h1, h2, h3⟩ := hef a hz
        have := I.dj k j a h3 ha
        subst this
        rw [hR] at h1; cases h1
        rw [hf] at h2; cases h2) z
  cases s with
  | u => exact True.intro
  | v x => exact I.sl j _ h
  | o R =>
    cases hf : R.flux with
    | false =>
      obtain ⟨v, e, r⟩ := I.sl j _ h
      exact ⟨v, e, R.loc r (same R h hf)⟩
    | true =>
      have hj : j ≠ i := fun z => by
        subst z; rw [hΓ] at h; cases h; cases hf
      have hs : (Γ.set i (.v xs))[j]? = some (.o R) := by rw [List.getElem?_set_ne (Ne.symm hj)]; exact h
      obtain ⟨v, e, r⟩ := I'.sl j _ hs
      have ea : lessA A i j = A j := funext fun a => propext ⟨fun h => h.2, fun h => ⟨hj, h⟩⟩
      exact ⟨v, e, by rw [ea] at r; exact R.flx hf r⟩
theorem e_peek [Flat β] {xs : List α} (i : Nat) (hΓ : Γ[i]? = some (.o (mu xs))) (hi : c.np ≤ i) (h : EOk c W (Γ.set i (.v xs)) t wb) : EOk c W Γ t (fun N _ => wb N fun _ => False) := fun A σ F H Q N E I k ke hw => by
  obtain ⟨v, hv, p, vs, rfl, h2, h3, h4⟩ := I.lookR hΓ
  refine h (lessA A i) σ (upd F p (.lst vs)) H Q N (fun _ => False) (peek_env I hv h2 h3 h4 hi) (fun x v F' H' g I' r n => ?_) (fun e kk d F' H' I' ea he => he.elim) hw
  obtain ⟨g2, I2⟩ := peek_back I hΓ h2 h3 I' g
  exact k x v F H' g2 I2 (Flat.fl r) n
theorem c_peek {xs : List α} {tt : TT} {w : Wp Bool} (i : Nat) (hΓ : Γ[i]? = some (.o (mu xs))) (hi : c.np ≤ i) (h : COk c W (Γ.set i (.v xs)) tt w) : COk c W Γ tt (fun N _ => w N fun _ => False) := fun A σ F H Q N E I k ke hw => by
  obtain ⟨v, hv, p, vs, rfl, h2, h3, h4⟩ := I.lookR hΓ
  refine h (lessA A i) σ (upd F p (.lst vs)) H Q N (fun _ => False) (peek_env I hv h2 h3 h4 hi) (fun x F' H' g I' n => ?_) (fun e kk d F' H' I' ea he => he.elim) hw
  obtain ⟨g2, I2⟩ := peek_back I hΓ h2 h3 I' g
  exact k x F H' g2 I2 n
theorem r_peek [Flat β] {xs : List α} {w : Wp (List β)} (i : Nat) (hΓ : Γ[i]? = some (.o (mu xs))) (hi : c.np ≤ i) (h : MOk c W (Γ.set i (.v xs)) t w) : MOk c W Γ t (fun N _ => w N fun _ => False) := fun A σ F H Q N E I k ke hw => by
  obtain ⟨v, hv, p, vs, rfl, h2, h3, h4⟩ := I.lookR hΓ
  refine h (lessA A i) σ (upd F p (.lst vs)) H Q N (fun _ => False) (peek_env I hv h2 h3 h4 hi) (fun x v F' H' B g I' hB r n => ?_) (fun e kk d F' H' I' ea he => he.elim) hw
  obtain ⟨g2, I2⟩ := peek_back I hΓ h2 h3 I' g
  obtain ⟨q, ws, rfl, r2, r3, r4⟩ := r
  exact k x _ F H' B g2 I2 (fun a ha => ⟨none_of I.g.fh (hB a ha).2.2, (hB a ha).2.1, (hB a ha).2.2⟩) ⟨q, ws, rfl, r2, r3, flats r4⟩ n
end
end Vc

/-! the rules of expressions. -/
namespace Vc
open Py (toP)
open PySem PySem.Spec PyProof.Rows L2 Rn
open PySem.W (Tup Datum)
section
variable {c : Ct} {W : WX} {Γ Δ : List Slot} {i : Nat} {v : V} {α β γ δ : Type} [Py α] [Py β] [Py γ] [Py δ] {x : α} {t ta tb tc : TE} {wa : Wp α} {wb : Wp β} {wc : Wp γ} {w : Wp Bool} {tt uu : TT} {cc cd : Wp Bool}

/-! ### names, constants -/
theorem e_var (i : Nat) {x : α} (h : Γ[i]? = some (.v x)) : EOk c W Γ (tVar i) (fun (N : α → Prop) _ => N x) := fun A σ F H Q N E I k _ hw => by
  obtain ⟨v, e, r⟩ := I.look h
  exact ⟨v, e, k x v F H (Gw.refl I.xt) I r hw⟩
theorem e_int (i : Int) : EOk c W Γ (tC (.int i)) (fun (N : Int → Prop) _ => N i) := fun A σ F H Q N E I k _ hw => k i _ F H (Gw.refl I.xt) I (.int i) hw
theorem e_bl (i : Bool) : EOk c W Γ (tC (.bl i)) (fun (N : Bool → Prop) _ => N i) := fun A σ F H Q N E I k _ hw => k i _ F H (Gw.refl I.xt) I (.bl i) hw
theorem e_str (i : Str) : EOk c W Γ (tC (.str i)) (fun (N : Str → Prop) _ => N i) := fun A σ F H Q N E I k _ hw => k i _ F H (Gw.refl I.xt) I (.str i) hw
theorem e_non : EOk c W Γ (tC .non) (fun (N : Unit → Prop) _ => N ()) := fun A σ F H Q N E I k _ hw => k () _ F H (Gw.refl I.xt) I .non hw
theorem e_none : EOk c W Γ (tC .non) (fun (N : Option α → Prop) _ => N none) := fun A σ F H Q N E I k _ hw => k none _ F H (Gw.refl I.xt) I .non hw
/-- told as another type -/
theorem e_as (f : α → β) (hf : ∀ x, toP (f x) = toP x) (h : EOk c W Γ t wa) : EOk c W Γ t (fun (N : β → Prop) E => wa (fun x => N (f x)) E) := fun A σ F H Q N E I k ke hw =>
  h A σ F H Q (fun x => N (f x)) E I (fun x v F' H' g I' r n => k (f x) v F' H' g I' (by rw [hf]; exact r) n) ke hw
theorem e_some (h : EOk c W Γ t wa) : EOk c W Γ t (fun (N : Option α → Prop) E => wa (fun x => N (some x)) E) := e_as some (fun _ => rfl) h

/-! ### operators -/
def R2Ok (K : PySem.W.Frag) (r : R2) {α β γ : Type} [Py α] [Py β] [Py γ] (g : α → β → Wp γ) : Prop := ∀ (F H : Hp) (v1 v2 : V) (x : α) (y : β) (Q : VK) (N : γ → Prop) (E : Err → Prop), Xt F H → RV K F v1 (toP x) → RV K F v2 (toP y) →
  (∀ z v F' H', G0 F H F' H' → RV K F' v (toP z) → N z → Q v H') → g x y N E → r v1 v2 H Q
theorem e_op {r : R2} {g : α → β → Wp γ} (hr : R2Ok c.K r g) (ha : EOk c W Γ ta wa) (hb : EOk c W Γ tb wb) : EOk c W Γ (tOp r ta tb) (fun N E => wa (fun x => wb (fun y => g x y N E) E) E) := fun A σ F H Q N E I k ke hw =>
  ha A σ F H _ _ E I (fun x v F1 H1 g1 I1 r1 h1 => hb A σ F1 H1 _ _ E I1 (fun y v2 F2 H2 g2 I2 r2 h2 => hr _ _ _ _ _ _ _ _ _ I2.xt (r1.ext g2.ff) r2 (fun z v F' H' g3 r3 n => k z v F' H' ((g1.tr g2).tr0 g3) (I2.grow g3) r3 n) h2) ke h1) ke hw
def R1Ok (K : PySem.W.Frag) (r : V → Hp → VK → Prop) {α γ : Type} [Py α] [Py γ] (g : α → Wp γ) : Prop := ∀ (F H : Hp) (v1 : V) (x : α) (Q : VK) (N : γ → Prop) (E : Err → Prop), Xt F H → RV K F v1 (toP x) →
  (∀ z v F' H', G0 F H F' H' → RV K F' v (toP z) → N z → Q v H') → g x N E → r v1 H Q
theorem e_un {r : V → Hp → VK → Prop} {g : α → Wp γ} (hr : R1Ok c.K r g) (ha : EOk c W Γ ta wa) : EOk c W Γ (tUn r ta) (fun N E => wa (fun x => g x N E) E) := fun A σ F H Q N E I k ke hw =>
  ha A σ F H _ _ E I (fun x v F1 H1 g1 I1 r1 h1 => hr _ _ _ _ _ _ _ I1.xt r1 (fun z v F' H' g3 r3 n => k z v F' H' (g1.tr0 g3) (I1.grow g3) r3 n) h1) ke hw
section
variable {K : PySem.W.Frag}
theorem o_i0 {g : Int → Int → V} {f : Int → Int → γ} (hg : ∀ i j F, RV K F (g i j) (toP (f i j))) : R2Ok K (rI0 g) (fun (i j : Int) (N : γ → Prop) _ => N (f i j)) := fun F H v1 v2 x y Q N E e r1 r2 k n => by
  obtain rfl := RV.int_ r1; obtain rfl := RV.int_ r2
  exact ⟨x, y, rfl, rfl, k _ _ F H (.refl e) (hg x y F) n⟩
theorem o_sub : R2Ok K (rI0 fun i j => V.int (i - j)) (fun (i j : Int) (N : Int → Prop) _ => N (i - j)) := o_i0 fun i j F => .int _
theorem o_cmp {p : Int → Int → Bool} : R2Ok K (rI0 fun i j => V.bl (p i j)) (fun (i j : Int) (N : Bool → Prop) _ => N (p i j)) := o_i0 fun i j F => .bl _
theorem o_add : R2Ok K (rAddZ K) (fun (i j : Int) (N : Int → Prop) _ => N (i + j)) := fun F H v1 v2 x y Q N E e r1 r2 k n => by
  obtain rfl := RV.int_ r1; obtain rfl := RV.int_ r2
  exact zAdd_int (k _ _ F H (.refl e) (.int _) n)
theorem o_addS : R2Ok K (rAddZ K) (fun (i j : Str) (N : Str → Prop) _ => i.length + j.length ≤ sizeLine ∧ N (i ++ j)) := fun F H v1 v2 x y Q N E e r1 r2 k n => by
  obtain rfl := RV.str_ r1; obtain rfl := RV.str_ r2
  exact zAdd_str n.1 (k _ _ F H (.refl e) (.str _) n.2)
theorem o_addL : R2Ok K (rAddZ K) (fun (i j : List α) (N : List α → Prop) _ => i.length + j.length ≤ sizeLine ∧ N (i ++ j)) := fun F H v1 v2 x y Q N E e r1 r2 k n => by
  obtain ⟨a, vs, rfl, h1, h2⟩ := rv_list r1
  obtain ⟨b, ws, rfl, h3, h4⟩ := rv_list r2
  refine zAdd_lst (e _ _ h1) (e _ _ h3) (by rw [rvs_len h2, rvs_len h4]; exact n.1) fun p np => k _ _ _ _ (G0.newF e np) ?_ n.2
  exact .lst upd_same (by rw [List.map_append]; exact (h2.append h4).ext (G0.newF (o := .lst (vs ++ ws)) e np).ff)
theorem o_addT : R2Ok K (rAddZ K) (fun (i j : Tup α) (N : Tup α → Prop) _ => i.items.length + j.items.length ≤ sizeLine ∧ N ⟨i.items ++ j.items⟩) := fun F H v1 v2 x y Q N E e r1 r2 k n => by
  obtain ⟨a, vs, rfl, h1, h2⟩ := rv_tp r1
  obtain ⟨b, ws, rfl, h3, h4⟩ := rv_tp r2
  refine zAdd_tup (sqT_ext e h1) (sqT_ext e h3) (by rw [rvs_len h2, rvs_len h4]; exact n.1) (fun z => ?_) (fun z z2 => ?_) (fun z z2 p np => ?_)
  · have hx : x.items = [] := List.length_eq_zero_iff.mp (by rw [← rvs_len h2, z]; rfl)
    exact k _ _ F H (.refl e) (by rw [hx]; exact r2) n.2
  · have hx : y.items = [] := List.length_eq_zero_iff.mp (by rw [← rvs_len h4, z2]; rfl)
    exact k _ _ F H (.refl e) (by rw [hx, List.append_nil]; exact r1) n.2
  · refine k _ _ _ _ (G0.newF e np) (.tup (.inl (.inl upd_same)) ?_) n.2
    show RVs K _ _ ((x.items ++ y.items).map toP)
    rw [List.map_append]; exact (h2.append h4).ext (G0.newF (o := .tup (vs ++ ws)) e np).ff
theorem o_mul : R2Ok K (rMulZ K) (fun (i j : Int) (N : Int → Prop) _ => (CMul i j ∨ CMulW i j) ∧ N (i * j)) := fun F H v1 v2 x y Q N E e r1 r2 k n => by
  obtain rfl := RV.int_ r1; obtain rfl := RV.int_ r2
  rcases n.1 with q | q
  · exact zMul_int q (k _ _ F H (.refl e) (.int _) n.2)
  · exact zMul_wide q (k _ _ F H (.refl e) (.int _) n.2)
theorem rvs_rep {F : Hp} {vs : List V} {ds : List PV} (h : RVs K F vs ds) : ∀ n : Nat, RVs K F (List.replicate n vs).flatten (List.replicate n ds).flatten
  | 0 => .nil
  | n + 1 => by
    rw [List.replicate_succ, List.replicate_succ, List.flatten_cons, List.flatten_cons]
    exact h.append (rvs_rep h n)
theorem map_rep {α β : Type} (f : α → β) (xs : List α) : ∀ n : Nat, ((List.replicate n xs).flatten).map f = (List.replicate n (xs.map f)).flatten
  | 0 => rfl
  | n + 1 => by rw [List.replicate_succ, List.replicate_succ, List.flatten_cons, List.flatten_cons, List.map_append, map_rep f xs n]
/-- xs * k -/
theorem o_mulL : R2Ok K (rMulZ K) (fun (xs : List α) (j : Int) (N : List α → Prop) _ => -(2 ^ 63) ≤ j ∧ j < 2 ^ 63 ∧ xs.length * j.toNat ≤ sizeLine ∧ N (List.replicate j.toNat xs).flatten) := fun F H v1 v2 x y Q N E e r1 r2 k n => by
  obtain ⟨a, vs, rfl, h1, h2⟩ := rv_list r1
  obtain rfl := RV.int_ r2
  refine zMul_lst (e _ _ h1) n.1 n.2.1 (by rw [rvs_len h2]; exact n.2.2.1) fun p np => k _ _ _ _ (G0.newF e np) (.lst upd_same ?_) n.2.2.2
  rw [map_rep]; exact (rvs_rep h2 _).ext (G0.newF e np).ff
theorem o_div : R2Ok K rDivZ (fun (i j : Int) (N : Int → Prop) _ => CDivW i j ∧ N (i / j)) := fun F H v1 v2 x y Q N E e r1 r2 k n => by
  obtain rfl := RV.int_ r1; obtain rfl := RV.int_ r2
  exact zDiv n.1 (k _ _ F H (.refl e) (.int _) n.2)
theorem o_mod : R2Ok K rModZ (fun (i j : Int) (N : Int → Prop) _ => 0 < j ∧ N (i % j)) := fun F H v1 v2 x y Q N E e r1 r2 k n => by
  obtain rfl := RV.int_ r1; obtain rfl := RV.int_ r2
  exact zMod n.1 (k _ _ F H (.refl e) (.int _) n.2)
theorem o_pow : R2Ok K (rI CPow fun i j => V.int (i ^ j.toNat)) (fun (i j : Int) (N : Int → Prop) _ => CPow i j ∧ N (i ^ j.toNat)) := fun F H v1 v2 x y Q N E e r1 r2 k n => by
  obtain rfl := RV.int_ r1; obtain rfl := RV.int_ r2
  exact zPow n.1 (k _ _ F H (.refl e) (.int _) n.2)
theorem u_neg : R1Ok K (rU fun i => V.int (-i)) (fun (i : Int) (N : Int → Prop) _ => N (-i)) := fun F H v1 x Q N E e r1 k n => by
  obtain rfl := RV.int_ r1
  exact zNeg (k _ _ F H (.refl e) (.int _) n)
section
variable [DecidableEq α] [Datum α] [PyD α]
theorem o_eq (hd : Datum.depth α ≤ 64 := by decide) : R2Ok K (rEqY K) (fun (x y : α) (N : Bool → Prop) _ => N (decide (x = y))) := fun F H v1 v2 x y Q N E e r1 r2 k n =>
  .inr ⟨_, _, PyD.dp (r1.ext e), PyD.dp (r2.ext e), Datum.plain x, Datum.plain y, Nat.le_trans (Datum.depth_le x) hd, by rw [Datum.eqv]; exact k _ _ F H (.refl e) (.bl _) n⟩
theorem o_ne (hd : Datum.depth α ≤ 64 := by decide) : R2Ok K (rNeY K) (fun (x y : α) (N : Bool → Prop) _ => N (!decide (x = y))) := fun F H v1 v2 x y Q N E e r1 r2 k n =>
  .inr ⟨_, _, PyD.dp (r1.ext e), PyD.dp (r2.ext e), Datum.plain x, Datum.plain y, Nat.le_trans (Datum.depth_le x) hd, by rw [Datum.eqv]; exact k _ _ F H (.refl e) (.bl _) n⟩
theorem o_in (hd : Datum.depth α ≤ 64 := by decide) : R2Ok K (rInT K) (fun (x : α) (xs : List α) (N : Bool → Prop) _ => N (decide (x ∈ xs))) := fun F H v1 v2 x xs Q N E e r1 r2 k n => by
  obtain ⟨a, ws, rfl, h1, h2⟩ := rv_list r2
  exact ⟨_, _, PyD.dp (r1.ext e), .inl (.lst (.inl (.inl (e _ _ h1))) (dps (h2.ext e))), Datum.plain x, PySem.W.plainAll_map xs, Nat.le_trans (PySem.W.depthAll_map xs) hd, by rw [PySem.W.any_datum]; exact k _ _ F H (.refl e) (.bl _) n⟩
theorem o_inT (hd : Datum.depth α ≤ 64 := by decide) : R2Ok K (rInT K) (fun (x : α) (xs : Tup α) (N : Bool → Prop) _ => N (decide (x ∈ xs.items))) := fun F H v1 v2 x xs Q N E e r1 r2 k n => by
  obtain ⟨a, ws, rfl, h1, h2⟩ := rv_tp r2
  exact ⟨_, _, PyD.dp (r1.ext e), .inr (.tup (sqT_ext e h1) (dps (h2.ext e))), Datum.plain x, PySem.W.plainAll_map xs.items, Nat.le_trans (PySem.W.depthAll_map xs.items) hd, by rw [PySem.W.any_datum]; exact k _ _ F H (.refl e) (.bl _) n⟩
theorem o_notIn (hd : Datum.depth α ≤ 64 := by decide) : R2Ok K (rNotInT K) (fun (x : α) (xs : List α) (N : Bool → Prop) _ => N (!decide (x ∈ xs))) := fun F H v1 v2 x xs Q N E e r1 r2 k n => by
  obtain ⟨a, ws, rfl, h1, h2⟩ := rv_list r2
  exact ⟨_, _, PyD.dp (r1.ext e), .inl (.lst (.inl (.inl (e _ _ h1))) (dps (h2.ext e))), Datum.plain x, PySem.W.plainAll_map xs, Nat.le_trans (PySem.W.depthAll_map xs) hd, by rw [PySem.W.any_datum]; exact k _ _ F H (.refl e) (.bl _) n⟩
theorem o_notInT (hd : Datum.depth α ≤ 64 := by decide) : R2Ok K (rNotInT K) (fun (x : α) (xs : Tup α) (N : Bool → Prop) _ => N (!decide (x ∈ xs.items))) := fun F H v1 v2 x xs Q N E e r1 r2 k n => by
  obtain ⟨a, ws, rfl, h1, h2⟩ := rv_tp r2
  exact ⟨_, _, PyD.dp (r1.ext e), .inr (.tup (sqT_ext e h1) (dps (h2.ext e))), Datum.plain x, PySem.W.plainAll_map xs.items, Nat.le_trans (PySem.W.depthAll_map xs.items) hd, by rw [PySem.W.any_datum]; exact k _ _ F H (.refl e) (.bl _) n⟩
end
theorem o_isN {r : R2} (hr : r = fun x y H Q => y = .non ∧ Q (.bl (decide (x = .non))) H) (h : ∀ (x : α), toP x ≠ .non) : R2Ok K r (fun (x : Option α) (_ : Unit) (N : Bool → Prop) _ => N x.isNone) := fun F H v1 v2 x y Q N E e r1 r2 k n => by
  subst hr
  obtain rfl := RV.non_ r2
  refine ⟨rfl, k x.isNone _ F H (.refl e) ?_ n⟩
  cases x with
  | none => rw [RV.non_ r1]; exact .bl _
  | some x =>
    have : v1 ≠ .non := fun z => by
      subst z
      have q := h x
      revert r1
      show RV K F .non (toP x) → _
      intro r1
      generalize toP x = d at r1 q
      cases r1; exact (q rfl).elim
    rw [decide_eq_false this]; exact .bl _
theorem o_notN {r : R2} (hr : r = fun x y H Q => y = .non ∧ Q (.bl (!decide (x = .non))) H) (h : ∀ (x : α), toP x ≠ .non) : R2Ok K r (fun (x : Option α) (_ : Unit) (N : Bool → Prop) _ => N x.isSome) := fun F H v1 v2 x y Q N E e r1 r2 k n => by
  subst hr
  obtain rfl := RV.non_ r2
  refine ⟨rfl, k x.isSome _ F H (.refl e) ?_ n⟩
  cases x with
  | none => rw [RV.non_ r1]; exact .bl _
  | some x =>
    have : v1 ≠ .non := fun z => by
      subst z
      have q := h x
      revert r1
      show RV K F .non (toP x) → _
      intro r1
      generalize toP x = d at r1 q
      cases r1; exact (q rfl).elim
    rw [decide_eq_false this]; exact .bl _
end
/-! ### subscripts -/
section
variable {K : PySem.W.Frag}
theorem sees_of {F H : Hp} {v : V} {xs : List α} (e : Xt F H) (r : RV K F v (toP xs)) : ∃ a vs, v = .ref a ∧ SqL K H a vs ∧ RVs K F vs (xs.map toP) := by
  obtain ⟨a, vs, rfl, h1, h2⟩ := rv_list r
  exact ⟨a, vs, rfl, .inl (.inl (e _ _ h1)), h2⟩
theorem atI_map {xs : List α} {vs : List V} {F : Hp} (h : RVs K F vs (xs.map toP)) {i : Int} {x : α} (hx : atI xs i = some x) : ∃ v, atI vs i = some v ∧ RV K F v (toP x) := by
  unfold atI at hx ⊢
  rw [rvs_len h]
  cases q : ixN xs.length i with
  | none => rw [q] at hx; cases hx
  | some j =>
    rw [q] at hx
    exact rvs_at' h (by simpa using hx)
theorem o_ix : R2Ok K (rIx K) (fun (xs : List α) (i : Int) (N : α → Prop) _ => ∃ x, atI xs i = some x ∧ N x) := fun F H v1 v2 xs y Q N E e r1 r2 k n => by
  obtain ⟨a, vs, rfl, h1, h2⟩ := rv_list r1
  obtain rfl := RV.int_ r2
  obtain ⟨x, hx, n⟩ := n
  obtain ⟨v, hv, r⟩ := atI_map h2 hx
  exact zIx_lst (.inl (.inl (e _ _ h1))) hv (k x v F H (.refl e) r n)
theorem o_ixT : R2Ok K (rIx K) (fun (xs : Tup α) (i : Int) (N : α → Prop) _ => ∃ x, atI xs.items i = some x ∧ N x) := fun F H v1 v2 xs y Q N E e r1 r2 k n => by
  obtain ⟨a, vs, rfl, h1, h2⟩ := rv_tp r1
  obtain rfl := RV.int_ r2
  obtain ⟨x, hx, n⟩ := n
  obtain ⟨v, hv, r⟩ := atI_map h2 hx
  exact zIx_tup (sqT_ext e h1) hv (k x v F H (.refl e) r n)
theorem o_ixS : R2Ok K (rIx K) (fun (z : Str) (i : Int) (N : Str → Prop) _ => z.length ≤ sizeLine ∧ ∃ x, atI z.cps.toList i = some x ∧ N ⟨#[x]⟩) := fun F H v1 v2 xs y Q N E e r1 r2 k n => by
  obtain rfl := RV.str_ r1
  obtain rfl := RV.int_ r2
  obtain ⟨hl, x, hx, n⟩ := n
  exact zIx_str hl hx (k _ _ F H (.refl e) (.str _) n)
/-- a place of a tuple of unlike things -/
theorem o_ix_fst : R2Ok K (rIx K) (fun (z : α × β) (i : Int) (N : α → Prop) _ => i = 0 ∧ N z.1) := fun F H v1 v2 xs y Q N E e r1 r2 k n => by
  obtain ⟨a, u, w, rfl, h1, h2, h3⟩ := rv_pair r1
  obtain rfl := RV.int_ r2
  obtain ⟨rfl, n⟩ := n
  exact zIx_tup (sqT_ext e h1) (v := u) rfl (k _ _ F H (.refl e) h2 n)
theorem o_ix_snd : R2Ok K (rIx K) (fun (z : α × β) (i : Int) (N : β → Prop) _ => i = 1 ∧ N z.2) := fun F H v1 v2 xs y Q N E e r1 r2 k n => by
  obtain ⟨a, u, w, rfl, h1, h2, h3⟩ := rv_pair r1
  obtain rfl := RV.int_ r2
  obtain ⟨rfl, n⟩ := n
  exact zIx_tup (sqT_ext e h1) (v := w) rfl (k _ _ F H (.refl e) h3 n)
end
/-! ### tests -/
theorem c_val {w : Wp Bool} (h : EOk c W Γ t w) : COk c W Γ (tB t) w := fun A σ F H Q N E I k ke hw => h A σ F H _ _ E I (fun x v F' H' g I' r n => ⟨x, RV.bl_ r, k x F' H' g I' n⟩) ke hw
theorem c_test {w : Wp Bool} (h : EOk c W Γ t w) : COk c W Γ (tTest t) w := c_val h
theorem c_not (h : COk c W Γ tt cc) : COk c W Γ (tNot tt) (fun N E => cc (fun b => N (!b)) E) := fun A σ F H Q N E I k ke hw => h A σ F H _ _ E I (fun x F' H' g I' n => k _ F' H' g I' n) ke hw
theorem c_and (h : COk c W Γ tt cc) (h' : COk c W Γ uu cd) : COk c W Γ (tAnd tt uu) (fun N E => cc (fun b => (b = true → cd N E) ∧ (b = false → N false)) E) := fun A σ F H Q N E I k ke hw =>
  h A σ F H _ _ E I (fun x F1 H1 g I' n => by
    cases x with
    | true => exact iteT (h' A σ F1 H1 _ _ E I' (fun y F2 H2 g2 I2 n2 => k y F2 H2 (g.tr g2) I2 n2) ke (n.1 rfl))
    | false => exact iteF (k _ F1 H1 g I' (n.2 rfl))) ke hw
theorem c_or (h : COk c W Γ tt cc) (h' : COk c W Γ uu cd) : COk c W Γ (tOr tt uu) (fun N E => cc (fun b => (b = true → N true) ∧ (b = false → cd N E)) E) := fun A σ F H Q N E I k ke hw =>
  h A σ F H _ _ E I (fun x F1 H1 g I' n => by
    cases x with
    | true => exact iteT (k _ F1 H1 g I' (n.1 rfl))
    | false => exact iteF (h' A σ F1 H1 _ _ E I' (fun y F2 H2 g2 I2 n2 => k y F2 H2 (g.tr g2) I2 n2) ke (n.2 rfl))) ke hw
theorem e_andV {wa wb : Wp Bool} (h : EOk c W Γ ta wa) (h' : EOk c W Γ tb wb) : EOk c W Γ (tAndV ta tb) (fun (N : Bool → Prop) E => wa (fun b => (b = true → wb N E) ∧ (b = false → N false)) E) := fun A σ F H Q N E I k ke hw =>
  h A σ F H _ _ E I (fun x v F1 H1 g I' r n => by
    refine ⟨x, RV.bl_ r, ?_⟩
    cases x with
    | true => exact iteT (h' A σ F1 H1 _ _ E I' (fun y v2 F2 H2 g2 I2 r2 n2 => k y v2 F2 H2 (g.tr g2) I2 r2 n2) ke (n.1 rfl))
    | false => exact iteF (k _ _ F1 H1 g I' (.bl _) (n.2 rfl))) ke hw
theorem e_orV {wa wb : Wp Bool} (h : EOk c W Γ ta wa) (h' : EOk c W Γ tb wb) : EOk c W Γ (tOrV ta tb) (fun (N : Bool → Prop) E => wa (fun b => (b = true → N true) ∧ (b = false → wb N E)) E) := fun A σ F H Q N E I k ke hw =>
  h A σ F H _ _ E I (fun x v F1 H1 g I' r n => by
    refine ⟨x, RV.bl_ r, ?_⟩
    cases x with
    | true => exact iteT (k _ _ F1 H1 g I' (.bl _) (n.1 rfl))
    | false => exact iteF (h' A σ F1 H1 _ _ E I' (fun y v2 F2 H2 g2 I2 r2 n2 => k y v2 F2 H2 (g.tr g2) I2 r2 n2) ke (n.2 rfl))) ke hw
theorem e_notV {wa : Wp Bool} (h : EOk c W Γ ta wa) : EOk c W Γ (tNotV ta) (fun (N : Bool → Prop) E => wa (fun b => N (!b)) E) := fun A σ F H Q N E I k ke hw =>
  h A σ F H _ _ E I (fun x v F1 H1 g I' r n => ⟨x, RV.bl_ r, k _ _ F1 H1 g I' (.bl _) n⟩) ke hw
theorem e_if {wa wb : Wp α} (h : COk c W Γ tt cc) (ha : EOk c W Γ ta wa) (hb : EOk c W Γ tb wb) : EOk c W Γ (tIf tt ta tb) (fun N E => cc (fun b => (b = true → wa N E) ∧ (b = false → wb N E)) E) := fun A σ F H Q N E I k ke hw =>
  h A σ F H _ _ E I (fun x F1 H1 g I' n => by
    cases x with
    | true => exact iteT (ha A σ F1 H1 _ _ E I' (fun y v2 F2 H2 g2 I2 r2 n2 => k y v2 F2 H2 (g.tr g2) I2 r2 n2) ke (n.1 rfl))
    | false => exact iteF (hb A σ F1 H1 _ _ E I' (fun y v2 F2 H2 g2 I2 r2 n2 => k y v2 F2 H2 (g.tr g2) I2 r2 n2) ke (n.2 rfl))) ke hw
/-- a < b < d, of whole numbers -/
theorem e_chain {r r' : R2} {g : α → β → Wp Bool} {g' : β → γ → Wp Bool} (hr : R2Ok c.K r g) (hr' : R2Ok c.K r' g') (ha : EOk c W Γ ta wa) (hb : EOk c W Γ tb wb) (hc : EOk c W Γ tc wc) :
    EOk c W Γ (tChain r r' ta tb tc) (fun (N : Bool → Prop) E => wa (fun x => wb (fun y => g x y (fun b => (b = true → wc (fun z => g' y z N E) E) ∧ (b = false → N false)) E) E) E) := fun A σ F H Q N E I k ke hw =>
  ha A σ F H _ _ E I (fun x v F1 H1 g1 I1 r1 h1 => hb A σ F1 H1 _ _ E I1 (fun y v2 F2 H2 g2 I2 r2 h2 => hr _ _ _ _ _ _ _ _ _ I2.xt (r1.ext g2.ff) r2 (fun z v F3 H3 g3 r3 n => by
    refine ⟨z, RV.bl_ r3, ?_⟩
    have I3 := I2.grow g3
    cases z with
    | true => exact iteT (hc A σ F3 H3 _ _ E I3 (fun z v4 F4 H4 g4 I4 r4 h4 => hr' _ _ _ _ _ _ _ _ _ I4.xt ((r2.ext g3.ff).ext g4.ff) r4 (fun z v F' H' g5 r5 n => k z v F' H' ((((g1.tr g2).tr0 g3).tr g4).tr0 g5) (I4.grow g5) r5 n) h4) ke (n.1 rfl))
    | false => exact iteF (k _ _ F3 H3 ((g1.tr g2).tr0 g3) I3 (.bl _) (n.2 rfl))) h2) ke h1) ke hw
end
end Vc

/-! the rules of displays, slices, built-ins, calls, objects. -/
namespace Vc
open Py (toP)
open PySem PySem.Spec PyProof.Rows L2 Rn
open PySem.W (Tup Datum)
section
variable {c : Ct} {W : WX} {Γ Δ : List Slot} {i : Nat} {v : V} {α β γ δ ι : Type} [Py α] [Py β] [Py γ] [Py δ] {x : α} {t ta tb tc : TE} {wa : Wp α} {wb : Wp β} {wc : Wp γ} {T : TA}

/-! ### several -/
/-- items of one type -/
def AOk (c : Ct) (W : WX) (Γ : List Slot) (T : TA) {α : Type} [Py α] (w : Wp (List α)) : Prop :=
  ∀ (A : Nat → Addr → Prop) (σ : L2.St) (F H : Hp) (Q : List V → Hp → Prop) (N : List α → Prop) (E : Err → Prop), Env c A Γ σ F H →
    (∀ xs vs F' H', Gw (Eff Γ A) F H F' H' → Env c A Γ σ F' H' → RVs c.K F' vs (xs.map toP) → N xs → Q vs H') →
    (∀ e k d F' H', Env c A Γ σ F' H' → ErrAt c.K F' e k d → E e → W k d σ H') → w N E → T σ H Q
theorem a_nil : AOk c W Γ tNil (fun (N : List α → Prop) _ => N []) := fun A σ F H Q N E I k ke hw => k [] [] F H (Gw.refl I.xt) I .nil hw
theorem a_cons {w : Wp (List α)} (ha : EOk c W Γ ta wa) (h : AOk c W Γ T w) : AOk c W Γ (tCons ta T) (fun N E => wa (fun x => w (fun xs => N (x :: xs)) E) E) := fun A σ F H Q N E I k ke hw =>
  ha A σ F H _ _ E I (fun x v F1 H1 g1 I1 r1 h1 => h A σ F1 H1 _ _ E I1 (fun xs vs F2 H2 g2 I2 r2 h2 => k (x :: xs) (v :: vs) F2 H2 (g1.tr g2) I2 (.cons (r1.ext g2.ff) r2) h2) ke h1) ke hw
/-- arguments, each of its type -/
def ar0 : Unit → List PV := fun _ => []
def arC {α ι : Type} [Py α] (args : ι → List PV) : α × ι → List PV := fun p => toP p.1 :: args p.2
def TOk (c : Ct) (W : WX) (Γ : List Slot) (T : TA) {ι : Type} (args : ι → List PV) (w : Wp ι) : Prop :=
  ∀ (A : Nat → Addr → Prop) (σ : L2.St) (F H : Hp) (Q : List V → Hp → Prop) (N : ι → Prop) (E : Err → Prop), Env c A Γ σ F H →
    (∀ xs vs F' H', Gw (Eff Γ A) F H F' H' → Env c A Γ σ F' H' → RVs c.K F' vs (args xs) → N xs → Q vs H') →
    (∀ e k d F' H', Env c A Γ σ F' H' → ErrAt c.K F' e k d → E e → W k d σ H') → w N E → T σ H Q
theorem t_nil : TOk c W Γ tNil ar0 (fun (N : Unit → Prop) _ => N ()) := fun A σ F H Q N E I k ke hw => k () [] F H (Gw.refl I.xt) I .nil hw
theorem t_cons {args : ι → List PV} {w : Wp ι} (ha : EOk c W Γ ta wa) (h : TOk c W Γ T args w) : TOk c W Γ (tCons ta T) (arC (α := α) args) (fun N E => wa (fun x => w (fun xs => N (x, xs)) E) E) := fun A σ F H Q N E I k ke hw =>
  ha A σ F H _ _ E I (fun x v F1 H1 g1 I1 r1 h1 => h A σ F1 H1 _ _ E I1 (fun xs vs F2 H2 g2 I2 r2 h2 => k (x, xs) (v :: vs) F2 H2 (g1.tr g2) I2 (.cons (r1.ext g2.ff) r2) h2) ke h1) ke hw

/-! ### displays -/
/-- a new list of one's own -/
theorem new_mu {A : Nat → Addr → Prop} {σ : L2.St} {F H F1 H1 : Hp} {p : Addr} {vs : List V} {xs : List α} (I : Env c A Γ σ F H) (g : Gw (Eff Γ A) F H F1 H1) (I1 : Env c A Γ σ F1 H1) (np : H1 p = none) (r : RVs c.K F1 vs (xs.map toP)) :
    Gw (Eff Γ A) F H F1 (upd H1 p (.lst vs)) ∧ Env c A Γ σ F1 (upd H1 p (.lst vs)) ∧ (∀ a, a = p → F1 a = none ∧ upd H1 p (.lst vs) a ≠ none ∧ H a = none) ∧ (mu xs).R c.K F1 (upd H1 p (.lst vs)) (· = p) (.ref p) := by
  have gn := G0.newM (o := .lst vs) I1.xt np
  exact ⟨g.tr0 gn, I1.grow gn, fun a ha => by subst ha; exact ⟨none_of I1.xt np, by rw [upd_same]; exact nofun, g.old np⟩, p, vs, rfl, fun _ => Iff.rfl, upd_same, r⟩
theorem r_lst {w : Wp (List α)} (h : AOk c W Γ T w) : MOk c W Γ (tLst T) (fun N E => w (fun xs => xs.length ≤ sizeLine ∧ N xs) E) := fun A σ F H Q N E I k ke hw =>
  h A σ F H _ _ E I (fun xs vs F1 H1 g I1 r n => ⟨by rw [rvs_len r]; exact n.1, fun p np => by
    obtain ⟨a, b, d, e⟩ := new_mu I g I1 np r
    exact k xs _ F1 _ _ a b d e n.2⟩) ke hw
theorem e_tup {w : Wp (List α)} (h : AOk c W Γ T w) : EOk c W Γ (tTup T) (fun (N : Tup α → Prop) E => w (fun xs => xs.length ≤ sizeLine ∧ N ⟨xs⟩) E) := fun A σ F H Q N E I k ke hw =>
  h A σ F H _ _ E I (fun xs vs F1 H1 g I1 r n => ⟨by rw [rvs_len r]; exact n.1, fun p np => by
    have gn := G0.newF (o := .tup vs) I1.xt np
    exact k ⟨xs⟩ _ _ _ (g.tr0 gn) (I1.grow gn) (.tup (.inl (.inl upd_same)) (r.ext gn.ff)) n.2⟩) ke hw
theorem e_pair (ha : EOk c W Γ ta wa) (hb : EOk c W Γ tb wb) : EOk c W Γ (tTup (tCons ta (tCons tb tNil))) (fun (N : α × β → Prop) E => wa (fun x => wb (fun y => N (x, y)) E) E) := fun A σ F H Q N E I k ke hw =>
  t_cons ha (t_cons hb t_nil) A σ F H _ (fun p => N (p.1, p.2.1)) E I (fun xs vs F1 H1 g I1 r n => ⟨by rw [r.length]; show 2 ≤ sizeLine; rw [sizeLine_eq]; omega, fun p np => by
    have gn := G0.newF (o := .tup vs) I1.xt np
    exact k (xs.1, xs.2.1) _ _ _ (g.tr0 gn) (I1.grow gn) (.tup (.inl (.inl upd_same)) (r.ext gn.ff)) n⟩) ke hw

/-! ### slices -/
def OOk (c : Ct) (W : WX) (Γ : List Slot) (t : TO) (w : Wp (Option Int)) : Prop :=
  ∀ (A : Nat → Addr → Prop) (σ : L2.St) (F H : Hp) (Q : Option Int → Hp → Prop) (N : Option Int → Prop) (E : Err → Prop), Env c A Γ σ F H →
    (∀ x F' H', Gw (Eff Γ A) F H F' H' → Env c A Γ σ F' H' → N x → Q x H') →
    (∀ e k d F' H', Env c A Γ σ F' H' → ErrAt c.K F' e k d → E e → W k d σ H') → w N E → t σ H Q
theorem p_none : OOk c W Γ tNoPart (fun (N : Option Int → Prop) _ => N none) := fun A σ F H Q N E I k ke hw => k none F H (Gw.refl I.xt) I hw
theorem p_some {w : Wp Int} (h : EOk c W Γ t w) : OOk c W Γ (tPart t) (fun (N : Option Int → Prop) E => w (fun x => N (some x)) E) := fun A σ F H Q N E I k ke hw =>
  h A σ F H _ _ E I (fun x v F1 H1 g I1 r n => ⟨x, RV.int_ r, k _ F1 H1 g I1 n⟩) ke hw
theorem rvs_cut {K : PySem.W.Frag} {F : Hp} {vs : List V} {xs : List α} (h : RVs K F vs (xs.map toP)) (lo hi : Option Int) : RVs K F (cutV vs lo hi) ((cutL xs lo hi).map toP) := by
  unfold cutV cutL
  rw [rvs_len h, List.map_take, List.map_drop]
  exact (h.drop _).take _
theorem r_sl {w : Wp (List α)} {tl th : TO} {wl wh : Wp (Option Int)} (h : EOk c W Γ t w) (hl : OOk c W Γ tl wl) (hh : OOk c W Γ th wh) : MOk c W Γ (tSl (rSlZ c.K) t tl th) (fun N E => w (fun xs => wl (fun lo => wh (fun hi => N (cutL xs lo hi)) E) E) E) := fun A σ F H Q N E I k ke hw =>
  h A σ F H _ _ E I (fun xs v F1 H1 g1 I1 r n => hl A σ F1 H1 _ _ E I1 (fun lo F2 H2 g2 I2 n2 => hh A σ F2 H2 _ _ E I2 (fun hi F3 H3 g3 I3 n3 => by
    obtain ⟨a, vs, rfl, h1, h2⟩ := sees_of (g2.ff.trans (g3.ff.trans I3.xt)) r
    refine zSl_lst h1 fun p np => ?_
    obtain ⟨a, b, d, e⟩ := new_mu I ((g1.tr g2).tr g3) I3 np ((rvs_cut h2 lo hi).ext (g2.ff.trans g3.ff))
    exact k _ _ F3 _ _ a b d e n3) ke n2) ke n) ke hw
theorem e_slS {w : Wp Str} {tl th : TO} {wl wh : Wp (Option Int)} (h : EOk c W Γ t w) (hl : OOk c W Γ tl wl) (hh : OOk c W Γ th wh) : EOk c W Γ (tSl (rSlZ c.K) t tl th) (fun (N : Str → Prop) E => w (fun z => wl (fun lo => wh (fun hi => z.length ≤ sizeLine ∧ N (cutS z lo hi)) E) E) E) := fun A σ F H Q N E I k ke hw =>
  h A σ F H _ _ E I (fun xs v F1 H1 g1 I1 r n => hl A σ F1 H1 _ _ E I1 (fun lo F2 H2 g2 I2 n2 => hh A σ F2 H2 _ _ E I2 (fun hi F3 H3 g3 I3 n3 => by
    rw [RV.str_ r]
    exact zSl_str n3.1 (k _ _ F3 H3 ((g1.tr g2).tr g3) I3 (.str _) n3.2)) ke n2) ke n) ke hw
theorem e_slT {w : Wp (Tup α)} {tl th : TO} {wl wh : Wp (Option Int)} (h : EOk c W Γ t w) (hl : OOk c W Γ tl wl) (hh : OOk c W Γ th wh) : EOk c W Γ (tSl (rSlZ c.K) t tl th) (fun (N : Tup α → Prop) E => w (fun xs => wl (fun lo => wh (fun hi => N ⟨cutL xs.items lo hi⟩) E) E) E) := fun A σ F H Q N E I k ke hw =>
  h A σ F H _ _ E I (fun xs v F1 H1 g1 I1 r n => hl A σ F1 H1 _ _ E I1 (fun lo F2 H2 g2 I2 n2 => hh A σ F2 H2 _ _ E I2 (fun hi F3 H3 g3 I3 n3 => by
    have r0 := r
    obtain ⟨a, vs, rfl, h1, h2⟩ := rv_tp r
    refine .inr (.inl ⟨a, vs, rfl, sqT_ext (g2.ff.trans (g3.ff.trans I3.xt)) h1, fun hw => ?_, fun hw p np => ?_⟩)
    · refine k _ _ F3 H3 ((g1.tr g2).tr g3) I3 ?_ n3
      have e : cutL xs.items lo hi = xs.items := by
        unfold cutL
        rw [← rvs_len h2, hw.1, hw.2]
        simp [rvs_len h2]
      rw [e]; exact r0.ext (g2.ff.trans g3.ff)
    · have gn := G0.newF (o := .tup (cutV vs lo hi)) I3.xt np
      exact k _ _ _ _ (((g1.tr g2).tr g3).tr0 gn) (I3.grow gn) (.tup (.inl (.inl upd_same)) ((rvs_cut h2 lo hi).ext (g2.ff.trans (g3.ff.trans gn.ff)))) n3) ke n2) ke n) ke hw
theorem r_rev {w : Wp (List α)} (h : EOk c W Γ t w) : MOk c W Γ (tRevL c.K t) (fun N E => w (fun xs => N xs.reverse) E) := fun A σ F H Q N E I k ke hw =>
  h A σ F H _ _ E I (fun xs v F1 H1 g1 I1 r n => by
    obtain ⟨a, vs, rfl, h1, h2⟩ := sees_of I1.xt r
    refine ⟨a, vs, rfl, h1, fun p np => ?_⟩
    obtain ⟨a, b, d, e⟩ := new_mu (xs := xs.reverse) I g1 I1 np (by rw [List.map_reverse]; exact h2.reverse)
    exact k _ _ F1 _ _ a b d e n) ke hw

/-! ### built-ins -/
def B1Ok (K : PySem.W.Frag) (r : List V → Hp → VK → Prop) {α γ : Type} [Py α] [Py γ] (g : α → Wp γ) : Prop := ∀ (F H : Hp) (v1 : V) (x : α) (Q : VK) (N : γ → Prop) (E : Err → Prop), Xt F H → RV K F v1 (toP x) →
  (∀ z v F' H', G0 F H F' H' → RV K F' v (toP z) → N z → Q v H') → g x N E → r [v1] H Q
theorem e_cb1 {r : List V → Hp → VK → Prop} {g : α → Wp γ} (hr : B1Ok c.K r g) (ha : EOk c W Γ ta wa) : EOk c W Γ (tCB r (tCons ta tNil)) (fun N E => wa (fun x => g x N E) E) := fun A σ F H Q N E I k ke hw =>
  ha A σ F H _ _ E I (fun x v F1 H1 g1 I1 r1 h1 => hr _ _ _ _ _ _ _ I1.xt r1 (fun z v F' H' g3 r3 n => k z v F' H' (g1.tr0 g3) (I1.grow g3) r3 n) h1) ke hw
def B2Ok (K : PySem.W.Frag) (r : List V → Hp → VK → Prop) {α β γ : Type} [Py α] [Py β] [Py γ] (g : α → β → Wp γ) : Prop := ∀ (F H : Hp) (v1 v2 : V) (x : α) (y : β) (Q : VK) (N : γ → Prop) (E : Err → Prop), Xt F H → RV K F v1 (toP x) → RV K F v2 (toP y) →
  (∀ z v F' H', G0 F H F' H' → RV K F' v (toP z) → N z → Q v H') → g x y N E → r [v1, v2] H Q
theorem e_cb2 {r : List V → Hp → VK → Prop} {g : α → β → Wp γ} (hr : B2Ok c.K r g) (ha : EOk c W Γ ta wa) (hb : EOk c W Γ tb wb) : EOk c W Γ (tCB r (tCons ta (tCons tb tNil))) (fun N E => wa (fun x => wb (fun y => g x y N E) E) E) := fun A σ F H Q N E I k ke hw =>
  ha A σ F H _ _ E I (fun x v F1 H1 g1 I1 r1 h1 => hb A σ F1 H1 _ _ E I1 (fun y v2 F2 H2 g2 I2 r2 h2 => hr _ _ _ _ _ _ _ _ _ I2.xt (r1.ext g2.ff) r2 (fun z v F' H' g3 r3 n => k z v F' H' ((g1.tr g2).tr0 g3) (I2.grow g3) r3 n) h2) ke h1) ke hw
section
variable {K : PySem.W.Frag}
theorem b_len : B1Ok K (yLen K) (fun (xs : List α) (N : Int → Prop) _ => N xs.length) := fun F H v1 x Q N E e r1 k n => by
  obtain ⟨a, vs, rfl, h1, h2⟩ := sees_of e r1
  exact ⟨_, vs.length, rfl, .inl ⟨vs, h1, rfl⟩, by rw [rvs_len h2]; exact k _ _ F H (.refl e) (.int _) n⟩
theorem b_lenT : B1Ok K (yLen K) (fun (xs : Tup α) (N : Int → Prop) _ => N xs.items.length) := fun F H v1 x Q N E e r1 k n => by
  obtain ⟨a, vs, rfl, h1, h2⟩ := rv_tp r1
  exact ⟨_, vs.length, rfl, .inr ⟨vs, sqT_ext e h1, rfl⟩, by rw [rvs_len h2]; exact k _ _ F H (.refl e) (.int _) n⟩
theorem b_lenS : B1Ok K (yLen K) (fun (z : Str) (N : Int → Prop) _ => z.length ≤ sizeLine ∧ N z.length) := fun F H v1 x Q N E e r1 k n => by
  obtain rfl := RV.str_ r1
  exact ⟨_, x.length, rfl, ⟨n.1, rfl⟩, k _ _ F H (.refl e) (.int _) n.2⟩
theorem b_sum : B1Ok K (rSum K) (fun (xs : List Int) (N : Int → Prop) _ => N xs.sum) := fun F H v1 x Q N E e r1 k n => by
  obtain ⟨a, vs, rfl, h1, h2⟩ := sees_of e r1
  rw [rvs_ints h2] at h1
  exact ⟨a, x, rfl, h1, k _ _ F H (.refl e) (.int _) n⟩
theorem b_min : B1Ok K (rMin K) (fun (xs : List Int) (N : Int → Prop) _ => xs ≠ [] ∧ N (lmin xs)) := fun F H v1 x Q N E e r1 k n => by
  obtain ⟨a, vs, rfl, h1, h2⟩ := sees_of e r1
  rw [rvs_ints h2] at h1
  exact ⟨a, x, rfl, h1, List.length_pos_iff.mpr n.1, fun m hm hl => by rw [lmin_eq hm hl]; exact k _ _ F H (.refl e) (.int _) n.2⟩
theorem b_max : B1Ok K (rMax K) (fun (xs : List Int) (N : Int → Prop) _ => xs ≠ [] ∧ N (lmax xs)) := fun F H v1 x Q N E e r1 k n => by
  obtain ⟨a, vs, rfl, h1, h2⟩ := sees_of e r1
  rw [rvs_ints h2] at h1
  exact ⟨a, x, rfl, h1, List.length_pos_iff.mpr n.1, fun m hm hl => by rw [lmax_eq hm hl]; exact k _ _ F H (.refl e) (.int _) n.2⟩
theorem b_min2 : B2Ok K yMin2 (fun (i j : Int) (N : Int → Prop) _ => N (min i j)) := fun F H v1 v2 x y Q N E e r1 r2 k n => by
  obtain rfl := RV.int_ r1; obtain rfl := RV.int_ r2
  exact q_min2 (k _ _ F H (.refl e) (.int _) n)
theorem b_max2 : B2Ok K yMax2 (fun (i j : Int) (N : Int → Prop) _ => N (max i j)) := fun F H v1 v2 x y Q N E e r1 r2 k n => by
  obtain rfl := RV.int_ r1; obtain rfl := RV.int_ r2
  exact q_max2 (k _ _ F H (.refl e) (.int _) n)
theorem b_abs : B1Ok K yAbs (fun (i : Int) (N : Int → Prop) _ => N i.natAbs) := fun F H v1 x Q N E e r1 k n => by
  obtain rfl := RV.int_ r1
  exact q_abs (k _ _ F H (.refl e) (.int _) n)
theorem b_int : B1Ok K yInt (fun (i : Int) (N : Int → Prop) _ => N i) := fun F H v1 x Q N E e r1 k n => by
  obtain rfl := RV.int_ r1
  exact q_int1 (k _ _ F H (.refl e) (.int _) n)
theorem b_tuple : B1Ok K (yTuple K) (fun (xs : List α) (N : Tup α → Prop) _ => N ⟨xs⟩) := fun F H v1 x Q N E e r1 k n => by
  obtain ⟨a, vs, rfl, h1, h2⟩ := sees_of e r1
  refine ⟨a, vs, rfl, .inl ⟨h1, fun p np => ?_⟩⟩
  have gn := G0.newF (o := .tup vs) e np
  exact k _ _ _ _ gn (.tup (.inl (.inl upd_same)) (h2.ext gn.ff)) n
theorem b_tupleT : B1Ok K (yTuple K) (fun (xs : Tup α) (N : Tup α → Prop) _ => N xs) := fun F H v1 x Q N E e r1 k n => by
  have r0 := r1
  obtain ⟨a, vs, rfl, h1, h2⟩ := rv_tp r1
  exact ⟨a, vs, rfl, .inr ⟨sqT_ext e h1, k _ _ F H (.refl e) r0 n⟩⟩
end
/-- list(xs) -/
theorem r_list {w : Wp (List α)} (h : EOk c W Γ t w) : MOk c W Γ (tCB (yList c.K) (tCons t tNil)) w := fun A σ F H Q N E I k ke hw =>
  h A σ F H _ _ E I (fun xs v F1 H1 g1 I1 r n => by
    obtain ⟨a, vs, rfl, h1, h2⟩ := sees_of I1.xt r
    refine ⟨a, vs, rfl, .inl h1, fun p np => ?_⟩
    obtain ⟨a, b, d, e⟩ := new_mu I g1 I1 np h2
    exact k _ _ F1 _ _ a b d e n) ke hw
theorem r_listT {w : Wp (Tup α)} (h : EOk c W Γ t w) : MOk c W Γ (tCB (yList c.K) (tCons t tNil)) (fun N E => w (fun xs => N xs.items) E) := fun A σ F H Q N E I k ke hw =>
  h A σ F H _ _ E I (fun xs v F1 H1 g1 I1 r n => by
    obtain ⟨a, vs, rfl, h1, h2⟩ := rv_tp r
    refine ⟨a, vs, rfl, .inr (sqT_ext I1.xt h1), fun p np => ?_⟩
    obtain ⟨a, b, d, e⟩ := new_mu I g1 I1 np h2
    exact k _ _ F1 _ _ a b d e n) ke hw
/-- xs + ys, xs * k: a new list of one's own -/
theorem r_add {wa wb : Wp (List α)} (ha : EOk c W Γ ta wa) (hb : EOk c W Γ tb wb) : MOk c W Γ (tOp (rAddZ c.K) ta tb) (fun N E => wa (fun x => wb (fun y => x.length + y.length ≤ sizeLine ∧ N (x ++ y)) E) E) := fun A σ F H Q N E I k ke hw =>
  ha A σ F H _ _ E I (fun x v F1 H1 g1 I1 r1 h1 => hb A σ F1 H1 _ _ E I1 (fun y v2 F2 H2 g2 I2 r2 h2 => by
    obtain ⟨a, vs, rfl, a1, a2⟩ := rv_list (r1.ext g2.ff)
    obtain ⟨b, ws, rfl, b1, b2⟩ := rv_list r2
    refine zAdd_lst (I2.xt _ _ a1) (I2.xt _ _ b1) (by rw [rvs_len a2, rvs_len b2]; exact h2.1) fun p np => ?_
    obtain ⟨a, b, d, e⟩ := new_mu (xs := x ++ y) I (g1.tr g2) I2 np (by rw [List.map_append]; exact a2.append b2)
    exact k _ _ F2 _ _ a b d e h2.2) ke h1) ke hw
theorem r_mul {wa : Wp (List α)} {wb : Wp Int} (ha : EOk c W Γ ta wa) (hb : EOk c W Γ tb wb) : MOk c W Γ (tOp (rMulZ c.K) ta tb) (fun N E => wa (fun x => wb (fun j => -(2 ^ 63) ≤ j ∧ j < 2 ^ 63 ∧ x.length * j.toNat ≤ sizeLine ∧ N (List.replicate j.toNat x).flatten) E) E) := fun A σ F H Q N E I k ke hw =>
  ha A σ F H _ _ E I (fun x v F1 H1 g1 I1 r1 h1 => hb A σ F1 H1 _ _ E I1 (fun y v2 F2 H2 g2 I2 r2 h2 => by
    obtain ⟨a, vs, rfl, a1, a2⟩ := rv_list (r1.ext g2.ff)
    obtain rfl := RV.int_ r2
    refine zMul_lst (I2.xt _ _ a1) h2.1 h2.2.1 (by rw [rvs_len a2]; exact h2.2.2.1) fun p np => ?_
    obtain ⟨a, b, d, e⟩ := new_mu (xs := (List.replicate y.toNat x).flatten) I (g1.tr g2) I2 np (by rw [map_rep]; exact rvs_rep a2 _)
    exact k _ _ F2 _ _ a b d e h2.2.2.2) ke h1) ke hw

/-! ### own defs -/
/-- a def of plain values -/
def spF (K : PySem.W.Frag) {ι ρ : Type} [Py ρ] (args : ι → List PV) (wf : ι → Wp ρ) : Sp := fun vs H Q E => ∃ (F : Hp) (x : ι) (N : ρ → Prop) (E' : Err → Prop), Xt F H ∧ RVs K F vs (args x) ∧ wf x N E' ∧
  (∀ y v F' H', G0 F H F' H' → RV K F' v (toP y) → N y → Q v H') ∧ ∀ e k d F' H', G0 F H F' H' → ErrAt K F' e k d → E' e → E k d H'
/-- .. that hands back a new object -/
def spR (K : PySem.W.Frag) {ι ρ : Type} (args : ι → List PV) (R : ρ → Res) (wf : ι → Wp ρ) : Sp := fun vs H Q E => ∃ (F : Hp) (x : ι) (N : ρ → Prop) (E' : Err → Prop), Xt F H ∧ RVs K F vs (args x) ∧ wf x N E' ∧
  (∀ y v F' H' B, G0 F H F' H' → (∀ a, B a → F' a = none ∧ H' a ≠ none ∧ H a = none) → (R y).R K F' H' B v → N y → Q v H') ∧ ∀ e k d F' H', G0 F H F' H' → ErrAt K F' e k d → E' e → E k d H'
/-- a def that draws from the pool -/
def spP (K : PySem.W.Frag) {ι ρ : Type} [Py ρ] (args : ι → List PV) (wf : ι → Wp ρ) : Sp := fun vs H Q E => ∃ (F : Hp) (x : ι) (N : ρ → Prop) (p : Addr) (ws : List V), vs = .ref p :: ws ∧ Xt F H ∧ F p = none ∧ PoolAt H p ∧ RVs K F ws (args x) ∧ wf x N (fun _ => False) ∧
  ∀ y v F' H', Gw (· = p) F H F' H' → PoolAt H' p → RV K F' v (toP y) → N y → Q v H'
def spPR (K : PySem.W.Frag) {ι ρ : Type} (args : ι → List PV) (R : ρ → Res) (wf : ι → Wp ρ) : Sp := fun vs H Q E => ∃ (F : Hp) (x : ι) (N : ρ → Prop) (p : Addr) (ws : List V), vs = .ref p :: ws ∧ Xt F H ∧ F p = none ∧ PoolAt H p ∧ RVs K F ws (args x) ∧ wf x N (fun _ => False) ∧
  ∀ y v F' H' B, Gw (· = p) F H F' H' → PoolAt H' p → (∀ a, B a → F' a = none ∧ H' a ≠ none ∧ H a = none) → (R y).R K F' H' B v → N y → Q v H'
theorem e_call {ρ : Type} [Py ρ] {args : ι → List PV} {wT : Wp ι} {wf : ι → Wp ρ} (h : TOk c W Γ T args wT) : EOk c W Γ (tG (spF c.K args wf) W T) (fun N E => wT (fun x => wf x N E) E) := fun A σ F H Q N E I k ke hw =>
  h A σ F H _ _ E I (fun xs vs F1 H1 g1 I1 r n => ⟨F1, xs, N, E, I1.xt, r, n, fun y v F' H' g r n => k y v F' H' (g1.tr0 g) (I1.grow g) r n, fun e kk d F' H' g ea he => ke e kk d F' H' (I1.grow g) ea he⟩) ke hw
theorem r_call {ρ : Type} {R : ρ → Res} {args : ι → List PV} {wT : Wp ι} {wf : ι → Wp ρ} (h : TOk c W Γ T args wT) : ROk c W Γ (tG (spR c.K args R wf) W T) R (fun N E => wT (fun x => wf x N E) E) := fun A σ F H Q N E I k ke hw =>
  h A σ F H _ _ E I (fun xs vs F1 H1 g1 I1 r n => ⟨F1, xs, N, E, I1.xt, r, n, fun y v F' H' B g hB r n => k y v F' H' B (g1.tr0 g) (I1.grow g) (fun a ha => ⟨(hB a ha).1, (hB a ha).2.1, g1.old (hB a ha).2.2⟩) r n, fun e kk d F' H' g ea he => ke e kk d F' H' (I1.grow g) ea he⟩) ke hw
/-- the pool was drawn from -/
theorem Env.drawn {A : Nat → Addr → Prop} {σ : L2.St} {F H F' H' : Hp} {p : Addr} (I : Env c A Γ σ F H) (hΓ : Γ[i]? = some (.o (pool p))) (hp : ∀ a, A i a ↔ a = p) (g : Gw (· = p) F H F' H') (hP : PoolAt H' p) : Gw (Eff Γ A) F H F' H' ∧ Env c A Γ σ F' H' := by
  have g2 : Gw (Eff Γ A) F H F' H' := g.mono fun a ha => ⟨i, pool p, hΓ, rfl, (hp a).mpr ha⟩
  refine ⟨g2, I.base g2, I.len, fun j s h => ?_, fun j a h => ⟨g.nw a (I.own j a h).2.1 (I.own j a h).1, g.th a (I.own j a h).2.1, (I.own j a h).2.2⟩, I.dj⟩
  by_cases e : j = i
  · subst e
    rw [hΓ] at h; cases h
    obtain ⟨v, e, rfl, h2, _⟩ := I.sl j _ hΓ
    exact ⟨_, e, rfl, h2, hP⟩
  · refine (I.sl j s h).grow g.ff fun a ha => ?_
    cases z : H a with
    | none => exact absurd z (I.own j a ha).2.1
    | some o => exact g.hh a o (fun q => e (I.dj j i a ha ((hp a).mpr q))) z
theorem e_callP (i : Nat) {p : Addr} {ρ : Type} [Py ρ] {args : ι → List PV} {wT : Wp ι} {wf : ι → Wp ρ} (hΓ : Γ[i]? = some (.o (pool p))) (h : TOk c W Γ T args wT) : EOk c W Γ (tG (spP c.K args wf) W (tCons (tVar i) T)) (fun N E => wT (fun x => wf x N fun _ => False) E) := fun A σ F H Q N E I k ke hw => by
  obtain ⟨v, e, rfl, h2, _⟩ := I.lookR hΓ
  refine ⟨_, e, h A σ F H _ _ E I (fun xs vs F1 H1 g1 I1 r n => ?_) ke hw⟩
  obtain ⟨v', e', rfl, h2', hP⟩ := I1.lookR hΓ
  exact ⟨F1, xs, N, p, vs, rfl, I1.xt, (I1.own i p ((h2 p).mpr rfl)).1, hP, r, n, fun y v F' H' g hP r n => by
    obtain ⟨g2, I2⟩ := I1.drawn hΓ h2 g hP
    exact k y v F' H' (g1.tr g2) I2 r n⟩
theorem r_callP (i : Nat) {p : Addr} {ρ : Type} {R : ρ → Res} {args : ι → List PV} {wT : Wp ι} {wf : ι → Wp ρ} (hΓ : Γ[i]? = some (.o (pool p))) (h : TOk c W Γ T args wT) : ROk c W Γ (tG (spPR c.K args R wf) W (tCons (tVar i) T)) R (fun N E => wT (fun x => wf x N fun _ => False) E) := fun A σ F H Q N E I k ke hw => by
  obtain ⟨v, e, rfl, h2, _⟩ := I.lookR hΓ
  refine ⟨_, e, h A σ F H _ _ E I (fun xs vs F1 H1 g1 I1 r n => ?_) ke hw⟩
  obtain ⟨v', e', rfl, h2', hP⟩ := I1.lookR hΓ
  exact ⟨F1, xs, N, p, vs, rfl, I1.xt, (I1.own i p ((h2 p).mpr rfl)).1, hP, r, n, fun y v F' H' B g hP hB r n => by
    obtain ⟨g2, I2⟩ := I1.drawn hΓ h2 g hP
    exact k y v F' H' B (g1.tr g2) I2 (fun a ha => ⟨(hB a ha).1, (hB a ha).2.1, g1.old (hB a ha).2.2⟩) r n⟩

/-! ### objects -/
/-- the values of α are objects of the class cl with the attributes ns -/
class Ob (α : Type) [Py α] (cl : outParam Str) (ns : outParam (List Str)) : Prop where
  ob : ∀ x : α, ∃ ds, toP x = .obj cl ns ds ∧ ds.length = ns.length
/-- the attribute f of x -/
def Fl (α : Type) [Py α] {β : Type} [Py β] (f : Str) (get : α → β) : Prop := ∀ x : α, ∃ (cl : Str) (ns : List Str) (ds : List PV) (j : Nat), toP x = .obj cl ns ds ∧ ns[j]? = some f ∧ (∀ k, k < j → ns[k]? ≠ some f) ∧ ds[j]? = some (toP (get x))
theorem lookup_zip : ∀ {ns : List Str} {vs : List V} {j : Nat} {f : Str} {v : V}, ns[j]? = some f → (∀ k, k < j → ns[k]? ≠ some f) → vs[j]? = some v → (ns.zip vs).lookup f = some v
  | [], _, j, f, v, h, _, _ => by simp at h
  | n :: ns, [], j, f, v, _, _, h => by simp at h
  | n :: ns, w :: vs, 0, f, v, h, _, h3 => by
    simp at h h3
    subst h h3
    rw [List.zip_cons_cons, List.lookup_cons, beq_self_eq_true]
  | n :: ns, w :: vs, j + 1, f, v, h, h2, h3 => by
    have hn : f ≠ n := fun e => h2 0 (Nat.succ_pos _) (by simp [e])
    rw [List.zip_cons_cons, List.lookup_cons, beq_eq_false_iff_ne.mpr hn]
    exact lookup_zip (by simpa using h) (fun k hk e => h2 (k + 1) (Nat.succ_lt_succ hk) (by simpa using e)) (by simpa using h3)
theorem lookup_zip_none : ∀ {ns : List Str} {vs : List V} {f : Str}, f ∉ ns → (ns.zip vs).lookup f = none
  | [], _, f, _ => by simp
  | n :: ns, [], f, _ => by simp
  | n :: ns, w :: vs, f, h => by
    rw [List.zip_cons_cons, List.lookup_cons, beq_eq_false_iff_ne.mpr (fun e => h (by simp [e]))]
    exact lookup_zip_none fun m => h (by simp [m])
theorem e_fld {f : Str} (get : α → β) {cl : Str} {ns : List Str} [Ob α cl ns] (hf : Fl α f get) (hc : Cls c.K (He.ga c.K cl)) (hn : NoAttr c.K (He.ga c.K cl) f) (h : EOk c W Γ t wa) : EOk c W Γ (tFld c.K t f) (fun N E => wa (fun x => N (get x)) E) := fun A σ F H Q N E I k ke hw =>
  h A σ F H _ _ E I (fun x v F1 H1 g1 I1 r n => by
    obtain ⟨cl', ns', ds, j, e, e1, e2, e3⟩ := hf x
    obtain ⟨ds', q, hl⟩ := Ob.ob x
    rw [q] at e; cases e
    rw [q] at r
    obtain ⟨a, dx, vs, rfl, h1, h2, h3⟩ := RV.obj_ r
    obtain ⟨u, hu, ru⟩ := h3.at_ e3
    exact ⟨a, _, dx, _, u, rfl, I1.xt _ _ h1, hc, hn, lookup_zip e1 e2 hu, k (get x) u F1 H1 g1 I1 ru n⟩) ke hw
theorem e_mt {m : Str} {ρ : Type} [Py ρ] {cl : Str} {ns : List Str} [Ob α cl ns] {args : ι → List PV} {wT : Wp ι} {wf : α × ι → Wp ρ} (hm : m ∉ ns) (ha : EOk c W Γ ta wa) (h : TOk c W Γ T args wT) :
    EOk c W Γ (tMt (He.ga c.K cl) m (spF c.K (arC (α := α) args) wf) W ta T) (fun N E => wa (fun x => wT (fun y => wf (x, y) N E) E) E) := fun A σ F H Q N E I k ke hw =>
  ha A σ F H _ _ E I (fun x v F1 H1 g1 I1 r n => by
    have r0 := r
    obtain ⟨ds', q, hl⟩ := Ob.ob x
    rw [q] at r
    obtain ⟨a, dx, vs, rfl, h1, h2, h3⟩ := RV.obj_ r
    exact ⟨a, dx, _, rfl, I1.xt _ _ h1, lookup_zip_none hm, h A σ F1 H1 _ _ E I1 (fun xs vs F2 H2 g2 I2 r2 n2 => ⟨F2, (x, xs), N, E, I2.xt, .cons (r0.ext g2.ff) r2, n2, fun y v F' H' g r n => k y v F' H' ((g1.tr g2).tr0 g) (I2.grow g) r n, fun e kk d F' H' g ea he => ke e kk d F' H' (I2.grow g) ea he⟩) ke n⟩) ke hw
theorem r_mt {m : Str} {ρ : Type} {R : ρ → Res} {cl : Str} {ns : List Str} [Ob α cl ns] {args : ι → List PV} {wT : Wp ι} {wf : α × ι → Wp ρ} (hm : m ∉ ns) (ha : EOk c W Γ ta wa) (h : TOk c W Γ T args wT) :
    ROk c W Γ (tMt (He.ga c.K cl) m (spR c.K (arC (α := α) args) R wf) W ta T) R (fun N E => wa (fun x => wT (fun y => wf (x, y) N E) E) E) := fun A σ F H Q N E I k ke hw =>
  ha A σ F H _ _ E I (fun x v F1 H1 g1 I1 r n => by
    have r0 := r
    obtain ⟨ds', q, hl⟩ := Ob.ob x
    rw [q] at r
    obtain ⟨a, dx, vs, rfl, h1, h2, h3⟩ := RV.obj_ r
    exact ⟨a, dx, _, rfl, I1.xt _ _ h1, lookup_zip_none hm, h A σ F1 H1 _ _ E I1 (fun xs vs F2 H2 g2 I2 r2 n2 => ⟨F2, (x, xs), N, E, I2.xt, .cons (r0.ext g2.ff) r2, n2, fun y v F' H' B g hB r n => k y v F' H' B ((g1.tr g2).tr0 g) (I2.grow g) (fun a ha => ⟨(hB a ha).1, (hB a ha).2.1, (g1.tr g2).old (hB a ha).2.2⟩) r n, fun e kk d F' H' g ea he => ke e kk d F' H' (I2.grow g) ea he⟩) ke n⟩) ke hw
/-- a property -/
theorem e_pr {ρ : Type} [Py ρ] {cl : Str} {ns : List Str} [Ob α cl ns] {wf : α × Unit → Wp ρ} (ha : EOk c W Γ ta wa) :
    EOk c W Γ (tPr (He.ga c.K cl) (spF c.K (arC (α := α) ar0) wf) ta) (fun N E => wa (fun x => wf (x, ()) N (fun _ => False)) E) := fun A σ F H Q N E I k ke hw =>
  ha A σ F H _ _ E I (fun x v F1 H1 g1 I1 r n => by
    have r0 := r
    obtain ⟨ds', q, hl⟩ := Ob.ob x
    rw [q] at r
    obtain ⟨a, dx, vs, rfl, h1, h2, h3⟩ := RV.obj_ r
    exact ⟨a, dx, _, rfl, I1.xt _ _ h1, F1, (x, ()), N, fun _ => False, I1.xt, .cons r0 .nil, n, fun y v F' H' g r n => k y v F' H' (g1.tr0 g) (I1.grow g) r n, fun e kk d F' H' g ea he => he.elim⟩) ke hw
/-- len(o) by an own __len__ -/
theorem e_lenO {cl : Str} {ns : List Str} [Ob α cl ns] {wf : α × Unit → Wp Int} (ha : EOk c W Γ ta wa) :
    EOk c W Γ (tCB (rLenO (He.ga c.K cl) (spF c.K (arC (α := α) ar0) wf)) (tCons ta tNil)) (fun N E => wa (fun x => wf (x, ()) (fun n => 0 ≤ n ∧ n < 2 ^ 63 ∧ N n) (fun _ => False)) E) := fun A σ F H Q N E I k ke hw =>
  ha A σ F H _ _ E I (fun x v F1 H1 g1 I1 r n => by
    have r0 := r
    obtain ⟨ds', q, hl⟩ := Ob.ob x
    rw [q] at r
    obtain ⟨a, dx, vs, rfl, h1, h2, h3⟩ := RV.obj_ r
    exact ⟨a, dx, _, rfl, I1.xt _ _ h1, F1, (x, ()), _, fun _ => False, I1.xt, .cons r0 .nil, n, fun y v F' H' g r n => ⟨y, RV.int_ r, n.1, n.2.1, k y _ F' H' (g1.tr0 g) (I1.grow g) (.int y) n.2.2⟩, fun e kk d F' H' g ea he => he.elim⟩) ke hw
/-- a new instance being made -/
def inst (p : Addr) (cl : Str) (ns : List Str) (ds : List PV) : Res where
  flux := false
  R := fun K F H A v => ∃ dx vs, v = .ref p ∧ (∀ a, A a ↔ a = p) ∧ H p = some (.ins (He.ga K cl) dx (ns.zip vs)) ∧ vs.length = ns.length ∧ RVs K F vs ds
  ext := fun ⟨dx, vs, h1, h2, h3, h4, h5⟩ e => ⟨dx, vs, h1, h2, h3, h4, h5.ext e⟩
  loc := fun ⟨dx, vs, h1, h2, h3, h4⟩ e => ⟨dx, vs, h1, h2, by rw [e p ((h2 p).mpr rfl)]; exact h3, h4⟩
  flx := fun h => nomatch h
/-- an __init__ -/
def spI (K : PySem.W.Frag) (cl : Str) {ι ρ : Type} [Py ρ] (args : ι → List PV) (wf : ι → Wp ρ) : Sp := fun vs H Q E => ∃ (F : Hp) (x : ι) (N : ρ → Prop) (E' : Err → Prop) (p dx : Addr) (ws : List V), vs = .ref p :: ws ∧ Xt F H ∧ F p = none ∧ H p = some (.ins (He.ga K cl) dx []) ∧ RVs K F ws (args x) ∧ wf x N E' ∧
  (∀ y F' H', Gw (· = p) F H F' H' → (∃ ns ds, toP y = .obj cl ns ds ∧ (inst p cl ns ds).R K F' H' (· = p) (.ref p)) → N y → Q .non H') ∧ ∀ e k d F' H', Gw (· = p) F H F' H' → ErrAt K F' e k d → E' e → E k d H'
theorem e_mk {cl : Str} {ρ : Type} [Py ρ] {args : ι → List PV} {wT : Wp ι} {wf : ι → Wp ρ} (h : TOk c W Γ T args wT) : EOk c W Γ (tMk (He.ga c.K cl) (spI c.K cl args wf) W T) (fun N E => wT (fun x => wf x N E) E) := fun A σ F H Q N E I k ke hw =>
  h A σ F H _ _ E I (fun xs vs F1 H1 g1 I1 r n x dx nx ndx hne => by
    have ga := G0.newM (o := .own x) I1.xt ndx
    have nx2 : upd H1 dx (.own x) x = none := by rw [upd_ne (Ne.symm hne)]; exact nx
    have gb := G0.newM (o := .ins (He.ga c.K cl) dx []) ga.fh nx2
    have g0 := ga.tr0 gb
    have I2 := I1.grow g0
    refine ⟨F1, xs, N, E, x, dx, vs, rfl, I2.xt, none_of I1.xt nx, upd_same, r, n, fun y F' H' g ⟨ns, ds, hy, dx', ws, e1, e2, e3, e4, e5⟩ n => ⟨rfl, ?_⟩, fun e kk d F' H' g ea he => ?_⟩
    · have gz : G0 F1 H1 F' H' := ⟨g.ff, g.fh, fun b o _ hb => g.hh b o (fun z => by subst z; rw [nx] at hb; cases hb) (g0.hh b o (fun z => z) hb), fun b hb => g.th b (g0.th b hb), fun b hb hf => g.nw b (g0.th b hb) hf⟩
      have I3 := I1.grow gz
      have nF : F' x = none := g.nw x (by rw [upd_same]; exact nofun) (none_of I1.xt nx)
      have I4 := env_frz I3 nF (I1.fresh nx) (I1.noA nx) e3
      refine k y _ _ H' ⟨(g1.ff.trans gz.ff).trans (xt_frz nF), I4.g.fh, (g1.tr0 gz).hh, (g1.tr0 gz).th, fun b hb hf => ?_⟩ I4 ?_ n
      · have : b ≠ x := fun z => by subst z; exact hb (g1.old nx)
        rw [upd_ne this]; exact (g1.tr0 gz).nw b hb hf
      · rw [hy]; exact .obj upd_same e4 (e5.ext (xt_frz nF))
    · have gz : G0 F1 H1 F' H' := ⟨g.ff, g.fh, fun b o _ hb => g.hh b o (fun z => by subst z; rw [nx] at hb; cases hb) (g0.hh b o (fun z => z) hb), fun b hb => g.th b (g0.th b hb), fun b hb hf => g.nw b (g0.th b hb) hf⟩
      exact ke e kk d F' H' (I1.grow gz) ea he) ke hw
end
end Vc

/-! walks, comprehensions, statements. -/
namespace Vc
open Py (toP)
open PySem PySem.Spec PyProof.Rows L2 Rn
open PySem.W (Tup Datum)
/-- J walks over xs, which stand in F -/
structure FeedV (K : PySem.W.Frag) (F : Hp) (J : It) {α : Type} [Py α] (xs : List α) : Prop where
  ex : ∃ Y, Walk J xs.length (fun H => Xt F H) Y ∧ ∀ i F1 H1 x H', Xt F F1 → Xt F1 H1 → Y i H1 x H' → ∃ F', G0 F1 H1 F' H' ∧ ∃ z, xs[i]? = some z ∧ RV K F' x (toP z)
section
variable {K : PySem.W.Frag} {F F0 H F' H' G : Hp} {p q a b : Addr} {v w : V} {vs ws : List V} {α β : Type} [Py α] [Py β] {x : α} {xs : List α} {ys : List β} {lo : Int} {n : Nat} {J : It}
theorem feedv_list {v : V} {xs : List α} (h : RV K F v (toP xs)) : ∃ a, v = .ref a ∧ (∃ vs, SqL K F a vs) ∧ FeedV K F (Itl K a) xs := by
  obtain ⟨a, vs, rfl, h1, h2⟩ := rv_list h
  refine ⟨a, rfl, ⟨vs, .inl (.inl h1)⟩, ⟨YAt vs, ?_, fun i F1 H1 x H' e1 e2 y => ?_⟩⟩
  · rw [← rvs_len h2]
    exact walk_list.mono (fun H e => .inl (.inl (e _ _ h1))) fun _ _ _ _ _ _ y => y
  · obtain ⟨rfl, hx⟩ := y
    obtain ⟨z, hz, r⟩ := rvs_at h2 hx
    exact ⟨F1, Gw.refl e2, z, hz, r.ext e1⟩
theorem feedv_tup {v : V} {xs : Tup α} (h : RV K F v (toP xs)) : ∃ a, v = .ref a ∧ (∃ vs, SqT K F a vs) ∧ FeedV K F (Itt K a) xs.items := by
  obtain ⟨a, vs, rfl, h1, h2⟩ := rv_tp h
  refine ⟨a, rfl, ⟨vs, h1⟩, ⟨YAt vs, ?_, fun i F1 H1 x H' e1 e2 y => ?_⟩⟩
  · rw [← rvs_len h2]
    exact walk_tup.mono (fun H e => sqT_ext e h1) fun _ _ _ _ _ _ y => y
  · obtain ⟨rfl, hx⟩ := y
    obtain ⟨z, hz, r⟩ := rvs_at h2 hx
    exact ⟨F1, Gw.refl e2, z, hz, r.ext e1⟩
theorem feedv_rng : FeedV K F (Itr lo n) (rng lo n) := by
  refine ⟨fun i H x H' => i < n ∧ (YFn fun i => V.int (lo + (i : Nat))) i H x H', ?_, fun i F1 H1 x H' e1 e2 y => ?_⟩
  · rw [rng_length]
    exact walk_range.mono (fun H e => trivial) fun _ _ _ _ hi _ y => ⟨hi, y⟩
  · obtain ⟨hi, rfl, rfl⟩ := y
    exact ⟨F1, Gw.refl e2, _, rng_at hi, .int _⟩
theorem rv_mkpair {F : Hp} {p : Addr} {u w : V} {x : α} {y : β} (h : F p = some (.tup [u, w])) (h1 : RV K F u (toP x)) (h2 : RV K F w (toP y)) : RV K F (.ref p) (toP (x, y)) := .tup (.inl (.inl h)) (.cons h1 (.cons h2 .nil))
theorem feedv_enum {v : V} {xs : List α} (h : RV K F v (toP xs)) : ∃ a ws, v = .ref a ∧ SqL K F a ws ∧ FeedV K F (Ite K a) (enum xs) := by
  obtain ⟨a, vs, rfl, h1, h2⟩ := rv_list h
  refine ⟨a, vs, rfl, .inl (.inl h1), ⟨YPair (fun i => some (.int (i : Nat))) (fun i => vs[i]?), ?_, fun i F1 H1 x H' e1 e2 y => ?_⟩⟩
  · rw [enum_length, ← rvs_len h2]
    exact walk_enum.mono (fun H e => .inl (.inl (e _ _ h1))) fun _ _ _ _ _ _ y => y
  · obtain ⟨T, x, y, rfl, hn, rfl, hx, hy⟩ := y
    cases hx
    obtain ⟨z, hz, r⟩ := rvs_at h2 hy
    have g := G0.newF (o := .tup [.int (i : Nat), y]) e2 hn
    exact ⟨_, g, _, enum_at hz, rv_mkpair upd_same (.int _) (r.ext (e1.trans g.ff))⟩
theorem feedv_zip {v w : V} (h : RV K F v (toP xs)) (k : RV K F w (toP ys)) : ∃ a b vs ws, v = .ref a ∧ w = .ref b ∧ SqL K F a vs ∧ SqL K F b ws ∧ FeedV K F (Itz K a b) (xs.zip ys) := by
  obtain ⟨a, vs, rfl, h1, h2⟩ := rv_list h
  obtain ⟨b, ws, rfl, k1, k2⟩ := rv_list k
  refine ⟨a, b, vs, ws, rfl, rfl, .inl (.inl h1), .inl (.inl k1), ⟨YPair (fun i => vs[i]?) (fun i => ws[i]?), ?_, fun i F1 H1 x H' e1 e2 y => ?_⟩⟩
  · exact (walk_zip (xs := vs) (ys := ws) (by rw [List.length_zip, rvs_len h2, rvs_len k2])).mono (fun H e => ⟨.inl (.inl (e _ _ h1)), .inl (.inl (e _ _ k1))⟩) fun _ _ _ _ _ _ y => y
  · obtain ⟨T, x, y, rfl, hn, rfl, hx, hy⟩ := y
    obtain ⟨z, hz, r⟩ := rvs_at h2 hx
    obtain ⟨z', hz', r'⟩ := rvs_at k2 hy
    have g := G0.newF (o := .tup [x, y]) e2 hn
    exact ⟨_, g, _, List.getElem?_zip_eq_some.mpr ⟨hz, hz'⟩, rv_mkpair upd_same (r.ext (e1.trans g.ff)) (r'.ext (e1.trans g.ff))⟩
end
section
variable {c : Ct} {W : WX} {Γ Δ : List Slot} {i : Nat} {v : V} {α β γ δ ι : Type} [Py α] [Py β] [Py γ] [Py δ] {x : α} {t ta tb tc : TE} {wa : Wp α} {wb : Wp β} {wc : Wp γ} {T : TA}
def IOk (c : Ct) (W : WX) (Γ : List Slot) (wi : TI) {β : Type} [Py β] (w : Wp (List β)) : Prop :=
  ∀ (A : Nat → Addr → Prop) (σ : L2.St) (F H : Hp) (R : It → Hp → Prop) (N : List β → Prop) (E : Err → Prop), Env c A Γ σ F H →
    (∀ xs J F' H', Gw (Eff Γ A) F H F' H' → Env c A Γ σ F' H' → FeedV c.K F' J xs → N xs → R J H') →
    (∀ e k d F' H', Env c A Γ σ F' H' → ErrAt c.K F' e k d → E e → W k d σ H') → w N E → wi σ H R
theorem i_list {w : Wp (List α)} (h : EOk c W Γ t w) : IOk c W Γ (iList c.K t) w := fun A σ F H R N E I k ke hw =>
  h A σ F H _ _ E I (fun xs v F1 H1 g I1 r n => by
    obtain ⟨a, rfl, ⟨ws, hs⟩, fd⟩ := feedv_list r
    exact ⟨a, rfl, ⟨ws, sqL_ext I1.xt hs⟩, k xs _ F1 H1 g I1 fd n⟩) ke hw
theorem i_tup {w : Wp (Tup α)} (h : EOk c W Γ t w) : IOk c W Γ (iTup c.K t) (fun (N : List α → Prop) E => w (fun xs => N xs.items) E) := fun A σ F H R N E I k ke hw =>
  h A σ F H _ _ E I (fun xs v F1 H1 g I1 r n => by
    obtain ⟨a, rfl, ⟨ws, hs⟩, fd⟩ := feedv_tup r
    exact ⟨a, rfl, ⟨ws, sqT_ext I1.xt hs⟩, k _ _ F1 H1 g I1 fd n⟩) ke hw
theorem i_r1 {w : Wp Int} (h : EOk c W Γ t w) : IOk c W Γ (iRng1 (tCons t tNil)) (fun (N : List Int → Prop) E => w (fun j => -(2 ^ 62) ≤ j ∧ j < 2 ^ 62 ∧ N (rng 0 j.toNat)) E) := fun A σ F H R N E I k ke hw =>
  h A σ F H _ _ E I (fun j v F1 H1 g I1 r n => ⟨j, by rw [RV.int_ r], n.1, n.2.1, k _ _ F1 H1 g I1 feedv_rng n.2.2⟩) ke hw
theorem i_r2 {wa wb : Wp Int} (ha : EOk c W Γ ta wa) (hb : EOk c W Γ tb wb) : IOk c W Γ (iRng2 (tCons ta (tCons tb tNil))) (fun (N : List Int → Prop) E => wa (fun i => wb (fun j => (-(2 ^ 62) ≤ i ∧ i < 2 ^ 62 ∧ -(2 ^ 62) ≤ j ∧ j < 2 ^ 62) ∧ N (rng i (j - i).toNat)) E) E) := fun A σ F H R N E I k ke hw =>
  ha A σ F H _ _ E I (fun i v F1 H1 g I1 r n => hb A σ F1 H1 _ _ E I1 (fun j v2 F2 H2 g2 I2 r2 n2 => ⟨i, j, by rw [RV.int_ r, RV.int_ r2], n2.1, k _ _ F2 H2 (g.tr g2) I2 feedv_rng n2.2⟩) ke n) ke hw
theorem i_enum {w : Wp (List α)} (h : EOk c W Γ t w) : IOk c W Γ (iEnum c.K (tCons t tNil)) (fun (N : List (Int × α) → Prop) E => w (fun xs => N (enum xs)) E) := fun A σ F H R N E I k ke hw =>
  h A σ F H _ _ E I (fun xs v F1 H1 g I1 r n => by
    obtain ⟨a, ws, rfl, hs, fd⟩ := feedv_enum r
    exact ⟨a, ws, rfl, sqL_ext I1.xt hs, k _ _ F1 H1 g I1 fd n⟩) ke hw
theorem i_zip {wa : Wp (List α)} {wb : Wp (List β)} (ha : EOk c W Γ ta wa) (hb : EOk c W Γ tb wb) : IOk c W Γ (iZip c.K (tCons ta (tCons tb tNil))) (fun (N : List (α × β) → Prop) E => wa (fun xs => wb (fun ys => N (xs.zip ys)) E) E) := fun A σ F H R N E I k ke hw =>
  ha A σ F H _ _ E I (fun i v F1 H1 g I1 r n => hb A σ F1 H1 _ _ E I1 (fun j v2 F2 H2 g2 I2 r2 n2 => by
    obtain ⟨a, b, vs, ws, rfl, rfl, h1, h2, fd⟩ := feedv_zip (r.ext g2.ff) r2
    exact ⟨a, b, vs, ws, rfl, sqL_ext I2.xt h1, sqL_ext I2.xt h2, k _ _ F2 H2 (g.tr g2) I2 fd n2⟩) ke n) ke hw
/-- for x in o, o's own __iter__ is iter(self.f) -/
theorem i_own {f : Str} {cl : Str} {ns : List Str} [Ob α cl ns] (get : α → Tup β) (hf : Fl α f get) (h : EOk c W Γ t wa) : IOk c W Γ (iOwn c.K (He.ga c.K cl) f t) (fun (N : List β → Prop) E => wa (fun x => N (get x).items) E) := fun A σ F H R N E I k ke hw =>
  h A σ F H _ _ E I (fun x v F1 H1 g1 I1 r n => by
    obtain ⟨cl', ns', ds, j, e, e1, e2, e3⟩ := hf x
    obtain ⟨ds', q, hl⟩ := Ob.ob x
    rw [q] at e; cases e
    rw [q] at r
    obtain ⟨a, dx, vs, rfl, h1, h2, h3⟩ := RV.obj_ r
    obtain ⟨u, hu, ru⟩ := h3.at_ e3
    obtain ⟨b, rfl, ⟨ws, hs⟩, fd⟩ := feedv_tup ru
    exact ⟨a, dx, _, b, rfl, I1.xt _ _ h1, lookup_zip e1 e2 hu, ⟨ws, sqT_ext I1.xt hs⟩, k _ _ F1 H1 g1 I1 fd n⟩) ke hw

/-- what is walked by its kind -/
def KdV (K : PySem.W.Frag) (kd : Kd) {α β : Type} [Py α] [Py β] (get : α → List β) : Prop := ∀ (F H : Hp) (v : V) (x : α), Xt F H → RV K F v (toP x) → ∃ r, Vw K kd v H r ∧ RVs K F r.xs ((get x).map toP) ∧ ∀ H', Xt F H' → SqK K H' r
theorem kv_L : KdV c.K .L (fun xs : List α => xs) := fun F H v x e r => by
  obtain ⟨a, vs, rfl, h1, h2⟩ := rv_list r
  exact ⟨⟨false, a, vs⟩, ⟨rfl, rfl, .inl (.inl (e _ _ h1))⟩, h2, fun H' e' => .inl (.inl (e' _ _ h1))⟩
theorem kv_T : KdV c.K .T (fun xs : Tup α => xs.items) := fun F H v x e r => by
  obtain ⟨a, vs, rfl, h1, h2⟩ := rv_tp r
  exact ⟨⟨true, a, vs⟩, ⟨rfl, rfl, sqT_ext e h1⟩, h2, fun H' e' => sqT_ext e' h1⟩
theorem kv_O {f : Str} {cl : Str} {ns : List Str} [Ob α cl ns] (get : α → Tup β) (hf : Fl α f get) : KdV c.K (.O (He.ga c.K cl) f) (fun x : α => (get x).items) := fun F H v x e r => by
  obtain ⟨cl', ns', ds, j, e0, e1, e2, e3⟩ := hf x
  obtain ⟨ds', q, hl⟩ := Ob.ob x
  rw [q] at e0; cases e0
  rw [q] at r
  obtain ⟨a, dx, vs, rfl, h1, h2, h3⟩ := RV.obj_ r
  obtain ⟨u, hu, ru⟩ := h3.at_ e3
  obtain ⟨b, ws, rfl, hs, hr⟩ := rv_tp ru
  exact ⟨⟨true, b, ws⟩, ⟨rfl, ⟨a, dx, _, rfl, e _ _ h1, lookup_zip e1 e2 hu⟩, sqT_ext e hs⟩, hr, fun H' e' => sqT_ext e' hs⟩
theorem feedv_en {F : Hp} {r : Src} {xs : List α} (h : RVs c.K F r.xs (xs.map toP)) (hq : ∀ H', Xt F H' → SqK c.K H' r) : FeedV c.K F (JEn c.K r) (enum xs) := by
  refine ⟨YPair (fun i => some (.int (i : Nat))) (fun i => r.xs[i]?), ?_, fun i F1 H1 x H' e1 e2 y => ?_⟩
  · rw [enum_length, ← rvs_len h]
    exact walk_JEn.mono (fun H e => hq H e) fun _ _ _ _ _ _ y => y
  · obtain ⟨T, x, y, rfl, hn, rfl, hx, hy⟩ := y
    cases hx
    obtain ⟨z, hz, r⟩ := rvs_at h hy
    have g := G0.newF (o := .tup [.int (i : Nat), y]) e2 hn
    exact ⟨_, g, _, enum_at hz, rv_mkpair upd_same (.int _) (r.ext (e1.trans g.ff))⟩
theorem feedv_z2 {F : Hp} {r1 r2 : Src} {xs : List α} {ys : List β} (h : RVs c.K F r1.xs (xs.map toP)) (k : RVs c.K F r2.xs (ys.map toP)) (hq : ∀ H', Xt F H' → SqK c.K H' r1) (kq : ∀ H', Xt F H' → SqK c.K H' r2) : FeedV c.K F (JZ2 c.K r1 r2) (xs.zip ys) := by
  refine ⟨YPair (fun i => r1.xs[i]?) (fun i => r2.xs[i]?), ?_, fun i F1 H1 x H' e1 e2 y => ?_⟩
  · rw [List.length_zip, ← rvs_len h, ← rvs_len k]
    exact walk_JZ2.mono (fun H e => ⟨hq H e, kq H e⟩) fun _ _ _ _ _ _ y => y
  · obtain ⟨T, x, y, rfl, hn, rfl, hx, hy⟩ := y
    obtain ⟨z, hz, r⟩ := rvs_at h hx
    obtain ⟨z', hz', r'⟩ := rvs_at k hy
    have g := G0.newF (o := .tup [x, y]) e2 hn
    exact ⟨_, g, _, List.getElem?_zip_eq_some.mpr ⟨hz, hz'⟩, rv_mkpair upd_same (r.ext (e1.trans g.ff)) (r'.ext (e1.trans g.ff))⟩
theorem i_enumK {kd : Kd} {get : α → List β} (hk : KdV c.K kd get) (h : EOk c W Γ t wa) : IOk c W Γ (iEnumK c.K kd (tCons t tNil)) (fun (N : List (Int × β) → Prop) E => wa (fun x => N (enum (get x))) E) := fun A σ F H R N E I k ke hw =>
  h A σ F H _ _ E I (fun x v F1 H1 g I1 r n => by
    obtain ⟨r', h1, h2, h3⟩ := hk F1 H1 v x I1.xt r
    exact ⟨v, r', rfl, h1, k _ _ F1 H1 g I1 (feedv_en h2 h3) n⟩) ke hw
theorem i_zipK {kd1 kd2 : Kd} {g1 : α → List γ} {g2 : β → List δ} (hk1 : KdV c.K kd1 g1) (hk2 : KdV c.K kd2 g2) (ha : EOk c W Γ ta wa) (hb : EOk c W Γ tb wb) : IOk c W Γ (iZip2K c.K kd1 kd2 (tCons ta (tCons tb tNil))) (fun (N : List (γ × δ) → Prop) E => wa (fun x => wb (fun y => N ((g1 x).zip (g2 y))) E) E) := fun A σ F H R N E I k ke hw =>
  ha A σ F H _ _ E I (fun x v F1 H1 g I1 r n => hb A σ F1 H1 _ _ E I1 (fun y v2 F2 H2 g2 I2 r2 n2 => by
    obtain ⟨q1, a1, a2, a3⟩ := hk1 F2 H2 v x I2.xt (r.ext g2.ff)
    obtain ⟨q2, b1, b2, b3⟩ := hk2 F2 H2 v2 y I2.xt r2
    exact ⟨v, v2, q1, q2, rfl, a1, b1, k _ _ F2 H2 (g.tr g2) I2 (feedv_z2 a2 b2 a3 b3) n2⟩) ke n) ke hw

/-! ### targets -/
def GOk (c : Ct) (g : TG) {β : Type} [Py β] (f : β → List Slot → List Slot) (is : List Nat) : Prop :=
  ∀ (A : Nat → Addr → Prop) (Γ : List Slot) (σ : L2.St) (F H : Hp) (v : V) (x : β) (Q : L2.St → Hp → Prop), Env c A Γ σ F H → RV c.K F v (toP x) →
    (∀ σ', Env c A (f x Γ) σ' F H → (∀ j, j ∉ is → σ'[j]? = σ[j]?) → σ'.length = σ.length → Q σ' H) → g v σ H Q
theorem g_name (i : Nat) : GOk c (gName i) (fun (x : β) Γ => Γ.set i (.v x)) [i] := fun A Γ σ F H v x Q I r k =>
  k _ (I.setv i r) (fun j hj => List.getElem?_set_ne (fun e => hj (by simp [e]))) (by simp)
theorem g_pair {g1 g2 : TG} {f1 : α → List Slot → List Slot} {f2 : β → List Slot → List Slot} {is1 is2 : List Nat} (h1 : GOk c g1 f1 is1) (h2 : GOk c g2 f2 is2) :
    GOk c (gTup c.K 2 (gCons g1 (gCons g2 gNil))) (fun (x : α × β) Γ => f2 x.2 (f1 x.1 Γ)) (is1 ++ is2) := fun A Γ σ F H v x Q I r k => by
  obtain ⟨a, u, w, rfl, hs, r1, r2⟩ := rv_pair r
  refine ⟨a, [u, w], rfl, sqT_ext I.xt hs, rfl, u, [w], rfl, h1 A Γ σ F H u x.1 _ I r1 fun σ1 I1 k1 l1 => ⟨w, [], rfl, h2 A _ σ1 F H w x.2 _ I1 r2 fun σ2 I2 k2 l2 => ⟨rfl, k σ2 I2 (fun j hj => ?_) (by rw [l2, l1])⟩⟩⟩
  rw [k2 j fun m => hj (List.mem_append_right _ m), k1 j fun m => hj (List.mem_append_left _ m)]

/-! ### comprehensions -/
def wlc {α β : Type} : List α → (α → Wp (Option β)) → Wp (List β)
  | [], _ => fun N _ => N []
  | x :: xs, f => fun N E => f x (fun y => wlc xs f (fun ys => N (y.toList ++ ys)) E) E
theorem Env.sub {A : Nat → Addr → Prop} {σ σ' : L2.St} {F H : Hp} (I : Env c A Δ σ F H) (hl : Γ.length ≤ σ'.length) (h : ∀ (i : Nat) (s : Slot), Γ[i]? = some s → s = .u ∨ (Δ[i]? = some s ∧ σ'[i]? = σ[i]?)) : Env c A Γ σ' F H :=
  ⟨I.g, hl, fun i s hs => by
    rcases h i s hs with rfl | ⟨h1, h2⟩
    · exact True.intro
    · rw [h2]; exact I.sl i s h1, I.own, I.dj⟩
theorem wipe_get {σ : L2.St} : ∀ {vs : List Nat} {i : Nat}, i ∉ vs → (wipe σ vs)[i]? = σ[i]?
  | [], _, _ => rfl
  | v :: vs, i, h => by
    unfold wipe
    rw [List.getElem?_set_ne (fun e => h (by simp [e]))]
    exact wipe_get fun m => h (by simp [m])
theorem wipe_mem {σ : L2.St} : ∀ {vs : List Nat} {i : Nat}, i ∈ vs → i < σ.length → (wipe σ vs)[i]? = some none
  | v :: vs, i, h, hl => by
    unfold wipe
    by_cases e : v = i
    · subst e; rw [List.getElem?_set_self (by rw [wipe_length]; exact hl)]
    · rw [List.getElem?_set_ne e]
      rcases List.mem_cons.mp h with z | z
      · exact absurd z.symm e
      · exact wipe_mem z hl
theorem wipe_same {σ σ' : L2.St} {vs : List Nat} (hl : σ'.length = σ.length) (h : ∀ j, j ∉ vs → σ'[j]? = σ[j]?) : wipe σ' vs = wipe σ vs := by
  apply List.ext_getElem?
  intro i
  by_cases m : i ∈ vs
  · by_cases l : i < σ.length
    · rw [wipe_mem m l, wipe_mem m (by rw [hl]; exact l)]
    · rw [List.getElem?_eq_none (by rw [wipe_length]; omega), List.getElem?_eq_none (by rw [wipe_length]; omega)]
  · rw [wipe_get m, wipe_get m, h i m]
/-- slots that are not told -/
def allU (Γ : List Slot) (vs : List Nat) : Prop := ∀ i, i ∈ vs → ∀ s, Γ[i]? = some s → s = .u
theorem eff_mono {A : Nat → Addr → Prop} (h : ∀ (i : Nat) (R : Res), Δ[i]? = some (.o R) → Γ[i]? = some (.o R)) : ∀ a, Eff Δ A a → Eff Γ A a := fun a ⟨i, R, h1, h2, h3⟩ => ⟨i, R, h i R h1, h2, h3⟩
theorem env_chg0 {A : Nat → Addr → Prop} {σ : L2.St} {F H : Hp} {D : Addr} {o : HO} (I : Env c A Γ σ F H) (nF : F D = none) (h0 : c.H0 D = none) (hA : ∀ j, ¬ A j D) : Env c A Γ σ F (upd H D o) := by
  refine ⟨⟨I.g.ff, I.xt.upd nF, fun b u n h => ?_, fun b h => ?_, I.g.nw⟩, I.len, fun i s h => (I.sl i s h).grow (Xt.refl _) fun a ha => ?_, fun i a h => ⟨(I.own i a h).1, ?_, (I.own i a h).2.2⟩, I.dj⟩
  · rw [upd_ne (fun z => by subst z; rw [h0] at h; cases h)]; exact I.g.hh b u n h
  · rw [upd_ne (fun z => by subst z; exact h h0)]; exact I.g.th b h
  · rw [upd_ne (fun z => by subst z; exact hA i ha)]
  · rw [upd_ne (fun z => by subst z; exact hA i h)]; exact (I.own i a h).2.1
theorem r_lc {wi : TI} {g : TG} {tt : TT} {te : TE} {vs is : List Nat} {wl : Wp (List α)} {f : α → List Slot → List Slot} {wc : α → Wp Bool} {we : α → Wp β} (hi : IOk c W Γ wi wl) (hg : GOk c g f is) (hu : allU Γ vs) (his : ∀ j, j ∈ is → j ∈ vs)
    (hf : ∀ (x : α) (i : Nat) (s : Slot), i ∉ vs → ((f x Γ)[i]? = some s ↔ Γ[i]? = some s)) (hfo : ∀ (x : α) (i : Nat) (R : Res), (f x Γ)[i]? = some (.o R) → Γ[i]? = some (.o R))
    (hc : ∀ x, COk c (fun _ _ _ _ => False) (f x Γ) tt (wc x)) (he : ∀ x, EOk c (fun _ _ _ _ => False) (f x Γ) te (we x)) :
    MOk c W Γ (tLc wi g tt te vs) (fun N E => wl (fun xs => xs.length ≤ sizeLine ∧ wlc xs (fun x N E => wc x (fun b => (b = true → we x (fun y => N (some y)) E) ∧ (b = false → N none)) E) N (fun _ => False)) E) := fun A σ F H Q N E I k ke hw =>
  hi A σ F H _ _ E I (fun xs J F1 H1 g1 I1 fd n D hD => by
    obtain ⟨hn, hw⟩ := n
    obtain ⟨Y, w, hy⟩ := fd.ex
    have gD := G0.newM (o := .lst []) I1.xt hD
    have ID := I1.grow gD
    have hDA : ∀ j, ¬ A j D := I1.noA hD
    have hlen : Γ.length ≤ (wipe σ vs).length := by rw [wipe_length]; exact I.len
    have IW : Env c A Γ (wipe σ vs) F1 (upd H1 D (.lst [])) := ID.sub hlen fun i s hs => by
      by_cases m : i ∈ vs
      · exact .inl (hu i m s hs)
      · exact .inr ⟨hs, wipe_get m⟩
    refine lc_it w (fun i H => ∃ F2 ys acc, ys.length ≤ i ∧ Gw (Eff Γ A) F1 H1 F2 H ∧ Env c A Γ (wipe σ vs) F2 H ∧ F2 D = none ∧ H D = some (.lst acc) ∧ RVs c.K F2 acc (ys.map toP) ∧
      wlc (xs.drop i) (fun x N E => wc x (fun b => (b = true → we x (fun y => N (some y)) E) ∧ (b = false → N none)) E) (fun zs => N (ys ++ zs)) (fun _ => False))
      ⟨F1, [], [], Nat.le_refl _, gD.weak, IW, none_of I1.xt hD, upd_same, .nil, by simpa using hw⟩ (fun i H hi ⟨F2, ys, acc, _, g, _⟩ => g.ff.trans g.fh) (fun i x H2 H3 hi ⟨F2, ys, acc, hl, gg, I2, nD, eD, ra, hw⟩ y => ?_) fun H2 ⟨F2, ys, acc, hl, gg, I2, nD, eD, ra, hw⟩ => ?_
    · obtain ⟨F3, g3, z, hz, r⟩ := hy i F2 H2 x H3 gg.ff gg.fh y
      have I3 := I2.grow g3
      have hd : xs.drop i = z :: xs.drop (i + 1) := by
        rw [List.getElem?_eq_getElem hi] at hz
        cases hz
        exact List.drop_eq_getElem_cons hi
      rw [hd] at hw
      refine hg A Γ (wipe σ vs) F3 H3 x z _ I3 r fun σ4 I4 k4 l4 => ⟨?_, ?_⟩
      · have e := wipe_same (σ := wipe σ vs) (σ' := σ4) (vs := vs) l4 fun j hj => k4 j fun m => hj (his j m)
        rw [e]
        exact wipe_same (wipe_length _ _) fun j hj => wipe_get hj
      have em : ∀ a, Eff (f z Γ) A a → Eff Γ A a := eff_mono (hfo z)
      have eD' : ∀ a, Eff Γ A a → a ≠ D := fun a ⟨j, R, _, _, ha⟩ e => hDA j (e ▸ ha)
      have back : ∀ {F' H'}, Env c A (f z Γ) σ4 F' H' → Env c A Γ (wipe σ vs) F' H' := fun {F' H'} J => J.sub hlen fun j s hs => by
        by_cases m : j ∈ vs
        · exact .inl (hu j m s hs)
        · exact .inr ⟨(hf z j s m).mpr hs, (k4 j fun q => m (his j q)).symm⟩
      refine hc z A σ4 F3 H3 _ _ (fun _ => False) I4 (fun b F5 H5 g5 I5 n5 => ?_) (fun _ _ _ _ _ _ _ z => z) hw
      have g5' : Gw (Eff Γ A) F3 H3 F5 H5 := g5.mono em
      have eD3 : H3 D = some (.lst acc) := g3.hh D _ (fun z => z) eD
      have eD5 : H5 D = some (.lst acc) := g5'.hh D _ (fun m => eD' D m rfl) eD3
      have nD3 : F3 D = none := g3.nw D (by rw [eD]; exact nofun) nD
      have nD5 : F5 D = none := g5'.nw D (by rw [eD3]; exact nofun) nD3
      cases b with
      | false =>
        refine iteF ⟨F5, ys, acc, by omega, (gg.tr0 g3).tr g5', back I5, nD5, eD5, ra.ext (g3.ff.trans g5.ff), by simpa using n5.2 rfl⟩
      | true =>
        refine iteT (he z A σ4 F5 H5 _ _ (fun _ => False) I5 (fun y v F6 H6 g6 I6 r6 n6 => ?_) (fun _ _ _ _ _ _ _ z => z) (n5.1 rfl))
        have g6' : Gw (Eff Γ A) F5 H5 F6 H6 := g6.mono em
        have eD6 : H6 D = some (.lst acc) := g6'.hh D _ (fun m => eD' D m rfl) eD5
        have nD6 : F6 D = none := g6'.nw D (by rw [eD5]; exact nofun) nD5
        have ra6 := ra.ext ((g3.ff.trans g5.ff).trans g6.ff)
        have gc := Gw.chg (o := .lst (acc ++ [v])) g6.fh nD6 (by rw [eD6]; exact nofun)
        have sz := rvs_len ra
        have g7 : Gw (Eff Γ A) F1 H1 F6 H6 := ((gg.tr0 g3).tr g5').tr g6'
        refine ⟨acc, eD6, by omega, F6, ys ++ [y], acc ++ [v], by simp; omega, ?_, ?_, nD6, upd_same, by rw [List.map_append]; exact ra6.snoc r6, ?_⟩
        · refine ⟨g7.ff, gc.fh, fun b o nb hb => ?_, fun b hb => gc.th b (g7.th b hb), g7.nw⟩
          rw [upd_ne (fun e => by subst e; rw [hD] at hb; cases hb)]; exact g7.hh b o nb hb
        · exact env_chg0 (back I6) nD6 (I1.fresh hD) hDA
        · simpa [List.append_assoc] using n6
    · rw [List.drop_length] at hw
      have hw : N ys := by simpa [wlc] using hw
      have IE : Env c A Γ σ F2 H2 := I2.sub I.len fun j s hs => by
        by_cases m : j ∈ vs
        · exact .inl (hu j m s hs)
        · exact .inr ⟨hs, (wipe_get m).symm⟩
      exact k ys _ F2 H2 (· = D) (g1.tr gg) IE (fun a ha => by subst ha; exact ⟨nD, by rw [eD]; exact nofun, g1.old hD⟩) ⟨D, acc, rfl, fun _ => Iff.rfl, eD, ra⟩ hw) ke hw
end
end Vc

/-! statements, defs. -/
namespace Vc
open Py (toP)
open PySem PySem.Spec PyProof.Rows L2 Rn
open PySem.W (Tup Datum)
section
variable {c : Ct} {W : WX} {Γ Δ : List Slot} {i : Nat} {v : V} {α β γ δ ι : Type} [Py α] [Py β] [Py γ] [Py δ] {x : α} {te ta tb tc : TE} {wa : Wp α} {wb : Wp β} {wc : Wp γ} {T : TA}
theorem c_yes : COk c W Γ tYes (fun N _ => N true) := fun A σ F H Q N E I k ke hw => k true F H (Gw.refl I.xt) I hw
theorem r_lc1 {i : Nat} {wi : TI} {tt : TT} {te : TE} {wl : Wp (List α)} {wc : α → Wp Bool} {we : α → Wp β} (hi : IOk c W Γ wi wl) (hu : Γ[i]? = some .u)
    (hc : ∀ x, COk c (fun _ _ _ _ => False) (Γ.set i (.v x)) tt (wc x)) (he : ∀ x, EOk c (fun _ _ _ _ => False) (Γ.set i (.v x)) te (we x)) :
    MOk c W Γ (tLc wi (gName i) tt te [i]) (fun N E => wl (fun xs => xs.length ≤ sizeLine ∧ wlc xs (fun x N E => wc x (fun b => (b = true → we x (fun y => N (some y)) E) ∧ (b = false → N none)) E) N (fun _ => False)) E) :=
  r_lc hi (g_name i) (fun j hj s h => by rw [List.mem_singleton.mp hj, hu] at h; cases h; rfl) (fun _ h => h) (fun x j s hj => by rw [List.getElem?_set_ne (fun e => hj (by simp [e]))]) (fun x j R h => by
    rcases set_get h with ⟨_, e, _⟩ | ⟨_, h⟩
    · cases e
    · exact h) hc he
theorem r_lc2 {i j : Nat} {wi : TI} {tt : TT} {te : TE} {wl : Wp (List (α × β))} {wc : α × β → Wp Bool} {we : α × β → Wp γ} (hi : IOk c W Γ wi wl) (hu : Γ[i]? = some .u) (hv : Γ[j]? = some .u)
    (hc : ∀ x : α × β, COk c (fun _ _ _ _ => False) ((Γ.set i (.v x.1)).set j (.v x.2)) tt (wc x)) (he : ∀ x : α × β, EOk c (fun _ _ _ _ => False) ((Γ.set i (.v x.1)).set j (.v x.2)) te (we x)) :
    MOk c W Γ (tLc wi (gTup c.K 2 (gCons (gName i) (gCons (gName j) gNil))) tt te [i, j]) (fun N E => wl (fun xs => xs.length ≤ sizeLine ∧ wlc xs (fun x N E => wc x (fun b => (b = true → we x (fun y => N (some y)) E) ∧ (b = false → N none)) E) N (fun _ => False)) E) :=
  r_lc hi (g_pair (g_name i) (g_name j)) (fun k hk s h => by
    rcases List.mem_cons.mp hk with rfl | hk
    · rw [hu] at h; cases h; rfl
    · rw [List.mem_singleton.mp hk, hv] at h; cases h; rfl) (fun k h => h) (fun x k s hk => by
      rw [List.getElem?_set_ne (fun e => hk (by simp [e])), List.getElem?_set_ne (fun e => hk (by simp [e]))]) (fun x k R h => by
    rcases set_get h with ⟨_, e, _⟩ | ⟨_, h⟩
    · cases e
    · rcases set_get h with ⟨_, e, _⟩ | ⟨_, h⟩
      · cases e
      · exact h) hc he

/-! ### statements -/
/-- a plain value, as what is handed back -/
def pl {α : Type} [Py α] (x : α) : Res where
  flux := false
  R := fun K F H A v => RV K F v (toP x)
  ext := fun h e => RV.ext e h
  loc := fun h _ => h
  flx := fun h => nomatch h
/-- how a def ends: the slots at a return, what is handed back; the slots at an error -/
structure Sg (R : Type) where
  er : R → List Slot
  rr : R → Res
  ge : List Slot
abbrev WS (S L R : Type) := (S → Prop) → (L → Prop) → (L → Prop) → (R → Prop) → (Err → Prop) → Prop
def SOk (c : Ct) (W : WX) (Γ : List Slot) (t : TS) {S L R : Type} (en : S → List Slot) (el : L → List Slot) (sg : Sg R) (w : WS S L R) : Prop :=
  ∀ (A : Nat → Addr → Prop) (σ : L2.St) (F H : Hp) (D : Ends) (N : S → Prop) (B C : L → Prop) (Rt : R → Prop) (E : Err → Prop), Env c A Γ σ F H →
    (∀ s A' σ' F' H', Xt F F' → Env c A' (en s) σ' F' H' → N s → D.nx σ' H') →
    (∀ s A' σ' F' H', Xt F F' → Env c A' (el s) σ' F' H' → B s → D.bk σ' H') →
    (∀ s A' σ' F' H', Xt F F' → Env c A' (el s) σ' F' H' → C s → D.ct σ' H') →
    (∀ y v A' σ' F' H' B, Env c A' (sg.er y) σ' F' H' → (∀ a, B a → F' a = none ∧ H' a ≠ none ∧ c.H0 a = none) → (sg.rr y).R c.K F' H' B v → Rt y → D.rt v H') →
    (∀ e k d A' σ' F' H', Env c A' sg.ge σ' F' H' → ErrAt c.K F' e k d → E e → W k d σ' H') →
    w N B C Rt E → t D σ H
variable {S S1 L R : Type} {en : S → List Slot} {e1 : S1 → List Slot} {el : L → List Slot} {sg : Sg R} {t u t1 t2 : TS} {w : WS S L R}
/-- an error of an expression -/
theorem ke_of {A : Nat → Addr → Prop} {σ : L2.St} {E : Err → Prop} (we : Wk Γ sg.ge) (ke : ∀ e k d A' σ' F' H', Env c A' sg.ge σ' F' H' → ErrAt c.K F' e k d → E e → W k d σ' H') :
    ∀ e k d F' H', Env c A Γ σ F' H' → ErrAt c.K F' e k d → E e → W k d σ H' := fun e k d F' H' I h he => ke e k d A σ F' H' (I.wk we) h he
theorem s_set (i : Nat) {wu : α → WS S L R} (he : EOk c W Γ te wa) (we : Wk Γ sg.ge) (hu : ∀ x : α, SOk c W (Γ.set i (.v x)) u en el sg (wu x)) : SOk c W Γ (tSeq (tAsg te (gName i)) u) en el sg (fun N B C Rt E => wa (fun x => wu x N B C Rt E) E) :=
  fun A σ F H D N B C Rt E I kn kb kc kr ke hw => he A σ F H _ _ E I (fun x v F1 H1 g I1 r n => hu x A _ F1 H1 D N B C Rt E (I1.setv i r)
    (fun s A' σ' F' H' e => kn s A' σ' F' H' (g.ff.trans e)) (fun s A' σ' F' H' e => kb s A' σ' F' H' (g.ff.trans e)) (fun s A' σ' F' H' e => kc s A' σ' F' H' (g.ff.trans e)) kr ke n) (ke_of we ke) hw
/-- x = an object of its own -/
theorem s_setR (i : Nat) {α : Type} {Rs : α → Res} {wa : Wp α} {wu : α → WS S L R} (he : ROk c W Γ te Rs wa) (we : Wk Γ sg.ge) (hu : ∀ x : α, SOk c W (Γ.set i (.o (Rs x))) u en el sg (wu x)) : SOk c W Γ (tSeq (tAsg te (gName i)) u) en el sg (fun N B C Rt E => wa (fun x => wu x N B C Rt E) E) :=
  fun A σ F H D N B C Rt E I kn kb kc kr ke hw => he A σ F H _ _ E I (fun x v F1 H1 Bo g I1 hB r n => hu x _ _ F1 H1 D N B C Rt E (I1.seto i (fun a ha => ⟨(hB a ha).1, (hB a ha).2.1, .inl (I.fresh (hB a ha).2.2), fun j _ hj => (I.own j a hj).2.1 (hB a ha).2.2⟩) r)
    (fun s A' σ' F' H' e => kn s A' σ' F' H' (g.ff.trans e)) (fun s A' σ' F' H' e => kb s A' σ' F' H' (g.ff.trans e)) (fun s A' σ' F' H' e => kc s A' σ' F' H' (g.ff.trans e)) kr ke n) (ke_of we ke) hw
theorem s_drop {wu : WS S L R} (he : EOk c W Γ te wa) (we : Wk Γ sg.ge) (hu : SOk c W Γ u en el sg wu) : SOk c W Γ (tSeq (tDrop te) u) en el sg (fun N B C Rt E => wa (fun _ => wu N B C Rt E) E) :=
  fun A σ F H D N B C Rt E I kn kb kc kr ke hw => he A σ F H _ _ E I (fun x v F1 H1 g I1 r n => hu A _ F1 H1 D N B C Rt E I1
    (fun s A' σ' F' H' e => kn s A' σ' F' H' (g.ff.trans e)) (fun s A' σ' F' H' e => kb s A' σ' F' H' (g.ff.trans e)) (fun s A' σ' F' H' e => kc s A' σ' F' H' (g.ff.trans e)) kr ke n) (ke_of we ke) hw
theorem s_skip (hu : SOk c W Γ u en el sg w) : SOk c W Γ (tSeq tNext u) en el sg w := hu
theorem s_next (s : S) (h : Wk Γ (en s)) : SOk c W Γ tNext en el sg (fun N _ _ _ _ => N s : WS S L R) := fun A σ F H D N B C Rt E I kn kb kc kr ke hw => kn s A σ F H (.refl _) (I.wk h) hw
theorem s_brk (s : L) (h : Wk Γ (el s)) : SOk c W Γ (tSeq tBreak u) en el sg (fun _ B _ _ _ => B s : WS S L R) := fun A σ F H D N B C Rt E I kn kb kc kr ke hw => kb s A σ F H (.refl _) (I.wk h) hw
theorem s_ct (s : L) (h : Wk Γ (el s)) : SOk c W Γ (tSeq tCont u) en el sg (fun _ _ C _ _ => C s : WS S L R) := fun A σ F H D N B C Rt E I kn kb kc kr ke hw => kc s A σ F H (.refl _) (I.wk h) hw
/-- told with less -/
theorem s_wk (h : Wk Γ Δ) (hu : SOk c W Δ u en el sg w) : SOk c W Γ u en el sg w := fun A σ F H D N B C Rt E I => hu A σ F H D N B C Rt E (I.wk h)
theorem s_ret {f : α → R} (he : EOk c W Γ te wa) (we : Wk Γ sg.ge) (hr : ∀ x, sg.rr (f x) = pl x) (hw : ∀ x, Wk Γ (sg.er (f x))) : SOk c W Γ (tSeq (tRet te) u) en el sg (fun _ _ _ Rt E => wa (fun x => Rt (f x)) E : WS S L R) :=
  fun A σ F H D N B C Rt E I kn kb kc kr ke hw' => he A σ F H _ _ E I (fun x v F1 H1 g I1 r n => kr (f x) v A σ F1 H1 (fun _ => False) (I1.wk (hw x)) (fun _ h => h.elim) (by rw [hr]; exact r) n) (ke_of we ke) hw'
theorem s_retR {α : Type} {Rs : α → Res} {wa : Wp α} {f : α → R} (he : ROk c W Γ te Rs wa) (we : Wk Γ sg.ge) (hr : ∀ x, sg.rr (f x) = Rs x) (hw : ∀ x, Wk Γ (sg.er (f x))) : SOk c W Γ (tSeq (tRet te) u) en el sg (fun _ _ _ Rt E => wa (fun x => Rt (f x)) E : WS S L R) :=
  fun A σ F H D N B C Rt E I kn kb kc kr ke hw' => he A σ F H _ _ E I (fun x v F1 H1 Bo g I1 hB r n => kr (f x) v A σ F1 H1 Bo (I1.wk (hw x)) (fun a ha => ⟨(hB a ha).1, (hB a ha).2.1, I.fresh (hB a ha).2.2⟩) (by rw [hr]; exact r) n) (ke_of we ke) hw'
/-- return x, x an object of its own -/
theorem s_retV (i : Nat) {Rs : Res} (y : R) (hΓ : Γ[i]? = some (.o Rs)) (hi : c.np ≤ i) (hr : sg.rr y = Rs) (hw : Wk Γ (sg.er y)) : SOk c W Γ (tSeq (tRet (tVar i)) u) en el sg (fun _ _ _ Rt _ => Rt y : WS S L R) :=
  fun A σ F H D N B C Rt E I kn kb kc kr ke hw' => by
    obtain ⟨v, e, r⟩ := I.lookR hΓ
    exact ⟨v, e, kr y v A σ F H (A i) (I.wk hw) (fun a ha => ⟨(I.own i a ha).1, (I.own i a ha).2.1, own0 I hi ha⟩) (by rw [hr]; exact r) hw'⟩
theorem s_retN (y : R) (hr : sg.rr y = pl ()) (hw : Wk Γ (sg.er y)) : SOk c W Γ (tSeq tRetN u) en el sg (fun _ _ _ Rt _ => Rt y : WS S L R) :=
  fun A σ F H D N B C Rt E I kn kb kc kr ke hw' => kr y .non A σ F H (fun _ => False) (I.wk hw) (fun _ h => h.elim) (by rw [hr]; exact RV.non) hw'
/-- both ways join at e1 -/
theorem s_if {tt : TT} {cc : Wp Bool} {w1 w2 : WS S1 L R} {wu : S1 → WS S L R} (hc : COk c W Γ tt cc) (we : Wk Γ sg.ge) (h1 : SOk c W Γ t1 e1 el sg w1) (h2 : SOk c W Γ t2 e1 el sg w2) (hu : ∀ s, SOk c W (e1 s) u en el sg (wu s)) :
    SOk c W Γ (tSeq (tIfS tt t1 t2) u) en el sg (fun N B C Rt E => cc (fun b => (b = true → w1 (fun s => wu s N B C Rt E) B C Rt E) ∧ (b = false → w2 (fun s => wu s N B C Rt E) B C Rt E)) E) :=
  fun A σ F H D N B C Rt E I kn kb kc kr ke hw => hc A σ F H _ _ E I (fun b F1 H1 g I1 n => by
    have go : ∀ {t : TS} {w : WS S1 L R}, SOk c W Γ t e1 el sg w → w (fun s => wu s N B C Rt E) B C Rt E → t { D with nx := u D } σ H1 := fun h n => h A σ F1 H1 _ _ B C Rt E I1
      (fun s A' σ' F' H' e I' n' => hu s A' σ' F' H' D N B C Rt E I' (fun s A' σ' F'' H' e' => kn s A' σ' F'' H' (g.ff.trans (e.trans e'))) (fun s A' σ' F'' H' e' => kb s A' σ' F'' H' (g.ff.trans (e.trans e'))) (fun s A' σ' F'' H' e' => kc s A' σ' F'' H' (g.ff.trans (e.trans e'))) kr ke n')
      (fun s A' σ' F'' H' e' => kb s A' σ' F'' H' (g.ff.trans e')) (fun s A' σ' F'' H' e' => kc s A' σ' F'' H' (g.ff.trans e')) kr ke n
    cases b with
    | true => exact iteT (go h1 (n.1 rfl))
    | false => exact iteF (go h2 (n.2 rfl))) (ke_of we ke) hw
/-- the last if of a block -/
theorem s_if0 {tt : TT} {cc : Wp Bool} {w1 w2 : WS S L R} (hc : COk c W Γ tt cc) (we : Wk Γ sg.ge) (h1 : SOk c W Γ t1 en el sg w1) (h2 : SOk c W Γ t2 en el sg w2) :
    SOk c W Γ (tSeq (tIfS tt t1 t2) tNext) en el sg (fun N B C Rt E => cc (fun b => (b = true → w1 N B C Rt E) ∧ (b = false → w2 N B C Rt E)) E) :=
  s_if (wu := fun s N _ _ _ _ => N s) hc we h1 h2 fun s => s_next s Wk.refl
/-- a list of its own grows -/
theorem s_append (i : Nat) {xs : List α} {wu : α → WS S L R} (hΓ : Γ[i]? = some (.o (mu xs))) (he : EOk c W Γ te wa) (we : Wk Γ sg.ge) (hu : ∀ x : α, SOk c W (Γ.set i (.o (mu (xs ++ [x])))) u en el sg (wu x)) :
    SOk c W Γ (tSeq (tDrop (tBM c.K "list" rAppend (tVar i) (tCons te tNil))) u) en el sg (fun N B C Rt E => wa (fun x => xs.length < sizeLine ∧ wu x N B C Rt E) E) :=
  fun A σ F H D N B C Rt E I kn kb kc kr ke hw => by
    obtain ⟨v, e, p, vs, rfl, h2, h3, h4⟩ := I.lookR hΓ
    refine ⟨_, e, .inl ⟨rfl, vs, .inl (.inl h3)⟩, he A σ F H _ _ E I (fun x v F1 H1 g I1 r n => ?_) (ke_of we ke) hw⟩
    obtain ⟨v', e', p', vs', rfl, h2', h3', h4'⟩ := I1.lookR hΓ
    rw [e] at e'; cases e'
    have nF := (I1.own i p ((h2 p).mpr rfl)).1
    refine ⟨p, vs', v, rfl, rfl, h3', by rw [rvs_len h4']; exact n.1, ?_⟩
    have gc := Gw.chg (o := .lst (vs' ++ [v])) I1.xt nF (by rw [h3']; exact nofun)
    have I2 := I1.mut (R := mu (xs ++ [x])) i (B := (· = p)) (Xt.refl _) gc.fh (fun a o na ha => by rw [upd_ne (fun z => na ((h2 a).mpr z))]; exact ha) gc.th (fun _ _ h => h)
      (fun a ha => by subst ha; exact ⟨nF, by rw [upd_same]; exact nofun, .inl ((h2 a).mpr rfl)⟩) e ⟨p, _, rfl, fun _ => Iff.rfl, upd_same, by rw [List.map_append]; exact h4'.snoc r⟩
    exact hu x _ _ F1 _ D N B C Rt E I2 (fun s A' σ' F'' H' e' => kn s A' σ' F'' H' (g.ff.trans e')) (fun s A' σ' F'' H' e' => kb s A' σ' F'' H' (g.ff.trans e')) (fun s A' σ' F'' H' e' => kc s A' σ' F'' H' (g.ff.trans e')) kr ke n.2
/-- xs[k] = e -/
theorem s_setix (i : Nat) {xs : List α} {ti : TE} {wi : Wp Int} {wu : Nat → α → WS S L R} (hΓ : Γ[i]? = some (.o (mu xs))) (he : EOk c W Γ te wa) (hi : EOk c W Γ ti wi) (we : Wk Γ sg.ge) (hu : ∀ (j : Nat) (x : α), SOk c W (Γ.set i (.o (mu (xs.set j x)))) u en el sg (wu j x)) :
    SOk c W Γ (tSeq (tAsg te (gSub (tVar i) ti rSetL)) u) en el sg (fun N B C Rt E => wa (fun x => wi (fun k => ∃ j, ixN xs.length k = some j ∧ wu j x N B C Rt E) E) E) :=
  fun A σ F H D N B C Rt E I kn kb kc kr ke hw => by
    refine he A σ F H _ _ E I (fun x v F0 H0 g0 I0 r0 n0 => ?_) (ke_of we ke) hw
    obtain ⟨u0, e, p, vs, rfl, h2, h3, h4⟩ := I0.lookR hΓ
    refine ⟨_, e, hi A σ F0 H0 _ _ E I0 (fun k vk F1 H1 g I1 r n => ?_) (ke_of we ke) n0⟩
    obtain ⟨v', e', p', vs', rfl, h2', h3', h4'⟩ := I1.lookR hΓ
    rw [e] at e'; cases e'
    obtain ⟨j, hj, n⟩ := n
    have nF := (I1.own i p ((h2 p).mpr rfl)).1
    refine ⟨p, vs', k, j, rfl, RV.int_ r, h3', by rw [rvs_len h4']; exact hj, ?_⟩
    have gc := Gw.chg (o := .lst (vs'.set j v)) I1.xt nF (by rw [h3']; exact nofun)
    have I2 := I1.mut (R := mu (xs.set j x)) i (B := (· = p)) (Xt.refl _) gc.fh (fun a o na ha => by rw [upd_ne (fun z => na ((h2 a).mpr z))]; exact ha) gc.th (fun _ _ h => h)
      (fun a ha => by subst ha; exact ⟨nF, by rw [upd_same]; exact nofun, .inl ((h2 a).mpr rfl)⟩) e ⟨p, _, rfl, fun _ => Iff.rfl, upd_same, by rw [List.map_set]; exact RVs.set j h4' (r0.ext g.ff)⟩
    have gg := g0.ff.trans g.ff
    exact hu j x _ _ F1 _ D N B C Rt E I2 (fun s A' σ' F'' H' e' => kn s A' σ' F'' H' (gg.trans e')) (fun s A' σ' F'' H' e' => kb s A' σ' F'' H' (gg.trans e')) (fun s A' σ' F'' H' e' => kc s A' σ' F'' H' (gg.trans e')) kr ke n
/-- a list of its own stays from here on -/
theorem s_frz (i : Nat) {xs : List α} (hΓ : Γ[i]? = some (.o (mu xs))) (hi : c.np ≤ i) (hu : SOk c W (Γ.set i (.v xs)) u en el sg w) : SOk c W Γ u en el sg w :=
  fun A σ F H D N B C Rt E I kn kb kc kr ke hw => by
    obtain ⟨v, e, p, vs, rfl, h2, h3, h4⟩ := I.lookR hΓ
    have I2 := peek_env I e h2 h3 h4 hi
    have xf : Xt F (upd F p (.lst vs)) := xt_frz (I.own i p ((h2 p).mpr rfl)).1
    exact hu _ σ _ H D N B C Rt E I2 (fun s A' σ' F'' H' e' => kn s A' σ' F'' H' (xf.trans e')) (fun s A' σ' F'' H' e' => kb s A' σ' F'' H' (xf.trans e')) (fun s A' σ' F'' H' e' => kc s A' σ' F'' H' (xf.trans e')) kr ke hw
/-- self.f = e in an __init__ -/
theorem s_fld0 (i : Nat) {p : Addr} {f : Str} {cl : Str} {ns : List Str} {ds : List PV} {wu : α → WS S L R} (hΓ : Γ[i]? = some (.o (inst p cl ns ds))) (hc : Cls c.K (He.ga c.K cl)) (hn : NoAttr c.K (He.ga c.K cl) f) (hf : f ∉ ns) (hl : ns.length < 100) (he : EOk c W Γ te wa) (we : Wk Γ sg.ge)
    (hu : ∀ x : α, SOk c W (Γ.set i (.o (inst p cl (ns ++ [f]) (ds ++ [toP x])))) u en el sg (wu x)) : SOk c W Γ (tSeq (sFld c.K (tVar i) te f) u) en el sg (fun N B C Rt E => wa (fun x => wu x N B C Rt E) E) :=
  fun A σ F H D N B C Rt E I kn kb kc kr ke hw => by
    refine he A σ F H _ _ E I (fun x v F1 H1 g I1 r n => ?_) (ke_of we ke) hw
    obtain ⟨u0, e, dx, vs, rfl, h2, h3, h4, h5⟩ := I1.lookR hΓ
    have nF := (I1.own i p ((h2 p).mpr rfl)).1
    have hz : putF f v (ns.zip vs) = (ns ++ [f]).zip (vs ++ [v]) := by
      clear h3 hn hc hΓ hu hl h5
      induction ns generalizing vs with
      | nil => cases vs with | nil => rfl | cons _ _ => cases h4
      | cons n ns ih =>
        cases vs with
        | nil => cases h4
        | cons w vs =>
          have hne : f ≠ n := fun z => hf (by simp [z])
          show putF f v ((n, w) :: ns.zip vs) = (n, w) :: (ns ++ [f]).zip (vs ++ [v])
          rw [← ih (fun m => hf (by simp [m])) vs (by simpa using h4)]
          show (if n = f then _ else _) = _
          rw [if_neg (Ne.symm hne)]
    refine ⟨_, e, p, _, dx, _, rfl, h3, hc, hn, by rw [List.length_zip]; omega, ?_⟩
    have gc := Gw.chg (o := .ins (He.ga c.K cl) dx (putF f v (ns.zip vs))) I1.xt nF (by rw [h3]; exact nofun)
    have I2 := I1.mut (R := inst p cl (ns ++ [f]) (ds ++ [toP x])) i (B := (· = p)) (Xt.refl _) gc.fh (fun a o na ha => by rw [upd_ne (fun z => na ((h2 a).mpr z))]; exact ha) gc.th (fun _ _ h => h)
      (fun a ha => by subst ha; exact ⟨nF, by rw [upd_same]; exact nofun, .inl ((h2 a).mpr rfl)⟩) e ⟨dx, vs ++ [v], rfl, fun _ => Iff.rfl, by rw [upd_same, hz], by simp [h4], h5.snoc r⟩
    exact hu x _ _ F1 _ D N B C Rt E I2 (fun s A' σ' F'' H' e' => kn s A' σ' F'' H' (g.ff.trans e')) (fun s A' σ' F'' H' e' => kb s A' σ' F'' H' (g.ff.trans e')) (fun s A' σ' F'' H' e' => kc s A' σ' F'' H' (g.ff.trans e')) kr ke n
/-- x += e, whole numbers -/
theorem s_aug (i : Nat) {x : Int} {f : Int → Int → Int} {wa : Wp Int} {wu : Int → WS S L R} (hΓ : Γ[i]? = some (.v x)) (he : EOk c W Γ te wa) (we : Wk Γ sg.ge) (hu : ∀ z : Int, SOk c W (Γ.set i (.v z)) u en el sg (wu z)) :
    SOk c W Γ (tSeq (tAug i te (ipI f)) u) en el sg (fun N B C Rt E => wa (fun y => wu (f x y) N B C Rt E) E) :=
  fun A σ F H D N B C Rt E I kn kb kc kr ke hw => by
    obtain ⟨v, e, r⟩ := I.look hΓ
    obtain rfl := RV.int_ r
    refine ⟨_, e, he A σ F H _ _ E I (fun y v F1 H1 g I1 r n => ⟨x, y, rfl, RV.int_ r, ?_⟩) (ke_of we ke) hw⟩
    exact hu _ A _ F1 H1 D N B C Rt E (I1.setv i (.int _)) (fun s A' σ' F'' H' e' => kn s A' σ' F'' H' (g.ff.trans e')) (fun s A' σ' F'' H' e' => kb s A' σ' F'' H' (g.ff.trans e')) (fun s A' σ' F'' H' e' => kc s A' σ' F'' H' (g.ff.trans e')) kr ke n

/-! ### loops -/
def wfor {β S R : Type} : List β → S → (β → S → WS S S R) → (S → Prop) → (R → Prop) → (Err → Prop) → Prop
  | [], s, _, N, _, _ => N s
  | x :: xs, s, b, N, Rt, E => b x s (fun s' => wfor xs s' b N Rt E) N (fun s' => wfor xs s' b N Rt E) Rt E
theorem s_for {is : List Nat} {wi : TI} {g : TG} {f : β → List Slot → List Slot} {wl : Wp (List β)} {eh : S1 → List Slot} {wb : β → S1 → WS S1 S1 R} {wu : S1 → WS S L R} (s0 : S1) (hi : IOk c W Γ wi wl) (we : Wk Γ sg.ge) (h0 : Wk Γ (eh s0)) (hg : GOk c g f is)
    (hb : ∀ x s, SOk c W (f x (eh s)) t eh eh sg (wb x s)) (hu : ∀ s, SOk c W (eh s) u en el sg (wu s)) :
    SOk c W Γ (tSeq (tFor wi g t) u) en el sg (fun N B C Rt E => wl (fun xs => wfor xs s0 wb (fun s => wu s N B C Rt E) Rt E) E) :=
  fun A σ F H D N B C Rt E I kn kb kc kr ke hw => hi A σ F H _ _ E I (fun xs J F1 H1 g1 I1 fd n => by
    obtain ⟨Y, wk, hy⟩ := fd.ex
    have fin : ∀ s A' σ' F' H', Xt F1 F' → Env c A' (eh s) σ' F' H' → wu s N B C Rt E → u D σ' H' := fun s A' σ' F' H' e I' n => hu s A' σ' F' H' D N B C Rt E I'
      (fun s A' σ' F'' H' e' => kn s A' σ' F'' H' (g1.ff.trans (e.trans e'))) (fun s A' σ' F'' H' e' => kb s A' σ' F'' H' (g1.ff.trans (e.trans e'))) (fun s A' σ' F'' H' e' => kc s A' σ' F'' H' (g1.ff.trans (e.trans e'))) kr ke n
    refine for_it wk (fun i σ H => ∃ s A' F', Xt F1 F' ∧ Env c A' (eh s) σ F' H ∧ wfor (xs.drop i) s wb (fun s => wu s N B C Rt E) Rt E) ⟨s0, A, F1, .refl _, I1.wk h0, by simpa using n⟩ (fun i σ H hi ⟨s, A', F', e, I', _⟩ => e.trans I'.xt)
      (fun i x σ2 H2 H3 hi ⟨s, A', F', e, I', n'⟩ y => ?_) fun σ2 H2 ⟨s, A', F', e, I', n'⟩ => ?_
    · obtain ⟨F3, g3, z, hz, r⟩ := hy i F' H2 x H3 e I'.xt y
      have hd : xs.drop i = z :: xs.drop (i + 1) := by
        rw [List.getElem?_eq_getElem hi] at hz
        cases hz
        exact List.drop_eq_getElem_cons hi
      rw [hd] at n'
      refine hg A' (eh s) σ2 F3 H3 x z _ (I'.grow g3) r fun σ4 I4 _ _ => ?_
      exact hb z s A' σ4 F3 H3 _ _ _ _ Rt E I4 (fun s' A'' σ' F'' H' e' I'' n => ⟨s', A'', F'', (e.trans g3.ff).trans e', I'', n⟩) (fun s' A'' σ' F'' H' e' I'' n => fin s' A'' σ' F'' H' ((e.trans g3.ff).trans e') I'' n)
        (fun s' A'' σ' F'' H' e' I'' n => ⟨s', A'', F'', (e.trans g3.ff).trans e', I'', n⟩) kr ke n'
    · rw [List.drop_length] at n'
      exact fin s A' σ2 F' H2 e I' n') (ke_of we ke) hw
def wwhile {S R : Type} : Nat → S → (S → Wp Bool) → (S → WS S S R) → (S → Prop) → (R → Prop) → (Err → Prop) → Prop
  | 0, _, _, _, _, _, _ => False
  | n + 1, s, cc, b, N, Rt, E => cc s (fun r => (r = true → b s (fun s' => wwhile n s' cc b N Rt E) N (fun s' => wwhile n s' cc b N Rt E) Rt E) ∧ (r = false → N s)) E
theorem s_while {tt : TT} {eh : S1 → List Slot} {cc : S1 → Wp Bool} {wb : S1 → WS S1 S1 R} {wu : S1 → WS S L R} (s0 : S1) (h0 : Wk Γ (eh s0)) (we : ∀ s, Wk (eh s) sg.ge) (hc : ∀ s, COk c W (eh s) tt (cc s))
    (hb : ∀ s, SOk c W (eh s) t eh eh sg (wb s)) (hu : ∀ s, SOk c W (eh s) u en el sg (wu s)) :
    SOk c W Γ (tSeq (tWhile tt t) u) en el sg (fun N B C Rt E => ∃ m, wwhile m s0 cc wb (fun s => wu s N B C Rt E) Rt E) :=
  fun A σ F H D N B C Rt E I kn kb kc kr ke ⟨m, hw⟩ => by
    have fin : ∀ s A' σ' F' H', Xt F F' → Env c A' (eh s) σ' F' H' → wu s N B C Rt E → u D σ' H' := fun s A' σ' F' H' e I' n => hu s A' σ' F' H' D N B C Rt E I'
      (fun s A' σ' F'' H' e' => kn s A' σ' F'' H' (e.trans e')) (fun s A' σ' F'' H' e' => kb s A' σ' F'' H' (e.trans e')) (fun s A' σ' F'' H' e' => kc s A' σ' F'' H' (e.trans e')) kr ke n
    refine rd_while (fun m σ H => ∃ s A' F', Xt F F' ∧ Env c A' (eh s) σ F' H ∧ wwhile m s cc wb (fun s => wu s N B C Rt E) Rt E) ⟨m, s0, A, F, .refl _, I.wk h0, hw⟩ fun m σ2 H2 ⟨s, A', F', e, I', n⟩ => ?_
    cases m with
    | zero => exact n.elim
    | succ m =>
      refine hc s A' σ2 F' H2 _ _ E I' (fun b F3 H3 g3 I3 n3 => ?_) (ke_of (we s) ke) n
      have e3 := e.trans g3.ff
      cases b with
      | true =>
        refine iteT ⟨fun σ' H' => ∃ s A' F', Xt F F' ∧ Env c A' (eh s) σ' F' H' ∧ wwhile m s cc wb (fun s => wu s N B C Rt E) Rt E, fun σ' H' h => ⟨m, Nat.lt_succ_self m, h⟩, ?_⟩
        exact hb s A' σ2 F3 H3 _ _ _ _ Rt E I3 (fun s' A'' σ' F'' H' e' I'' n => ⟨s', A'', F'', e3.trans e', I'', n⟩) (fun s' A'' σ' F'' H' e' I'' n => fin s' A'' σ' F'' H' (e3.trans e') I'' n)
          (fun s' A'' σ' F'' H' e' I'' n => ⟨s', A'', F'', e3.trans e', I'', n⟩) kr ke (n3.1 rfl)
      | false => exact iteF (fin s A' σ2 F3 H3 e3 I3 (n3.2 rfl))
/-- raise C(e, ..) -/
theorem s_raise {cl : Str} {fs : List Str} {args : ι → List PV} {wT : Wp ι} (h : TOk c W Γ T args wT) (hl : ∀ x, (args x).length = fs.length) (we : Wk Γ sg.ge) :
    SOk c W Γ (tSeq (fun _ σ H => tMkX (He.ga c.K cl) fs T σ H fun k d H' => W k d σ H') u) en el sg (fun _ _ _ _ E => wT (fun x => E ⟨cl, fs, args x⟩) E : WS S L R) :=
  fun A σ F H D N B C Rt E I kn kb kc kr ke hw => h A σ F H _ _ E I (fun xs vs F1 H1 g I1 r n => ⟨by rw [r.length, hl], fun d hd => by
    have gn := G0.newF (o := .xd (fs.zip vs)) I1.xt hd
    exact ke ⟨cl, fs, args xs⟩ _ _ A σ _ _ ((I1.grow gn).wk we) ⟨rfl, d, vs, rfl, upd_same, by rw [r.length, hl], r.ext gn.ff⟩ n⟩) (ke_of we ke) hw
end
end Vc

/-! defs: from a body's rules to its promise. -/
namespace Vc
open Py (toP)
open PySem PySem.Spec PyProof.Rows L2 Rn
open PySem.W (Tup Datum)
/-- slots that tell the arguments, the others not -/
inductive SA : List Slot → List PV → Prop
  | nil : SA [] []
  | u {Γ : List Slot} : SA Γ [] → SA (.u :: Γ) []
  | v {α : Type} [Py α] {x : α} {Γ : List Slot} {ds : List PV} : SA Γ ds → SA (.v x :: Γ) (toP x :: ds)
theorem SA.ok {K : PySem.W.Frag} {F H : Hp} {A : Addr → Prop} : ∀ {Γ : List Slot} {ds : List PV} {vs : List V} {m : Nat}, SA Γ ds → RVs K F vs ds → ∀ (i : Nat) (s : Slot), Γ[i]? = some s → SlotOk K F H A (vs.map some ++ List.replicate m none)[i]? s
  | _, _, _, _, .nil, _, i, s, h => by simp at h
  | _, _, _, _, .u t, r, 0, s, h => by simp at h; subst h; exact True.intro
  | _, _, vs, m, .u t, r, i + 1, s, h => by
    have := r.nil_
    subst this
    have q : s = .u := by
      simp at h
      clear r
      generalize hd : ([] : List PV) = ds at t
      induction t generalizing i with
      | nil => simp at h
      | u t ih => cases i with
        | zero => simp at h; exact h.symm
        | succ i => exact ih i (by simpa using h) hd
      | v t ih => cases hd
    subst q; exact True.intro
  | _, _, _, _, @SA.v α _ x Γ ds t, r, 0, s, h => by
    obtain ⟨v, ws, rfl, r1, r2⟩ := r.cons_
    simp at h; subst h
    exact ⟨v, rfl, r1⟩
  | _, _, _, m, @SA.v α _ x Γ ds t, r, i + 1, s, h => by
    obtain ⟨v, ws, rfl, r1, r2⟩ := r.cons_
    exact SA.ok t r2 i s (by simpa using h)
section
variable {K : PySem.W.Frag} {F H : Hp} {Γ : List Slot} {ds : List PV} {vs : List V} {N : List Str}
theorem env_start (e : Xt F H) (sa : SA Γ ds) (r : RVs K F vs ds) (hl : Γ.length ≤ N.length) : Env ⟨K, F, H, Nil, 0⟩ (fun _ => Nil) Γ (L2.start N vs) F H :=
  ⟨Gw.refl e, by simp [L2.start]; omega, fun i s h => sa.ok r i s h, fun i a h => h.elim, fun i j a h => h.elim⟩
/-- the first argument is an object that may change -/
theorem env_startR {R : Res} {p : Addr} (e : Xt F H) (nF : F p = none) (hp : H p ≠ none) (hR : R.R K F H (· = p) (.ref p)) (sa : SA Γ ds) (r : RVs K F vs ds) (hl : Γ.length + 1 ≤ N.length) :
    Env ⟨K, F, H, (· = p), 1⟩ (fun i a => i = 0 ∧ a = p) (.o R :: Γ) (L2.start N (.ref p :: vs)) F H := by
  refine ⟨Gw.refl e, by simp [L2.start]; omega, fun i s h => ?_, fun i a h => ?_, fun i j a h k => by rw [h.1, k.1]⟩
  · cases i with
    | zero =>
      simp at h; subst h
      refine ⟨.ref p, rfl, ?_⟩
      have e : (fun a => (0 : Nat) = 0 ∧ a = p) = (· = p) := by funext a; simp
      rw [e]; exact hR
    | succ i =>
      have q := sa.ok (m := N.length - (vs.length + 1)) (H := H) (A := fun a => i + 1 = 0 ∧ a = p) r i s (by simpa using h)
      simpa [L2.start] using q
  · obtain ⟨rfl, rfl⟩ := h
    exact ⟨nF, hp, .inr ⟨Nat.one_pos, rfl⟩⟩
end
abbrev nE : Unit → List Slot := fun _ => []
section
variable {K : PySem.W.Frag} {H : Hp} {vs : List V} {N : List Str} {Q : VK} {E : XK} {ι ρ : Type} {args : ι → List PV} {t : TS}
/-- a def of plain values; fall: what falling off its end asks -/
theorem use_F [Py ρ] {wf : ι → Wp ρ} {Γ : ι → List Slot} {w : ι → WS Unit Unit ρ} (fall : (ρ → Prop) → Prop) (hfall : ∀ n : ρ → Prop, fall n → ∃ y, n y ∧ toP y = .non) (h : spF K args wf vs H Q E) (sa : ∀ x, SA (Γ x) (args x)) (hl : ∀ x, (Γ x).length ≤ N.length)
    (hs : ∀ F x, SOk ⟨K, F, H, Nil, 0⟩ (fun c d _ H => E c d H) (Γ x) t nE nE ⟨fun _ => [], fun y => pl y, []⟩ (w x)) (vc : ∀ x n e, wf x n e → w x (fun _ => fall n) (fun _ => False) (fun _ => False) n e) :
    t { nx := fun _ H' => Q .non H', rt := Q } (L2.start N vs) H := by
  obtain ⟨F, x, n, e, e0, r, hw, kn, ke⟩ := h
  refine hs F x _ _ F H _ _ _ _ _ _ (env_start e0 (sa x) r (hl x)) (fun s A' σ' F' H' _ I n => ?_) (fun _ _ _ _ _ _ _ z => z.elim) (fun _ _ _ _ _ _ _ z => z.elim) (fun y v A' σ' F' H' B I hB r n => kn y v F' H' I.g r n)
    (fun er k d A' σ' F' H' I ea he => ke er k d F' H' I.g ea he) (vc x n e hw)
  obtain ⟨y, hy, q⟩ := hfall _ n
  exact kn y .non F' H' I.g (by rw [q]; exact .non) hy
theorem use_R {R : ρ → Res} {wf : ι → Wp ρ} {Γ : ι → List Slot} {w : ι → WS Unit Unit ρ} (h : spR K args R wf vs H Q E) (sa : ∀ x, SA (Γ x) (args x)) (hl : ∀ x, (Γ x).length ≤ N.length)
    (hs : ∀ F x, SOk ⟨K, F, H, Nil, 0⟩ (fun c d _ H => E c d H) (Γ x) t nE nE ⟨fun _ => [], R, []⟩ (w x)) (vc : ∀ x n e, wf x n e → w x (fun _ => False) (fun _ => False) (fun _ => False) n e) :
    t { nx := fun _ H' => Q .non H', rt := Q } (L2.start N vs) H := by
  obtain ⟨F, x, n, e, e0, r, hw, kn, ke⟩ := h
  exact hs F x _ _ F H _ _ _ _ _ _ (env_start e0 (sa x) r (hl x)) (fun _ _ _ _ _ _ _ z => z.elim) (fun _ _ _ _ _ _ _ z => z.elim) (fun _ _ _ _ _ _ _ z => z.elim) (fun y v A' σ' F' H' B I hB r n => kn y v F' H' B I.g hB r n)
    (fun er k d A' σ' F' H' I ea he => ke er k d F' H' I.g ea he) (vc x n e hw)
theorem use_P [Py ρ] {wf : ι → Wp ρ} {Γ : Addr → ι → List Slot} {w : Addr → ι → WS Unit Unit ρ} (h : spP K args wf vs H Q E) (sa : ∀ p x, ∃ Γ', Γ p x = .o (pool p) :: Γ' ∧ SA Γ' (args x)) (hl : ∀ p x, (Γ p x).length ≤ N.length)
    (hs : ∀ F p x, SOk ⟨K, F, H, (· = p), 1⟩ (fun c d _ H => E c d H) (Γ p x) t nE nE ⟨fun _ => [.o (pool p)], fun y => pl y, []⟩ (w p x)) (vc : ∀ p x n, wf x n (fun _ => False) → w p x (fun _ => False) (fun _ => False) (fun _ => False) n (fun _ => False)) :
    t { nx := fun _ H' => Q .non H', rt := Q } (L2.start N vs) H := by
  obtain ⟨F, x, n, p, ws, rfl, e0, nF, hP, r, hw, kn⟩ := h
  obtain ⟨Γ', e1, s1⟩ := sa p x
  have I0 := env_startR (K := K) (N := N) (R := pool p) e0 nF hP.some ⟨rfl, fun _ => Iff.rfl, hP⟩ s1 r (by have := hl p x; rw [e1] at this; simpa using this)
  rw [← e1] at I0
  exact hs F p x _ _ F H _ _ _ _ _ _ I0 (fun _ _ _ _ _ _ _ z => z.elim) (fun _ _ _ _ _ _ _ z => z.elim) (fun _ _ _ _ _ _ _ z => z.elim) (fun y v A' σ' F' H' B I hB r n => by
    obtain ⟨u, _, _, _, hq⟩ := I.lookR (i := 0) rfl
    exact kn y v F' H' I.g hq r n) (fun _ _ _ _ _ _ _ _ _ z => z.elim) (vc p x n hw)
theorem use_PR {R : ρ → Res} {wf : ι → Wp ρ} {Γ : Addr → ι → List Slot} {w : Addr → ι → WS Unit Unit ρ} (h : spPR K args R wf vs H Q E) (sa : ∀ p x, ∃ Γ', Γ p x = .o (pool p) :: Γ' ∧ SA Γ' (args x)) (hl : ∀ p x, (Γ p x).length ≤ N.length)
    (hs : ∀ F p x, SOk ⟨K, F, H, (· = p), 1⟩ (fun c d _ H => E c d H) (Γ p x) t nE nE ⟨fun _ => [.o (pool p)], R, []⟩ (w p x)) (vc : ∀ p x n, wf x n (fun _ => False) → w p x (fun _ => False) (fun _ => False) (fun _ => False) n (fun _ => False)) :
    t { nx := fun _ H' => Q .non H', rt := Q } (L2.start N vs) H := by
  obtain ⟨F, x, n, p, ws, rfl, e0, nF, hP, r, hw, kn⟩ := h
  obtain ⟨Γ', e1, s1⟩ := sa p x
  have I0 := env_startR (K := K) (N := N) (R := pool p) e0 nF hP.some ⟨rfl, fun _ => Iff.rfl, hP⟩ s1 r (by have := hl p x; rw [e1] at this; simpa using this)
  rw [← e1] at I0
  exact hs F p x _ _ F H _ _ _ _ _ _ I0 (fun _ _ _ _ _ _ _ z => z.elim) (fun _ _ _ _ _ _ _ z => z.elim) (fun _ _ _ _ _ _ _ z => z.elim) (fun y v A' σ' F' H' B I hB r n => by
    obtain ⟨u, _, _, _, hq⟩ := I.lookR (i := 0) rfl
    exact kn y v F' H' B I.g hq hB r n) (fun _ _ _ _ _ _ _ _ _ z => z.elim) (vc p x n hw)
/-- an __init__: its end leaves the object y -/
theorem use_I [Py ρ] {cl : Str} {wf : ι → Wp ρ} {Γ : Addr → ι → List Slot} {en : Addr → ρ → List Slot} {w : Addr → ι → WS ρ Unit ρ} (h : spI K cl args wf vs H Q E) (sa : ∀ p x, ∃ Γ', Γ p x = .o (inst p cl [] []) :: Γ' ∧ SA Γ' (args x)) (hl : ∀ p x, (Γ p x).length ≤ N.length)
    (hen : ∀ p y, ∃ ns ds Γ', en p y = .o (inst p cl ns ds) :: Γ' ∧ toP y = .obj cl ns ds)
    (hs : ∀ F p x, SOk ⟨K, F, H, (· = p), 1⟩ (fun c d _ H => E c d H) (Γ p x) t (en p) nE ⟨en p, fun _ => pl (), []⟩ (w p x)) (vc : ∀ p x n e, wf x n e → w p x n (fun _ => False) (fun _ => False) n e) :
    t { nx := fun _ H' => Q .non H', rt := Q } (L2.start N vs) H := by
  obtain ⟨F, x, n, e, p, dx, ws, rfl, e0, nF, hP, r, hw, kn, ke⟩ := h
  obtain ⟨Γ', e1, s1⟩ := sa p x
  have I0 := env_startR (K := K) (N := N) (R := inst p cl [] []) e0 nF (by rw [hP]; exact nofun) ⟨dx, [], rfl, fun _ => Iff.rfl, hP, rfl, .nil⟩ s1 r (by have := hl p x; rw [e1] at this; simpa using this)
  rw [← e1] at I0
  have fin : ∀ {A' σ' F' H' y}, Env ⟨K, F, H, (· = p), 1⟩ A' (en p y) σ' F' H' → n y → Q .non H' := fun {A' σ' F' H' y} I ny => by
    obtain ⟨ns, ds, Γ', h1, h2⟩ := hen p y
    rw [h1] at I
    obtain ⟨u, _, dx, vs, q1, q2, q3⟩ := I.lookR (i := 0) rfl
    exact kn y F' H' I.g ⟨ns, ds, h2, dx, vs, rfl, fun _ => Iff.rfl, q3⟩ ny
  exact hs F p x _ _ F H _ _ _ _ _ _ I0 (fun y A' σ' F' H' _ I ny => fin I ny) (fun _ _ _ _ _ _ _ z => z.elim) (fun _ _ _ _ _ _ _ z => z.elim) (fun y v A' σ' F' H' B I hB r ny => by
    rw [RV.non_ r]; exact fin I ny) (fun er k d A' σ' F' H' I ea he => ke er k d F' H' I.g ea he) (vc p x n e hw)
end
end Vc

/-! more rules: draws, the script, stores by +=, keywords, isinstance, ranges. -/
namespace Vc
open Py (toP)
open PySem PySem.Spec PyProof.Rows L2 Rn
open PySem.W (Tup Datum)
/-! ### xs[i] read for +=  -/
theorem pget_list {X : Cx} : PGet X (rIxL X.K) := by
  intro pins s σ H x y v u Q I rx ry h
  obtain ⟨p, xs, i, z, rfl, rfl, hq, he, q⟩ := h
  cases rx
  obtain ⟨t, rfl⟩ := ry
  obtain ⟨its, r, pl, hz⟩ := I.list hq
  obtain ⟨j, h1, h2, h3, h4, h5⟩ := atI_get he
  obtain ⟨w, ew, rw'⟩ := r.get h2
  have hl := r.length
  have hn := line63
  have fin : EP X pins σ Q w s := ⟨z, H, I, rw', q⟩
  by_cases h0 : 0 ≤ i
  · have hj : i.toNat = j := by
      rw [seqIndex_of h0 h5] at h1
      exact Option.some.inj h1
    exact wpAny_getItem_list pl.isList h0 (by omega) (by rw [hj]; simpa using ew) fin
  · have hj : (i + (its.toArray.size : Int)).toNat = j := by
      rw [seqIndex_neg (by omega) h4] at h1
      rw [List.size_toArray, ← hl]
      exact Option.some.inj h1
    exact wpAny_getItem_list_neg pl.isList (by omega) (by rw [List.size_toArray] <;> omega) (by omega) (by rw [hj]; simpa using ew) fin
theorem kget_list {X : Cx} (K : PySem.W.Frag) (hK : X.K = K := by rfl) : PGet X (rIxL K) := by subst hK; exact pget_list
theorem kEnumK {X : Cx} (K : PySem.W.Frag) {e : Expr} {ta : TA} {p pos tpos : Pos} {elts : List Expr} {kk : Nat} (kd : Kd) (hk : KdOk X kd) (hr : Room 3 X.A) (hg : Gl X "enumerate") (hm : X.mg "enumerate" = none) (ha : PA X [e] ta) (hK : X.K = K := by rfl) (hs : starEach [e] X.env = [(false, eval e X.env)] := by rfl) :
    PI X (.Tuple elts kk tpos) (.Call (.Name "enumerate" p) [e] [] pos) (iEnumK K kd ta) := by subst hK; exact pi_enumK kd hk hr hg hm ha hs
theorem kZip2K {X : Cx} (K : PySem.W.Frag) {e e2 : Expr} {ta : TA} {p pos tpos : Pos} {elts : List Expr} {kk : Nat} (kd1 kd2 : Kd) (hk1 : KdOk X kd1) (hk2 : KdOk X kd2) (hr : Room 3 X.A) (hg : Gl X "zip") (hm : X.mg "zip" = none) (ha : PA X [e, e2] ta) (hK : X.K = K := by rfl)
    (hs : starEach [e, e2] X.env = (false, eval e X.env) :: starEach [e2] X.env := by rfl) (hpl : (backTo pos (starEach [e2] X.env)).any (·.1) = false := by rfl) :
    PI X (.Tuple elts kk tpos) (.Call (.Name "zip" p) [e, e2] [] pos) (iZip2K K kd1 kd2 ta) := by subst hK; exact pi_zip2K kd1 kd2 hk1 hk2 hr hg hm ha hs hpl
section
variable {c : Ct} {W : WX} {A : Nat → Addr → Prop} {Γ Δ : List Slot} {σ : L2.St} {F H F' H' : Hp} {i : Nat} {v : V} {α β γ δ ι : Type} [Py α] [Py β] [Py γ] [Py δ] {x : α} {te ta tb tc : TE} {wa : Wp α} {wb : Wp β} {wc : Wp γ} {T : TA} {p : Addr}
variable {S S1 L R : Type} {en : S → List Slot} {e1 : S1 → List Slot} {el : L → List Slot} {sg : Sg R} {t u t1 t2 : TS} {w : WS S L R}
/-! ### the pool, the script -/
theorem gw_gc {S : Addr → Prop} {l : List Addr} (h : ∀ a, a ∈ l → S a) (g : Gc l F H H') : Gw S F H F H' := ⟨g.gr.ff, g.gr.fh, fun b o n q => g.gr.hh b o (fun m => n (h b m)) q, g.gr.th, g.gr.nw⟩
def scr : Res where
  flux := false
  R := fun K F H A v => ∃ (a : Addr) (ns : List Int), v = .ref a ∧ SqL K F a (ns.map V.int)
  ext := fun ⟨a, ns, h1, h2⟩ e => ⟨a, ns, h1, sqL_ext e h2⟩
  loc := fun h _ => h
  flx := fun h => nomatch h
theorem e_draw (i : Nat) {wm : Wp Int} (hΓ : Γ[i]? = some (.o (pool p))) (h : EOk c W Γ te wm) : EOk c W Γ (tG sp_draw W (tCons (tVar i) (tCons te tNil))) (fun (N : Int → Prop) E => wm (fun m => (0 < m ∧ m < 2 ^ 200) ∧ ∀ v, 0 ≤ v → v < m → N v) E) := fun A σ F H Q N E I k ke hw => by
  obtain ⟨v, e, rfl, h2, _⟩ := I.lookR hΓ
  refine ⟨_, e, h A σ F H _ _ E I (fun m vm F1 H1 g1 I1 r n => ?_) ke hw⟩
  obtain ⟨v', e', rfl, h2', hP⟩ := I1.lookR hΓ
  refine ⟨F1, p, m, by rw [RV.int_ r], I1.xt, (I1.own i p ((h2 p).mpr rfl)).1, hP, n.1.1, n.1.2, fun v H' l1 l2 g hP' => ?_⟩
  obtain ⟨g2, I2⟩ := I1.drawn hΓ h2 (gw_gc (S := (· = p)) (fun a ha => by simpa using ha) g) hP'
  exact k v _ F1 H' (g1.tr g2) I2 (.int v) (n.2 v l1 l2)
theorem r_pool (i : Nat) {wm : Wp Int} (hΓ : Γ[i]? = some (.o scr)) (h : EOk c W Γ te wm) : ROk c W Γ (tG (sp_pool c.K) W (tCons (tVar i) (tCons te tNil))) (fun p : Addr => pool p) (fun N E => wm (fun m => 0 ≤ m ∧ ∀ p, N p) E) := fun A σ F H Q N E I k ke hw => by
  obtain ⟨v, e, a, ns, rfl, hs⟩ := I.lookR hΓ
  refine ⟨_, e, h A σ F H _ _ E I (fun m vm F1 H1 g1 I1 r n => ?_) ke hw⟩
  refine ⟨F1, a, ns, m, by rw [RV.int_ r], sqL_ext (g1.ff.trans I1.xt) hs, n.1, I1.xt, fun p H' hn g hF hP => ?_⟩
  have g2 : G0 F1 H1 F1 H' := gw_gc (fun a ha => by simp at ha) g
  exact k p _ F1 H' (· = p) (g1.tr0 g2) (I1.grow g2) (fun b hb => by subst hb; exact ⟨hF, hP.some, g1.old hn⟩) ⟨rfl, fun _ => Iff.rfl, hP⟩ (n.2 p)
/-! ### xs[k] += e -/
theorem s_augix (i : Nat) {xs : List Int} {ti : TE} {wi wa : Wp Int} {f : Int → Int → Int} {wu : List Int → WS S L R} (hΓ : Γ[i]? = some (.o (mu xs))) (hi : EOk c W Γ ti wi) (he : EOk c W Γ te wa) (we : Wk Γ sg.ge) (hu : ∀ ys : List Int, SOk c W (Γ.set i (.o (mu ys))) u en el sg (wu ys)) :
    SOk c W Γ (tSeq (tAugS (tVar i) ti te (rIxL c.K) (ipI f) rSetL) u) en el sg (fun N B C Rt E => wi (fun k => ∃ z j, atI xs k = some z ∧ ixN xs.length k = some j ∧ wa (fun y => wu (xs.set j (f z y)) N B C Rt E) E) E) :=
  fun A σ F H D N B C Rt E I kn kb kc kr ke hw => by
    obtain ⟨v, e, p, vs, rfl, h2, h3, h4⟩ := I.lookR hΓ
    refine ⟨_, e, hi A σ F H _ _ E I (fun k vk F1 H1 g I1 r n => ?_) (ke_of we ke) hw⟩
    obtain ⟨v', e', p', vs', rfl, h2', h3', h4'⟩ := I1.lookR hΓ
    rw [e] at e'; cases e'
    obtain ⟨z, j, hz, hj, n⟩ := n
    obtain ⟨vz, hvz, rz⟩ := atI_map h4' hz
    obtain rfl := RV.int_ rz
    refine ⟨p, vs', k, _, rfl, RV.int_ r, .inl (.inl h3'), hvz, he A σ F1 H1 _ _ E I1 (fun y vy F2 H2 g2 I2 r2 n2 => ?_) (ke_of we ke) n⟩
    obtain ⟨v'', e'', p'', vs'', rfl, h2'', h3'', h4''⟩ := I2.lookR hΓ
    rw [e] at e''; cases e''
    refine ⟨z, y, rfl, RV.int_ r2, p, vs'', k, j, rfl, RV.int_ r, h3'', by rw [rvs_len h4'']; exact hj, ?_⟩
    have nF := (I2.own i p ((h2 p).mpr rfl)).1
    have gc := Gw.chg (o := .lst (vs''.set j (.int (f z y)))) I2.xt nF (by rw [h3'']; exact nofun)
    have I3 := I2.mut (R := mu (xs.set j (f z y))) i (B := (· = p)) (Xt.refl _) gc.fh (fun a o na ha => by rw [upd_ne (fun z => na ((h2 a).mpr z))]; exact ha) gc.th (fun _ _ h => h)
      (fun a ha => by subst ha; exact ⟨nF, by rw [upd_same]; exact nofun, .inl ((h2 a).mpr rfl)⟩) e ⟨p, _, rfl, fun _ => Iff.rfl, upd_same, by rw [List.map_set]; exact RVs.set j h4'' (.int _)⟩
    have gg := g.ff.trans g2.ff
    exact hu _ _ _ F2 _ D N B C Rt E I3 (fun s A' σ' F'' H' e' => kn s A' σ' F'' H' (gg.trans e')) (fun s A' σ' F'' H' e' => kb s A' σ' F'' H' (gg.trans e')) (fun s A' σ' F'' H' e' => kc s A' σ' F'' H' (gg.trans e')) kr ke n2
/-- xs.extend(ys) -/
theorem s_extend (i : Nat) {xs : List α} {wa : Wp (List α)} {wu : List α → WS S L R} (hΓ : Γ[i]? = some (.o (mu xs))) (he : EOk c W Γ te wa) (we : Wk Γ sg.ge) (hu : ∀ x : List α, SOk c W (Γ.set i (.o (mu (xs ++ x)))) u en el sg (wu x)) :
    SOk c W Γ (tSeq (tDrop (tBM c.K "list" rExtend (tVar i) (tCons te tNil))) u) en el sg (fun N B C Rt E => wa (fun x => xs.length + x.length ≤ sizeLine ∧ wu x N B C Rt E) E) :=
  fun A σ F H D N B C Rt E I kn kb kc kr ke hw => by
    obtain ⟨v, e, p, vs, rfl, h2, h3, h4⟩ := I.lookR hΓ
    refine ⟨_, e, .inl ⟨rfl, vs, .inl (.inl h3)⟩, he A σ F H _ _ E I (fun x v F1 H1 g I1 r n => ?_) (ke_of we ke) hw⟩
    obtain ⟨v', e', p', vs', rfl, h2', h3', h4'⟩ := I1.lookR hΓ
    rw [e] at e'; cases e'
    obtain ⟨b, ws, rfl, hb, rb⟩ := rv_list r
    have nF := (I1.own i p ((h2 p).mpr rfl)).1
    refine ⟨p, b, vs', ws, rfl, rfl, h3', I1.xt _ _ hb, by rw [rvs_len h4', rvs_len rb]; exact n.1, ?_⟩
    have gc := Gw.chg (o := .lst (vs' ++ ws)) I1.xt nF (by rw [h3']; exact nofun)
    have I2 := I1.mut (R := mu (xs ++ x)) i (B := (· = p)) (Xt.refl _) gc.fh (fun a o na ha => by rw [upd_ne (fun z => na ((h2 a).mpr z))]; exact ha) gc.th (fun _ _ h => h)
      (fun a ha => by subst ha; exact ⟨nF, by rw [upd_same]; exact nofun, .inl ((h2 a).mpr rfl)⟩) e ⟨p, _, rfl, fun _ => Iff.rfl, upd_same, by rw [List.map_append]; exact h4'.append rb⟩
    exact hu x _ _ F1 _ D N B C Rt E I2 (fun s A' σ' F'' H' e' => kn s A' σ' F'' H' (g.ff.trans e')) (fun s A' σ' F'' H' e' => kb s A' σ' F'' H' (g.ff.trans e')) (fun s A' σ' F'' H' e' => kc s A' σ' F'' H' (g.ff.trans e')) kr ke n.2
/-- x, y = e -/
theorem s_setg {g : TG} {f : α → List Slot → List Slot} {is : List Nat} {wu : α → WS S L R} (hg : GOk c g f is) (he : EOk c W Γ te wa) (we : Wk Γ sg.ge) (hu : ∀ x : α, SOk c W (f x Γ) u en el sg (wu x)) : SOk c W Γ (tSeq (tAsg te g) u) en el sg (fun N B C Rt E => wa (fun x => wu x N B C Rt E) E) :=
  fun A σ F H D N B C Rt E I kn kb kc kr ke hw => he A σ F H _ _ E I (fun x v F1 H1 g1 I1 r n => hg A Γ σ F1 H1 v x _ I1 r fun σ' I2 _ _ => hu x A _ F1 H1 D N B C Rt E I2
    (fun s A' σ' F' H' e => kn s A' σ' F' H' (g1.ff.trans e)) (fun s A' σ' F' H' e => kb s A' σ' F' H' (g1.ff.trans e)) (fun s A' σ' F' H' e => kc s A' σ' F' H' (g1.ff.trans e)) kr ke n) (ke_of we ke) hw
/-! ### isinstance of whole numbers -/
theorem e_isi_I_int {w : Wp Int} (h : EOk c W Γ te w) : EOk c W Γ (tCB (rIsi c.K) (tCons te (tCons (tC (.ty "int")) tNil))) (fun (N : Bool → Prop) E => w (fun _ => N true) E) := fun A σ F H Q N E I k ke hw =>
  h A σ F H _ _ E I (fun x v F1 H1 g I1 r n => by rw [RV.int_ r]; exact q_isi_int (k _ _ F1 H1 g I1 (.bl _) n)) ke hw
theorem e_isi_I_bool {w : Wp Int} (h : EOk c W Γ te w) : EOk c W Γ (tCB (rIsi c.K) (tCons te (tCons (tC (.ty "bool")) tNil))) (fun (N : Bool → Prop) E => w (fun _ => N false) E) := fun A σ F H Q N E I k ke hw =>
  h A σ F H _ _ E I (fun x v F1 H1 g I1 r n => by rw [RV.int_ r]; exact q_isi_ib (k _ _ F1 H1 g I1 (.bl _) n)) ke hw
theorem b_intB {K : PySem.W.Frag} : B1Ok K yInt (fun (b : Bool) (N : Int → Prop) _ => N (if b then 1 else 0)) := fun F H v1 x Q N E e r1 k n => by
  obtain rfl := RV.bl_ r1
  exact .inr ⟨x, rfl, k _ _ F H (.refl e) (.int _) n⟩
/-! ### list(range(..)) -/
theorem rgV_rng (a b : Int) : rgV a b = (rng a (b - a).toNat).map V.int := by unfold rgV rng; rw [List.map_map]; rfl
theorem r_lrange2 {wa wb : Wp Int} (ha : EOk c W Γ ta wa) (hb : EOk c W Γ tb wb) : MOk c W Γ (tLstRg (tRg2 ta tb)) (fun N E => wa (fun i => wb (fun j => RgOk i j ∧ N (rng i (j - i).toNat)) E) E) := fun A σ F H Q N E I k ke hw =>
  ha A σ F H _ _ E I (fun i v F1 H1 g I1 r n => hb A σ F1 H1 _ _ E I1 (fun j v2 F2 H2 g2 I2 r2 n2 => ⟨i, j, RV.int_ r, RV.int_ r2, n2.1, fun q nq => by
    obtain ⟨a, b, d, e⟩ := new_mu (xs := rng i (j - i).toNat) (vs := rgV i j) I (g.tr g2) I2 nq (by rw [rgV_rng]; exact rvs_of_ints)
    exact k _ _ F2 _ _ a b d e n2.2⟩) ke n) ke hw
theorem r_lrange1 {wb : Wp Int} (hb : EOk c W Γ tb wb) : MOk c W Γ (tLstRg (tRg1 tb)) (fun N E => wb (fun j => RgOk 0 j ∧ N (rng 0 j.toNat)) E) := fun A σ F H Q N E I k ke hw =>
  hb A σ F H _ _ E I (fun j v2 F2 H2 g2 I2 r2 n2 => ⟨j, RV.int_ r2, n2.1, fun q nq => by
    obtain ⟨a, b, d, e⟩ := new_mu (xs := rng 0 j.toNat) (vs := rgV 0 j) I g2 I2 nq (by rw [rgV_rng]; simp only [Int.sub_zero]; exact rvs_of_ints)
    exact k _ _ F2 _ _ a b d e n2.2⟩) ke hw
/-! ### constructors with keywords -/
theorem e_mkK {cl : Str} {ρ : Type} [Py ρ] {n m : Nat} {T T2 : TA} {ι κ : Type} {a1 : ι → List PV} {a2 : κ → List PV} {args : ι × κ → List PV} {w1 : Wp ι} {w2 : Wp κ} {wf : ι × κ → Wp ρ} (h1 : TOk c W Γ T a1 w1) (h2 : TOk c W Γ T2 a2 w2) (hn : ∀ x, (a1 x).length = n) (hm : ∀ x, (a2 x).length = m) (ha : ∀ x, args x = a1 x.1 ++ a2 x.2) :
    EOk c W Γ (tMkK (He.ga c.K cl) n m (spI c.K cl args wf) W T T2) (fun N E => w1 (fun x => w2 (fun y => wf (x, y) N E) E) E) := fun A σ F H Q N E I k ke hw =>
  h1 A σ F H _ _ E I (fun xs vs F0 H0 g0 I0 r0 n0 => h2 A σ F0 H0 _ _ E I0 (fun ys zs F1 H1 gy I1 ry n => by
    have g1 := g0.tr gy
    refine ⟨by rw [r0.length, hn], by rw [ry.length, hm], fun x dx nx ndx hne => ?_⟩
    have ga := G0.newM (o := .own x) I1.xt ndx
    have nx2 : upd H1 dx (.own x) x = none := by rw [upd_ne (Ne.symm hne)]; exact nx
    have gb := G0.newM (o := .ins (He.ga c.K cl) dx []) ga.fh nx2
    have g0' := ga.tr0 gb
    have I2 := I1.grow g0'
    refine ⟨F1, (xs, ys), N, E, x, dx, vs ++ zs, rfl, I2.xt, none_of I1.xt nx, upd_same, by rw [ha]; exact (r0.ext gy.ff).append ry, n, fun y F' H' g ⟨ns, ds, hy, dx', ws, e1, e2, e3, e4, e5⟩ n => ⟨rfl, ?_⟩, fun e kk d F' H' g ea he => ?_⟩
    · have gz : G0 F1 H1 F' H' := ⟨g.ff, g.fh, fun b o _ hb => g.hh b o (fun z => by subst z; rw [nx] at hb; cases hb) (g0'.hh b o (fun z => z) hb), fun b hb => g.th b (g0'.th b hb), fun b hb hf => g.nw b (g0'.th b hb) hf⟩
      have I3 := I1.grow gz
      have nF : F' x = none := g.nw x (by rw [upd_same]; exact nofun) (none_of I1.xt nx)
      have I4 := env_frz I3 nF (I1.fresh nx) (I1.noA nx) e3
      refine k y _ _ H' ⟨(g1.ff.trans gz.ff).trans (xt_frz nF), I4.g.fh, (g1.tr0 gz).hh, (g1.tr0 gz).th, fun b hb hf => ?_⟩ I4 ?_ n
      · have : b ≠ x := fun z => by subst z; exact hb (g1.old nx)
        rw [upd_ne this]; exact (g1.tr0 gz).nw b hb hf
      · rw [hy]; exact .obj upd_same e4 (e5.ext (xt_frz nF))
    · have gz : G0 F1 H1 F' H' := ⟨g.ff, g.fh, fun b o _ hb => g.hh b o (fun z => by subst z; rw [nx] at hb; cases hb) (g0'.hh b o (fun z => z) hb), fun b hb => g.th b (g0'.th b hb), fun b hb hf => g.nw b (g0'.th b hb) hf⟩
      exact ke e kk d F' H' (I1.grow gz) ea he) ke n0) ke hw
end
/-! ### the law's own def -/
theorem use_L {K : PySem.W.Frag} {H : Hp} {vs : List V} {N : List Str} {Q : VK} {E : XK} {t : TS} {Γ : List Slot} {w : WS Unit Unit Bool} (h : ∃ (a : Addr) (ns : List Int), vs = [.ref a] ∧ SqL K H a (ns.map V.int) ∧ ∀ H', Q (.bl true) H') (sa : SA Γ []) (hl : Γ.length + 1 ≤ N.length)
    (hs : ∀ F, SOk ⟨K, F, H, Nil, 0⟩ (fun c d _ H => E c d H) (.o scr :: Γ) t nE nE ⟨fun _ => [], fun y => pl y, []⟩ w) (vc : w (fun _ => False) (fun _ => False) (fun _ => False) (fun b => b = true) (fun _ => False)) :
    t { nx := fun _ H' => Q .non H', rt := Q } (L2.start N vs) H := by
  obtain ⟨a, ns, rfl, hs', hQ⟩ := h
  let F : Hp := fun b => if b = a then H b else none
  have e0 : Xt F H := fun b o q => by
    by_cases z : b = a
    · have : F b = H b := if_pos z
      rw [this] at q; exact q
    · have : F b = none := if_neg z
      rw [this] at q; cases q
  have hF : SqL K F a (ns.map V.int) := by
    have : F a = H a := if_pos rfl
    rcases hs' with h | h
    · refine .inl ?_
      rcases h with h | ⟨o, h⟩
      · exact .inl (this.trans h)
      · exact .inr ⟨o, this.trans h⟩
    · exact .inr h
  have I0 : Env ⟨K, F, H, Nil, 0⟩ (fun _ => Nil) (.o scr :: Γ) (L2.start N [.ref a]) F H := by
    refine ⟨Gw.refl e0, by simp [L2.start]; omega, fun i s h => ?_, fun i a h => h.elim, fun i j a h => h.elim⟩
    cases i with
    | zero => simp at h; subst h; exact ⟨.ref a, rfl, a, ns, rfl, hF⟩
    | succ i =>
      have q := sa.ok (m := N.length - 1) (H := H) (A := Nil) (RVs.nil (K := K) (F := F)) i s (by simpa using h)
      simpa [L2.start] using q
  exact hs F _ _ F H _ _ _ _ _ _ I0 (fun _ _ _ _ _ _ _ z => z.elim) (fun _ _ _ _ _ _ _ z => z.elim) (fun _ _ _ _ _ _ _ z => z.elim) (fun y v A' σ' F' H' B I hB r n => by
    subst n
    rw [RV.bl_ r]; exact hQ H') (fun _ _ _ _ _ _ _ _ _ z => z.elim) vc
end Vc

/-! the objects of the program as plain values. -/
namespace Vc
open Py (toP)
open PySem PySem.Spec PyProof.Rows L2 Rn
open PySem.W (Tup Datum)
structure WantsT where
  numbers : Tup Int
instance : Py WantsT := ⟨fun w => .obj "Wants" ["numbers"] [toP w.numbers]⟩
instance : Ob WantsT "Wants" ["numbers"] := ⟨fun x => ⟨_, rfl, rfl⟩⟩
theorem fl_Wants_numbers : Fl WantsT "numbers" (fun x : WantsT => x.numbers) := fun x => ⟨_, _, _, 0, rfl, rfl, by decide, rfl⟩
structure HouseT where
  wants : WantsT
  comings : Tup Int
  rest : Int
instance : Py HouseT := ⟨fun h => .obj "House" ["wants", "comings", "rest"] [toP h.wants, toP h.comings, toP h.rest]⟩
instance : Ob HouseT "House" ["wants", "comings", "rest"] := ⟨fun x => ⟨_, rfl, rfl⟩⟩
theorem fl_House_wants : Fl HouseT "wants" (fun x : HouseT => x.wants) := fun x => ⟨_, _, _, 0, rfl, rfl, by decide, rfl⟩
theorem fl_House_comings : Fl HouseT "comings" (fun x : HouseT => x.comings) := fun x => ⟨_, _, _, 1, rfl, rfl, by decide, rfl⟩
theorem fl_House_rest : Fl HouseT "rest" (fun x : HouseT => x.rest) := fun x => ⟨_, _, _, 2, rfl, rfl, by decide, rfl⟩
def args_House : (WantsT × List Int × Unit) × (Int × Unit) → List PV := fun p => [toP p.1.1, toP p.1.2.1, toP p.2.1]
end Vc

/-! lemmas for conditions. -/
namespace Vc
open Py (toP)
open PySem PySem.Spec PyProof.Rows L2 Rn
open PySem.W (Tup Datum)
theorem atI_nn {α : Type} {xs : List α} {i : Int} (h : 0 ≤ i) : atI xs i = xs[i.toNat]? := by
  unfold atI ixN
  rw [if_pos h]
  by_cases q : i < xs.length
  · rw [if_pos q]; rfl
  · rw [if_neg q]
    rw [List.getElem?_eq_none (by omega)]; rfl
theorem ixN_nn {n : Nat} {i : Int} (h : 0 ≤ i) (q : i < n) : ixN n i = some i.toNat := by unfold ixN; rw [if_pos h, if_pos q]
theorem rep1 {α : Type} (x : α) (k : Nat) : (List.replicate k [x]).flatten = List.replicate k x := by
  induction k with
  | zero => rfl
  | succ k ih => rw [List.replicate_succ, List.flatten_cons, ih, List.replicate_succ]; rfl
theorem sl_ok {n : Nat} (h : n ≤ 100000) : n ≤ sizeLine := by rw [sizeLine_eq]; omega
theorem sl_lt {n : Nat} (h : n ≤ 100000) : n < sizeLine := by rw [sizeLine_eq]; omega

theorem wlc_fm {α β : Type} {E : Err → Prop} (g : α → Option β) : ∀ {xs : List α} {f : α → Wp (Option β)} {N : List β → Prop}, (∀ x ∈ xs, ∀ N : Option β → Prop, N (g x) → f x N E) → N (xs.filterMap g) → wlc xs f N E
  | [], f, N, _, h => h
  | x :: xs, f, N, hf, h => by
    refine hf x (by simp) _ (wlc_fm g (fun y hy => hf y (by simp [hy])) ?_)
    cases e : g x with
    | none => simpa [List.filterMap_cons, e] using h
    | some y => simpa [List.filterMap_cons, e] using h
theorem wlc_map {α β : Type} {E : Err → Prop} (g : α → β) {xs : List α} {f : α → Wp (Option β)} {N : List β → Prop} (hf : ∀ x ∈ xs, ∀ N : Option β → Prop, N (some (g x)) → f x N E) (h : N (xs.map g)) : wlc xs f N E :=
  wlc_fm (fun x => some (g x)) hf (by rw [List.filterMap_eq_map']; exact h)
theorem wlc_filter {α β : Type} {E : Err → Prop} (c : α → Bool) (g : α → β) {xs : List α} {f : α → Wp (Option β)} {N : List β → Prop} (hf : ∀ x ∈ xs, ∀ N : Option β → Prop, (c x = true → N (some (g x))) → (c x = false → N none) → f x N E) (h : N ((xs.filter c).map g)) : wlc xs f N E := by
  refine wlc_fm (fun x => if c x then some (g x) else none) (fun x hx N hN => hf x hx N (fun e => by simpa [e] using hN) fun e => by simpa [e] using hN) ?_
  have : xs.filterMap (fun x => if c x then some (g x) else none) = (xs.filter c).map g := by
    clear hf h
    induction xs with
    | nil => rfl
    | cons x xs ih => rw [List.filterMap_cons]; cases e : c x <;> simp [e, ih]
  rw [this]; exact h
theorem wfor_inv {β S R : Type} {Rt : R → Prop} {E : Err → Prop} {N : S → Prop} : ∀ {xs : List β} {s : S} {b : β → S → WS S S R} (I : Nat → S → Prop), I 0 s →
    (∀ (i : Nat) (hi : i < xs.length) (s : S) (N' : S → Prop), I i s → (∀ s', I (i + 1) s' → N' s') → b xs[i] s N' N N' Rt E) → (∀ s, I xs.length s → N s) → wfor xs s b N Rt E
  | [], s, b, I, h0, _, hd => hd s h0
  | x :: xs, s, b, I, h0, hs, hd => by
    refine hs 0 (by simp) s _ h0 fun s' h' => ?_
    exact wfor_inv (fun i s => I (i + 1) s) h' (fun i hi s N' h k => hs (i + 1) (by simpa using hi) s N' h k) hd
theorem wfor_fold {β S R : Type} {Rt : R → Prop} {E : Err → Prop} {N : S → Prop} (f : S → β → S) : ∀ {xs : List β} {s : S} {b : β → S → WS S S R}, (∀ x ∈ xs, ∀ s (N' C : S → Prop), N' (f s x) → b x s N' N C Rt E) → N (xs.foldl f s) → wfor xs s b N Rt E
  | [], s, b, _, h => h
  | x :: xs, s, b, hb, h => hb x (by simp) s _ _ (wfor_fold f (fun y hy => hb y (by simp [hy])) h)
theorem getD_at {α : Type} {xs : List α} {k : Nat} (h : k < xs.length) (d : α) : xs[k]? = some (xs.getD k d) := by simp [List.getD, h]
theorem sum_drop_succ (l : List Int) (k : Nat) (h : k < l.length) : (l.drop k).sum = l.getD k 0 + (l.drop (k + 1)).sum := by
  rw [List.drop_eq_getElem_cons h, List.sum_cons]
  simp [List.getD, h]
theorem sum_app1 (l : List Int) (x : Int) : (l ++ [x]).sum = l.sum + x := by simp
theorem rng_succ (lo : Int) (n : Nat) : rng lo (n + 1) = lo :: rng (lo + 1) n := by
  apply List.ext_getElem?
  intro i
  cases i with
  | zero => simp [rng]
  | succ i =>
    rw [List.getElem?_cons_succ]
    by_cases h : i < n
    · rw [rng_at (by omega), rng_at h]; congr 1; omega
    · rw [List.getElem?_eq_none (by rw [rng_length]; omega), List.getElem?_eq_none (by rw [rng_length]; omega)]
theorem rng_zero (lo : Int) : rng lo 0 = [] := rfl
theorem wfor_rng {S R : Type} {Rt : R → Prop} {E : Err → Prop} {N : S → Prop} {b : Int → S → WS S S R} (I : Nat → Nat → S → Prop) (hs : ∀ m t s (N' : S → Prop), I (m + 1) t s → (∀ s', I m (t + 1) s' → N' s') → b (t : Int) s N' N N' Rt E) (hd : ∀ t s, I 0 t s → N s) :
    ∀ (m t : Nat) (s : S), I m t s → wfor (rng (t : Int) m) s b N Rt E
  | 0, t, s, h => hd t s h
  | m + 1, t, s, h => by
    rw [rng_succ]
    exact hs m t s _ h fun s' h' => wfor_rng I hs hd m (t + 1) s' h'
end Vc

/-! more lemmas for conditions. -/
namespace Vc
open Py (toP)
open PySem PySem.Spec PyProof.Rows L2 Rn
open PySem.W (Tup Datum)
theorem wlc_all {α β : Type} {E : Err → Prop} (P : α → β → Prop) : ∀ {xs : List α} {f : α → Wp (Option β)} {N : List β → Prop}, (∀ x ∈ xs, ∀ N : Option β → Prop, (∀ y, P x y → N (some y)) → f x N E) →
    (∀ ys : List β, ys.length = xs.length → (∀ (i : Nat) (x : α) (y : β), xs[i]? = some x → ys[i]? = some y → P x y) → N ys) → wlc xs f N E
  | [], f, N, _, h => h [] rfl (fun i x y q => by simp at q)
  | x :: xs, f, N, hf, h => by
    refine hf x (by simp) _ fun y hy => wlc_all P (fun z hz => hf z (by simp [hz])) fun ys hl hp => ?_
    refine h _ (by simp [hl]) fun i a b ha hb => ?_
    cases i with
    | zero => simp at ha hb; subst ha; subst hb; exact hy
    | succ i => exact hp i a b (by simpa using ha) (by simpa using hb)
theorem wlc_each {α β : Type} {E : Err → Prop} (P : β → Prop) {xs : List α} {f : α → Wp (Option β)} {N : List β → Prop} (hf : ∀ x ∈ xs, ∀ N : Option β → Prop, (∀ y, P y → N (some y)) → f x N E)
    (h : ∀ ys, ys.length = xs.length → (∀ y ∈ ys, P y) → N ys) : wlc xs f N E :=
  wlc_all (fun _ y => P y) hf fun ys hl hp => h ys hl fun y hy => by
    obtain ⟨i, hi, e⟩ := List.mem_iff_getElem.mp hy
    exact hp i (xs[i]'(by omega)) y (List.getElem?_eq_getElem _) (by rw [List.getElem?_eq_getElem hi, e])
theorem cutL_mid {α : Type} {xs : List α} {a b : Int} (ha : 0 ≤ a) (hb : 0 ≤ b) : cutL xs (some a) (some b) = (xs.take b.toNat).drop a.toNat := by
  unfold cutL
  rw [sIx_pos _ _ ha, sIx_pos _ _ hb, List.drop_take]
  by_cases h : a.toNat ≤ xs.length
  · rw [Nat.min_eq_left h]
    by_cases h' : b.toNat ≤ xs.length
    · rw [Nat.min_eq_left h']
    · rw [Nat.min_eq_right (by omega), List.take_of_length_le (by simp), List.take_of_length_le (by simp; omega)]
  · rw [Nat.min_eq_right (Nat.le_of_lt (Nat.lt_of_not_le h)), List.drop_eq_nil_of_le (Nat.le_refl _), List.drop_eq_nil_of_le (Nat.le_of_lt (Nat.lt_of_not_le h))]
    simp
theorem rng_get {lo : Int} {n i : Nat} (h : i < (rng lo n).length) : (rng lo n)[i] = lo + i := by
  have := rng_at (lo := lo) (n := n) (i := i) (by rw [rng_length] at h; exact h)
  rw [List.getElem?_eq_getElem h] at this
  exact Option.some.inj this
theorem toNat_coe (n : Nat) : ((n : Int)).toNat = n := by omega
end Vc

/-! rules of values of any kind, of lists and tuples of unlike things. -/
namespace Vc
open Py (toP)
open PySem PySem.Spec PyProof.Rows L2 Rn
open PySem.W (Tup Datum)
/-! ### lists, tuples of unlike things -/
class PyL (α : Type) where
  toPs : α → List PV
instance : PyL Unit := ⟨fun _ => []⟩
instance {α β : Type} [Py α] [PyL β] : PyL (α × β) := ⟨fun x => toP x.1 :: PyL.toPs x.2⟩
structure HL (α : Type) where
  v : α
structure HT (α : Type) where
  v : α
instance {α : Type} [PyL α] : Py (HL α) := ⟨fun x => .lst (PyL.toPs x.v)⟩
instance {α : Type} [PyL α] : Py (HT α) := ⟨fun x => .tup (PyL.toPs x.v)⟩
/-! ### any value -/
def PV.isNon : PV → Bool | .non => true | _ => false
def PV.isB (b : Bool) : PV → Bool | .bl c => decide (c = b) | _ => false
def PV.ty : PV → Option String | .non => some "NoneType" | .bl _ => some "bool" | .int _ => some "int" | .str _ => some "str" | .lst _ => some "list" | .tup _ => some "tuple" | .obj _ _ _ => none
def PV.len : PV → Option Nat | .lst l => some l.length | .tup l => some l.length | _ => none
def PV.ix : PV → Int → Option PV | .lst l, i => atI l i | .tup l, i => atI l i | _, _ => none
def subTy (a b : String) : Bool := a == b || (a == "bool" && b == "int")
theorem sqT_ty {K : PySem.W.Frag} {H : Hp} {a : Addr} {vs : List V} (h : SqT K H a vs) : TyX K H (.ref a) (.type "tuple") := by
  rcases h with (h | ⟨o, h⟩) | ⟨o, its, n, h1, h2, _⟩
  · exact .base (.tup h)
  · exact .fTuple h
  · exact .kTuple h1 h2
theorem rv_ty {K : PySem.W.Frag} {F H : Hp} {v : V} {d : PV} {t : String} (e : Xt F H) (r : RV K F v d) (h : d.ty = some t) : TyX K H v (.type t) := by
  cases r with
  | non => cases h; exact .base .non
  | bl b => cases h; exact .base (.bl b)
  | int b => cases h; exact .base (.int b)
  | str b => cases h; exact .base (.str b)
  | lst s t => cases h; exact .base (.lst (e _ _ s))
  | tup s t => cases h; exact sqT_ty (sqT_ext e s)
  | obj => cases h
section
variable {c : Ct} {W : WX} {A : Nat → Addr → Prop} {Γ Δ : List Slot} {σ : L2.St} {F H F' H' : Hp} {i : Nat} {v : V} {α β γ δ ι : Type} [Py α] [Py β] [Py γ] [Py δ] {x : α} {te ta tb tc : TE} {wa : Wp α} {wb : Wp β} {wc : Wp γ} {T : TA} {p : Addr}
theorem e_hl [PyL ι] {args : ι → List PV} {w : Wp ι} (h : TOk c W Γ T args w) (ha : ∀ x, args x = PyL.toPs x) (hl : ∀ x : ι, (PyL.toPs x).length ≤ 100) : EOk c W Γ (tLst T) (fun (N : HL ι → Prop) E => w (fun xs => N ⟨xs⟩) E) := fun A σ F H Q N E I k ke hw =>
  h A σ F H _ _ E I (fun xs vs F1 H1 g I1 r n => ⟨by rw [r.length, ha]; exact Nat.le_trans (hl xs) (by rw [sizeLine_eq]; omega), fun p np => by
    have gn := G0.newF (o := .lst vs) I1.xt np
    exact k ⟨xs⟩ _ _ _ (g.tr0 gn) (I1.grow gn) (.lst upd_same (by rw [← ha]; exact r.ext gn.ff)) n⟩) ke hw
theorem e_ht [PyL ι] {args : ι → List PV} {w : Wp ι} (h : TOk c W Γ T args w) (ha : ∀ x, args x = PyL.toPs x) (hl : ∀ x : ι, (PyL.toPs x).length ≤ 100) : EOk c W Γ (tTup T) (fun (N : HT ι → Prop) E => w (fun xs => N ⟨xs⟩) E) := fun A σ F H Q N E I k ke hw =>
  h A σ F H _ _ E I (fun xs vs F1 H1 g I1 r n => ⟨by rw [r.length, ha]; exact Nat.le_trans (hl xs) (by rw [sizeLine_eq]; omega), fun p np => by
    have gn := G0.newF (o := .tup vs) I1.xt np
    exact k ⟨xs⟩ _ _ _ (g.tr0 gn) (I1.grow gn) (.tup (.inl (.inl upd_same)) (by rw [← ha]; exact r.ext gn.ff)) n⟩) ke hw
/-- told as what it is -/
theorem e_narrow {w : Wp PV} (h : EOk c W Γ te w) : EOk c W Γ te (fun (N : α → Prop) E => w (fun d => ∃ x : α, d = toP x ∧ N x) E) := fun A σ F H Q N E I k ke hw =>
  h A σ F H _ _ E I (fun d v F1 H1 g I1 r ⟨x, e, n⟩ => k x v F1 H1 g I1 (by rw [← e]; exact r) n) ke hw
theorem e_isiD (t : String) {w : Wp PV} (h : EOk c W Γ te w) (hk : ∀ a ∈ ["NoneType", "bool", "int", "str", "list", "tuple"], kitB a t = some (subTy a t) := by decide +kernel) :
    EOk c W Γ (tCB (rIsi c.K) (tCons te (tCons (tC (.ty t)) tNil))) (fun (N : Bool → Prop) E => w (fun d => ∃ a, d.ty = some a ∧ N (subTy a t)) E) := fun A σ F H Q N E I k ke hw =>
  h A σ F H _ _ E I (fun d v F1 H1 g I1 r ⟨a, e, n⟩ => by
    have hm : a ∈ ["NoneType", "bool", "int", "str", "list", "tuple"] := by
      revert e
      cases d with
      | obj => exact nofun
      | _ => exact fun e => by cases e; simp
    exact ⟨_, _, _, _, _, rfl, .ty _, rv_ty I1.xt r e, kit_ty (hk a hm), k _ _ F1 H1 g I1 (.bl _) n⟩) ke hw
/-- isinstance of a value of a known kind -/
theorem e_isiC (a t : String) {w : Wp α} (hty : ∀ x : α, (toP x).ty = some a) (h : EOk c W Γ te w) (hk : ∀ a ∈ ["NoneType", "bool", "int", "str", "list", "tuple"], kitB a t = some (subTy a t) := by decide +kernel) :
    EOk c W Γ (tCB (rIsi c.K) (tCons te (tCons (tC (.ty t)) tNil))) (fun (N : Bool → Prop) E => w (fun _ => N (subTy a t)) E) := fun A σ F H Q N E I k ke hw =>
  e_isiD t (e_as (toP : α → PV) (fun _ => rfl) h) hk A σ F H Q N E I k ke (by
    have e : (fun x : α => ∃ b, (toP x).ty = some b ∧ N (subTy b t)) = fun _ => N (subTy a t) := by
      funext x
      exact propext ⟨fun ⟨b, h1, h2⟩ => by rw [hty] at h1; cases h1; exact h2, fun h => ⟨a, hty x, h⟩⟩
    show w (fun x : α => ∃ b, (toP x).ty = some b ∧ N (subTy b t)) E
    rw [e]; exact hw)
/-! ### a pool that is made for the call -/
theorem Env.gone (I : Env c A Γ σ F H) (hA : ∀ j, ¬ A j p) (h0 : c.H0 p = none) (g : Gw (· = p) F H F' H') : Env c A Γ σ F' H' := by
  refine ⟨I.g.trans g fun q hq => .inr (by rw [hq]; exact h0), I.len, fun j s h => (I.sl j s h).grow g.ff fun a ha => ?_, fun j a h => ⟨g.nw a (I.own j a h).2.1 (I.own j a h).1, g.th a (I.own j a h).2.1, (I.own j a h).2.2⟩, I.dj⟩
  cases z : H a with
  | none => exact absurd z (I.own j a ha).2.1
  | some o => exact g.hh a o (fun q => hA j (by rw [← q]; exact ha)) z
theorem e_callP0 {ρ : Type} [Py ρ] {args : ι → List PV} {wp : Wp Addr} {wT : Wp ι} {wf : ι → Wp ρ} (hp : ROk c W Γ te (fun p : Addr => pool p) wp) (h : TOk c W Γ T args wT) : EOk c W Γ (tG (spP c.K args wf) W (tCons te T)) (fun N E => wp (fun _ => wT (fun x => wf x N fun _ => False) E) E) := fun A σ F H Q N E I k ke hw =>
  hp A σ F H _ _ E I (fun p v F1 H1 B g1 I1 hB ⟨h1, h2, hP⟩ n => h A σ F1 H1 _ _ E I1 (fun xs vs F2 H2 g2 I2 r2 n2 => by
    subst h1
    obtain ⟨b1, b2, b3⟩ := hB p ((h2 p).mpr rfl)
    have nA := I.noA b3
    have hP2 : PoolAt H2 p := by
      obtain ⟨a, b, d, e, z⟩ := hP
      exact ⟨a, b, d, g2.hh p _ (fun ⟨j, R, _, _, q⟩ => nA j q) e, z⟩
    exact ⟨F2, xs, N, p, vs, rfl, I2.xt, g2.nw p b2 b1, hP2, r2, n2, fun y v F' H' g hP' r n => k y v F' H' ((g1.tr g2).trans g fun q hq => .inr (by rw [hq]; exact b3)) (I2.gone nA (I.fresh b3) g) r n⟩) ke n) ke hw
theorem r_callP0 {ρ : Type} {R : ρ → Res} {args : ι → List PV} {wp : Wp Addr} {wT : Wp ι} {wf : ι → Wp ρ} (hp : ROk c W Γ te (fun p : Addr => pool p) wp) (h : TOk c W Γ T args wT) : ROk c W Γ (tG (spPR c.K args R wf) W (tCons te T)) R (fun N E => wp (fun _ => wT (fun x => wf x N fun _ => False) E) E) := fun A σ F H Q N E I k ke hw =>
  hp A σ F H _ _ E I (fun p v F1 H1 B g1 I1 hB ⟨h1, h2, hP⟩ n => h A σ F1 H1 _ _ E I1 (fun xs vs F2 H2 g2 I2 r2 n2 => by
    subst h1
    obtain ⟨b1, b2, b3⟩ := hB p ((h2 p).mpr rfl)
    have nA := I.noA b3
    have hP2 : PoolAt H2 p := by
      obtain ⟨a, b, d, e, z⟩ := hP
      exact ⟨a, b, d, g2.hh p _ (fun ⟨j, R, _, _, q⟩ => nA j q) e, z⟩
    exact ⟨F2, xs, N, p, vs, rfl, I2.xt, g2.nw p b2 b1, hP2, r2, n2, fun y v F' H' B' g hP' hB' r n => k y v F' H' B' ((g1.tr g2).trans g fun q hq => .inr (by rw [hq]; exact b3)) (I2.gone nA (I.fresh b3) g) (fun a ha => ⟨(hB' a ha).1, (hB' a ha).2.1, (g1.tr g2).old (hB' a ha).2.2⟩) r n⟩) ke n) ke hw
end
section
variable {K : PySem.W.Frag} {α β γ : Type} [Py α] [Py β] [Py γ]
theorem o_isND {r : R2} (hr : r = fun x y H Q => y = .non ∧ Q (.bl (decide (x = .non))) H) : R2Ok K r (fun (d : PV) (_ : Unit) (N : Bool → Prop) _ => N d.isNon) := fun F H v1 v2 x y Q N E e r1 r2 k n => by
  subst hr
  obtain rfl := RV.non_ r2
  refine ⟨rfl, k x.isNon _ F H (.refl e) ?_ n⟩
  change RV K F v1 x at r1
  cases r1 <;> exact .bl _
theorem o_notND {r : R2} (hr : r = fun x y H Q => y = .non ∧ Q (.bl (!decide (x = .non))) H) : R2Ok K r (fun (d : PV) (_ : Unit) (N : Bool → Prop) _ => N (!d.isNon)) := fun F H v1 v2 x y Q N E e r1 r2 k n => by
  subst hr
  obtain rfl := RV.non_ r2
  refine ⟨rfl, k (!x.isNon) _ F H (.refl e) ?_ n⟩
  change RV K F v1 x at r1
  cases r1 <;> exact .bl _
def rIsBD : R2 := fun x y H Q => ∃ b : Bool, y = .bl b ∧ Q (.bl (decide (x = .bl b))) H
theorem op_isBD {X : Cx} : OpR X (compareOp .Is) rIsBD := by
  intro pins s σ H x y v u Q I rx ry h
  obtain ⟨b, rfl, q⟩ := h
  cases (show u = Value.bool b from ry)
  have go : ∀ {v : Value}, (v ≠ .bool b) → plainIs v (.bool b) = true → decide (x = V.bl b) = false → RelV x v → wpAny (model X.prog X.w) X.A (compareOp .Is v (.bool b)) (EP X pins σ Q) X.xe s := fun {v} h1 h2 h3 _ => wpAny_is_other h2 h1 ⟨.bl false, H, I, rfl, by rw [h3] at q; exact q⟩
  cases x with
  | bl a =>
    cases (show v = Value.bool a from rx)
    by_cases e : a = b
    · subst e
      exact wpAny_is_self rfl ⟨.bl true, H, I, rfl, by simpa using q⟩
    · exact go (fun z => e (Value.bool.inj z)) rfl (by simp [e]) rx
  | ref a => cases rx; exact go nofun rfl rfl rfl
  | non => cases rx; exact go nofun rfl rfl rfl
  | int i => obtain ⟨t, rfl⟩ := rx; exact go nofun rfl rfl ⟨t, rfl⟩
  | str x => obtain ⟨t, rfl⟩ := rx; exact go nofun rfl rfl ⟨t, rfl⟩
  | byt x => obtain ⟨t, rfl⟩ := rx; exact go nofun rfl rfl ⟨t, rfl⟩
  | flt x => obtain ⟨t, rfl⟩ := rx; exact go nofun rfl rfl ⟨t, rfl⟩
  | ty n => cases rx; exact go nofun rfl rfl rfl
theorem o_isBD : R2Ok K rIsBD (fun (d : PV) (b : Bool) (N : Bool → Prop) _ => N (d.isB b)) := fun F H v1 v2 x y Q N E e r1 r2 k n => by
  obtain rfl := RV.bl_ r2
  refine ⟨y, rfl, k (x.isB y) _ F H (.refl e) ?_ n⟩
  change RV K F v1 x at r1
  cases r1 with
  | bl b => 
    have : decide (V.bl b = V.bl y) = PV.isB y (.bl b) := by simp [PV.isB]
    rw [this]; exact .bl _
  | _ => exact .bl _
theorem b_lenD : B1Ok K (yLen K) (fun (d : PV) (N : Int → Prop) _ => ∃ n, d.len = some n ∧ N (n : Nat)) := fun F H v1 x Q N E e r1 k n => by
  obtain ⟨m, hm, n⟩ := n
  change RV K F v1 x at r1
  cases r1 with
  | @lst a vs ds s t =>
    cases hm
    exact ⟨_, vs.length, rfl, .inl ⟨vs, .inl (.inl (e _ _ s)), rfl⟩, by rw [t.length]; exact k _ _ F H (.refl e) (.int _) n⟩
  | @tup a vs ds s t =>
    cases hm
    exact ⟨_, vs.length, rfl, .inr ⟨vs, sqT_ext e s, rfl⟩, by rw [t.length]; exact k _ _ F H (.refl e) (.int _) n⟩
  | _ => cases hm
theorem atI_rvs {ds : List PV} {vs : List V} {F : Hp} (h : RVs K F vs ds) {i : Int} {x : PV} (hx : atI ds i = some x) : ∃ v, atI vs i = some v ∧ RV K F v x := by
  unfold atI at hx ⊢
  rw [h.length]
  cases q : ixN ds.length i with
  | none => rw [q] at hx; cases hx
  | some j =>
    rw [q] at hx
    exact h.at_ (by simpa using hx)
theorem o_ixD : R2Ok K (rIx K) (fun (d : PV) (i : Int) (N : PV → Prop) _ => ∃ x, d.ix i = some x ∧ N x) := fun F H v1 v2 d y Q N E e r1 r2 k n => by
  obtain rfl := RV.int_ r2
  obtain ⟨x, hx, n⟩ := n
  change RV K F v1 d at r1
  cases r1 with
  | @lst a vs ds s t =>
    obtain ⟨v, hv, r⟩ := atI_rvs t hx
    exact zIx_lst (.inl (.inl (e _ _ s))) hv (k x v F H (.refl e) r n)
  | @tup a vs ds s t =>
    obtain ⟨v, hv, r⟩ := atI_rvs t hx
    exact zIx_tup (sqT_ext e s) hv (k x v F H (.refl e) r n)
  | _ => cases hx
/-- a place of a list of unlike things -/
theorem o_ixH {ι : Type} [PyL ι] (j : Nat) (g : ι → β) (hg : ∀ x, (PyL.toPs x)[j]? = some (toP (g x))) : R2Ok K (rIx K) (fun (z : HL ι) (i : Int) (N : β → Prop) _ => i = j ∧ N (g z.v)) := fun F H v1 v2 z y Q N E e r1 r2 k n => by
  obtain ⟨a, vs, rfl, h1, h2⟩ := RV.lst_ r1
  obtain rfl := RV.int_ r2
  obtain ⟨rfl, n⟩ := n
  have q : atI (PyL.toPs z.v) (j : Int) = some (toP (g z.v)) := by rw [atI_nn (by omega)]; exact hg z.v
  obtain ⟨v, hv, r⟩ := atI_rvs h2 q
  exact zIx_lst (.inl (.inl (e _ _ h1))) hv (k _ v F H (.refl e) r n)
theorem o_ixHT {ι : Type} [PyL ι] (j : Nat) (g : ι → β) (hg : ∀ x, (PyL.toPs x)[j]? = some (toP (g x))) : R2Ok K (rIx K) (fun (z : HT ι) (i : Int) (N : β → Prop) _ => i = j ∧ N (g z.v)) := fun F H v1 v2 z y Q N E e r1 r2 k n => by
  obtain ⟨a, vs, rfl, h1, h2⟩ := RV.tup_ r1
  obtain rfl := RV.int_ r2
  obtain ⟨rfl, n⟩ := n
  have q : atI (PyL.toPs z.v) (j : Int) = some (toP (g z.v)) := by rw [atI_nn (by omega)]; exact hg z.v
  obtain ⟨v, hv, r⟩ := atI_rvs h2 q
  exact zIx_tup (sqT_ext e h1) hv (k _ v F H (.refl e) r n)
/-- two values told equal: whole numbers or texts -/
theorem o_eqD : R2Ok K (rEqY K) (fun (x y : PV) (N : Bool → Prop) _ => (∃ i j, x = .int i ∧ y = .int j ∧ N (decide (i = j))) ∨ ∃ i j, x = .str i ∧ y = .str j ∧ N (decide (i = j))) := fun F H v1 v2 x y Q N E e r1 r2 k n => by
  rcases n with ⟨i, j, rfl, rfl, n⟩ | ⟨i, j, rfl, rfl, n⟩
  · exact o_eq (α := Int) (by decide) F H v1 v2 i j Q N E e r1 r2 k n
  · exact o_eq (α := Str) (by decide) F H v1 v2 i j Q N E e r1 r2 k n
end
end Vc
namespace Vc
open Py (toP)
/-- plain data, at most so deep -/
def PV.okN : Nat → PV → Prop
  | 0, _ => False
  | n + 1, .lst l => l.length ≤ 1000000 ∧ ∀ d ∈ l, d.okN n
  | n + 1, .tup l => l.length ≤ 1000000 ∧ ∀ d ∈ l, d.okN n
  | _ + 1, .obj _ _ _ => False
  | _ + 1, _ => True
end Vc

/-! try, caught errors. -/
namespace Vc
open Py (toP)
open PySem PySem.Spec PyProof.Rows L2 Rn
open PySem.W (Tup Datum)
theorem ErrAt.ext {K : PySem.W.Frag} {F F' : Hp} {e : Err} {k : Value} {d : Option Addr} (h : ErrAt K F e k d) (x : Xt F F') : ErrAt K F' e k d := by
  obtain ⟨h1, dx, vs, h2, h3, h4, h5⟩ := h
  exact ⟨h1, dx, vs, h2, x _ _ h3, h4, h5.ext x⟩
/-- the error that a suite holds -/
def excR (a : Addr) (k : Value) (d : Option Addr) (e : Err) : Res where
  flux := false
  R := fun K F H A v => v = .ref a ∧ ErrAt K F e k d
  ext := fun h x => ⟨h.1, h.2.ext x⟩
  loc := fun h _ => h
  flx := fun h => nomatch h
def Err.get (e : Err) (f : Str) : Option PV := (e.ns.zip e.as).lookup f
theorem lookup_rvs {K : PySem.W.Frag} {F : Hp} {f : Str} {d : PV} : ∀ {ns : List Str} {vs : List V} {ds : List PV}, RVs K F vs ds → (ns.zip ds).lookup f = some d → ∃ v, (ns.zip vs).lookup f = some v ∧ RV K F v d
  | [], _, _, _, h => by simp at h
  | n :: ns, _, _, .nil, h => by simp at h
  | n :: ns, _, _, .cons (v := v) s t, h => by
    rw [List.zip_cons_cons, List.lookup_cons] at h
    cases q : f == n with
    | true => rw [q] at h; cases h; exact ⟨v, by rw [List.zip_cons_cons, List.lookup_cons, q], s⟩
    | false =>
      rw [q] at h
      obtain ⟨u, hu, r⟩ := lookup_rvs t h
      exact ⟨u, by rw [List.zip_cons_cons, List.lookup_cons, q]; exact hu, r⟩
def tTry (K : PySem.W.Frag) (W : WX) (tb : WX → TS) (l : List Cl) : TS := fun D σ H => tb (wManyN K W D l) D σ H
theorem kTry {X : Cx} (K : PySem.W.Frag) {body : List Stmt} {h₀ : ExceptHandler} {hds : List ExceptHandler} {l : List Cl} {pos : Pos} {tb : WX → TS} {Wout : WX} (hs : X.stack = X.env :: X.outer) (hf : X.env.frame = some X.env.locals) (tk : Takes X Wout)
    (hb : ∀ (W : WX) (pn : List (Addr × Obj)) (xe : Value → Shared → Prop), Takes (X.tr pn xe) W → PassesOwn (model X.prog X.w) X.A X.env xe → PSs (X.tr pn xe) body (tb W))
    (hh : HdsOkN X (h₀ :: hds) l) (hK : X.K = K := by rfl) : PS X (.Try body (h₀ :: hds) [] [] pos) (tTry K Wout tb l) := by subst hK; exact ps_try_manyN hs hf tk hb hh
/-! ### isinstance of the error -/
def rIsX2 (K : PySem.W.Frag) (D a : Addr) (k : Value) (d : Option Addr) : List V → Hp → VK → Prop := fun xs H Q => k = .ref D ∧ rIsX K D a d xs H Q
theorem call_isX2 {X : Cx} (K : PySem.W.Frag) {a D : Addr} {k : Value} {d : Option Addr} {oe : Obj} {pn : List (Addr × Obj)} (C : ExcC K D) (hz : Zc k d oe) (hf : ∃ vs, oe.data = .fields vs) (hK : X.K = K := by rfl) : CallR (X.suite a ((a, oe) :: pn)) (.builtin "isinstance") (rIsX2 K D a k d) := by
  subst hK
  intro pins s σ H xs us Q I r h
  obtain ⟨e, h⟩ := h
  subst e
  exact call_isX C hz hf pins s σ H xs us Q I r h
theorem kXf {X : Cx} (K : PySem.W.Frag) {a C : Addr} {oe : Obj} {cls : Value} {d : Option Addr} {pn : List (Addr × Obj)} {e : Expr} {te : TE} {pos : Pos} {n : Str} (T : XfC K C) (hno : PySem.W.findIn K (.ref C) n = some none)
    (hz : Zc cls d oe) (hf : ∃ vs, oe.data = .fields vs) (he : PE (X.suite a ((a, oe) :: pn)) e te) (hK : X.K = K := by rfl) (hb : attributeBase e n X.env (eval e X.env) = eval e X.env := by rfl) :
    PE (X.suite a ((a, oe) :: pn)) (.Attribute e n pos) (tXf a cls d C n te) := by subst hK; exact pe_xf T hno hz hf he hb
def xfL (x f : Str) : Look1 := fun K => xfB K (He.ga K x) && decide (PySem.W.findIn K (.ref (He.ga K x)) f = some none)
theorem xfL_ok {K : PySem.W.Frag} {x f : Str} (h : xfL x f K = true) : XfC K (He.ga K x) ∧ PySem.W.findIn K (.ref (He.ga K x)) f = some none := by
  obtain ⟨h1, h2⟩ := Bool.and_eq_true_iff.mp h
  exact ⟨xfB_ok h1, of_decide_eq_true h2⟩
def exmL (x y : Str) (b : Bool) : Look1 := fun K => decide (PySem.W.exmOne K (.ref (He.ga K x)) (.ref (He.ga K y)) = some b)
theorem exmL_ok {K : PySem.W.Frag} {x y : Str} {b : Bool} (h : exmL x y b K = true) : PySem.W.exmOne K (.ref (He.ga K x)) (.ref (He.ga K y)) = some b := of_decide_eq_true h
def exmTL (x : Str) (y : String) (b : Bool) : Look1 := fun K => decide (PySem.W.exmOne K (.ref (He.ga K x)) (.type y) = some b)
theorem exmTL_ok {K : PySem.W.Frag} {x : Str} {y : String} {b : Bool} (h : exmTL x y b K = true) : PySem.W.exmOne K (.ref (He.ga K x)) (.type y) = some b := of_decide_eq_true h
def xcL (x : Str) : Look1 := fun K =>
  decide (PySem.W.findIn K (.ref (He.ga K x)) "__getattribute__" = some (some (.builtin "BaseException.__getattribute__"))) && (decide (PySem.W.findIn K (.ref (He.ga K x)) "__getattr__" = some none) &&
  (decide (PySem.W.subIn K (.ref (He.ga K x)) (.type "BaseException") = some true) && (PySem.W.hasDictIn K (He.ga K x) && (decide (PySem.W.findIn K (.ref (He.ga K x)) "__class__" = some (some (.builtin "object.__class__"))) &&
  (decide (PySem.W.specialIn K (.builtin "object.__class__") "__get__" = some (some (.builtin "getset_descriptor.__get__"))) && (decide (PySem.W.takesIn K (.builtin "object.__class__") = some true) && decide (PySem.W.mroIn K (He.ga K x) (.type "object") = some true)))))))
theorem xcL_ok {K : PySem.W.Frag} {x : Str} (h : xcL x K = true) : ExcC K (He.ga K x) := by
  obtain ⟨h1, h⟩ := Bool.and_eq_true_iff.mp h
  obtain ⟨h2, h⟩ := Bool.and_eq_true_iff.mp h
  obtain ⟨h3, h⟩ := Bool.and_eq_true_iff.mp h
  obtain ⟨h4, h⟩ := Bool.and_eq_true_iff.mp h
  obtain ⟨h5, h⟩ := Bool.and_eq_true_iff.mp h
  obtain ⟨h6, h⟩ := Bool.and_eq_true_iff.mp h
  obtain ⟨h7, h8⟩ := Bool.and_eq_true_iff.mp h
  exact ⟨of_decide_eq_true h1, of_decide_eq_true h2, of_decide_eq_true h3, h4, of_decide_eq_true h5, of_decide_eq_true h6, of_decide_eq_true h7, of_decide_eq_true h8⟩
def kitL (x y : Str) (b : Bool) : Look1 := fun K => decide (PySem.W.kitOne K (.ref (He.ga K x)) (.ref (He.ga K y)) = some b)
theorem kitL_ok {K : PySem.W.Frag} {x y : Str} {b : Bool} (h : kitL x y b K = true) : PySem.W.kitOne K (.ref (He.ga K x)) (.ref (He.ga K y)) = some b := of_decide_eq_true h
def kitTL (x : Str) (y : String) (b : Bool) : Look1 := fun K => decide (PySem.W.kitOne K (.ref (He.ga K x)) (.type y) = some b)
theorem kitTL_ok {K : PySem.W.Frag} {x : Str} {y : String} {b : Bool} (h : kitTL x y b K = true) : PySem.W.kitOne K (.ref (He.ga K x)) (.type y) = some b := of_decide_eq_true h
section
variable {c : Ct} {W : WX} {A : Nat → Addr → Prop} {Γ Δ : List Slot} {σ : L2.St} {F H F' H' : Hp} {i : Nat} {v : V} {α β γ δ ι : Type} [Py α] [Py β] [Py γ] [Py δ] {x : α} {te ta tb tc : TE} {wa : Wp α} {wb : Wp β} {wc : Wp γ} {T : TA} {p a : Addr} {k : Value} {d : Option Addr} {e : Err}
variable {S S1 L R : Type} {en : S → List Slot} {e1 : S1 → List Slot} {el : L → List Slot} {sg : Sg R} {t u t1 t2 : TS} {w : WS S L R}
theorem e_xf (i : Nat) (cl f : Str) (hΓ : Γ[i]? = some (.o (excR a k d e))) : EOk c W Γ (tXf a k d (He.ga c.K cl) f (tVar i)) (fun (N : α → Prop) _ => e.c = cl ∧ ∃ x : α, e.get f = some (toP x) ∧ N x) := fun A σ F H Q N E I kk ke hw => by
  obtain ⟨v, hv, rfl, h1, dx, vs, h2, h3, h4, h5⟩ := I.lookR hΓ
  obtain ⟨hc, x, hx, n⟩ := hw
  obtain ⟨u, hu, r⟩ := lookup_rvs h5 hx
  exact ⟨_, hv, rfl, by rw [← hc]; exact h1, dx, _, u, h2, I.xt _ _ h3, hu, kk x u F H (Gw.refl I.xt) I r n⟩
theorem e_isx (i : Nat) (cl : Str) {cv : V} {cu : Value} {b : Bool} (hcv : ∀ u, RelV cv u → u = cu) (hk : PySem.W.kitOne c.K (.ref (He.ga c.K cl)) cu = some b) (hΓ : Γ[i]? = some (.o (excR a k d e))) :
    EOk c W Γ (tCB (rIsX2 c.K (He.ga c.K cl) a k d) (tCons (tVar i) (tCons (tC cv) tNil))) (fun (N : Bool → Prop) _ => e.c = cl ∧ N b) := fun A σ F H Q N E I kk ke hw => by
  obtain ⟨v, hv, rfl, h1, dx, vs, h2, h3, h4, h5⟩ := I.lookR hΓ
  exact ⟨_, hv, by rw [← hw.1]; exact h1, cv, cu, b, dx, _, rfl, hcv, hk, h2, I.xt _ _ h3, kk b _ F H (Gw.refl I.xt) I (.bl b) hw.2⟩
/-! ### try -/
def HsOk (c : Ct) (W : WX) (Γ : List Slot) (l : List Cl) {S L R : Type} (en : S → List Slot) (el : L → List Slot) (sg : Sg R) (wH : Err → WS S L R) : Prop :=
  ∀ (A : Nat → Addr → Prop) (σ : L2.St) (F H : Hp) (D : Ends) (N : S → Prop) (B C : L → Prop) (Rt : R → Prop) (E : Err → Prop) (e : Err) (k : Value) (d : Option Addr), Env c A Γ σ F H → ErrAt c.K F e k d →
    (∀ s A' σ' F' H', Xt F F' → Env c A' (en s) σ' F' H' → N s → D.nx σ' H') →
    (∀ s A' σ' F' H', Xt F F' → Env c A' (el s) σ' F' H' → B s → D.bk σ' H') →
    (∀ s A' σ' F' H', Xt F F' → Env c A' (el s) σ' F' H' → C s → D.ct σ' H') →
    (∀ y v A' σ' F' H' B, Env c A' (sg.er y) σ' F' H' → (∀ a, B a → F' a = none ∧ H' a ≠ none ∧ c.H0 a = none) → (sg.rr y).R c.K F' H' B v → Rt y → D.rt v H') →
    (∀ e k d A' σ' F' H', Env c A' sg.ge σ' F' H' → ErrAt c.K F' e k d → E e → W k d σ' H') →
    wH e N B C Rt E → wManyN c.K W D l k d σ H
theorem h_nil (we : Wk Γ sg.ge) : HsOk c W Γ [] en el sg (fun e _ _ _ _ E => E e : Err → WS S L R) := fun A σ F H D N B C Rt E e k d I ea kn kb kc kr ke hw => ke e k d A σ F H (I.wk we) ea hw
theorem h_cons {cv : Value} {ts : Addr → Value → Option Addr → TS} {l : List Cl} {w1 wr : Err → WS S L R} (tbl : Str → Option Bool) (hx : ∀ s b, tbl s = some b → PySem.W.exmOne c.K (.ref (He.ga c.K s)) cv = some b)
    (h1 : ∀ a k d e, SOk c (fun _ _ _ _ => False) Γ (ts a k d) en el sg (w1 e)) (hr : HsOk c W Γ l en el sg wr) :
    HsOk c W Γ (⟨cv, none, ts⟩ :: l) en el sg (fun e N B C Rt E => match tbl e.c with | some true => w1 e N B C Rt (fun _ => False) | some false => wr e N B C Rt E | none => False) := fun A σ F H D N B C Rt E e k d I ea kn kb kc kr ke hw => by
  dsimp only at hw
  cases hb : tbl e.c with
  | none => rw [hb] at hw; exact hw.elim
  | some b =>
    rw [hb] at hw
    refine ⟨b, by rw [ea.1]; exact hx _ _ hb, fun e1 a na => ?_, fun e1 => ?_⟩
    · subst e1; exact h1 a k d e A σ F H D N B C Rt (fun _ => False) I kn kb kc kr (fun _ _ _ _ _ _ _ _ _ z => z.elim) hw
    · subst e1; exact hr A σ F H D N B C Rt E e k d I ea kn kb kc kr ke hw
theorem Env.unset (I : Env c A Γ σ F H) (i : Nat) (hi : ∀ s, Γ[i]? = some s → s = .u) : Env c A Γ (σ.set i none) F H :=
  ⟨I.g, by simpa using I.len, fun j s hs => by
    by_cases e : i = j
    · subst e; rw [hi s hs]; exact True.intro
    · rw [List.getElem?_set_ne e]; exact I.sl j s hs, I.own, I.dj⟩
theorem h_named {cv : Value} (i : Nat) {ts : Addr → Value → Option Addr → TS} {l : List Cl} {w1 wr : Err → WS S L R} (tbl : Str → Option Bool) (hx : ∀ s b, tbl s = some b → PySem.W.exmOne c.K (.ref (He.ga c.K s)) cv = some b)
    (hi : ∀ s z, (en s)[i]? = some z → z = .u) (hj : ∀ s z, (el s)[i]? = some z → z = .u)
    (h1 : ∀ a k d e, SOk c (fun _ _ _ _ => False) (Γ.set i (.o (excR a k d e))) (ts a k d) en el sg (w1 e)) (hr : HsOk c W Γ l en el sg wr) :
    HsOk c W Γ (⟨cv, some i, ts⟩ :: l) en el sg (fun e N B C Rt E => match tbl e.c with | some true => w1 e N B C Rt (fun _ => False) | some false => wr e N B C Rt E | none => False) := fun A σ F H D N B C Rt E e k d I ea kn kb kc kr ke hw => by
  dsimp only at hw
  cases hb : tbl e.c with
  | none => rw [hb] at hw; exact hw.elim
  | some b =>
    rw [hb] at hw
    refine ⟨b, by rw [ea.1]; exact hx _ _ hb, fun e1 a na => ?_, fun e1 => ?_⟩
    · subst e1
      have I2 := I.seto (R := excR a k d e) i (B := fun _ => False) (fun _ h => h.elim) ⟨rfl, ea⟩
      exact h1 a k d e _ _ F H _ N B C Rt (fun _ => False) I2 (fun s A' σ' F' H' x I' n => kn s A' _ F' H' x (I'.unset i (hi s)) n) (fun s A' σ' F' H' x I' n => kb s A' _ F' H' x (I'.unset i (hj s)) n) (fun s A' σ' F' H' x I' n => kc s A' _ F' H' x (I'.unset i (hj s)) n) kr (fun _ _ _ _ _ _ _ _ _ z => z.elim) hw
    · subst e1; exact hr A σ F H D N B C Rt E e k d I ea kn kb kc kr ke hw
theorem Env.now (I : Env c A Γ σ F H) : Env ⟨c.K, F, c.H0, c.S, c.np⟩ A Γ σ F H := ⟨⟨.refl _, I.g.fh, I.g.hh, I.g.th, fun _ _ h => h⟩, I.len, I.sl, I.own, I.dj⟩
theorem Env.then (I : Env c A Γ σ F H) {A' : Nat → Addr → Prop} {σ' : L2.St} (J : Env ⟨c.K, F, c.H0, c.S, c.np⟩ A' Δ σ' F' H') : Env c A' Δ σ' F' H' := ⟨⟨I.g.ff.trans J.g.ff, J.g.fh, J.g.hh, J.g.th, fun b h f => J.g.nw b h (I.g.nw b h f)⟩, J.len, J.sl, J.own, J.dj⟩
theorem s_try {tb : WX → TS} {l : List Cl} {Γe : List Slot} {wb : WS S1 L R} {wH : Err → WS S1 L R} {wu : S1 → WS S L R} (hb : ∀ W' F1, SOk ⟨c.K, F1, c.H0, c.S, c.np⟩ W' Γ (tb W') e1 el ⟨sg.er, sg.rr, Γe⟩ wb) (hh : HsOk c W Γe l e1 el sg wH) (hu : ∀ s, SOk c W (e1 s) u en el sg (wu s)) :
    SOk c W Γ (tSeq (tTry c.K W tb l) u) en el sg (fun N B C Rt E => wb (fun s => wu s N B C Rt E) B C Rt (fun e => wH e (fun s => wu s N B C Rt E) B C Rt E)) :=
  fun A σ F H D N B C Rt E I kn kb kc kr ke hw => by
    have fin : ∀ s A' σ' F' H', Xt F F' → Env c A' (e1 s) σ' F' H' → wu s N B C Rt E → u D σ' H' := fun s A' σ' F' H' e I' n => hu s A' σ' F' H' D N B C Rt E I'
      (fun s A' σ' F'' H' e' => kn s A' σ' F'' H' (e.trans e')) (fun s A' σ' F'' H' e' => kb s A' σ' F'' H' (e.trans e')) (fun s A' σ' F'' H' e' => kc s A' σ' F'' H' (e.trans e')) kr ke n
    exact hb _ F A σ F H { D with nx := u D } _ B C Rt _ I.now (fun s A' σ' F' H' x J n => fin s A' σ' F' H' x (I.then J) n) (fun s A' σ' F' H' x J n => kb s A' σ' F' H' x (I.then J) n) (fun s A' σ' F' H' x J n => kc s A' σ' F' H' x (I.then J) n)
      (fun y v A' σ' F' H' B J hB r n => kr y v A' σ' F' H' B (I.then J) hB r n)
      (fun e k d A' σ' F' H' J ea n => hh A' σ' F' H' { D with nx := u D } _ B C Rt E e k d (I.then J) ea (fun s A'' σ'' F'' H'' x I' n => fin s A'' σ'' F'' H'' (J.g.ff.trans x) I' n)
        (fun s A'' σ'' F'' H'' x I' n => kb s A'' σ'' F'' H'' (J.g.ff.trans x) I' n) (fun s A'' σ'' F'' H'' x I' n => kc s A'' σ'' F'' H'' (J.g.ff.trans x) I' n) kr ke n) hw
/-- never here -/
theorem s_never : SOk c W Γ t en el sg (fun _ _ _ _ _ => False : WS S L R) := fun A σ F H D N B C Rt E I kn kb kc kr ke hw => hw.elim
/-- one of two ways went -/
theorem s_sum {X Y : Type} {ea : X → List Slot} {eb : Y → List Slot} {w1 : X → WS S L R} {w2 : Y → WS S L R} (h1 : ∀ x, SOk c W (ea x) u en el sg (w1 x)) (h2 : ∀ y, SOk c W (eb y) u en el sg (w2 y)) :
    ∀ s : X ⊕ Y, SOk c W (Sum.elim ea eb s) u en el sg (fun N B C Rt E => Sum.elim (fun x => w1 x N B C Rt E) (fun y => w2 y N B C Rt E) s)
  | .inl x => h1 x
  | .inr y => h2 y
end
end Vc
namespace Vc
open Py (toP)
open PySem PySem.Spec PyProof.Rows L2 Rn
/-- a table of answers -/
inductive Tbl (K : PySem.W.Frag) (cv : Value) : List (Str × Bool) → Prop
  | nil : Tbl K cv []
  | cons {x : Str} {b : Bool} {l : List (Str × Bool)} : PySem.W.exmOne K (.ref (He.ga K x)) cv = some b → Tbl K cv l → Tbl K cv ((x, b) :: l)
theorem tbl_ok {K : PySem.W.Frag} {cv : Value} : ∀ {l : List (Str × Bool)}, Tbl K cv l → ∀ s b, l.lookup s = some b → PySem.W.exmOne K (.ref (He.ga K s)) cv = some b
  | _, .nil, s, b, h => by simp at h
  | _, .cons (x := x) e t, s, b, h => by
    rw [List.lookup_cons] at h
    cases q : s == x with
    | true => rw [q] at h; cases h; rw [eq_of_beq q]; exact e
    | false => rw [q] at h; exact tbl_ok t s b h
end Vc

/-! a tuple that holds a list of its own. -/
namespace Vc
open Py (toP)
open PySem PySem.Spec PyProof.Rows L2 Rn
open PySem.W (Tup Datum)
section
variable {c : Ct} {W : WX} {A : Nat → Addr → Prop} {Γ Δ : List Slot} {σ : L2.St} {F F2 H F' H' : Hp} {i : Nat} {v : V} {α β γ δ ι : Type} [Py α] [Py β] [Py γ] [Py δ] {x : α} {te ta tb tc : TE} {wa : Wp α} {wb : Wp β} {wc : Wp γ} {T : TA} {p a : Addr}
variable {S S1 L R : Type} {en : S → List Slot} {e1 : S1 → List Slot} {el : L → List Slot} {sg : Sg R} {t u t1 t2 : TS} {w : WS S L R}
theorem peek_envG {s0 : Slot} (I : Env c A Γ σ F H) (hi : c.np ≤ i) (x1 : Xt F F2) (x2 : Xt F2 H) (hd : ∀ a, F2 a ≠ none → F a ≠ none ∨ A i a) (r : ∀ B, SlotOk c.K F2 H B σ[i]? s0) : Env c (lessA A i) (Γ.set i s0) σ F2 H := by
  refine ⟨⟨I.g.ff.trans x1, x2, I.g.hh, I.g.th, fun b h f => ?_⟩, by simpa using I.len, fun j s h => ?_, fun j a h => ⟨?_, (I.own j a h.2).2⟩, fun j k a h1 h2 => I.dj j k a h1.2 h2.2⟩
  · cases q : F2 b with
    | none => rfl
    | some o =>
      rcases hd b (by rw [q]; exact nofun) with z | z
      · exact absurd (I.g.nw b h f) z
      · exact absurd (own0 I hi z) h
  · rcases set_get h with ⟨rfl, rfl, _⟩ | ⟨hn, h⟩
    · exact r _
    · have w := (I.sl j s h).grow x1 (fun _ _ => rfl) (H' := H)
      cases s with
      | u => exact True.intro
      | v x => exact w
      | o R =>
        obtain ⟨v, e, rr⟩ := w
        have ea : lessA A i j = A j := funext fun a => propext ⟨fun h => h.2, fun h => ⟨Ne.symm hn, h⟩⟩
        exact ⟨v, e, by rw [ea]; exact rr⟩
  · cases q : F2 a with
    | none => rfl
    | some o =>
      rcases hd a (by rw [q]; exact nofun) with z | z
      · exact absurd (I.own j a h.2).1 z
      · exact absurd (I.dj j i a h.2 z) h.1
theorem peek_backG {R : Res} (I : Env c A Γ σ F H) (hΓ : Γ[i]? = some (.o R)) (hf : R.flux = false) (x1 : Xt F F2) (I' : Env c (lessA A i) (Γ.set i (.v x)) σ F' H') (g : Gw (Eff (Γ.set i (.v x)) (lessA A i)) F2 H F' H') :
    Gw (Eff Γ A) F H F H' ∧ Env c A Γ σ F H' := by
  have hef : ∀ a, Eff (Γ.set i (.v x)) (lessA A i) a → ∃ j R, j ≠ i ∧ Γ[j]? = some (.o R) ∧ R.flux = true ∧ A j a := fun a ⟨j, R, h1, h2, h3⟩ => by
    rcases set_get h1 with ⟨_, e, _⟩ | ⟨hn, h⟩
    · cases e
    · exact ⟨j, R, Ne.symm hn, h, h2, h3.2⟩
  have g2 : Gw (Eff Γ A) F H F H' := ⟨.refl _, (x1.trans g.ff).trans g.fh, fun b o n h => g.hh b o (fun z => n (by obtain ⟨j, R, _, h1, h2, h3⟩ := hef b z; exact ⟨j, R, h1, h2, h3⟩)) h, g.th, fun _ _ h => h⟩
  refine ⟨g2, I.base g2, I.len, fun j s h => ?_, fun j a h => ⟨(I.own j a h).1, g.th a (I.own j a h).2.1, (I.own j a h).2.2⟩, I.dj⟩
  have same : ∀ R, Γ[j]? = some (.o R) → R.flux = false → ∀ a, A j a → H' a = H a := fun R hR hf a ha => by
    cases z : H a with
    | none => exact absurd z (I.own j a ha).2.1
    | some o => exact g.hh a o (fun hz => by
        obtain ⟨k, R', _, h1, h2, h3⟩ := hef a hz
        have := I.dj k j a h3 ha
        subst this
        rw [hR] at h1; cases h1
        rw [hf] at h2; cases h2) z
  cases s with
  | u => exact True.intro
  | v x => exact I.sl j _ h
  | o R' =>
    cases hf' : R'.flux with
    | false =>
      obtain ⟨v, e, r⟩ := I.sl j _ h
      exact ⟨v, e, R'.loc r (same R' h hf')⟩
    | true =>
      have hj : j ≠ i := fun z => by
        subst z; rw [hΓ] at h; cases h; rw [hf] at hf'; cases hf'
      have hs : (Γ.set i (.v x))[j]? = some (.o R') := by rw [List.getElem?_set_ne (Ne.symm hj)]; exact h
      obtain ⟨v, e, r⟩ := I'.sl j _ hs
      have ea : lessA A i j = A j := funext fun a => propext ⟨fun h => h.2, fun h => ⟨hj, h⟩⟩
      exact ⟨v, e, by rw [ea] at r; exact R'.flx hf' r⟩
def tagd (ps : List PV) {α : Type} [Py α] (xs : List α) : Res where
  flux := false
  R := fun K F H A v => ∃ t p us vs, v = .ref t ∧ t ≠ p ∧ (∀ a, A a ↔ (a = t ∨ a = p)) ∧ H t = some (.tup (us ++ [.ref p])) ∧ H p = some (.lst vs) ∧ RVs K F us ps ∧ RVs K F vs (xs.map toP)
  ext := fun ⟨t, p, us, vs, h1, h2, h3, h4, h5, h6, h7⟩ e => ⟨t, p, us, vs, h1, h2, h3, h4, h5, h6.ext e, h7.ext e⟩
  loc := fun ⟨t, p, us, vs, h1, h2, h3, h4, h5, h6⟩ e => ⟨t, p, us, vs, h1, h2, h3, by rw [e t ((h3 t).mpr (.inl rfl))]; exact h4, by rw [e p ((h3 p).mpr (.inr rfl))]; exact h5, h6⟩
  flx := fun h => nomatch h
/-- return (e, x), x a list of one's own -/
theorem s_retTag (i : Nat) {xs : List α} {wb : Wp β} {f : β → R} (hΓ : Γ[i]? = some (.o (mu xs))) (hi : c.np ≤ i) (he : EOk c W Γ te wb) (we : Wk Γ sg.ge) (hr : ∀ d, sg.rr (f d) = tagd [toP d] xs) (hw : ∀ d, Wk Γ (sg.er (f d))) :
    SOk c W Γ (tSeq (tRet (tTup (tCons te (tCons (tVar i) tNil)))) u) en el sg (fun _ _ _ Rt E => wb (fun d => Rt (f d)) E : WS S L R) :=
  fun A σ F H D N B C Rt E I kn kb kc kr ke hw' => he A σ F H _ _ E I (fun d v F1 H1 g I1 r n => by
    obtain ⟨v', e, p, vs, rfl, h2, h3, h4⟩ := I1.lookR hΓ
    refine ⟨_, e, by show 2 ≤ sizeLine; rw [sizeLine_eq]; omega, fun q nq => ?_⟩
    have gn := G0.newM (o := .tup [v, .ref p]) I1.xt nq
    have I2 := I1.grow gn
    have hq : q ≠ p := fun z => by subst z; rw [h3] at nq; cases nq
    refine kr (f d) (.ref q) A σ F1 _ (fun a => a = q ∨ a = p) (I2.wk (hw d)) (fun a ha => ?_) (by rw [hr]; exact ⟨q, p, [v], vs, rfl, hq, fun _ => Iff.rfl, upd_same, by rw [upd_ne (Ne.symm hq)]; exact h3, .cons r .nil, h4⟩) n
    rcases ha with rfl | rfl
    · exact ⟨none_of I1.xt nq, by rw [upd_same]; exact nofun, I1.fresh nq⟩
    · have o := I1.own i a ((h2 a).mpr rfl)
      exact ⟨o.1, gn.th a o.2.1, own0 I1 hi ((h2 a).mpr rfl)⟩) (ke_of we ke) hw'
theorem tag_frz {ps : List PV} {xs : List α} {K : PySem.W.Frag} {B : Addr → Prop} (h : (tagd ps xs).R K F H B v) (e : Xt F H) (nF : ∀ a, B a → F a = none) : ∃ F2, Xt F F2 ∧ Xt F2 H ∧ (∀ a, F2 a ≠ none → F a ≠ none ∨ B a) ∧ RV K F2 v (.tup (ps ++ [toP xs])) := by
  obtain ⟨t, p, us, vs, rfl, h2, h3, h4, h5, h6, h7⟩ := h
  have np := nF p ((h3 p).mpr (.inr rfl))
  have nt := nF t ((h3 t).mpr (.inl rfl))
  have x1 : Xt F (upd F p (.lst vs)) := xt_frz np
  have nt' : upd F p (.lst vs) t = none := by rw [upd_ne h2]; exact nt
  have x2 : Xt (upd F p (.lst vs)) (upd (upd F p (.lst vs)) t (.tup (us ++ [.ref p]))) := xt_frz nt'
  refine ⟨_, x1.trans x2, Xt.updF (Xt.updF e h5) h4, fun a ha => ?_, .tup (.inl (.inl upd_same)) ((h6.ext (x1.trans x2)).snoc (.lst (x2 _ _ upd_same) (h7.ext (x1.trans x2))))⟩
  by_cases q : a = t
  · exact .inr ((h3 a).mpr (.inl q))
  · rw [upd_ne q] at ha
    by_cases q' : a = p
    · exact .inr ((h3 a).mpr (.inr q'))
    · rw [upd_ne q'] at ha; exact .inl ha
theorem e_peekT [Flat β] {ps : List PV} {xs : List α} (i : Nat) (z : γ) (hz : toP z = .tup (ps ++ [toP xs])) (hΓ : Γ[i]? = some (.o (tagd ps xs))) (hi : c.np ≤ i) (h : EOk c W (Γ.set i (.v z)) te wb) : EOk c W Γ te (fun N _ => wb N fun _ => False) := fun A σ F H Q N E I k ke hw => by
  obtain ⟨v, hv, r0⟩ := I.lookR hΓ
  obtain ⟨F2, x1, x2, hd, rv⟩ := tag_frz r0 I.xt fun a ha => (I.own i a ha).1
  refine h (lessA A i) σ F2 H Q N (fun _ => False) (peek_envG I hi x1 x2 hd fun B => ⟨v, hv, by rw [hz]; exact rv⟩) (fun x v F' H' g I' r n => ?_) (fun e kk d F' H' I' ea he => he.elim) hw
  obtain ⟨g2, I2⟩ := peek_backG I hΓ rfl x1 I' g
  exact k x v F H' g2 I2 (Flat.fl r) n
/-- y = x[1], x's list goes over -/
theorem s_moveTag (i j : Nat) {d : PV} {xs : List α} (hij : i ≠ j) (hΓ : Γ[i]? = some (.o (tagd [d] xs))) (hi : c.np ≤ i) (hu : SOk c W ((Γ.set i .u).set j (.o (mu xs))) u en el sg w) : SOk c W Γ (tSeq (tAsg (tOp (rIx c.K) (tVar i) (tC (.int 1))) (gName j)) u) en el sg w :=
  fun A σ F H D N B C Rt E I kn kb kc kr ke hw => by
    obtain ⟨v, e, t, p, us, vs, rfl, h2, h3, h4, h5, h6, h7⟩ := I.lookR hΓ
    obtain ⟨a, as, rfl, ra, rs⟩ := h6.cons_
    cases rs
    refine ⟨_, e, zIx_tup (.inl (.inl h4)) (v := .ref p) rfl ?_⟩
    have I1 : Env c (fun k b => A k b ∧ (k = i → b = t)) (Γ.set i .u) σ F H := by
      refine ⟨I.g, by simpa using I.len, fun k s h => ?_, fun k b h => I.own k b h.1, fun k k' b h h' => I.dj k k' b h.1 h'.1⟩
      rcases set_get h with ⟨rfl, rfl, _⟩ | ⟨hn, h⟩
      · exact True.intro
      · have w := I.sl k s h
        cases s with
        | u => exact True.intro
        | v x => exact w
        | o R =>
          obtain ⟨v, e, rr⟩ := w
          have ea : (fun b => A k b ∧ (k = i → b = t)) = A k := funext fun b => propext ⟨fun h => h.1, fun h => ⟨h, fun z => absurd z (Ne.symm hn)⟩⟩
          exact ⟨v, e, by rw [ea]; exact rr⟩
    have I2 := I1.seto (R := mu xs) (v := .ref p) j (B := (· = p)) (fun b hb => by
      subst hb
      have o := I.own i b ((h3 b).mpr (.inr rfl))
      refine ⟨o.1, o.2.1, .inl (own0 I hi ((h3 b).mpr (.inr rfl))), fun k _ hk => ?_⟩
      have := I.dj k i b hk.1 ((h3 b).mpr (.inr rfl))
      exact h2 (hk.2 this).symm) ⟨p, vs, rfl, fun _ => Iff.rfl, h5, h7⟩
    exact hu _ _ F H D N B C Rt E I2 kn kb kc kr ke hw
theorem s_unpl (i : Nat) {x : α} (hΓ : Γ[i]? = some (.o (pl x))) (hu : SOk c W (Γ.set i (.v x)) u en el sg w) : SOk c W Γ u en el sg w :=
  fun A σ F H D N B C Rt E I => by
    obtain ⟨v, e, r⟩ := I.lookR hΓ
    exact hu A σ F H D N B C Rt E (I.slot i ⟨v, e, r⟩)
/-! ### a tuple of bits of one's own -/
def PV.fl : PV → Bool | .non => true | .bl _ => true | .int _ => true | .str _ => true | _ => false
theorem rv_fl {K : PySem.W.Frag} {F F' : Hp} {v : V} {d : PV} (r : RV K F v d) (h : d.fl = true) : RV K F' v d := by
  cases r with
  | non => exact .non
  | bl b => exact .bl b
  | int b => exact .int b
  | str b => exact .str b
  | _ => cases h
theorem rvs_fl {K : PySem.W.Frag} {F F' : Hp} : ∀ {vs : List V} {ds : List PV}, RVs K F vs ds → (∀ d ∈ ds, d.fl = true) → RVs K F' vs ds
  | _, _, .nil, _ => .nil
  | _, _, .cons s t, h => .cons (rv_fl s (h _ (by simp))) (rvs_fl t fun d hd => h d (by simp [hd]))
def ownT (ds : List PV) : Res where
  flux := false
  R := fun K F H A v => ∃ t us, v = .ref t ∧ (∀ a, A a ↔ a = t) ∧ H t = some (.tup us) ∧ RVs K F us ds ∧ ∀ d ∈ ds, d.fl = true
  ext := fun ⟨t, us, h1, h2, h3, h4, h5⟩ e => ⟨t, us, h1, h2, h3, h4.ext e, h5⟩
  loc := fun ⟨t, us, h1, h2, h3, h4⟩ e => ⟨t, us, h1, h2, by rw [e t ((h2 t).mpr rfl)]; exact h3, h4⟩
  flx := fun h => nomatch h
theorem r_ownT {args : ι → List PV} {w : Wp ι} (h : TOk c W Γ T args w) (hf : ∀ x, (args x).all PV.fl = true) (hl : ∀ x, (args x).length ≤ 100) : ROk c W Γ (tTup T) ownT (fun N E => w (fun xs => N (args xs)) E) := fun A σ F H Q N E I k ke hw =>
  h A σ F H _ _ E I (fun xs vs F1 H1 g I1 r n => ⟨by rw [r.length]; exact Nat.le_trans (hl xs) (by rw [sizeLine_eq]; omega), fun p np => by
    have gn := G0.newM (o := .tup vs) I1.xt np
    exact k (args xs) _ _ _ (· = p) (g.tr0 gn) (I1.grow gn) (fun a ha => by subst ha; exact ⟨none_of I1.xt np, by rw [upd_same]; exact nofun, g.old np⟩) ⟨p, vs, rfl, fun _ => Iff.rfl, upd_same, r, List.all_eq_true.mp (hf xs)⟩ n⟩) ke hw
theorem own_frz {ds : List PV} {K : PySem.W.Frag} {B : Addr → Prop} (h : (ownT ds).R K F H B v) (e : Xt F H) (nF : ∀ a, B a → F a = none) : ∃ F2, Xt F F2 ∧ Xt F2 H ∧ (∀ a, F2 a ≠ none → F a ≠ none ∨ B a) ∧ RV K F2 v (.tup ds) := by
  obtain ⟨t, us, rfl, h3, h4, h5, h6⟩ := h
  have nt := nF t ((h3 t).mpr rfl)
  have x1 : Xt F (upd F t (.tup us)) := xt_frz nt
  refine ⟨_, x1, Xt.updF e h4, fun a ha => ?_, .tup (.inl (.inl upd_same)) (h5.ext x1)⟩
  by_cases q : a = t
  · exact .inr ((h3 a).mpr q)
  · rw [upd_ne q] at ha; exact .inl ha
theorem e_peekO [Flat β] {ds : List PV} (i : Nat) (hΓ : Γ[i]? = some (.o (ownT ds))) (hi : c.np ≤ i) (h : EOk c W (Γ.set i (.v (PV.tup ds))) te wb) : EOk c W Γ te (fun N _ => wb N fun _ => False) := fun A σ F H Q N E I k ke hw => by
  obtain ⟨v, hv, r0⟩ := I.lookR hΓ
  obtain ⟨F2, x1, x2, hd, rv⟩ := own_frz r0 I.xt fun a ha => (I.own i a ha).1
  refine h (lessA A i) σ F2 H Q N (fun _ => False) (peek_envG I hi x1 x2 hd fun B => ⟨v, hv, rv⟩) (fun x v F' H' g I' r n => ?_) (fun e kk d F' H' I' ea he => he.elim) hw
  obtain ⟨g2, I2⟩ := peek_backG I hΓ rfl x1 I' g
  exact k x v F H' g2 I2 (Flat.fl r) n
/-- told whatever is frozen -/
def Stab (R : Res) : Prop := ∀ K F F' H A v, R.R K F H A v → R.R K F' H A v
theorem stab_mu [Flat α] (xs : List α) : Stab (mu xs) := fun K F F' H A v ⟨p, vs, h1, h2, h3, h4⟩ => ⟨p, vs, h1, h2, h3, flats h4⟩
theorem stab_own (ds : List PV) : Stab (ownT ds) := fun K F F' H A v ⟨t, us, h1, h2, h3, h4, h5⟩ => ⟨t, us, h1, h2, h3, rvs_fl h4 h5, h5⟩
theorem stab_tag [Flat α] [Flat β] (d : β) (xs : List α) : Stab (tagd [toP d] xs) := fun K F F' H A v ⟨t, p, us, vs, h1, h2, h3, h4, h5, h6, h7⟩ => by
  obtain ⟨u, us', rfl, r, rs⟩ := h6.cons_
  cases rs
  exact ⟨t, p, _, vs, h1, h2, h3, h4, h5, .cons (Flat.fl r) .nil, flats h7⟩
theorem stab_sum {X Y : Type} {f : X → Res} {g : Y → Res} (hf : ∀ x, Stab (f x)) (hg : ∀ y, Stab (g y)) : ∀ z, Stab (Sum.elim f g z)
  | .inl x => hf x
  | .inr y => hg y
theorem r_peekS {ρ : Type} {Rs : ρ → Res} {xs : List α} {w : Wp ρ} (hs : ∀ z, Stab (Rs z)) (i : Nat) (hΓ : Γ[i]? = some (.o (mu xs))) (hi : c.np ≤ i) (h : ROk c W (Γ.set i (.v xs)) te Rs w) : ROk c W Γ te Rs (fun N _ => w N fun _ => False) := fun A σ F H Q N E I k ke hw => by
  obtain ⟨v, hv, p, vs, rfl, h2, h3, h4⟩ := I.lookR hΓ
  refine h (lessA A i) σ (upd F p (.lst vs)) H Q N (fun _ => False) (peek_env I hv h2 h3 h4 hi) (fun x v F' H' B g I' hB r n => ?_) (fun e kk d F' H' I' ea he => he.elim) hw
  obtain ⟨g2, I2⟩ := peek_back I hΓ h2 h3 I' g
  exact k x _ F H' B g2 I2 (fun a ha => ⟨none_of I.g.fh (hB a ha).2.2, (hB a ha).2.1, (hB a ha).2.2⟩) (hs x _ _ _ _ _ _ r) n
/-- one of two went -/
theorem s_cases {X Y : Type} {P : X ⊕ Y → List Slot} {w1 : X → WS S L R} {w2 : Y → WS S L R} (h1 : ∀ x, SOk c W (P (.inl x)) u en el sg (w1 x)) (h2 : ∀ y, SOk c W (P (.inr y)) u en el sg (w2 y)) :
    ∀ s : X ⊕ Y, SOk c W (P s) u en el sg (fun N B C Rt E => Sum.elim (fun x => w1 x N B C Rt E) (fun y => w2 y N B C Rt E) s)
  | .inl x => h1 x
  | .inr y => h2 y
end
end Vc
namespace Vc
open Py (toP)
open PySem PySem.Spec PyProof.Rows L2 Rn
def sp_law (K : PySem.W.Frag) : Sp := fun vs H Q _ => ∃ (a : Addr) (ns : List Int), vs = [.ref a] ∧ SqL K H a (ns.map V.int) ∧ ∀ H', Q (.bl true) H'
end Vc

/-! houses, first choice: plain mathematics. -/
namespace Vc
open Py (toP)
open PySem PySem.Spec PyProof.Rows L2 Rn
open PySem.W (Tup Datum)
def HouseT.n (h : HouseT) : Nat := h.wants.numbers.items.length
def HouseT.p (h : HouseT) : Nat := h.comings.items.length
theorem HouseT.n_def (h : HouseT) : h.wants.numbers.items.length = h.n := rfl
theorem HouseT.p_def (h : HouseT) : h.comings.items.length = h.p := rfl
structure HouseT.Ok (h : HouseT) : Prop where
  n60 : h.n ≤ 60
  p30 : h.p ≤ 30
  w0 : ∀ w ∈ h.wants.numbers.items, 0 ≤ w ∧ w ≤ 30
  c1 : ∀ c ∈ h.comings.items, 1 ≤ c ∧ c ≤ h.n + 1
  r0 : 0 ≤ h.rest
  r60 : h.rest ≤ 60
def noPerson (p : Int) : Err := ⟨"NoPerson", ["person"], [toP p]⟩
def namedTwice (p : Int) : Err := ⟨"NamedTwice", ["person"], [toP p]⟩
/-- the first wrong entry of a list of people -/
def badPeople (n : Nat) : List Int → List Int → Option Err
  | _, [] => none
  | seen, p :: ps => if 0 ≤ p ∧ p < n then (if p ∈ seen then some (namedTwice p) else badPeople n (p :: seen) ps) else some (noPerson p)

theorem badPeople_none {n : Nat} : ∀ {ps seen : List Int}, badPeople n seen ps = none → ∀ p ∈ ps, 0 ≤ p ∧ p < n
  | [], _, _ => by simp
  | p :: ps, seen, h => by
    unfold badPeople at h
    split at h
    · rename_i hc
      split at h
      · cases h
      · intro q hq
        rcases List.mem_cons.mp hq with e | e
        · subst e; exact hc
        · exact badPeople_none h q e
    · cases h
def HouseT.com (h : HouseT) (p : Int) : Int := h.comings.items.getD p.toNat 0
def HouseT.wt (h : HouseT) (k : Nat) : Int := h.wants.numbers.items.getD k 0
theorem HouseT.Ok.com1 {h : HouseT} (k : h.Ok) {p : Int} (h0 : 0 ≤ p) (h1 : p < h.p) : h.comings.items[p.toNat]? = some (h.com p) ∧ 1 ≤ h.com p ∧ h.com p ≤ h.n + 1 := by
  have hl : p.toNat < h.comings.items.length := by rw [HouseT.p_def]; omega
  have e : h.com p = h.comings.items[p.toNat] := by simp [HouseT.com, List.getD, hl]
  rw [e]
  exact ⟨List.getElem?_eq_getElem hl, k.c1 _ (List.getElem_mem hl)⟩
theorem HouseT.wt_at {h : HouseT} {k : Nat} (hk : k < h.n) : h.wants.numbers.items[k]? = some (h.wt k) := by
  simp only [HouseT.n] at hk
  simp [HouseT.wt, List.getD, hk]
theorem HouseT.Ok.wt0 {h : HouseT} (k : h.Ok) (i : Nat) : 0 ≤ h.wt i ∧ h.wt i ≤ 30 := by
  by_cases hi : i < h.n
  · have e := HouseT.wt_at hi
    exact k.w0 _ (List.mem_of_getElem? e)
  · rw [← HouseT.n_def] at hi
    simp [HouseT.wt, List.getD, hi]
/-- so many of the people have come by night k + 1; come on it -/
def hereK (h : HouseT) (ps : List Int) (k : Nat) : Int := (ps.filter fun p => decide (h.com p ≤ k + 1)).length
def arrK (h : HouseT) (ps : List Int) (k : Nat) : Int := (ps.filter fun p => decide (h.com p = k + 1)).length
def arr (h : HouseT) (ps : List Int) : List Int := (List.range (h.n + 1)).map (arrK h ps)
theorem filter_split {α : Type} (l : List α) (p q r : α → Bool) (h : ∀ x, r x = (p x || q x)) (hd : ∀ x, ¬ (p x = true ∧ q x = true)) : (l.filter r).length = (l.filter p).length + (l.filter q).length := by
  induction l with
  | nil => rfl
  | cons x l ih =>
    have h1 := h x
    have h2 := hd x
    simp only [List.filter_cons]
    cases hp : p x <;> cases hq : q x <;> simp [hp, hq] at h1 h2 <;> simp [h1, ih] <;> omega
theorem here_zero (h : HouseT) (hk : h.Ok) (ps : List Int) (hp : ∀ p ∈ ps, 0 ≤ p ∧ p < h.p) : hereK h ps 0 = arrK h ps 0 := by
  unfold hereK arrK
  congr 2
  apply List.filter_congr
  intro p hm
  have := (hk.com1 (hp p hm).1 (hp p hm).2).2
  generalize h.com p = z at this ⊢
  rw [Bool.eq_iff_iff]
  simp; omega
theorem here_succ (h : HouseT) (ps : List Int) (k : Nat) : hereK h ps (k + 1) = hereK h ps k + arrK h ps (k + 1) := by
  unfold hereK arrK
  rw [← Int.natCast_add]
  congr 1
  refine filter_split ps _ _ _ (fun x => ?_) fun x => ?_
  · generalize h.com x = z
    rw [Bool.eq_iff_iff]; simp; omega
  · generalize h.com x = z
    simp; omega
/-- the first k numbers of first choice -/
def fcl (w here : Nat → Int) (r : Nat) : Nat → List Int
  | 0 => []
  | k + 1 => fcl w here r k ++ [min (w k) (here k - ((fcl w here r k).drop (k - r)).sum)]
theorem fcl_len (w here : Nat → Int) (r : Nat) : ∀ k, (fcl w here r k).length = k
  | 0 => rfl
  | k + 1 => by rw [fcl, List.length_append, fcl_len w here r k]; rfl
def fcH (h : HouseT) (ps : List Int) : List Int := fcl h.wt (hereK h ps) h.rest.toNat h.n
def roomH (h : HouseT) (ps : List Int) : List Int := (List.range h.n).map fun k => h.wt k - (fcH h ps).getD k 0
/-- nights taken greedily from night t on, so many left, the next one not ahead of f: av tells which can be taken -/
def gr (av : Nat → Bool) (r : Nat) : Nat → Nat → Nat → List Nat
  | 0, _, _ => []
  | m + 1, t, f => if f ≤ t ∧ av t = true then t :: gr av r m (t + 1) (t + r + 1) else gr av r m (t + 1) f
/-- the nights (from 1) of growth -/
def growN (h : HouseT) (ps : List Int) (p : Int) : List Nat := gr (fun t => decide (0 < h.wt (t - 1) - (fcH h ps).getD (t - 1) 0)) h.rest.toNat h.n 1 (h.com p).toNat
def growH (h : HouseT) (ps : List Int) (p : Int) : List Int := (growN h ps p).map fun t : Nat => (t : Int)
def tooLong (n : Int) : Err := ⟨"TooLong", ["count"], [toP n]⟩
def badNumber (i n : Int) : Err := ⟨"BadNumber", ["place", "number"], [toP i, toP n]⟩
def badComing (i n : Int) : Err := ⟨"BadComing", ["person", "coming"], [toP i, toP n]⟩
def badRest (n : Int) : Err := ⟨"BadRest", ["rest"], [toP n]⟩
/-- the first entry that is not from lo to hi -/
def badAt (mk : Int → Int → Err) (lo hi : Int) : Nat → List Int → Option Err
  | _, [] => none
  | i, x :: xs => if lo ≤ x ∧ x ≤ hi then badAt mk lo hi (i + 1) xs else some (mk i x)
theorem badAt_none {mk : Int → Int → Err} {lo hi : Int} : ∀ {xs : List Int} {i : Nat}, badAt mk lo hi i xs = none ↔ ∀ x ∈ xs, lo ≤ x ∧ x ≤ hi
  | [], _ => by simp [badAt]
  | x :: xs, i => by
    unfold badAt
    by_cases h : lo ≤ x ∧ x ≤ hi
    · rw [if_pos h, badAt_none]; simp [h]
    · rw [if_neg h]; simp; intro a b; exact absurd ⟨a, b⟩ h
theorem wfor_badAt {S R : Type} {Rt : R → Prop} {E : Err → Prop} {N : S → Prop} {mk : Int → Int → Err} {lo hi : Int} {s : S} {b : Int × Int → S → WS S S R}
    (h1 : ∀ (i x : Int) (N' : S → Prop), lo ≤ x ∧ x ≤ hi → N' s → b (i, x) s N' N N' Rt E) (h2 : ∀ (i x : Int) (N' : S → Prop), ¬ (lo ≤ x ∧ x ≤ hi) → E (mk i x) → b (i, x) s N' N N' Rt E) :
    ∀ (xs : List Int) (k : Nat), (match badAt mk lo hi k xs with | none => N s | some e => E e) → wfor ((rng (k : Int) xs.length).zip xs) s b N Rt E
  | [], k, h => h
  | x :: xs, k, h => by
    rw [List.length_cons, rng_succ, List.zip_cons_cons]
    unfold badAt at h
    by_cases hc : lo ≤ x ∧ x ≤ hi
    · rw [if_pos hc] at h
      exact h1 k x _ hc (wfor_badAt h1 h2 xs (k + 1) h)
    · rw [if_neg hc] at h
      exact h2 k x _ hc h
end Vc
namespace Vc
open Py (toP)
open PySem PySem.Spec PyProof.Rows L2 Rn
def HouseT.part (h : HouseT) : HL (List Int × List Int × Int × Unit) := ⟨(h.wants.numbers.items, h.comings.items, h.rest, ())⟩
/-- the error of growth -/
def dueErr (h : HouseT) (ps : List Int) (p : Int) : Option Err := match badPeople h.p [] ps with
  | some e => some e
  | none => if 0 ≤ p ∧ p < h.p then (if p ∈ ps then some (namedTwice p) else none) else some (noPerson p)
/-- how it is told -/
def errL (e : Err) : List PV := [.str e.c, e.as.headD .non, .bl true, .bl false]
def errP (e : Err) : PV := .tup (errL e)
def dueP (h : HouseT) (ps : List Int) (p : Int) : PV := match dueErr h ps p with
  | some e => errP e
  | none => .tup [.str "told", toP (growH h ps p)]
end Vc
namespace Vc
open Py (toP)
theorem badPeople_cons {n : Nat} {seen ps : List Int} {p : Int} : badPeople n seen (p :: ps) = if 0 ≤ p ∧ p < n then (if p ∈ seen then some (namedTwice p) else badPeople n (p :: seen) ps) else some (noPerson p) := rfl
end Vc
namespace Vc
open Py (toP)
theorem badPeople_some {n : Nat} : ∀ {ps seen : List Int} {e : Err}, badPeople n seen ps = some e → (∃ x, e = noPerson x) ∨ ∃ x, e = namedTwice x
  | [], _, _, h => by cases h
  | p :: ps, seen, e, h => by
    rw [badPeople_cons] at h
    split at h
    · split at h
      · cases h; exact .inr ⟨_, rfl⟩
      · exact badPeople_some h
    · cases h; exact .inl ⟨_, rfl⟩
end Vc

/-! the growth law: one person more raises first choice by one on just the nights of growth; over more people no more nights. -/
namespace Vc
open Py (toP)
open PySem PySem.Spec PyProof.Rows L2 Rn
open PySem.W (Tup Datum)
/-- the next night that can be taken, k nights gone -/
def nf (av : Nat → Bool) (r com : Nat) : Nat → Nat
  | 0 => com
  | k + 1 => if nf av r com k ≤ k + 1 ∧ av (k + 1) = true then k + r + 2 else nf av r com k
def tk (av : Nat → Bool) (r com k : Nat) : Bool := decide (nf av r com k ≤ k + 1 ∧ av (k + 1) = true)
section
variable {av av' : Nat → Bool} {r com : Nat}
theorem nf_succ (k : Nat) : nf av r com (k + 1) = if tk av r com k = true then k + r + 2 else nf av r com k := by
  unfold tk
  rw [nf]
  by_cases h : nf av r com k ≤ k + 1 ∧ av (k + 1) = true
  · rw [if_pos h, if_pos (decide_eq_true h)]
  · rw [if_neg h, if_neg (by simpa using h)]
theorem tk_le {k : Nat} (h : tk av r com k = true) : nf av r com k ≤ k + 1 := (of_decide_eq_true h).1
theorem nf_late : ∀ k, k + 1 ≤ com → nf av r com k = com
  | 0, _ => rfl
  | k + 1, h => by
    have q := nf_late k (by omega)
    rw [nf_succ, if_neg (fun z => by have := tk_le z; omega), q]
theorem nf_ge : ∀ k, com ≤ nf av r com k
  | 0 => Nat.le_refl _
  | k + 1 => by
    have q := nf_ge k
    rw [nf_succ]
    split
    · rename_i z; have := tk_le z; omega
    · exact q
theorem nf_le : ∀ k, nf av r com k ≤ max com (k + r + 1)
  | 0 => by simp [nf]; omega
  | k + 1 => by
    have q := nf_le k
    rw [nf_succ]
    split <;> omega
theorem nf_or : ∀ k, nf av r com k = com ∨ r + 2 ≤ nf av r com k
  | 0 => .inl rfl
  | k + 1 => by
    rw [nf_succ]
    split
    · exact .inr (by omega)
    · exact nf_or k
theorem mem_gr : ∀ (m k t : Nat), t ∈ gr av r m (k + 1) (nf av r com k) ↔ ∃ j, k ≤ j ∧ j < k + m ∧ tk av r com j = true ∧ t = j + 1
  | 0, k, t => by simp [gr]; omega
  | m + 1, k, t => by
    have ih := mem_gr m (k + 1) t
    rw [nf] at ih
    rw [gr]
    have e : k + 1 + r + 1 = k + r + 2 := by omega
    by_cases h : nf av r com k ≤ k + 1 ∧ av (k + 1) = true
    · rw [if_pos h] at ih ⊢
      rw [e, List.mem_cons, ih]
      constructor
      · rintro (q | ⟨j, j0, j1, j2, j3⟩)
        · exact ⟨k, Nat.le_refl _, by omega, decide_eq_true h, q⟩
        · exact ⟨j, by omega, by omega, j2, j3⟩
      · rintro ⟨j, j0, j1, j2, j3⟩
        by_cases q : j = k
        · exact .inl (by omega)
        · exact .inr ⟨j, by omega, by omega, j2, j3⟩
    · rw [if_neg h] at ih ⊢
      rw [ih]
      constructor
      · rintro ⟨j, j0, j1, j2, j3⟩
        exact ⟨j, by omega, by omega, j2, j3⟩
      · rintro ⟨j, j0, j1, j2, j3⟩
        by_cases q : j = k
        · subst q; exact absurd (of_decide_eq_true j2) h
        · exact ⟨j, by omega, by omega, j2, j3⟩
def bi (b : Bool) : Int := if b then 1 else 0
/-- taken or not, the first k nights -/
def tl (av : Nat → Bool) (r com : Nat) : Nat → List Int
  | 0 => []
  | k + 1 => tl av r com k ++ [bi (tk av r com k)]
theorem tl_len : ∀ k, (tl av r com k).length = k
  | 0 => rfl
  | k + 1 => by rw [tl, List.length_append, tl_len k]; rfl
theorem tl_at : ∀ k j, j < k → (tl av r com k).getD j 0 = bi (tk av r com j)
  | k + 1, j, h => by
    rw [tl]
    by_cases q : j < k
    · have := tl_at k j q
      simp [List.getD, List.getElem?_append, tl_len, q] at this ⊢
      exact this
    · have : j = k := by omega
      subst this
      simp [List.getD, List.getElem?_append, tl_len]
theorem tl_sum (h1 : 1 ≤ com) : ∀ k m, m ≤ k → k ≤ m + r → ((tl av r com k).drop m).sum = if com ≤ k ∧ m + r + 2 ≤ nf av r com k then 1 else 0
  | 0, m, _, _ => by
    rw [if_neg (by omega)]; simp [tl]
  | k + 1, m, hm, hr => by
    by_cases e : m = k + 1
    · subst e
      rw [List.drop_of_length_le (by rw [tl_len]; omega)]
      have := nf_le (av := av) (r := r) (com := com) (k + 1)
      rw [if_neg (by omega)]; rfl
    · have ih := tl_sum h1 k m (by omega) (by omega)
      rw [tl, List.drop_append_of_le_length (by rw [tl_len]; omega), sum_app1, ih, nf_succ]
      have g := nf_ge (av := av) (r := r) (com := com) k
      have l := nf_late (av := av) (r := r) (com := com) k
      cases ht : tk av r com k with
      | true =>
        have := tk_le ht
        rw [if_neg (by omega), if_pos rfl, if_pos (by omega)]; rfl
      | false =>
        rw [if_neg Bool.false_ne_true]
        by_cases q : com ≤ k ∧ m + r + 2 ≤ nf av r com k
        · rw [if_pos q, if_pos (by omega)]; rfl
        · rw [if_neg q, if_neg (by omega)]; rfl
theorem sum_zip : ∀ (a b : List Int), a.length = b.length → (List.zipWith (· + ·) a b).sum = a.sum + b.sum
  | [], [], _ => rfl
  | x :: a, y :: b, h => by
    rw [List.zipWith_cons_cons, List.sum_cons, List.sum_cons, List.sum_cons, sum_zip a b (by simpa using h)]; omega
/-- one more from night com on -/
theorem fcl_more {w here : Nat → Int} (h1 : 1 ≤ com) (hav : ∀ k, av (k + 1) = decide (0 < w k - min (w k) (here k - ((fcl w here r k).drop (k - r)).sum))) : ∀ k,
    fcl w (fun k => here k + bi (decide (com ≤ k + 1))) r k = List.zipWith (· + ·) (fcl w here r k) (tl av r com k)
  | 0 => rfl
  | k + 1 => by
    have ih := fcl_more h1 hav k
    rw [fcl, fcl, tl, List.zipWith_append (by rw [fcl_len, tl_len]), ih, List.drop_zipWith, sum_zip _ _ (by rw [List.length_drop, List.length_drop, fcl_len, tl_len]), tl_sum h1 k (k - r) (by omega) (by omega)]
    congr 1
    have g := nf_ge (av := av) (r := r) (com := com) k
    have l := nf_late (av := av) (r := r) (com := com) k
    have o := nf_or (av := av) (r := r) (com := com) k
    have ht : tk av r com k = decide (nf av r com k ≤ k + 1 ∧ av (k + 1) = true) := rfl
    rw [ht, hav k]
    generalize ((fcl w here r k).drop (k - r)).sum = S
    generalize here k = x
    generalize w k = y
    generalize nf av r com k = f at *
    show [_] = [_]
    congr 1
    have b : ∀ (p : Prop) [Decidable p], bi (decide p) = if p then 1 else 0 := fun p _ => by unfold bi; by_cases q : p <;> simp [q]
    rw [b, b]
    simp only [decide_eq_true_eq]
    split <;> split <;> split <;> omega
/-- fewer open nights, fewer nights taken -/
theorem gr_mono (hs : ∀ t, av t = true → av' t = true) : ∀ (m t f f' : Nat), (f' ≤ max f t → (gr av r m t f).length ≤ (gr av' r m t f').length) ∧ (f' ≤ t + r → (gr av r m t f).length ≤ 1 + (gr av' r m t f').length)
  | 0, _, _, _ => by simp [gr]
  | m + 1, t, f, f' => by
    have p1 := (gr_mono hs m (t + 1) (t + r + 1) (t + r + 1)).1 (by omega)
    have p2 := (gr_mono hs m (t + 1) f f').1
    have q1 := (gr_mono hs m (t + 1) f (t + r + 1)).2 (by omega)
    have q2 := (gr_mono hs m (t + 1) f f').2
    have p3 := (gr_mono hs m (t + 1) (t + r + 1) f').1
    have s := hs t
    rw [gr, gr]
    by_cases a : f ≤ t ∧ av t = true <;> by_cases a' : f' ≤ t ∧ av' t = true
    · rw [if_pos a, if_pos a', List.length_cons, List.length_cons]
      exact ⟨fun _ => by omega, fun _ => by omega⟩
    · rw [if_pos a, if_neg a', List.length_cons]
      refine ⟨fun h => absurd ⟨by omega, s a.2⟩ a', fun h => ?_⟩
      have := p3 (by omega)
      omega
    · rw [if_neg a, if_pos a', List.length_cons]
      exact ⟨fun _ => by omega, fun _ => by omega⟩
    · rw [if_neg a, if_neg a']
      exact ⟨fun h => p2 (by omega), fun h => q2 (by omega)⟩
end
theorem hereK_perm (h : HouseT) {a b : List Int} (p : a.Perm b) : hereK h a = hereK h b := by
  funext k
  unfold hereK
  rw [(p.filter _).length_eq]
theorem hereK_cons (h : HouseT) (p : Int) (a : List Int) : hereK h (p :: a) = fun k => hereK h a k + bi (decide (h.com p ≤ k + 1)) := by
  funext k
  unfold hereK
  rw [List.filter_cons]
  cases q : decide (h.com p ≤ (k : Int) + 1) <;> simp [bi]
theorem fcl_get (w here : Nat → Int) (r : Nat) : ∀ n k, k < n → (fcl w here r n).getD k 0 = min (w k) (here k - ((fcl w here r k).drop (k - r)).sum)
  | n + 1, k, h => by
    rw [fcl]
    by_cases q : k < n
    · have := fcl_get w here r n k q
      simp [List.getD, List.getElem?_append, fcl_len, q] at this ⊢
      exact this
    · have : k = n := by omega
      subst this
      simp [List.getD, List.getElem?_append, fcl_len]
/-- the nights of growth that are open -/
def avH (h : HouseT) (a : List Int) : Nat → Bool := fun t => decide (0 < h.wt (t - 1) - min (h.wt (t - 1)) (hereK h a (t - 1) - ((fcl h.wt (hereK h a) h.rest.toNat (t - 1)).drop (t - 1 - h.rest.toNat)).sum))
theorem gr_congr {av av' : Nat → Bool} {r : Nat} : ∀ (m t f : Nat), (∀ u, t ≤ u → u < t + m → av u = av' u) → gr av r m t f = gr av' r m t f
  | 0, _, _, _ => rfl
  | m + 1, t, f, h => by
    rw [gr, gr, h t (Nat.le_refl _) (by omega), gr_congr m (t + 1) (t + r + 1) fun u a b => h u (by omega) (by omega), gr_congr m (t + 1) f fun u a b => h u (by omega) (by omega)]
theorem growN_eq (h : HouseT) (a : List Int) (p : Int) : growN h a p = gr (avH h a) h.rest.toNat h.n 1 (h.com p).toNat := by
  unfold growN
  refine gr_congr _ _ _ fun u u1 u2 => ?_
  show decide _ = decide _
  unfold fcH
  rw [fcl_get _ _ _ _ _ (by omega)]
theorem fcH_cons (h : HouseT) (a : List Int) (p : Int) (hc : 1 ≤ h.com p) : fcH h (p :: a) = (List.range h.n).map fun k => (fcH h a).getD k 0 + bi (decide (((k + 1 : Nat) : Int) ∈ growH h a p)) := by
  unfold fcH
  rw [hereK_cons]
  have e : (fun k : Nat => hereK h a k + bi (decide (h.com p ≤ (k : Int) + 1))) = fun k => hereK h a k + bi (decide ((h.com p).toNat ≤ k + 1)) := by
    funext k
    have : decide (h.com p ≤ (k : Int) + 1) = decide ((h.com p).toNat ≤ k + 1) := by rw [decide_eq_decide]; omega
    rw [this]
  rw [e, fcl_more (w := h.wt) (here := hereK h a) (r := h.rest.toNat) (com := (h.com p).toNat) (av := avH h a) (by omega) (fun k => rfl)]
  apply List.ext_getElem?
  intro k
  by_cases hk : k < h.n
  · have hx := getD_at (xs := fcl h.wt (hereK h a) h.rest.toNat h.n) (k := k) (by rw [fcl_len]; exact hk) 0
    have hy := getD_at (xs := tl (avH h a) h.rest.toNat (h.com p).toNat h.n) (k := k) (by rw [tl_len]; exact hk) 0
    rw [tl_at _ _ hk] at hy
    have hm : decide (((k + 1 : Nat) : Int) ∈ growH h a p) = tk (avH h a) h.rest.toNat (h.com p).toNat k := by
      rw [Bool.eq_iff_iff, decide_eq_true_eq]
      unfold growH
      rw [growN_eq, List.mem_map]
      constructor
      · rintro ⟨t, ht, e⟩
        obtain ⟨j, j0, j1, j2, j3⟩ := (mem_gr (com := (h.com p).toNat) h.n 0 t).mp ht
        have : j = k := by omega
        rw [← this]; exact j2
      · intro z
        exact ⟨k + 1, (mem_gr (com := (h.com p).toNat) h.n 0 (k + 1)).mpr ⟨k, by omega, by omega, z, rfl⟩, rfl⟩
    rw [List.getElem?_zipWith, hx, hy, List.getElem?_map, List.getElem?_range hk]
    rw [← hm]; rfl
  · rw [List.getElem?_eq_none (by rw [List.length_zipWith, fcl_len, tl_len]; omega), List.getElem?_eq_none (by simp; omega)]
theorem fcH_perm (h : HouseT) {a b : List Int} (p : a.Perm b) : fcH h a = fcH h b := by unfold fcH; rw [hereK_perm h p]
theorem bi_nn (b : Bool) : 0 ≤ bi b := by cases b <;> decide
theorem fcH_mono (h : HouseT) (a : List Int) : ∀ (c : List Int), (∀ p ∈ c, 1 ≤ h.com p) → ∀ k, (fcH h a).getD k 0 ≤ (fcH h (c ++ a)).getD k 0
  | [], _, _ => Int.le_refl _
  | p :: c, hc, k => by
    have ih := fcH_mono h a c (fun q hq => hc q (by simp [hq])) k
    rw [List.cons_append, fcH_cons h _ p (hc p (by simp))]
    by_cases hk : k < h.n
    · have := bi_nn (decide (((k + 1 : Nat) : Int) ∈ growH h (c ++ a) p))
      have e : ((List.range h.n).map fun k => (fcH h (c ++ a)).getD k 0 + bi (decide (((k + 1 : Nat) : Int) ∈ growH h (c ++ a) p))).getD k 0 = (fcH h (c ++ a)).getD k 0 + bi (decide (((k + 1 : Nat) : Int) ∈ growH h (c ++ a) p)) := by
        simp [List.getD, hk]
      rw [e]; omega
    · have l : ∀ a, (fcH h a).length = h.n := fun a => fcl_len _ _ _ _
      have z1 : (fcH h a).getD k 0 = 0 := by rw [List.getD, List.getElem?_eq_none (by rw [l]; omega)]; rfl
      rw [z1, List.getD, List.getElem?_eq_none (by simp; omega)]
      exact Int.le_refl _
theorem more_of : ∀ (a b : List Int), a.Nodup → (∀ x ∈ a, x ∈ b) → ∃ c : List Int, b.Perm (c ++ a) ∧ ∀ x ∈ c, x ∈ b
  | [], b, _, _ => ⟨b, by simp, fun _ h => h⟩
  | x :: a, b, nd, hs => by
    have hx := hs x (by simp)
    obtain ⟨n1, n2⟩ := List.nodup_cons.mp nd
    obtain ⟨c, hc, hm⟩ := more_of a (b.erase x) n2 fun y hy => (List.mem_erase_of_ne (fun e => by subst e; exact n1 hy)).mpr (hs y (by simp [hy]))
    exact ⟨c, (List.perm_cons_erase hx).trans ((hc.cons x).trans List.perm_middle.symm), fun y hy => List.mem_of_mem_erase (hm y hy)⟩
/-- over more people no more nights -/
theorem growH_mono (h : HouseT) {a b : List Int} (p : Int) (nd : a.Nodup) (hs : ∀ x ∈ a, x ∈ b) (hc : ∀ x ∈ b, 1 ≤ h.com x) : (growH h b p).length ≤ (growH h a p).length := by
  unfold growH
  rw [List.length_map, List.length_map]
  obtain ⟨c, pc, hm⟩ := more_of a b nd hs
  unfold growN
  refine (gr_mono (fun t ht => ?_) _ _ _ _).1 (by omega)
  have ht := of_decide_eq_true ht
  have := fcH_mono h a c (fun x hx => hc x (hm x hx)) (t - 1)
  rw [← fcH_perm h pc] at this
  exact decide_eq_true (by omega)
end Vc
namespace Vc
open Py (toP)
open PySem PySem.Spec PyProof.Rows L2 Rn
theorem badPeople_ok {n : Nat} : ∀ {ps seen : List Int}, ps.Nodup → (∀ p ∈ ps, 0 ≤ p ∧ p < n ∧ p ∉ seen) → badPeople n seen ps = none
  | [], _, _, _ => rfl
  | p :: ps, seen, nd, h => by
    obtain ⟨n1, n2⟩ := List.nodup_cons.mp nd
    have hp := h p (by simp)
    rw [badPeople_cons, if_pos ⟨hp.1, hp.2.1⟩, if_neg hp.2.2]
    refine badPeople_ok n2 fun q hq => ?_
    have := h q (by simp [hq])
    refine ⟨this.1, this.2.1, fun m => ?_⟩
    rcases List.mem_cons.mp m with e | e
    · subst e; exact n1 hq
    · exact this.2.2 e
theorem gr_len {av : Nat → Bool} {r : Nat} : ∀ (m t f : Nat), (gr av r m t f).length ≤ m
  | 0, _, _ => by simp [gr]
  | m + 1, t, f => by
    rw [gr]
    split
    · have := gr_len (av := av) (r := r) m (t + 1) (t + r + 1); rw [List.length_cons]; omega
    · have := gr_len (av := av) (r := r) m (t + 1) f; omega
theorem growH_len (h : HouseT) (a : List Int) (p : Int) : (growH h a p).length ≤ h.n := by unfold growH; rw [List.length_map]; exact gr_len _ _ _
theorem okN_ints {n : Nat} {xs : List Int} (h : xs.length ≤ 1000000) : (toP xs).okN (n + 2) := ⟨by rw [List.length_map]; exact h, fun d hd => by
  obtain ⟨x, _, rfl⟩ := List.mem_map.mp hd
  exact True.intro⟩
theorem dueErr_some {h : HouseT} {ps : List Int} {p : Int} {e : Err} (he : dueErr h ps p = some e) : (∃ x, e = noPerson x) ∨ ∃ x, e = namedTwice x := by
  unfold dueErr at he
  cases hb : badPeople h.p [] ps with
  | some er => rw [hb] at he; cases he; exact badPeople_some hb
  | none =>
    rw [hb] at he
    dsimp only at he
    split at he
    · split at he
      · cases he; exact .inr ⟨_, rfl⟩
      · cases he
    · cases he; exact .inl ⟨_, rfl⟩
theorem errL_ok {n : Nat} {e : Err} (h : (∃ x, e = noPerson x) ∨ ∃ x, e = namedTwice x) : (PV.tup (errL e)).okN (n + 2) := by
  rcases h with ⟨x, rfl⟩ | ⟨x, rfl⟩ <;> exact ⟨by simp [errL], fun d hd => by simp [errL, noPerson, namedTwice] at hd; rcases hd with rfl | rfl | rfl | rfl <;> exact True.intro⟩
end Vc
namespace Vc
open Py (toP)
open PySem PySem.Spec PyProof.Rows L2 Rn
theorem badPeople_nodup {n : Nat} : ∀ {ps seen : List Int}, badPeople n seen ps = none → ps.Nodup ∧ ∀ p ∈ ps, p ∉ seen
  | [], _, _ => ⟨List.nodup_nil, nofun⟩
  | p :: ps, seen, h => by
    rw [badPeople_cons] at h
    split at h
    · split at h
      · cases h
      · rename_i hs
        obtain ⟨h1, h2⟩ := badPeople_nodup h
        refine ⟨List.nodup_cons.mpr ⟨fun m => h2 p m (by simp), h1⟩, fun q hq => ?_⟩
        rcases List.mem_cons.mp hq with e | e
        · rw [e]; exact hs
        · exact fun m => h2 q e (List.mem_cons_of_mem _ m)
    · cases h
theorem dueErr_none {h : HouseT} {ps : List Int} {p : Int} (he : dueErr h ps p = none) : badPeople h.p [] ps = none ∧ 0 ≤ p ∧ p < h.p ∧ p ∉ ps := by
  unfold dueErr at he
  cases hb : badPeople h.p [] ps with
  | some er => rw [hb] at he; cases he
  | none =>
    rw [hb] at he
    dsimp only at he
    split at he
    · rename_i hc
      split at he
      · cases he
      · rename_i hm; exact ⟨rfl, hc.1, hc.2, hm⟩
    · cases he
theorem fcH_len (h : HouseT) (a : List Int) : (fcH h a).length = h.n := fcl_len _ _ _ _
end Vc

/-! orders are steepest: plain mathematics. -/
namespace Vc
open Py (toP)
open PySem PySem.Spec PyProof.Rows L2 Rn
open PySem.W (Tup Datum)
def wrongLength (a b : Int) : Err := ⟨"WrongLength", ["found", "wanted"], [toP a, toP b]⟩
/-- rows that keep the comings and the rest -/
def Fits (cs : List Int) (g : Int) (rows : List (List Int)) : Prop := ∀ t : Nat, (rows.getD t []).Nodup ∧ (rows.getD t []).length ≤ cs.length ∧ ∀ p ∈ rows.getD t [], 0 ≤ p ∧ p < cs.length ∧ cs.getD p.toNat 0 ≤ t + 1 ∧ ∀ s : Nat, s < t → p ∈ rows.getD s [] → (s : Int) + g < t
def countsR (rows : List (List Int)) (k : Nat) : List Int := (List.range k).map fun q : Nat => ((((List.range rows.length).filter fun t => decide ((q : Int) ∈ rows.getD t [])).length : Nat) : Int)
def cutR (rows : List (List Int)) (ds : List Int) : List (List Int) := (List.range ds.length).map fun t => (rows.getD t []).take (ds.getD t 0).toNat
def SubR (xs ys : List (List Int)) : Prop := xs.length = ys.length ∧ ∀ t : Nat, ((xs.getD t []).Sublist (ys.getD t []))
theorem Fits.sub {cs : List Int} {g : Int} {xs ys : List (List Int)} (h : Fits cs g ys) (s : SubR xs ys) : Fits cs g xs := fun t => by
  obtain ⟨h1, h2, h3⟩ := h t
  have st := s.2 t
  refine ⟨h1.sublist st, Nat.le_trans st.length_le h2, fun p hp => ?_⟩
  obtain ⟨a, b, c, d⟩ := h3 p (st.subset hp)
  exact ⟨a, b, c, fun u hu hm => d u hu ((s.2 u).subset hm)⟩
theorem cutR_get (rows : List (List Int)) (ds : List Int) (t : Nat) : (cutR rows ds).getD t [] = if t < ds.length then (rows.getD t []).take (ds.getD t 0).toNat else [] := by
  unfold cutR
  by_cases h : t < ds.length
  · simp [List.getD, h]
  · rw [if_neg h, List.getD, List.getElem?_eq_none (by simp; omega)]; rfl
theorem cutR_sub {rows : List (List Int)} {ds : List Int} (h : rows.length = ds.length) : SubR (cutR rows ds) rows := ⟨by simp [cutR, h], fun t => by
  rw [cutR_get]
  split
  · exact List.take_sublist _ _
  · exact List.nil_sublist _⟩
theorem cutR_le (rows : List (List Int)) (ds : List Int) (t : Nat) : ((cutR rows ds).getD t []).length ≤ (ds.getD t 0).toNat := by
  rw [cutR_get]
  split
  · rw [List.length_take]; omega
  · simp
theorem nodup_len {a b : List Int} (nd : a.Nodup) (hs : ∀ x ∈ a, x ∈ b) : a.length ≤ b.length := by
  obtain ⟨c, pc, _⟩ := more_of a b nd hs
  rw [pc.length_eq, List.length_append]; omega
/-- who takes which nights -/
structure PlanOk (h : HouseT) (on : Int → Nat → Bool) : Prop where
  com : ∀ p t, on p t = true → h.com p ≤ t + 1
  apart : ∀ p s t, s < t → on p s = true → on p t = true → s + h.rest.toNat < t
  few : ∀ (g : List Int), g.Nodup → (∀ p ∈ g, 0 ≤ p ∧ p < h.p) → ∀ t, t < h.n → ((g.filter fun p => on p t).length : Int) ≤ h.wt t
def onCount (h : HouseT) (on : Int → Nat → Bool) (p : Int) : Int := ((List.range h.n).filter fun t => on p t).length
theorem sum_map_add {α : Type} (f g : α → Int) : ∀ l : List α, (l.map fun x => f x + g x).sum = (l.map f).sum + (l.map g).sum
  | [] => rfl
  | x :: l => by simp only [List.map_cons, List.sum_cons, sum_map_add f g l]; omega
theorem sum_map_zero {α : Type} : ∀ l : List α, (l.map fun _ => (0 : Int)).sum = 0
  | [] => rfl
  | x :: l => by simp only [List.map_cons, List.sum_cons, sum_map_zero l]; rfl
theorem sum_map_le {α : Type} (f g : α → Int) : ∀ l : List α, (∀ x ∈ l, f x ≤ g x) → (l.map f).sum ≤ (l.map g).sum
  | [], _ => Int.le_refl _
  | x :: l, h => by
    have := sum_map_le f g l fun y hy => h y (by simp [hy])
    have := h x (by simp)
    simp only [List.map_cons, List.sum_cons]; omega
theorem len_filter {α : Type} (c : α → Bool) : ∀ l : List α, ((l.filter c).length : Int) = (l.map fun x => bi (c x)).sum
  | [] => rfl
  | x :: l => by
    rw [List.filter_cons, List.map_cons, List.sum_cons, ← len_filter c l]
    cases c x <;> simp [bi]; omega
/-- counted by nights or by people -/
theorem swap (on : Int → Nat → Bool) (T : List Nat) : ∀ g : List Int, (T.map fun t => ((g.filter fun p => on p t).length : Int)).sum = (g.map fun p => ((T.filter fun t => on p t).length : Int)).sum
  | [] => sum_map_zero T
  | p :: g => by
    rw [List.map_cons, List.sum_cons, ← swap on T g, len_filter, ← sum_map_add]
    congr 1
    refine List.map_congr_left fun t _ => ?_
    rw [List.filter_cons]
    cases on p t <;> simp [bi]; omega
theorem fcl_take (w here : Nat → Int) (r : Nat) : ∀ k m, m ≤ k → (fcl w here r k).take m = fcl w here r m
  | 0, m, h => by have : m = 0 := by omega
                  subst this; rfl
  | k + 1, m, h => by
    by_cases e : m = k + 1
    · subst e; rw [List.take_of_length_le (by rw [fcl_len]; omega)]
    · rw [fcl, List.take_append_of_le_length (by rw [fcl_len]; omega), fcl_take w here r k m (by omega)]
theorem sum_split (l : List Int) (m : Nat) : l.sum = (l.take m).sum + (l.drop m).sum := by
  conv => lhs; rw [← List.take_append_drop m l]
  rw [List.sum_append]
/-- prefix sums below those of first choice -/
theorem fcl_best {w here X : Nat → Int} {r : Nat} (n : Nat) (h0 : X 0 ≤ 0) (h1 : ∀ k, k < n → X (k + 1) ≤ X k + w k) (h2 : ∀ k, k < n → X (k + 1) ≤ here k + X (k - r)) : ∀ k, k ≤ n → X k ≤ (fcl w here r k).sum := by
  intro k
  induction k using Nat.strongRecOn with
  | _ k ih =>
    intro hk
    cases k with
    | zero => simpa [fcl] using h0
    | succ k =>
      have a := ih k (by omega) (by omega)
      have b := ih (k - r) (by omega) (by omega)
      have c := h1 k (by omega)
      have d := h2 k (by omega)
      have e := sum_split (fcl w here r k) (k - r)
      rw [fcl_take w here r k (k - r) (by omega)] at e
      rw [fcl, List.sum_append, List.sum_cons, List.sum_nil]
      omega
theorem pair_lt (on : Nat → Bool) (r : Nat) : ∀ T : List Nat, T.Pairwise (· < ·) → (∀ s ∈ T, ∀ t ∈ T, s < t → on s = true → on t = true → False) → (T.filter on).length ≤ 1 := fun T hp hn => by
  have hq := hp.filter on
  cases e : T.filter on with
  | nil => simp
  | cons a l =>
    cases l with
    | nil => simp
    | cons b l =>
      rw [e] at hq
      have ha : a ∈ T.filter on := by rw [e]; simp
      have hb : b ∈ T.filter on := by rw [e]; simp
      have q := (List.pairwise_cons.mp hq).1 b (by simp)
      exact absurd (hn a (List.mem_filter.mp ha).1 b (List.mem_filter.mp hb).1 q (List.mem_filter.mp ha).2 (List.mem_filter.mp hb).2) id
/-- no plan keeps more for these people than first choice -/
theorem plan_le {h : HouseT} (hk : h.Ok) {on : Int → Nat → Bool} (ok : PlanOk h on) {g : List Int} (nd : g.Nodup) (hg : ∀ p ∈ g, 0 ≤ p ∧ p < h.p) : (g.map (onCount h on)).sum ≤ (fcH h g).sum := by
  unfold onCount
  rw [← swap on (List.range h.n) g]
  let x : Nat → Int := fun t => ((g.filter fun p => on p t).length : Int)
  let X : Nat → Int := fun k => ((List.range k).map x).sum
  have hs : ∀ k, X (k + 1) = X k + x k := fun k => by
    show ((List.range (k + 1)).map x).sum = _
    rw [List.range_succ, List.map_append, List.sum_append]; simp; rfl
  refine fcl_best (X := X) h.n (Int.le_refl _) (fun k hk => ?_) (fun k hkn => ?_) h.n (Nat.le_refl _)
  · rw [hs]
    have q : x k ≤ h.wt k := ok.few g nd hg k hk
    show X k + x k ≤ X k + h.wt k
    omega
  · -- the window
    have e : X (k + 1) = X (k - h.rest.toNat) + (((List.range (k + 1)).drop (k - h.rest.toNat)).map x).sum := by
      show ((List.range (k + 1)).map x).sum = _
      rw [sum_split _ (k - h.rest.toNat), ← List.map_take, ← List.map_drop, List.take_range, Nat.min_eq_left (by omega)]
    have q : (((List.range (k + 1)).drop (k - h.rest.toNat)).map x).sum ≤ hereK h g k := by
      show (((List.range (k + 1)).drop (k - h.rest.toNat)).map fun t => ((g.filter fun p => on p t).length : Int)).sum ≤ _
      rw [swap]
      unfold hereK
      rw [len_filter]
      refine sum_map_le _ _ _ fun p hp => ?_
      have hT : ∀ t ∈ (List.range (k + 1)).drop (k - h.rest.toNat), k - h.rest.toNat ≤ t ∧ t ≤ k := fun t ht => by
        obtain ⟨i, hi, e⟩ := List.mem_iff_getElem.mp ht
        rw [List.getElem_drop, List.getElem_range] at e
        rw [List.length_drop, List.length_range] at hi
        omega
      by_cases hc : h.com p ≤ k + 1
      · rw [decide_eq_true hc]
        have := pair_lt (fun t => on p t) h.rest.toNat ((List.range (k + 1)).drop (k - h.rest.toNat)) (List.pairwise_lt_range.sublist (List.drop_sublist _ _)) fun s hs t ht hst a b => by
          have := ok.apart p s t hst a b
          have := hT s hs
          have := hT t ht
          omega
        show _ ≤ (1 : Int)
        omega
      · rw [decide_eq_false hc]
        have : ((List.range (k + 1)).drop (k - h.rest.toNat)).filter (fun t => on p t) = [] := List.filter_eq_nil_iff.mpr fun t ht z => by
          have := ok.com p t z
          have := hT t ht
          omega
        rw [this]; exact Int.le_refl _
    omega
theorem plan_rows {h : HouseT} (hk : h.Ok) {rows : List (List Int)} (hf : Fits h.comings.items h.rest rows) (hw : ∀ t, (rows.getD t []).length ≤ (h.wants.numbers.items.getD t 0).toNat) : PlanOk h fun p t => decide (p ∈ rows.getD t []) where
  com p t e := ((hf t).2.2 p (of_decide_eq_true e)).2.2.1
  apart p s t hst a b := by
    have := ((hf t).2.2 p (of_decide_eq_true b)).2.2.2 s hst (of_decide_eq_true a)
    have := hk.r0
    omega
  few g nd hg t ht := by
    have := nodup_len (nd.filter _) fun x (hx : x ∈ g.filter fun p => decide (p ∈ rows.getD t [])) => of_decide_eq_true (List.mem_filter.mp hx).2
    have := hw t
    have := (hk.wt0 t).1
    show _ ≤ h.wants.numbers.items.getD t 0
    have e : h.wt t = h.wants.numbers.items.getD t 0 := rfl
    omega
/-! ### the plan of an order -/
def before (od : List Int) (q : Int) : List Int := od.takeWhile fun x => decide (x ≠ q)
/-- the nights of each person, one after another -/
def nio (h : HouseT) (od : List Int) : List (List Int) := (List.range h.p).map fun q : Nat => growH h (before od q) q
def onO (h : HouseT) (od : List Int) : Int → Nat → Bool := fun q t => decide (((t + 1 : Nat) : Int) ∈ growH h (before od q) q)
theorem mem_growH {h : HouseT} {a : List Int} {p : Int} {t : Nat} : ((t + 1 : Nat) : Int) ∈ growH h a p ↔ t < h.n ∧ tk (avH h a) h.rest.toNat (h.com p).toNat t = true := by
  unfold growH
  rw [growN_eq, List.mem_map]
  constructor
  · rintro ⟨u, hu, e⟩
    obtain ⟨j, j0, j1, j2, j3⟩ := (mem_gr (com := (h.com p).toNat) h.n 0 u).mp hu
    have : j = t := by omega
    subst this
    exact ⟨by omega, j2⟩
  · rintro ⟨z1, z2⟩
    exact ⟨t + 1, (mem_gr (com := (h.com p).toNat) h.n 0 (t + 1)).mpr ⟨t, by omega, by omega, z2, rfl⟩, rfl⟩
theorem nf_after {av : Nat → Bool} {r com s : Nat} (h : tk av r com s = true) : ∀ k, s < k → s + r + 2 ≤ nf av r com k
  | k + 1, hk => by
    rw [nf_succ]
    by_cases e : s = k
    · subst e; rw [if_pos h]; omega
    · have := nf_after h k (by omega)
      split <;> omega
theorem gr_sorted {av : Nat → Bool} {r : Nat} : ∀ (m t f : Nat), (gr av r m t f).Pairwise (· < ·) ∧ ∀ u ∈ gr av r m t f, t ≤ u
  | 0, _, _ => by simp [gr]
  | m + 1, t, f => by
    have a := gr_sorted (av := av) (r := r) m (t + 1) (t + r + 1)
    have b := gr_sorted (av := av) (r := r) m (t + 1) f
    rw [gr]
    split
    · refine ⟨List.pairwise_cons.mpr ⟨fun u hu => by have := a.2 u hu; omega, a.1⟩, fun u hu => ?_⟩
      rcases List.mem_cons.mp hu with e | e
      · omega
      · have := a.2 u e; omega
    · exact ⟨b.1, fun u hu => by have := b.2 u hu; omega⟩
theorem growH_count (h : HouseT) (a : List Int) (p : Int) : ((growH h a p).length : Int) = ((List.range h.n).filter fun t => decide (((t + 1 : Nat) : Int) ∈ growH h a p)).length := by
  have e : ((List.range h.n).filter fun t => decide (((t + 1 : Nat) : Int) ∈ growH h a p)).length = (((List.range h.n).filter fun t => decide (((t + 1 : Nat) : Int) ∈ growH h a p)).map fun t : Nat => ((t + 1 : Nat) : Int)).length := by rw [List.length_map]
  rw [e]
  have nd : (growH h a p).Nodup := by
    unfold growH
    rw [List.nodup_iff_pairwise_ne, List.pairwise_map]
    exact (gr_sorted _ _ _).1.imp fun h => by omega
  have nd2 : (((List.range h.n).filter fun t => decide (((t + 1 : Nat) : Int) ∈ growH h a p)).map fun t : Nat => ((t + 1 : Nat) : Int)).Nodup := by
    rw [List.nodup_iff_pairwise_ne, List.pairwise_map]
    exact (List.pairwise_lt_range.filter _).imp fun h => by omega
  have l1 : (growH h a p).length ≤ (((List.range h.n).filter fun t => decide (((t + 1 : Nat) : Int) ∈ growH h a p)).map fun t : Nat => ((t + 1 : Nat) : Int)).length := nodup_len nd fun x hx => by
    have hx' := hx
    unfold growH at hx'
    rw [growN_eq] at hx'
    obtain ⟨u, hu, rfl⟩ := List.mem_map.mp hx'
    obtain ⟨j, j0, j1, j2, j3⟩ := (mem_gr (com := (h.com p).toNat) h.n 0 u).mp hu
    subst j3
    exact List.mem_map.mpr ⟨j, List.mem_filter.mpr ⟨List.mem_range.mpr (by omega), decide_eq_true hx⟩, rfl⟩
  have l2 := nodup_len nd2 fun x hx => by
    obtain ⟨t, ht, rfl⟩ := List.mem_map.mp hx
    exact of_decide_eq_true (List.mem_filter.mp ht).2
  omega
theorem before_at {od : List Int} (nd : od.Nodup) {j : Nat} (hj : j < od.length) : before od od[j] = od.take j := by
  unfold before
  induction od generalizing j with
  | nil => simp at hj
  | cons x od ih =>
    obtain ⟨n1, n2⟩ := List.nodup_cons.mp nd
    cases j with
    | zero => simp
    | succ j =>
      have hm : od[j]'(by simpa using hj) ∈ od := List.getElem_mem _
      have hne : x ≠ od[j]'(by simpa using hj) := fun e => n1 (by rw [e]; exact hm)
      simp only [List.getElem_cons_succ, List.take_succ_cons, List.takeWhile_cons]
      rw [decide_eq_true hne, if_pos rfl, ih n2 (by simpa using hj)]
theorem fc_nil {w : Nat → Int} (hw : ∀ k, 0 ≤ w k) (r : Nat) : ∀ k, ∀ x ∈ fcl w (fun _ => 0) r k, x = 0
  | 0, x, h => by simp [fcl] at h
  | k + 1, x, h => by
    have ih := fc_nil hw r k
    rw [fcl] at h
    rcases List.mem_append.mp h with e | e
    · exact ih x e
    · have hz : ((fcl w (fun _ => 0) r k).drop (k - r)).sum = 0 := by
        have : ∀ l : List Int, (∀ x ∈ l, x = 0) → l.sum = 0 := fun l => by
          induction l with
          | nil => intro _; rfl
          | cons a l ih => intro h; rw [List.sum_cons, h a (by simp), ih fun x hx => h x (by simp [hx])]; rfl
        exact this _ fun x hx => ih x (List.mem_of_mem_drop hx)
      have := List.mem_singleton.mp e
      rw [hz] at this
      have := hw k
      omega
theorem fcH_nil {h : HouseT} (hk : h.Ok) (t : Nat) : (fcH h []).getD t 0 = 0 := by
  have e : hereK h [] = fun _ => 0 := by funext k; rfl
  unfold fcH
  rw [e]
  by_cases ht : t < h.n
  · have hx := getD_at (xs := fcl h.wt (fun _ => 0) h.rest.toNat h.n) (k := t) (by rw [fcl_len]; exact ht) 0
    exact fc_nil (fun k => (hk.wt0 k).1) _ _ _ (List.mem_of_getElem? hx)
  · rw [List.getD, List.getElem?_eq_none (by rw [fcl_len]; omega)]; rfl
theorem fcH_get_cons {h : HouseT} {a : List Int} {p : Int} (hc : 1 ≤ h.com p) {t : Nat} (ht : t < h.n) : (fcH h (p :: a)).getD t 0 = (fcH h a).getD t 0 + bi (decide (((t + 1 : Nat) : Int) ∈ growH h a p)) := by
  rw [fcH_cons h a p hc]
  simp [List.getD, ht]
theorem order_fc {h : HouseT} (hk : h.Ok) {od : List Int} (nd : od.Nodup) (hr : ∀ p ∈ od, 0 ≤ p ∧ p < h.p) {t : Nat} (ht : t < h.n) : ∀ j, j ≤ od.length → (fcH h (od.take j)).getD t 0 = (((od.take j).filter fun q => onO h od q t).length : Int)
  | 0, _ => by rw [List.take_zero, fcH_nil hk]; rfl
  | j + 1, hj => by
    have ih := order_fc hk nd hr ht j (by omega)
    have hp := hr od[j] (List.getElem_mem _)
    rw [List.take_succ_eq_append_getElem (by omega), fcH_perm h (b := od[j] :: od.take j) (List.perm_append_singleton od[j] (od.take j)), fcH_get_cons (hk.com1 hp.1 hp.2).2.1 ht, ih, List.filter_append, List.length_append]
    have e : onO h od od[j] t = decide (((t + 1 : Nat) : Int) ∈ growH h (od.take j) od[j]) := by unfold onO; rw [before_at nd (by omega)]
    rw [List.filter_cons, e]
    cases decide (((t + 1 : Nat) : Int) ∈ growH h (od.take j) od[j]) <;> simp [bi]
theorem getD_sum (l : List Int) : l.sum = ((List.range l.length).map fun t => l.getD t 0).sum := by
  congr 1
  apply List.ext_getElem?
  intro i
  by_cases hi : i < l.length
  · simp [List.getD, hi]
  · rw [List.getElem?_eq_none (by omega), List.getElem?_eq_none (by simp; omega)]
/-- the first j of an order keep what first choice gives them -/
theorem order_sum {h : HouseT} (hk : h.Ok) {od : List Int} (nd : od.Nodup) (hr : ∀ p ∈ od, 0 ≤ p ∧ p < h.p) {j : Nat} (hj : j ≤ od.length) : ((od.take j).map (onCount h (onO h od))).sum = (fcH h (od.take j)).sum := by
  unfold onCount
  rw [← swap, getD_sum (fcH h (od.take j)), fcH_len]
  congr 1
  refine List.map_congr_left fun t ht => ?_
  exact (order_fc hk nd hr (List.mem_range.mp ht) j hj).symm
theorem plan_order {h : HouseT} (hk : h.Ok) {od : List Int} (nd : od.Nodup) (hr : ∀ p, p ∈ od ↔ (0 ≤ p ∧ p < h.p)) : PlanOk h (onO h od) where
  com p t e := by
    have m := mem_growH.mp (of_decide_eq_true e)
    have := tk_le m.2
    have := nf_ge (av := avH h (before od p)) (r := h.rest.toNat) (com := (h.com p).toNat) t
    omega
  apart p s t hst a b := by
    have ma := mem_growH.mp (of_decide_eq_true a)
    have mb := mem_growH.mp (of_decide_eq_true b)
    have := nf_after ma.2 t hst
    have := tk_le mb.2
    omega
  few g nd' hg t ht := by
    have l := nodup_len (nd'.filter _) fun x (hx : x ∈ g.filter fun p => onO h od p t) => List.mem_filter.mpr ⟨(hr x).mpr (hg x (List.mem_filter.mp hx).1), (List.mem_filter.mp hx).2⟩
    have q := order_fc hk nd (fun p hp => (hr p).mp hp) ht od.length (Nat.le_refl _)
    rw [List.take_length] at q
    have : (fcH h od).getD t 0 ≤ h.wt t := by
      unfold fcH
      rw [fcl_get _ _ _ _ _ ht]
      exact Int.min_le_left _ _
    omega
theorem nio_counts (h : HouseT) (od : List Int) : (nio h od).map (fun x => (x.length : Int)) = (List.range h.p).map fun q : Nat => onCount h (onO h od) q := by
  unfold nio
  rw [List.map_map]
  exact List.map_congr_left fun q _ => growH_count h _ _
end Vc
namespace Vc
open Py (toP)
theorem nodup_inj {l : List Int} (nd : l.Nodup) {i j : Nat} (hi : i < l.length) (hj : j < l.length) (e : l[i] = l[j]) : i = j := by
  rw [List.nodup_iff_pairwise_ne, List.pairwise_iff_getElem] at nd
  rcases Nat.lt_trichotomy i j with h | h | h
  · exact absurd e (nd i j hi hj h)
  · exact h
  · exact absurd e.symm (nd j i hj hi h)
end Vc
namespace Vc
open Py (toP)
open PySem PySem.Spec PyProof.Rows L2 Rn
theorem countsR_on {h : HouseT} {rows : List (List Int)} (hl : rows.length = h.n) : countsR rows h.p = (List.range h.p).map fun q : Nat => onCount h (fun p t => decide (p ∈ rows.getD t [])) (q : Int) := by
  unfold countsR onCount
  rw [hl]
theorem order_ok {h : HouseT} {od : List Int} (hp : od.Perm (rng 0 h.p)) : od.Nodup ∧ od.length = h.p ∧ (∀ q, q ∈ od ↔ (0 ≤ q ∧ q < h.p)) ∧ badPeople h.p [] od = none := by
  have hmem : ∀ q, q ∈ od ↔ (0 ≤ q ∧ q < h.p) := fun q => by
    rw [hp.mem_iff, List.mem_iff_getElem]
    constructor
    · rintro ⟨i, hi, e⟩
      rw [rng_get hi] at e
      rw [rng_length] at hi
      omega
    · intro z
      exact ⟨q.toNat, by rw [rng_length]; omega, by rw [rng_get]; omega⟩
  have nr : (rng 0 h.p).Nodup := by
    rw [List.nodup_iff_pairwise_ne, List.pairwise_iff_getElem]
    intro i j hi hj hij
    rw [rng_get hi, rng_get hj]; omega
  have nd : od.Nodup := hp.nodup_iff.mpr nr
  exact ⟨nd, by rw [hp.length_eq, rng_length], hmem, badPeople_ok nd fun q hq => ⟨((hmem q).mp hq).1, ((hmem q).mp hq).2, by simp⟩⟩
end Vc

open PySem PySem.Spec PyProof.Rows L2 Rn
local macro_rules | `(tactic| walk_at "xt") => `(tactic| first
  | assumption
  | exact Xt.refl _
  | exact Gc.fh (by assumption)
  | (refine Xt.trans ?_ (Gr.fh (by assumption)); walk_at "xt")
  | (refine Xt.trans ?_ (Gc.fh (by assumption)); walk_at "xt")
  | (refine Xt.trans ?_ (Gr.ff (by assumption)); walk_at "xt"))
local macro_rules | `(tactic| walk_at "no") => `(tactic| first
  | assumption
  | (refine Gr.old (by assumption) ?_; walk_at "no")
  | (refine Gc.old (by assumption) ?_; walk_at "no"))
local macro_rules | `(tactic| walk_at "ne") => `(tactic| first
  | assumption
  | exact Ne.symm (by assumption)
  | (intro e; subst e; simp_all; done))
local macro_rules | `(tactic| walk_at "nm") => `(tactic| first
  | exact Gr.n0
  | (intro hm; have he := List.mem_singleton.mp hm; revert he; walk_at "ne")
  | (simp only [List.mem_cons, List.not_mem_nil, or_false, not_or]; refine ⟨?_, ?_⟩ <;> walk_at "ne"))
local macro_rules | `(tactic| walk_at "gs") => `(tactic| first
  | exact Gr.s0
  | (intro q hq; have he := List.mem_singleton.mp hq; rw [he]; first | exact .inl (List.mem_cons_self) | exact .inr (by walk_at "no") | exact .inl (List.mem_cons_of_mem _ List.mem_cons_self)))
local macro_rules | `(tactic| walk_at "gr") => `(tactic| first
  | assumption
  | exact Gr.refl (by walk_at "xt")
  | exact Gc.gr (by assumption)
  | exact Gr.weak (by assumption)
  | exact Gr.weak (Gc.gr (by assumption))
  | (refine Gr.trans ?_ (by assumption) ?_; (walk_at "gr"); (walk_at "gs"))
  | (refine Gr.trans ?_ (Gc.gr (by assumption)) ?_; (walk_at "gr"); (walk_at "gs")))
local macro_rules | `(tactic| walk_at "fn") => `(tactic| first
  | assumption
  | exact (Mu.frz_none (by assumption))
  | (refine Gr.no (by assumption) ?_ ?_; (walk_at "fn"); (walk_at "so")))
local macro_rules | `(tactic| walk_at "so") => `(tactic| first
  | assumption
  | exact PoolAt.some (by assumption)
  | exact Mu.some (by assumption)
  | (refine Gr.th (by assumption) _ ?_; walk_at "so")
  | (refine Gc.th (by assumption) _ ?_; walk_at "so"))
local macro_rules | `(tactic| walk_at "pool") => `(tactic| first
  | assumption
  | (refine PoolAt.gr ?_ (by assumption) ?_; (walk_at "pool"); (walk_at "nm"))
  | (refine PoolAt.gr ?_ (Gc.gr (by assumption)) ?_; (walk_at "pool"); (walk_at "nm")))
local macro_rules | `(tactic| walk_at "mu") => `(tactic| first
  | assumption
  | exact Mu.by (by assumption) (by walk_at "mu") (by walk_at "nm")
  | exact Mu.by (Gc.gr (by assumption)) (by walk_at "mu") (by walk_at "nm"))
local macro_rules | `(tactic| walk_at "ld") => `(tactic| first
  | assumption
  | exact Ld.ext (by assumption) (by walk_at "xt"))
local macro_rules | `(tactic| walk_at "rp") => `(tactic| first
  | exact rp_int _
  | exact rp_bl _
  | exact rp_str _
  | exact rp_non
  | assumption
  | exact Rp.ext (by assumption) (by walk_at "xt")
  | exact Ld.rp (by walk_at "ld"))
local macro_rules | `(tactic| walk_at "sees") => `(tactic| first
  | exact Rp.sees (by assumption) (by walk_at "xt")
  | exact Rp.sees (Ld.rp (by assumption)) (by walk_at "xt")
  | exact Mu.sees (by walk_at "mu"))
local macro_rules | `(tactic| walk_at "seesT") => `(tactic| first
  | exact Rp.seesT (by assumption) (by walk_at "xt"))
local macro_rules | `(tactic| walk_at "hp") => `(tactic| first
  | assumption
  | exact upd_same
  | exact Gr.at0 (by assumption) (by assumption)
  | exact Gc.at0 (by assumption) (by assumption))
local macro_rules | `(tactic| walk_at "rdc") => `(tactic| first | (with_reducible refine rd_seq ?_) | walk_at "rdc0")
local macro_rules | `(tactic| walk_at "rdq") => `(tactic| ((try dsimp only [cxK]); repeat' (first | (with_reducible refine rd_seqA ?_) | (with_reducible refine rd_seqD ?_) | walk_at "rdc0" | walk_at "rdv" | walk_at "rdw")))
local macro_rules | `(tactic| walk_at "rdc0") => `(tactic| with_reducible first
  | refine rd_asg ?_
  | refine rd_gname ?_
  | refine rd_var rfl ?_
  | refine rd_c ?_
  | refine rd_op ?_
  | refine rd_ret ?_
  | refine rd_retN ?_
  | refine rd_next ?_
  | refine rd_brk ?_
  | refine rd_ct ?_
  | refine rd_ifS ?_
  | refine rd_ifE ?_
  | refine rd_test ?_
  | refine rd_tB ?_
  | refine rd_bl ?_
  | refine rd_intE ?_
  | refine rd_not ?_
  | refine rd_and ?_
  | refine rd_or ?_
  | refine rd_andV ?_
  | refine rd_orV ?_
  | refine rd_notV ?_
  | refine rd_chain ?_
  | refine rd_cb ?_
  | refine rd_cons ?_
  | refine rd_nil ?_
  | refine rd_g ?_
  | refine rd_mk ?_
  | refine rd_mt ?_
  | refine rd_un ?_
  | refine rd_tup ?_
  | refine rd_lst ?_
  | refine rd_sl ?_
  | refine rd_part ?_
  | refine rd_nopart ?_
  | refine rd_bm ?_
  | refine rd_bm0 ?_
  | refine rd_drop ?_
  | refine rd_aug rfl ?_
  | refine rd_fl ?_
  | refine rd_sf ?_
  | refine rd_gsub ?_
  | refine rd_yes ?_
  | refine rd_lc ?_
  | refine rd_for ?_
  | refine rd_iL ?_
  | refine rd_iT ?_
  | refine rd_i1 ?_
  | refine rd_i2 ?_
  | refine rd_gcons ?_
  | refine rd_gnil ?_
  | refine rd_iE ?_
  | refine rd_iZ ?_
  | refine rd_iO ?_
  | refine iteT ?_
  | refine iteF ?_)
local macro_rules | `(tactic| walk_at "rdv") => `(tactic| first
  | (with_reducible refine zAdd_int ?_)
  | (with_reducible refine zSub_int ?_)
  | (with_reducible refine zCmp ?_)
  | (with_reducible refine yEq_int ?_)
  | (with_reducible refine yNe_int ?_)
  | (with_reducible refine zNeg ?_)
  | (with_reducible refine q_min2 ?_)
  | (with_reducible refine q_max2 ?_)
  | (with_reducible refine q_abs ?_)
  | (with_reducible refine q_int1 ?_))
local macro_rules | `(tactic| walk_at "rdw") => `(tactic| first
  | (with_reducible refine iteNot ?_)
  | ((with_reducible show if decide _ = true then _ else _); first | refine iteDF (by omega) ?_ | refine iteDT (by omega) ?_)
  | ((with_reducible show rIx _ _ _ _ _); first
      | refine zIx_raw (by walk_at "hp") (by rfl) ?_
      | refine zIx_rawF (by assumption) (by walk_at "xt") (by rfl) ?_
      | refine zIx_rawT (by assumption) (by walk_at "xt") (by rfl) ?_
      | refine q_ixI (by walk_at "sees") (by omega) (by omega) ?_
      | refine q_ixTI (by walk_at "seesT") (by omega) (by omega) ?_)
  | ((with_reducible show List.length _ ≤ sizeLine ∧ _); refine And.intro (by simp [sizeLine_eq]) ?_)
  | ((with_reducible show kFl _ _ _ _ _); first
      | refine q_fld (by assumption) (by walk_at "xt") (by assumption) (by assumption) (by rfl) ?_
      | refine q_fldM (by walk_at "hp") (by assumption) (by assumption) (by rfl) ?_)
  | ((with_reducible show kSf _ _ _ _ _ _); refine q_sfld (by walk_at "hp") (by assumption) (by assumption) (Nat.le_of_ble_eq_true rfl) ?_)
  | ((with_reducible show wipe _ _ = wipe _ _ ∧ _); refine And.intro (by rfl) ?_)
  | (with_reducible refine q_isi_int ?_)
  | (with_reducible refine q_isi_ib ?_)
  | ((with_reducible show tyV _ "list" _ _ ∧ _); refine And.intro (q_tyL (by walk_at "sees")) ?_)
  | ((with_reducible show rSetL _ _ _ _ _); refine zSet_raw (by walk_at "hp") (by rfl) ?_)
  | ((with_reducible show yLen _ _ _ _); first | refine q_len (by walk_at "sees") ?_ | refine q_lenT (by walk_at "seesT") ?_)
  | ((with_reducible show rSum _ _ _ _); refine q_sum (by walk_at "sees") ?_)
  | ((with_reducible show rModZ _ _ _ _); refine zMod (by first | decide | omega) ?_)
  | ((with_reducible show rDivZ _ _ _ _); refine zDiv (cdiv_small (by first | decide | omega) (by first | decide | omega)) ?_)
  | ((with_reducible show rMulZ _ _ _ _ _); first
      | refine zMul_int (cmul_l (by first | decide | omega) (by first | decide | omega)) ?_
      | refine zMul_int (cmul_r (by first | decide | omega) (by first | decide | omega)) ?_)
  | ((with_reducible show rI CPow _ _ _ _ _); refine zPow (cpow_small (by decide) (by decide) (by decide)) ?_; (try simp only [Int.reduceToNat, Int.reducePow])))
local macro_rules | `(tactic| walk_at "rd") => `(tactic| ((try dsimp only [cxK]); repeat' (first | walk_at "rdc" | walk_at "rdv" | walk_at "rdw")))
namespace K15
open PySem PySem.Spec PyProof.Rows L2 Rn Vc
open Vc.Py (toP)
open PySem.W (Tup Datum)
abbrev PW : Program := PySem.Challenge.pw_restnights_k15_orders_whole_steepest
def top (i : Nat) : Stmt := PySem.Challenge.pw_restnights_k15_orders_whole_steepest.main.body.getD i (.Pass ⟨0, 0, 0, 0⟩)
def memb (s : Stmt) (j : Nat) : Stmt := match s with
  | .ClassDef _ _ _ b _ _ _ _ _ _ _ => b.getD j (.Pass ⟨0, 0, 0, 0⟩)
  | _ => .Pass ⟨0, 0, 0, 0⟩
abbrev s_check_person : Stmt := top 13
abbrev N_check_person : List Str := ["house", "person"]
abbrev P_check_person : List Str := ["house", "person"]
theorem sc_check_person : FnScope N_check_person P_check_person (defScope s_check_person) := ⟨rfl, rfl, rfl, by decide +kernel, rfl, by decide +kernel, by decide +kernel⟩
def d_check_person : He.DefD := ⟨("check_person", none), "check_person", "check_person", defArgs s_check_person, defBody s_check_person, defScope s_check_person, [], []⟩
abbrev s_check_people : Stmt := top 14
abbrev N_check_people : List Str := ["house", "people", "named", "person"]
abbrev P_check_people : List Str := ["house", "people"]
theorem sc_check_people : FnScope N_check_people P_check_people (defScope s_check_people) := ⟨rfl, rfl, rfl, by decide +kernel, rfl, by decide +kernel, by decide +kernel⟩
def d_check_people : He.DefD := ⟨("check_people", none), "check_people", "check_people", defArgs s_check_people, defBody s_check_people, defScope s_check_people, [], []⟩
abbrev s_check_order : Stmt := top 15
abbrev N_check_order : List Str := ["house", "order"]
abbrev P_check_order : List Str := ["house", "order"]
theorem sc_check_order : FnScope N_check_order P_check_order (defScope s_check_order) := ⟨rfl, rfl, rfl, by decide +kernel, rfl, by decide +kernel, by decide +kernel⟩
def d_check_order : He.DefD := ⟨("check_order", none), "check_order", "check_order", defArgs s_check_order, defBody s_check_order, defScope s_check_order, [], []⟩
abbrev s_arrivals : Stmt := top 17
abbrev N_arrivals : List Str := ["house", "people", "counts", "person"]
abbrev P_arrivals : List Str := ["house", "people"]
theorem sc_arrivals : FnScope N_arrivals P_arrivals (defScope s_arrivals) := ⟨rfl, rfl, rfl, by decide +kernel, rfl, by decide +kernel, by decide +kernel⟩
def d_arrivals : He.DefD := ⟨("arrivals", none), "arrivals", "arrivals", defArgs s_arrivals, defBody s_arrivals, defScope s_arrivals, [], []⟩
abbrev s_first_choice : Stmt := top 18
abbrev N_first_choice : List Str := ["house", "people", "coming", "counts", "here", "resting", "index", "want", "count"]
abbrev P_first_choice : List Str := ["house", "people"]
theorem sc_first_choice : FnScope N_first_choice P_first_choice (defScope s_first_choice) := ⟨rfl, rfl, rfl, by decide +kernel, rfl, by decide +kernel, by decide +kernel⟩
def d_first_choice : He.DefD := ⟨("first_choice", none), "first_choice", "first_choice", defArgs s_first_choice, defBody s_first_choice, defScope s_first_choice, [], []⟩
abbrev s_room_left : Stmt := top 19
abbrev N_room_left : List Str := ["house", "people", "want", "count"]
abbrev P_room_left : List Str := ["house", "people"]
theorem sc_room_left : FnScope N_room_left P_room_left (defScope s_room_left) := ⟨rfl, rfl, rfl, by decide +kernel, rfl, by decide +kernel, by decide +kernel⟩
def d_room_left : He.DefD := ⟨("room_left", none), "room_left", "room_left", defArgs s_room_left, defBody s_room_left, defScope s_room_left, [], []⟩
abbrev s_most_of : Stmt := top 20
abbrev N_most_of : List Str := ["house", "people"]
abbrev P_most_of : List Str := ["house", "people"]
theorem sc_most_of : FnScope N_most_of P_most_of (defScope s_most_of) := ⟨rfl, rfl, rfl, by decide +kernel, rfl, by decide +kernel, by decide +kernel⟩
def d_most_of : He.DefD := ⟨("most_of", none), "most_of", "most_of", defArgs s_most_of, defBody s_most_of, defScope s_most_of, [], []⟩
abbrev s_growth : Stmt := top 21
abbrev N_growth : List Str := ["house", "people", "person", "room", "nights", "free_from", "night"]
abbrev P_growth : List Str := ["house", "people", "person"]
theorem sc_growth : FnScope N_growth P_growth (defScope s_growth) := ⟨rfl, rfl, rfl, by decide +kernel, rfl, by decide +kernel, by decide +kernel⟩
def d_growth : He.DefD := ⟨("growth", none), "growth", "growth", defArgs s_growth, defBody s_growth, defScope s_growth, [], []⟩
abbrev s_nights_in_order : Stmt := top 23
abbrev N_nights_in_order : List Str := ["house", "order", "nights", "before", "person", "_"]
abbrev P_nights_in_order : List Str := ["house", "order"]
theorem sc_nights_in_order : FnScope N_nights_in_order P_nights_in_order (defScope s_nights_in_order) := ⟨rfl, rfl, rfl, by decide +kernel, rfl, by decide +kernel, by decide +kernel⟩
def d_nights_in_order : He.DefD := ⟨("nights_in_order", none), "nights_in_order", "nights_in_order", defArgs s_nights_in_order, defBody s_nights_in_order, defScope s_nights_in_order, [], []⟩
abbrev s_order_counts : Stmt := top 24
abbrev N_order_counts : List Str := ["house", "order", "nights"]
abbrev P_order_counts : List Str := ["house", "order"]
theorem sc_order_counts : FnScope N_order_counts P_order_counts (defScope s_order_counts) := ⟨rfl, rfl, rfl, by decide +kernel, rfl, by decide +kernel, by decide +kernel⟩
def d_order_counts : He.DefD := ⟨("order_counts", none), "order_counts", "order_counts", defArgs s_order_counts, defBody s_order_counts, defScope s_order_counts, [], []⟩
abbrev s_HouseU_initU : Stmt := memb (top 28) 0
abbrev N_HouseU_initU : List Str := ["self", "wants", "comings", "rest", "person", "coming"]
abbrev P_HouseU_initU : List Str := ["self", "wants", "comings", "rest"]
theorem sc_HouseU_initU : FnScope N_HouseU_initU P_HouseU_initU (defScope s_HouseU_initU) := ⟨rfl, rfl, rfl, by decide +kernel, rfl, by decide +kernel, by decide +kernel⟩
def d_HouseU_initU : He.DefD := ⟨("House", some "__init__"), "__init__", "House.__init__", defArgs s_HouseU_initU, defBody s_HouseU_initU, defScope s_HouseU_initU, [], [("rest", .int 1)]⟩
abbrev s_House_nights : Stmt := memb (top 28) 2
abbrev N_House_nights : List Str := ["self"]
abbrev P_House_nights : List Str := ["self"]
theorem sc_House_nights : FnScope N_House_nights P_House_nights (defScope s_House_nights) := ⟨rfl, rfl, rfl, by decide +kernel, rfl, by decide +kernel, by decide +kernel⟩
def d_House_nights : DefA := ⟨prAd "House" "nights", "nights", "House.nights", defArgs s_House_nights, defBody s_House_nights, defScope s_House_nights, [], []⟩
abbrev s_House_people : Stmt := memb (top 28) 3
abbrev N_House_people : List Str := ["self"]
abbrev P_House_people : List Str := ["self"]
theorem sc_House_people : FnScope N_House_people P_House_people (defScope s_House_people) := ⟨rfl, rfl, rfl, by decide +kernel, rfl, by decide +kernel, by decide +kernel⟩
def d_House_people : DefA := ⟨prAd "House" "people", "people", "House.people", defArgs s_House_people, defBody s_House_people, defScope s_House_people, [], []⟩
abbrev s_WantsU_initU : Stmt := memb (top 30) 2
abbrev N_WantsU_initU : List Str := ["self", "numbers", "index", "number"]
abbrev P_WantsU_initU : List Str := ["self", "numbers"]
theorem sc_WantsU_initU : FnScope N_WantsU_initU P_WantsU_initU (defScope s_WantsU_initU) := ⟨rfl, rfl, rfl, by decide +kernel, rfl, by decide +kernel, by decide +kernel⟩
def d_WantsU_initU : He.DefD := ⟨("Wants", some "__init__"), "__init__", "Wants.__init__", defArgs s_WantsU_initU, defBody s_WantsU_initU, defScope s_WantsU_initU, [], []⟩
abbrev s_WantsU_lenU : Stmt := memb (top 30) 4
abbrev N_WantsU_lenU : List Str := ["self"]
abbrev P_WantsU_lenU : List Str := ["self"]
theorem sc_WantsU_lenU : FnScope N_WantsU_lenU P_WantsU_lenU (defScope s_WantsU_lenU) := ⟨rfl, rfl, rfl, by decide +kernel, rfl, by decide +kernel, by decide +kernel⟩
def d_WantsU_lenU : He.DefD := ⟨("Wants", some "__len__"), "__len__", "Wants.__len__", defArgs s_WantsU_lenU, defBody s_WantsU_lenU, defScope s_WantsU_lenU, [], []⟩
abbrev s_WantsU_iterU : Stmt := memb (top 30) 5
abbrev N_WantsU_iterU : List Str := ["self"]
abbrev P_WantsU_iterU : List Str := ["self"]
theorem sc_WantsU_iterU : FnScope N_WantsU_iterU P_WantsU_iterU (defScope s_WantsU_iterU) := ⟨rfl, rfl, rfl, by decide +kernel, rfl, by decide +kernel, by decide +kernel⟩
def d_WantsU_iterU : He.DefD := ⟨("Wants", some "__iter__"), "__iter__", "Wants.__iter__", defArgs s_WantsU_iterU, defBody s_WantsU_iterU, defScope s_WantsU_iterU, [], []⟩
abbrev s__law_pool : Stmt := top 32
abbrev N__law_pool : List Str := ["script", "at", "cell"]
abbrev P__law_pool : List Str := ["script", "at"]
theorem sc__law_pool : FnScope N__law_pool P__law_pool (defScope s__law_pool) := ⟨rfl, rfl, rfl, by decide +kernel, rfl, by decide +kernel, by decide +kernel⟩
def d__law_pool : He.DefD := ⟨("_law_pool", none), "_law_pool", "_law_pool", defArgs s__law_pool, defBody s__law_pool, defScope s__law_pool, [], []⟩
abbrev s__law_draw : Stmt := top 33
abbrev N__law_draw : List Str := ["pool", "many", "value", "mixed"]
abbrev P__law_draw : List Str := ["pool", "many"]
theorem sc__law_draw : FnScope N__law_draw P__law_draw (defScope s__law_draw) := ⟨rfl, rfl, rfl, by decide +kernel, rfl, by decide +kernel, by decide +kernel⟩
def d__law_draw : He.DefD := ⟨("_law_draw", none), "_law_draw", "_law_draw", defArgs s__law_draw, defBody s__law_draw, defScope s__law_draw, [], []⟩
abbrev s__law_comings : Stmt := top 34
abbrev N__law_comings : List Str := ["pool", "people", "nights", "comings", "person", "night"]
abbrev P__law_comings : List Str := ["pool", "people", "nights"]
theorem sc__law_comings : FnScope N__law_comings P__law_comings (defScope s__law_comings) := ⟨rfl, rfl, rfl, by decide +kernel, rfl, by decide +kernel, by decide +kernel⟩
def d__law_comings : He.DefD := ⟨("_law_comings", none), "_law_comings", "_law_comings", defArgs s__law_comings, defBody s__law_comings, defScope s__law_comings, [], []⟩
abbrev s__law_wants : Stmt := top 35
abbrev N__law_wants : List Str := ["pool", "nights", "most", "night"]
abbrev P__law_wants : List Str := ["pool", "nights", "most"]
theorem sc__law_wants : FnScope N__law_wants P__law_wants (defScope s__law_wants) := ⟨rfl, rfl, rfl, by decide +kernel, rfl, by decide +kernel, by decide +kernel⟩
def d__law_wants : He.DefD := ⟨("_law_wants", none), "_law_wants", "_law_wants", defArgs s__law_wants, defBody s__law_wants, defScope s__law_wants, [], []⟩
abbrev s__law_rows : Stmt := top 36
abbrev N__law_rows : List Str := ["pool", "nights", "comings", "gap", "keen", "rows", "again", "night", "row", "person"]
abbrev P__law_rows : List Str := ["pool", "nights", "comings", "gap", "keen"]
theorem sc__law_rows : FnScope N__law_rows P__law_rows (defScope s__law_rows) := ⟨rfl, rfl, rfl, by decide +kernel, rfl, by decide +kernel, by decide +kernel⟩
def d__law_rows : He.DefD := ⟨("_law_rows", none), "_law_rows", "_law_rows", defArgs s__law_rows, defBody s__law_rows, defScope s__law_rows, [], []⟩
abbrev s__law_counts : Stmt := top 37
abbrev N__law_counts : List Str := ["rows", "people", "person", "night"]
abbrev P__law_counts : List Str := ["rows", "people"]
theorem sc__law_counts : FnScope N__law_counts P__law_counts (defScope s__law_counts) := ⟨rfl, rfl, rfl, by decide +kernel, rfl, by decide +kernel, by decide +kernel⟩
def d__law_counts : He.DefD := ⟨("_law_counts", none), "_law_counts", "_law_counts", defArgs s__law_counts, defBody s__law_counts, defScope s__law_counts, [], []⟩
abbrev s__law_size : Stmt := top 38
abbrev N__law_size : List Str := ["pool", "most"]
abbrev P__law_size : List Str := ["pool", "most"]
theorem sc__law_size : FnScope N__law_size P__law_size (defScope s__law_size) := ⟨rfl, rfl, rfl, by decide +kernel, rfl, by decide +kernel, by decide +kernel⟩
def d__law_size : He.DefD := ⟨("_law_size", none), "_law_size", "_law_size", defArgs s__law_size, defBody s__law_size, defScope s__law_size, [], []⟩
abbrev s__law_world : Stmt := top 39
abbrev N__law_world : List Str := ["pool", "most_nights", "most_people", "most_gap", "nights", "people", "gap", "starts", "rows", "days", "row"]
abbrev P__law_world : List Str := ["pool", "most_nights", "most_people", "most_gap"]
theorem sc__law_world : FnScope N__law_world P__law_world (defScope s__law_world) := ⟨rfl, rfl, rfl, by decide +kernel, rfl, by decide +kernel, by decide +kernel⟩
def d__law_world : He.DefD := ⟨("_law_world", none), "_law_world", "_law_world", defArgs s__law_world, defBody s__law_world, defScope s__law_world, [], []⟩
abbrev s__law_bend_days : Stmt := top 40
abbrev N__law_bend_days : List Str := ["pool", "days", "bent", "place"]
abbrev P__law_bend_days : List Str := ["pool", "days"]
theorem sc__law_bend_days : FnScope N__law_bend_days P__law_bend_days (defScope s__law_bend_days) := ⟨rfl, rfl, rfl, by decide +kernel, rfl, by decide +kernel, by decide +kernel⟩
def d__law_bend_days : He.DefD := ⟨("_law_bend_days", none), "_law_bend_days", "_law_bend_days", defArgs s__law_bend_days, defBody s__law_bend_days, defScope s__law_bend_days, [], []⟩
abbrev s__law_int : Stmt := top 41
abbrev N__law_int : List Str := ["x"]
abbrev P__law_int : List Str := ["x"]
theorem sc__law_int : FnScope N__law_int P__law_int (defScope s__law_int) := ⟨rfl, rfl, rfl, by decide +kernel, rfl, by decide +kernel, by decide +kernel⟩
def d__law_int : He.DefD := ⟨("_law_int", none), "_law_int", "_law_int", defArgs s__law_int, defBody s__law_int, defScope s__law_int, [], []⟩
abbrev s__law_ints : Stmt := top 42
abbrev N__law_ints : List Str := ["xs", "x"]
abbrev P__law_ints : List Str := ["xs"]
theorem sc__law_ints : FnScope N__law_ints P__law_ints (defScope s__law_ints) := ⟨rfl, rfl, rfl, by decide +kernel, rfl, by decide +kernel, by decide +kernel⟩
def d__law_ints : He.DefD := ⟨("_law_ints", none), "_law_ints", "_law_ints", defArgs s__law_ints, defBody s__law_ints, defScope s__law_ints, [], []⟩
abbrev s__law_same : Stmt := top 43
abbrev N__law_same : List Str := ["got", "due", "place"]
abbrev P__law_same : List Str := ["got", "due"]
theorem sc__law_same : FnScope N__law_same P__law_same (defScope s__law_same) := ⟨rfl, rfl, rfl, by decide +kernel, rfl, by decide +kernel, by decide +kernel⟩
def d__law_same : He.DefD := ⟨("_law_same", none), "_law_same", "_law_same", defArgs s__law_same, defBody s__law_same, defScope s__law_same, [], []⟩
abbrev s__law_first : Stmt := top 44
abbrev N__law_first : List Str := ["days", "starts", "gap", "people", "row", "place", "here", "person"]
abbrev P__law_first : List Str := ["days", "starts", "gap", "people"]
theorem sc__law_first : FnScope N__law_first P__law_first (defScope s__law_first) := ⟨rfl, rfl, rfl, by decide +kernel, rfl, by decide +kernel, by decide +kernel⟩
def d__law_first : He.DefD := ⟨("_law_first", none), "_law_first", "_law_first", defArgs s__law_first, defBody s__law_first, defScope s__law_first, [], []⟩
abbrev s__law_house : Stmt := top 45
abbrev N__law_house : List Str := ["pool", "most_nights", "most_people", "most_gap", "world", "days", "rows", "place"]
abbrev P__law_house : List Str := ["pool", "most_nights", "most_people", "most_gap"]
theorem sc__law_house : FnScope N__law_house P__law_house (defScope s__law_house) := ⟨rfl, rfl, rfl, by decide +kernel, rfl, by decide +kernel, by decide +kernel⟩
def d__law_house : He.DefD := ⟨("_law_house", none), "_law_house", "_law_house", defArgs s__law_house, defBody s__law_house, defScope s__law_house, [], []⟩
abbrev s__law_large : Stmt := top 46
abbrev N__law_large : List Str := ["pool", "nights", "gap", "days", "starts"]
abbrev P__law_large : List Str := ["pool"]
theorem sc__law_large : FnScope N__law_large P__law_large (defScope s__law_large) := ⟨rfl, rfl, rfl, by decide +kernel, rfl, by decide +kernel, by decide +kernel⟩
def d__law_large : He.DefD := ⟨("_law_large", none), "_law_large", "_law_large", defArgs s__law_large, defBody s__law_large, defScope s__law_large, [], []⟩
abbrev s__law_cut : Stmt := top 47
abbrev N__law_cut : List Str := ["rows", "days", "place"]
abbrev P__law_cut : List Str := ["rows", "days"]
theorem sc__law_cut : FnScope N__law_cut P__law_cut (defScope s__law_cut) := ⟨rfl, rfl, rfl, by decide +kernel, rfl, by decide +kernel, by decide +kernel⟩
def d__law_cut : He.DefD := ⟨("_law_cut", none), "_law_cut", "_law_cut", defArgs s__law_cut, defBody s__law_cut, defScope s__law_cut, [], []⟩
abbrev s__law_thin : Stmt := top 48
abbrev N__law_thin : List Str := ["pool", "rows", "row", "person"]
abbrev P__law_thin : List Str := ["pool", "rows"]
theorem sc__law_thin : FnScope N__law_thin P__law_thin (defScope s__law_thin) := ⟨rfl, rfl, rfl, by decide +kernel, rfl, by decide +kernel, by decide +kernel⟩
def d__law_thin : He.DefD := ⟨("_law_thin", none), "_law_thin", "_law_thin", defArgs s__law_thin, defBody s__law_thin, defScope s__law_thin, [], []⟩
abbrev s__law_mixed : Stmt := top 49
abbrev N__law_mixed : List Str := ["pool", "many", "left", "mixed", "turn", "place"]
abbrev P__law_mixed : List Str := ["pool", "many"]
theorem sc__law_mixed : FnScope N__law_mixed P__law_mixed (defScope s__law_mixed) := ⟨rfl, rfl, rfl, by decide +kernel, rfl, by decide +kernel, by decide +kernel⟩
def d__law_mixed : He.DefD := ⟨("_law_mixed", none), "_law_mixed", "_law_mixed", defArgs s__law_mixed, defBody s__law_mixed, defScope s__law_mixed, [], []⟩
abbrev s__law_steepest : Stmt := top 50
abbrev N__law_steepest : List Str := ["house", "parts", "order", "plans", "handed", "found", "size", "group", "kept", "due", "plan", "person"]
abbrev P__law_steepest : List Str := ["house", "parts", "order", "plans"]
theorem sc__law_steepest : FnScope N__law_steepest P__law_steepest (defScope s__law_steepest) := ⟨rfl, rfl, rfl, by decide +kernel, rfl, by decide +kernel, by decide +kernel⟩
def d__law_steepest : He.DefD := ⟨("_law_steepest", none), "_law_steepest", "_law_steepest", defArgs s__law_steepest, defBody s__law_steepest, defScope s__law_steepest, [], []⟩
abbrev s_law : Stmt := top 51
abbrev N_law : List Str := ["script", "pool", "parts", "days", "starts", "many", "house", "order", "other", "rows", "plans"]
abbrev P_law : List Str := ["script"]
theorem sc_law : FnScope N_law P_law (defScope s_law) := ⟨rfl, rfl, rfl, by decide +kernel, rfl, by decide +kernel, by decide +kernel⟩
def d_law : He.DefD := ⟨("law", none), "law", "law", defArgs s_law, defBody s_law, defScope s_law, [], []⟩
def fn0 : List He.DefD := [d_check_person, d_check_people, d_check_order, d_arrivals, d_first_choice, d_room_left, d_most_of, d_growth, d_nights_in_order, d_order_counts, d_HouseU_initU, d_WantsU_initU, d_WantsU_lenU, d_WantsU_iterU, d__law_pool, d__law_draw, d__law_comings, d__law_wants, d__law_rows, d__law_counts, d__law_size, d__law_world, d__law_bend_days, d__law_int, d__law_ints, d__law_same, d__law_first, d__law_house, d__law_large, d__law_cut]
def fn1 : List He.DefD := [d__law_thin, d__law_mixed, d__law_steepest, d_law]
def fn : List He.DefD := fn0 ++ (fn1)
def da0 : List DefA := [d_House_nights, d_House_people]
def da : List DefA := da0
def fa0 : List He.Fa := [.free "len", .free "min", .free "max", .free "range", .free "abs", .free "int", .free "list", .free "tuple", .free "str", .free "sum", .free "isinstance", .free "bool", .free "enumerate", .free "iter", .free "zip", .free "ValueError", .free "super", .glo "check_person", .glo "check_people", .glo "check_order", .glo "arrivals", .glo "first_choice", .glo "room_left", .glo "most_of", .glo "growth", .glo "nights_in_order", .glo "order_counts", .glo "_law_pool", .glo "_law_draw", .glo "_law_comings"]
def fa1 : List He.Fa := [.glo "_law_wants", .glo "_law_rows", .glo "_law_counts", .glo "_law_size", .glo "_law_world", .glo "_law_bend_days", .glo "_law_int", .glo "_law_ints", .glo "_law_same", .glo "_law_first", .glo "_law_house", .glo "_law_large", .glo "_law_cut", .glo "_law_thin", .glo "_law_mixed", .glo "_law_steepest", .glo "law", .glo "NoPerson", .glo "NamedTwice", .glo "BadNumber", .glo "TooLong", .glo "BadRest", .glo "BadComing", .glo "WrongLength", .glo "House", .cls "House", .mkr "House", .noat "House" "comings", .noat "House" "rest", .noat "House" "wants"]
def fa2 : List He.Fa := [.glo "Wants", .cls "Wants", .mkr "Wants", .noat "Wants" "numbers", .meth "Wants" "__len__", .meth "Wants" "__iter__", .int "MOST_PEOPLE" 30, .int "MOST_REST" 60]
def fa : List He.Fa := fa0 ++ (fa1 ++ (fa2))
def lk0 : List Look1 := [cvalI "Wants" "MOST" 60, cvalI "Wants" "GREATEST" 30, prB "House" "nights", prB "House" "people"]
def lk : List Look1 := lk0
def loose0 : List Str := ["_wall", "NightsError", "NoNight", "NoPerson", "NamedTwice", "BadNumber", "TooLong", "WrongLength", "BadRest", "BadComing", "check_night", "check_person", "check_people", "check_order", "arrivals", "first_choice", "room_left", "most_of", "growth", "nights_in_order", "order_counts", "MOST_PEOPLE", "MOST_REST", "House", "Wants", "_law_pool", "_law_draw", "_law_comings", "_law_wants", "_law_rows"]
def loose1 : List Str := ["_law_counts", "_law_size", "_law_world", "_law_bend_days", "_law_int", "_law_ints", "_law_same", "_law_first", "_law_house", "_law_large", "_law_cut", "_law_thin", "_law_mixed", "_law_steepest"]
def loose : List Str := loose0 ++ (loose1)
abbrev fileP : Str := PySem.Challenge.pw_restnights_k15_orders_whole_steepest.main.file
abbrev sx_NoPerson : Stmt := memb (top 4) 0
def xd_NoPerson : XD := ⟨"NoPerson", ["person"], "NoPerson.__init__", defArgs sx_NoPerson, defBody sx_NoPerson, defScope sx_NoPerson⟩
theorem xs_NoPerson : XnS PySem.Challenge.pw_restnights_k15_orders_whole_steepest xd_NoPerson := ⟨⟨_, _, _, _, _, _, _, _, _, rfl, (.cons _ _ _ _ .nil), rfl, rfl, rfl⟩, fun _ _ _ _ _ _ us hl => match us, hl with | [_, _], _ => rfl, rfl, rfl, rfl, by decide +kernel, by decide +kernel, by rfl, by rfl, by decide +kernel, by decide +kernel, by decide +kernel, by decide +kernel, by decide +kernel⟩
abbrev sx_NamedTwice : Stmt := memb (top 5) 0
def xd_NamedTwice : XD := ⟨"NamedTwice", ["person"], "NamedTwice.__init__", defArgs sx_NamedTwice, defBody sx_NamedTwice, defScope sx_NamedTwice⟩
theorem xs_NamedTwice : XnS PySem.Challenge.pw_restnights_k15_orders_whole_steepest xd_NamedTwice := ⟨⟨_, _, _, _, _, _, _, _, _, rfl, (.cons _ _ _ _ .nil), rfl, rfl, rfl⟩, fun _ _ _ _ _ _ us hl => match us, hl with | [_, _], _ => rfl, rfl, rfl, rfl, by decide +kernel, by decide +kernel, by rfl, by rfl, by decide +kernel, by decide +kernel, by decide +kernel, by decide +kernel, by decide +kernel⟩
abbrev sx_BadNumber : Stmt := memb (top 6) 0
def xd_BadNumber : XD := ⟨"BadNumber", ["place", "number"], "BadNumber.__init__", defArgs sx_BadNumber, defBody sx_BadNumber, defScope sx_BadNumber⟩
theorem xs_BadNumber : XnS PySem.Challenge.pw_restnights_k15_orders_whole_steepest xd_BadNumber := ⟨⟨_, _, _, _, _, _, _, _, _, rfl, (.cons _ _ _ _ (.cons _ _ _ _ .nil)), rfl, rfl, rfl⟩, fun _ _ _ _ _ _ us hl => match us, hl with | [_, _, _], _ => rfl, rfl, rfl, rfl, by decide +kernel, by decide +kernel, by rfl, by rfl, by decide +kernel, by decide +kernel, by decide +kernel, by decide +kernel, by decide +kernel⟩
abbrev sx_TooLong : Stmt := memb (top 7) 0
def xd_TooLong : XD := ⟨"TooLong", ["count"], "TooLong.__init__", defArgs sx_TooLong, defBody sx_TooLong, defScope sx_TooLong⟩
theorem xs_TooLong : XnS PySem.Challenge.pw_restnights_k15_orders_whole_steepest xd_TooLong := ⟨⟨_, _, _, _, _, _, _, _, _, rfl, (.cons _ _ _ _ .nil), rfl, rfl, rfl⟩, fun _ _ _ _ _ _ us hl => match us, hl with | [_, _], _ => rfl, rfl, rfl, rfl, by decide +kernel, by decide +kernel, by rfl, by rfl, by decide +kernel, by decide +kernel, by decide +kernel, by decide +kernel, by decide +kernel⟩
abbrev sx_BadRest : Stmt := memb (top 9) 0
def xd_BadRest : XD := ⟨"BadRest", ["rest"], "BadRest.__init__", defArgs sx_BadRest, defBody sx_BadRest, defScope sx_BadRest⟩
theorem xs_BadRest : XnS PySem.Challenge.pw_restnights_k15_orders_whole_steepest xd_BadRest := ⟨⟨_, _, _, _, _, _, _, _, _, rfl, (.cons _ _ _ _ .nil), rfl, rfl, rfl⟩, fun _ _ _ _ _ _ us hl => match us, hl with | [_, _], _ => rfl, rfl, rfl, rfl, by decide +kernel, by decide +kernel, by rfl, by rfl, by decide +kernel, by decide +kernel, by decide +kernel, by decide +kernel, by decide +kernel⟩
abbrev sx_BadComing : Stmt := memb (top 10) 0
def xd_BadComing : XD := ⟨"BadComing", ["person", "coming"], "BadComing.__init__", defArgs sx_BadComing, defBody sx_BadComing, defScope sx_BadComing⟩
theorem xs_BadComing : XnS PySem.Challenge.pw_restnights_k15_orders_whole_steepest xd_BadComing := ⟨⟨_, _, _, _, _, _, _, _, _, rfl, (.cons _ _ _ _ (.cons _ _ _ _ .nil)), rfl, rfl, rfl⟩, fun _ _ _ _ _ _ us hl => match us, hl with | [_, _, _], _ => rfl, rfl, rfl, rfl, by decide +kernel, by decide +kernel, by rfl, by rfl, by decide +kernel, by decide +kernel, by decide +kernel, by decide +kernel, by decide +kernel⟩
abbrev sx_WrongLength : Stmt := memb (top 8) 0
def xd_WrongLength : XD := ⟨"WrongLength", ["found", "wanted"], "WrongLength.__init__", defArgs sx_WrongLength, defBody sx_WrongLength, defScope sx_WrongLength⟩
theorem xs_WrongLength : XnS PySem.Challenge.pw_restnights_k15_orders_whole_steepest xd_WrongLength := ⟨⟨_, _, _, _, _, _, _, _, _, rfl, (.cons _ _ _ _ (.cons _ _ _ _ .nil)), rfl, rfl, rfl⟩, fun _ _ _ _ _ _ us hl => match us, hl with | [_, _, _], _ => rfl, rfl, rfl, rfl, by decide +kernel, by decide +kernel, by rfl, by rfl, by decide +kernel, by decide +kernel, by decide +kernel, by decide +kernel, by decide +kernel⟩
def xd : List XD := [xd_NoPerson, xd_NamedTwice, xd_BadNumber, xd_TooLong, xd_BadRest, xd_BadComing, xd_WrongLength]
def wg0 : List Str := ["check_person", "check_people", "check_order", "arrivals", "first_choice", "room_left", "most_of", "growth", "nights_in_order", "order_counts", "_law_pool", "_law_draw", "_law_comings", "_law_wants", "_law_rows", "_law_counts", "_law_size", "_law_world", "_law_bend_days", "_law_int", "_law_ints", "_law_same", "_law_first", "_law_house", "_law_large", "_law_cut", "_law_thin", "_law_mixed", "_law_steepest", "law"]
def wg : List Str := wg0
def wc0 : List Str := ["House", "Wants", "NoPerson", "NightsError", "NamedTwice", "BadNumber", "TooLong", "BadRest", "BadComing", "WrongLength"]
def wc : List Str := wc0
def wm0 : List (Str × Str) := [("House", "__init__"), ("House", "nights"), ("House", "people"), ("Wants", "__init__"), ("Wants", "__len__"), ("Wants", "__iter__"), ("NoPerson", "__init__"), ("NamedTwice", "__init__"), ("BadNumber", "__init__"), ("TooLong", "__init__"), ("BadRest", "__init__"), ("BadComing", "__init__"), ("WrongLength", "__init__")]
def wm : List (Str × Str) := wm0
def wnt : Want := ⟨wg, wc, wm⟩
abbrev R : PySem.W.OpenRow := PySem.W.OpenLaw.row PySem.Challenge.rw_restnights_k15_orders_whole_steepest
abbrev hk : PySem.W.Hook := hookY wnt fa fn lk fileP xd da
def ob (s : PySem.W.SharedT) : AlY := obsYG wnt fa fn lk fileP xd da (HandSHeadRun.getT s)
theorem ob_eq (s : PySem.W.SharedT) : ob s = hk.obs s.abs := obsYG_eq (HandSHeadRun.getT_eq s)
theorem run (w : World) : HandSHeadRun.RunEq R (PySem.W.view R.prog [51]) hk ob 100000 loose w := by
  intro os
  kernel_rfl
structure LC (K : PySem.W.Frag) (mg : Str → Option Value) : Prop where
  ex : ∃ h : Heap, K.In h ∧ h.Ns mainGlobals mg ∧ SaysY fa fn lk fileP xd da K
section
variable {K : PySem.W.Frag} {mg : Str → Option Value} (T : LC K mg)
include T
theorem f_len : mg "len" = none := by
  obtain ⟨h, X, G, c⟩ := T.ex
  exact He.free_ok X G (c.d.fact 0 (f := .free "len") rfl)
theorem f_min : mg "min" = none := by
  obtain ⟨h, X, G, c⟩ := T.ex
  exact He.free_ok X G (c.d.fact 1 (f := .free "min") rfl)
theorem f_max : mg "max" = none := by
  obtain ⟨h, X, G, c⟩ := T.ex
  exact He.free_ok X G (c.d.fact 2 (f := .free "max") rfl)
theorem f_range : mg "range" = none := by
  obtain ⟨h, X, G, c⟩ := T.ex
  exact He.free_ok X G (c.d.fact 3 (f := .free "range") rfl)
theorem f_abs : mg "abs" = none := by
  obtain ⟨h, X, G, c⟩ := T.ex
  exact He.free_ok X G (c.d.fact 4 (f := .free "abs") rfl)
theorem f_int : mg "int" = none := by
  obtain ⟨h, X, G, c⟩ := T.ex
  exact He.free_ok X G (c.d.fact 5 (f := .free "int") rfl)
theorem f_list : mg "list" = none := by
  obtain ⟨h, X, G, c⟩ := T.ex
  exact He.free_ok X G (c.d.fact 6 (f := .free "list") rfl)
theorem f_tuple : mg "tuple" = none := by
  obtain ⟨h, X, G, c⟩ := T.ex
  exact He.free_ok X G (c.d.fact 7 (f := .free "tuple") rfl)
theorem f_str : mg "str" = none := by
  obtain ⟨h, X, G, c⟩ := T.ex
  exact He.free_ok X G (c.d.fact 8 (f := .free "str") rfl)
theorem f_sum : mg "sum" = none := by
  obtain ⟨h, X, G, c⟩ := T.ex
  exact He.free_ok X G (c.d.fact 9 (f := .free "sum") rfl)
theorem f_isinstance : mg "isinstance" = none := by
  obtain ⟨h, X, G, c⟩ := T.ex
  exact He.free_ok X G (c.d.fact 10 (f := .free "isinstance") rfl)
theorem f_bool : mg "bool" = none := by
  obtain ⟨h, X, G, c⟩ := T.ex
  exact He.free_ok X G (c.d.fact 11 (f := .free "bool") rfl)
theorem f_enumerate : mg "enumerate" = none := by
  obtain ⟨h, X, G, c⟩ := T.ex
  exact He.free_ok X G (c.d.fact 12 (f := .free "enumerate") rfl)
theorem f_iter : mg "iter" = none := by
  obtain ⟨h, X, G, c⟩ := T.ex
  exact He.free_ok X G (c.d.fact 13 (f := .free "iter") rfl)
theorem f_zip : mg "zip" = none := by
  obtain ⟨h, X, G, c⟩ := T.ex
  exact He.free_ok X G (c.d.fact 14 (f := .free "zip") rfl)
theorem f_ValueError : mg "ValueError" = none := by
  obtain ⟨h, X, G, c⟩ := T.ex
  exact He.free_ok X G (c.d.fact 15 (f := .free "ValueError") rfl)
theorem f_super : mg "super" = none := by
  obtain ⟨h, X, G, c⟩ := T.ex
  exact He.free_ok X G (c.d.fact 16 (f := .free "super") rfl)
theorem g_check_person : mg "check_person" = some (.ref (He.ga K "check_person")) := by
  obtain ⟨h, X, G, c⟩ := T.ex
  exact He.glo_ok X G (c.d.fact 17 (f := .glo "check_person") rfl)
theorem g_check_people : mg "check_people" = some (.ref (He.ga K "check_people")) := by
  obtain ⟨h, X, G, c⟩ := T.ex
  exact He.glo_ok X G (c.d.fact 18 (f := .glo "check_people") rfl)
theorem g_check_order : mg "check_order" = some (.ref (He.ga K "check_order")) := by
  obtain ⟨h, X, G, c⟩ := T.ex
  exact He.glo_ok X G (c.d.fact 19 (f := .glo "check_order") rfl)
theorem g_arrivals : mg "arrivals" = some (.ref (He.ga K "arrivals")) := by
  obtain ⟨h, X, G, c⟩ := T.ex
  exact He.glo_ok X G (c.d.fact 20 (f := .glo "arrivals") rfl)
theorem g_first_choice : mg "first_choice" = some (.ref (He.ga K "first_choice")) := by
  obtain ⟨h, X, G, c⟩ := T.ex
  exact He.glo_ok X G (c.d.fact 21 (f := .glo "first_choice") rfl)
theorem g_room_left : mg "room_left" = some (.ref (He.ga K "room_left")) := by
  obtain ⟨h, X, G, c⟩ := T.ex
  exact He.glo_ok X G (c.d.fact 22 (f := .glo "room_left") rfl)
theorem g_most_of : mg "most_of" = some (.ref (He.ga K "most_of")) := by
  obtain ⟨h, X, G, c⟩ := T.ex
  exact He.glo_ok X G (c.d.fact 23 (f := .glo "most_of") rfl)
theorem g_growth : mg "growth" = some (.ref (He.ga K "growth")) := by
  obtain ⟨h, X, G, c⟩ := T.ex
  exact He.glo_ok X G (c.d.fact 24 (f := .glo "growth") rfl)
theorem g_nights_in_order : mg "nights_in_order" = some (.ref (He.ga K "nights_in_order")) := by
  obtain ⟨h, X, G, c⟩ := T.ex
  exact He.glo_ok X G (c.d.fact 25 (f := .glo "nights_in_order") rfl)
theorem g_order_counts : mg "order_counts" = some (.ref (He.ga K "order_counts")) := by
  obtain ⟨h, X, G, c⟩ := T.ex
  exact He.glo_ok X G (c.d.fact 26 (f := .glo "order_counts") rfl)
theorem g__law_pool : mg "_law_pool" = some (.ref (He.ga K "_law_pool")) := by
  obtain ⟨h, X, G, c⟩ := T.ex
  exact He.glo_ok X G (c.d.fact 27 (f := .glo "_law_pool") rfl)
theorem g__law_draw : mg "_law_draw" = some (.ref (He.ga K "_law_draw")) := by
  obtain ⟨h, X, G, c⟩ := T.ex
  exact He.glo_ok X G (c.d.fact 28 (f := .glo "_law_draw") rfl)
theorem g__law_comings : mg "_law_comings" = some (.ref (He.ga K "_law_comings")) := by
  obtain ⟨h, X, G, c⟩ := T.ex
  exact He.glo_ok X G (c.d.fact 29 (f := .glo "_law_comings") rfl)
theorem g__law_wants : mg "_law_wants" = some (.ref (He.ga K "_law_wants")) := by
  obtain ⟨h, X, G, c⟩ := T.ex
  exact He.glo_ok X G (c.d.fact 30 (f := .glo "_law_wants") rfl)
theorem g__law_rows : mg "_law_rows" = some (.ref (He.ga K "_law_rows")) := by
  obtain ⟨h, X, G, c⟩ := T.ex
  exact He.glo_ok X G (c.d.fact 31 (f := .glo "_law_rows") rfl)
theorem g__law_counts : mg "_law_counts" = some (.ref (He.ga K "_law_counts")) := by
  obtain ⟨h, X, G, c⟩ := T.ex
  exact He.glo_ok X G (c.d.fact 32 (f := .glo "_law_counts") rfl)
theorem g__law_size : mg "_law_size" = some (.ref (He.ga K "_law_size")) := by
  obtain ⟨h, X, G, c⟩ := T.ex
  exact He.glo_ok X G (c.d.fact 33 (f := .glo "_law_size") rfl)
theorem g__law_world : mg "_law_world" = some (.ref (He.ga K "_law_world")) := by
  obtain ⟨h, X, G, c⟩ := T.ex
  exact He.glo_ok X G (c.d.fact 34 (f := .glo "_law_world") rfl)
theorem g__law_bend_days : mg "_law_bend_days" = some (.ref (He.ga K "_law_bend_days")) := by
  obtain ⟨h, X, G, c⟩ := T.ex
  exact He.glo_ok X G (c.d.fact 35 (f := .glo "_law_bend_days") rfl)
theorem g__law_int : mg "_law_int" = some (.ref (He.ga K "_law_int")) := by
  obtain ⟨h, X, G, c⟩ := T.ex
  exact He.glo_ok X G (c.d.fact 36 (f := .glo "_law_int") rfl)
theorem g__law_ints : mg "_law_ints" = some (.ref (He.ga K "_law_ints")) := by
  obtain ⟨h, X, G, c⟩ := T.ex
  exact He.glo_ok X G (c.d.fact 37 (f := .glo "_law_ints") rfl)
theorem g__law_same : mg "_law_same" = some (.ref (He.ga K "_law_same")) := by
  obtain ⟨h, X, G, c⟩ := T.ex
  exact He.glo_ok X G (c.d.fact 38 (f := .glo "_law_same") rfl)
theorem g__law_first : mg "_law_first" = some (.ref (He.ga K "_law_first")) := by
  obtain ⟨h, X, G, c⟩ := T.ex
  exact He.glo_ok X G (c.d.fact 39 (f := .glo "_law_first") rfl)
theorem g__law_house : mg "_law_house" = some (.ref (He.ga K "_law_house")) := by
  obtain ⟨h, X, G, c⟩ := T.ex
  exact He.glo_ok X G (c.d.fact 40 (f := .glo "_law_house") rfl)
theorem g__law_large : mg "_law_large" = some (.ref (He.ga K "_law_large")) := by
  obtain ⟨h, X, G, c⟩ := T.ex
  exact He.glo_ok X G (c.d.fact 41 (f := .glo "_law_large") rfl)
theorem g__law_cut : mg "_law_cut" = some (.ref (He.ga K "_law_cut")) := by
  obtain ⟨h, X, G, c⟩ := T.ex
  exact He.glo_ok X G (c.d.fact 42 (f := .glo "_law_cut") rfl)
theorem g__law_thin : mg "_law_thin" = some (.ref (He.ga K "_law_thin")) := by
  obtain ⟨h, X, G, c⟩ := T.ex
  exact He.glo_ok X G (c.d.fact 43 (f := .glo "_law_thin") rfl)
theorem g__law_mixed : mg "_law_mixed" = some (.ref (He.ga K "_law_mixed")) := by
  obtain ⟨h, X, G, c⟩ := T.ex
  exact He.glo_ok X G (c.d.fact 44 (f := .glo "_law_mixed") rfl)
theorem g__law_steepest : mg "_law_steepest" = some (.ref (He.ga K "_law_steepest")) := by
  obtain ⟨h, X, G, c⟩ := T.ex
  exact He.glo_ok X G (c.d.fact 45 (f := .glo "_law_steepest") rfl)
theorem g_law : mg "law" = some (.ref (He.ga K "law")) := by
  obtain ⟨h, X, G, c⟩ := T.ex
  exact He.glo_ok X G (c.d.fact 46 (f := .glo "law") rfl)
theorem g_NoPerson : mg "NoPerson" = some (.ref (He.ga K "NoPerson")) := by
  obtain ⟨h, X, G, c⟩ := T.ex
  exact He.glo_ok X G (c.d.fact 47 (f := .glo "NoPerson") rfl)
theorem g_NamedTwice : mg "NamedTwice" = some (.ref (He.ga K "NamedTwice")) := by
  obtain ⟨h, X, G, c⟩ := T.ex
  exact He.glo_ok X G (c.d.fact 48 (f := .glo "NamedTwice") rfl)
theorem g_BadNumber : mg "BadNumber" = some (.ref (He.ga K "BadNumber")) := by
  obtain ⟨h, X, G, c⟩ := T.ex
  exact He.glo_ok X G (c.d.fact 49 (f := .glo "BadNumber") rfl)
theorem g_TooLong : mg "TooLong" = some (.ref (He.ga K "TooLong")) := by
  obtain ⟨h, X, G, c⟩ := T.ex
  exact He.glo_ok X G (c.d.fact 50 (f := .glo "TooLong") rfl)
theorem g_BadRest : mg "BadRest" = some (.ref (He.ga K "BadRest")) := by
  obtain ⟨h, X, G, c⟩ := T.ex
  exact He.glo_ok X G (c.d.fact 51 (f := .glo "BadRest") rfl)
theorem g_BadComing : mg "BadComing" = some (.ref (He.ga K "BadComing")) := by
  obtain ⟨h, X, G, c⟩ := T.ex
  exact He.glo_ok X G (c.d.fact 52 (f := .glo "BadComing") rfl)
theorem g_WrongLength : mg "WrongLength" = some (.ref (He.ga K "WrongLength")) := by
  obtain ⟨h, X, G, c⟩ := T.ex
  exact He.glo_ok X G (c.d.fact 53 (f := .glo "WrongLength") rfl)
theorem g_House : mg "House" = some (.ref (He.ga K "House")) := by
  obtain ⟨h, X, G, c⟩ := T.ex
  exact He.glo_ok X G (c.d.fact 54 (f := .glo "House") rfl)
theorem cl_House : Cls K (He.ga K "House") := by
  obtain ⟨h, X, G, c⟩ := T.ex
  exact He.cls_ok (c.d.fact 55 (f := .cls "House") rfl)
theorem mk_House : Mk K (He.ga K "House") (He.ma K (He.ga K "House") "__init__") := by
  obtain ⟨h, X, G, c⟩ := T.ex
  exact He.mkr_ok (c.d.fact 56 (f := .mkr "House") rfl)
theorem na_House_comings : NoAttr K (He.ga K "House") "comings" := by
  obtain ⟨h, X, G, c⟩ := T.ex
  exact He.noat_ok (c.d.fact 57 (f := .noat "House" "comings") rfl)
theorem na_House_rest : NoAttr K (He.ga K "House") "rest" := by
  obtain ⟨h, X, G, c⟩ := T.ex
  exact He.noat_ok (c.d.fact 58 (f := .noat "House" "rest") rfl)
theorem na_House_wants : NoAttr K (He.ga K "House") "wants" := by
  obtain ⟨h, X, G, c⟩ := T.ex
  exact He.noat_ok (c.d.fact 59 (f := .noat "House" "wants") rfl)
theorem g_Wants : mg "Wants" = some (.ref (He.ga K "Wants")) := by
  obtain ⟨h, X, G, c⟩ := T.ex
  exact He.glo_ok X G (c.d.fact 60 (f := .glo "Wants") rfl)
theorem cl_Wants : Cls K (He.ga K "Wants") := by
  obtain ⟨h, X, G, c⟩ := T.ex
  exact He.cls_ok (c.d.fact 61 (f := .cls "Wants") rfl)
theorem mk_Wants : Mk K (He.ga K "Wants") (He.ma K (He.ga K "Wants") "__init__") := by
  obtain ⟨h, X, G, c⟩ := T.ex
  exact He.mkr_ok (c.d.fact 62 (f := .mkr "Wants") rfl)
theorem na_Wants_numbers : NoAttr K (He.ga K "Wants") "numbers" := by
  obtain ⟨h, X, G, c⟩ := T.ex
  exact He.noat_ok (c.d.fact 63 (f := .noat "Wants" "numbers") rfl)
theorem me_WantsU_lenU : Meth K (He.ga K "Wants") "__len__" (He.ma K (He.ga K "Wants") "__len__") := by
  obtain ⟨h, X, G, c⟩ := T.ex
  exact He.meth_ok (c.d.fact 64 (f := .meth "Wants" "__len__") rfl)
theorem me_WantsU_iterU : Meth K (He.ga K "Wants") "__iter__" (He.ma K (He.ga K "Wants") "__iter__") := by
  obtain ⟨h, X, G, c⟩ := T.ex
  exact He.meth_ok (c.d.fact 65 (f := .meth "Wants" "__iter__") rfl)
theorem c_MOST_PEOPLE : ∃ t, mg "MOST_PEOPLE" = some (.int 30 t) := by
  obtain ⟨h, X, G, c⟩ := T.ex
  exact He.int_ok X G (c.d.fact 66 (f := .int "MOST_PEOPLE" 30) rfl)
theorem c_MOST_REST : ∃ t, mg "MOST_REST" = some (.int 60 t) := by
  obtain ⟨h, X, G, c⟩ := T.ex
  exact He.int_ok X G (c.d.fact 67 (f := .int "MOST_REST" 60) rfl)
theorem k_Wants_MOST : ∃ C mc u, mg "Wants" = some (.ref C) ∧ ClX.CRead K C mc ∧ ClX.CVal K C mc "MOST" (.int 60) u := by
  obtain ⟨h, X, G, c⟩ := T.ex
  obtain ⟨mc, u, h1, h2⟩ := cvalI_ok (c.lk 0 (f := cvalI "Wants" "MOST" 60) rfl)
  exact ⟨_, mc, u, g_Wants T, h1, h2⟩
theorem k_Wants_GREATEST : ∃ C mc u, mg "Wants" = some (.ref C) ∧ ClX.CRead K C mc ∧ ClX.CVal K C mc "GREATEST" (.int 30) u := by
  obtain ⟨h, X, G, c⟩ := T.ex
  obtain ⟨mc, u, h1, h2⟩ := cvalI_ok (c.lk 1 (f := cvalI "Wants" "GREATEST" 30) rfl)
  exact ⟨_, mc, u, g_Wants T, h1, h2⟩
theorem x_NoPerson : XN.ExcK PySem.Challenge.pw_restnights_k15_orders_whole_steepest K (He.ga K "NoPerson") (He.ma K (He.ga K "NoPerson") "__init__") xd_NoPerson.fs := by
  obtain ⟨h, X, G, c⟩ := T.ex
  obtain ⟨h1, h2⟩ := c.x 0 (d := xd_NoPerson) rfl
  exact excK_of xs_NoPerson h1 h2
theorem x_NamedTwice : XN.ExcK PySem.Challenge.pw_restnights_k15_orders_whole_steepest K (He.ga K "NamedTwice") (He.ma K (He.ga K "NamedTwice") "__init__") xd_NamedTwice.fs := by
  obtain ⟨h, X, G, c⟩ := T.ex
  obtain ⟨h1, h2⟩ := c.x 1 (d := xd_NamedTwice) rfl
  exact excK_of xs_NamedTwice h1 h2
theorem x_BadNumber : XN.ExcK PySem.Challenge.pw_restnights_k15_orders_whole_steepest K (He.ga K "BadNumber") (He.ma K (He.ga K "BadNumber") "__init__") xd_BadNumber.fs := by
  obtain ⟨h, X, G, c⟩ := T.ex
  obtain ⟨h1, h2⟩ := c.x 2 (d := xd_BadNumber) rfl
  exact excK_of xs_BadNumber h1 h2
theorem x_TooLong : XN.ExcK PySem.Challenge.pw_restnights_k15_orders_whole_steepest K (He.ga K "TooLong") (He.ma K (He.ga K "TooLong") "__init__") xd_TooLong.fs := by
  obtain ⟨h, X, G, c⟩ := T.ex
  obtain ⟨h1, h2⟩ := c.x 3 (d := xd_TooLong) rfl
  exact excK_of xs_TooLong h1 h2
theorem x_BadRest : XN.ExcK PySem.Challenge.pw_restnights_k15_orders_whole_steepest K (He.ga K "BadRest") (He.ma K (He.ga K "BadRest") "__init__") xd_BadRest.fs := by
  obtain ⟨h, X, G, c⟩ := T.ex
  obtain ⟨h1, h2⟩ := c.x 4 (d := xd_BadRest) rfl
  exact excK_of xs_BadRest h1 h2
theorem x_BadComing : XN.ExcK PySem.Challenge.pw_restnights_k15_orders_whole_steepest K (He.ga K "BadComing") (He.ma K (He.ga K "BadComing") "__init__") xd_BadComing.fs := by
  obtain ⟨h, X, G, c⟩ := T.ex
  obtain ⟨h1, h2⟩ := c.x 5 (d := xd_BadComing) rfl
  exact excK_of xs_BadComing h1 h2
theorem x_WrongLength : XN.ExcK PySem.Challenge.pw_restnights_k15_orders_whole_steepest K (He.ga K "WrongLength") (He.ma K (He.ga K "WrongLength") "__init__") xd_WrongLength.fs := by
  obtain ⟨h, X, G, c⟩ := T.ex
  obtain ⟨h1, h2⟩ := c.x 6 (d := xd_WrongLength) rfl
  exact excK_of xs_WrongLength h1 h2
theorem pr_House_nights : PropOf K (He.ga K "House") "nights" (He.ma K (He.ga K "House") "nights") (prAd "House" "nights" K) := by
  obtain ⟨h, X, G, c⟩ := T.ex
  exact prB_ok (c.lk 2 (f := prB "House" "nights") rfl)
theorem pr_House_people : PropOf K (He.ga K "House") "people" (He.ma K (He.ga K "House") "people") (prAd "House" "people" K) := by
  obtain ⟨h, X, G, c⟩ := T.ex
  exact prB_ok (c.lk 3 (f := prB "House" "people") rfl)
theorem F_check_person : ∃ fd, FunD K "check_person" "check_person" (defArgs s_check_person) (defBody s_check_person) (defScope s_check_person) [] [] (He.ga K "check_person") fd := by
  obtain ⟨h, X, G, c⟩ := T.ex
  exact c.d.def_ 0 (d := d_check_person) rfl
theorem F_check_people : ∃ fd, FunD K "check_people" "check_people" (defArgs s_check_people) (defBody s_check_people) (defScope s_check_people) [] [] (He.ga K "check_people") fd := by
  obtain ⟨h, X, G, c⟩ := T.ex
  exact c.d.def_ 1 (d := d_check_people) rfl
theorem F_check_order : ∃ fd, FunD K "check_order" "check_order" (defArgs s_check_order) (defBody s_check_order) (defScope s_check_order) [] [] (He.ga K "check_order") fd := by
  obtain ⟨h, X, G, c⟩ := T.ex
  exact c.d.def_ 2 (d := d_check_order) rfl
theorem F_arrivals : ∃ fd, FunD K "arrivals" "arrivals" (defArgs s_arrivals) (defBody s_arrivals) (defScope s_arrivals) [] [] (He.ga K "arrivals") fd := by
  obtain ⟨h, X, G, c⟩ := T.ex
  exact c.d.def_ 3 (d := d_arrivals) rfl
theorem F_first_choice : ∃ fd, FunD K "first_choice" "first_choice" (defArgs s_first_choice) (defBody s_first_choice) (defScope s_first_choice) [] [] (He.ga K "first_choice") fd := by
  obtain ⟨h, X, G, c⟩ := T.ex
  exact c.d.def_ 4 (d := d_first_choice) rfl
theorem F_room_left : ∃ fd, FunD K "room_left" "room_left" (defArgs s_room_left) (defBody s_room_left) (defScope s_room_left) [] [] (He.ga K "room_left") fd := by
  obtain ⟨h, X, G, c⟩ := T.ex
  exact c.d.def_ 5 (d := d_room_left) rfl
theorem F_most_of : ∃ fd, FunD K "most_of" "most_of" (defArgs s_most_of) (defBody s_most_of) (defScope s_most_of) [] [] (He.ga K "most_of") fd := by
  obtain ⟨h, X, G, c⟩ := T.ex
  exact c.d.def_ 6 (d := d_most_of) rfl
theorem F_growth : ∃ fd, FunD K "growth" "growth" (defArgs s_growth) (defBody s_growth) (defScope s_growth) [] [] (He.ga K "growth") fd := by
  obtain ⟨h, X, G, c⟩ := T.ex
  exact c.d.def_ 7 (d := d_growth) rfl
theorem F_nights_in_order : ∃ fd, FunD K "nights_in_order" "nights_in_order" (defArgs s_nights_in_order) (defBody s_nights_in_order) (defScope s_nights_in_order) [] [] (He.ga K "nights_in_order") fd := by
  obtain ⟨h, X, G, c⟩ := T.ex
  exact c.d.def_ 8 (d := d_nights_in_order) rfl
theorem F_order_counts : ∃ fd, FunD K "order_counts" "order_counts" (defArgs s_order_counts) (defBody s_order_counts) (defScope s_order_counts) [] [] (He.ga K "order_counts") fd := by
  obtain ⟨h, X, G, c⟩ := T.ex
  exact c.d.def_ 9 (d := d_order_counts) rfl
theorem F_HouseU_initU : ∃ fd, FunD K "__init__" "House.__init__" (defArgs s_HouseU_initU) (defBody s_HouseU_initU) (defScope s_HouseU_initU) (d_HouseU_initU.dvs K) (d_HouseU_initU.kws K) (He.ma K (He.ga K "House") "__init__") fd := by
  obtain ⟨h, X, G, c⟩ := T.ex
  exact c.d.def_ 10 (d := d_HouseU_initU) rfl
theorem F_House_nights : ∃ fd, FunD K "nights" "House.nights" (defArgs s_House_nights) (defBody s_House_nights) (defScope s_House_nights) [] [] (prAd "House" "nights" K) fd := by
  obtain ⟨h, X, G, c⟩ := T.ex
  exact c.a 0 (d := d_House_nights) rfl
theorem F_House_people : ∃ fd, FunD K "people" "House.people" (defArgs s_House_people) (defBody s_House_people) (defScope s_House_people) [] [] (prAd "House" "people" K) fd := by
  obtain ⟨h, X, G, c⟩ := T.ex
  exact c.a 1 (d := d_House_people) rfl
theorem F_WantsU_initU : ∃ fd, FunD K "__init__" "Wants.__init__" (defArgs s_WantsU_initU) (defBody s_WantsU_initU) (defScope s_WantsU_initU) [] [] (He.ma K (He.ga K "Wants") "__init__") fd := by
  obtain ⟨h, X, G, c⟩ := T.ex
  exact c.d.def_ 11 (d := d_WantsU_initU) rfl
theorem F_WantsU_lenU : ∃ fd, FunD K "__len__" "Wants.__len__" (defArgs s_WantsU_lenU) (defBody s_WantsU_lenU) (defScope s_WantsU_lenU) [] [] (He.ma K (He.ga K "Wants") "__len__") fd := by
  obtain ⟨h, X, G, c⟩ := T.ex
  exact c.d.def_ 12 (d := d_WantsU_lenU) rfl
theorem F_WantsU_iterU : ∃ fd, FunD K "__iter__" "Wants.__iter__" (defArgs s_WantsU_iterU) (defBody s_WantsU_iterU) (defScope s_WantsU_iterU) [] [] (He.ma K (He.ga K "Wants") "__iter__") fd := by
  obtain ⟨h, X, G, c⟩ := T.ex
  exact c.d.def_ 13 (d := d_WantsU_iterU) rfl
theorem F__law_pool : ∃ fd, FunD K "_law_pool" "_law_pool" (defArgs s__law_pool) (defBody s__law_pool) (defScope s__law_pool) [] [] (He.ga K "_law_pool") fd := by
  obtain ⟨h, X, G, c⟩ := T.ex
  exact c.d.def_ 14 (d := d__law_pool) rfl
theorem F__law_draw : ∃ fd, FunD K "_law_draw" "_law_draw" (defArgs s__law_draw) (defBody s__law_draw) (defScope s__law_draw) [] [] (He.ga K "_law_draw") fd := by
  obtain ⟨h, X, G, c⟩ := T.ex
  exact c.d.def_ 15 (d := d__law_draw) rfl
theorem F__law_comings : ∃ fd, FunD K "_law_comings" "_law_comings" (defArgs s__law_comings) (defBody s__law_comings) (defScope s__law_comings) [] [] (He.ga K "_law_comings") fd := by
  obtain ⟨h, X, G, c⟩ := T.ex
  exact c.d.def_ 16 (d := d__law_comings) rfl
theorem F__law_wants : ∃ fd, FunD K "_law_wants" "_law_wants" (defArgs s__law_wants) (defBody s__law_wants) (defScope s__law_wants) [] [] (He.ga K "_law_wants") fd := by
  obtain ⟨h, X, G, c⟩ := T.ex
  exact c.d.def_ 17 (d := d__law_wants) rfl
theorem F__law_rows : ∃ fd, FunD K "_law_rows" "_law_rows" (defArgs s__law_rows) (defBody s__law_rows) (defScope s__law_rows) [] [] (He.ga K "_law_rows") fd := by
  obtain ⟨h, X, G, c⟩ := T.ex
  exact c.d.def_ 18 (d := d__law_rows) rfl
theorem F__law_counts : ∃ fd, FunD K "_law_counts" "_law_counts" (defArgs s__law_counts) (defBody s__law_counts) (defScope s__law_counts) [] [] (He.ga K "_law_counts") fd := by
  obtain ⟨h, X, G, c⟩ := T.ex
  exact c.d.def_ 19 (d := d__law_counts) rfl
theorem F__law_size : ∃ fd, FunD K "_law_size" "_law_size" (defArgs s__law_size) (defBody s__law_size) (defScope s__law_size) [] [] (He.ga K "_law_size") fd := by
  obtain ⟨h, X, G, c⟩ := T.ex
  exact c.d.def_ 20 (d := d__law_size) rfl
theorem F__law_world : ∃ fd, FunD K "_law_world" "_law_world" (defArgs s__law_world) (defBody s__law_world) (defScope s__law_world) [] [] (He.ga K "_law_world") fd := by
  obtain ⟨h, X, G, c⟩ := T.ex
  exact c.d.def_ 21 (d := d__law_world) rfl
theorem F__law_bend_days : ∃ fd, FunD K "_law_bend_days" "_law_bend_days" (defArgs s__law_bend_days) (defBody s__law_bend_days) (defScope s__law_bend_days) [] [] (He.ga K "_law_bend_days") fd := by
  obtain ⟨h, X, G, c⟩ := T.ex
  exact c.d.def_ 22 (d := d__law_bend_days) rfl
theorem F__law_int : ∃ fd, FunD K "_law_int" "_law_int" (defArgs s__law_int) (defBody s__law_int) (defScope s__law_int) [] [] (He.ga K "_law_int") fd := by
  obtain ⟨h, X, G, c⟩ := T.ex
  exact c.d.def_ 23 (d := d__law_int) rfl
theorem F__law_ints : ∃ fd, FunD K "_law_ints" "_law_ints" (defArgs s__law_ints) (defBody s__law_ints) (defScope s__law_ints) [] [] (He.ga K "_law_ints") fd := by
  obtain ⟨h, X, G, c⟩ := T.ex
  exact c.d.def_ 24 (d := d__law_ints) rfl
theorem F__law_same : ∃ fd, FunD K "_law_same" "_law_same" (defArgs s__law_same) (defBody s__law_same) (defScope s__law_same) [] [] (He.ga K "_law_same") fd := by
  obtain ⟨h, X, G, c⟩ := T.ex
  exact c.d.def_ 25 (d := d__law_same) rfl
theorem F__law_first : ∃ fd, FunD K "_law_first" "_law_first" (defArgs s__law_first) (defBody s__law_first) (defScope s__law_first) [] [] (He.ga K "_law_first") fd := by
  obtain ⟨h, X, G, c⟩ := T.ex
  exact c.d.def_ 26 (d := d__law_first) rfl
theorem F__law_house : ∃ fd, FunD K "_law_house" "_law_house" (defArgs s__law_house) (defBody s__law_house) (defScope s__law_house) [] [] (He.ga K "_law_house") fd := by
  obtain ⟨h, X, G, c⟩ := T.ex
  exact c.d.def_ 27 (d := d__law_house) rfl
theorem F__law_large : ∃ fd, FunD K "_law_large" "_law_large" (defArgs s__law_large) (defBody s__law_large) (defScope s__law_large) [] [] (He.ga K "_law_large") fd := by
  obtain ⟨h, X, G, c⟩ := T.ex
  exact c.d.def_ 28 (d := d__law_large) rfl
theorem F__law_cut : ∃ fd, FunD K "_law_cut" "_law_cut" (defArgs s__law_cut) (defBody s__law_cut) (defScope s__law_cut) [] [] (He.ga K "_law_cut") fd := by
  obtain ⟨h, X, G, c⟩ := T.ex
  exact c.d.def_ 29 (d := d__law_cut) rfl
theorem F__law_thin : ∃ fd, FunD K "_law_thin" "_law_thin" (defArgs s__law_thin) (defBody s__law_thin) (defScope s__law_thin) [] [] (He.ga K "_law_thin") fd := by
  obtain ⟨h, X, G, c⟩ := T.ex
  exact c.d.def_ 30 (d := d__law_thin) rfl
theorem F__law_mixed : ∃ fd, FunD K "_law_mixed" "_law_mixed" (defArgs s__law_mixed) (defBody s__law_mixed) (defScope s__law_mixed) [] [] (He.ga K "_law_mixed") fd := by
  obtain ⟨h, X, G, c⟩ := T.ex
  exact c.d.def_ 31 (d := d__law_mixed) rfl
theorem F__law_steepest : ∃ fd, FunD K "_law_steepest" "_law_steepest" (defArgs s__law_steepest) (defBody s__law_steepest) (defScope s__law_steepest) [] [] (He.ga K "_law_steepest") fd := by
  obtain ⟨h, X, G, c⟩ := T.ex
  exact c.d.def_ 32 (d := d__law_steepest) rfl
theorem F_law : ∃ fd, FunD K "law" "law" (defArgs s_law) (defBody s_law) (defScope s_law) [] [] (He.ga K "law") fd := by
  obtain ⟨h, X, G, c⟩ := T.ex
  exact c.d.def_ 33 (d := d_law) rfl
end
def W_WantsU_lenU (w : WantsT) : Wp Int := fun N _ => N w.numbers.items.length
theorem fd_WantsU_lenU {w : World} {K : PySem.W.Frag} {mg : Str → Option Value} {base : Heap} (T : LC K mg) {fd : FuncData} (F : FunD K "__len__" "Wants.__len__" (defArgs s_WantsU_lenU) (defBody s_WantsU_lenU) (defScope s_WantsU_lenU) [] [] (He.ma K (He.ga K "Wants") "__len__") fd) : FnOk PW w K mg base (L2.CX PW w) 4 (He.ma K (He.ga K "Wants") "__len__") fd P_WantsU_lenU (spF K (arC (α := WantsT) ar0) (fun p : WantsT × Unit => W_WantsU_lenU p.1)) := by
  refine F.ok sc_WantsU_lenU (fun vs H Q E h => by obtain ⟨_, _, _, _, _, r, _⟩ := h; exact r.length) fun cdv A outer s H vs Q E hr h => ?_
  refine ⟨_, (pss_cons (ps_ret (pe_callB (kLen K) (by rfl) (f_len T) PySem.boot_len (pa_cons (kFld K (pv 0) rfl) pa_nil))) pss_nil), ?_⟩
  refine use_F (Γ := fun x : WantsT × Unit => [.v (x.1 : WantsT)]) (fun _ => False) (fun _ z => z.elim) h (fun x => (.v .nil)) (fun _ => Nat.le_of_ble_eq_true rfl) (fun F x => (s_ret (f := fun z => z) (e_cb1 b_lenT (e_fld (fun x : WantsT => x.numbers) fl_Wants_numbers (cl_Wants T) (na_Wants_numbers T) (e_var 0 rfl))) .nil (fun _ => rfl) (fun _ => .nil))) (fun x n e hw => ?_)
  obtain ⟨w, _⟩ := x
  dsimp only at *
  exact hw
theorem fk_WantsU_lenU {w : World} {K : PySem.W.Frag} {mg : Str → Option Value} {base : Heap} (T : LC K mg) : ∃ fd, Binds K fd P_WantsU_lenU [] ∧ FnOk PW w K mg base (L2.CX PW w) 4 (He.ma K (He.ga K "Wants") "__len__") fd P_WantsU_lenU (spF K (arC (α := WantsT) ar0) (fun p : WantsT × Unit => W_WantsU_lenU p.1)) ∧ PySem.W.keepIn K (.ref (He.ma K (He.ga K "Wants") "__len__")) = true := by
  obtain ⟨fd, F⟩ := F_WantsU_lenU T
  exact ⟨fd, (F.bindsN fun _ _ _ _ _ _ us hl => match us, hl with | [_], _ => rfl), fd_WantsU_lenU T  F, F.kp⟩
theorem LN_Wants {w : World} {K : PySem.W.Frag} {mg : Str → Option Value} {base : Heap} (T : LC K mg) : LenC PW w K mg base (He.ga K "Wants") 4 (spF K (arC (α := WantsT) ar0) (fun p : WantsT × Unit => W_WantsU_lenU p.1)) := by
  obtain ⟨fd, b, F, kp⟩ := fk_WantsU_lenU (w := w) (base := base) T 
  exact ⟨_, fd, _, (me_WantsU_lenU T).at_, (me_WantsU_lenU T).fn, b, F⟩

def W_House_nights (h : HouseT) : Wp Int := fun N _ => h.Ok ∧ N h.n
theorem fd_House_nights {w : World} {K : PySem.W.Frag} {mg : Str → Option Value} {base : Heap} (T : LC K mg) (LN_Wants : LenC PW w K mg base (He.ga K "Wants") 4 (spF K (arC (α := WantsT) ar0) (fun p : WantsT × Unit => W_WantsU_lenU p.1))) {fd : FuncData} (F : FunD K "nights" "House.nights" (defArgs s_House_nights) (defBody s_House_nights) (defScope s_House_nights) [] [] (prAd "House" "nights" K) fd) : FnOk PW w K mg base (L2.CX PW w) 6 (prAd "House" "nights" K) fd P_House_nights (spF K (arC (α := HouseT) ar0) (fun p : HouseT × Unit => W_House_nights p.1)) := by
  refine F.ok sc_House_nights (fun vs H Q E h => by obtain ⟨_, _, _, _, _, r, _⟩ := h; exact r.length) fun cdv A outer s H vs Q E hr h => ?_
  refine ⟨_, (pss_cons (ps_ret (pe_callB (call_lenO LN_Wants (hr.mono (by decide))) (by rfl) (f_len T) PySem.boot_len (pa_cons (kFld K (pv 0) rfl) pa_nil))) pss_nil), ?_⟩
  refine use_F (Γ := fun x : HouseT × Unit => [.v (x.1 : HouseT)]) (fun _ => False) (fun _ z => z.elim) h (fun x => (.v .nil)) (fun _ => Nat.le_of_ble_eq_true rfl) (fun F x => (s_ret (f := fun z => z) (e_lenO (e_fld (fun x : HouseT => x.wants) fl_House_wants (cl_House T) (na_House_wants T) (e_var 0 rfl))) .nil (fun _ => rfl) (fun _ => .nil))) (fun x n e hw => ?_)
  obtain ⟨h, _⟩ := x
  dsimp only at *
  have := hw.1.n60
  exact ⟨by show 0 ≤ ((h.n : Nat) : Int); omega, by show ((h.n : Nat) : Int) < _; omega, hw.2⟩
theorem fk_House_nights {w : World} {K : PySem.W.Frag} {mg : Str → Option Value} {base : Heap} (T : LC K mg) (LN_Wants : LenC PW w K mg base (He.ga K "Wants") 4 (spF K (arC (α := WantsT) ar0) (fun p : WantsT × Unit => W_WantsU_lenU p.1))) : ∃ fd, Binds K fd P_House_nights [] ∧ FnOk PW w K mg base (L2.CX PW w) 6 (prAd "House" "nights" K) fd P_House_nights (spF K (arC (α := HouseT) ar0) (fun p : HouseT × Unit => W_House_nights p.1)) ∧ PySem.W.keepIn K (.ref (prAd "House" "nights" K)) = true := by
  obtain ⟨fd, F⟩ := F_House_nights T
  exact ⟨fd, (F.bindsN fun _ _ _ _ _ _ us hl => match us, hl with | [_], _ => rfl), fd_House_nights T LN_Wants F, F.kp⟩
theorem PR_House_nights {w : World} {K : PySem.W.Frag} {mg : Str → Option Value} {base : Heap} (T : LC K mg) (LN_Wants : LenC PW w K mg base (He.ga K "Wants") 4 (spF K (arC (α := WantsT) ar0) (fun p : WantsT × Unit => W_WantsU_lenU p.1))) : PrC PW w K mg base (He.ga K "House") "nights" 6 (spF K (arC (α := HouseT) ar0) (fun p : HouseT × Unit => W_House_nights p.1)) := by
  obtain ⟨fd, b, F, kp⟩ := fk_House_nights (w := w) (base := base) T LN_Wants
  exact ⟨_, _, fd, _, cl_House T, pr_House_nights T, b, F⟩

def W_House_people (h : HouseT) : Wp Int := fun N _ => h.Ok ∧ N h.p
theorem fd_House_people {w : World} {K : PySem.W.Frag} {mg : Str → Option Value} {base : Heap} (T : LC K mg) {fd : FuncData} (F : FunD K "people" "House.people" (defArgs s_House_people) (defBody s_House_people) (defScope s_House_people) [] [] (prAd "House" "people" K) fd) : FnOk PW w K mg base (L2.CX PW w) 4 (prAd "House" "people" K) fd P_House_people (spF K (arC (α := HouseT) ar0) (fun p : HouseT × Unit => W_House_people p.1)) := by
  refine F.ok sc_House_people (fun vs H Q E h => by obtain ⟨_, _, _, _, _, r, _⟩ := h; exact r.length) fun cdv A outer s H vs Q E hr h => ?_
  refine ⟨_, (pss_cons (ps_ret (pe_callB (kLen K) (by rfl) (f_len T) PySem.boot_len (pa_cons (kFld K (pv 0) rfl) pa_nil))) pss_nil), ?_⟩
  refine use_F (Γ := fun x : HouseT × Unit => [.v (x.1 : HouseT)]) (fun _ => False) (fun _ z => z.elim) h (fun x => (.v .nil)) (fun _ => Nat.le_of_ble_eq_true rfl) (fun F x => (s_ret (f := fun z => z) (e_cb1 b_lenT (e_fld (fun x : HouseT => x.comings) fl_House_comings (cl_House T) (na_House_comings T) (e_var 0 rfl))) .nil (fun _ => rfl) (fun _ => .nil))) (fun x n e hw => ?_)
  obtain ⟨h, _⟩ := x
  dsimp only at *
  exact hw.2
theorem fk_House_people {w : World} {K : PySem.W.Frag} {mg : Str → Option Value} {base : Heap} (T : LC K mg) : ∃ fd, Binds K fd P_House_people [] ∧ FnOk PW w K mg base (L2.CX PW w) 4 (prAd "House" "people" K) fd P_House_people (spF K (arC (α := HouseT) ar0) (fun p : HouseT × Unit => W_House_people p.1)) ∧ PySem.W.keepIn K (.ref (prAd "House" "people" K)) = true := by
  obtain ⟨fd, F⟩ := F_House_people T
  exact ⟨fd, (F.bindsN fun _ _ _ _ _ _ us hl => match us, hl with | [_], _ => rfl), fd_House_people T  F, F.kp⟩
theorem PR_House_people {w : World} {K : PySem.W.Frag} {mg : Str → Option Value} {base : Heap} (T : LC K mg) : PrC PW w K mg base (He.ga K "House") "people" 4 (spF K (arC (α := HouseT) ar0) (fun p : HouseT × Unit => W_House_people p.1)) := by
  obtain ⟨fd, b, F, kp⟩ := fk_House_people (w := w) (base := base) T 
  exact ⟨_, _, fd, _, cl_House T, pr_House_people T, b, F⟩

def W_check_person (h : HouseT) (p : Int) : Wp Unit := fun N E => h.Ok ∧ if 0 ≤ p ∧ p < h.p then N () else E (noPerson p)
theorem fd_check_person {w : World} {K : PySem.W.Frag} {mg : Str → Option Value} {base : Heap} (T : LC K mg) (PR_House_people : PrC PW w K mg base (He.ga K "House") "people" 4 (spF K (arC (α := HouseT) ar0) (fun p : HouseT × Unit => W_House_people p.1))) {fd : FuncData} (F : FunD K "check_person" "check_person" (defArgs s_check_person) (defBody s_check_person) (defScope s_check_person) [] [] (He.ga K "check_person") fd) : FnOk PW w K mg base (L2.CX PW w) 6 (He.ga K "check_person") fd P_check_person (spF K (arC (α := HouseT) (arC (α := Int) ar0)) (fun p : HouseT × Int × Unit => W_check_person p.1 p.2.1)) := by
  refine F.ok sc_check_person (fun vs H Q E h => by obtain ⟨_, _, _, _, _, r, _⟩ := h; exact r.length) fun cdv A outer s H vs Q E hr h => ?_
  refine ⟨_, (pss_cons (ps_if (pt_not (pt_chain op_le op_lt pe_int (pv 1) (pe_pr PR_House_people (hr.mono (by decide)) (pv 0)))) (pss_cons (ps_raise rfl (takes_of rfl rfl rfl rfl) (pmk_exc (x_NoPerson T) (List.cons_ne_nil _ _) (g_NoPerson T) hr (pa_cons (pv 1) pa_nil) (by rfl) (f_super T))) pss_nil) pss_nil) pss_nil), ?_⟩
  refine use_F (Γ := fun x : HouseT × Int × Unit => [.v (x.1 : HouseT), .v (x.2.1 : Int)]) (fun n => n ()) (fun _ z => ⟨(), z, rfl⟩) h (fun x => (.v (.v .nil))) (fun _ => Nat.le_of_ble_eq_true rfl) (fun F x => (s_if0 (c_not (c_test (e_chain o_cmp o_cmp (e_int _) (e_var 1 rfl) (e_pr (e_var 0 rfl))))) .nil (s_raise (t_cons (e_var 1 rfl) t_nil) (fun _ => rfl) .nil) (s_next () .nil))) (fun x n e hw => ?_)
  obtain ⟨h, p, _⟩ := x
  dsimp only at *
  obtain ⟨hk, hw⟩ := hw
  simp only [W_House_people]
  have e1 : (⟨"NoPerson", xd_NoPerson.fs, arC ar0 (p, ())⟩ : Err) = noPerson p := rfl
  rw [e1]
  grind
theorem fk_check_person {w : World} {K : PySem.W.Frag} {mg : Str → Option Value} {base : Heap} (T : LC K mg) (PR_House_people : PrC PW w K mg base (He.ga K "House") "people" 4 (spF K (arC (α := HouseT) ar0) (fun p : HouseT × Unit => W_House_people p.1))) : ∃ fd, Binds K fd P_check_person [] ∧ FnOk PW w K mg base (L2.CX PW w) 6 (He.ga K "check_person") fd P_check_person (spF K (arC (α := HouseT) (arC (α := Int) ar0)) (fun p : HouseT × Int × Unit => W_check_person p.1 p.2.1)) ∧ PySem.W.keepIn K (.ref (He.ga K "check_person")) = true := by
  obtain ⟨fd, F⟩ := F_check_person T
  exact ⟨fd, (F.bindsN fun _ _ _ _ _ _ us hl => match us, hl with | [_, _], _ => rfl), fd_check_person T PR_House_people F, F.kp⟩
theorem G_check_person {w : World} {K : PySem.W.Frag} {mg : Str → Option Value} {base : Heap} (T : LC K mg) (PR_House_people : PrC PW w K mg base (He.ga K "House") "people" 4 (spF K (arC (α := HouseT) ar0) (fun p : HouseT × Unit => W_House_people p.1))) : GFn PW w K mg base "check_person" 6 P_check_person (spF K (arC (α := HouseT) (arC (α := Int) ar0)) (fun p : HouseT × Int × Unit => W_check_person p.1 p.2.1)) := by
  obtain ⟨fd, b, F, kp⟩ := fk_check_person (w := w) (base := base) T PR_House_people
  exact ⟨_, fd, g_check_person T, kp, b, F⟩

def W_check_people (h : HouseT) (ps : List Int) : Wp Unit := fun N E => h.Ok ∧ match badPeople h.p [] ps with | none => N () | some e => E e
theorem fd_check_people {w : World} {K : PySem.W.Frag} {mg : Str → Option Value} {base : Heap} (T : LC K mg) (PR_House_people : PrC PW w K mg base (He.ga K "House") "people" 4 (spF K (arC (α := HouseT) ar0) (fun p : HouseT × Unit => W_House_people p.1))) (G_check_person : GFn PW w K mg base "check_person" 6 P_check_person (spF K (arC (α := HouseT) (arC (α := Int) ar0)) (fun p : HouseT × Int × Unit => W_check_person p.1 p.2.1))) {fd : FuncData} (F : FunD K "check_people" "check_people" (defArgs s_check_people) (defBody s_check_people) (defScope s_check_people) [] [] (He.ga K "check_people") fd) : FnOk PW w K mg base (L2.CX PW w) 7 (He.ga K "check_people") fd P_check_people (spF K (arC (α := HouseT) (arC (α := (List Int)) ar0)) (fun p : HouseT × (List Int) × Unit => W_check_people p.1 p.2.1)) := by
  refine F.ok sc_check_people (fun vs H Q E h => by obtain ⟨_, _, _, _, _, r, _⟩ := h; exact r.length) fun cdv A outer s H vs Q E hr h => ?_
  refine ⟨_, (pss_cons (ps_set (i := 2) sc_check_people.nd rfl (Or.inl rfl) (pe_op (kMul K) (pe_lst (pa_cons pe_bl pa_nil)) (pe_pr PR_House_people (hr.mono (by decide)) (pv 0))))
      (pss_cons (ps_for (passes_of rfl) rfl (kiList K (pv 1)) (pg_name (i := 3) sc_check_people.nd rfl (Or.inl rfl)) (pss_cons (ps_expr (pe_g G_check_person (hr.mono (by decide)) (takes_of rfl rfl rfl rfl) (pa_cons (pv 0) (pa_cons (pv 3) pa_nil))))
      (pss_cons (ps_if (pt_val (pe_ix (kIx K) (pv 2) (pv 3) (fun _ _ => rfl))) (pss_cons (ps_raise rfl (takes_of rfl rfl rfl rfl) (pmk_exc (x_NamedTwice T) (List.cons_ne_nil _ _) (g_NamedTwice T) hr (pa_cons (pv 3) pa_nil) (by rfl) (f_super T))) pss_nil) pss_nil)
      (pss_cons (ps_asg pe_bl (pg_sub (pv 2) (pv 3) set_list))
      pss_nil))))
      pss_nil)), ?_⟩
  refine use_F (Γ := fun x : HouseT × (List Int) × Unit => [.v (x.1 : HouseT), .v (x.2.1 : (List Int)), .u, .u]) (fun n => n ()) (fun _ z => ⟨(), z, rfl⟩) h (fun x => (.v (.v (.u (.u .nil))))) (fun _ => Nat.le_of_ble_eq_true rfl) (fun F x => (s_setR 2 (α := List Bool) (r_mul (e_frz (r_lst (a_cons (e_bl _) a_nil))) (e_pr (e_var 0 rfl))) .nil (fun named_1 => (s_for (eh := (fun s_2 : (List Bool) × Unit => [.v (x.1 : HouseT), .v (x.2.1 : (List Int)), .o (mu (s_2.1 : List Bool)), .u])) (named_1, ()) (i_list (e_var 1 rfl)) .nil (show Wk [.v (x.1 : HouseT), .v (x.2.1 : (List Int)), .o (mu (named_1 : List Bool)), .u] [.v (x.1 : HouseT), .v (x.2.1 : (List Int)), .o (mu (named_1 : List Bool)), .u] from (.same (.same (.same (.u .nil))))) (g_name 3) (fun person_3 s_2 => (s_drop (e_call (t_cons (e_var 0 rfl) (t_cons (e_var 3 rfl) t_nil))) .nil (s_if (e1 := (fun _ : Unit => [.v (x.1 : HouseT), .v (x.2.1 : (List Int)), .o (mu (s_2.1 : List Bool)), .v (person_3 : Int)])) (c_val (e_peek 2 rfl (Nat.le_of_ble_eq_true rfl) (e_op o_ix (e_var 2 rfl) (e_var 3 rfl)))) .nil (s_raise (t_cons (e_var 3 rfl) t_nil) (fun _ => rfl) .nil) (s_next () (show Wk [.v (x.1 : HouseT), .v (x.2.1 : (List Int)), .o (mu (s_2.1 : List Bool)), .v (person_3 : Int)] [.v (x.1 : HouseT), .v (x.2.1 : (List Int)), .o (mu (s_2.1 : List Bool)), .v (person_3 : Int)] from (.same (.same (.same (.same .nil)))))) (fun _ => (s_setix 2 rfl (e_bl _) (e_var 3 rfl) .nil (fun j_6 named_5 => (s_next ((List.set s_2.1 j_6 named_5), ()) (show Wk [.v (x.1 : HouseT), .v (x.2.1 : (List Int)), .o (mu ((List.set s_2.1 j_6 named_5) : List Bool)), .v (person_3 : Int)] [.v (x.1 : HouseT), .v (x.2.1 : (List Int)), .o (mu ((List.set s_2.1 j_6 named_5) : List Bool)), .u] from (.same (.same (.same (.u .nil)))))))))))) (fun s_2 => (s_next () .nil)))))) (fun x n e hw => ?_)
  obtain ⟨h, ps, _⟩ := x
  dsimp only at *
  obtain ⟨hk, hw⟩ := hw
  have hp := hk.p30
  simp only [W_House_people, W_check_person, rep1, List.length_singleton]
  refine ⟨sl_ok (by omega), hk, by omega, by omega, sl_ok (by omega), ?_⟩
  have hinv : ∀ i : Nat, i < h.p → (List.replicate h.p false)[i]? = some (decide ((i : Int) ∈ ([] : List Int))) := fun i hi => by simp [hi]
  have hlen : (List.replicate h.p false).length = h.p := by simp
  have e0 : ((h.p : Int)).toNat = h.p := by omega
  rw [e0]
  generalize List.replicate h.p false = l at hinv hlen
  generalize ([] : List Int) = seen at hinv hw
  induction ps generalizing l seen with
  | nil => exact hw
  | cons p ps ih =>
    simp only [wfor, badPeople] at hw ⊢
    refine ⟨hk, ?_⟩
    by_cases hc : 0 ≤ p ∧ p < h.p
    · rw [if_pos hc] at hw ⊢
      have hi := hinv p.toNat (by omega)
      have e1 : ((p.toNat : Nat) : Int) = p := by omega
      rw [e1] at hi
      rw [atI_nn hc.1, hi]
      refine ⟨_, rfl, fun hm => ?_, fun hm => ?_⟩
      · have hm := of_decide_eq_true hm
        rw [if_pos hm] at hw
        exact hw
      · have hm := of_decide_eq_false hm
        rw [if_neg hm] at hw
        refine ⟨_, ixN_nn hc.1 (by omega), ?_⟩
        refine ih _ (by simp [hlen]) _ (fun i hi => ?_) hw
        rw [List.getElem?_set]
        by_cases e : p.toNat = i
        · subst e; simp [hlen, hi, e1]
        · rw [if_neg e, hinv i hi]
          have : ((i : Int) = p) = False := by simp; omega
          simp [this]
    · rw [if_neg hc] at hw ⊢
      exact hw
theorem fk_check_people {w : World} {K : PySem.W.Frag} {mg : Str → Option Value} {base : Heap} (T : LC K mg) (PR_House_people : PrC PW w K mg base (He.ga K "House") "people" 4 (spF K (arC (α := HouseT) ar0) (fun p : HouseT × Unit => W_House_people p.1))) (G_check_person : GFn PW w K mg base "check_person" 6 P_check_person (spF K (arC (α := HouseT) (arC (α := Int) ar0)) (fun p : HouseT × Int × Unit => W_check_person p.1 p.2.1))) : ∃ fd, Binds K fd P_check_people [] ∧ FnOk PW w K mg base (L2.CX PW w) 7 (He.ga K "check_people") fd P_check_people (spF K (arC (α := HouseT) (arC (α := (List Int)) ar0)) (fun p : HouseT × (List Int) × Unit => W_check_people p.1 p.2.1)) ∧ PySem.W.keepIn K (.ref (He.ga K "check_people")) = true := by
  obtain ⟨fd, F⟩ := F_check_people T
  exact ⟨fd, (F.bindsN fun _ _ _ _ _ _ us hl => match us, hl with | [_, _], _ => rfl), fd_check_people T PR_House_people G_check_person F, F.kp⟩
theorem G_check_people {w : World} {K : PySem.W.Frag} {mg : Str → Option Value} {base : Heap} (T : LC K mg) (PR_House_people : PrC PW w K mg base (He.ga K "House") "people" 4 (spF K (arC (α := HouseT) ar0) (fun p : HouseT × Unit => W_House_people p.1))) (G_check_person : GFn PW w K mg base "check_person" 6 P_check_person (spF K (arC (α := HouseT) (arC (α := Int) ar0)) (fun p : HouseT × Int × Unit => W_check_person p.1 p.2.1))) : GFn PW w K mg base "check_people" 7 P_check_people (spF K (arC (α := HouseT) (arC (α := (List Int)) ar0)) (fun p : HouseT × (List Int) × Unit => W_check_people p.1 p.2.1)) := by
  obtain ⟨fd, b, F, kp⟩ := fk_check_people (w := w) (base := base) T PR_House_people G_check_person
  exact ⟨_, fd, g_check_people T, kp, b, F⟩

def W_arrivals (h : HouseT) (ps : List Int) : Wp (List Int) := fun N _ => h.Ok ∧ (∀ p ∈ ps, 0 ≤ p ∧ p < h.p) ∧ N (arr h ps)
theorem fd_arrivals {w : World} {K : PySem.W.Frag} {mg : Str → Option Value} {base : Heap} (T : LC K mg) (PR_House_nights : PrC PW w K mg base (He.ga K "House") "nights" 6 (spF K (arC (α := HouseT) ar0) (fun p : HouseT × Unit => W_House_nights p.1))) {fd : FuncData} (F : FunD K "arrivals" "arrivals" (defArgs s_arrivals) (defBody s_arrivals) (defScope s_arrivals) [] [] (He.ga K "arrivals") fd) : FnOk PW w K mg base (L2.CX PW w) 8 (He.ga K "arrivals") fd P_arrivals (spR K (arC (α := HouseT) (arC (α := (List Int)) ar0)) (fun z : List Int => mu z) (fun p : HouseT × (List Int) × Unit => W_arrivals p.1 p.2.1)) := by
  refine F.ok sc_arrivals (fun vs H Q E h => by obtain ⟨_, _, _, _, _, r, _⟩ := h; exact r.length) fun cdv A outer s H vs Q E hr h => ?_
  refine ⟨_, (pss_cons (ps_set (i := 2) sc_arrivals.nd rfl (Or.inl rfl) (pe_op (kMul K) (pe_lst (pa_cons pe_int pa_nil)) (pe_op (kAdd K) (pe_pr PR_House_nights (hr.mono (by decide)) (pv 0)) pe_int)))
      (pss_cons (ps_for (passes_of rfl) rfl (kiList K (pv 1)) (pg_name (i := 3) sc_arrivals.nd rfl (Or.inl rfl)) (pss_cons (ps_augS (pv 2) (pe_op op_sub (pe_ix (kIx K) (kFld K (pv 0) rfl) (pv 3) (fun _ _ => rfl)) pe_int) (kget_list K) pe_int ip_add set_list)
      pss_nil))
      (pss_cons (ps_ret (pv 2)) pss_nil))), ?_⟩
  refine use_R (Γ := fun x : HouseT × (List Int) × Unit => [.v (x.1 : HouseT), .v (x.2.1 : (List Int)), .u, .u]) h (fun x => (.v (.v (.u (.u .nil))))) (fun _ => Nat.le_of_ble_eq_true rfl) (fun F x => (s_setR 2 (α := List Int) (r_mul (e_frz (r_lst (a_cons (e_int _) a_nil))) (e_op o_add (e_pr (e_var 0 rfl)) (e_int _))) .nil (fun counts_1 => (s_for (eh := (fun s_2 : (List Int) × Unit => [.v (x.1 : HouseT), .v (x.2.1 : (List Int)), .o (mu (s_2.1 : List Int)), .u])) (counts_1, ()) (i_list (e_var 1 rfl)) .nil (show Wk [.v (x.1 : HouseT), .v (x.2.1 : (List Int)), .o (mu (counts_1 : List Int)), .u] [.v (x.1 : HouseT), .v (x.2.1 : (List Int)), .o (mu (counts_1 : List Int)), .u] from (.same (.same (.same (.u .nil))))) (g_name 3) (fun person_3 s_2 => (s_augix 2 (f := fun i j => i + j) rfl (e_op o_sub (e_op o_ixT (e_fld (fun x : HouseT => x.comings) fl_House_comings (cl_House T) (na_House_comings T) (e_var 0 rfl)) (e_var 3 rfl)) (e_int _)) (e_int _) .nil (fun counts_4 => (s_next (counts_4, ()) (show Wk [.v (x.1 : HouseT), .v (x.2.1 : (List Int)), .o (mu (counts_4 : List Int)), .v (person_3 : Int)] [.v (x.1 : HouseT), .v (x.2.1 : (List Int)), .o (mu (counts_4 : List Int)), .u] from (.same (.same (.same (.u .nil))))))))) (fun s_2 => (s_retV 2 s_2.1 rfl (Nat.le_of_ble_eq_true rfl) rfl .nil)))))) (fun x n e hw => ?_)
  obtain ⟨h, ps, _⟩ := x
  dsimp only at *
  obtain ⟨hk, hp, hw⟩ := hw
  have hn := hk.n60
  simp only [W_House_nights, rep1, List.length_singleton]
  refine ⟨sl_ok (by omega), hk, by omega, by omega, sl_ok (by omega), ?_⟩
  have e0 : ((h.n : Int) + 1).toNat = h.n + 1 := by omega
  rw [e0]
  refine wfor_inv (fun i s => s.1.length = h.n + 1 ∧ ∀ k, k < h.n + 1 → s.1[k]? = some (arrK h (ps.take i) k)) ⟨by simp, fun k hk => by simp [arrK, hk]⟩ (fun i hi s N' hs hN => ?_) (fun s hs => ?_)
  · obtain ⟨h1, h2⟩ := hs
    have hm := hp ps[i] (List.getElem_mem hi)
    obtain ⟨c1, c2, c3⟩ := hk.com1 hm.1 hm.2
    refine ⟨h.com ps[i], by rw [atI_nn hm.1]; exact c1, _, (h.com ps[i] - 1).toNat, by rw [atI_nn (by omega)]; exact h2 _ (by omega), ixN_nn (by omega) (by omega), hN _ ⟨by simp [h1], fun k hk => ?_⟩⟩
    rw [List.take_add_one, List.getElem?_eq_getElem hi, List.getElem?_set]
    have e : arrK h (List.take i ps ++ (some ps[i]).toList) k = arrK h (List.take i ps) k + if h.com ps[i] = k + 1 then 1 else 0 := by
      unfold arrK
      rw [List.filter_append, List.length_append]
      by_cases q : h.com ps[i] = k + 1
      · rw [if_pos q]; simp [q]
      · rw [if_neg q]; simp [q]
    rw [e]
    by_cases q : h.com ps[i] = k + 1
    · have : (h.com ps[i] - 1).toNat = k := by omega
      rw [if_pos this, if_pos q, if_pos (by omega), this]
    · rw [if_neg q, if_neg (by omega), h2 k hk]; simp
  · have : s.1 = arr h ps := by
      apply List.ext_getElem?
      intro k
      by_cases q : k < h.n + 1
      · rw [hs.2 k q]; simp [arr, q]
      · rw [List.getElem?_eq_none (by omega), List.getElem?_eq_none (by simp [arr]; omega)]
    rw [this]; exact hw
theorem fk_arrivals {w : World} {K : PySem.W.Frag} {mg : Str → Option Value} {base : Heap} (T : LC K mg) (PR_House_nights : PrC PW w K mg base (He.ga K "House") "nights" 6 (spF K (arC (α := HouseT) ar0) (fun p : HouseT × Unit => W_House_nights p.1))) : ∃ fd, Binds K fd P_arrivals [] ∧ FnOk PW w K mg base (L2.CX PW w) 8 (He.ga K "arrivals") fd P_arrivals (spR K (arC (α := HouseT) (arC (α := (List Int)) ar0)) (fun z : List Int => mu z) (fun p : HouseT × (List Int) × Unit => W_arrivals p.1 p.2.1)) ∧ PySem.W.keepIn K (.ref (He.ga K "arrivals")) = true := by
  obtain ⟨fd, F⟩ := F_arrivals T
  exact ⟨fd, (F.bindsN fun _ _ _ _ _ _ us hl => match us, hl with | [_, _], _ => rfl), fd_arrivals T PR_House_nights F, F.kp⟩
theorem G_arrivals {w : World} {K : PySem.W.Frag} {mg : Str → Option Value} {base : Heap} (T : LC K mg) (PR_House_nights : PrC PW w K mg base (He.ga K "House") "nights" 6 (spF K (arC (α := HouseT) ar0) (fun p : HouseT × Unit => W_House_nights p.1))) : GFn PW w K mg base "arrivals" 8 P_arrivals (spR K (arC (α := HouseT) (arC (α := (List Int)) ar0)) (fun z : List Int => mu z) (fun p : HouseT × (List Int) × Unit => W_arrivals p.1 p.2.1)) := by
  obtain ⟨fd, b, F, kp⟩ := fk_arrivals (w := w) (base := base) T PR_House_nights
  exact ⟨_, fd, g_arrivals T, kp, b, F⟩


theorem it_Wants {w : World} {K : PySem.W.Frag} {mg : Str → Option Value} (T : LC K mg) : IterC PW w K mg (He.ga K "Wants") "numbers" := by
  obtain ⟨fd, F⟩ := F_WantsU_iterU T
  exact ⟨cl_Wants T, na_Wants_numbers T, f_iter T, _, fd, _, _, _, _, _, _, _, _, _, _, (me_WantsU_iterU T).at_, (me_WantsU_iterU T).fn, F, F.bindsN fun _ _ _ _ _ _ us hl => match us, hl with | [_], _ => rfl, sc_WantsU_iterU, rfl, rfl⟩

def W_first_choice (h : HouseT) (ps : List Int) : Wp (List Int) := fun N E => h.Ok ∧ match badPeople h.p [] ps with | none => N (fcH h ps) | some e => E e
theorem fd_first_choice {w : World} {K : PySem.W.Frag} {mg : Str → Option Value} {base : Heap} (T : LC K mg) (G_check_people : GFn PW w K mg base "check_people" 7 P_check_people (spF K (arC (α := HouseT) (arC (α := (List Int)) ar0)) (fun p : HouseT × (List Int) × Unit => W_check_people p.1 p.2.1))) (G_arrivals : GFn PW w K mg base "arrivals" 8 P_arrivals (spR K (arC (α := HouseT) (arC (α := (List Int)) ar0)) (fun z : List Int => mu z) (fun p : HouseT × (List Int) × Unit => W_arrivals p.1 p.2.1))) {fd : FuncData} (F : FunD K "first_choice" "first_choice" (defArgs s_first_choice) (defBody s_first_choice) (defScope s_first_choice) [] [] (He.ga K "first_choice") fd) : FnOk PW w K mg base (L2.CX PW w) 9 (He.ga K "first_choice") fd P_first_choice (spR K (arC (α := HouseT) (arC (α := (List Int)) ar0)) (fun z : List Int => mu z) (fun p : HouseT × (List Int) × Unit => W_first_choice p.1 p.2.1)) := by
  refine F.ok sc_first_choice (fun vs H Q E h => by obtain ⟨_, _, _, _, _, r, _⟩ := h; exact r.length) fun cdv A outer s H vs Q E hr h => ?_
  refine ⟨_, (pss_cons (ps_expr (pe_g G_check_people (hr.mono (by decide)) (takes_of rfl rfl rfl rfl) (pa_cons (pv 0) (pa_cons (pv 1) pa_nil))))
      (pss_cons (ps_set (i := 2) sc_first_choice.nd rfl (Or.inl rfl) (pe_g G_arrivals (hr.mono (by decide)) (takes_of rfl rfl rfl rfl) (pa_cons (pv 0) (pa_cons (pv 1) pa_nil))))
      (pss_cons (ps_set (i := 3) sc_first_choice.nd rfl (Or.inl rfl) (pe_lst pa_nil))
      (pss_cons (ps_set (i := 4) sc_first_choice.nd rfl (Or.inl rfl) pe_int)
      (pss_cons (ps_set (i := 5) sc_first_choice.nd rfl (Or.inl rfl) pe_int)
      (pss_cons (ps_for (passes_of rfl) rfl (kEnumK K (.O (He.ga K "Wants") "numbers") (it_Wants T) (hr.mono (by decide)) rfl (f_enumerate T) (pa_cons (kFld K (pv 0) rfl) pa_nil)) (kgTup (n := 2) K rfl (pgs_cons (pg_name (i := 6) sc_first_choice.nd rfl (Or.inl rfl)) (pgs_cons (pg_name (i := 7) sc_first_choice.nd rfl (Or.inl rfl)) pgs_nil))) (pss_cons (ps_aug (i := 4) sc_first_choice.nd rfl (.inl rfl) (pe_ix (kIx K) (pv 2) (pv 6) (fun _ _ => rfl)) ip_add)
      (pss_cons (ps_if (pt_cmpR op_gt (pv 6) (kFld K (pv 0) rfl) (nomark _)) (pss_cons (ps_aug (i := 5) sc_first_choice.nd rfl (.inl rfl) (pe_ix (kIx K) (pv 3) (pe_op op_sub (pe_op op_sub (pv 6) (kFld K (pv 0) rfl)) pe_int) (fun _ _ => rfl)) ip_sub)
      pss_nil) pss_nil)
      (pss_cons (ps_set (i := 8) sc_first_choice.nd rfl (Or.inl rfl) (pe_callB (cy_min2 rfl) (by rfl) (f_min T) (by decide +kernel) (pa_cons (pv 7) (pa_cons (pe_op op_sub (pv 4) (pv 5)) pa_nil))))
      (pss_cons (ps_expr (kBm K PySem.F.plainAttrs_list PySem.F.slot_list_append PySem.F.type_list_append mt_append (pv 3) (pa_cons (pv 8) pa_nil)))
      (pss_cons (ps_aug (i := 5) sc_first_choice.nd rfl (.inl rfl) (pv 8) ip_add)
      pss_nil))))))
      (pss_cons (ps_ret (pv 3)) pss_nil))))))), ?_⟩
  refine use_R (Γ := fun x : HouseT × (List Int) × Unit => [.v (x.1 : HouseT), .v (x.2.1 : (List Int)), .u, .u, .u, .u, .u, .u, .u]) h (fun x => (.v (.v (.u (.u (.u (.u (.u (.u (.u .nil)))))))))) (fun _ => Nat.le_of_ble_eq_true rfl) (fun F x => (s_drop (e_call (t_cons (e_var 0 rfl) (t_cons (e_var 1 rfl) t_nil))) .nil (s_set 2 (α := (List Int)) (e_frz (r_call (t_cons (e_var 0 rfl) (t_cons (e_var 1 rfl) t_nil)))) .nil (fun coming_1 => (s_setR 3 (α := List Int) (r_lst a_nil) .nil (fun counts_2 => (s_set 4 (α := Int) (e_int _) .nil (fun here_3 => (s_set 5 (α := Int) (e_int _) .nil (fun resting_4 => (s_for (eh := (fun s_5 : (Int) × (Int) × (List Int) × Unit => [.v (x.1 : HouseT), .v (x.2.1 : (List Int)), .v (coming_1 : (List Int)), .o (mu (s_5.2.2.1 : List Int)), .v (s_5.1 : Int), .v (s_5.2.1 : Int), .u, .u, .u])) (here_3, resting_4, counts_2, ()) (i_enumK (kv_O (fun x : WantsT => x.numbers) fl_Wants_numbers) (e_fld (fun x : HouseT => x.wants) fl_House_wants (cl_House T) (na_House_wants T) (e_var 0 rfl))) .nil (show Wk [.v (x.1 : HouseT), .v (x.2.1 : (List Int)), .v (coming_1 : (List Int)), .o (mu (counts_2 : List Int)), .v (here_3 : Int), .v (resting_4 : Int), .u, .u, .u] [.v (x.1 : HouseT), .v (x.2.1 : (List Int)), .v (coming_1 : (List Int)), .o (mu (counts_2 : List Int)), .v (here_3 : Int), .v (resting_4 : Int), .u, .u, .u] from (.same (.same (.same (.same (.same (.same (.u (.u (.u .nil)))))))))) (g_pair (g_name 6) (g_name 7)) (fun index_6 s_5 => (s_aug 4 (f := fun i j => i + j) rfl (e_op o_ix (e_var 2 rfl) (e_var 6 rfl)) .nil (fun here_7 => (s_if (e1 := (fun s_8 : (Int) × Unit => [.v (x.1 : HouseT), .v (x.2.1 : (List Int)), .v (coming_1 : (List Int)), .o (mu (s_5.2.2.1 : List Int)), .v (here_7 : Int), .v (s_8.1 : Int), .v (index_6.1 : Int), .v (index_6.2 : Int), .u])) (c_test (e_op o_cmp (e_var 6 rfl) (e_fld (fun x : HouseT => x.rest) fl_House_rest (cl_House T) (na_House_rest T) (e_var 0 rfl)))) .nil (s_aug 5 (f := fun i j => i - j) rfl (e_peek 3 rfl (Nat.le_of_ble_eq_true rfl) (e_op o_ix (e_var 3 rfl) (e_op o_sub (e_op o_sub (e_var 6 rfl) (e_fld (fun x : HouseT => x.rest) fl_House_rest (cl_House T) (na_House_rest T) (e_var 0 rfl))) (e_int _)))) .nil (fun resting_9 => (s_next (resting_9, ()) (show Wk [.v (x.1 : HouseT), .v (x.2.1 : (List Int)), .v (coming_1 : (List Int)), .o (mu (s_5.2.2.1 : List Int)), .v (here_7 : Int), .v (resting_9 : Int), .v (index_6.1 : Int), .v (index_6.2 : Int), .u] [.v (x.1 : HouseT), .v (x.2.1 : (List Int)), .v (coming_1 : (List Int)), .o (mu (s_5.2.2.1 : List Int)), .v (here_7 : Int), .v (resting_9 : Int), .v (index_6.1 : Int), .v (index_6.2 : Int), .u] from (.same (.same (.same (.same (.same (.same (.same (.same (.u .nil))))))))))))) (s_next (s_5.2.1, ()) (show Wk [.v (x.1 : HouseT), .v (x.2.1 : (List Int)), .v (coming_1 : (List Int)), .o (mu (s_5.2.2.1 : List Int)), .v (here_7 : Int), .v (s_5.2.1 : Int), .v (index_6.1 : Int), .v (index_6.2 : Int), .u] [.v (x.1 : HouseT), .v (x.2.1 : (List Int)), .v (coming_1 : (List Int)), .o (mu (s_5.2.2.1 : List Int)), .v (here_7 : Int), .v (s_5.2.1 : Int), .v (index_6.1 : Int), .v (index_6.2 : Int), .u] from (.same (.same (.same (.same (.same (.same (.same (.same (.u .nil))))))))))) (fun s_8 => (s_set 8 (α := Int) (e_cb2 b_min2 (e_var 7 rfl) (e_op o_sub (e_var 4 rfl) (e_var 5 rfl))) .nil (fun count_10 => (s_append 3 (α := Int) rfl (e_var 8 rfl) .nil (fun x_11 => (s_aug 5 (f := fun i j => i + j) rfl (e_var 8 rfl) .nil (fun resting_12 => (s_next (here_7, resting_12, (s_5.2.2.1 ++ [x_11]), ()) (show Wk [.v (x.1 : HouseT), .v (x.2.1 : (List Int)), .v (coming_1 : (List Int)), .o (mu ((s_5.2.2.1 ++ [x_11]) : List Int)), .v (here_7 : Int), .v (resting_12 : Int), .v (index_6.1 : Int), .v (index_6.2 : Int), .v (count_10 : Int)] [.v (x.1 : HouseT), .v (x.2.1 : (List Int)), .v (coming_1 : (List Int)), .o (mu ((s_5.2.2.1 ++ [x_11]) : List Int)), .v (here_7 : Int), .v (resting_12 : Int), .u, .u, .u] from (.same (.same (.same (.same (.same (.same (.u (.u (.u .nil)))))))))))))))))))))) (fun s_5 => (s_retV 3 s_5.2.2.1 rfl (Nat.le_of_ble_eq_true rfl) rfl .nil))))))))))))) (fun x n e hw => ?_)
  obtain ⟨h, ps, _⟩ := x
  dsimp only at *
  obtain ⟨hk, hw⟩ := hw
  have hn := hk.n60
  have hr0 := hk.r0
  refine ⟨hk, ?_⟩
  cases hb : badPeople h.p [] ps with
  | some er => rw [hb] at hw; exact hw
  | none =>
    rw [hb] at hw
    have hp := badPeople_none hb
    refine ⟨hk, hp, sl_ok (by simp), ?_⟩
    refine wfor_inv (fun i s => s.1 = (if i = 0 then 0 else hereK h ps (i - 1)) ∧ s.2.1 = ((fcl h.wt (hereK h ps) h.rest.toNat i).drop (i - (h.rest.toNat + 1))).sum ∧ s.2.2.1 = fcl h.wt (hereK h ps) h.rest.toNat i) ⟨rfl, by simp [fcl], rfl⟩ (fun i hi s N' hs hN => ?_) (fun s hs => ?_)
    · have hi' : i < h.n := by rw [enum_length, HouseT.n_def] at hi; exact hi
      obtain ⟨h1, h2, h3⟩ := hs
      have e0 : (enum h.wants.numbers.items)[i]? = some ((i : Int), h.wt i) := enum_at (HouseT.wt_at hi')
      rw [List.getElem?_eq_getElem (by rw [enum_length, HouseT.n_def]; exact hi')] at e0
      rw [Option.some.inj e0]
      have hl := fcl_len h.wt (hereK h ps) h.rest.toNat i
      have ea : (arr h ps)[i]? = some (arrK h ps i) := by simp [arr, show i < h.n + 1 by omega]
      have eh : s.1 + arrK h ps i = hereK h ps i := by
        rw [h1]
        cases i with
        | zero => rw [if_pos rfl, here_zero h hk ps hp]; simp
        | succ i => rw [if_neg (by omega)]; exact (here_succ h ps i).symm
      refine ⟨arrK h ps i, by rw [atI_nn (by simp)]; simpa using ea, fun hc => ?_, fun hc => ?_⟩
      · have hc := of_decide_eq_true hc
        have e1 : ((i : Int) - h.rest - 1).toNat = i - (h.rest.toNat + 1) := by omega
        have hx := getD_at (xs := fcl h.wt (hereK h ps) h.rest.toNat i) (k := i - (h.rest.toNat + 1)) (by rw [hl]; omega) 0
        have hs := sum_drop_succ (fcl h.wt (hereK h ps) h.rest.toNat i) (i - (h.rest.toNat + 1)) (by rw [hl]; omega)
        have e2 : i - (h.rest.toNat + 1) + 1 = i - h.rest.toNat := by omega
        rw [e2] at hs
        rw [h3, h2, eh]
        refine ⟨_, by rw [atI_nn (by dsimp only; omega), e1]; exact hx, sl_lt (by rw [hl]; omega), hN _ ?_⟩
        have e3 : ∀ z : Int, z = ((fcl h.wt (hereK h ps) h.rest.toNat i).drop (i - (h.rest.toNat + 1))).sum - (fcl h.wt (hereK h ps) h.rest.toNat i).getD (i - (h.rest.toNat + 1)) 0 → z = ((fcl h.wt (hereK h ps) h.rest.toNat i).drop (i - h.rest.toNat)).sum := fun z hz => by omega
        rw [e3 _ rfl]
        refine ⟨by simp, ?_, rfl⟩
        have e4 : i + 1 - (h.rest.toNat + 1) = i - h.rest.toNat := by omega
        rw [e4, fcl, List.drop_append_of_le_length (by rw [hl]; omega), sum_app1]
      · have hc := of_decide_eq_false hc
        have e1 : i - (h.rest.toNat + 1) = i - h.rest.toNat := by omega
        rw [h3, h2, eh, e1]
        refine ⟨sl_lt (by rw [hl]; omega), hN _ ⟨by simp, ?_, rfl⟩⟩
        have e4 : i + 1 - (h.rest.toNat + 1) = i - h.rest.toNat := by omega
        rw [e4, fcl, List.drop_append_of_le_length (by rw [hl]; omega), sum_app1]
    · rw [hs.2.2, enum_length, HouseT.n_def]; exact hw
theorem fk_first_choice {w : World} {K : PySem.W.Frag} {mg : Str → Option Value} {base : Heap} (T : LC K mg) (G_check_people : GFn PW w K mg base "check_people" 7 P_check_people (spF K (arC (α := HouseT) (arC (α := (List Int)) ar0)) (fun p : HouseT × (List Int) × Unit => W_check_people p.1 p.2.1))) (G_arrivals : GFn PW w K mg base "arrivals" 8 P_arrivals (spR K (arC (α := HouseT) (arC (α := (List Int)) ar0)) (fun z : List Int => mu z) (fun p : HouseT × (List Int) × Unit => W_arrivals p.1 p.2.1))) : ∃ fd, Binds K fd P_first_choice [] ∧ FnOk PW w K mg base (L2.CX PW w) 9 (He.ga K "first_choice") fd P_first_choice (spR K (arC (α := HouseT) (arC (α := (List Int)) ar0)) (fun z : List Int => mu z) (fun p : HouseT × (List Int) × Unit => W_first_choice p.1 p.2.1)) ∧ PySem.W.keepIn K (.ref (He.ga K "first_choice")) = true := by
  obtain ⟨fd, F⟩ := F_first_choice T
  exact ⟨fd, (F.bindsN fun _ _ _ _ _ _ us hl => match us, hl with | [_, _], _ => rfl), fd_first_choice T G_check_people G_arrivals F, F.kp⟩
theorem G_first_choice {w : World} {K : PySem.W.Frag} {mg : Str → Option Value} {base : Heap} (T : LC K mg) (G_check_people : GFn PW w K mg base "check_people" 7 P_check_people (spF K (arC (α := HouseT) (arC (α := (List Int)) ar0)) (fun p : HouseT × (List Int) × Unit => W_check_people p.1 p.2.1))) (G_arrivals : GFn PW w K mg base "arrivals" 8 P_arrivals (spR K (arC (α := HouseT) (arC (α := (List Int)) ar0)) (fun z : List Int => mu z) (fun p : HouseT × (List Int) × Unit => W_arrivals p.1 p.2.1))) : GFn PW w K mg base "first_choice" 9 P_first_choice (spR K (arC (α := HouseT) (arC (α := (List Int)) ar0)) (fun z : List Int => mu z) (fun p : HouseT × (List Int) × Unit => W_first_choice p.1 p.2.1)) := by
  obtain ⟨fd, b, F, kp⟩ := fk_first_choice (w := w) (base := base) T G_check_people G_arrivals
  exact ⟨_, fd, g_first_choice T, kp, b, F⟩

def W_room_left (h : HouseT) (ps : List Int) : Wp (List Int) := fun N E => h.Ok ∧ match badPeople h.p [] ps with | none => N (roomH h ps) | some e => E e
theorem fd_room_left {w : World} {K : PySem.W.Frag} {mg : Str → Option Value} {base : Heap} (T : LC K mg) (G_first_choice : GFn PW w K mg base "first_choice" 9 P_first_choice (spR K (arC (α := HouseT) (arC (α := (List Int)) ar0)) (fun z : List Int => mu z) (fun p : HouseT × (List Int) × Unit => W_first_choice p.1 p.2.1))) {fd : FuncData} (F : FunD K "room_left" "room_left" (defArgs s_room_left) (defBody s_room_left) (defScope s_room_left) [] [] (He.ga K "room_left") fd) : FnOk PW w K mg base (L2.CX PW w) 10 (He.ga K "room_left") fd P_room_left (spR K (arC (α := HouseT) (arC (α := (List Int)) ar0)) (fun z : List Int => mu z) (fun p : HouseT × (List Int) × Unit => W_room_left p.1 p.2.1)) := by
  refine F.ok sc_room_left (fun vs H Q E h => by obtain ⟨_, _, _, _, _, r, _⟩ := h; exact r.length) fun cdv A outer s H vs Q E hr h => ?_
  refine ⟨_, (pss_cons (ps_ret (pe_lc (own := [("want", 2), ("count", 3)]) rfl sc_room_left.nd (kZip2K K (.O (He.ga K "Wants") "numbers") .L (it_Wants T) trivial (hr.mono (by decide)) (by rfl) (f_zip T) (pa_cons (kFld K (pv 0) rfl) (pa_cons (pe_g G_first_choice (hr.mono (by decide)) (takes_of rfl rfl rfl rfl) (pa_cons (pv 0) (pa_cons (pv 1) pa_nil))) pa_nil))) (blkOk_r (by rfl)) (fun _ _ _ _ _ => (kgTup (n := 2) K rfl (pgs_cons (pg_name (i := 2) sc_room_left.nd rfl (Or.inl rfl)) (pgs_cons (pg_name (i := 3) sc_room_left.nd rfl (Or.inl rfl)) pgs_nil)))) (fun _ _ _ _ _ => pts_nil) (fun _ _ _ _ _ => (pe_op op_sub (pv 2) (pv 3))))) pss_nil), ?_⟩
  refine use_R (Γ := fun x : HouseT × (List Int) × Unit => [.v (x.1 : HouseT), .v (x.2.1 : (List Int)), .u, .u]) h (fun x => (.v (.v (.u (.u .nil))))) (fun _ => Nat.le_of_ble_eq_true rfl) (fun F x => (s_retR (f := fun z => z) (r_lc2 (i := 2) (j := 3) (i_zipK (kv_O (fun x : WantsT => x.numbers) fl_Wants_numbers) kv_L (e_fld (fun x : HouseT => x.wants) fl_House_wants (cl_House T) (na_House_wants T) (e_var 0 rfl)) (e_frz (r_call (t_cons (e_var 0 rfl) (t_cons (e_var 1 rfl) t_nil))))) rfl rfl (fun want_1 => c_yes) (fun want_1 => (e_op o_sub (e_var 2 rfl) (e_var 3 rfl)))) .nil (fun _ => rfl) (fun _ => .nil))) (fun x n e hw => ?_)
  obtain ⟨h, ps, _⟩ := x
  dsimp only at *
  obtain ⟨hk, hw⟩ := hw
  have hn := hk.n60
  refine ⟨hk, ?_⟩
  cases hb : badPeople h.p [] ps with
  | some er => rw [hb] at hw; exact hw
  | none =>
    rw [hb] at hw
    have hl : (fcH h ps).length = h.n := fcl_len _ _ _ _
    refine ⟨sl_ok (by rw [List.length_zip, hl, HouseT.n_def]; omega), wlc_map (fun x => x.1 - x.2) (fun x _ N hN => ⟨fun _ => hN, nofun⟩) ?_⟩
    have e : (h.wants.numbers.items.zip (fcH h ps)).map (fun x => x.1 - x.2) = roomH h ps := by
      apply List.ext_getElem?
      intro k
      by_cases q : k < h.n
      · have e1 := HouseT.wt_at q
        have e2 := getD_at (xs := fcH h ps) (k := k) (by omega) 0
        have e3 : (h.wants.numbers.items.zip (fcH h ps))[k]? = some (h.wt k, (fcH h ps).getD k 0) := List.getElem?_zip_eq_some.mpr ⟨e1, e2⟩
        rw [List.getElem?_map, e3]
        simp [roomH, q]
      · rw [List.getElem?_eq_none (by simp [hl, HouseT.n_def]; omega), List.getElem?_eq_none (by simp [roomH]; omega)]
    rw [e]; exact hw
theorem fk_room_left {w : World} {K : PySem.W.Frag} {mg : Str → Option Value} {base : Heap} (T : LC K mg) (G_first_choice : GFn PW w K mg base "first_choice" 9 P_first_choice (spR K (arC (α := HouseT) (arC (α := (List Int)) ar0)) (fun z : List Int => mu z) (fun p : HouseT × (List Int) × Unit => W_first_choice p.1 p.2.1))) : ∃ fd, Binds K fd P_room_left [] ∧ FnOk PW w K mg base (L2.CX PW w) 10 (He.ga K "room_left") fd P_room_left (spR K (arC (α := HouseT) (arC (α := (List Int)) ar0)) (fun z : List Int => mu z) (fun p : HouseT × (List Int) × Unit => W_room_left p.1 p.2.1)) ∧ PySem.W.keepIn K (.ref (He.ga K "room_left")) = true := by
  obtain ⟨fd, F⟩ := F_room_left T
  exact ⟨fd, (F.bindsN fun _ _ _ _ _ _ us hl => match us, hl with | [_, _], _ => rfl), fd_room_left T G_first_choice F, F.kp⟩
theorem G_room_left {w : World} {K : PySem.W.Frag} {mg : Str → Option Value} {base : Heap} (T : LC K mg) (G_first_choice : GFn PW w K mg base "first_choice" 9 P_first_choice (spR K (arC (α := HouseT) (arC (α := (List Int)) ar0)) (fun z : List Int => mu z) (fun p : HouseT × (List Int) × Unit => W_first_choice p.1 p.2.1))) : GFn PW w K mg base "room_left" 10 P_room_left (spR K (arC (α := HouseT) (arC (α := (List Int)) ar0)) (fun z : List Int => mu z) (fun p : HouseT × (List Int) × Unit => W_room_left p.1 p.2.1)) := by
  obtain ⟨fd, b, F, kp⟩ := fk_room_left (w := w) (base := base) T G_first_choice
  exact ⟨_, fd, g_room_left T, kp, b, F⟩

def W_growth (h : HouseT) (ps : List Int) (p : Int) : Wp (List Int) := fun N E => h.Ok ∧ match badPeople h.p [] ps with
  | some e => E e
  | none => if 0 ≤ p ∧ p < h.p then (if p ∈ ps then E (namedTwice p) else N (growH h ps p)) else E (noPerson p)
theorem fd_growth {w : World} {K : PySem.W.Frag} {mg : Str → Option Value} {base : Heap} (T : LC K mg) (G_room_left : GFn PW w K mg base "room_left" 10 P_room_left (spR K (arC (α := HouseT) (arC (α := (List Int)) ar0)) (fun z : List Int => mu z) (fun p : HouseT × (List Int) × Unit => W_room_left p.1 p.2.1))) (G_check_person : GFn PW w K mg base "check_person" 6 P_check_person (spF K (arC (α := HouseT) (arC (α := Int) ar0)) (fun p : HouseT × Int × Unit => W_check_person p.1 p.2.1))) (PR_House_nights : PrC PW w K mg base (He.ga K "House") "nights" 6 (spF K (arC (α := HouseT) ar0) (fun p : HouseT × Unit => W_House_nights p.1))) {fd : FuncData} (F : FunD K "growth" "growth" (defArgs s_growth) (defBody s_growth) (defScope s_growth) [] [] (He.ga K "growth") fd) : FnOk PW w K mg base (L2.CX PW w) 11 (He.ga K "growth") fd P_growth (spR K (arC (α := HouseT) (arC (α := (List Int)) (arC (α := Int) ar0))) (fun z : List Int => mu z) (fun p : HouseT × (List Int) × Int × Unit => W_growth p.1 p.2.1 p.2.2.1)) := by
  refine F.ok sc_growth (fun vs H Q E h => by obtain ⟨_, _, _, _, _, r, _⟩ := h; exact r.length) fun cdv A outer s H vs Q E hr h => ?_
  refine ⟨_, (pss_cons (ps_set (i := 3) sc_growth.nd rfl (Or.inl rfl) (pe_g G_room_left (hr.mono (by decide)) (takes_of rfl rfl rfl rfl) (pa_cons (pv 0) (pa_cons (pv 1) pa_nil))))
      (pss_cons (ps_expr (pe_g G_check_person (hr.mono (by decide)) (takes_of rfl rfl rfl rfl) (pa_cons (pv 0) (pa_cons (pv 2) pa_nil))))
      (pss_cons (ps_if (pt_cmpR (kIn K (hu65 hr)) (pv 2) (pv 1) (by with_unfolding_all rfl)) (pss_cons (ps_raise rfl (takes_of rfl rfl rfl rfl) (pmk_exc (x_NamedTwice T) (List.cons_ne_nil _ _) (g_NamedTwice T) hr (pa_cons (pv 2) pa_nil) (by rfl) (f_super T))) pss_nil) pss_nil)
      (pss_cons (ps_set (i := 4) sc_growth.nd rfl (Or.inl rfl) (pe_lst pa_nil))
      (pss_cons (ps_set (i := 5) sc_growth.nd rfl (Or.inl rfl) (pe_ix (kIx K) (kFld K (pv 0) rfl) (pv 2) (fun _ _ => rfl)))
      (pss_cons (ps_for (passes_of rfl) rfl (pi_range2 rfl (f_range T) (pa_cons pe_int (pa_cons (pe_op (kAdd K) (pe_pr PR_House_nights (hr.mono (by decide)) (pv 0)) pe_int) pa_nil))) (pg_name (i := 6) sc_growth.nd rfl (Or.inl rfl)) (pss_cons (ps_if (PW.pt (pw_and (pt_cmpR op_ge (pv 6) (pv 5) (nomark _)) (pw_and1 (pt_cmpR op_gt (pe_ix (kIx K) (pv 3) (pe_op op_sub (pv 6) pe_int) (fun _ _ => rfl)) pe_int (nomark _))))) (pss_cons (ps_expr (kBm K PySem.F.plainAttrs_list PySem.F.slot_list_append PySem.F.type_list_append mt_append (pv 4) (pa_cons (pv 6) pa_nil)))
      (pss_cons (ps_set (i := 5) sc_growth.nd rfl (Or.inl rfl) (pe_op (kAdd K) (pe_op (kAdd K) (pv 6) (kFld K (pv 0) rfl)) pe_int))
      pss_nil)) pss_nil) pss_nil))
      (pss_cons (ps_ret (pv 4)) pss_nil))))))), ?_⟩
  refine use_R (Γ := fun x : HouseT × (List Int) × Int × Unit => [.v (x.1 : HouseT), .v (x.2.1 : (List Int)), .v (x.2.2.1 : Int), .u, .u, .u, .u]) h (fun x => (.v (.v (.v (.u (.u (.u (.u .nil)))))))) (fun _ => Nat.le_of_ble_eq_true rfl) (fun F x => (s_set 3 (α := (List Int)) (e_frz (r_call (t_cons (e_var 0 rfl) (t_cons (e_var 1 rfl) t_nil)))) .nil (fun room_1 => (s_drop (e_call (t_cons (e_var 0 rfl) (t_cons (e_var 2 rfl) t_nil))) .nil (s_if (e1 := (fun _ : Unit => [.v (x.1 : HouseT), .v (x.2.1 : (List Int)), .v (x.2.2.1 : Int), .v (room_1 : (List Int)), .u, .u, .u])) (c_test (e_op o_in (e_var 2 rfl) (e_var 1 rfl))) .nil (s_raise (t_cons (e_var 2 rfl) t_nil) (fun _ => rfl) .nil) (s_next () (show Wk [.v (x.1 : HouseT), .v (x.2.1 : (List Int)), .v (x.2.2.1 : Int), .v (room_1 : (List Int)), .u, .u, .u] [.v (x.1 : HouseT), .v (x.2.1 : (List Int)), .v (x.2.2.1 : Int), .v (room_1 : (List Int)), .u, .u, .u] from (.same (.same (.same (.same (.u (.u (.u .nil))))))))) (fun _ => (s_setR 4 (α := List Int) (r_lst a_nil) .nil (fun nights_3 => (s_set 5 (α := Int) (e_op o_ixT (e_fld (fun x : HouseT => x.comings) fl_House_comings (cl_House T) (na_House_comings T) (e_var 0 rfl)) (e_var 2 rfl)) .nil (fun free_from_4 => (s_for (eh := (fun s_5 : (List Int) × (Int) × Unit => [.v (x.1 : HouseT), .v (x.2.1 : (List Int)), .v (x.2.2.1 : Int), .v (room_1 : (List Int)), .o (mu (s_5.1 : List Int)), .v (s_5.2.1 : Int), .u])) (nights_3, free_from_4, ()) (i_r2 (e_int _) (e_op o_add (e_pr (e_var 0 rfl)) (e_int _))) .nil (show Wk [.v (x.1 : HouseT), .v (x.2.1 : (List Int)), .v (x.2.2.1 : Int), .v (room_1 : (List Int)), .o (mu (nights_3 : List Int)), .v (free_from_4 : Int), .u] [.v (x.1 : HouseT), .v (x.2.1 : (List Int)), .v (x.2.2.1 : Int), .v (room_1 : (List Int)), .o (mu (nights_3 : List Int)), .v (free_from_4 : Int), .u] from (.same (.same (.same (.same (.same (.same (.u .nil)))))))) (g_name 6) (fun night_6 s_5 => (s_if0 (c_and (c_test (e_op o_cmp (e_var 6 rfl) (e_var 5 rfl))) (c_test (e_op o_cmp (e_op o_ix (e_var 3 rfl) (e_op o_sub (e_var 6 rfl) (e_int _))) (e_int _)))) .nil (s_append 4 (α := Int) rfl (e_var 6 rfl) .nil (fun x_7 => (s_set 5 (α := Int) (e_op o_add (e_op o_add (e_var 6 rfl) (e_fld (fun x : HouseT => x.rest) fl_House_rest (cl_House T) (na_House_rest T) (e_var 0 rfl))) (e_int _)) .nil (fun free_from_8 => (s_next ((s_5.1 ++ [x_7]), free_from_8, ()) (show Wk [.v (x.1 : HouseT), .v (x.2.1 : (List Int)), .v (x.2.2.1 : Int), .v (room_1 : (List Int)), .o (mu ((s_5.1 ++ [x_7]) : List Int)), .v (free_from_8 : Int), .v (night_6 : Int)] [.v (x.1 : HouseT), .v (x.2.1 : (List Int)), .v (x.2.2.1 : Int), .v (room_1 : (List Int)), .o (mu ((s_5.1 ++ [x_7]) : List Int)), .v (free_from_8 : Int), .u] from (.same (.same (.same (.same (.same (.same (.u .nil))))))))))))) (s_next (s_5.1, s_5.2.1, ()) (show Wk [.v (x.1 : HouseT), .v (x.2.1 : (List Int)), .v (x.2.2.1 : Int), .v (room_1 : (List Int)), .o (mu (s_5.1 : List Int)), .v (s_5.2.1 : Int), .v (night_6 : Int)] [.v (x.1 : HouseT), .v (x.2.1 : (List Int)), .v (x.2.2.1 : Int), .v (room_1 : (List Int)), .o (mu (s_5.1 : List Int)), .v (s_5.2.1 : Int), .u] from (.same (.same (.same (.same (.same (.same (.u .nil))))))))))) (fun s_5 => (s_retV 4 s_5.1 rfl (Nat.le_of_ble_eq_true rfl) rfl .nil))))))))))))) (fun x n e hw => ?_)
  obtain ⟨h, ps, p, _⟩ := x
  dsimp only at *
  obtain ⟨hk, hw⟩ := hw
  have hn := hk.n60
  have hr0 := hk.r0
  refine ⟨hk, ?_⟩
  cases hb : badPeople h.p [] ps with
  | some er => rw [hb] at hw; exact hw
  | none =>
    rw [hb] at hw
    refine ⟨hk, ?_⟩
    by_cases hp : 0 ≤ p ∧ p < h.p
    · rw [if_pos hp] at hw ⊢
      obtain ⟨c1, c2, c3⟩ := hk.com1 hp.1 hp.2
      refine ⟨fun hm => ?_, fun hm => ?_⟩
      · rw [if_pos (of_decide_eq_true hm)] at hw; exact hw
      · rw [if_neg (of_decide_eq_false hm)] at hw
        refine ⟨sl_ok (by simp), h.com p, by rw [atI_nn hp.1]; exact c1, hk, ⟨by omega, by omega, by omega, by omega⟩, ?_⟩
        have e0 : ((h.n : Int) + 1 - 1).toNat = h.n := by omega
        rw [e0]
        refine wfor_rng (fun m t s => ∃ (f : Nat) (acc : List Int), s = (acc, (f : Int), ()) ∧ t + m = h.n + 1 ∧ 1 ≤ t ∧ acc.length + m ≤ h.n ∧
            n (acc ++ (gr (fun t => decide (0 < h.wt (t - 1) - (fcH h ps).getD (t - 1) 0)) h.rest.toNat m t f).map fun t : Nat => (t : Int)))
          (fun m t s N' hs hN => ?_) (fun t s hs => ?_) h.n 1 _ ⟨(h.com p).toNat, [], by rw [show (((h.com p).toNat : Nat) : Int) = h.com p by omega], by omega, by omega, by simp, hw⟩
        · obtain ⟨f, acc, rfl, ht, h1, hl, hw⟩ := hs
          have hroom : (roomH h ps)[t - 1]? = some (h.wt (t - 1) - (fcH h ps).getD (t - 1) 0) := by simp [roomH, show t - 1 < h.n by omega]
          rw [gr] at hw
          have e1 : ((t : Int) - 1).toNat = t - 1 := by omega
          refine ⟨fun hc => ?_, fun hc => ?_⟩
          · have hc := of_decide_eq_true hc
            refine ⟨_, by rw [atI_nn (by omega), e1]; exact hroom, fun hd => ?_, fun hd => ?_⟩
            · rw [if_pos ⟨by dsimp only at hc; omega, hd⟩] at hw
              refine ⟨sl_lt (by dsimp only; omega), hN _ ⟨t + h.rest.toNat + 1, acc ++ [(t : Int)], ?_, by omega, by omega, by simp; omega, by simpa using hw⟩⟩
              have e2 : ((t + h.rest.toNat + 1 : Nat) : Int) = (t : Int) + h.rest + 1 := by omega
              rw [e2]
            · rw [if_neg (fun z => by rw [hd] at z; exact Bool.noConfusion z.2)] at hw
              exact hN _ ⟨f, acc, rfl, by omega, by omega, by omega, hw⟩
          · have hc := of_decide_eq_false hc
            rw [if_neg (fun z => hc (by dsimp only; omega))] at hw
            exact ⟨nofun, fun _ => hN _ ⟨f, acc, rfl, by omega, by omega, by omega, hw⟩⟩
        · obtain ⟨f, acc, rfl, _, _, _, hw⟩ := hs
          simpa [gr] using hw
    · rw [if_neg hp] at hw ⊢; exact hw
theorem fk_growth {w : World} {K : PySem.W.Frag} {mg : Str → Option Value} {base : Heap} (T : LC K mg) (G_room_left : GFn PW w K mg base "room_left" 10 P_room_left (spR K (arC (α := HouseT) (arC (α := (List Int)) ar0)) (fun z : List Int => mu z) (fun p : HouseT × (List Int) × Unit => W_room_left p.1 p.2.1))) (G_check_person : GFn PW w K mg base "check_person" 6 P_check_person (spF K (arC (α := HouseT) (arC (α := Int) ar0)) (fun p : HouseT × Int × Unit => W_check_person p.1 p.2.1))) (PR_House_nights : PrC PW w K mg base (He.ga K "House") "nights" 6 (spF K (arC (α := HouseT) ar0) (fun p : HouseT × Unit => W_House_nights p.1))) : ∃ fd, Binds K fd P_growth [] ∧ FnOk PW w K mg base (L2.CX PW w) 11 (He.ga K "growth") fd P_growth (spR K (arC (α := HouseT) (arC (α := (List Int)) (arC (α := Int) ar0))) (fun z : List Int => mu z) (fun p : HouseT × (List Int) × Int × Unit => W_growth p.1 p.2.1 p.2.2.1)) ∧ PySem.W.keepIn K (.ref (He.ga K "growth")) = true := by
  obtain ⟨fd, F⟩ := F_growth T
  exact ⟨fd, (F.bindsN fun _ _ _ _ _ _ us hl => match us, hl with | [_, _, _], _ => rfl), fd_growth T G_room_left G_check_person PR_House_nights F, F.kp⟩
theorem G_growth {w : World} {K : PySem.W.Frag} {mg : Str → Option Value} {base : Heap} (T : LC K mg) (G_room_left : GFn PW w K mg base "room_left" 10 P_room_left (spR K (arC (α := HouseT) (arC (α := (List Int)) ar0)) (fun z : List Int => mu z) (fun p : HouseT × (List Int) × Unit => W_room_left p.1 p.2.1))) (G_check_person : GFn PW w K mg base "check_person" 6 P_check_person (spF K (arC (α := HouseT) (arC (α := Int) ar0)) (fun p : HouseT × Int × Unit => W_check_person p.1 p.2.1))) (PR_House_nights : PrC PW w K mg base (He.ga K "House") "nights" 6 (spF K (arC (α := HouseT) ar0) (fun p : HouseT × Unit => W_House_nights p.1))) : GFn PW w K mg base "growth" 11 P_growth (spR K (arC (α := HouseT) (arC (α := (List Int)) (arC (α := Int) ar0))) (fun z : List Int => mu z) (fun p : HouseT × (List Int) × Int × Unit => W_growth p.1 p.2.1 p.2.2.1)) := by
  obtain ⟨fd, b, F, kp⟩ := fk_growth (w := w) (base := base) T G_room_left G_check_person PR_House_nights
  exact ⟨_, fd, g_growth T, kp, b, F⟩

def W_WantsU_initU (xs : List Int) : Wp WantsT := fun N E => if 60 < xs.length then E (tooLong xs.length) else match badAt badNumber 0 30 0 xs with | some e => E e | none => N ⟨⟨xs⟩⟩
theorem fd_WantsU_initU {w : World} {K : PySem.W.Frag} {mg : Str → Option Value} {base : Heap} (T : LC K mg) {fd : FuncData} (F : FunD K "__init__" "Wants.__init__" (defArgs s_WantsU_initU) (defBody s_WantsU_initU) (defScope s_WantsU_initU) [] [] (He.ma K (He.ga K "Wants") "__init__") fd) : FnOk PW w K mg base (L2.CX PW w) 4 (He.ma K (He.ga K "Wants") "__init__") fd P_WantsU_initU (spI K "Wants" (arC (α := (List Int)) ar0) (fun p : (List Int) × Unit => W_WantsU_initU p.1)) := by
  refine F.ok sc_WantsU_initU (fun vs H Q E h => by obtain ⟨_, _, _, _, _, _, _, rfl, _, _, _, r, _⟩ := h; exact congrArg Nat.succ r.length) fun cdv A outer s H vs Q E hr h => ?_
  refine ⟨_, (pss_cons (ps_if (pt_cmpR op_gt (pe_callB (kLen K) (by rfl) (f_len T) PySem.boot_len (pa_cons (pv 1) pa_nil)) (pe_cv (k_Wants_MOST T)) (nomark _)) (pss_cons (ps_raise rfl (takes_of rfl rfl rfl rfl) (pmk_exc (x_TooLong T) (List.cons_ne_nil _ _) (g_TooLong T) hr (pa_cons (pe_callB (kLen K) (by rfl) (f_len T) PySem.boot_len (pa_cons (pv 1) pa_nil)) pa_nil) (by rfl) (f_super T))) pss_nil) pss_nil)
      (pss_cons (ps_for (passes_of rfl) rfl (kEnumK K .L trivial (hr.mono (by decide)) rfl (f_enumerate T) (pa_cons (pv 1) pa_nil)) (kgTup (n := 2) K rfl (pgs_cons (pg_name (i := 2) sc_WantsU_initU.nd rfl (Or.inl rfl)) (pgs_cons (pg_name (i := 3) sc_WantsU_initU.nd rfl (Or.inl rfl)) pgs_nil))) (pss_cons (ps_if (pt_not (pt_chain op_le op_le pe_int (pv 3) (pe_cv (k_Wants_GREATEST T)))) (pss_cons (ps_raise rfl (takes_of rfl rfl rfl rfl) (pmk_exc (x_BadNumber T) (List.cons_ne_nil _ _) (g_BadNumber T) hr (pa_cons (pv 2) (pa_cons (pv 3) pa_nil)) (by rfl) (f_super T))) pss_nil) pss_nil) pss_nil))
      (pss_cons (ksFld K (pv 0) (pe_callTy (kTuple K) (by rfl) (f_tuple T) (by decide +kernel) (pa_cons (pv 1) pa_nil)) rfl)
      pss_nil))), ?_⟩
  refine use_I (Γ := fun (p0 : Addr) (x : (List Int) × Unit) => [.o (inst p0 "Wants" [] []), .v (x.1 : (List Int)), .u, .u]) (en := (fun (p0 : Addr) (y : WantsT) => [.o (inst p0 "Wants" ["numbers"] [toP y.numbers])])) h (fun p0 x => ⟨_, rfl, (.v (.u (.u .nil)))⟩) (fun _ _ => Nat.le_of_ble_eq_true rfl) (fun p0 y => ⟨_, _, _, rfl, rfl⟩) (fun F p0 x => (s_if (e1 := (fun _ : Unit => [.o (inst p0 "Wants" [] []), .v (x.1 : (List Int)), .u, .u])) (c_test (e_op o_cmp (e_cb1 b_len (e_var 1 rfl)) (e_int _))) .nil (s_raise (t_cons (e_cb1 b_len (e_var 1 rfl)) t_nil) (fun _ => rfl) .nil) (s_next () (show Wk [.o (inst p0 "Wants" [] []), .v (x.1 : (List Int)), .u, .u] [.o (inst p0 "Wants" [] []), .v (x.1 : (List Int)), .u, .u] from (.same (.same (.u (.u .nil)))))) (fun _ => (s_for (eh := (fun s_2 : Unit => [.o (inst p0 "Wants" [] []), .v (x.1 : (List Int)), .u, .u])) (()) (i_enumK kv_L (e_var 1 rfl)) .nil (show Wk [.o (inst p0 "Wants" [] []), .v (x.1 : (List Int)), .u, .u] [.o (inst p0 "Wants" [] []), .v (x.1 : (List Int)), .u, .u] from (.same (.same (.u (.u .nil))))) (g_pair (g_name 2) (g_name 3)) (fun index_3 s_2 => (s_if0 (c_not (c_test (e_chain o_cmp o_cmp (e_int _) (e_var 3 rfl) (e_int _)))) .nil (s_raise (t_cons (e_var 2 rfl) (t_cons (e_var 3 rfl) t_nil)) (fun _ => rfl) .nil) (s_next (()) (show Wk [.o (inst p0 "Wants" [] []), .v (x.1 : (List Int)), .v (index_3.1 : Int), .v (index_3.2 : Int)] [.o (inst p0 "Wants" [] []), .v (x.1 : (List Int)), .u, .u] from (.same (.same (.u (.u .nil)))))))) (fun s_2 => (s_fld0 0 rfl (cl_Wants T) (na_Wants_numbers T) (by decide) (by decide) (e_cb1 b_tuple (e_var 1 rfl)) .nil (fun numbers_4 => (s_next (⟨numbers_4⟩ : WantsT) (.same .nil))))))))) (fun p0 x n e hw => ?_)
  obtain ⟨xs, _⟩ := x
  dsimp only at *
  unfold W_WantsU_initU at hw
  refine ⟨fun hc => ?_, fun hc => ?_⟩
  · rw [if_pos (by have := of_decide_eq_true hc; omega)] at hw; exact hw
  · rw [if_neg (by have := of_decide_eq_false hc; omega)] at hw
    refine wfor_badAt (s := ()) (mk := badNumber) (lo := 0) (hi := 30) (fun i x N' hx hN => ⟨fun _ => ⟨fun q => ?_, fun _ => hN⟩, fun q => ?_⟩) (fun i x N' hx hE => ⟨fun q => ⟨fun _ => hE, fun z => ?_⟩, fun q => ⟨fun _ => hE, nofun⟩⟩) xs 0 ?_
    · cases hb : badAt badNumber 0 30 0 xs with
      | none => rw [hb] at hw; exact hw
      | some e => rw [hb] at hw; exact hw
    · simp at q; omega
    · have := of_decide_eq_false q; omega
    · simp at z q; omega
theorem fk_WantsU_initU {w : World} {K : PySem.W.Frag} {mg : Str → Option Value} {base : Heap} (T : LC K mg) : ∃ fd, Binds K fd P_WantsU_initU [] ∧ FnOk PW w K mg base (L2.CX PW w) 4 (He.ma K (He.ga K "Wants") "__init__") fd P_WantsU_initU (spI K "Wants" (arC (α := (List Int)) ar0) (fun p : (List Int) × Unit => W_WantsU_initU p.1)) ∧ PySem.W.keepIn K (.ref (He.ma K (He.ga K "Wants") "__init__")) = true := by
  obtain ⟨fd, F⟩ := F_WantsU_initU T
  exact ⟨fd, (F.bindsN fun _ _ _ _ _ _ us hl => match us, hl with | [_, _], _ => rfl), fd_WantsU_initU T  F, F.kp⟩
theorem MK_Wants {w : World} {K : PySem.W.Frag} {mg : Str → Option Value} {base : Heap} (T : LC K mg) : MkC PW w K mg base "Wants" (He.ga K "Wants") 4 (spI K "Wants" (arC (α := (List Int)) ar0) (fun p : (List Int) × Unit => W_WantsU_initU p.1)) := by
  obtain ⟨fd, b, F, kp⟩ := fk_WantsU_initU (w := w) (base := base) T 
  exact ⟨_, fd, _, g_Wants T, mk_Wants T, b, F⟩

def W_HouseU_initU (ws : WantsT) (cs : List Int) (r : Int) : Wp HouseT := fun N E => ws.numbers.items.length ≤ 60 ∧ if 30 < cs.length then E (tooLong cs.length) else match badAt badComing 1 (ws.numbers.items.length + 1) 0 cs with
  | some e => E e
  | none => if 0 ≤ r ∧ r ≤ 60 then N ⟨ws, ⟨cs⟩, r⟩ else E (badRest r)
theorem fd_HouseU_initU {w : World} {K : PySem.W.Frag} {mg : Str → Option Value} {base : Heap} (T : LC K mg) (LN_Wants : LenC PW w K mg base (He.ga K "Wants") 4 (spF K (arC (α := WantsT) ar0) (fun p : WantsT × Unit => W_WantsU_lenU p.1))) {fd : FuncData} (F : FunD K "__init__" "House.__init__" (defArgs s_HouseU_initU) (defBody s_HouseU_initU) (defScope s_HouseU_initU) (d_HouseU_initU.dvs K) (d_HouseU_initU.kws K) (He.ma K (He.ga K "House") "__init__") fd) : FnOk PW w K mg base (L2.CX PW w) 6 (He.ma K (He.ga K "House") "__init__") fd P_HouseU_initU (spI K "House" args_House (fun p : (WantsT × (List Int) × Unit) × (Int × Unit) => W_HouseU_initU p.1.1 p.1.2.1 p.2.1)) := by
  refine F.ok sc_HouseU_initU (fun vs H Q E h => by obtain ⟨_, _, _, _, _, _, _, rfl, _, _, _, r, _⟩ := h; exact congrArg Nat.succ r.length) fun cdv A outer s H vs Q E hr h => ?_
  refine ⟨_, (pss_cons (ps_if (pt_cmpR op_gt (pe_callB (kLen K) (by rfl) (f_len T) PySem.boot_len (pa_cons (pv 2) pa_nil)) (pe_gi (c_MOST_PEOPLE T)) (nomark _)) (pss_cons (ps_raise rfl (takes_of rfl rfl rfl rfl) (pmk_exc (x_TooLong T) (List.cons_ne_nil _ _) (g_TooLong T) hr (pa_cons (pe_callB (kLen K) (by rfl) (f_len T) PySem.boot_len (pa_cons (pv 2) pa_nil)) pa_nil) (by rfl) (f_super T))) pss_nil) pss_nil)
      (pss_cons (ps_for (passes_of rfl) rfl (kEnumK K .L trivial (hr.mono (by decide)) rfl (f_enumerate T) (pa_cons (pv 2) pa_nil)) (kgTup (n := 2) K rfl (pgs_cons (pg_name (i := 4) sc_HouseU_initU.nd rfl (Or.inl rfl)) (pgs_cons (pg_name (i := 5) sc_HouseU_initU.nd rfl (Or.inl rfl)) pgs_nil))) (pss_cons (ps_if (pt_not (pt_chain op_le op_le pe_int (pv 5) (pe_op (kAdd K) (pe_callB (call_lenO LN_Wants (hr.mono (by decide))) (by rfl) (f_len T) PySem.boot_len (pa_cons (pv 1) pa_nil)) pe_int))) (pss_cons (ps_raise rfl (takes_of rfl rfl rfl rfl) (pmk_exc (x_BadComing T) (List.cons_ne_nil _ _) (g_BadComing T) hr (pa_cons (pv 4) (pa_cons (pv 5) pa_nil)) (by rfl) (f_super T))) pss_nil) pss_nil) pss_nil))
      (pss_cons (ps_if (pt_not (pt_chain op_le op_le pe_int (pv 3) (pe_gi (c_MOST_REST T)))) (pss_cons (ps_raise rfl (takes_of rfl rfl rfl rfl) (pmk_exc (x_BadRest T) (List.cons_ne_nil _ _) (g_BadRest T) hr (pa_cons (pv 3) pa_nil) (by rfl) (f_super T))) pss_nil) pss_nil)
      (pss_cons (ksFld K (pv 0) (pv 1) rfl)
      (pss_cons (ksFld K (pv 0) (pe_callTy (kTuple K) (by rfl) (f_tuple T) (by decide +kernel) (pa_cons (pv 2) pa_nil)) rfl)
      (pss_cons (ksFld K (pv 0) (pv 3) rfl)
      pss_nil)))))), ?_⟩
  refine use_I (Γ := fun (p0 : Addr) (x : (WantsT × (List Int) × Unit) × (Int × Unit)) => [.o (inst p0 "House" [] []), .v (x.1.1 : WantsT), .v (x.1.2.1 : (List Int)), .v (x.2.1 : Int), .u, .u]) (en := (fun (p0 : Addr) (y : HouseT) => [.o (inst p0 "House" ["wants", "comings", "rest"] [toP y.wants, toP y.comings, toP y.rest])])) h (fun p0 x => ⟨_, rfl, (.v (.v (.v (.u (.u .nil)))))⟩) (fun _ _ => Nat.le_of_ble_eq_true rfl) (fun p0 y => ⟨_, _, _, rfl, rfl⟩) (fun F p0 x => (s_if (e1 := (fun _ : Unit => [.o (inst p0 "House" [] []), .v (x.1.1 : WantsT), .v (x.1.2.1 : (List Int)), .v (x.2.1 : Int), .u, .u])) (c_test (e_op o_cmp (e_cb1 b_len (e_var 2 rfl)) (e_int _))) .nil (s_raise (t_cons (e_cb1 b_len (e_var 2 rfl)) t_nil) (fun _ => rfl) .nil) (s_next () (show Wk [.o (inst p0 "House" [] []), .v (x.1.1 : WantsT), .v (x.1.2.1 : (List Int)), .v (x.2.1 : Int), .u, .u] [.o (inst p0 "House" [] []), .v (x.1.1 : WantsT), .v (x.1.2.1 : (List Int)), .v (x.2.1 : Int), .u, .u] from (.same (.same (.same (.same (.u (.u .nil)))))))) (fun _ => (s_for (eh := (fun s_2 : Unit => [.o (inst p0 "House" [] []), .v (x.1.1 : WantsT), .v (x.1.2.1 : (List Int)), .v (x.2.1 : Int), .u, .u])) (()) (i_enumK kv_L (e_var 2 rfl)) .nil (show Wk [.o (inst p0 "House" [] []), .v (x.1.1 : WantsT), .v (x.1.2.1 : (List Int)), .v (x.2.1 : Int), .u, .u] [.o (inst p0 "House" [] []), .v (x.1.1 : WantsT), .v (x.1.2.1 : (List Int)), .v (x.2.1 : Int), .u, .u] from (.same (.same (.same (.same (.u (.u .nil))))))) (g_pair (g_name 4) (g_name 5)) (fun person_3 s_2 => (s_if0 (c_not (c_test (e_chain o_cmp o_cmp (e_int _) (e_var 5 rfl) (e_op o_add (e_lenO (e_var 1 rfl)) (e_int _))))) .nil (s_raise (t_cons (e_var 4 rfl) (t_cons (e_var 5 rfl) t_nil)) (fun _ => rfl) .nil) (s_next (()) (show Wk [.o (inst p0 "House" [] []), .v (x.1.1 : WantsT), .v (x.1.2.1 : (List Int)), .v (x.2.1 : Int), .v (person_3.1 : Int), .v (person_3.2 : Int)] [.o (inst p0 "House" [] []), .v (x.1.1 : WantsT), .v (x.1.2.1 : (List Int)), .v (x.2.1 : Int), .u, .u] from (.same (.same (.same (.same (.u (.u .nil)))))))))) (fun s_2 => (s_if (e1 := (fun _ : Unit => [.o (inst p0 "House" [] []), .v (x.1.1 : WantsT), .v (x.1.2.1 : (List Int)), .v (x.2.1 : Int), .u, .u])) (c_not (c_test (e_chain o_cmp o_cmp (e_int _) (e_var 3 rfl) (e_int _)))) .nil (s_raise (t_cons (e_var 3 rfl) t_nil) (fun _ => rfl) .nil) (s_next () (show Wk [.o (inst p0 "House" [] []), .v (x.1.1 : WantsT), .v (x.1.2.1 : (List Int)), .v (x.2.1 : Int), .u, .u] [.o (inst p0 "House" [] []), .v (x.1.1 : WantsT), .v (x.1.2.1 : (List Int)), .v (x.2.1 : Int), .u, .u] from (.same (.same (.same (.same (.u (.u .nil)))))))) (fun _ => (s_fld0 0 rfl (cl_House T) (na_House_wants T) (by decide) (by decide) (e_var 1 rfl) .nil (fun wants_5 => (s_fld0 0 rfl (cl_House T) (na_House_comings T) (by decide) (by decide) (e_cb1 b_tuple (e_var 2 rfl)) .nil (fun comings_6 => (s_fld0 0 rfl (cl_House T) (na_House_rest T) (by decide) (by decide) (e_var 3 rfl) .nil (fun rest_7 => (s_next (⟨wants_5, comings_6, rest_7⟩ : HouseT) (.same .nil))))))))))))))) (fun p0 x n e hw => ?_)
  obtain ⟨⟨ws, cs, _⟩, r, _⟩ := x
  dsimp only at *
  obtain ⟨hn, hw⟩ := hw
  simp only [W_WantsU_lenU]
  refine ⟨fun hc => ?_, fun hc => ?_⟩
  · rw [if_pos (by have := of_decide_eq_true hc; omega)] at hw; exact hw
  · rw [if_neg (by have := of_decide_eq_false hc; omega)] at hw
    refine wfor_badAt (s := ()) (mk := badComing) (lo := 1) (hi := ws.numbers.items.length + 1) (fun i x N' hx hN => ⟨fun _ => ⟨by omega, by omega, fun q => ?_, fun _ => hN⟩, fun q => ?_⟩) (fun i x N' hx hE => ⟨fun q => ⟨by omega, by omega, fun _ => hE, fun z => ?_⟩, fun q => ⟨fun _ => hE, nofun⟩⟩) cs 0 ?_
    · cases hb : badAt badComing 1 (ws.numbers.items.length + 1) 0 cs with
      | none =>
        rw [hb] at hw
        dsimp only at hw ⊢
        by_cases hr : 0 ≤ r ∧ r ≤ 60
        · rw [if_pos hr] at hw
          refine ⟨fun _ => ⟨fun q => ?_, fun _ => hw⟩, fun q => ?_⟩
          · simp at q; omega
          · have := of_decide_eq_false q; omega
        · rw [if_neg hr] at hw
          refine ⟨fun z => ⟨fun q => hw, fun q => ?_⟩, fun q => ⟨fun _ => hw, nofun⟩⟩
          have := of_decide_eq_true z; simp at q; omega
      | some e => rw [hb] at hw; exact hw
    · simp at q; omega
    · have := of_decide_eq_false q; omega
    · have := of_decide_eq_true q; simp at z; omega
theorem MK_House {w : World} {K : PySem.W.Frag} {mg : Str → Option Value} {base : Heap} (T : LC K mg) (LN_Wants : LenC PW w K mg base (He.ga K "Wants") 4 (spF K (arC (α := WantsT) ar0) (fun p : WantsT × Unit => W_WantsU_lenU p.1))) : MkKC PW w K mg base "House" (He.ga K "House") 2 ["rest"] 6 (spI K "House" args_House (fun p : (WantsT × (List Int) × Unit) × (Int × Unit) => W_HouseU_initU p.1.1 p.1.2.1 p.2.1)) := by
  obtain ⟨fd, F⟩ := F_HouseU_initU T
  obtain ⟨mv, b⟩ := F.kbinds0 (ps := P_HouseU_initU) 3 ["rest"] [] (fun us _ ws => us ++ ws) (List.cons_ne_nil _ _) (fun _ h => nomatch h) (fun r1 _ r3 => r1.append r3) fun D doc pm an cdv ct us mv ws h1 h2 h3 => match us, mv, ws, h1, h2, h3 with | [_, _, _], [], [_], _, _, _ => rfl
  exact ⟨_, fd, _, g_House T, mk_House T, b, fd_HouseU_initU T LN_Wants F⟩

def W_check_order (h : HouseT) (ps : List Int) : Wp Unit := fun N E => h.Ok ∧ match badPeople h.p [] ps with | some e => E e | none => if ps.length = h.p then N () else E (wrongLength ps.length h.p)
theorem fd_check_order {w : World} {K : PySem.W.Frag} {mg : Str → Option Value} {base : Heap} (T : LC K mg) (G_check_people : GFn PW w K mg base "check_people" 7 P_check_people (spF K (arC (α := HouseT) (arC (α := (List Int)) ar0)) (fun p : HouseT × (List Int) × Unit => W_check_people p.1 p.2.1))) (PR_House_people : PrC PW w K mg base (He.ga K "House") "people" 4 (spF K (arC (α := HouseT) ar0) (fun p : HouseT × Unit => W_House_people p.1))) {fd : FuncData} (F : FunD K "check_order" "check_order" (defArgs s_check_order) (defBody s_check_order) (defScope s_check_order) [] [] (He.ga K "check_order") fd) : FnOk PW w K mg base (L2.CX PW w) 8 (He.ga K "check_order") fd P_check_order (spF K (arC (α := HouseT) (arC (α := (List Int)) ar0)) (fun p : HouseT × (List Int) × Unit => W_check_order p.1 p.2.1)) := by
  refine F.ok sc_check_order (fun vs H Q E h => by obtain ⟨_, _, _, _, _, r, _⟩ := h; exact r.length) fun cdv A outer s H vs Q E hr h => ?_
  refine ⟨_, (pss_cons (ps_expr (pe_g G_check_people (hr.mono (by decide)) (takes_of rfl rfl rfl rfl) (pa_cons (pv 0) (pa_cons (pv 1) pa_nil))))
      (pss_cons (ps_if (pt_cmpR (kNe K (hu65 hr)) (pe_callB (kLen K) (by rfl) (f_len T) PySem.boot_len (pa_cons (pv 1) pa_nil)) (pe_pr PR_House_people (hr.mono (by decide)) (pv 0)) (nomark _)) (pss_cons (ps_raise rfl (takes_of rfl rfl rfl rfl) (pmk_exc (x_WrongLength T) (List.cons_ne_nil _ _) (g_WrongLength T) hr (pa_cons (pe_callB (kLen K) (by rfl) (f_len T) PySem.boot_len (pa_cons (pv 1) pa_nil)) (pa_cons (pe_pr PR_House_people (hr.mono (by decide)) (pv 0)) pa_nil)) (by rfl) (f_super T))) pss_nil) pss_nil) pss_nil)), ?_⟩
  refine use_F (Γ := fun x : HouseT × (List Int) × Unit => [.v (x.1 : HouseT), .v (x.2.1 : (List Int))]) (fun n => n ()) (fun _ z => ⟨(), z, rfl⟩) h (fun x => (.v (.v .nil))) (fun _ => Nat.le_of_ble_eq_true rfl) (fun F x => (s_drop (e_call (t_cons (e_var 0 rfl) (t_cons (e_var 1 rfl) t_nil))) .nil (s_if0 (c_test (e_op o_ne (e_cb1 b_len (e_var 1 rfl)) (e_pr (e_var 0 rfl)))) .nil (s_raise (t_cons (e_cb1 b_len (e_var 1 rfl)) (t_cons (e_pr (e_var 0 rfl)) t_nil)) (fun _ => rfl) .nil) (s_next () .nil)))) (fun x n e hw => ?_)
  obtain ⟨h, ps, _⟩ := x
  dsimp only at *
  obtain ⟨hk, hw⟩ := hw
  have hp := hk.p30
  refine ⟨hk, ?_⟩
  cases hb : badPeople h.p [] ps with
  | some e => rw [hb] at hw; exact hw
  | none =>
    rw [hb] at hw
    dsimp only at hw
    show W_House_people h _ _
    have two : ∀ (y : Nat), (if ps.length = h.p then n () else e (wrongLength ps.length h.p)) → y = h.p → ((!decide ((ps.length : Int) = y)) = true → e (wrongLength ps.length y)) ∧ ((!decide ((ps.length : Int) = y)) = false → n ()) := fun y hw hy => by
      subst hy
      by_cases c : ps.length = h.p
      · rw [if_pos c] at hw; exact ⟨fun z => by simp [c] at z, fun _ => hw⟩
      · rw [if_neg c] at hw; exact ⟨fun _ => hw, fun z => by simp at z; omega⟩
    exact ⟨hk, fun z => ⟨hk, (two _ hw rfl).1 z⟩, (two _ hw rfl).2⟩
theorem fk_check_order {w : World} {K : PySem.W.Frag} {mg : Str → Option Value} {base : Heap} (T : LC K mg) (G_check_people : GFn PW w K mg base "check_people" 7 P_check_people (spF K (arC (α := HouseT) (arC (α := (List Int)) ar0)) (fun p : HouseT × (List Int) × Unit => W_check_people p.1 p.2.1))) (PR_House_people : PrC PW w K mg base (He.ga K "House") "people" 4 (spF K (arC (α := HouseT) ar0) (fun p : HouseT × Unit => W_House_people p.1))) : ∃ fd, Binds K fd P_check_order [] ∧ FnOk PW w K mg base (L2.CX PW w) 8 (He.ga K "check_order") fd P_check_order (spF K (arC (α := HouseT) (arC (α := (List Int)) ar0)) (fun p : HouseT × (List Int) × Unit => W_check_order p.1 p.2.1)) ∧ PySem.W.keepIn K (.ref (He.ga K "check_order")) = true := by
  obtain ⟨fd, F⟩ := F_check_order T
  exact ⟨fd, (F.bindsN fun _ _ _ _ _ _ us hl => match us, hl with | [_, _], _ => rfl), fd_check_order T G_check_people PR_House_people F, F.kp⟩
theorem G_check_order {w : World} {K : PySem.W.Frag} {mg : Str → Option Value} {base : Heap} (T : LC K mg) (G_check_people : GFn PW w K mg base "check_people" 7 P_check_people (spF K (arC (α := HouseT) (arC (α := (List Int)) ar0)) (fun p : HouseT × (List Int) × Unit => W_check_people p.1 p.2.1))) (PR_House_people : PrC PW w K mg base (He.ga K "House") "people" 4 (spF K (arC (α := HouseT) ar0) (fun p : HouseT × Unit => W_House_people p.1))) : GFn PW w K mg base "check_order" 8 P_check_order (spF K (arC (α := HouseT) (arC (α := (List Int)) ar0)) (fun p : HouseT × (List Int) × Unit => W_check_order p.1 p.2.1)) := by
  obtain ⟨fd, b, F, kp⟩ := fk_check_order (w := w) (base := base) T G_check_people PR_House_people
  exact ⟨_, fd, g_check_order T, kp, b, F⟩

def W_nights_in_order (h : HouseT) (od : List Int) : Wp (List (List Int)) := fun N E => h.Ok ∧ badPeople h.p [] od = none ∧ od.length = h.p ∧ N (nio h od)
theorem fd_nights_in_order {w : World} {K : PySem.W.Frag} {mg : Str → Option Value} {base : Heap} (T : LC K mg) (G_check_order : GFn PW w K mg base "check_order" 8 P_check_order (spF K (arC (α := HouseT) (arC (α := (List Int)) ar0)) (fun p : HouseT × (List Int) × Unit => W_check_order p.1 p.2.1))) (PR_House_people : PrC PW w K mg base (He.ga K "House") "people" 4 (spF K (arC (α := HouseT) ar0) (fun p : HouseT × Unit => W_House_people p.1))) (G_growth : GFn PW w K mg base "growth" 11 P_growth (spR K (arC (α := HouseT) (arC (α := (List Int)) (arC (α := Int) ar0))) (fun z : List Int => mu z) (fun p : HouseT × (List Int) × Int × Unit => W_growth p.1 p.2.1 p.2.2.1))) {fd : FuncData} (F : FunD K "nights_in_order" "nights_in_order" (defArgs s_nights_in_order) (defBody s_nights_in_order) (defScope s_nights_in_order) [] [] (He.ga K "nights_in_order") fd) : FnOk PW w K mg base (L2.CX PW w) 12 (He.ga K "nights_in_order") fd P_nights_in_order (spR K (arC (α := HouseT) (arC (α := (List Int)) ar0)) (fun z : List (List Int) => mu z) (fun p : HouseT × (List Int) × Unit => W_nights_in_order p.1 p.2.1)) := by
  refine F.ok sc_nights_in_order (fun vs H Q E h => by obtain ⟨_, _, _, _, _, r, _⟩ := h; exact r.length) fun cdv A outer s H vs Q E hr h => ?_
  refine ⟨_, (pss_cons (ps_expr (pe_g G_check_order (hr.mono (by decide)) (takes_of rfl rfl rfl rfl) (pa_cons (pv 0) (pa_cons (pv 1) pa_nil))))
      (pss_cons (ps_setLc (i := 2) (own := [("_", 5)]) rfl sc_nights_in_order.nd rfl rfl (sw_true rfl rfl rfl (by decide +kernel)) (pi_range1 rfl (f_range T) (pa_cons (pe_pr PR_House_people (hr.mono (by decide)) (pv 0)) pa_nil)) (blkOk_r (by rfl)) (fun _ _ _ _ _ => (pg_name (i := 5) sc_nights_in_order.nd rfl (Or.inl rfl))) (fun _ _ _ _ _ => pts_nil) (fun _ _ _ _ _ => (pe_lst pa_nil)))
      (pss_cons (ps_set (i := 3) sc_nights_in_order.nd rfl (Or.inl rfl) (pe_lst pa_nil))
      (pss_cons (ps_for (passes_of rfl) rfl (kiList K (pv 1)) (pg_name (i := 4) sc_nights_in_order.nd rfl (Or.inl rfl)) (pss_cons (ps_asg (pe_g G_growth (hr.mono (by decide)) (takes_of rfl rfl rfl rfl) (pa_cons (pv 0) (pa_cons (pv 3) (pa_cons (pv 4) pa_nil)))) (pg_sub (pv 2) (pv 4) set_list))
      (pss_cons (ps_expr (kBm K PySem.F.plainAttrs_list PySem.F.slot_list_append PySem.F.type_list_append mt_append (pv 3) (pa_cons (pv 4) pa_nil)))
      pss_nil)))
      (pss_cons (ps_ret (pv 2)) pss_nil))))), ?_⟩
  refine use_R (Γ := fun x : HouseT × (List Int) × Unit => [.v (x.1 : HouseT), .v (x.2.1 : (List Int)), .u, .u, .u, .u]) h (fun x => (.v (.v (.u (.u (.u (.u .nil))))))) (fun _ => Nat.le_of_ble_eq_true rfl) (fun F x => (s_drop (e_call (t_cons (e_var 0 rfl) (t_cons (e_var 1 rfl) t_nil))) .nil (s_setR 2 (α := List (List Int)) (r_lc1 (i := 5) (i_r1 (e_pr (e_var 0 rfl))) rfl (fun __1 => c_yes) (fun __1 => (e_frz (r_lst a_nil)))) .nil (fun nights_2 => (s_setR 3 (α := List Int) (r_lst a_nil) .nil (fun before_3 => (s_for (eh := (fun s_4 : (List (List Int)) × (List Int) × Unit => [.v (x.1 : HouseT), .v (x.2.1 : (List Int)), .o (mu (s_4.1 : List (List Int))), .o (mu (s_4.2.1 : List Int)), .u, .u])) (nights_2, before_3, ()) (i_list (e_var 1 rfl)) .nil (show Wk [.v (x.1 : HouseT), .v (x.2.1 : (List Int)), .o (mu (nights_2 : List (List Int))), .o (mu (before_3 : List Int)), .u, .u] [.v (x.1 : HouseT), .v (x.2.1 : (List Int)), .o (mu (nights_2 : List (List Int))), .o (mu (before_3 : List Int)), .u, .u] from (.same (.same (.same (.same (.u (.u .nil))))))) (g_name 4) (fun person_5 s_4 => (s_setix 2 rfl (e_frz (r_peek 3 rfl (Nat.le_of_ble_eq_true rfl) (r_call (t_cons (e_var 0 rfl) (t_cons (e_var 3 rfl) (t_cons (e_var 4 rfl) t_nil)))))) (e_var 4 rfl) .nil (fun j_7 nights_6 => (s_append 3 (α := Int) rfl (e_var 4 rfl) .nil (fun x_8 => (s_next ((List.set s_4.1 j_7 nights_6), (s_4.2.1 ++ [x_8]), ()) (show Wk [.v (x.1 : HouseT), .v (x.2.1 : (List Int)), .o (mu ((List.set s_4.1 j_7 nights_6) : List (List Int))), .o (mu ((s_4.2.1 ++ [x_8]) : List Int)), .v (person_5 : Int), .u] [.v (x.1 : HouseT), .v (x.2.1 : (List Int)), .o (mu ((List.set s_4.1 j_7 nights_6) : List (List Int))), .o (mu ((s_4.2.1 ++ [x_8]) : List Int)), .u, .u] from (.same (.same (.same (.same (.u (.u .nil))))))))))))) (fun s_4 => (s_retV 2 s_4.1 rfl (Nat.le_of_ble_eq_true rfl) rfl .nil))))))))) (fun x n e hw => ?_)
  obtain ⟨h, od, _⟩ := x
  dsimp only at *
  obtain ⟨hk, hb, hl, hN⟩ := hw
  have hp := hk.p30
  have nd := (badPeople_nodup hb).1
  have hr := badPeople_none hb
  refine ⟨hk, ?_⟩
  rw [hb]
  dsimp only
  rw [if_pos hl]
  refine ⟨hk, by omega, by omega, sl_ok (by rw [rng_length]; omega), wlc_map (fun _ => []) (fun x _ N hN => ⟨fun _ => ⟨sl_ok (by simp), hN⟩, nofun⟩) ?_⟩
  refine ⟨sl_ok (by simp), wfor_inv (fun i s => s.2.1 = od.take i ∧ s.1.length = h.p ∧ ∀ j, j < i → ∀ hj : j < od.length, s.1[(od[j]).toNat]? = some (growH h (od.take j) od[j])) ⟨by simp, by rw [List.length_map, rng_length]; omega, fun j hj => by omega⟩ (fun i hi s N' hs hI => ?_) (fun s hs => ?_)⟩
  · obtain ⟨h1, h2, h3⟩ := hs
    have hpi := hr od[i] (List.getElem_mem _)
    have hbt : badPeople h.p [] s.2.1 = none := by
      rw [h1]
      exact badPeople_ok (nd.sublist (List.take_sublist _ _)) fun q hq => ⟨(hr q (List.mem_of_mem_take hq)).1, (hr q (List.mem_of_mem_take hq)).2, by simp⟩
    refine ⟨hk, ?_⟩
    rw [hbt]
    dsimp only
    have hni : od[i] ∉ s.2.1 := fun m => by
      rw [h1] at m
      obtain ⟨k, hk1, e⟩ := List.mem_iff_getElem.mp m
      rw [List.getElem_take] at e
      rw [List.length_take] at hk1
      have := nodup_inj nd (by omega) (by omega) e
      omega
    rw [if_pos hpi, if_neg hni]
    refine ⟨_, ixN_nn hpi.1 (by omega), sl_lt (by rw [h1, List.length_take]; omega), hI _ ⟨?_, by simp [h2], fun j hj hjl => ?_⟩⟩
    · rw [h1, ← List.take_succ_eq_append_getElem (by omega)]
    · rw [List.getElem?_set]
      by_cases e : j = i
      · subst e
        rw [if_pos rfl, if_pos (by omega), h1]
      · have hpj := hr od[j] (List.getElem_mem _)
        have : (od[i]).toNat ≠ (od[j]).toNat := fun z => e (nodup_inj nd (by omega) (by omega) (show od[j] = od[i] by omega))
        rw [if_neg this]
        exact h3 j (by omega) hjl
  · obtain ⟨h1, h2, h3⟩ := hs
    have e : s.1 = nio h od := by
      apply List.ext_getElem?
      intro k
      by_cases hk' : k < h.p
      · have mem : (k : Int) ∈ od := by
          have l := nodup_len (a := rng 0 h.p) (b := od)
          have nr : (rng 0 h.p).Nodup := by
            rw [List.nodup_iff_pairwise_ne, List.pairwise_iff_getElem]
            intro i j hi hj hij
            rw [rng_get hi, rng_get hj]; omega
          obtain ⟨c, pc, _⟩ := more_of od (rng 0 h.p) nd fun x hx => by
            have := hr x hx
            refine List.mem_iff_getElem.mpr ⟨x.toNat, by rw [rng_length]; omega, ?_⟩
            rw [rng_get]; omega
          have lc := pc.length_eq
          rw [rng_length, List.length_append] at lc
          have : c = [] := List.length_eq_zero_iff.mp (by omega)
          subst this
          refine pc.mem_iff.mp (List.mem_iff_getElem.mpr ⟨k, by rw [rng_length]; exact hk', ?_⟩)
          rw [rng_get]; omega
        obtain ⟨j, hj, e⟩ := List.mem_iff_getElem.mp mem
        have q := h3 j hj hj
        rw [e] at q
        rw [show ((k : Nat) : Int).toNat = k from by omega] at q
        rw [q]
        unfold nio
        rw [List.getElem?_map, List.getElem?_range hk']
        show _ = some (growH h (before od k) k)
        rw [← e, before_at nd hj]
      · rw [List.getElem?_eq_none (by omega), List.getElem?_eq_none (by simp [nio]; omega)]
    rw [e]; exact hN
theorem fk_nights_in_order {w : World} {K : PySem.W.Frag} {mg : Str → Option Value} {base : Heap} (T : LC K mg) (G_check_order : GFn PW w K mg base "check_order" 8 P_check_order (spF K (arC (α := HouseT) (arC (α := (List Int)) ar0)) (fun p : HouseT × (List Int) × Unit => W_check_order p.1 p.2.1))) (PR_House_people : PrC PW w K mg base (He.ga K "House") "people" 4 (spF K (arC (α := HouseT) ar0) (fun p : HouseT × Unit => W_House_people p.1))) (G_growth : GFn PW w K mg base "growth" 11 P_growth (spR K (arC (α := HouseT) (arC (α := (List Int)) (arC (α := Int) ar0))) (fun z : List Int => mu z) (fun p : HouseT × (List Int) × Int × Unit => W_growth p.1 p.2.1 p.2.2.1))) : ∃ fd, Binds K fd P_nights_in_order [] ∧ FnOk PW w K mg base (L2.CX PW w) 12 (He.ga K "nights_in_order") fd P_nights_in_order (spR K (arC (α := HouseT) (arC (α := (List Int)) ar0)) (fun z : List (List Int) => mu z) (fun p : HouseT × (List Int) × Unit => W_nights_in_order p.1 p.2.1)) ∧ PySem.W.keepIn K (.ref (He.ga K "nights_in_order")) = true := by
  obtain ⟨fd, F⟩ := F_nights_in_order T
  exact ⟨fd, (F.bindsN fun _ _ _ _ _ _ us hl => match us, hl with | [_, _], _ => rfl), fd_nights_in_order T G_check_order PR_House_people G_growth F, F.kp⟩
theorem G_nights_in_order {w : World} {K : PySem.W.Frag} {mg : Str → Option Value} {base : Heap} (T : LC K mg) (G_check_order : GFn PW w K mg base "check_order" 8 P_check_order (spF K (arC (α := HouseT) (arC (α := (List Int)) ar0)) (fun p : HouseT × (List Int) × Unit => W_check_order p.1 p.2.1))) (PR_House_people : PrC PW w K mg base (He.ga K "House") "people" 4 (spF K (arC (α := HouseT) ar0) (fun p : HouseT × Unit => W_House_people p.1))) (G_growth : GFn PW w K mg base "growth" 11 P_growth (spR K (arC (α := HouseT) (arC (α := (List Int)) (arC (α := Int) ar0))) (fun z : List Int => mu z) (fun p : HouseT × (List Int) × Int × Unit => W_growth p.1 p.2.1 p.2.2.1))) : GFn PW w K mg base "nights_in_order" 12 P_nights_in_order (spR K (arC (α := HouseT) (arC (α := (List Int)) ar0)) (fun z : List (List Int) => mu z) (fun p : HouseT × (List Int) × Unit => W_nights_in_order p.1 p.2.1)) := by
  obtain ⟨fd, b, F, kp⟩ := fk_nights_in_order (w := w) (base := base) T G_check_order PR_House_people G_growth
  exact ⟨_, fd, g_nights_in_order T, kp, b, F⟩

def W_order_counts (h : HouseT) (od : List Int) : Wp (List Int) := fun N E => h.Ok ∧ badPeople h.p [] od = none ∧ od.length = h.p ∧ N ((nio h od).map fun x => (x.length : Int))
theorem fd_order_counts {w : World} {K : PySem.W.Frag} {mg : Str → Option Value} {base : Heap} (T : LC K mg) (G_nights_in_order : GFn PW w K mg base "nights_in_order" 12 P_nights_in_order (spR K (arC (α := HouseT) (arC (α := (List Int)) ar0)) (fun z : List (List Int) => mu z) (fun p : HouseT × (List Int) × Unit => W_nights_in_order p.1 p.2.1))) {fd : FuncData} (F : FunD K "order_counts" "order_counts" (defArgs s_order_counts) (defBody s_order_counts) (defScope s_order_counts) [] [] (He.ga K "order_counts") fd) : FnOk PW w K mg base (L2.CX PW w) 13 (He.ga K "order_counts") fd P_order_counts (spR K (arC (α := HouseT) (arC (α := (List Int)) ar0)) (fun z : List Int => mu z) (fun p : HouseT × (List Int) × Unit => W_order_counts p.1 p.2.1)) := by
  refine F.ok sc_order_counts (fun vs H Q E h => by obtain ⟨_, _, _, _, _, r, _⟩ := h; exact r.length) fun cdv A outer s H vs Q E hr h => ?_
  refine ⟨_, (pss_cons (ps_ret (pe_lc (own := [("nights", 2)]) rfl sc_order_counts.nd (kiList K (pe_g G_nights_in_order (hr.mono (by decide)) (takes_of rfl rfl rfl rfl) (pa_cons (pv 0) (pa_cons (pv 1) pa_nil)))) (blkOk_r (by rfl)) (fun _ _ _ _ _ => (pg_name (i := 2) sc_order_counts.nd rfl (Or.inl rfl))) (fun _ _ _ _ _ => pts_nil) (fun _ _ _ _ _ => (pe_callB (kLen K) (by rfl) (f_len T) PySem.boot_len (pa_cons (pv 2) pa_nil))))) pss_nil), ?_⟩
  refine use_R (Γ := fun x : HouseT × (List Int) × Unit => [.v (x.1 : HouseT), .v (x.2.1 : (List Int)), .u]) h (fun x => (.v (.v (.u .nil)))) (fun _ => Nat.le_of_ble_eq_true rfl) (fun F x => (s_retR (f := fun z => z) (r_lc1 (i := 2) (i_list (e_frz (r_call (t_cons (e_var 0 rfl) (t_cons (e_var 1 rfl) t_nil))))) rfl (fun nights_1 => c_yes) (fun nights_1 => (e_cb1 b_len (e_var 2 rfl)))) .nil (fun _ => rfl) (fun _ => .nil))) (fun x n e hw => ?_)
  obtain ⟨h, od, _⟩ := x
  dsimp only at *
  obtain ⟨hk, hb, hl, hN⟩ := hw
  have hp := hk.p30
  exact ⟨hk, hb, hl, sl_ok (by simp [nio]; omega), wlc_map (fun x => (x.length : Int)) (fun x _ N hN => ⟨fun _ => hN, nofun⟩) hN⟩
theorem fk_order_counts {w : World} {K : PySem.W.Frag} {mg : Str → Option Value} {base : Heap} (T : LC K mg) (G_nights_in_order : GFn PW w K mg base "nights_in_order" 12 P_nights_in_order (spR K (arC (α := HouseT) (arC (α := (List Int)) ar0)) (fun z : List (List Int) => mu z) (fun p : HouseT × (List Int) × Unit => W_nights_in_order p.1 p.2.1))) : ∃ fd, Binds K fd P_order_counts [] ∧ FnOk PW w K mg base (L2.CX PW w) 13 (He.ga K "order_counts") fd P_order_counts (spR K (arC (α := HouseT) (arC (α := (List Int)) ar0)) (fun z : List Int => mu z) (fun p : HouseT × (List Int) × Unit => W_order_counts p.1 p.2.1)) ∧ PySem.W.keepIn K (.ref (He.ga K "order_counts")) = true := by
  obtain ⟨fd, F⟩ := F_order_counts T
  exact ⟨fd, (F.bindsN fun _ _ _ _ _ _ us hl => match us, hl with | [_, _], _ => rfl), fd_order_counts T G_nights_in_order F, F.kp⟩
theorem G_order_counts {w : World} {K : PySem.W.Frag} {mg : Str → Option Value} {base : Heap} (T : LC K mg) (G_nights_in_order : GFn PW w K mg base "nights_in_order" 12 P_nights_in_order (spR K (arC (α := HouseT) (arC (α := (List Int)) ar0)) (fun z : List (List Int) => mu z) (fun p : HouseT × (List Int) × Unit => W_nights_in_order p.1 p.2.1))) : GFn PW w K mg base "order_counts" 13 P_order_counts (spR K (arC (α := HouseT) (arC (α := (List Int)) ar0)) (fun z : List Int => mu z) (fun p : HouseT × (List Int) × Unit => W_order_counts p.1 p.2.1)) := by
  obtain ⟨fd, b, F, kp⟩ := fk_order_counts (w := w) (base := base) T G_nights_in_order
  exact ⟨_, fd, g_order_counts T, kp, b, F⟩

def W_most_of (h : HouseT) (ps : List Int) : Wp Int := fun N E => h.Ok ∧ match badPeople h.p [] ps with | some e => E e | none => N (fcH h ps).sum
theorem fd_most_of {w : World} {K : PySem.W.Frag} {mg : Str → Option Value} {base : Heap} (T : LC K mg) (G_first_choice : GFn PW w K mg base "first_choice" 9 P_first_choice (spR K (arC (α := HouseT) (arC (α := (List Int)) ar0)) (fun z : List Int => mu z) (fun p : HouseT × (List Int) × Unit => W_first_choice p.1 p.2.1))) {fd : FuncData} (F : FunD K "most_of" "most_of" (defArgs s_most_of) (defBody s_most_of) (defScope s_most_of) [] [] (He.ga K "most_of") fd) : FnOk PW w K mg base (L2.CX PW w) 10 (He.ga K "most_of") fd P_most_of (spF K (arC (α := HouseT) (arC (α := (List Int)) ar0)) (fun p : HouseT × (List Int) × Unit => W_most_of p.1 p.2.1)) := by
  refine F.ok sc_most_of (fun vs H Q E h => by obtain ⟨_, _, _, _, _, r, _⟩ := h; exact r.length) fun cdv A outer s H vs Q E hr h => ?_
  refine ⟨_, (pss_cons (ps_ret (pe_callB (kSum K rfl) (by rfl) (f_sum T) (by decide +kernel) (pa_cons (pe_g G_first_choice (hr.mono (by decide)) (takes_of rfl rfl rfl rfl) (pa_cons (pv 0) (pa_cons (pv 1) pa_nil))) pa_nil))) pss_nil), ?_⟩
  refine use_F (Γ := fun x : HouseT × (List Int) × Unit => [.v (x.1 : HouseT), .v (x.2.1 : (List Int))]) (fun _ => False) (fun _ z => z.elim) h (fun x => (.v (.v .nil))) (fun _ => Nat.le_of_ble_eq_true rfl) (fun F x => (s_ret (f := fun z => z) (e_cb1 b_sum (e_frz (r_call (t_cons (e_var 0 rfl) (t_cons (e_var 1 rfl) t_nil))))) .nil (fun _ => rfl) (fun _ => .nil))) (fun x n e hw => ?_)
  obtain ⟨h, ps, _⟩ := x
  dsimp only at *
  obtain ⟨hk, hw⟩ := hw
  refine ⟨hk, ?_⟩
  cases hb : badPeople h.p [] ps <;> rw [hb] at hw <;> exact hw
theorem fk_most_of {w : World} {K : PySem.W.Frag} {mg : Str → Option Value} {base : Heap} (T : LC K mg) (G_first_choice : GFn PW w K mg base "first_choice" 9 P_first_choice (spR K (arC (α := HouseT) (arC (α := (List Int)) ar0)) (fun z : List Int => mu z) (fun p : HouseT × (List Int) × Unit => W_first_choice p.1 p.2.1))) : ∃ fd, Binds K fd P_most_of [] ∧ FnOk PW w K mg base (L2.CX PW w) 10 (He.ga K "most_of") fd P_most_of (spF K (arC (α := HouseT) (arC (α := (List Int)) ar0)) (fun p : HouseT × (List Int) × Unit => W_most_of p.1 p.2.1)) ∧ PySem.W.keepIn K (.ref (He.ga K "most_of")) = true := by
  obtain ⟨fd, F⟩ := F_most_of T
  exact ⟨fd, (F.bindsN fun _ _ _ _ _ _ us hl => match us, hl with | [_, _], _ => rfl), fd_most_of T G_first_choice F, F.kp⟩
theorem G_most_of {w : World} {K : PySem.W.Frag} {mg : Str → Option Value} {base : Heap} (T : LC K mg) (G_first_choice : GFn PW w K mg base "first_choice" 9 P_first_choice (spR K (arC (α := HouseT) (arC (α := (List Int)) ar0)) (fun z : List Int => mu z) (fun p : HouseT × (List Int) × Unit => W_first_choice p.1 p.2.1))) : GFn PW w K mg base "most_of" 10 P_most_of (spF K (arC (α := HouseT) (arC (α := (List Int)) ar0)) (fun p : HouseT × (List Int) × Unit => W_most_of p.1 p.2.1)) := by
  obtain ⟨fd, b, F, kp⟩ := fk_most_of (w := w) (base := base) T G_first_choice
  exact ⟨_, fd, g_most_of T, kp, b, F⟩


theorem fd__law_pool {w : World} {K : PySem.W.Frag} {mg : Str → Option Value} {base : Heap} (T : LC K mg) {fd : FuncData} (F : FunD K "_law_pool" "_law_pool" (defArgs s__law_pool) (defBody s__law_pool) (defScope s__law_pool) [] [] (He.ga K "_law_pool") fd) : FnOk PW w K mg base (L2.CX PW w) 1 (He.ga K "_law_pool") fd P__law_pool (sp_pool K) := by
  refine F.ok sc__law_pool (fun vs H Q E h => by repeat' (first | (obtain ⟨rfl, _⟩ := h; rfl) | (obtain ⟨_, h⟩ := h))) fun cdv A outer s H vs Q E hr h => ?_
  refine ⟨_, (pss_cons (ps_set (i := 2) sc__law_pool.nd rfl (Or.inl rfl) pe_int)
      (pss_cons (ps_if (pt_cmpR op_lt (pv 1) (pe_callB (kLen K) (by rfl) (f_len T) PySem.boot_len (pa_cons (pv 0) pa_nil)) (nomark _)) (pss_one (ps_set (i := 2) sc__law_pool.nd rfl (Or.inl rfl) (pe_callB cy_abs (by rfl) (f_abs T) (by decide +kernel) (pa_cons (pe_ix (kIx K) (pv 0) (pv 1) (fun _ _ => rfl)) pa_nil)))) pss_nil)
      (pss_cons (ps_if (pt_cmpR op_ge (pv 2) (pe_op op_pow pe_int pe_int) (nomark _)) (pss_one (ps_ret (pe_lst (pa_cons (pe_op op_sub (pv 2) (pe_op op_pow pe_int pe_int)) (pa_cons pe_int (pa_cons pe_int pa_nil)))))) pss_nil)
      (pss_one (ps_ret (pe_lst (pa_cons (pe_un un_neg pe_int) (pa_cons (pe_op op_modZ (pe_callTy cy_int (by rfl) (f_int T) (by decide +kernel) (pa_cons (pv 2) pa_nil)) pe_int) (pa_cons (pe_op (kAdd K) (pv 1) pe_int) pa_nil))))))))), ?_⟩
  obtain ⟨F, p, ns, i, rfl, hs, hi, e0, hQ⟩ := h
  have sz : Sees K F H (.ref p) ns := ⟨p, _, rfl, hs, RpA.ints⟩
  have fin : ∀ (b a c : Int), 0 ≤ b → b < 2147483648 → ∀ p, H p = none → Q (.ref p) (upd H p (.lst [.int a, .int b, .int c])) := fun b a c h0 h1 p n => hQ p _ n ⟨Gr.newM e0 n⟩ (by
    cases h : F p with
    | none => rfl
    | some u => rw [e0 p u h] at n; cases n) ⟨_, _, _, upd_same, h0, h1⟩
  have e1 : 0 ≤ i := hi
  walk_at "rd"
  refine q_len sz ?_
  walk_at "rd"
  refine iteD (fun h1 => ?_) (fun h1 => ?_)
  · walk_at "rd"
    refine q_ixI sz (by omega) (by omega) ?_
    walk_at "rd"
    refine iteD (fun h2 => ?_) (fun h2 => ?_)
    · walk_at "rd"
      exact fin _ _ _ (by decide) (by decide)
    · walk_at "rd"
      exact fin _ _ _ (Int.emod_nonneg _ (by decide)) (Int.lt_of_lt_of_le (Int.emod_lt_of_pos _ (by decide)) (by decide))
  · walk_at "rd"
    exact fin _ _ _ (Int.emod_nonneg _ (by decide)) (Int.lt_of_lt_of_le (Int.emod_lt_of_pos _ (by decide)) (by decide))
theorem fk__law_pool {w : World} {K : PySem.W.Frag} {mg : Str → Option Value} {base : Heap} (T : LC K mg) : ∃ fd, Binds K fd P__law_pool [] ∧ FnOk PW w K mg base (L2.CX PW w) 1 (He.ga K "_law_pool") fd P__law_pool (sp_pool K) ∧ PySem.W.keepIn K (.ref (He.ga K "_law_pool")) = true := by
  obtain ⟨fd, F⟩ := F__law_pool T
  exact ⟨fd, (F.bindsN fun _ _ _ _ _ _ us hl => match us, hl with | [_, _], _ => rfl), fd__law_pool T  F, F.kp⟩
theorem G__law_pool {w : World} {K : PySem.W.Frag} {mg : Str → Option Value} {base : Heap} (T : LC K mg) : GFn PW w K mg base "_law_pool" 1 P__law_pool (sp_pool K) := by
  obtain ⟨fd, b, F, kp⟩ := fk__law_pool (w := w) (base := base) T 
  exact ⟨_, fd, g__law_pool T, kp, b, F⟩


theorem fd__law_draw {w : World} {K : PySem.W.Frag} {mg : Str → Option Value} {base : Heap} (T : LC K mg) {fd : FuncData} (F : FunD K "_law_draw" "_law_draw" (defArgs s__law_draw) (defBody s__law_draw) (defScope s__law_draw) [] [] (He.ga K "_law_draw") fd) : FnOk PW w K mg base (L2.CX PW w) 1 (He.ga K "_law_draw") fd P__law_draw sp_draw := by
  refine F.ok sc__law_draw (fun vs H Q E h => by repeat' (first | (obtain ⟨rfl, _⟩ := h; rfl) | (obtain ⟨_, h⟩ := h))) fun cdv A outer s H vs Q E hr h => ?_
  refine ⟨_, (pss_cons (ps_if (pt_cmpR op_ge (pe_ix (kIx K) (pv 0) pe_int (fun _ _ => rfl)) pe_int (nomark _)) (pss_cons (ps_set (i := 2) sc__law_draw.nd rfl (Or.inl rfl) (pe_op op_modZ (pe_callTy cy_int (by rfl) (f_int T) (by decide +kernel) (pa_cons (pe_ix (kIx K) (pv 0) pe_int (fun _ _ => rfl)) pa_nil)) (pv 1)))
      (pss_cons (ps_asg (pe_op op_divZ (pe_ix (kIx K) (pv 0) pe_int (fun _ _ => rfl)) (pv 1)) (pg_sub (pv 0) pe_int set_list))
      (pss_one (ps_ret (pv 2))))) pss_nil)
      (pss_cons (ps_asg (pe_op (kAdd K) (pe_ix (kIx K) (pv 0) pe_int (fun _ _ => rfl)) pe_int) (pg_sub (pv 0) pe_int set_list))
      (pss_cons (ps_set (i := 3) sc__law_draw.nd rfl (Or.inl rfl) (pe_ix (kIx K) (pv 0) pe_int (fun _ _ => rfl)))
      (pss_cons (ps_set (i := 3) sc__law_draw.nd rfl (Or.inl rfl) (pe_op op_modZ (pe_callTy cy_int (by rfl) (f_int T) (by decide +kernel) (pa_cons (pe_op (kAdd K) (pe_op (kAdd K) (pe_op (kMul K) (pv 3) (pv 3)) (pe_op (kMul K) (pe_ix (kIx K) (pv 0) pe_int (fun _ _ => rfl)) pe_int)) pe_int) pa_nil)) pe_int))
      (pss_cons (ps_set (i := 3) sc__law_draw.nd rfl (Or.inl rfl) (pe_op op_modZ (pe_callTy cy_int (by rfl) (f_int T) (by decide +kernel) (pa_cons (pe_op (kAdd K) (pe_op (kMul K) (pv 3) (pv 3)) (pe_op op_divZ (pv 3) pe_int)) pa_nil)) pe_int))
      (pss_cons (ps_asg (pv 3) (pg_sub (pv 0) pe_int set_list))
      (pss_one (ps_ret (pe_op op_modZ (pe_callTy cy_int (by rfl) (f_int T) (by decide +kernel) (pa_cons (pe_op op_divZ (pv 3) pe_int) pa_nil)) (pv 1)))))))))), ?_⟩
  obtain ⟨F, p, m, rfl, e0, hF, ⟨a, b, c, hp, hb0, hb1⟩, hm0, hm1, hQ⟩ := h
  have hp' : H p ≠ none := by rw [hp]; exact nofun
  walk_at "rd"
  refine iteD (fun h1 => ?_) (fun h1 => ?_)
  · walk_at "rd"
    exact hQ _ _ (Int.emod_nonneg _ (by omega)) (Int.emod_lt_of_pos _ hm0) ⟨Gr.chg e0 hF hp'⟩ ⟨_, _, _, upd_same, hb0, hb1⟩
  · walk_at "rd"
    rw [upd_upd]
    exact hQ _ _ (Int.emod_nonneg _ (by omega)) (Int.emod_lt_of_pos _ hm0) ⟨Gr.chg e0 hF hp'⟩ ⟨_, _, _, upd_same, Int.emod_nonneg _ (by decide), Int.lt_of_lt_of_le (Int.emod_lt_of_pos _ (by decide)) (by decide)⟩
theorem fk__law_draw {w : World} {K : PySem.W.Frag} {mg : Str → Option Value} {base : Heap} (T : LC K mg) : ∃ fd, Binds K fd P__law_draw [] ∧ FnOk PW w K mg base (L2.CX PW w) 1 (He.ga K "_law_draw") fd P__law_draw sp_draw ∧ PySem.W.keepIn K (.ref (He.ga K "_law_draw")) = true := by
  obtain ⟨fd, F⟩ := F__law_draw T
  exact ⟨fd, (F.bindsN fun _ _ _ _ _ _ us hl => match us, hl with | [_, _], _ => rfl), fd__law_draw T  F, F.kp⟩
theorem G__law_draw {w : World} {K : PySem.W.Frag} {mg : Str → Option Value} {base : Heap} (T : LC K mg) : GFn PW w K mg base "_law_draw" 1 P__law_draw sp_draw := by
  obtain ⟨fd, b, F, kp⟩ := fk__law_draw (w := w) (base := base) T 
  exact ⟨_, fd, g__law_draw T, kp, b, F⟩

def W__law_size (m : Int) : Wp Int := fun N _ => (0 < m ∧ m < 2 ^ 100) ∧ ∀ x, 0 ≤ x → x ≤ m → N x
theorem fd__law_size {w : World} {K : PySem.W.Frag} {mg : Str → Option Value} {base : Heap} (T : LC K mg) (G__law_draw : GFn PW w K mg base "_law_draw" 1 P__law_draw sp_draw) {fd : FuncData} (F : FunD K "_law_size" "_law_size" (defArgs s__law_size) (defBody s__law_size) (defScope s__law_size) [] [] (He.ga K "_law_size") fd) : FnOk PW w K mg base (L2.CX PW w) 4 (He.ga K "_law_size") fd P__law_size (spP K (arC (α := Int) ar0) (fun p : Int × Unit => W__law_size p.1)) := by
  refine F.ok sc__law_size (fun vs H Q E h => by obtain ⟨_, _, _, _, _, rfl, _, _, _, r, _⟩ := h; exact congrArg Nat.succ r.length) fun cdv A outer s H vs Q E hr h => ?_
  refine ⟨_, (pss_cons (ps_if (pt_cmpR (kEq K (hu65 hr)) (pe_g G__law_draw (hr.mono (by decide)) (takes_of rfl rfl rfl rfl) (pa_cons (pv 0) (pa_cons pe_int pa_nil))) pe_int (nomark _)) (pss_cons (ps_ret pe_int) pss_nil) pss_nil)
      (pss_cons (ps_ret (pe_op (kAdd K) pe_int (pe_callB (cy_max2 rfl) (by rfl) (f_max T) (by decide +kernel) (pa_cons (pe_g G__law_draw (hr.mono (by decide)) (takes_of rfl rfl rfl rfl) (pa_cons (pv 0) (pa_cons (pv 1) pa_nil))) (pa_cons (pe_g G__law_draw (hr.mono (by decide)) (takes_of rfl rfl rfl rfl) (pa_cons (pv 0) (pa_cons (pv 1) pa_nil))) pa_nil))))) pss_nil)), ?_⟩
  refine use_P (Γ := fun (p0 : Addr) (x : Int × Unit) => [.o (pool p0), .v (x.1 : Int)]) h (fun p0 x => ⟨_, rfl, (.v .nil)⟩) (fun _ _ => Nat.le_of_ble_eq_true rfl) (fun F p0 x => (s_if (e1 := (fun _ : Unit => [.o (pool p0), .v (x.1 : Int)])) (c_test (e_op o_eq (e_draw 0 rfl (e_int _)) (e_int _))) .nil (s_ret (f := fun z => z) (e_int _) .nil (fun _ => rfl) (fun _ => (.same .nil))) (s_next () (show Wk [.o (pool p0), .v (x.1 : Int)] [.o (pool p0), .v (x.1 : Int)] from (.same (.same .nil)))) (fun _ => (s_ret (f := fun z => z) (e_op o_add (e_int _) (e_cb2 b_max2 (e_draw 0 rfl (e_var 1 rfl)) (e_draw 0 rfl (e_var 1 rfl)))) .nil (fun _ => rfl) (fun _ => (.same .nil)))))) (fun p0 x n hw => ?_)
  obtain ⟨m, _⟩ := x
  dsimp only at *
  obtain ⟨⟨h0, h1⟩, hN⟩ := hw
  exact ⟨⟨by decide, by decide⟩, fun v _ _ => ⟨fun _ => hN 0 (by omega) (by omega), fun _ => ⟨⟨h0, by omega⟩, fun a a0 a1 => ⟨⟨h0, by omega⟩, fun b b0 b1 => hN _ (by omega) (by omega)⟩⟩⟩⟩
theorem fk__law_size {w : World} {K : PySem.W.Frag} {mg : Str → Option Value} {base : Heap} (T : LC K mg) (G__law_draw : GFn PW w K mg base "_law_draw" 1 P__law_draw sp_draw) : ∃ fd, Binds K fd P__law_size [] ∧ FnOk PW w K mg base (L2.CX PW w) 4 (He.ga K "_law_size") fd P__law_size (spP K (arC (α := Int) ar0) (fun p : Int × Unit => W__law_size p.1)) ∧ PySem.W.keepIn K (.ref (He.ga K "_law_size")) = true := by
  obtain ⟨fd, F⟩ := F__law_size T
  exact ⟨fd, (F.bindsN fun _ _ _ _ _ _ us hl => match us, hl with | [_, _], _ => rfl), fd__law_size T G__law_draw F, F.kp⟩
theorem G__law_size {w : World} {K : PySem.W.Frag} {mg : Str → Option Value} {base : Heap} (T : LC K mg) (G__law_draw : GFn PW w K mg base "_law_draw" 1 P__law_draw sp_draw) : GFn PW w K mg base "_law_size" 4 P__law_size (spP K (arC (α := Int) ar0) (fun p : Int × Unit => W__law_size p.1)) := by
  obtain ⟨fd, b, F, kp⟩ := fk__law_size (w := w) (base := base) T G__law_draw
  exact ⟨_, fd, g__law_size T, kp, b, F⟩

def W__law_wants (k m : Int) : Wp (List Int) := fun N _ => (0 ≤ k ∧ k ≤ 1000 ∧ 0 ≤ m ∧ m < 2 ^ 100) ∧ ∀ xs : List Int, xs.length = k.toNat → (∀ x ∈ xs, 0 ≤ x ∧ x ≤ m) → N xs
theorem fd__law_wants {w : World} {K : PySem.W.Frag} {mg : Str → Option Value} {base : Heap} (T : LC K mg) (G__law_draw : GFn PW w K mg base "_law_draw" 1 P__law_draw sp_draw) {fd : FuncData} (F : FunD K "_law_wants" "_law_wants" (defArgs s__law_wants) (defBody s__law_wants) (defScope s__law_wants) [] [] (He.ga K "_law_wants") fd) : FnOk PW w K mg base (L2.CX PW w) 4 (He.ga K "_law_wants") fd P__law_wants (spPR K (arC (α := Int) (arC (α := Int) ar0)) (fun z : List Int => mu z) (fun p : Int × Int × Unit => W__law_wants p.1 p.2.1)) := by
  refine F.ok sc__law_wants (fun vs H Q E h => by obtain ⟨_, _, _, _, _, rfl, _, _, _, r, _⟩ := h; exact congrArg Nat.succ r.length) fun cdv A outer s H vs Q E hr h => ?_
  refine ⟨_, (pss_cons (ps_ret (pe_lc (own := [("night", 3)]) rfl sc__law_wants.nd (pi_range1 rfl (f_range T) (pa_cons (pv 1) pa_nil)) (blkOk_r (by rfl)) (fun _ _ _ _ _ => (pg_name (i := 3) sc__law_wants.nd rfl (Or.inl rfl))) (fun _ _ _ _ _ => pts_nil) (fun _ _ _ _ _ => (pe_g G__law_draw (hr.mono (by decide)) takes0 (pa_cons (pv 0) (pa_cons (pe_op (kAdd K) (pv 2) pe_int) pa_nil)))))) pss_nil), ?_⟩
  refine use_PR (Γ := fun (p0 : Addr) (x : Int × Int × Unit) => [.o (pool p0), .v (x.1 : Int), .v (x.2.1 : Int), .u]) h (fun p0 x => ⟨_, rfl, (.v (.v (.u .nil)))⟩) (fun _ _ => Nat.le_of_ble_eq_true rfl) (fun F p0 x => (s_retR (f := fun z => z) (r_lc1 (i := 3) (i_r1 (e_var 1 rfl)) rfl (fun night_1 => c_yes) (fun night_1 => (e_draw 0 rfl (e_op o_add (e_var 2 rfl) (e_int _))))) .nil (fun _ => rfl) (fun _ => (.same .nil)))) (fun p0 x n hw => ?_)
  obtain ⟨k, m, _⟩ := x
  dsimp only at *
  obtain ⟨h0, hN⟩ := hw
  exact ⟨by omega, by omega, sl_ok (by rw [rng_length]; omega), wlc_each (fun y => 0 ≤ y ∧ y ≤ m) (fun x _ N hN => ⟨fun _ => ⟨⟨by omega, by omega⟩, fun v v0 v1 => hN v ⟨v0, by omega⟩⟩, nofun⟩) fun ys hl hp => hN ys (by rw [hl, rng_length]) hp⟩
theorem fk__law_wants {w : World} {K : PySem.W.Frag} {mg : Str → Option Value} {base : Heap} (T : LC K mg) (G__law_draw : GFn PW w K mg base "_law_draw" 1 P__law_draw sp_draw) : ∃ fd, Binds K fd P__law_wants [] ∧ FnOk PW w K mg base (L2.CX PW w) 4 (He.ga K "_law_wants") fd P__law_wants (spPR K (arC (α := Int) (arC (α := Int) ar0)) (fun z : List Int => mu z) (fun p : Int × Int × Unit => W__law_wants p.1 p.2.1)) ∧ PySem.W.keepIn K (.ref (He.ga K "_law_wants")) = true := by
  obtain ⟨fd, F⟩ := F__law_wants T
  exact ⟨fd, (F.bindsN fun _ _ _ _ _ _ us hl => match us, hl with | [_, _, _], _ => rfl), fd__law_wants T G__law_draw F, F.kp⟩
theorem G__law_wants {w : World} {K : PySem.W.Frag} {mg : Str → Option Value} {base : Heap} (T : LC K mg) (G__law_draw : GFn PW w K mg base "_law_draw" 1 P__law_draw sp_draw) : GFn PW w K mg base "_law_wants" 4 P__law_wants (spPR K (arC (α := Int) (arC (α := Int) ar0)) (fun z : List Int => mu z) (fun p : Int × Int × Unit => W__law_wants p.1 p.2.1)) := by
  obtain ⟨fd, b, F, kp⟩ := fk__law_wants (w := w) (base := base) T G__law_draw
  exact ⟨_, fd, g__law_wants T, kp, b, F⟩

def W__law_comings (k m : Int) : Wp (List Int) := fun N _ => (0 ≤ k ∧ k ≤ 1000 ∧ 0 ≤ m ∧ m < 2 ^ 100) ∧ ∀ xs : List Int, xs.length = k.toNat → (∀ x ∈ xs, 1 ≤ x ∧ x ≤ m + 1) → N xs
theorem fd__law_comings {w : World} {K : PySem.W.Frag} {mg : Str → Option Value} {base : Heap} (T : LC K mg) (G__law_draw : GFn PW w K mg base "_law_draw" 1 P__law_draw sp_draw) {fd : FuncData} (F : FunD K "_law_comings" "_law_comings" (defArgs s__law_comings) (defBody s__law_comings) (defScope s__law_comings) [] [] (He.ga K "_law_comings") fd) : FnOk PW w K mg base (L2.CX PW w) 4 (He.ga K "_law_comings") fd P__law_comings (spPR K (arC (α := Int) (arC (α := Int) ar0)) (fun z : List Int => mu z) (fun p : Int × Int × Unit => W__law_comings p.1 p.2.1)) := by
  refine F.ok sc__law_comings (fun vs H Q E h => by obtain ⟨_, _, _, _, _, rfl, _, _, _, r, _⟩ := h; exact congrArg Nat.succ r.length) fun cdv A outer s H vs Q E hr h => ?_
  refine ⟨_, (pss_cons (ps_set (i := 3) sc__law_comings.nd rfl (Or.inl rfl) (pe_lst pa_nil))
      (pss_cons (ps_for (passes_of rfl) rfl (pi_range1 rfl (f_range T) (pa_cons (pv 1) pa_nil)) (pg_name (i := 4) sc__law_comings.nd rfl (Or.inl rfl)) (pss_cons (ps_set (i := 5) sc__law_comings.nd rfl (Or.inl rfl) pe_int)
      (pss_cons (ps_if (pt_cmpR (kEq K (hu65 hr)) (pe_g G__law_draw (hr.mono (by decide)) (takes_of rfl rfl rfl rfl) (pa_cons (pv 0) (pa_cons pe_int pa_nil))) pe_int (nomark _)) (pss_cons (ps_set (i := 5) sc__law_comings.nd rfl (Or.inl rfl) (pe_op (kAdd K) pe_int (pe_g G__law_draw (hr.mono (by decide)) (takes_of rfl rfl rfl rfl) (pa_cons (pv 0) (pa_cons (pe_op (kAdd K) (pv 2) pe_int) pa_nil)))))
      pss_nil) pss_nil)
      (pss_cons (ps_expr (kBm K PySem.F.plainAttrs_list PySem.F.slot_list_append PySem.F.type_list_append mt_append (pv 3) (pa_cons (pv 5) pa_nil)))
      pss_nil))))
      (pss_cons (ps_ret (pv 3)) pss_nil))), ?_⟩
  refine use_PR (Γ := fun (p0 : Addr) (x : Int × Int × Unit) => [.o (pool p0), .v (x.1 : Int), .v (x.2.1 : Int), .u, .u, .u]) h (fun p0 x => ⟨_, rfl, (.v (.v (.u (.u (.u .nil)))))⟩) (fun _ _ => Nat.le_of_ble_eq_true rfl) (fun F p0 x => (s_setR 3 (α := List Int) (r_lst a_nil) .nil (fun comings_1 => (s_for (eh := (fun s_2 : (List Int) × Unit => [.o (pool p0), .v (x.1 : Int), .v (x.2.1 : Int), .o (mu (s_2.1 : List Int)), .u, .u])) (comings_1, ()) (i_r1 (e_var 1 rfl)) .nil (show Wk [.o (pool p0), .v (x.1 : Int), .v (x.2.1 : Int), .o (mu (comings_1 : List Int)), .u, .u] [.o (pool p0), .v (x.1 : Int), .v (x.2.1 : Int), .o (mu (comings_1 : List Int)), .u, .u] from (.same (.same (.same (.same (.u (.u .nil))))))) (g_name 4) (fun person_3 s_2 => (s_set 5 (α := Int) (e_int _) .nil (fun night_4 => (s_if (e1 := (fun s_5 : (Int) × Unit => [.o (pool p0), .v (x.1 : Int), .v (x.2.1 : Int), .o (mu (s_2.1 : List Int)), .v (person_3 : Int), .v (s_5.1 : Int)])) (c_test (e_op o_eq (e_draw 0 rfl (e_int _)) (e_int _))) .nil (s_set 5 (α := Int) (e_op o_add (e_int _) (e_draw 0 rfl (e_op o_add (e_var 2 rfl) (e_int _)))) .nil (fun night_6 => (s_next (night_6, ()) (show Wk [.o (pool p0), .v (x.1 : Int), .v (x.2.1 : Int), .o (mu (s_2.1 : List Int)), .v (person_3 : Int), .v (night_6 : Int)] [.o (pool p0), .v (x.1 : Int), .v (x.2.1 : Int), .o (mu (s_2.1 : List Int)), .v (person_3 : Int), .v (night_6 : Int)] from (.same (.same (.same (.same (.same (.same .nil)))))))))) (s_next (night_4, ()) (show Wk [.o (pool p0), .v (x.1 : Int), .v (x.2.1 : Int), .o (mu (s_2.1 : List Int)), .v (person_3 : Int), .v (night_4 : Int)] [.o (pool p0), .v (x.1 : Int), .v (x.2.1 : Int), .o (mu (s_2.1 : List Int)), .v (person_3 : Int), .v (night_4 : Int)] from (.same (.same (.same (.same (.same (.same .nil)))))))) (fun s_5 => (s_append 3 (α := Int) rfl (e_var 5 rfl) .nil (fun x_7 => (s_next ((s_2.1 ++ [x_7]), ()) (show Wk [.o (pool p0), .v (x.1 : Int), .v (x.2.1 : Int), .o (mu ((s_2.1 ++ [x_7]) : List Int)), .v (person_3 : Int), .v (s_5.1 : Int)] [.o (pool p0), .v (x.1 : Int), .v (x.2.1 : Int), .o (mu ((s_2.1 ++ [x_7]) : List Int)), .u, .u] from (.same (.same (.same (.same (.u (.u .nil))))))))))))))) (fun s_2 => (s_retV 3 s_2.1 rfl (Nat.le_of_ble_eq_true rfl) rfl (.same .nil))))))) (fun p0 x n hw => ?_)
  obtain ⟨k, m, _⟩ := x
  dsimp only at *
  obtain ⟨h0, hN⟩ := hw
  refine ⟨sl_ok (by simp), by omega, by omega, wfor_inv (fun i s => s.1.length = i ∧ ∀ x ∈ s.1, 1 ≤ x ∧ x ≤ m + 1) ⟨rfl, by simp⟩ (fun i hi s N' hs hI => ?_) fun s hs => hN _ (by rw [hs.1, rng_length]) hs.2⟩
  obtain ⟨h1, h2⟩ := hs
  rw [rng_length] at hi
  have add : ∀ z : Int, 1 ≤ z → z ≤ m + 1 → N' (s.1 ++ [z], ()) := fun z z0 z1 => hI _ ⟨by simp [h1], fun x hx => by
    rcases List.mem_append.mp hx with q | q
    · exact h2 x q
    · rw [List.mem_singleton.mp q]; exact ⟨z0, z1⟩⟩
  exact ⟨⟨by decide, by decide⟩, fun v _ _ => ⟨fun _ => ⟨⟨by omega, by omega⟩, fun u u0 u1 => ⟨sl_lt (by omega), add _ (by omega) (by omega)⟩⟩, fun _ => ⟨sl_lt (by omega), add _ (by omega) (by omega)⟩⟩⟩
theorem fk__law_comings {w : World} {K : PySem.W.Frag} {mg : Str → Option Value} {base : Heap} (T : LC K mg) (G__law_draw : GFn PW w K mg base "_law_draw" 1 P__law_draw sp_draw) : ∃ fd, Binds K fd P__law_comings [] ∧ FnOk PW w K mg base (L2.CX PW w) 4 (He.ga K "_law_comings") fd P__law_comings (spPR K (arC (α := Int) (arC (α := Int) ar0)) (fun z : List Int => mu z) (fun p : Int × Int × Unit => W__law_comings p.1 p.2.1)) ∧ PySem.W.keepIn K (.ref (He.ga K "_law_comings")) = true := by
  obtain ⟨fd, F⟩ := F__law_comings T
  exact ⟨fd, (F.bindsN fun _ _ _ _ _ _ us hl => match us, hl with | [_, _, _], _ => rfl), fd__law_comings T G__law_draw F, F.kp⟩
theorem G__law_comings {w : World} {K : PySem.W.Frag} {mg : Str → Option Value} {base : Heap} (T : LC K mg) (G__law_draw : GFn PW w K mg base "_law_draw" 1 P__law_draw sp_draw) : GFn PW w K mg base "_law_comings" 4 P__law_comings (spPR K (arC (α := Int) (arC (α := Int) ar0)) (fun z : List Int => mu z) (fun p : Int × Int × Unit => W__law_comings p.1 p.2.1)) := by
  obtain ⟨fd, b, F, kp⟩ := fk__law_comings (w := w) (base := base) T G__law_draw
  exact ⟨_, fd, g__law_comings T, kp, b, F⟩

def W__law_first (ds ss : List Int) (g : Int) (ps : List Int) : Wp (List Int) := fun N _ => (0 ≤ g ∧ g ≤ 1000 ∧ ds.length ≤ 1000 ∧ ps.length ≤ 2000 ∧ ∀ p ∈ ps, 0 ≤ p ∧ p < ss.length) ∧ N (fcl (fun k => ds.getD k 0) (fun k => ((ps.filter fun p => decide (ss.getD p.toNat 0 ≤ k + 1)).length : Nat)) g.toNat ds.length)
theorem fd__law_first {w : World} {K : PySem.W.Frag} {mg : Str → Option Value} {base : Heap} (T : LC K mg) {fd : FuncData} (F : FunD K "_law_first" "_law_first" (defArgs s__law_first) (defBody s__law_first) (defScope s__law_first) [] [] (He.ga K "_law_first") fd) : FnOk PW w K mg base (L2.CX PW w) 4 (He.ga K "_law_first") fd P__law_first (spR K (arC (α := (List Int)) (arC (α := (List Int)) (arC (α := Int) (arC (α := (List Int)) ar0)))) (fun z : List Int => mu z) (fun p : (List Int) × (List Int) × Int × (List Int) × Unit => W__law_first p.1 p.2.1 p.2.2.1 p.2.2.2.1)) := by
  refine F.ok sc__law_first (fun vs H Q E h => by obtain ⟨_, _, _, _, _, r, _⟩ := h; exact r.length) fun cdv A outer s H vs Q E hr h => ?_
  refine ⟨_, (pss_cons (ps_set (i := 4) sc__law_first.nd rfl (Or.inl rfl) (pe_lst pa_nil))
      (pss_cons (ps_for (passes_of rfl) rfl (pi_range1 rfl (f_range T) (pa_cons (pe_callB (kLen K) (by rfl) (f_len T) PySem.boot_len (pa_cons (pv 0) pa_nil)) pa_nil)) (pg_name (i := 5) sc__law_first.nd rfl (Or.inr rfl)) (pss_cons (ps_set (i := 6) sc__law_first.nd rfl (Or.inl rfl) (pe_callB (kLen K) (by rfl) (f_len T) PySem.boot_len (pa_cons (pe_lc (own := [("person", 7)]) rfl sc__law_first.nd (kiList K (pv 3)) (blkOk_r (by rfl)) (fun _ _ _ _ _ => (pg_name (i := 7) sc__law_first.nd rfl (Or.inl rfl))) (fun _ _ _ _ _ => (pts_one (pt_cmpR op_le (pe_ix (kIx K) (pv 1) (pv 7) (fun _ _ => rfl)) (pe_op (kAdd K) (pv 5) pe_int) (nomark _)))) (fun _ _ _ _ _ => (pv 7))) pa_nil)))
      (pss_cons (ps_expr (kBm K PySem.F.plainAttrs_list PySem.F.slot_list_append PySem.F.type_list_append mt_append (pv 4) (pa_cons (pe_callB (cy_min2 rfl) (by rfl) (f_min T) (by decide +kernel) (pa_cons (pe_ix (kIx K) (pv 0) (pv 5) (fun _ _ => rfl)) (pa_cons (pe_op op_sub (pv 6) (pe_callB (kSum K rfl) (by rfl) (f_sum T) (by decide +kernel) (pa_cons (pe_slice (kSl K) (pv 4) (po_some (pe_callB (cy_max2 rfl) (by rfl) (f_max T) (by decide +kernel) (pa_cons pe_int (pa_cons (pe_op op_sub (pv 5) (pv 2)) pa_nil)))) (po_some (pv 5))) pa_nil))) pa_nil))) pa_nil)))
      pss_nil)))
      (pss_cons (ps_ret (pv 4)) pss_nil))), ?_⟩
  refine use_R (Γ := fun x : (List Int) × (List Int) × Int × (List Int) × Unit => [.v (x.1 : (List Int)), .v (x.2.1 : (List Int)), .v (x.2.2.1 : Int), .v (x.2.2.2.1 : (List Int)), .u, .u, .u, .u]) h (fun x => (.v (.v (.v (.v (.u (.u (.u (.u .nil))))))))) (fun _ => Nat.le_of_ble_eq_true rfl) (fun F x => (s_setR 4 (α := List Int) (r_lst a_nil) .nil (fun row_1 => (s_for (eh := (fun s_2 : (List Int) × Unit => [.v (x.1 : (List Int)), .v (x.2.1 : (List Int)), .v (x.2.2.1 : Int), .v (x.2.2.2.1 : (List Int)), .o (mu (s_2.1 : List Int)), .u, .u, .u])) (row_1, ()) (i_r1 (e_cb1 b_len (e_var 0 rfl))) .nil (show Wk [.v (x.1 : (List Int)), .v (x.2.1 : (List Int)), .v (x.2.2.1 : Int), .v (x.2.2.2.1 : (List Int)), .o (mu (row_1 : List Int)), .u, .u, .u] [.v (x.1 : (List Int)), .v (x.2.1 : (List Int)), .v (x.2.2.1 : Int), .v (x.2.2.2.1 : (List Int)), .o (mu (row_1 : List Int)), .u, .u, .u] from (.same (.same (.same (.same (.same (.u (.u (.u .nil))))))))) (g_name 5) (fun place_3 s_2 => (s_set 6 (α := Int) (e_cb1 b_len (e_frz (r_lc1 (i := 7) (i_list (e_var 3 rfl)) rfl (fun person_5 => (c_test (e_op o_cmp (e_op o_ix (e_var 1 rfl) (e_var 7 rfl)) (e_op o_add (e_var 5 rfl) (e_int _))))) (fun person_5 => (e_var 7 rfl))))) .nil (fun here_6 => (s_append 4 (α := Int) rfl (e_cb2 b_min2 (e_op o_ix (e_var 0 rfl) (e_var 5 rfl)) (e_op o_sub (e_var 6 rfl) (e_cb1 b_sum (e_frz (r_peek 4 rfl (Nat.le_of_ble_eq_true rfl) (r_sl (e_var 4 rfl) (p_some (e_cb2 b_max2 (e_int _) (e_op o_sub (e_var 5 rfl) (e_var 2 rfl)))) (p_some (e_var 5 rfl)))))))) .nil (fun x_7 => (s_next ((s_2.1 ++ [x_7]), ()) (show Wk [.v (x.1 : (List Int)), .v (x.2.1 : (List Int)), .v (x.2.2.1 : Int), .v (x.2.2.2.1 : (List Int)), .o (mu ((s_2.1 ++ [x_7]) : List Int)), .v (place_3 : Int), .v (here_6 : Int), .u] [.v (x.1 : (List Int)), .v (x.2.1 : (List Int)), .v (x.2.2.1 : Int), .v (x.2.2.2.1 : (List Int)), .o (mu ((s_2.1 ++ [x_7]) : List Int)), .u, .u, .u] from (.same (.same (.same (.same (.same (.u (.u (.u .nil))))))))))))))) (fun s_2 => (s_retV 4 s_2.1 rfl (Nat.le_of_ble_eq_true rfl) rfl .nil)))))) (fun x n e hw => ?_)
  obtain ⟨ds, ss, g, ps, _⟩ := x
  dsimp only at *
  obtain ⟨⟨g0, g1, hd, hp, hps⟩, hN⟩ := hw
  rw [toNat_coe]
  generalize hH : (fun k : Nat => (((ps.filter fun p => decide (ss.getD p.toNat 0 ≤ k + 1)).length : Nat) : Int)) = hr at hN
  generalize hW : (fun k : Nat => ds.getD k 0) = w at hN
  refine ⟨sl_ok (by simp), by omega, by omega, wfor_inv (fun i s => s.1 = fcl w hr g.toNat i) rfl (fun i hi s N' hs hI => ?_) fun s hs => by rw [hs, rng_length]; exact hN⟩
  rw [rng_get hi, rng_length] at *
  have hl := fcl_len w hr g.toNat i
  refine ⟨sl_ok (by omega), wlc_filter (fun p => decide (ss.getD p.toNat 0 ≤ i + 1)) (fun p => p) (fun p hp N h1 h2 => ?_) ?_⟩
  · have q := hps p hp
    refine ⟨ss.getD p.toNat 0, by rw [atI_nn q.1]; exact getD_at (by omega) 0, fun z => h1 ?_, fun z => h2 ?_⟩
    · simpa using z
    · simpa using z
  · refine ⟨ds.getD i 0, by rw [atI_nn (by omega)]; simpa using getD_at hi 0, sl_lt (by rw [hs, hl]; omega), hI _ ?_⟩
    show s.1 ++ _ = fcl w hr g.toNat (i + 1)
    rw [fcl, hs, cutL_mid (by omega) (by omega), List.take_of_length_le (by rw [hl]; omega), List.map_id', ← hW, ← hH]
    have e1 : (max 0 (0 + (i : Int) - g)).toNat = i - g.toNat := by omega
    rw [e1]
theorem fk__law_first {w : World} {K : PySem.W.Frag} {mg : Str → Option Value} {base : Heap} (T : LC K mg) : ∃ fd, Binds K fd P__law_first [] ∧ FnOk PW w K mg base (L2.CX PW w) 4 (He.ga K "_law_first") fd P__law_first (spR K (arC (α := (List Int)) (arC (α := (List Int)) (arC (α := Int) (arC (α := (List Int)) ar0)))) (fun z : List Int => mu z) (fun p : (List Int) × (List Int) × Int × (List Int) × Unit => W__law_first p.1 p.2.1 p.2.2.1 p.2.2.2.1)) ∧ PySem.W.keepIn K (.ref (He.ga K "_law_first")) = true := by
  obtain ⟨fd, F⟩ := F__law_first T
  exact ⟨fd, (F.bindsN fun _ _ _ _ _ _ us hl => match us, hl with | [_, _, _, _], _ => rfl), fd__law_first T  F, F.kp⟩
theorem G__law_first {w : World} {K : PySem.W.Frag} {mg : Str → Option Value} {base : Heap} (T : LC K mg) : GFn PW w K mg base "_law_first" 4 P__law_first (spR K (arC (α := (List Int)) (arC (α := (List Int)) (arC (α := Int) (arC (α := (List Int)) ar0)))) (fun z : List Int => mu z) (fun p : (List Int) × (List Int) × Int × (List Int) × Unit => W__law_first p.1 p.2.1 p.2.2.1 p.2.2.2.1)) := by
  obtain ⟨fd, b, F, kp⟩ := fk__law_first (w := w) (base := base) T 
  exact ⟨_, fd, g__law_first T, kp, b, F⟩

def W__law_int (d : PV) : Wp Bool := fun N _ => ∃ i, d = .int i ∧ N true
theorem fd__law_int {w : World} {K : PySem.W.Frag} {mg : Str → Option Value} {base : Heap} (T : LC K mg) {fd : FuncData} (F : FunD K "_law_int" "_law_int" (defArgs s__law_int) (defBody s__law_int) (defScope s__law_int) [] [] (He.ga K "_law_int") fd) : FnOk PW w K mg base (L2.CX PW w) 4 (He.ga K "_law_int") fd P__law_int (spF K (arC (α := PV) ar0) (fun p : PV × Unit => W__law_int p.1)) := by
  refine F.ok sc__law_int (fun vs H Q E h => by obtain ⟨_, _, _, _, _, r, _⟩ := h; exact r.length) fun cdv A outer s H vs Q E hr h => ?_
  refine ⟨_, (pss_cons (ps_ret (pe_and (pe_callB (kIsi K) (by rfl) (f_isinstance T) (by decide +kernel) (pa_cons (pv 0) (pa_cons (pe_bltn (u := .type "int") (v := .ty "int") (by rfl) (f_int T) (by decide +kernel) rfl) pa_nil))) (pe_one (pe_not (pe_callB (kIsi K) (by rfl) (f_isinstance T) (by decide +kernel) (pa_cons (pv 0) (pa_cons (pe_bltn (u := .type "bool") (v := .ty "bool") (by rfl) (f_bool T) (by decide +kernel) rfl) pa_nil))))))) pss_nil), ?_⟩
  refine use_F (Γ := fun x : PV × Unit => [.v (x.1 : PV)]) (fun _ => False) (fun _ z => z.elim) h (fun x => (.v .nil)) (fun _ => Nat.le_of_ble_eq_true rfl) (fun F x => (s_ret (f := fun z => z) (e_andV (e_isiD "int" (e_var 0 rfl)) (e_notV (e_isiD "bool" (e_var 0 rfl)))) .nil (fun _ => rfl) (fun _ => .nil))) (fun x n e hw => ?_)
  obtain ⟨d, _⟩ := x
  dsimp only at *
  obtain ⟨i, rfl, hw⟩ := hw
  exact ⟨_, rfl, fun _ => ⟨_, rfl, hw⟩, nofun⟩
theorem fk__law_int {w : World} {K : PySem.W.Frag} {mg : Str → Option Value} {base : Heap} (T : LC K mg) : ∃ fd, Binds K fd P__law_int [] ∧ FnOk PW w K mg base (L2.CX PW w) 4 (He.ga K "_law_int") fd P__law_int (spF K (arC (α := PV) ar0) (fun p : PV × Unit => W__law_int p.1)) ∧ PySem.W.keepIn K (.ref (He.ga K "_law_int")) = true := by
  obtain ⟨fd, F⟩ := F__law_int T
  exact ⟨fd, (F.bindsN fun _ _ _ _ _ _ us hl => match us, hl with | [_], _ => rfl), fd__law_int T  F, F.kp⟩
theorem G__law_int {w : World} {K : PySem.W.Frag} {mg : Str → Option Value} {base : Heap} (T : LC K mg) : GFn PW w K mg base "_law_int" 4 P__law_int (spF K (arC (α := PV) ar0) (fun p : PV × Unit => W__law_int p.1)) := by
  obtain ⟨fd, b, F, kp⟩ := fk__law_int (w := w) (base := base) T 
  exact ⟨_, fd, g__law_int T, kp, b, F⟩

def W__law_same (n : Nat) (g d : PV) : Wp Bool := fun N _ => g = d ∧ d.okN n ∧ N true
theorem fd__law_same {dn lv : Nat} {w : World} {K : PySem.W.Frag} {mg : Str → Option Value} {base : Heap} (T : LC K mg) (G__law_int : GFn PW w K mg base "_law_int" 4 P__law_int (spF K (arC (α := PV) ar0) (fun p : PV × Unit => W__law_int p.1))) (h5 : 5 ≤ lv) (G__law_same : GFn PW w K mg base "_law_same" lv P__law_same (spF K (arC (α := PV) (arC (α := PV) ar0)) (fun p : PV × PV × Unit =>  W__law_same dn p.1 p.2.1))) {fd : FuncData} (F : FunD K "_law_same" "_law_same" (defArgs s__law_same) (defBody s__law_same) (defScope s__law_same) [] [] (He.ga K "_law_same") fd) : FnOk PW w K mg base (L2.CX PW w) (lv + 1) (He.ga K "_law_same") fd P__law_same (spF K (arC (α := PV) (arC (α := PV) ar0)) (fun p : PV × PV × Unit =>  W__law_same (dn + 1) p.1 p.2.1)) := by
  refine F.ok sc__law_same (fun vs H Q E h => by obtain ⟨_, _, _, _, _, r, _⟩ := h; exact r.length) fun cdv A outer s H vs Q E hr h => ?_
  refine ⟨_, (pss_cons (ps_if (pt_cmpR op_isN (pv 1) pe_non (nomark _)) (pss_cons (ps_ret (pe_cmpR op_isN (pv 0) pe_non (nomark _))) pss_nil) pss_nil)
      (pss_cons (ps_if (pt_cmpR op_isBD (pv 1) pe_bl (nomark _)) (pss_cons (ps_ret (pe_cmpR op_isBD (pv 0) pe_bl (nomark _))) pss_nil) pss_nil)
      (pss_cons (ps_if (pt_cmpR op_isBD (pv 1) pe_bl (nomark _)) (pss_cons (ps_ret (pe_cmpR op_isBD (pv 0) pe_bl (nomark _))) pss_nil) pss_nil)
      (pss_cons (ps_if (pt_val (pe_callB (kIsi K) (by rfl) (f_isinstance T) (by decide +kernel) (pa_cons (pv 1) (pa_cons (pe_bltn (u := .type "int") (v := .ty "int") (by rfl) (f_int T) (by decide +kernel) rfl) pa_nil)))) (pss_cons (ps_ret (pe_and (pe_g G__law_int (hr.mono (by omega)) (takes_of rfl rfl rfl rfl) (pa_cons (pv 0) pa_nil)) (pe_one (pe_cmpR (kEq K (hu65 hr)) (pv 0) (pv 1) (nomark _))))) pss_nil) pss_nil)
      (pss_cons (ps_if (pt_val (pe_callB (kIsi K) (by rfl) (f_isinstance T) (by decide +kernel) (pa_cons (pv 1) (pa_cons (pe_bltn (u := .type "str") (v := .ty "str") (by rfl) (f_str T) (by decide +kernel) rfl) pa_nil)))) (pss_cons (ps_ret (pe_and (pe_callB (kIsi K) (by rfl) (f_isinstance T) (by decide +kernel) (pa_cons (pv 0) (pa_cons (pe_bltn (u := .type "str") (v := .ty "str") (by rfl) (f_str T) (by decide +kernel) rfl) pa_nil))) (pe_one (pe_cmpR (kEq K (hu65 hr)) (pv 0) (pv 1) (nomark _))))) pss_nil) pss_nil)
      (pss_cons (ps_if (pt_val (pe_callB (kIsi K) (by rfl) (f_isinstance T) (by decide +kernel) (pa_cons (pv 1) (pa_cons (pe_bltn (u := .type "tuple") (v := .ty "tuple") (by rfl) (f_tuple T) (by decide +kernel) rfl) pa_nil)))) (pss_cons (ps_if (PW.pt (pw_or (pt_not (pt_val (pe_callB (kIsi K) (by rfl) (f_isinstance T) (by decide +kernel) (pa_cons (pv 0) (pa_cons (pe_bltn (u := .type "tuple") (v := .ty "tuple") (by rfl) (f_tuple T) (by decide +kernel) rfl) pa_nil))))) (pw_or1 (pt_cmpR (kNe K (hu65 hr)) (pe_callB (kLen K) (by rfl) (f_len T) PySem.boot_len (pa_cons (pv 0) pa_nil)) (pe_callB (kLen K) (by rfl) (f_len T) PySem.boot_len (pa_cons (pv 1) pa_nil)) (nomark _))))) (pss_cons (ps_ret pe_bl) pss_nil) pss_nil) pss_nil) (pss_cons (ps_if (PW.pt (pw_or (pt_not (pt_val (pe_callB (kIsi K) (by rfl) (f_isinstance T) (by decide +kernel) (pa_cons (pv 0) (pa_cons (pe_bltn (u := .type "list") (v := .ty "list") (by rfl) (f_list T) (by decide +kernel) rfl) pa_nil))))) (pw_or1 (pt_cmpR (kNe K (hu65 hr)) (pe_callB (kLen K) (by rfl) (f_len T) PySem.boot_len (pa_cons (pv 0) pa_nil)) (pe_callB (kLen K) (by rfl) (f_len T) PySem.boot_len (pa_cons (pv 1) pa_nil)) (nomark _))))) (pss_cons (ps_ret pe_bl) pss_nil) pss_nil) pss_nil))
      (pss_cons (ps_for (passes_of rfl) rfl (pi_range1 rfl (f_range T) (pa_cons (pe_callB (kLen K) (by rfl) (f_len T) PySem.boot_len (pa_cons (pv 1) pa_nil)) pa_nil)) (pg_name (i := 2) sc__law_same.nd rfl (Or.inl rfl)) (pss_cons (ps_if (pt_not (pt_val (pe_g G__law_same (hr.mono (Nat.le_refl _)) (takes_of rfl rfl rfl rfl) (pa_cons (pe_ix (kIx K) (pv 0) (pv 2) (fun _ _ => rfl)) (pa_cons (pe_ix (kIx K) (pv 1) (pv 2) (fun _ _ => rfl)) pa_nil))))) (pss_cons (ps_ret pe_bl) pss_nil) pss_nil) pss_nil))
      (pss_cons (ps_ret pe_bl) pss_nil)))))))), ?_⟩
  refine use_F (Γ := fun x : PV × PV × Unit => [.v (x.1 : PV), .v (x.2.1 : PV), .u]) (fun _ => False) (fun _ z => z.elim) h (fun x => (.v (.v (.u .nil)))) (fun _ => Nat.le_of_ble_eq_true rfl) (fun F x => (s_if (e1 := (fun _ : Unit => [.v (x.1 : PV), .v (x.2.1 : PV), .u])) (c_test (e_op (o_isND rfl) (e_var 1 rfl) e_non)) .nil (s_ret (f := fun z => z) (e_op (o_isND rfl) (e_var 0 rfl) e_non) .nil (fun _ => rfl) (fun _ => .nil)) (s_next () (show Wk [.v (x.1 : PV), .v (x.2.1 : PV), .u] [.v (x.1 : PV), .v (x.2.1 : PV), .u] from (.same (.same (.u .nil))))) (fun _ => (s_if (e1 := (fun _ : Unit => [.v (x.1 : PV), .v (x.2.1 : PV), .u])) (c_test (e_op o_isBD (e_var 1 rfl) (e_bl _))) .nil (s_ret (f := fun z => z) (e_op o_isBD (e_var 0 rfl) (e_bl _)) .nil (fun _ => rfl) (fun _ => .nil)) (s_next () (show Wk [.v (x.1 : PV), .v (x.2.1 : PV), .u] [.v (x.1 : PV), .v (x.2.1 : PV), .u] from (.same (.same (.u .nil))))) (fun _ => (s_if (e1 := (fun _ : Unit => [.v (x.1 : PV), .v (x.2.1 : PV), .u])) (c_test (e_op o_isBD (e_var 1 rfl) (e_bl _))) .nil (s_ret (f := fun z => z) (e_op o_isBD (e_var 0 rfl) (e_bl _)) .nil (fun _ => rfl) (fun _ => .nil)) (s_next () (show Wk [.v (x.1 : PV), .v (x.2.1 : PV), .u] [.v (x.1 : PV), .v (x.2.1 : PV), .u] from (.same (.same (.u .nil))))) (fun _ => (s_if (e1 := (fun _ : Unit => [.v (x.1 : PV), .v (x.2.1 : PV), .u])) (c_val (e_isiD "int" (e_var 1 rfl))) .nil (s_ret (f := fun z => z) (e_andV (e_call (t_cons (e_var 0 rfl) t_nil)) (e_op o_eqD (e_var 0 rfl) (e_var 1 rfl))) .nil (fun _ => rfl) (fun _ => .nil)) (s_next () (show Wk [.v (x.1 : PV), .v (x.2.1 : PV), .u] [.v (x.1 : PV), .v (x.2.1 : PV), .u] from (.same (.same (.u .nil))))) (fun _ => (s_if (e1 := (fun _ : Unit => [.v (x.1 : PV), .v (x.2.1 : PV), .u])) (c_val (e_isiD "str" (e_var 1 rfl))) .nil (s_ret (f := fun z => z) (e_andV (e_isiD "str" (e_var 0 rfl)) (e_op o_eqD (e_var 0 rfl) (e_var 1 rfl))) .nil (fun _ => rfl) (fun _ => .nil)) (s_next () (show Wk [.v (x.1 : PV), .v (x.2.1 : PV), .u] [.v (x.1 : PV), .v (x.2.1 : PV), .u] from (.same (.same (.u .nil))))) (fun _ => (s_if (e1 := (fun s_6 : Unit => [.v (x.1 : PV), .v (x.2.1 : PV), .u])) (c_val (e_isiD "tuple" (e_var 1 rfl))) .nil (s_if0 (c_or (c_not (c_val (e_isiD "tuple" (e_var 0 rfl)))) (c_test (e_op o_ne (e_cb1 b_lenD (e_var 0 rfl)) (e_cb1 b_lenD (e_var 1 rfl))))) .nil (s_ret (f := fun z => z) (e_bl _) .nil (fun _ => rfl) (fun _ => .nil)) (s_next (()) (show Wk [.v (x.1 : PV), .v (x.2.1 : PV), .u] [.v (x.1 : PV), .v (x.2.1 : PV), .u] from (.same (.same (.u .nil)))))) (s_if0 (c_or (c_not (c_val (e_isiD "list" (e_var 0 rfl)))) (c_test (e_op o_ne (e_cb1 b_lenD (e_var 0 rfl)) (e_cb1 b_lenD (e_var 1 rfl))))) .nil (s_ret (f := fun z => z) (e_bl _) .nil (fun _ => rfl) (fun _ => .nil)) (s_next (()) (show Wk [.v (x.1 : PV), .v (x.2.1 : PV), .u] [.v (x.1 : PV), .v (x.2.1 : PV), .u] from (.same (.same (.u .nil)))))) (fun s_6 => (s_for (eh := (fun s_7 : Unit => [.v (x.1 : PV), .v (x.2.1 : PV), .u])) (()) (i_r1 (e_cb1 b_lenD (e_var 1 rfl))) .nil (show Wk [.v (x.1 : PV), .v (x.2.1 : PV), .u] [.v (x.1 : PV), .v (x.2.1 : PV), .u] from (.same (.same (.u .nil)))) (g_name 2) (fun place_8 s_7 => (s_if0 (c_not (c_val (e_call (t_cons (e_op o_ixD (e_var 0 rfl) (e_var 2 rfl)) (t_cons (e_op o_ixD (e_var 1 rfl) (e_var 2 rfl)) t_nil))))) .nil (s_ret (f := fun z => z) (e_bl _) .nil (fun _ => rfl) (fun _ => .nil)) (s_next (()) (show Wk [.v (x.1 : PV), .v (x.2.1 : PV), .v (place_8 : Int)] [.v (x.1 : PV), .v (x.2.1 : PV), .u] from (.same (.same (.u .nil))))))) (fun s_7 => (s_ret (f := fun z => z) (e_bl _) .nil (fun _ => rfl) (fun _ => .nil))))))))))))))))) (fun x n e hw => ?_)
  obtain ⟨g, d, _⟩ := x
  dsimp only at *
  obtain ⟨rfl, hd, hN⟩ := hw
  have no : ∀ {p : Prop} {x : Bool}, x = true → x = false → p := fun h k => by rw [h] at k; cases k
  have loop : ∀ (l : List PV), l.length ≤ 1000000 → (∀ x ∈ l, x.okN dn) → wfor (rng 0 ((l.length : Nat) : Int).toNat) () (fun p _ N B C Rt E => ∃ x, atI l p = some x ∧ ∃ y, atI l p = some y ∧ W__law_same dn x y (fun b => ((!b) = true → Rt false) ∧ ((!b) = false → N ())) E) (fun _ => n true) n e := fun l hl h => by
    rw [toNat_coe]
    refine wfor_inv (fun _ _ => True) True.intro (fun i hi s N' _ hI => ?_) fun _ _ => hN
    rw [rng_get hi]
    rw [rng_length] at hi
    have q : atI l (0 + (i : Int)) = some l[i] := by rw [atI_nn (by omega)]; simp [hi]
    exact ⟨_, q, _, q, rfl, h _ (List.getElem_mem hi), nofun, fun _ => hI _ True.intro⟩
  cases g with
  | non => exact ⟨fun _ => hN, nofun⟩
  | bl b => cases b <;> simp [PV.isNon, PV.isB, hN]
  | int i => exact ⟨nofun, fun _ => ⟨nofun, fun _ => ⟨nofun, fun _ => ⟨_, rfl, fun _ => ⟨i, rfl, fun _ => .inl ⟨i, i, rfl, rfl, by simpa using hN⟩, nofun⟩, fun z => no (by decide) z⟩⟩⟩⟩
  | str i => exact ⟨nofun, fun _ => ⟨nofun, fun _ => ⟨nofun, fun _ => ⟨_, rfl, fun z => no z (by decide), fun _ => ⟨_, rfl, fun _ => ⟨_, rfl, fun _ => .inr ⟨i, i, rfl, rfl, by simpa using hN⟩, fun z => no (by decide) z⟩, fun z => no (by decide) z⟩⟩⟩⟩⟩
  | obj => exact hd.elim
  | tup l =>
    obtain ⟨hl, hx⟩ := hd
    refine ⟨nofun, fun _ => ⟨nofun, fun _ => ⟨nofun, fun _ => ⟨_, rfl, fun z => no z (by decide), fun _ => ⟨_, rfl, fun z => no z (by decide), fun _ => ⟨_, rfl, fun _ => ⟨_, rfl, fun z => no z (by decide), fun _ => ?_⟩, fun z => no (by decide) z⟩⟩⟩⟩⟩⟩
    exact ⟨_, rfl, _, rfl, fun z => by simp at z, fun _ => ⟨_, rfl, by omega, by omega, loop l hl hx⟩⟩
  | lst l =>
    obtain ⟨hl, hx⟩ := hd
    refine ⟨nofun, fun _ => ⟨nofun, fun _ => ⟨nofun, fun _ => ⟨_, rfl, fun z => no z (by decide), fun _ => ⟨_, rfl, fun z => no z (by decide), fun _ => ⟨_, rfl, fun z => no z (by decide), fun _ => ⟨_, rfl, fun z => no z (by decide), fun _ => ?_⟩⟩⟩⟩⟩⟩⟩
    exact ⟨_, rfl, _, rfl, fun z => by simp at z, fun _ => ⟨_, rfl, by omega, by omega, loop l hl hx⟩⟩
theorem Gn__law_same {w : World} {K : PySem.W.Frag} {mg : Str → Option Value} {base : Heap} (T : LC K mg) (G__law_int : GFn PW w K mg base "_law_int" 4 P__law_int (spF K (arC (α := PV) ar0) (fun p : PV × Unit => W__law_int p.1))) : ∀ n, GFn PW w K mg base "_law_same" (5 + n) P__law_same (spF K (arC (α := PV) (arC (α := PV) ar0)) (fun p : PV × PV × Unit =>  W__law_same n p.1 p.2.1))
  | 0 => by
    obtain ⟨fd, F⟩ := F__law_same T
    exact ⟨_, fd, g__law_same T, F.kp, (F.bindsN fun _ _ _ _ _ _ us hl => match us, hl with | [_, _], _ => rfl), F.ok sc__law_same (fun vs H Q E h => by obtain ⟨_, _, _, _, _, r, _⟩ := h; exact r.length) fun cdv A outer s H vs Q E hr h => False.elim (by obtain ⟨_, _, _, _, _, _, hw, _⟩ := h; exact hw.2.1.elim)⟩
  | n + 1 => by
    obtain ⟨fd, F⟩ := F__law_same T
    exact ⟨_, fd, g__law_same T, F.kp, (F.bindsN fun _ _ _ _ _ _ us hl => match us, hl with | [_, _], _ => rfl), fd__law_same T G__law_int (by omega) (Gn__law_same T G__law_int n) F⟩
theorem G__law_same {w : World} {K : PySem.W.Frag} {mg : Str → Option Value} {base : Heap} (T : LC K mg) (G__law_int : GFn PW w K mg base "_law_int" 4 P__law_int (spF K (arC (α := PV) ar0) (fun p : PV × Unit => W__law_int p.1))) : GFn PW w K mg base "_law_same" 9 P__law_same (spF K (arC (α := PV) (arC (α := PV) ar0)) (fun p : PV × PV × Unit =>  W__law_same 4 p.1 p.2.1)) := Gn__law_same T G__law_int 4

def W__law_rows (k : Int) (cs : List Int) (g q : Int) : Wp (List (List Int)) := fun N _ => (0 ≤ k ∧ k ≤ 1000 ∧ cs.length ≤ 1000 ∧ 0 ≤ g ∧ 0 < q ∧ q < 1000) ∧ ∀ rows : List (List Int), rows.length = k.toNat → Fits cs g rows → N rows
theorem fd__law_rows {w : World} {K : PySem.W.Frag} {mg : Str → Option Value} {base : Heap} (T : LC K mg) (G__law_draw : GFn PW w K mg base "_law_draw" 1 P__law_draw sp_draw) {fd : FuncData} (F : FunD K "_law_rows" "_law_rows" (defArgs s__law_rows) (defBody s__law_rows) (defScope s__law_rows) [] [] (He.ga K "_law_rows") fd) : FnOk PW w K mg base (L2.CX PW w) 4 (He.ga K "_law_rows") fd P__law_rows (spPR K (arC (α := Int) (arC (α := (List Int)) (arC (α := Int) (arC (α := Int) ar0)))) (fun z : List (List Int) => mu z) (fun p : Int × (List Int) × Int × Int × Unit => W__law_rows p.1 p.2.1 p.2.2.1 p.2.2.2.1)) := by
  refine F.ok sc__law_rows (fun vs H Q E h => by obtain ⟨_, _, _, _, _, rfl, _, _, _, r, _⟩ := h; exact congrArg Nat.succ r.length) fun cdv A outer s H vs Q E hr h => ?_
  refine ⟨_, (pss_cons (ps_set (i := 5) sc__law_rows.nd rfl (Or.inl rfl) (pe_lst pa_nil))
      (pss_cons (ps_set (i := 6) sc__law_rows.nd rfl (Or.inl rfl) (pe_callTy (kList K) (by rfl) (f_list T) (by decide +kernel) (pa_cons (pv 2) pa_nil)))
      (pss_cons (ps_for (passes_of rfl) rfl (pi_range2 rfl (f_range T) (pa_cons pe_int (pa_cons (pe_op (kAdd K) (pv 1) pe_int) pa_nil))) (pg_name (i := 7) sc__law_rows.nd rfl (Or.inl rfl)) (pss_cons (ps_set (i := 8) sc__law_rows.nd rfl (Or.inl rfl) (pe_lst pa_nil))
      (pss_cons (ps_for (passes_of rfl) rfl (pi_range1 rfl (f_range T) (pa_cons (pe_callB (kLen K) (by rfl) (f_len T) PySem.boot_len (pa_cons (pv 2) pa_nil)) pa_nil)) (pg_name (i := 9) sc__law_rows.nd rfl (Or.inl rfl)) (pss_cons (ps_if (PW.pt (pw_and (pt_cmpR op_le (pe_ix (kIx K) (pv 6) (pv 9) (fun _ _ => rfl)) (pv 7) (nomark _)) (pw_and1 (pt_cmpR (kNe K (hu65 hr)) (pe_g G__law_draw (hr.mono (by decide)) (takes_of rfl rfl rfl rfl) (pa_cons (pv 0) (pa_cons (pv 4) pa_nil))) pe_int (nomark _))))) (pss_cons (ps_expr (kBm K PySem.F.plainAttrs_list PySem.F.slot_list_append PySem.F.type_list_append mt_append (pv 8) (pa_cons (pv 9) pa_nil)))
      (pss_cons (ps_asg (pe_op (kAdd K) (pe_op (kAdd K) (pv 7) (pv 3)) pe_int) (pg_sub (pv 6) (pv 9) set_list))
      pss_nil)) pss_nil) pss_nil))
      (pss_cons (ps_expr (kBm K PySem.F.plainAttrs_list PySem.F.slot_list_append PySem.F.type_list_append mt_append (pv 5) (pa_cons (pv 8) pa_nil)))
      pss_nil))))
      (pss_cons (ps_ret (pv 5)) pss_nil)))), ?_⟩
  refine use_PR (Γ := fun (p0 : Addr) (x : Int × (List Int) × Int × Int × Unit) => [.o (pool p0), .v (x.1 : Int), .v (x.2.1 : (List Int)), .v (x.2.2.1 : Int), .v (x.2.2.2.1 : Int), .u, .u, .u, .u, .u]) h (fun p0 x => ⟨_, rfl, (.v (.v (.v (.v (.u (.u (.u (.u (.u .nil)))))))))⟩) (fun _ _ => Nat.le_of_ble_eq_true rfl) (fun F p0 x => (s_setR 5 (α := List (List Int)) (r_lst a_nil) .nil (fun rows_1 => (s_setR 6 (α := List Int) (r_list (e_var 2 rfl)) .nil (fun again_2 => (s_for (eh := (fun s_3 : (List Int) × (List (List Int)) × Unit => [.o (pool p0), .v (x.1 : Int), .v (x.2.1 : (List Int)), .v (x.2.2.1 : Int), .v (x.2.2.2.1 : Int), .o (mu (s_3.2.1 : List (List Int))), .o (mu (s_3.1 : List Int)), .u, .u, .u])) (again_2, rows_1, ()) (i_r2 (e_int _) (e_op o_add (e_var 1 rfl) (e_int _))) .nil (show Wk [.o (pool p0), .v (x.1 : Int), .v (x.2.1 : (List Int)), .v (x.2.2.1 : Int), .v (x.2.2.2.1 : Int), .o (mu (rows_1 : List (List Int))), .o (mu (again_2 : List Int)), .u, .u, .u] [.o (pool p0), .v (x.1 : Int), .v (x.2.1 : (List Int)), .v (x.2.2.1 : Int), .v (x.2.2.2.1 : Int), .o (mu (rows_1 : List (List Int))), .o (mu (again_2 : List Int)), .u, .u, .u] from (.same (.same (.same (.same (.same (.same (.same (.u (.u (.u .nil))))))))))) (g_name 7) (fun night_4 s_3 => (s_setR 8 (α := List Int) (r_lst a_nil) .nil (fun row_5 => (s_for (eh := (fun s_6 : (List Int) × (List Int) × Unit => [.o (pool p0), .v (x.1 : Int), .v (x.2.1 : (List Int)), .v (x.2.2.1 : Int), .v (x.2.2.2.1 : Int), .o (mu (s_3.2.1 : List (List Int))), .o (mu (s_6.2.1 : List Int)), .v (night_4 : Int), .o (mu (s_6.1 : List Int)), .u])) (row_5, s_3.1, ()) (i_r1 (e_cb1 b_len (e_var 2 rfl))) .nil (show Wk [.o (pool p0), .v (x.1 : Int), .v (x.2.1 : (List Int)), .v (x.2.2.1 : Int), .v (x.2.2.2.1 : Int), .o (mu (s_3.2.1 : List (List Int))), .o (mu (s_3.1 : List Int)), .v (night_4 : Int), .o (mu (row_5 : List Int)), .u] [.o (pool p0), .v (x.1 : Int), .v (x.2.1 : (List Int)), .v (x.2.2.1 : Int), .v (x.2.2.2.1 : Int), .o (mu (s_3.2.1 : List (List Int))), .o (mu (s_3.1 : List Int)), .v (night_4 : Int), .o (mu (row_5 : List Int)), .u] from (.same (.same (.same (.same (.same (.same (.same (.same (.same (.u .nil))))))))))) (g_name 9) (fun person_7 s_6 => (s_if0 (c_and (c_test (e_op o_cmp (e_peek 6 rfl (Nat.le_of_ble_eq_true rfl) (e_op o_ix (e_var 6 rfl) (e_var 9 rfl))) (e_var 7 rfl))) (c_test (e_op o_ne (e_draw 0 rfl (e_var 4 rfl)) (e_int _)))) .nil (s_append 8 (α := Int) rfl (e_var 9 rfl) .nil (fun x_8 => (s_setix 6 rfl (e_op o_add (e_op o_add (e_var 7 rfl) (e_var 3 rfl)) (e_int _)) (e_var 9 rfl) .nil (fun j_10 again_9 => (s_next ((s_6.1 ++ [x_8]), (List.set s_6.2.1 j_10 again_9), ()) (show Wk [.o (pool p0), .v (x.1 : Int), .v (x.2.1 : (List Int)), .v (x.2.2.1 : Int), .v (x.2.2.2.1 : Int), .o (mu (s_3.2.1 : List (List Int))), .o (mu ((List.set s_6.2.1 j_10 again_9) : List Int)), .v (night_4 : Int), .o (mu ((s_6.1 ++ [x_8]) : List Int)), .v (person_7 : Int)] [.o (pool p0), .v (x.1 : Int), .v (x.2.1 : (List Int)), .v (x.2.2.1 : Int), .v (x.2.2.2.1 : Int), .o (mu (s_3.2.1 : List (List Int))), .o (mu ((List.set s_6.2.1 j_10 again_9) : List Int)), .v (night_4 : Int), .o (mu ((s_6.1 ++ [x_8]) : List Int)), .u] from (.same (.same (.same (.same (.same (.same (.same (.same (.same (.u .nil)))))))))))))))) (s_next (s_6.1, s_6.2.1, ()) (show Wk [.o (pool p0), .v (x.1 : Int), .v (x.2.1 : (List Int)), .v (x.2.2.1 : Int), .v (x.2.2.2.1 : Int), .o (mu (s_3.2.1 : List (List Int))), .o (mu (s_6.2.1 : List Int)), .v (night_4 : Int), .o (mu (s_6.1 : List Int)), .v (person_7 : Int)] [.o (pool p0), .v (x.1 : Int), .v (x.2.1 : (List Int)), .v (x.2.2.1 : Int), .v (x.2.2.2.1 : Int), .o (mu (s_3.2.1 : List (List Int))), .o (mu (s_6.2.1 : List Int)), .v (night_4 : Int), .o (mu (s_6.1 : List Int)), .u] from (.same (.same (.same (.same (.same (.same (.same (.same (.same (.u .nil)))))))))))))) (fun s_6 => (s_frz 8 rfl (Nat.le_of_ble_eq_true rfl) (s_append 5 (α := (List Int)) rfl (e_var 8 rfl) .nil (fun x_11 => (s_next (s_6.2.1, (s_3.2.1 ++ [x_11]), ()) (show Wk [.o (pool p0), .v (x.1 : Int), .v (x.2.1 : (List Int)), .v (x.2.2.1 : Int), .v (x.2.2.2.1 : Int), .o (mu ((s_3.2.1 ++ [x_11]) : List (List Int))), .o (mu (s_6.2.1 : List Int)), .v (night_4 : Int), .v (s_6.1 : (List Int)), .u] [.o (pool p0), .v (x.1 : Int), .v (x.2.1 : (List Int)), .v (x.2.2.1 : Int), .v (x.2.2.2.1 : Int), .o (mu ((s_3.2.1 ++ [x_11]) : List (List Int))), .o (mu (s_6.2.1 : List Int)), .u, .u, .u] from (.same (.same (.same (.same (.same (.same (.same (.u (.u (.u .nil)))))))))))))))))))) (fun s_3 => (s_retV 5 s_3.2.1 rfl (Nat.le_of_ble_eq_true rfl) rfl (.same .nil))))))))) (fun p0 x n hw => ?_)
  obtain ⟨k, cs, g, q, _⟩ := x
  dsimp only at *
  obtain ⟨⟨k0, k1, hc, g0, q0, q1⟩, hN⟩ := hw
  refine ⟨sl_ok (by simp), ⟨by omega, by omega, by omega, by omega⟩, ?_⟩
  have e0 : (k + 1 - 1).toNat = k.toNat := by omega
  rw [e0]
  refine wfor_inv (fun i s => s.1.length = cs.length ∧ s.2.1.length = i ∧ (∀ u : Nat, cs.getD u 0 ≤ s.1.getD u 0) ∧ Fits cs g s.2.1 ∧ ∀ (u t : Nat), (u : Int) ∈ s.2.1.getD t [] → (t : Int) + g + 2 ≤ s.1.getD u 0) ⟨rfl, rfl, fun _ => Int.le_refl _, fun t => ⟨by simp, by simp, by simp⟩, fun u t h => by simp at h⟩ (fun i hi s N' hs hI => ?_) fun s hs => hN _ (by rw [hs.2.1, rng_length]) hs.2.2.2.1
  obtain ⟨a1, a2, a3, a4, a5⟩ := hs
  rw [rng_get hi, toNat_coe]
  rw [rng_length] at hi
  refine ⟨sl_ok (by simp), by omega, by omega, wfor_inv (fun j z => z.2.1.length = cs.length ∧ z.1.Nodup ∧ z.1.length ≤ j ∧ (∀ p ∈ z.1, 0 ≤ p ∧ p < j ∧ s.1.getD p.toNat 0 ≤ 1 + i) ∧ (∀ u : Nat, s.1.getD u 0 ≤ z.2.1.getD u 0) ∧ (∀ p ∈ z.1, z.2.1.getD p.toNat 0 = 1 + i + g + 1) ∧ ∀ u : Nat, j ≤ u → z.2.1.getD u 0 = s.1.getD u 0)
    ⟨a1, by simp, by simp, by simp, fun _ => Int.le_refl _, by simp, fun _ _ => rfl⟩ (fun j hj z N2 hz hJ => ?_) fun z hz => ?_⟩
  · obtain ⟨b1, b2, b3, b4, b5, b6, b7⟩ := hz
    rw [rng_get hj]
    rw [rng_length] at hj
    have hx : atI z.2.1 (0 + (j : Int)) = some (s.1.getD j 0) := by
      rw [atI_nn (by omega), ← b7 j (Nat.le_refl j)]
      have := getD_at (xs := z.2.1) (k := j) (by omega) 0
      simpa using this
    have skip : N2 (z.1, z.2.1, ()) := hJ _ ⟨b1, b2, Nat.le_succ_of_le b3, fun p hp => ⟨(b4 p hp).1, by have := (b4 p hp).2.1; omega, (b4 p hp).2.2⟩, b5, b6, fun u hu => b7 u (by omega)⟩
    refine ⟨_, hx, fun hle => ⟨⟨q0, by omega⟩, fun v _ _ => ⟨fun _ => ⟨sl_lt (by omega), j, ?_, ?_⟩, fun _ => skip⟩⟩, fun _ => ⟨nofun, fun _ => skip⟩⟩
    · rw [ixN_nn (by omega) (by omega)]; congr 1; omega
    · have hle := of_decide_eq_true hle
      have gs : ∀ (u : Nat) (y : Int), (z.2.1.set j y).getD u 0 = if u = j then y else z.2.1.getD u 0 := fun u y => by
        rw [List.getD, List.getElem?_set]
        by_cases e : j = u
        · subst e; rw [if_pos rfl, if_pos (by omega), if_pos rfl]; rfl
        · rw [if_neg e, if_neg (Ne.symm e)]; rfl
      have ej : (0 + (j : Int)) = j := by omega
      rw [ej]
      refine hJ _ ⟨by simp [b1], ?_, by simp; omega, fun p hp => ?_, fun u => ?_, fun p hp => ?_, fun u hu => ?_⟩
      · rw [List.nodup_append]
        refine ⟨b2, by simp, fun x hx y hy => ?_⟩
        rw [List.mem_singleton.mp hy]
        have := (b4 x hx).2.1
        omega
      · rcases List.mem_append.mp hp with m | m
        · exact ⟨(b4 p m).1, by have := (b4 p m).2.1; omega, (b4 p m).2.2⟩
        · rw [List.mem_singleton.mp m]; exact ⟨by omega, by omega, by simpa using hle⟩
      · show _ ≤ (z.2.1.set j _).getD u 0
        rw [gs]
        split
        · rename_i e; subst e; omega
        · exact b5 u
      · show (z.2.1.set j _).getD p.toNat 0 = _
        rw [gs]
        rcases List.mem_append.mp hp with m | m
        · have := (b4 p m)
          rw [if_neg (by omega)]; exact b6 p m
        · rw [List.mem_singleton.mp m, toNat_coe, if_pos rfl]
      · show (z.2.1.set j _).getD u 0 = _
        rw [gs, if_neg (by omega)]; exact b7 u (by omega)
  · obtain ⟨b1, b2, b3, b4, b5, b6, b7⟩ := hz
    rw [rng_length] at b3 b4
    have ga : ∀ t : Nat, (s.2.1 ++ [z.1]).getD t [] = if t < i then s.2.1.getD t [] else if t = i then z.1 else [] := fun t => by
      rw [List.getD, List.getElem?_append]
      by_cases h : t < s.2.1.length
      · rw [if_pos h, if_pos (by omega)]; rfl
      · rw [if_neg h, if_neg (by omega)]
        by_cases e : t = i
        · rw [if_pos e, show t - s.2.1.length = 0 by omega]; rfl
        · rw [if_neg e, List.getElem?_eq_none (by rw [List.length_singleton]; omega)]; rfl
    refine ⟨sl_lt (by omega), hI _ ⟨b1, by simp [a2], fun u => Int.le_trans (a3 u) (b5 u), fun t => ?_, fun u t hm => ?_⟩⟩
    · show ((s.2.1 ++ [z.1]).getD t []).Nodup ∧ _
      rw [ga]
      by_cases h : t < i
      · rw [if_pos h]
        obtain ⟨c1, c2, c3⟩ := a4 t
        refine ⟨c1, c2, fun p hp => ?_⟩
        obtain ⟨d1, d2, d3, d4⟩ := c3 p hp
        refine ⟨d1, d2, d3, fun w hw hm => ?_⟩
        rw [ga, if_pos (by omega)] at hm
        exact d4 w hw hm
      · rw [if_neg h]
        by_cases e : t = i
        · subst e
          rw [if_pos rfl]
          refine ⟨b2, b3, fun p hp => ?_⟩
          obtain ⟨d1, d2, d3⟩ := b4 p hp
          have := a3 p.toNat
          refine ⟨d1, d2, by omega, fun w hw hm => ?_⟩
          rw [ga, if_pos hw] at hm
          have := a5 p.toNat w (by rw [show ((p.toNat : Nat) : Int) = p by omega]; exact hm)
          omega
        · rw [if_neg e]; simp
    · rw [ga] at hm
      by_cases h : t < i
      · rw [if_pos h] at hm
        have := a5 u t hm
        have := b5 u
        show _ ≤ z.2.1.getD u 0
        omega
      · rw [if_neg h] at hm
        by_cases e : t = i
        · subst e
          rw [if_pos rfl] at hm
          have := b6 _ hm
          rw [toNat_coe] at this
          show _ ≤ z.2.1.getD u 0
          omega
        · rw [if_neg e] at hm; simp at hm
theorem fk__law_rows {w : World} {K : PySem.W.Frag} {mg : Str → Option Value} {base : Heap} (T : LC K mg) (G__law_draw : GFn PW w K mg base "_law_draw" 1 P__law_draw sp_draw) : ∃ fd, Binds K fd P__law_rows [] ∧ FnOk PW w K mg base (L2.CX PW w) 4 (He.ga K "_law_rows") fd P__law_rows (spPR K (arC (α := Int) (arC (α := (List Int)) (arC (α := Int) (arC (α := Int) ar0)))) (fun z : List (List Int) => mu z) (fun p : Int × (List Int) × Int × Int × Unit => W__law_rows p.1 p.2.1 p.2.2.1 p.2.2.2.1)) ∧ PySem.W.keepIn K (.ref (He.ga K "_law_rows")) = true := by
  obtain ⟨fd, F⟩ := F__law_rows T
  exact ⟨fd, (F.bindsN fun _ _ _ _ _ _ us hl => match us, hl with | [_, _, _, _, _], _ => rfl), fd__law_rows T G__law_draw F, F.kp⟩
theorem G__law_rows {w : World} {K : PySem.W.Frag} {mg : Str → Option Value} {base : Heap} (T : LC K mg) (G__law_draw : GFn PW w K mg base "_law_draw" 1 P__law_draw sp_draw) : GFn PW w K mg base "_law_rows" 4 P__law_rows (spPR K (arC (α := Int) (arC (α := (List Int)) (arC (α := Int) (arC (α := Int) ar0)))) (fun z : List (List Int) => mu z) (fun p : Int × (List Int) × Int × Int × Unit => W__law_rows p.1 p.2.1 p.2.2.1 p.2.2.2.1)) := by
  obtain ⟨fd, b, F, kp⟩ := fk__law_rows (w := w) (base := base) T G__law_draw
  exact ⟨_, fd, g__law_rows T, kp, b, F⟩

def W__law_counts (rows : List (List Int)) (k : Int) : Wp (List Int) := fun N _ => (0 ≤ k ∧ k ≤ 1000 ∧ rows.length ≤ 1000) ∧ N (countsR rows k.toNat)
theorem fd__law_counts {w : World} {K : PySem.W.Frag} {mg : Str → Option Value} {base : Heap} (T : LC K mg) {fd : FuncData} (F : FunD K "_law_counts" "_law_counts" (defArgs s__law_counts) (defBody s__law_counts) (defScope s__law_counts) [] [] (He.ga K "_law_counts") fd) : FnOk PW w K mg base (L2.CX PW w) 4 (He.ga K "_law_counts") fd P__law_counts (spR K (arC (α := (List (List Int))) (arC (α := Int) ar0)) (fun z : List Int => mu z) (fun p : (List (List Int)) × Int × Unit => W__law_counts p.1 p.2.1)) := by
  refine F.ok sc__law_counts (fun vs H Q E h => by obtain ⟨_, _, _, _, _, r, _⟩ := h; exact r.length) fun cdv A outer s H vs Q E hr h => ?_
  refine ⟨_, (pss_cons (ps_ret (pe_lc (own := [("person", 2)]) rfl sc__law_counts.nd (pi_range1 rfl (f_range T) (pa_cons (pv 1) pa_nil)) (blkOk_r (by rfl)) (fun _ _ _ _ _ => (pg_name (i := 2) sc__law_counts.nd rfl (Or.inr rfl))) (fun _ _ _ _ _ => pts_nil) (fun _ _ _ _ _ => (pe_callB (kLen K) (by rfl) (f_len T) PySem.boot_len (pa_cons (pe_lc (own := [("night", 3)]) rfl sc__law_counts.nd (pi_range1 rfl (f_range T) (pa_cons (pe_callB (kLen K) (by rfl) (f_len T) PySem.boot_len (pa_cons (pv 0) pa_nil)) pa_nil)) (blkOk_r (by rfl)) (fun _ _ _ _ _ => (pg_name (i := 3) sc__law_counts.nd rfl (Or.inl rfl))) (fun _ _ _ _ _ => (pts_one (pt_cmpR (kIn K (hu65 hr)) (pv 2) (pe_ix (kIx K) (pv 0) (pv 3) (fun _ _ => rfl)) (by with_unfolding_all rfl)))) (fun _ _ _ _ _ => (pv 3))) pa_nil))))) pss_nil), ?_⟩
  refine use_R (Γ := fun x : (List (List Int)) × Int × Unit => [.v (x.1 : (List (List Int))), .v (x.2.1 : Int), .u, .u]) h (fun x => (.v (.v (.u (.u .nil))))) (fun _ => Nat.le_of_ble_eq_true rfl) (fun F x => (s_retR (f := fun z => z) (r_lc1 (i := 2) (i_r1 (e_var 1 rfl)) rfl (fun person_1 => c_yes) (fun person_1 => (e_cb1 b_len (e_frz (r_lc1 (i := 3) (i_r1 (e_cb1 b_len (e_var 0 rfl))) rfl (fun night_3 => (c_test (e_op o_in (e_var 2 rfl) (e_op o_ix (e_var 0 rfl) (e_var 3 rfl))))) (fun night_3 => (e_var 3 rfl))))))) .nil (fun _ => rfl) (fun _ => .nil))) (fun x n e hw => ?_)
  obtain ⟨rows, k, _⟩ := x
  dsimp only at *
  obtain ⟨⟨k0, k1, hr⟩, hN⟩ := hw
  have e : countsR rows k.toNat = (rng 0 k.toNat).map fun q => ((((rng 0 rows.length).filter fun t => decide (q ∈ rows.getD t.toNat [])).length : Nat) : Int) := by
    unfold countsR rng
    rw [List.map_map]
    refine List.map_congr_left fun q _ => ?_
    show _ = (((((List.range rows.length).map fun i : Nat => (0 : Int) + i).filter fun t => decide ((0 : Int) + q ∈ rows.getD t.toNat [])).length : Nat) : Int)
    rw [List.filter_map, List.length_map]
    congr 2
    apply List.filter_congr
    intro t _
    have e1 : ((0 : Int) + t).toNat = t := by omega
    have e2 : (0 : Int) + q = q := by omega
    simp only [Function.comp, e1, e2]
  rw [e] at hN
  refine ⟨by omega, by omega, sl_ok (by rw [rng_length]; omega), wlc_map (fun q => ((((rng 0 rows.length).filter fun t => decide (q ∈ rows.getD t.toNat [])).length : Nat) : Int)) (fun q _ N hN => ⟨fun _ => ⟨by omega, by omega, sl_ok (by rw [rng_length]; omega), ?_⟩, nofun⟩) hN⟩
  rw [toNat_coe]
  refine wlc_filter (fun t => decide (q ∈ rows.getD t.toNat [])) (fun t => t) (fun t ht N' h1 h2 => ?_) (by rw [List.map_id']; exact hN)
  obtain ⟨i, hi, e⟩ := List.mem_iff_getElem.mp ht
  rw [rng_get hi] at e
  rw [rng_length] at hi
  exact ⟨rows.getD t.toNat [], by rw [atI_nn (by omega)]; exact getD_at (by omega) [], h1, h2⟩
theorem fk__law_counts {w : World} {K : PySem.W.Frag} {mg : Str → Option Value} {base : Heap} (T : LC K mg) : ∃ fd, Binds K fd P__law_counts [] ∧ FnOk PW w K mg base (L2.CX PW w) 4 (He.ga K "_law_counts") fd P__law_counts (spR K (arC (α := (List (List Int))) (arC (α := Int) ar0)) (fun z : List Int => mu z) (fun p : (List (List Int)) × Int × Unit => W__law_counts p.1 p.2.1)) ∧ PySem.W.keepIn K (.ref (He.ga K "_law_counts")) = true := by
  obtain ⟨fd, F⟩ := F__law_counts T
  exact ⟨fd, (F.bindsN fun _ _ _ _ _ _ us hl => match us, hl with | [_, _], _ => rfl), fd__law_counts T  F, F.kp⟩
theorem G__law_counts {w : World} {K : PySem.W.Frag} {mg : Str → Option Value} {base : Heap} (T : LC K mg) : GFn PW w K mg base "_law_counts" 4 P__law_counts (spR K (arC (α := (List (List Int))) (arC (α := Int) ar0)) (fun z : List Int => mu z) (fun p : (List (List Int)) × Int × Unit => W__law_counts p.1 p.2.1)) := by
  obtain ⟨fd, b, F, kp⟩ := fk__law_counts (w := w) (base := base) T 
  exact ⟨_, fd, g__law_counts T, kp, b, F⟩

def W__law_world (a b c : Int) : Wp (HL (List Int × List Int × Int × List Int × List (List Int) × Unit)) := fun N _ => (0 < a ∧ a ≤ 60 ∧ 0 < b ∧ b ≤ 30 ∧ 0 ≤ c ∧ c ≤ 60) ∧ ∀ (ds ss : List Int) (g : Int) (cs : List Int) (rows : List (List Int)),
  ds.length ≤ 60 → ss.length ≤ 30 → 0 ≤ g → g ≤ c → (∀ x ∈ ds, 0 ≤ x ∧ x ≤ 30) → (∀ x ∈ ss, 1 ≤ x ∧ x ≤ (ds.length : Int) + 1) → rows.length = ds.length → Fits ss g rows → N ⟨(ds, ss, g, cs, rows, ())⟩
theorem fd__law_world {w : World} {K : PySem.W.Frag} {mg : Str → Option Value} {base : Heap} (T : LC K mg) (G__law_size : GFn PW w K mg base "_law_size" 4 P__law_size (spP K (arC (α := Int) ar0) (fun p : Int × Unit => W__law_size p.1))) (G__law_draw : GFn PW w K mg base "_law_draw" 1 P__law_draw sp_draw) (G__law_comings : GFn PW w K mg base "_law_comings" 4 P__law_comings (spPR K (arC (α := Int) (arC (α := Int) ar0)) (fun z : List Int => mu z) (fun p : Int × Int × Unit => W__law_comings p.1 p.2.1))) (G__law_rows : GFn PW w K mg base "_law_rows" 4 P__law_rows (spPR K (arC (α := Int) (arC (α := (List Int)) (arC (α := Int) (arC (α := Int) ar0)))) (fun z : List (List Int) => mu z) (fun p : Int × (List Int) × Int × Int × Unit => W__law_rows p.1 p.2.1 p.2.2.1 p.2.2.2.1))) (G__law_counts : GFn PW w K mg base "_law_counts" 4 P__law_counts (spR K (arC (α := (List (List Int))) (arC (α := Int) ar0)) (fun z : List Int => mu z) (fun p : (List (List Int)) × Int × Unit => W__law_counts p.1 p.2.1))) {fd : FuncData} (F : FunD K "_law_world" "_law_world" (defArgs s__law_world) (defBody s__law_world) (defScope s__law_world) [] [] (He.ga K "_law_world") fd) : FnOk PW w K mg base (L2.CX PW w) 5 (He.ga K "_law_world") fd P__law_world (spP K (arC (α := Int) (arC (α := Int) (arC (α := Int) ar0))) (fun p : Int × Int × Int × Unit => W__law_world p.1 p.2.1 p.2.2.1)) := by
  refine F.ok sc__law_world (fun vs H Q E h => by obtain ⟨_, _, _, _, _, rfl, _, _, _, r, _⟩ := h; exact congrArg Nat.succ r.length) fun cdv A outer s H vs Q E hr h => ?_
  refine ⟨_, (pss_cons (ps_set (i := 4) sc__law_world.nd rfl (Or.inl rfl) (pe_g G__law_size (hr.mono (by decide)) (takes_of rfl rfl rfl rfl) (pa_cons (pv 0) (pa_cons (pv 1) pa_nil))))
      (pss_cons (ps_set (i := 5) sc__law_world.nd rfl (Or.inl rfl) (pe_g G__law_size (hr.mono (by decide)) (takes_of rfl rfl rfl rfl) (pa_cons (pv 0) (pa_cons (pv 2) pa_nil))))
      (pss_cons (ps_set (i := 6) sc__law_world.nd rfl (Or.inl rfl) (pe_g G__law_draw (hr.mono (by decide)) (takes_of rfl rfl rfl rfl) (pa_cons (pv 0) (pa_cons (pe_op (kAdd K) (pv 3) pe_int) pa_nil))))
      (pss_cons (ps_set (i := 7) sc__law_world.nd rfl (Or.inl rfl) (pe_g G__law_comings (hr.mono (by decide)) (takes_of rfl rfl rfl rfl) (pa_cons (pv 0) (pa_cons (pv 5) (pa_cons (pv 4) pa_nil)))))
      (pss_cons (ps_set (i := 8) sc__law_world.nd rfl (Or.inl rfl) (pe_g G__law_rows (hr.mono (by decide)) (takes_of rfl rfl rfl rfl) (pa_cons (pv 0) (pa_cons (pv 4) (pa_cons (pv 7) (pa_cons (pv 6) (pa_cons (pe_op (kAdd K) pe_int (pe_g G__law_draw (hr.mono (by decide)) (takes_of rfl rfl rfl rfl) (pa_cons (pv 0) (pa_cons pe_int pa_nil)))) pa_nil)))))))
      (pss_cons (ps_setLc (i := 9) (own := [("row", 10)]) rfl sc__law_world.nd rfl rfl (sw_true rfl rfl rfl (by decide +kernel)) (kiList K (pv 8)) (blkOk_r (by rfl)) (fun _ _ _ _ _ => (pg_name (i := 10) sc__law_world.nd rfl (Or.inl rfl))) (fun _ _ _ _ _ => pts_nil) (fun _ _ _ _ _ => (pe_callB (kLen K) (by rfl) (f_len T) PySem.boot_len (pa_cons (pv 10) pa_nil))))
      (pss_cons (ps_ret (pe_lst (pa_cons (pv 9) (pa_cons (pv 7) (pa_cons (pv 6) (pa_cons (pe_g G__law_counts (hr.mono (by decide)) (takes_of rfl rfl rfl rfl) (pa_cons (pv 8) (pa_cons (pv 5) pa_nil))) (pa_cons (pv 8) pa_nil))))))) pss_nil))))))), ?_⟩
  refine use_P (Γ := fun (p0 : Addr) (x : Int × Int × Int × Unit) => [.o (pool p0), .v (x.1 : Int), .v (x.2.1 : Int), .v (x.2.2.1 : Int), .u, .u, .u, .u, .u, .u, .u]) h (fun p0 x => ⟨_, rfl, (.v (.v (.v (.u (.u (.u (.u (.u (.u (.u .nil))))))))))⟩) (fun _ _ => Nat.le_of_ble_eq_true rfl) (fun F p0 x => (s_set 4 (α := Int) (e_callP 0 rfl (t_cons (e_var 1 rfl) t_nil)) .nil (fun nights_1 => (s_set 5 (α := Int) (e_callP 0 rfl (t_cons (e_var 2 rfl) t_nil)) .nil (fun people_2 => (s_set 6 (α := Int) (e_draw 0 rfl (e_op o_add (e_var 3 rfl) (e_int _))) .nil (fun gap_3 => (s_set 7 (α := (List Int)) (e_frz (r_callP 0 rfl (t_cons (e_var 5 rfl) (t_cons (e_var 4 rfl) t_nil)))) .nil (fun starts_4 => (s_set 8 (α := (List (List Int))) (e_frz (r_callP 0 rfl (t_cons (e_var 4 rfl) (t_cons (e_var 7 rfl) (t_cons (e_var 6 rfl) (t_cons (e_op o_add (e_int _) (e_draw 0 rfl (e_int _))) t_nil)))))) .nil (fun rows_5 => (s_set 9 (α := (List Int)) (e_frz (r_lc1 (i := 10) (i_list (e_var 8 rfl)) rfl (fun row_6 => c_yes) (fun row_6 => (e_cb1 b_len (e_var 10 rfl))))) .nil (fun days_7 => (s_ret (f := fun z => z) (e_hl (ι := (List Int) × (List Int) × Int × (List Int) × (List (List Int)) × Unit) (args := (arC (α := (List Int)) (arC (α := (List Int)) (arC (α := Int) (arC (α := (List Int)) (arC (α := (List (List Int))) ar0)))))) (t_cons (e_var 9 rfl) (t_cons (e_var 7 rfl) (t_cons (e_var 6 rfl) (t_cons (e_frz (r_call (t_cons (e_var 8 rfl) (t_cons (e_var 5 rfl) t_nil)))) (t_cons (e_var 8 rfl) t_nil))))) (fun _ => rfl) (fun _ => Nat.le_of_ble_eq_true rfl)) .nil (fun _ => rfl) (fun _ => (.same .nil)))))))))))))))) (fun p0 x n hw => ?_)
  obtain ⟨a, b, c, _⟩ := x
  dsimp only at *
  obtain ⟨⟨a0, a1, b0, b1, c0, c1⟩, hN⟩ := hw
  refine ⟨⟨a0, by omega⟩, fun x x0 x1 => ⟨⟨b0, by omega⟩, fun y y0 y1 => ⟨⟨by omega, by omega⟩, fun v v0 v1 => ⟨⟨by omega, by omega, by omega, by omega⟩, fun ss hl hs => ⟨⟨by decide, by decide⟩, fun u u0 u1 => ⟨⟨by omega, by omega, by omega, by omega, by omega, by omega⟩, fun rows hr hf => ⟨sl_ok (by omega), wlc_map (fun r => (r.length : Int)) (fun r _ N hN => ⟨fun _ => hN, nofun⟩) ⟨⟨by omega, by omega, by omega⟩, ?_⟩⟩⟩⟩⟩⟩⟩⟩
  refine hN _ ss v _ rows (by rw [List.length_map]; omega) (by omega) v0 (by omega) (fun z hz => ?_) (fun z hz => ?_) (by rw [List.length_map]) hf
  · obtain ⟨r, hr', rfl⟩ := List.mem_map.mp hz
    obtain ⟨t, ht, e⟩ := List.mem_iff_getElem.mp hr'
    have := (hf t).2.1
    rw [List.getD, List.getElem?_eq_getElem ht, e] at this
    have : r.length ≤ ss.length := this
    omega
  · have := hs z hz
    rw [List.length_map]
    omega
theorem fk__law_world {w : World} {K : PySem.W.Frag} {mg : Str → Option Value} {base : Heap} (T : LC K mg) (G__law_size : GFn PW w K mg base "_law_size" 4 P__law_size (spP K (arC (α := Int) ar0) (fun p : Int × Unit => W__law_size p.1))) (G__law_draw : GFn PW w K mg base "_law_draw" 1 P__law_draw sp_draw) (G__law_comings : GFn PW w K mg base "_law_comings" 4 P__law_comings (spPR K (arC (α := Int) (arC (α := Int) ar0)) (fun z : List Int => mu z) (fun p : Int × Int × Unit => W__law_comings p.1 p.2.1))) (G__law_rows : GFn PW w K mg base "_law_rows" 4 P__law_rows (spPR K (arC (α := Int) (arC (α := (List Int)) (arC (α := Int) (arC (α := Int) ar0)))) (fun z : List (List Int) => mu z) (fun p : Int × (List Int) × Int × Int × Unit => W__law_rows p.1 p.2.1 p.2.2.1 p.2.2.2.1))) (G__law_counts : GFn PW w K mg base "_law_counts" 4 P__law_counts (spR K (arC (α := (List (List Int))) (arC (α := Int) ar0)) (fun z : List Int => mu z) (fun p : (List (List Int)) × Int × Unit => W__law_counts p.1 p.2.1))) : ∃ fd, Binds K fd P__law_world [] ∧ FnOk PW w K mg base (L2.CX PW w) 5 (He.ga K "_law_world") fd P__law_world (spP K (arC (α := Int) (arC (α := Int) (arC (α := Int) ar0))) (fun p : Int × Int × Int × Unit => W__law_world p.1 p.2.1 p.2.2.1)) ∧ PySem.W.keepIn K (.ref (He.ga K "_law_world")) = true := by
  obtain ⟨fd, F⟩ := F__law_world T
  exact ⟨fd, (F.bindsN fun _ _ _ _ _ _ us hl => match us, hl with | [_, _, _, _], _ => rfl), fd__law_world T G__law_size G__law_draw G__law_comings G__law_rows G__law_counts F, F.kp⟩
theorem G__law_world {w : World} {K : PySem.W.Frag} {mg : Str → Option Value} {base : Heap} (T : LC K mg) (G__law_size : GFn PW w K mg base "_law_size" 4 P__law_size (spP K (arC (α := Int) ar0) (fun p : Int × Unit => W__law_size p.1))) (G__law_draw : GFn PW w K mg base "_law_draw" 1 P__law_draw sp_draw) (G__law_comings : GFn PW w K mg base "_law_comings" 4 P__law_comings (spPR K (arC (α := Int) (arC (α := Int) ar0)) (fun z : List Int => mu z) (fun p : Int × Int × Unit => W__law_comings p.1 p.2.1))) (G__law_rows : GFn PW w K mg base "_law_rows" 4 P__law_rows (spPR K (arC (α := Int) (arC (α := (List Int)) (arC (α := Int) (arC (α := Int) ar0)))) (fun z : List (List Int) => mu z) (fun p : Int × (List Int) × Int × Int × Unit => W__law_rows p.1 p.2.1 p.2.2.1 p.2.2.2.1))) (G__law_counts : GFn PW w K mg base "_law_counts" 4 P__law_counts (spR K (arC (α := (List (List Int))) (arC (α := Int) ar0)) (fun z : List Int => mu z) (fun p : (List (List Int)) × Int × Unit => W__law_counts p.1 p.2.1))) : GFn PW w K mg base "_law_world" 5 P__law_world (spP K (arC (α := Int) (arC (α := Int) (arC (α := Int) ar0))) (fun p : Int × Int × Int × Unit => W__law_world p.1 p.2.1 p.2.2.1)) := by
  obtain ⟨fd, b, F, kp⟩ := fk__law_world (w := w) (base := base) T G__law_size G__law_draw G__law_comings G__law_rows G__law_counts
  exact ⟨_, fd, g__law_world T, kp, b, F⟩

def W__law_bend_days (ds : List Int) : Wp (List Int) := fun N _ => (ds.length ≤ 60 ∧ ∀ x ∈ ds, 0 ≤ x ∧ x ≤ 30) ∧ ∀ xs : List Int, xs.length = ds.length → (∀ x ∈ xs, 0 ≤ x ∧ x ≤ 30) → N xs
theorem fd__law_bend_days {w : World} {K : PySem.W.Frag} {mg : Str → Option Value} {base : Heap} (T : LC K mg) (G__law_draw : GFn PW w K mg base "_law_draw" 1 P__law_draw sp_draw) {fd : FuncData} (F : FunD K "_law_bend_days" "_law_bend_days" (defArgs s__law_bend_days) (defBody s__law_bend_days) (defScope s__law_bend_days) [] [] (He.ga K "_law_bend_days") fd) : FnOk PW w K mg base (L2.CX PW w) 4 (He.ga K "_law_bend_days") fd P__law_bend_days (spPR K (arC (α := (List Int)) ar0) (fun z : List Int => mu z) (fun p : (List Int) × Unit => W__law_bend_days p.1)) := by
  refine F.ok sc__law_bend_days (fun vs H Q E h => by obtain ⟨_, _, _, _, _, rfl, _, _, _, r, _⟩ := h; exact congrArg Nat.succ r.length) fun cdv A outer s H vs Q E hr h => ?_
  refine ⟨_, (pss_cons (ps_set (i := 2) sc__law_bend_days.nd rfl (Or.inl rfl) (pe_callTy (kList K) (by rfl) (f_list T) (by decide +kernel) (pa_cons (pv 1) pa_nil)))
      (pss_cons (ps_if (PW.pt (pw_and (pt_cmpR op_gt (pe_callB (kLen K) (by rfl) (f_len T) PySem.boot_len (pa_cons (pv 2) pa_nil)) pe_int (nomark _)) (pw_and1 (pt_cmpR (kEq K (hu65 hr)) (pe_g G__law_draw (hr.mono (by decide)) (takes_of rfl rfl rfl rfl) (pa_cons (pv 0) (pa_cons pe_int pa_nil))) pe_int (nomark _))))) (pss_cons (ps_set (i := 3) sc__law_bend_days.nd rfl (Or.inl rfl) (pe_g G__law_draw (hr.mono (by decide)) (takes_of rfl rfl rfl rfl) (pa_cons (pv 0) (pa_cons (pe_callB (kLen K) (by rfl) (f_len T) PySem.boot_len (pa_cons (pv 2) pa_nil)) pa_nil))))
      (pss_cons (ps_asg (pe_callB (cy_min2 rfl) (by rfl) (f_min T) (by decide +kernel) (pa_cons pe_int (pa_cons (pe_op (kAdd K) (pe_op (kAdd K) (pe_ix (kIx K) (pv 2) (pv 3) (fun _ _ => rfl)) pe_int) (pe_g G__law_draw (hr.mono (by decide)) (takes_of rfl rfl rfl rfl) (pa_cons (pv 0) (pa_cons pe_int pa_nil)))) pa_nil))) (pg_sub (pv 2) (pv 3) set_list))
      pss_nil)) pss_nil)
      (pss_cons (ps_ret (pv 2)) pss_nil))), ?_⟩
  refine use_PR (Γ := fun (p0 : Addr) (x : (List Int) × Unit) => [.o (pool p0), .v (x.1 : (List Int)), .u, .u]) h (fun p0 x => ⟨_, rfl, (.v (.u (.u .nil)))⟩) (fun _ _ => Nat.le_of_ble_eq_true rfl) (fun F p0 x => (s_setR 2 (α := List Int) (r_list (e_var 1 rfl)) .nil (fun bent_1 => (s_if (e1 := (fun s_2 : (List Int) × Unit => [.o (pool p0), .v (x.1 : (List Int)), .o (mu (s_2.1 : List Int)), .u])) (c_and (c_test (e_op o_cmp (e_peek 2 rfl (Nat.le_of_ble_eq_true rfl) (e_cb1 b_len (e_var 2 rfl))) (e_int _))) (c_test (e_op o_eq (e_draw 0 rfl (e_int _)) (e_int _)))) .nil (s_set 3 (α := Int) (e_draw 0 rfl (e_peek 2 rfl (Nat.le_of_ble_eq_true rfl) (e_cb1 b_len (e_var 2 rfl)))) .nil (fun place_3 => (s_setix 2 rfl (e_cb2 b_min2 (e_int _) (e_op o_add (e_op o_add (e_peek 2 rfl (Nat.le_of_ble_eq_true rfl) (e_op o_ix (e_var 2 rfl) (e_var 3 rfl))) (e_int _)) (e_draw 0 rfl (e_int _)))) (e_var 3 rfl) .nil (fun j_5 bent_4 => (s_next ((List.set bent_1 j_5 bent_4), ()) (show Wk [.o (pool p0), .v (x.1 : (List Int)), .o (mu ((List.set bent_1 j_5 bent_4) : List Int)), .v (place_3 : Int)] [.o (pool p0), .v (x.1 : (List Int)), .o (mu ((List.set bent_1 j_5 bent_4) : List Int)), .u] from (.same (.same (.same (.u .nil)))))))))) (s_next (bent_1, ()) (show Wk [.o (pool p0), .v (x.1 : (List Int)), .o (mu (bent_1 : List Int)), .u] [.o (pool p0), .v (x.1 : (List Int)), .o (mu (bent_1 : List Int)), .u] from (.same (.same (.same (.u .nil)))))) (fun s_2 => (s_retV 2 s_2.1 rfl (Nat.le_of_ble_eq_true rfl) rfl (.same .nil))))))) (fun p0 x n hw => ?_)
  obtain ⟨ds, _⟩ := x
  dsimp only at *
  obtain ⟨⟨hl, h0⟩, hN⟩ := hw
  refine ⟨fun hp => ⟨⟨by decide, by decide⟩, fun v _ _ => ⟨fun _ => ⟨⟨of_decide_eq_true hp, by omega⟩, fun u u0 u1 => ?_⟩, fun _ => hN _ rfl h0⟩⟩, fun _ => ⟨nofun, fun _ => hN _ rfl h0⟩⟩
  have hx := getD_at (xs := ds) (k := u.toNat) (by omega) 0
  have b := h0 _ (List.mem_of_getElem? hx)
  refine ⟨_, by rw [atI_nn u0]; exact hx, ⟨by decide, by decide⟩, fun w w0 w1 => ⟨_, ixN_nn u0 (by omega), hN _ (by simp) fun x hm => ?_⟩⟩
  rcases List.mem_or_eq_of_mem_set hm with m | m
  · exact h0 x m
  · rw [m]; omega
theorem fk__law_bend_days {w : World} {K : PySem.W.Frag} {mg : Str → Option Value} {base : Heap} (T : LC K mg) (G__law_draw : GFn PW w K mg base "_law_draw" 1 P__law_draw sp_draw) : ∃ fd, Binds K fd P__law_bend_days [] ∧ FnOk PW w K mg base (L2.CX PW w) 4 (He.ga K "_law_bend_days") fd P__law_bend_days (spPR K (arC (α := (List Int)) ar0) (fun z : List Int => mu z) (fun p : (List Int) × Unit => W__law_bend_days p.1)) ∧ PySem.W.keepIn K (.ref (He.ga K "_law_bend_days")) = true := by
  obtain ⟨fd, F⟩ := F__law_bend_days T
  exact ⟨fd, (F.bindsN fun _ _ _ _ _ _ us hl => match us, hl with | [_, _], _ => rfl), fd__law_bend_days T G__law_draw F, F.kp⟩
theorem G__law_bend_days {w : World} {K : PySem.W.Frag} {mg : Str → Option Value} {base : Heap} (T : LC K mg) (G__law_draw : GFn PW w K mg base "_law_draw" 1 P__law_draw sp_draw) : GFn PW w K mg base "_law_bend_days" 4 P__law_bend_days (spPR K (arC (α := (List Int)) ar0) (fun z : List Int => mu z) (fun p : (List Int) × Unit => W__law_bend_days p.1)) := by
  obtain ⟨fd, b, F, kp⟩ := fk__law_bend_days (w := w) (base := base) T G__law_draw
  exact ⟨_, fd, g__law_bend_days T, kp, b, F⟩

def W__law_ints (xs : List Int) : Wp Bool := fun N _ => N true
theorem fd__law_ints {w : World} {K : PySem.W.Frag} {mg : Str → Option Value} {base : Heap} (T : LC K mg) (G__law_int : GFn PW w K mg base "_law_int" 4 P__law_int (spF K (arC (α := PV) ar0) (fun p : PV × Unit => W__law_int p.1))) {fd : FuncData} (F : FunD K "_law_ints" "_law_ints" (defArgs s__law_ints) (defBody s__law_ints) (defScope s__law_ints) [] [] (He.ga K "_law_ints") fd) : FnOk PW w K mg base (L2.CX PW w) 5 (He.ga K "_law_ints") fd P__law_ints (spF K (arC (α := (List Int)) ar0) (fun p : (List Int) × Unit => W__law_ints p.1)) := by
  refine F.ok sc__law_ints (fun vs H Q E h => by obtain ⟨_, _, _, _, _, r, _⟩ := h; exact r.length) fun cdv A outer s H vs Q E hr h => ?_
  refine ⟨_, (pss_cons (ps_for (passes_of rfl) rfl (kiList K (pv 0)) (pg_name (i := 1) sc__law_ints.nd rfl (Or.inl rfl)) (pss_cons (ps_if (pt_not (pt_val (pe_g G__law_int (hr.mono (by decide)) (takes_of rfl rfl rfl rfl) (pa_cons (pv 1) pa_nil)))) (pss_cons (ps_ret pe_bl) pss_nil) pss_nil) pss_nil))
      (pss_cons (ps_ret pe_bl) pss_nil)), ?_⟩
  refine use_F (Γ := fun x : (List Int) × Unit => [.v (x.1 : (List Int)), .u]) (fun _ => False) (fun _ z => z.elim) h (fun x => (.v (.u .nil))) (fun _ => Nat.le_of_ble_eq_true rfl) (fun F x => (s_for (eh := (fun s_1 : Unit => [.v (x.1 : (List Int)), .u])) (()) (i_list (e_var 0 rfl)) .nil (show Wk [.v (x.1 : (List Int)), .u] [.v (x.1 : (List Int)), .u] from (.same (.u .nil))) (g_name 1) (fun x_2 s_1 => (s_if0 (c_not (c_val (e_call (t_cons (e_as (toP : Int → PV) (fun _ => rfl) (e_var 1 rfl)) t_nil)))) .nil (s_ret (f := fun z => z) (e_bl _) .nil (fun _ => rfl) (fun _ => .nil)) (s_next (()) (show Wk [.v (x.1 : (List Int)), .v (x_2 : Int)] [.v (x.1 : (List Int)), .u] from (.same (.u .nil)))))) (fun s_1 => (s_ret (f := fun z => z) (e_bl _) .nil (fun _ => rfl) (fun _ => .nil))))) (fun x n e hw => ?_)
  obtain ⟨xs, _⟩ := x
  dsimp only at *
  exact wfor_inv (fun _ _ => True) True.intro (fun i hi s N' _ hI => ⟨_, rfl, nofun, fun _ => hI _ True.intro⟩) fun _ _ => hw
theorem fk__law_ints {w : World} {K : PySem.W.Frag} {mg : Str → Option Value} {base : Heap} (T : LC K mg) (G__law_int : GFn PW w K mg base "_law_int" 4 P__law_int (spF K (arC (α := PV) ar0) (fun p : PV × Unit => W__law_int p.1))) : ∃ fd, Binds K fd P__law_ints [] ∧ FnOk PW w K mg base (L2.CX PW w) 5 (He.ga K "_law_ints") fd P__law_ints (spF K (arC (α := (List Int)) ar0) (fun p : (List Int) × Unit => W__law_ints p.1)) ∧ PySem.W.keepIn K (.ref (He.ga K "_law_ints")) = true := by
  obtain ⟨fd, F⟩ := F__law_ints T
  exact ⟨fd, (F.bindsN fun _ _ _ _ _ _ us hl => match us, hl with | [_], _ => rfl), fd__law_ints T G__law_int F, F.kp⟩
theorem G__law_ints {w : World} {K : PySem.W.Frag} {mg : Str → Option Value} {base : Heap} (T : LC K mg) (G__law_int : GFn PW w K mg base "_law_int" 4 P__law_int (spF K (arC (α := PV) ar0) (fun p : PV × Unit => W__law_int p.1))) : GFn PW w K mg base "_law_ints" 5 P__law_ints (spF K (arC (α := (List Int)) ar0) (fun p : (List Int) × Unit => W__law_ints p.1)) := by
  obtain ⟨fd, b, F, kp⟩ := fk__law_ints (w := w) (base := base) T G__law_int
  exact ⟨_, fd, g__law_ints T, kp, b, F⟩

def W__law_cut (rows : List (List Int)) (ds : List Int) : Wp (List (List Int)) := fun N _ => (rows.length = ds.length ∧ ds.length ≤ 1000 ∧ ∀ x ∈ ds, 0 ≤ x) ∧ N (cutR rows ds)
theorem fd__law_cut {w : World} {K : PySem.W.Frag} {mg : Str → Option Value} {base : Heap} (T : LC K mg) {fd : FuncData} (F : FunD K "_law_cut" "_law_cut" (defArgs s__law_cut) (defBody s__law_cut) (defScope s__law_cut) [] [] (He.ga K "_law_cut") fd) : FnOk PW w K mg base (L2.CX PW w) 4 (He.ga K "_law_cut") fd P__law_cut (spR K (arC (α := (List (List Int))) (arC (α := (List Int)) ar0)) (fun z : List (List Int) => mu z) (fun p : (List (List Int)) × (List Int) × Unit => W__law_cut p.1 p.2.1)) := by
  refine F.ok sc__law_cut (fun vs H Q E h => by obtain ⟨_, _, _, _, _, r, _⟩ := h; exact r.length) fun cdv A outer s H vs Q E hr h => ?_
  refine ⟨_, (pss_cons (ps_ret (pe_lc (own := [("place", 2)]) rfl sc__law_cut.nd (pi_range1 rfl (f_range T) (pa_cons (pe_callB (kLen K) (by rfl) (f_len T) PySem.boot_len (pa_cons (pv 1) pa_nil)) pa_nil)) (blkOk_r (by rfl)) (fun _ _ _ _ _ => (pg_name (i := 2) sc__law_cut.nd rfl (Or.inl rfl))) (fun _ _ _ _ _ => pts_nil) (fun _ _ _ _ _ => (pe_slice (kSl K) (pe_ix (kIx K) (pv 0) (pv 2) (fun _ _ => rfl)) po_none (po_some (pe_ix (kIx K) (pv 1) (pv 2) (fun _ _ => rfl))))))) pss_nil), ?_⟩
  refine use_R (Γ := fun x : (List (List Int)) × (List Int) × Unit => [.v (x.1 : (List (List Int))), .v (x.2.1 : (List Int)), .u]) h (fun x => (.v (.v (.u .nil)))) (fun _ => Nat.le_of_ble_eq_true rfl) (fun F x => (s_retR (f := fun z => z) (r_lc1 (i := 2) (i_r1 (e_cb1 b_len (e_var 1 rfl))) rfl (fun place_1 => c_yes) (fun place_1 => (e_frz (r_sl (e_op o_ix (e_var 0 rfl) (e_var 2 rfl)) p_none (p_some (e_op o_ix (e_var 1 rfl) (e_var 2 rfl))))))) .nil (fun _ => rfl) (fun _ => .nil))) (fun x n e hw => ?_)
  obtain ⟨rows, ds, _⟩ := x
  dsimp only at *
  obtain ⟨⟨hl, hd, h0⟩, hN⟩ := hw
  have e : cutR rows ds = (rng 0 ds.length).map fun t => (rows.getD t.toNat []).take (ds.getD t.toNat 0).toNat := by
    unfold cutR rng
    rw [List.map_map]
    refine List.map_congr_left fun q _ => ?_
    have e1 : ((0 : Int) + q).toNat = q := by omega
    simp only [Function.comp, e1]
  rw [e] at hN
  rw [toNat_coe]
  refine ⟨by omega, by omega, sl_ok (by rw [rng_length]; omega), wlc_map (fun t => (rows.getD t.toNat []).take (ds.getD t.toNat 0).toNat) (fun t ht N hN => ⟨fun _ => ?_, nofun⟩) hN⟩
  obtain ⟨i, hi, e⟩ := List.mem_iff_getElem.mp ht
  rw [rng_get hi] at e
  rw [rng_length] at hi
  have hx := getD_at (xs := ds) (k := t.toNat) (by omega) 0
  exact ⟨_, by rw [atI_nn (by omega)]; exact getD_at (by omega) [], _, by rw [atI_nn (by omega)]; exact hx, by rw [cutL_to (h0 _ (List.mem_of_getElem? hx))]; exact hN⟩
theorem fk__law_cut {w : World} {K : PySem.W.Frag} {mg : Str → Option Value} {base : Heap} (T : LC K mg) : ∃ fd, Binds K fd P__law_cut [] ∧ FnOk PW w K mg base (L2.CX PW w) 4 (He.ga K "_law_cut") fd P__law_cut (spR K (arC (α := (List (List Int))) (arC (α := (List Int)) ar0)) (fun z : List (List Int) => mu z) (fun p : (List (List Int)) × (List Int) × Unit => W__law_cut p.1 p.2.1)) ∧ PySem.W.keepIn K (.ref (He.ga K "_law_cut")) = true := by
  obtain ⟨fd, F⟩ := F__law_cut T
  exact ⟨fd, (F.bindsN fun _ _ _ _ _ _ us hl => match us, hl with | [_, _], _ => rfl), fd__law_cut T  F, F.kp⟩
theorem G__law_cut {w : World} {K : PySem.W.Frag} {mg : Str → Option Value} {base : Heap} (T : LC K mg) : GFn PW w K mg base "_law_cut" 4 P__law_cut (spR K (arC (α := (List (List Int))) (arC (α := (List Int)) ar0)) (fun z : List (List Int) => mu z) (fun p : (List (List Int)) × (List Int) × Unit => W__law_cut p.1 p.2.1)) := by
  obtain ⟨fd, b, F, kp⟩ := fk__law_cut (w := w) (base := base) T 
  exact ⟨_, fd, g__law_cut T, kp, b, F⟩

def W__law_thin (rows : List (List Int)) : Wp (List (List Int)) := fun N _ => (rows.length ≤ 1000 ∧ ∀ r ∈ rows, r.length ≤ 1000) ∧ ∀ xs : List (List Int), SubR xs rows → N xs
theorem fd__law_thin {w : World} {K : PySem.W.Frag} {mg : Str → Option Value} {base : Heap} (T : LC K mg) (G__law_draw : GFn PW w K mg base "_law_draw" 1 P__law_draw sp_draw) {fd : FuncData} (F : FunD K "_law_thin" "_law_thin" (defArgs s__law_thin) (defBody s__law_thin) (defScope s__law_thin) [] [] (He.ga K "_law_thin") fd) : FnOk PW w K mg base (L2.CX PW w) 4 (He.ga K "_law_thin") fd P__law_thin (spPR K (arC (α := (List (List Int))) ar0) (fun z : List (List Int) => mu z) (fun p : (List (List Int)) × Unit => W__law_thin p.1)) := by
  refine F.ok sc__law_thin (fun vs H Q E h => by obtain ⟨_, _, _, _, _, rfl, _, _, _, r, _⟩ := h; exact congrArg Nat.succ r.length) fun cdv A outer s H vs Q E hr h => ?_
  refine ⟨_, (pss_cons (ps_ret (pe_lc (own := [("row", 2)]) rfl sc__law_thin.nd (kiList K (pv 1)) (blkOk_r (by rfl)) (fun _ _ _ _ _ => (pg_name (i := 2) sc__law_thin.nd rfl (Or.inl rfl))) (fun _ _ _ _ _ => pts_nil) (fun _ _ _ _ _ => (pe_lc (own := [("person", 3)]) rfl sc__law_thin.nd (kiList K (pv 2)) (blkOk_r (by rfl)) (fun _ _ _ _ _ => (pg_name (i := 3) sc__law_thin.nd rfl (Or.inl rfl))) (fun _ _ _ _ _ => (pts_one (pt_cmpR (kNe K (hu65 hr)) (pe_g G__law_draw (hr.mono (by decide)) takes0 (pa_cons (pv 0) (pa_cons pe_int pa_nil))) pe_int (nomark _)))) (fun _ _ _ _ _ => (pv 3)))))) pss_nil), ?_⟩
  refine use_PR (Γ := fun (p0 : Addr) (x : (List (List Int)) × Unit) => [.o (pool p0), .v (x.1 : (List (List Int))), .u, .u]) h (fun p0 x => ⟨_, rfl, (.v (.u (.u .nil)))⟩) (fun _ _ => Nat.le_of_ble_eq_true rfl) (fun F p0 x => (s_retR (f := fun z => z) (r_lc1 (i := 2) (i_list (e_var 1 rfl)) rfl (fun row_1 => c_yes) (fun row_1 => (e_frz (r_lc1 (i := 3) (i_list (e_var 2 rfl)) rfl (fun person_2 => (c_test (e_op o_ne (e_draw 0 rfl (e_int _)) (e_int _)))) (fun person_2 => (e_var 3 rfl)))))) .nil (fun _ => rfl) (fun _ => (.same .nil)))) (fun p0 x n hw => ?_)
  obtain ⟨rows, _⟩ := x
  dsimp only at *
  obtain ⟨⟨hl, hr⟩, hN⟩ := hw
  refine ⟨sl_ok (by omega), wlc_all (fun x y => List.Sublist y x) (fun x hx N hN => ⟨fun _ => ⟨sl_ok (by have := hr x hx; omega), ?_⟩, nofun⟩) fun ys hy hs => hN ys ⟨hy, fun t => ?_⟩⟩
  · clear hx hr hl
    have key : ∀ (x : List Int) (N : List Int → Prop), (∀ y, List.Sublist y x → N y) → wlc x (fun x N E => (0 < (4 : Int) ∧ (4 : Int) < 2 ^ 200) ∧ ∀ (v : Int), 0 ≤ v → v < 4 → ((!decide (v = 0)) = true → N (some x)) ∧ ((!decide (v = 0)) = false → N none)) N (fun _ => False) := fun x => by
      induction x with
      | nil => intro N h; exact h [] (List.Sublist.refl _)
      | cons a x ih =>
        intro N h
        refine ⟨⟨by decide, by decide⟩, fun v _ _ => ⟨fun _ => ih _ fun y hy => h (a :: y) (hy.cons₂ a), fun _ => ih _ fun y hy => h y (hy.cons a)⟩⟩
    exact key x _ fun y hy => hN y hy
  · by_cases ht : t < rows.length
    · exact hs t _ _ (getD_at ht []) (getD_at (by omega) [])
    · rw [List.getD, List.getElem?_eq_none (by omega)]; exact List.nil_sublist _
theorem fk__law_thin {w : World} {K : PySem.W.Frag} {mg : Str → Option Value} {base : Heap} (T : LC K mg) (G__law_draw : GFn PW w K mg base "_law_draw" 1 P__law_draw sp_draw) : ∃ fd, Binds K fd P__law_thin [] ∧ FnOk PW w K mg base (L2.CX PW w) 4 (He.ga K "_law_thin") fd P__law_thin (spPR K (arC (α := (List (List Int))) ar0) (fun z : List (List Int) => mu z) (fun p : (List (List Int)) × Unit => W__law_thin p.1)) ∧ PySem.W.keepIn K (.ref (He.ga K "_law_thin")) = true := by
  obtain ⟨fd, F⟩ := F__law_thin T
  exact ⟨fd, (F.bindsN fun _ _ _ _ _ _ us hl => match us, hl with | [_, _], _ => rfl), fd__law_thin T G__law_draw F, F.kp⟩
theorem G__law_thin {w : World} {K : PySem.W.Frag} {mg : Str → Option Value} {base : Heap} (T : LC K mg) (G__law_draw : GFn PW w K mg base "_law_draw" 1 P__law_draw sp_draw) : GFn PW w K mg base "_law_thin" 4 P__law_thin (spPR K (arC (α := (List (List Int))) ar0) (fun z : List (List Int) => mu z) (fun p : (List (List Int)) × Unit => W__law_thin p.1)) := by
  obtain ⟨fd, b, F, kp⟩ := fk__law_thin (w := w) (base := base) T G__law_draw
  exact ⟨_, fd, g__law_thin T, kp, b, F⟩

def W__law_mixed (k : Int) : Wp (List Int) := fun N _ => (0 ≤ k ∧ k ≤ 1000) ∧ ∀ xs : List Int, xs.Perm (rng 0 k.toNat) → N xs
theorem fd__law_mixed {w : World} {K : PySem.W.Frag} {mg : Str → Option Value} {base : Heap} (T : LC K mg) (G__law_draw : GFn PW w K mg base "_law_draw" 1 P__law_draw sp_draw) {fd : FuncData} (F : FunD K "_law_mixed" "_law_mixed" (defArgs s__law_mixed) (defBody s__law_mixed) (defScope s__law_mixed) [] [] (He.ga K "_law_mixed") fd) : FnOk PW w K mg base (L2.CX PW w) 4 (He.ga K "_law_mixed") fd P__law_mixed (spPR K (arC (α := Int) ar0) (fun z : List Int => mu z) (fun p : Int × Unit => W__law_mixed p.1)) := by
  refine F.ok sc__law_mixed (fun vs H Q E h => by obtain ⟨_, _, _, _, _, rfl, _, _, _, r, _⟩ := h; exact congrArg Nat.succ r.length) fun cdv A outer s H vs Q E hr h => ?_
  refine ⟨_, (pss_cons (ps_set (i := 2) sc__law_mixed.nd rfl (Or.inl rfl) (pe_listRg (by rfl) (by rfl) (f_list T) (prg_1 (by rfl) (f_range T) (pv 1))))
      (pss_cons (ps_set (i := 3) sc__law_mixed.nd rfl (Or.inl rfl) (pe_lst pa_nil))
      (pss_cons (ps_for (passes_of rfl) rfl (pi_range1 rfl (f_range T) (pa_cons (pv 1) pa_nil)) (pg_name (i := 4) sc__law_mixed.nd rfl (Or.inl rfl)) (pss_cons (ps_set (i := 5) sc__law_mixed.nd rfl (Or.inl rfl) (pe_g G__law_draw (hr.mono (by decide)) (takes_of rfl rfl rfl rfl) (pa_cons (pv 0) (pa_cons (pe_callB (kLen K) (by rfl) (f_len T) PySem.boot_len (pa_cons (pv 2) pa_nil)) pa_nil))))
      (pss_cons (ps_expr (kBm K PySem.F.plainAttrs_list PySem.F.slot_list_append PySem.F.type_list_append mt_append (pv 3) (pa_cons (pe_ix (kIx K) (pv 2) (pv 5) (fun _ _ => rfl)) pa_nil)))
      (pss_cons (ps_set (i := 2) sc__law_mixed.nd rfl (Or.inl rfl) (pe_op (kAdd K) (pe_slice (kSl K) (pv 2) po_none (po_some (pv 5))) (pe_slice (kSl K) (pv 2) (po_some (pe_op (kAdd K) (pv 5) pe_int)) po_none)))
      pss_nil))))
      (pss_cons (ps_ret (pv 3)) pss_nil)))), ?_⟩
  refine use_PR (Γ := fun (p0 : Addr) (x : Int × Unit) => [.o (pool p0), .v (x.1 : Int), .u, .u, .u, .u]) h (fun p0 x => ⟨_, rfl, (.v (.u (.u (.u (.u .nil)))))⟩) (fun _ _ => Nat.le_of_ble_eq_true rfl) (fun F p0 x => (s_set 2 (α := (List Int)) (e_frz (r_lrange1 (e_var 1 rfl))) .nil (fun left_1 => (s_setR 3 (α := List Int) (r_lst a_nil) .nil (fun mixed_2 => (s_for (eh := (fun s_3 : (List Int) × ((List Int)) × Unit => [.o (pool p0), .v (x.1 : Int), .v (s_3.2.1 : (List Int)), .o (mu (s_3.1 : List Int)), .u, .u])) (mixed_2, left_1, ()) (i_r1 (e_var 1 rfl)) .nil (show Wk [.o (pool p0), .v (x.1 : Int), .v (left_1 : (List Int)), .o (mu (mixed_2 : List Int)), .u, .u] [.o (pool p0), .v (x.1 : Int), .v (left_1 : (List Int)), .o (mu (mixed_2 : List Int)), .u, .u] from (.same (.same (.same (.same (.u (.u .nil))))))) (g_name 4) (fun turn_4 s_3 => (s_set 5 (α := Int) (e_draw 0 rfl (e_cb1 b_len (e_var 2 rfl))) .nil (fun place_5 => (s_append 3 (α := Int) rfl (e_op o_ix (e_var 2 rfl) (e_var 5 rfl)) .nil (fun x_6 => (s_set 2 (α := (List Int)) (e_frz (r_add (e_frz (r_sl (e_var 2 rfl) p_none (p_some (e_var 5 rfl)))) (e_frz (r_sl (e_var 2 rfl) (p_some (e_op o_add (e_var 5 rfl) (e_int _))) p_none)))) .nil (fun left_7 => (s_next ((s_3.1 ++ [x_6]), left_7, ()) (show Wk [.o (pool p0), .v (x.1 : Int), .v (left_7 : (List Int)), .o (mu ((s_3.1 ++ [x_6]) : List Int)), .v (turn_4 : Int), .v (place_5 : Int)] [.o (pool p0), .v (x.1 : Int), .v (left_7 : (List Int)), .o (mu ((s_3.1 ++ [x_6]) : List Int)), .u, .u] from (.same (.same (.same (.same (.u (.u .nil))))))))))))))) (fun s_3 => (s_retV 3 s_3.1 rfl (Nat.le_of_ble_eq_true rfl) rfl (.same .nil))))))))) (fun p0 x n hw => ?_)
  obtain ⟨k, _⟩ := x
  dsimp only at *
  obtain ⟨h0, hN⟩ := hw
  have hrl := rng_length 0 k.toNat
  have hrow := rfl (a := rng 0 k.toNat)
  revert hN
  generalize hr : rng 0 k.toNat = row at hrl
  intro hN
  rw [← hr]
  refine ⟨by unfold RgOk; omega, sl_ok (by simp), by omega, by omega, wfor_inv (fun i s => s.1.length = i ∧ (s.1 ++ s.2.1).Perm row) ⟨rfl, by simp [hr]⟩ (fun i hi s N' hs hI => ?_) fun s hs => hN _ ?_⟩
  · rw [rng_length] at hi
    obtain ⟨h1, h2⟩ := hs
    have hl := h2.length_eq
    rw [List.length_append] at hl
    refine ⟨⟨by omega, by omega⟩, fun v v0 v1 => ?_⟩
    have hv : v.toNat < s.2.1.length := by omega
    have e := List.getElem?_eq_getElem hv
    refine ⟨s.2.1[v.toNat], by rw [atI_nn v0]; exact e, sl_lt (by omega), sl_ok (Nat.le_trans (Nat.add_le_add (cutL_len _ _ _) (cutL_len _ _ _)) (by omega)), hI _ ⟨by simp [h1], ?_⟩⟩
    rw [cutL_to v0, cutL_from (by omega)]
    have e1 : (v + 1).toNat = v.toNat + 1 := by omega
    rw [e1, List.append_assoc]
    refine List.Perm.trans (List.Perm.append_left _ ?_) h2
    have e2 : s.2.1 = s.2.1.take v.toNat ++ s.2.1[v.toNat] :: s.2.1.drop (v.toNat + 1) := by rw [← List.drop_eq_getElem_cons hv, List.take_append_drop]
    conv => rhs; rw [e2]
    dsimp only; rw [List.singleton_append]; exact (List.perm_middle (a := s.2.1[v.toNat])).symm
  · rw [rng_length] at hs
    have := hs.2.length_eq
    rw [List.length_append] at this
    have e : s.2.1 = [] := List.length_eq_zero_iff.mp (by omega)
    have q := hs.2
    rw [e, List.append_nil] at q
    exact q
theorem fk__law_mixed {w : World} {K : PySem.W.Frag} {mg : Str → Option Value} {base : Heap} (T : LC K mg) (G__law_draw : GFn PW w K mg base "_law_draw" 1 P__law_draw sp_draw) : ∃ fd, Binds K fd P__law_mixed [] ∧ FnOk PW w K mg base (L2.CX PW w) 4 (He.ga K "_law_mixed") fd P__law_mixed (spPR K (arC (α := Int) ar0) (fun z : List Int => mu z) (fun p : Int × Unit => W__law_mixed p.1)) ∧ PySem.W.keepIn K (.ref (He.ga K "_law_mixed")) = true := by
  obtain ⟨fd, F⟩ := F__law_mixed T
  exact ⟨fd, (F.bindsN fun _ _ _ _ _ _ us hl => match us, hl with | [_, _], _ => rfl), fd__law_mixed T G__law_draw F, F.kp⟩
theorem G__law_mixed {w : World} {K : PySem.W.Frag} {mg : Str → Option Value} {base : Heap} (T : LC K mg) (G__law_draw : GFn PW w K mg base "_law_draw" 1 P__law_draw sp_draw) : GFn PW w K mg base "_law_mixed" 4 P__law_mixed (spPR K (arC (α := Int) ar0) (fun z : List Int => mu z) (fun p : Int × Unit => W__law_mixed p.1)) := by
  obtain ⟨fd, b, F, kp⟩ := fk__law_mixed (w := w) (base := base) T G__law_draw
  exact ⟨_, fd, g__law_mixed T, kp, b, F⟩

def W__law_house (a b c : Int) : Wp (HL (List Int × List Int × Int × List (List Int) × Unit)) := fun N _ => (0 < a ∧ a ≤ 60 ∧ 0 < b ∧ b ≤ 30 ∧ 0 ≤ c ∧ c ≤ 60) ∧ ∀ (ds ss : List Int) (g : Int) (rows : List (List Int)),
  ds.length ≤ 60 → ss.length ≤ 30 → 0 ≤ g → g ≤ 60 → (∀ x ∈ ds, 0 ≤ x ∧ x ≤ 30) → (∀ x ∈ ss, 1 ≤ x ∧ x ≤ (ds.length : Int) + 1) → rows.length = ds.length → Fits ss g rows → (∀ i : Nat, (rows.getD i []).length ≤ (ds.getD i 0).toNat) → N ⟨(ds, ss, g, rows, ())⟩
theorem fd__law_house {w : World} {K : PySem.W.Frag} {mg : Str → Option Value} {base : Heap} (T : LC K mg) (G__law_draw : GFn PW w K mg base "_law_draw" 1 P__law_draw sp_draw) (G__law_world : GFn PW w K mg base "_law_world" 5 P__law_world (spP K (arC (α := Int) (arC (α := Int) (arC (α := Int) ar0))) (fun p : Int × Int × Int × Unit => W__law_world p.1 p.2.1 p.2.2.1))) (G__law_bend_days : GFn PW w K mg base "_law_bend_days" 4 P__law_bend_days (spPR K (arC (α := (List Int)) ar0) (fun z : List Int => mu z) (fun p : (List Int) × Unit => W__law_bend_days p.1))) (G__law_wants : GFn PW w K mg base "_law_wants" 4 P__law_wants (spPR K (arC (α := Int) (arC (α := Int) ar0)) (fun z : List Int => mu z) (fun p : Int × Int × Unit => W__law_wants p.1 p.2.1))) {fd : FuncData} (F : FunD K "_law_house" "_law_house" (defArgs s__law_house) (defBody s__law_house) (defScope s__law_house) [] [] (He.ga K "_law_house") fd) : FnOk PW w K mg base (L2.CX PW w) 6 (He.ga K "_law_house") fd P__law_house (spP K (arC (α := Int) (arC (α := Int) (arC (α := Int) ar0))) (fun p : Int × Int × Int × Unit => W__law_house p.1 p.2.1 p.2.2.1)) := by
  refine F.ok sc__law_house (fun vs H Q E h => by obtain ⟨_, _, _, _, _, rfl, _, _, _, r, _⟩ := h; exact congrArg Nat.succ r.length) fun cdv A outer s H vs Q E hr h => ?_
  refine ⟨_, (pss_cons (ps_if (pt_cmpR (kEq K (hu65 hr)) (pe_g G__law_draw (hr.mono (by decide)) (takes_of rfl rfl rfl rfl) (pa_cons (pv 0) (pa_cons pe_int pa_nil))) pe_int (nomark _)) (pss_cons (ps_set (i := 3) sc__law_house.nd rfl (Or.inl rfl) pe_int)
      pss_nil) pss_nil)
      (pss_cons (ps_set (i := 4) sc__law_house.nd rfl (Or.inr rfl) (pe_g G__law_world (hr.mono (by decide)) (takes_of rfl rfl rfl rfl) (pa_cons (pv 0) (pa_cons (pv 1) (pa_cons (pv 2) (pa_cons (pv 3) pa_nil))))))
      (pss_cons (ps_set (i := 5) sc__law_house.nd rfl (Or.inr rfl) (pe_g G__law_bend_days (hr.mono (by decide)) (takes_of rfl rfl rfl rfl) (pa_cons (pv 0) (pa_cons (pe_ix (kIx K) (pv 4) pe_int (fun _ _ => rfl)) pa_nil))))
      (pss_cons (ps_if (pt_cmpR (kEq K (hu65 hr)) (pe_g G__law_draw (hr.mono (by decide)) (takes_of rfl rfl rfl rfl) (pa_cons (pv 0) (pa_cons pe_int pa_nil))) pe_int (nomark _)) (pss_cons (ps_set (i := 5) sc__law_house.nd rfl (Or.inr rfl) (pe_g G__law_wants (hr.mono (by decide)) (takes_of rfl rfl rfl rfl) (pa_cons (pv 0) (pa_cons (pe_callB (kLen K) (by rfl) (f_len T) PySem.boot_len (pa_cons (pv 5) pa_nil)) (pa_cons (pe_ix (kIx K) (pe_lst (pa_cons pe_int (pa_cons pe_int (pa_cons pe_int (pa_cons pe_int pa_nil))))) (pe_g G__law_draw (hr.mono (by decide)) (takes_of rfl rfl rfl rfl) (pa_cons (pv 0) (pa_cons pe_int pa_nil))) (fun _ _ => rfl)) pa_nil)))))
      pss_nil) pss_nil)
      (pss_cons (ps_setLc (i := 6) (own := [("place", 7)]) rfl sc__law_house.nd rfl rfl (sw_true rfl rfl rfl (by decide +kernel)) (pi_range1 rfl (f_range T) (pa_cons (pe_callB (kLen K) (by rfl) (f_len T) PySem.boot_len (pa_cons (pv 5) pa_nil)) pa_nil)) (blkOk_r (by rfl)) (fun _ _ _ _ _ => (pg_name (i := 7) sc__law_house.nd rfl (Or.inl rfl))) (fun _ _ _ _ _ => pts_nil) (fun _ _ _ _ _ => (pe_slice (kSl K) (pe_ix (kIx K) (pe_ix (kIx K) (pv 4) pe_int (fun _ _ => rfl)) (pv 7) (fun _ _ => rfl)) po_none (po_some (pe_ix (kIx K) (pv 5) (pv 7) (fun _ _ => rfl))))))
      (pss_cons (ps_ret (pe_lst (pa_cons (pv 5) (pa_cons (pe_ix (kIx K) (pv 4) pe_int (fun _ _ => rfl)) (pa_cons (pe_ix (kIx K) (pv 4) pe_int (fun _ _ => rfl)) (pa_cons (pv 6) pa_nil)))))) pss_nil)))))), ?_⟩
  refine use_P (Γ := fun (p0 : Addr) (x : Int × Int × Int × Unit) => [.o (pool p0), .v (x.1 : Int), .v (x.2.1 : Int), .v (x.2.2.1 : Int), .u, .u, .u, .u]) h (fun p0 x => ⟨_, rfl, (.v (.v (.v (.u (.u (.u (.u .nil)))))))⟩) (fun _ _ => Nat.le_of_ble_eq_true rfl) (fun F p0 x => (s_if (e1 := (fun s_1 : (Int) × Unit => [.o (pool p0), .v (x.1 : Int), .v (x.2.1 : Int), .v (s_1.1 : Int), .u, .u, .u, .u])) (c_test (e_op o_eq (e_draw 0 rfl (e_int _)) (e_int _))) .nil (s_set 3 (α := Int) (e_int _) .nil (fun most_gap_2 => (s_next (most_gap_2, ()) (show Wk [.o (pool p0), .v (x.1 : Int), .v (x.2.1 : Int), .v (most_gap_2 : Int), .u, .u, .u, .u] [.o (pool p0), .v (x.1 : Int), .v (x.2.1 : Int), .v (most_gap_2 : Int), .u, .u, .u, .u] from (.same (.same (.same (.same (.u (.u (.u (.u .nil)))))))))))) (s_next (x.2.2.1, ()) (show Wk [.o (pool p0), .v (x.1 : Int), .v (x.2.1 : Int), .v (x.2.2.1 : Int), .u, .u, .u, .u] [.o (pool p0), .v (x.1 : Int), .v (x.2.1 : Int), .v (x.2.2.1 : Int), .u, .u, .u, .u] from (.same (.same (.same (.same (.u (.u (.u (.u .nil)))))))))) (fun s_1 => (s_set 4 (α := (HL ((List Int) × (List Int) × Int × (List Int) × (List (List Int)) × Unit))) (e_callP 0 rfl (t_cons (e_var 1 rfl) (t_cons (e_var 2 rfl) (t_cons (e_var 3 rfl) t_nil)))) .nil (fun world_3 => (s_set 5 (α := (List Int)) (e_frz (r_callP 0 rfl (t_cons (e_op (o_ixH (ι := (List Int) × (List Int) × Int × (List Int) × (List (List Int)) × Unit) (β := (List Int)) 0 (fun x => x.1) (fun _ => rfl)) (e_var 4 rfl) (e_int _)) t_nil))) .nil (fun days_4 => (s_if (e1 := (fun s_5 : ((List Int)) × Unit => [.o (pool p0), .v (x.1 : Int), .v (x.2.1 : Int), .v (s_1.1 : Int), .v (world_3 : (HL ((List Int) × (List Int) × Int × (List Int) × (List (List Int)) × Unit))), .v (s_5.1 : (List Int)), .u, .u])) (c_test (e_op o_eq (e_draw 0 rfl (e_int _)) (e_int _))) .nil (s_set 5 (α := (List Int)) (e_frz (r_callP 0 rfl (t_cons (e_cb1 b_len (e_var 5 rfl)) (t_cons (e_op o_ix (e_frz (r_lst (a_cons (e_int _) (a_cons (e_int _) (a_cons (e_int _) (a_cons (e_int _) a_nil)))))) (e_draw 0 rfl (e_int _))) t_nil)))) .nil (fun days_6 => (s_next (days_6, ()) (show Wk [.o (pool p0), .v (x.1 : Int), .v (x.2.1 : Int), .v (s_1.1 : Int), .v (world_3 : (HL ((List Int) × (List Int) × Int × (List Int) × (List (List Int)) × Unit))), .v (days_6 : (List Int)), .u, .u] [.o (pool p0), .v (x.1 : Int), .v (x.2.1 : Int), .v (s_1.1 : Int), .v (world_3 : (HL ((List Int) × (List Int) × Int × (List Int) × (List (List Int)) × Unit))), .v (days_6 : (List Int)), .u, .u] from (.same (.same (.same (.same (.same (.same (.u (.u .nil)))))))))))) (s_next (days_4, ()) (show Wk [.o (pool p0), .v (x.1 : Int), .v (x.2.1 : Int), .v (s_1.1 : Int), .v (world_3 : (HL ((List Int) × (List Int) × Int × (List Int) × (List (List Int)) × Unit))), .v (days_4 : (List Int)), .u, .u] [.o (pool p0), .v (x.1 : Int), .v (x.2.1 : Int), .v (s_1.1 : Int), .v (world_3 : (HL ((List Int) × (List Int) × Int × (List Int) × (List (List Int)) × Unit))), .v (days_4 : (List Int)), .u, .u] from (.same (.same (.same (.same (.same (.same (.u (.u .nil)))))))))) (fun s_5 => (s_set 6 (α := (List (List Int))) (e_frz (r_lc1 (i := 7) (i_r1 (e_cb1 b_len (e_var 5 rfl))) rfl (fun place_7 => c_yes) (fun place_7 => (e_frz (r_sl (e_op o_ix (e_op (o_ixH (ι := (List Int) × (List Int) × Int × (List Int) × (List (List Int)) × Unit) (β := (List (List Int))) 4 (fun x => x.2.2.2.2.1) (fun _ => rfl)) (e_var 4 rfl) (e_int _)) (e_var 7 rfl)) p_none (p_some (e_op o_ix (e_var 5 rfl) (e_var 7 rfl)))))))) .nil (fun rows_8 => (s_ret (f := fun z => z) (e_hl (ι := (List Int) × (List Int) × Int × (List (List Int)) × Unit) (args := (arC (α := (List Int)) (arC (α := (List Int)) (arC (α := Int) (arC (α := (List (List Int))) ar0))))) (t_cons (e_var 5 rfl) (t_cons (e_op (o_ixH (ι := (List Int) × (List Int) × Int × (List Int) × (List (List Int)) × Unit) (β := (List Int)) 1 (fun x => x.2.1) (fun _ => rfl)) (e_var 4 rfl) (e_int _)) (t_cons (e_op (o_ixH (ι := (List Int) × (List Int) × Int × (List Int) × (List (List Int)) × Unit) (β := Int) 2 (fun x => x.2.2.1) (fun _ => rfl)) (e_var 4 rfl) (e_int _)) (t_cons (e_var 6 rfl) t_nil)))) (fun _ => rfl) (fun _ => Nat.le_of_ble_eq_true rfl)) .nil (fun _ => rfl) (fun _ => (.same .nil)))))))))))))) (fun p0 x n hw => ?_)
  obtain ⟨a, b, c, _⟩ := x
  dsimp only at *
  obtain ⟨⟨a0, a1, b0, b1, c0, c1⟩, hN⟩ := hw
  have cut : ∀ (ds : List Int) (rows : List (List Int)) (N : List (List Int) → Prop), ds.length ≤ 60 → rows.length = ds.length → (∀ x ∈ ds, 0 ≤ x ∧ x ≤ 30) → N (cutR rows ds) →
      -2 ^ 62 ≤ (ds.length : Int) ∧ (ds.length : Int) < 2 ^ 62 ∧ (rng 0 (ds.length : Int).toNat).length ≤ sizeLine ∧ wlc (rng 0 (ds.length : Int).toNat) (fun t N E => (true = true → (4 : Int) = ((4 : Nat) : Int) ∧ ∃ r, atI rows t = some r ∧ ∃ d, atI ds t = some d ∧ N (some (cutL r none (some d)))) ∧ (true = false → N none)) N (fun _ => False) := fun ds rows N hd hl h0 hN => by
    have e : cutR rows ds = (rng 0 ds.length).map fun t => (rows.getD t.toNat []).take (ds.getD t.toNat 0).toNat := by
      unfold cutR rng
      rw [List.map_map]
      refine List.map_congr_left fun q _ => ?_
      have e1 : ((0 : Int) + q).toNat = q := by omega
      simp only [Function.comp, e1]
    rw [e] at hN
    rw [toNat_coe]
    refine ⟨by omega, by omega, sl_ok (by rw [rng_length]; omega), wlc_map (fun t => (rows.getD t.toNat []).take (ds.getD t.toNat 0).toNat) (fun t ht N hN => ⟨fun _ => ⟨rfl, ?_⟩, nofun⟩) hN⟩
    obtain ⟨i, hi, e⟩ := List.mem_iff_getElem.mp ht
    rw [rng_get hi] at e
    rw [rng_length] at hi
    have hx := getD_at (xs := ds) (k := t.toNat) (by omega) 0
    exact ⟨_, by rw [atI_nn (by omega)]; exact getD_at (by omega) [], _, by rw [atI_nn (by omega)]; exact hx, by rw [cutL_to (h0 _ (List.mem_of_getElem? hx)).1]; exact hN⟩
  have fin : ∀ (ds es ss : List Int) (g : Int) (rows : List (List Int)), ds.length ≤ 60 → ss.length ≤ 30 → 0 ≤ g → g ≤ 60 → (∀ x ∈ es, 0 ≤ x ∧ x ≤ 30) → (∀ x ∈ ss, 1 ≤ x ∧ x ≤ (ds.length : Int) + 1) → rows.length = ds.length → Fits ss g rows → es.length = ds.length → n ⟨(es, ss, g, cutR rows es, ())⟩ := fun ds es ss g rows h1 h2 h3 h4 h5 h6 h7 h8 h9 =>
    hN es ss g _ (by omega) h2 h3 h4 h5 (fun x hx => by have := h6 x hx; omega) (by simp [cutR]) (h8.sub (cutR_sub (by omega))) (fun t => cutR_le rows es t)
  have main : ∀ c : Int, 0 ≤ c → c ≤ 60 → ∀ (ds ss : List Int) (g : Int) (cs : List Int) (rows : List (List Int)), ds.length ≤ 60 → ss.length ≤ 30 → 0 ≤ g → g ≤ c → (∀ x ∈ ds, 0 ≤ x ∧ x ≤ 30) → (∀ x ∈ ss, 1 ≤ x ∧ x ≤ (ds.length : Int) + 1) → rows.length = ds.length → Fits ss g rows → True := fun _ _ _ _ _ _ _ _ _ _ _ _ _ _ _ _ => True.intro
  refine ⟨⟨by decide, by decide⟩, fun v _ _ => ⟨fun _ => ⟨⟨a0, a1, b0, b1, by decide, by decide⟩, fun ds ss g cs rows h1 h2 h3 h4 h5 h6 h7 h8 => ⟨rfl, ⟨h1, h5⟩, fun es he h0 => ⟨⟨by decide, by decide⟩, fun u _ _ => ⟨fun _ => ⟨sl_ok (by decide), ⟨by decide, by decide⟩, fun w w0 w1 => ?_⟩, fun _ => ?_⟩⟩⟩⟩, fun _ => ⟨⟨a0, a1, b0, b1, c0, c1⟩, fun ds ss g cs rows h1 h2 h3 h4 h5 h6 h7 h8 => ⟨rfl, ⟨h1, h5⟩, fun es he h0 => ⟨⟨by decide, by decide⟩, fun u _ _ => ⟨fun _ => ⟨sl_ok (by decide), ⟨by decide, by decide⟩, fun w w0 w1 => ?_⟩, fun _ => ?_⟩⟩⟩⟩⟩⟩
  all_goals have he : es.length = ds.length := he
  all_goals first
    | exact cut es rows _ (by omega) (by omega) h0 ⟨rfl, rfl, fin ds es ss g rows h1 h2 h3 (by omega) h0 h6 h7 h8 he⟩
    | (have hm : ∃ m : Int, atI [5, 5, 5, 30] w = some m ∧ 0 ≤ m ∧ m ≤ 30 := by
        have : w = 0 ∨ w = 1 ∨ w = 2 ∨ w = 3 := by omega
        rcases this with e | e | e | e <;> subst e <;> exact ⟨_, rfl, by decide, by decide⟩
       obtain ⟨m, hm, m0, m1⟩ := hm
       exact ⟨m, hm, ⟨by omega, by omega, m0, by omega⟩, fun xs hx hxs => cut xs rows _ (by omega) (by omega) (fun z hz => by have := hxs z hz; omega) ⟨rfl, rfl, fin ds xs ss g rows h1 h2 h3 (by omega) (fun z hz => by have := hxs z hz; omega) h6 h7 h8 (by omega)⟩⟩)
theorem fk__law_house {w : World} {K : PySem.W.Frag} {mg : Str → Option Value} {base : Heap} (T : LC K mg) (G__law_draw : GFn PW w K mg base "_law_draw" 1 P__law_draw sp_draw) (G__law_world : GFn PW w K mg base "_law_world" 5 P__law_world (spP K (arC (α := Int) (arC (α := Int) (arC (α := Int) ar0))) (fun p : Int × Int × Int × Unit => W__law_world p.1 p.2.1 p.2.2.1))) (G__law_bend_days : GFn PW w K mg base "_law_bend_days" 4 P__law_bend_days (spPR K (arC (α := (List Int)) ar0) (fun z : List Int => mu z) (fun p : (List Int) × Unit => W__law_bend_days p.1))) (G__law_wants : GFn PW w K mg base "_law_wants" 4 P__law_wants (spPR K (arC (α := Int) (arC (α := Int) ar0)) (fun z : List Int => mu z) (fun p : Int × Int × Unit => W__law_wants p.1 p.2.1))) : ∃ fd, Binds K fd P__law_house [] ∧ FnOk PW w K mg base (L2.CX PW w) 6 (He.ga K "_law_house") fd P__law_house (spP K (arC (α := Int) (arC (α := Int) (arC (α := Int) ar0))) (fun p : Int × Int × Int × Unit => W__law_house p.1 p.2.1 p.2.2.1)) ∧ PySem.W.keepIn K (.ref (He.ga K "_law_house")) = true := by
  obtain ⟨fd, F⟩ := F__law_house T
  exact ⟨fd, (F.bindsN fun _ _ _ _ _ _ us hl => match us, hl with | [_, _, _, _], _ => rfl), fd__law_house T G__law_draw G__law_world G__law_bend_days G__law_wants F, F.kp⟩
theorem G__law_house {w : World} {K : PySem.W.Frag} {mg : Str → Option Value} {base : Heap} (T : LC K mg) (G__law_draw : GFn PW w K mg base "_law_draw" 1 P__law_draw sp_draw) (G__law_world : GFn PW w K mg base "_law_world" 5 P__law_world (spP K (arC (α := Int) (arC (α := Int) (arC (α := Int) ar0))) (fun p : Int × Int × Int × Unit => W__law_world p.1 p.2.1 p.2.2.1))) (G__law_bend_days : GFn PW w K mg base "_law_bend_days" 4 P__law_bend_days (spPR K (arC (α := (List Int)) ar0) (fun z : List Int => mu z) (fun p : (List Int) × Unit => W__law_bend_days p.1))) (G__law_wants : GFn PW w K mg base "_law_wants" 4 P__law_wants (spPR K (arC (α := Int) (arC (α := Int) ar0)) (fun z : List Int => mu z) (fun p : Int × Int × Unit => W__law_wants p.1 p.2.1))) : GFn PW w K mg base "_law_house" 6 P__law_house (spP K (arC (α := Int) (arC (α := Int) (arC (α := Int) ar0))) (fun p : Int × Int × Int × Unit => W__law_house p.1 p.2.1 p.2.2.1)) := by
  obtain ⟨fd, b, F, kp⟩ := fk__law_house (w := w) (base := base) T G__law_draw G__law_world G__law_bend_days G__law_wants
  exact ⟨_, fd, g__law_house T, kp, b, F⟩

def W__law_large : Wp (HL (List Int × List Int × Int × List (List Int) × Unit)) := fun N _ => ∀ (ds ss : List Int) (g : Int) (rows : List (List Int)),
  ds.length ≤ 60 → ss.length ≤ 30 → 0 ≤ g → g ≤ 60 → (∀ x ∈ ds, 0 ≤ x ∧ x ≤ 30) → (∀ x ∈ ss, 1 ≤ x ∧ x ≤ (ds.length : Int) + 1) → rows.length = ds.length → Fits ss g rows → (∀ i : Nat, (rows.getD i []).length ≤ (ds.getD i 0).toNat) → N ⟨(ds, ss, g, rows, ())⟩
theorem fd__law_large {w : World} {K : PySem.W.Frag} {mg : Str → Option Value} {base : Heap} (T : LC K mg) (G__law_draw : GFn PW w K mg base "_law_draw" 1 P__law_draw sp_draw) (G__law_wants : GFn PW w K mg base "_law_wants" 4 P__law_wants (spPR K (arC (α := Int) (arC (α := Int) ar0)) (fun z : List Int => mu z) (fun p : Int × Int × Unit => W__law_wants p.1 p.2.1))) (G__law_comings : GFn PW w K mg base "_law_comings" 4 P__law_comings (spPR K (arC (α := Int) (arC (α := Int) ar0)) (fun z : List Int => mu z) (fun p : Int × Int × Unit => W__law_comings p.1 p.2.1))) (G__law_cut : GFn PW w K mg base "_law_cut" 4 P__law_cut (spR K (arC (α := (List (List Int))) (arC (α := (List Int)) ar0)) (fun z : List (List Int) => mu z) (fun p : (List (List Int)) × (List Int) × Unit => W__law_cut p.1 p.2.1))) (G__law_rows : GFn PW w K mg base "_law_rows" 4 P__law_rows (spPR K (arC (α := Int) (arC (α := (List Int)) (arC (α := Int) (arC (α := Int) ar0)))) (fun z : List (List Int) => mu z) (fun p : Int × (List Int) × Int × Int × Unit => W__law_rows p.1 p.2.1 p.2.2.1 p.2.2.2.1))) {fd : FuncData} (F : FunD K "_law_large" "_law_large" (defArgs s__law_large) (defBody s__law_large) (defScope s__law_large) [] [] (He.ga K "_law_large") fd) : FnOk PW w K mg base (L2.CX PW w) 5 (He.ga K "_law_large") fd P__law_large (spP K ar0 (fun _ : Unit => W__law_large)) := by
  refine F.ok sc__law_large (fun vs H Q E h => by obtain ⟨_, _, _, _, _, rfl, _, _, _, r, _⟩ := h; exact congrArg Nat.succ r.length) fun cdv A outer s H vs Q E hr h => ?_
  refine ⟨_, (pss_cons (ps_set (i := 1) sc__law_large.nd rfl (Or.inl rfl) (pe_op (kAdd K) pe_int (pe_g G__law_draw (hr.mono (by decide)) (takes_of rfl rfl rfl rfl) (pa_cons (pv 0) (pa_cons pe_int pa_nil)))))
      (pss_cons (ps_set (i := 2) sc__law_large.nd rfl (Or.inl rfl) (pe_g G__law_draw (hr.mono (by decide)) (takes_of rfl rfl rfl rfl) (pa_cons (pv 0) (pa_cons pe_int pa_nil))))
      (pss_cons (ps_set (i := 3) sc__law_large.nd rfl (Or.inl rfl) (pe_g G__law_wants (hr.mono (by decide)) (takes_of rfl rfl rfl rfl) (pa_cons (pv 0) (pa_cons (pv 1) (pa_cons pe_int pa_nil)))))
      (pss_cons (ps_set (i := 4) sc__law_large.nd rfl (Or.inl rfl) (pe_g G__law_comings (hr.mono (by decide)) (takes_of rfl rfl rfl rfl) (pa_cons (pv 0) (pa_cons pe_int (pa_cons (pv 1) pa_nil)))))
      (pss_cons (ps_ret (pe_lst (pa_cons (pv 3) (pa_cons (pv 4) (pa_cons (pv 2) (pa_cons (pe_g G__law_cut (hr.mono (by decide)) (takes_of rfl rfl rfl rfl) (pa_cons (pe_g G__law_rows (hr.mono (by decide)) (takes_of rfl rfl rfl rfl) (pa_cons (pv 0) (pa_cons (pv 1) (pa_cons (pv 4) (pa_cons (pv 2) (pa_cons pe_int pa_nil)))))) (pa_cons (pv 3) pa_nil))) pa_nil)))))) pss_nil))))), ?_⟩
  refine use_P (Γ := fun (p0 : Addr) (x : Unit) => [.o (pool p0), .u, .u, .u, .u]) h (fun p0 x => ⟨_, rfl, (.u (.u (.u (.u .nil))))⟩) (fun _ _ => Nat.le_of_ble_eq_true rfl) (fun F p0 x => (s_set 1 (α := Int) (e_op o_add (e_int _) (e_draw 0 rfl (e_int _))) .nil (fun nights_1 => (s_set 2 (α := Int) (e_draw 0 rfl (e_int _)) .nil (fun gap_2 => (s_set 3 (α := (List Int)) (e_frz (r_callP 0 rfl (t_cons (e_var 1 rfl) (t_cons (e_int _) t_nil)))) .nil (fun days_3 => (s_set 4 (α := (List Int)) (e_frz (r_callP 0 rfl (t_cons (e_int _) (t_cons (e_var 1 rfl) t_nil)))) .nil (fun starts_4 => (s_ret (f := fun z => z) (e_hl (ι := (List Int) × (List Int) × Int × (List (List Int)) × Unit) (args := (arC (α := (List Int)) (arC (α := (List Int)) (arC (α := Int) (arC (α := (List (List Int))) ar0))))) (t_cons (e_var 3 rfl) (t_cons (e_var 4 rfl) (t_cons (e_var 2 rfl) (t_cons (e_frz (r_call (t_cons (e_frz (r_callP 0 rfl (t_cons (e_var 1 rfl) (t_cons (e_var 4 rfl) (t_cons (e_var 2 rfl) (t_cons (e_int _) t_nil)))))) (t_cons (e_var 3 rfl) t_nil)))) t_nil)))) (fun _ => rfl) (fun _ => Nat.le_of_ble_eq_true rfl)) .nil (fun _ => rfl) (fun _ => (.same .nil)))))))))))) (fun p0 x n hw => ?_)
  dsimp only at *
  refine ⟨⟨by decide, by decide⟩, fun v v0 v1 => ⟨⟨by decide, by decide⟩, fun u u0 u1 => ⟨⟨by omega, by omega, by omega, by omega⟩, fun ds hd hds => ⟨⟨by omega, by omega, by omega, by omega⟩, fun ss hl hs => ⟨⟨by omega, by omega, by omega, by omega, by omega, by omega⟩, fun rows hr hf => ⟨⟨by omega, by omega, fun x hx => (hds x hx).1⟩, ?_⟩⟩⟩⟩⟩⟩
  exact hw ds ss u _ (by omega) (by omega) u0 (by omega) (fun x hx => by have := hds x hx; omega) (fun x hx => by have := hs x hx; omega) (by simp [cutR]) (hf.sub (cutR_sub (by omega))) (fun t => cutR_le rows ds t)
theorem fk__law_large {w : World} {K : PySem.W.Frag} {mg : Str → Option Value} {base : Heap} (T : LC K mg) (G__law_draw : GFn PW w K mg base "_law_draw" 1 P__law_draw sp_draw) (G__law_wants : GFn PW w K mg base "_law_wants" 4 P__law_wants (spPR K (arC (α := Int) (arC (α := Int) ar0)) (fun z : List Int => mu z) (fun p : Int × Int × Unit => W__law_wants p.1 p.2.1))) (G__law_comings : GFn PW w K mg base "_law_comings" 4 P__law_comings (spPR K (arC (α := Int) (arC (α := Int) ar0)) (fun z : List Int => mu z) (fun p : Int × Int × Unit => W__law_comings p.1 p.2.1))) (G__law_cut : GFn PW w K mg base "_law_cut" 4 P__law_cut (spR K (arC (α := (List (List Int))) (arC (α := (List Int)) ar0)) (fun z : List (List Int) => mu z) (fun p : (List (List Int)) × (List Int) × Unit => W__law_cut p.1 p.2.1))) (G__law_rows : GFn PW w K mg base "_law_rows" 4 P__law_rows (spPR K (arC (α := Int) (arC (α := (List Int)) (arC (α := Int) (arC (α := Int) ar0)))) (fun z : List (List Int) => mu z) (fun p : Int × (List Int) × Int × Int × Unit => W__law_rows p.1 p.2.1 p.2.2.1 p.2.2.2.1))) : ∃ fd, Binds K fd P__law_large [] ∧ FnOk PW w K mg base (L2.CX PW w) 5 (He.ga K "_law_large") fd P__law_large (spP K ar0 (fun _ : Unit => W__law_large)) ∧ PySem.W.keepIn K (.ref (He.ga K "_law_large")) = true := by
  obtain ⟨fd, F⟩ := F__law_large T
  exact ⟨fd, (F.bindsN fun _ _ _ _ _ _ us hl => match us, hl with | [_], _ => rfl), fd__law_large T G__law_draw G__law_wants G__law_comings G__law_cut G__law_rows F, F.kp⟩
theorem G__law_large {w : World} {K : PySem.W.Frag} {mg : Str → Option Value} {base : Heap} (T : LC K mg) (G__law_draw : GFn PW w K mg base "_law_draw" 1 P__law_draw sp_draw) (G__law_wants : GFn PW w K mg base "_law_wants" 4 P__law_wants (spPR K (arC (α := Int) (arC (α := Int) ar0)) (fun z : List Int => mu z) (fun p : Int × Int × Unit => W__law_wants p.1 p.2.1))) (G__law_comings : GFn PW w K mg base "_law_comings" 4 P__law_comings (spPR K (arC (α := Int) (arC (α := Int) ar0)) (fun z : List Int => mu z) (fun p : Int × Int × Unit => W__law_comings p.1 p.2.1))) (G__law_cut : GFn PW w K mg base "_law_cut" 4 P__law_cut (spR K (arC (α := (List (List Int))) (arC (α := (List Int)) ar0)) (fun z : List (List Int) => mu z) (fun p : (List (List Int)) × (List Int) × Unit => W__law_cut p.1 p.2.1))) (G__law_rows : GFn PW w K mg base "_law_rows" 4 P__law_rows (spPR K (arC (α := Int) (arC (α := (List Int)) (arC (α := Int) (arC (α := Int) ar0)))) (fun z : List (List Int) => mu z) (fun p : Int × (List Int) × Int × Int × Unit => W__law_rows p.1 p.2.1 p.2.2.1 p.2.2.2.1))) : GFn PW w K mg base "_law_large" 5 P__law_large (spP K ar0 (fun _ : Unit => W__law_large)) := by
  obtain ⟨fd, b, F, kp⟩ := fk__law_large (w := w) (base := base) T G__law_draw G__law_wants G__law_comings G__law_cut G__law_rows
  exact ⟨_, fd, g__law_large T, kp, b, F⟩

def W__law_steepest (h : HouseT) (part : HL (List Int × List Int × Int × List (List Int) × Unit)) (od : List Int) (plans : List (List Int)) : Wp Bool := fun N _ => (h.Ok ∧ part.v.1 = h.wants.numbers.items ∧ part.v.2.1 = h.comings.items ∧ part.v.2.2.1 = h.rest ∧ od.Perm (rng 0 h.p) ∧ ∀ pl ∈ plans, ∃ on : Int → Nat → Bool, PlanOk h on ∧ pl = (List.range h.p).map fun q : Nat => onCount h on (q : Int)) ∧ N true
theorem fd__law_steepest {w : World} {K : PySem.W.Frag} {mg : Str → Option Value} {base : Heap} (T : LC K mg) (G_order_counts : GFn PW w K mg base "order_counts" 13 P_order_counts (spR K (arC (α := HouseT) (arC (α := (List Int)) ar0)) (fun z : List Int => mu z) (fun p : HouseT × (List Int) × Unit => W_order_counts p.1 p.2.1))) (G__law_ints : GFn PW w K mg base "_law_ints" 5 P__law_ints (spF K (arC (α := (List Int)) ar0) (fun p : (List Int) × Unit => W__law_ints p.1))) (G__law_same : GFn PW w K mg base "_law_same" 9 P__law_same (spF K (arC (α := PV) (arC (α := PV) ar0)) (fun p : PV × PV × Unit =>  W__law_same 4 p.1 p.2.1))) (G__law_first : GFn PW w K mg base "_law_first" 4 P__law_first (spR K (arC (α := (List Int)) (arC (α := (List Int)) (arC (α := Int) (arC (α := (List Int)) ar0)))) (fun z : List Int => mu z) (fun p : (List Int) × (List Int) × Int × (List Int) × Unit => W__law_first p.1 p.2.1 p.2.2.1 p.2.2.2.1))) (G_most_of : GFn PW w K mg base "most_of" 10 P_most_of (spF K (arC (α := HouseT) (arC (α := (List Int)) ar0)) (fun p : HouseT × (List Int) × Unit => W_most_of p.1 p.2.1))) {fd : FuncData} (F : FunD K "_law_steepest" "_law_steepest" (defArgs s__law_steepest) (defBody s__law_steepest) (defScope s__law_steepest) [] [] (He.ga K "_law_steepest") fd) : FnOk PW w K mg base (L2.CX PW w) 14 (He.ga K "_law_steepest") fd P__law_steepest (spF K (arC (α := HouseT) (arC (α := (HL ((List Int) × (List Int) × Int × (List (List Int)) × Unit))) (arC (α := (List Int)) (arC (α := (List (List Int))) ar0)))) (fun p : HouseT × (HL ((List Int) × (List Int) × Int × (List (List Int)) × Unit)) × (List Int) × (List (List Int)) × Unit => W__law_steepest p.1 p.2.1 p.2.2.1 p.2.2.2.1)) := by
  refine F.ok sc__law_steepest (fun vs H Q E h => by obtain ⟨_, _, _, _, _, r, _⟩ := h; exact r.length) fun cdv A outer s H vs Q E hr h => ?_
  refine ⟨_, (pss_cons (ps_set (i := 4) sc__law_steepest.nd rfl (Or.inl rfl) (pe_callTy (kList K) (by rfl) (f_list T) (by decide +kernel) (pa_cons (pv 2) pa_nil)))
      (pss_cons (ps_set (i := 5) sc__law_steepest.nd rfl (Or.inr rfl) (pe_g G_order_counts (hr.mono (by decide)) (takes_of rfl rfl rfl rfl) (pa_cons (pv 0) (pa_cons (pv 4) pa_nil))))
      (pss_cons (ps_if (PW.pt (pw_or (pt_not (pt_val (pe_callB (kIsi K) (by rfl) (f_isinstance T) (by decide +kernel) (pa_cons (pv 5) (pa_cons (pe_bltn (u := .type "list") (v := .ty "list") (by rfl) (f_list T) (by decide +kernel) rfl) pa_nil))))) (pw_or (pt_cmpR (kNe K (hu65 hr)) (pe_callB (kLen K) (by rfl) (f_len T) PySem.boot_len (pa_cons (pv 5) pa_nil)) (pe_callB (kLen K) (by rfl) (f_len T) PySem.boot_len (pa_cons (pv 2) pa_nil)) (nomark _)) (pw_or1 (pt_not (pt_val (pe_g G__law_ints (hr.mono (by decide)) (takes_of rfl rfl rfl rfl) (pa_cons (pv 5) pa_nil)))))))) (pss_cons (ps_ret pe_bl) pss_nil) pss_nil)
      (pss_cons (ps_if (pt_not (pt_val (pe_g G__law_same (hr.mono (by decide)) (takes_of rfl rfl rfl rfl) (pa_cons (pv 4) (pa_cons (pv 2) pa_nil))))) (pss_cons (ps_ret pe_bl) pss_nil) pss_nil)
      (pss_cons (ps_for (passes_of rfl) rfl (pi_range1 rfl (f_range T) (pa_cons (pe_op (kAdd K) (pe_callB (kLen K) (by rfl) (f_len T) PySem.boot_len (pa_cons (pv 2) pa_nil)) pe_int) pa_nil)) (pg_name (i := 6) sc__law_steepest.nd rfl (Or.inl rfl)) (pss_cons (ps_set (i := 7) sc__law_steepest.nd rfl (Or.inl rfl) (pe_slice (kSl K) (pv 2) po_none (po_some (pv 6))))
      (pss_cons (ps_set (i := 8) sc__law_steepest.nd rfl (Or.inl rfl) (pe_callB (kSum K rfl) (by rfl) (f_sum T) (by decide +kernel) (pa_cons (pe_lc (own := [("person", 11)]) rfl sc__law_steepest.nd (kiList K (pv 7)) (blkOk_r (by rfl)) (fun _ _ _ _ _ => (pg_name (i := 11) sc__law_steepest.nd rfl (Or.inl rfl))) (fun _ _ _ _ _ => pts_nil) (fun _ _ _ _ _ => (pe_ix (kIx K) (pv 5) (pv 11) (fun _ _ => rfl)))) pa_nil)))
      (pss_cons (ps_set (i := 9) sc__law_steepest.nd rfl (Or.inl rfl) (pe_callB (kSum K rfl) (by rfl) (f_sum T) (by decide +kernel) (pa_cons (pe_g G__law_first (hr.mono (by decide)) (takes_of rfl rfl rfl rfl) (pa_cons (pe_ix (kIx K) (pv 1) pe_int (fun _ _ => rfl)) (pa_cons (pe_ix (kIx K) (pv 1) pe_int (fun _ _ => rfl)) (pa_cons (pe_ix (kIx K) (pv 1) pe_int (fun _ _ => rfl)) (pa_cons (pv 7) pa_nil))))) pa_nil)))
      (pss_cons (ps_if (PW.pt (pw_or (pt_cmpR (kNe K (hu65 hr)) (pv 8) (pv 9) (nomark _)) (pw_or1 (pt_not (pt_val (pe_g G__law_same (hr.mono (by decide)) (takes_of rfl rfl rfl rfl) (pa_cons (pe_g G_most_of (hr.mono (by decide)) (takes_of rfl rfl rfl rfl) (pa_cons (pv 0) (pa_cons (pe_callTy (kList K) (by rfl) (f_list T) (by decide +kernel) (pa_cons (pv 7) pa_nil)) pa_nil))) (pa_cons (pv 9) pa_nil)))))))) (pss_cons (ps_ret pe_bl) pss_nil) pss_nil)
      (pss_cons (ps_for (passes_of rfl) rfl (kiList K (pv 3)) (pg_name (i := 10) sc__law_steepest.nd rfl (Or.inr rfl)) (pss_cons (ps_if (pt_cmpR op_gt (pe_callB (kSum K rfl) (by rfl) (f_sum T) (by decide +kernel) (pa_cons (pe_lc (own := [("person", 11)]) rfl sc__law_steepest.nd (kiList K (pv 7)) (blkOk_r (by rfl)) (fun _ _ _ _ _ => (pg_name (i := 11) sc__law_steepest.nd rfl (Or.inl rfl))) (fun _ _ _ _ _ => pts_nil) (fun _ _ _ _ _ => (pe_ix (kIx K) (pv 10) (pv 11) (fun _ _ => rfl)))) pa_nil)) (pv 8) (nomark _)) (pss_cons (ps_ret pe_bl) pss_nil) pss_nil) pss_nil))
      pss_nil))))))
      (pss_cons (ps_ret pe_bl) pss_nil)))))), ?_⟩
  refine use_F (Γ := fun x : HouseT × (HL ((List Int) × (List Int) × Int × (List (List Int)) × Unit)) × (List Int) × (List (List Int)) × Unit => [.v (x.1 : HouseT), .v (x.2.1 : (HL ((List Int) × (List Int) × Int × (List (List Int)) × Unit))), .v (x.2.2.1 : (List Int)), .v (x.2.2.2.1 : (List (List Int))), .u, .u, .u, .u, .u, .u, .u, .u]) (fun _ => False) (fun _ z => z.elim) h (fun x => (.v (.v (.v (.v (.u (.u (.u (.u (.u (.u (.u (.u .nil))))))))))))) (fun _ => Nat.le_of_ble_eq_true rfl) (fun F x => (s_set 4 (α := (List Int)) (e_frz (r_list (e_var 2 rfl))) .nil (fun handed_1 => (s_set 5 (α := (List Int)) (e_frz (r_call (t_cons (e_var 0 rfl) (t_cons (e_var 4 rfl) t_nil)))) .nil (fun found_2 => (s_if (e1 := (fun _ : Unit => [.v (x.1 : HouseT), .v (x.2.1 : (HL ((List Int) × (List Int) × Int × (List (List Int)) × Unit))), .v (x.2.2.1 : (List Int)), .v (x.2.2.2.1 : (List (List Int))), .v (handed_1 : (List Int)), .v (found_2 : (List Int)), .u, .u, .u, .u, .u, .u])) (c_or (c_not (c_val (e_isiC (α := (List Int)) "list" "list" (fun _ => rfl) (e_var 5 rfl)))) (c_or (c_test (e_op o_ne (e_cb1 b_len (e_var 5 rfl)) (e_cb1 b_len (e_var 2 rfl)))) (c_not (c_val (e_call (t_cons (e_var 5 rfl) t_nil)))))) .nil (s_ret (f := fun z => z) (e_bl _) .nil (fun _ => rfl) (fun _ => .nil)) (s_next () (show Wk [.v (x.1 : HouseT), .v (x.2.1 : (HL ((List Int) × (List Int) × Int × (List (List Int)) × Unit))), .v (x.2.2.1 : (List Int)), .v (x.2.2.2.1 : (List (List Int))), .v (handed_1 : (List Int)), .v (found_2 : (List Int)), .u, .u, .u, .u, .u, .u] [.v (x.1 : HouseT), .v (x.2.1 : (HL ((List Int) × (List Int) × Int × (List (List Int)) × Unit))), .v (x.2.2.1 : (List Int)), .v (x.2.2.2.1 : (List (List Int))), .v (handed_1 : (List Int)), .v (found_2 : (List Int)), .u, .u, .u, .u, .u, .u] from (.same (.same (.same (.same (.same (.same (.u (.u (.u (.u (.u (.u .nil)))))))))))))) (fun _ => (s_if (e1 := (fun _ : Unit => [.v (x.1 : HouseT), .v (x.2.1 : (HL ((List Int) × (List Int) × Int × (List (List Int)) × Unit))), .v (x.2.2.1 : (List Int)), .v (x.2.2.2.1 : (List (List Int))), .v (handed_1 : (List Int)), .v (found_2 : (List Int)), .u, .u, .u, .u, .u, .u])) (c_not (c_val (e_call (t_cons (e_as (toP : (List Int) → PV) (fun _ => rfl) (e_var 4 rfl)) (t_cons (e_as (toP : (List Int) → PV) (fun _ => rfl) (e_var 2 rfl)) t_nil))))) .nil (s_ret (f := fun z => z) (e_bl _) .nil (fun _ => rfl) (fun _ => .nil)) (s_next () (show Wk [.v (x.1 : HouseT), .v (x.2.1 : (HL ((List Int) × (List Int) × Int × (List (List Int)) × Unit))), .v (x.2.2.1 : (List Int)), .v (x.2.2.2.1 : (List (List Int))), .v (handed_1 : (List Int)), .v (found_2 : (List Int)), .u, .u, .u, .u, .u, .u] [.v (x.1 : HouseT), .v (x.2.1 : (HL ((List Int) × (List Int) × Int × (List (List Int)) × Unit))), .v (x.2.2.1 : (List Int)), .v (x.2.2.2.1 : (List (List Int))), .v (handed_1 : (List Int)), .v (found_2 : (List Int)), .u, .u, .u, .u, .u, .u] from (.same (.same (.same (.same (.same (.same (.u (.u (.u (.u (.u (.u .nil)))))))))))))) (fun _ => (s_for (eh := (fun s_5 : Unit => [.v (x.1 : HouseT), .v (x.2.1 : (HL ((List Int) × (List Int) × Int × (List (List Int)) × Unit))), .v (x.2.2.1 : (List Int)), .v (x.2.2.2.1 : (List (List Int))), .v (handed_1 : (List Int)), .v (found_2 : (List Int)), .u, .u, .u, .u, .u, .u])) (()) (i_r1 (e_op o_add (e_cb1 b_len (e_var 2 rfl)) (e_int _))) .nil (show Wk [.v (x.1 : HouseT), .v (x.2.1 : (HL ((List Int) × (List Int) × Int × (List (List Int)) × Unit))), .v (x.2.2.1 : (List Int)), .v (x.2.2.2.1 : (List (List Int))), .v (handed_1 : (List Int)), .v (found_2 : (List Int)), .u, .u, .u, .u, .u, .u] [.v (x.1 : HouseT), .v (x.2.1 : (HL ((List Int) × (List Int) × Int × (List (List Int)) × Unit))), .v (x.2.2.1 : (List Int)), .v (x.2.2.2.1 : (List (List Int))), .v (handed_1 : (List Int)), .v (found_2 : (List Int)), .u, .u, .u, .u, .u, .u] from (.same (.same (.same (.same (.same (.same (.u (.u (.u (.u (.u (.u .nil))))))))))))) (g_name 6) (fun size_6 s_5 => (s_set 7 (α := (List Int)) (e_frz (r_sl (e_var 2 rfl) p_none (p_some (e_var 6 rfl)))) .nil (fun group_7 => (s_set 8 (α := Int) (e_cb1 b_sum (e_frz (r_lc1 (i := 11) (i_list (e_var 7 rfl)) rfl (fun person_8 => c_yes) (fun person_8 => (e_op o_ix (e_var 5 rfl) (e_var 11 rfl)))))) .nil (fun kept_9 => (s_set 9 (α := Int) (e_cb1 b_sum (e_frz (r_call (t_cons (e_op (o_ixH (ι := (List Int) × (List Int) × Int × (List (List Int)) × Unit) (β := (List Int)) 0 (fun x => x.1) (fun _ => rfl)) (e_var 1 rfl) (e_int _)) (t_cons (e_op (o_ixH (ι := (List Int) × (List Int) × Int × (List (List Int)) × Unit) (β := (List Int)) 1 (fun x => x.2.1) (fun _ => rfl)) (e_var 1 rfl) (e_int _)) (t_cons (e_op (o_ixH (ι := (List Int) × (List Int) × Int × (List (List Int)) × Unit) (β := Int) 2 (fun x => x.2.2.1) (fun _ => rfl)) (e_var 1 rfl) (e_int _)) (t_cons (e_var 7 rfl) t_nil))))))) .nil (fun due_10 => (s_if (e1 := (fun _ : Unit => [.v (x.1 : HouseT), .v (x.2.1 : (HL ((List Int) × (List Int) × Int × (List (List Int)) × Unit))), .v (x.2.2.1 : (List Int)), .v (x.2.2.2.1 : (List (List Int))), .v (handed_1 : (List Int)), .v (found_2 : (List Int)), .v (size_6 : Int), .v (group_7 : (List Int)), .v (kept_9 : Int), .v (due_10 : Int), .u, .u])) (c_or (c_test (e_op o_ne (e_var 8 rfl) (e_var 9 rfl))) (c_not (c_val (e_call (t_cons (e_as (toP : Int → PV) (fun _ => rfl) (e_call (t_cons (e_var 0 rfl) (t_cons (e_frz (r_list (e_var 7 rfl))) t_nil)))) (t_cons (e_as (toP : Int → PV) (fun _ => rfl) (e_var 9 rfl)) t_nil)))))) .nil (s_ret (f := fun z => z) (e_bl _) .nil (fun _ => rfl) (fun _ => .nil)) (s_next () (show Wk [.v (x.1 : HouseT), .v (x.2.1 : (HL ((List Int) × (List Int) × Int × (List (List Int)) × Unit))), .v (x.2.2.1 : (List Int)), .v (x.2.2.2.1 : (List (List Int))), .v (handed_1 : (List Int)), .v (found_2 : (List Int)), .v (size_6 : Int), .v (group_7 : (List Int)), .v (kept_9 : Int), .v (due_10 : Int), .u, .u] [.v (x.1 : HouseT), .v (x.2.1 : (HL ((List Int) × (List Int) × Int × (List (List Int)) × Unit))), .v (x.2.2.1 : (List Int)), .v (x.2.2.2.1 : (List (List Int))), .v (handed_1 : (List Int)), .v (found_2 : (List Int)), .v (size_6 : Int), .v (group_7 : (List Int)), .v (kept_9 : Int), .v (due_10 : Int), .u, .u] from (.same (.same (.same (.same (.same (.same (.same (.same (.same (.same (.u (.u .nil)))))))))))))) (fun _ => (s_for (eh := (fun s_12 : Unit => [.v (x.1 : HouseT), .v (x.2.1 : (HL ((List Int) × (List Int) × Int × (List (List Int)) × Unit))), .v (x.2.2.1 : (List Int)), .v (x.2.2.2.1 : (List (List Int))), .v (handed_1 : (List Int)), .v (found_2 : (List Int)), .v (size_6 : Int), .v (group_7 : (List Int)), .v (kept_9 : Int), .v (due_10 : Int), .u, .u])) (()) (i_list (e_var 3 rfl)) .nil (show Wk [.v (x.1 : HouseT), .v (x.2.1 : (HL ((List Int) × (List Int) × Int × (List (List Int)) × Unit))), .v (x.2.2.1 : (List Int)), .v (x.2.2.2.1 : (List (List Int))), .v (handed_1 : (List Int)), .v (found_2 : (List Int)), .v (size_6 : Int), .v (group_7 : (List Int)), .v (kept_9 : Int), .v (due_10 : Int), .u, .u] [.v (x.1 : HouseT), .v (x.2.1 : (HL ((List Int) × (List Int) × Int × (List (List Int)) × Unit))), .v (x.2.2.1 : (List Int)), .v (x.2.2.2.1 : (List (List Int))), .v (handed_1 : (List Int)), .v (found_2 : (List Int)), .v (size_6 : Int), .v (group_7 : (List Int)), .v (kept_9 : Int), .v (due_10 : Int), .u, .u] from (.same (.same (.same (.same (.same (.same (.same (.same (.same (.same (.u (.u .nil))))))))))))) (g_name 10) (fun plan_13 s_12 => (s_if0 (c_test (e_op o_cmp (e_cb1 b_sum (e_frz (r_lc1 (i := 11) (i_list (e_var 7 rfl)) rfl (fun person_15 => c_yes) (fun person_15 => (e_op o_ix (e_var 10 rfl) (e_var 11 rfl)))))) (e_var 8 rfl))) .nil (s_ret (f := fun z => z) (e_bl _) .nil (fun _ => rfl) (fun _ => .nil)) (s_next (()) (show Wk [.v (x.1 : HouseT), .v (x.2.1 : (HL ((List Int) × (List Int) × Int × (List (List Int)) × Unit))), .v (x.2.2.1 : (List Int)), .v (x.2.2.2.1 : (List (List Int))), .v (handed_1 : (List Int)), .v (found_2 : (List Int)), .v (size_6 : Int), .v (group_7 : (List Int)), .v (kept_9 : Int), .v (due_10 : Int), .v (plan_13 : (List Int)), .u] [.v (x.1 : HouseT), .v (x.2.1 : (HL ((List Int) × (List Int) × Int × (List (List Int)) × Unit))), .v (x.2.2.1 : (List Int)), .v (x.2.2.2.1 : (List (List Int))), .v (handed_1 : (List Int)), .v (found_2 : (List Int)), .v (size_6 : Int), .v (group_7 : (List Int)), .v (kept_9 : Int), .v (due_10 : Int), .u, .u] from (.same (.same (.same (.same (.same (.same (.same (.same (.same (.same (.u (.u .nil)))))))))))))))) (fun s_12 => (s_next (()) (show Wk [.v (x.1 : HouseT), .v (x.2.1 : (HL ((List Int) × (List Int) × Int × (List (List Int)) × Unit))), .v (x.2.2.1 : (List Int)), .v (x.2.2.2.1 : (List (List Int))), .v (handed_1 : (List Int)), .v (found_2 : (List Int)), .v (size_6 : Int), .v (group_7 : (List Int)), .v (kept_9 : Int), .v (due_10 : Int), .u, .u] [.v (x.1 : HouseT), .v (x.2.1 : (HL ((List Int) × (List Int) × Int × (List (List Int)) × Unit))), .v (x.2.2.1 : (List Int)), .v (x.2.2.2.1 : (List (List Int))), .v (handed_1 : (List Int)), .v (found_2 : (List Int)), .u, .u, .u, .u, .u, .u] from (.same (.same (.same (.same (.same (.same (.u (.u (.u (.u (.u (.u .nil))))))))))))))))))))))))) (fun s_5 => (s_ret (f := fun z => z) (e_bl _) .nil (fun _ => rfl) (fun _ => .nil))))))))))))) (fun x n e hw => ?_)
  obtain ⟨h, part, od, plans, _⟩ := x
  dsimp only at *
  obtain ⟨⟨hk, e1, e2, e3, hp, hpl⟩, hN⟩ := hw
  have hp30 := hk.p30
  have hn60 := hk.n60
  have hmem : ∀ q, q ∈ od ↔ (0 ≤ q ∧ q < h.p) := fun q => by
    rw [hp.mem_iff, List.mem_iff_getElem]
    constructor
    · rintro ⟨i, hi, e⟩
      rw [rng_get hi] at e
      rw [rng_length] at hi
      omega
    · intro z
      exact ⟨q.toNat, by rw [rng_length]; omega, by rw [rng_get]; omega⟩
  have nr : (rng 0 h.p).Nodup := by
    rw [List.nodup_iff_pairwise_ne, List.pairwise_iff_getElem]
    intro i j hi hj hij
    rw [rng_get hi, rng_get hj]; omega
  have nd : od.Nodup := hp.nodup_iff.mpr nr
  have hl : od.length = h.p := by rw [hp.length_eq, rng_length]
  have hb : badPeople h.p [] od = none := badPeople_ok nd fun q hq => ⟨((hmem q).mp hq).1, ((hmem q).mp hq).2, by simp⟩
  have ho := plan_order hk nd hmem
  have pick : ∀ (on : Int → Nat → Bool) (g : List Int) (N : List Int → Prop), (∀ q ∈ g, 0 ≤ q ∧ q < h.p) → N (g.map (onCount h on)) → wlc g (fun x N E => (true = true → ∃ y, atI ((List.range h.p).map fun q : Nat => onCount h on (q : Int)) x = some y ∧ N (some y)) ∧ (true = false → N none)) N (fun _ => False) := fun on g N hg hN =>
    wlc_map (onCount h on) (fun x hx N hN => ⟨fun _ => ⟨_, by
      have q := hg x hx
      rw [atI_nn q.1, List.getElem?_map, List.getElem?_range (by omega)]
      show some (onCount h on ((x.toNat : Nat) : Int)) = _
      rw [show ((x.toNat : Nat) : Int) = x by omega], hN⟩, nofun⟩) hN
  refine ⟨hk, hb, hl, ?_⟩
  rw [nio_counts]
  refine ⟨fun z => absurd z (by decide), fun _ => ⟨fun z => ?_, fun _ => ⟨nofun, fun _ => ⟨rfl, okN_ints (by omega), nofun, fun _ => ⟨by omega, by omega, ?_⟩⟩⟩⟩⟩
  · simp at z; omega
  have e0 : ((od.length : Int) + 1).toNat = od.length + 1 := by omega
  rw [e0]
  refine wfor_inv (fun _ _ => True) True.intro (fun i hi s N' _ hI => ?_) fun _ _ => hN
  rw [rng_get hi]
  rw [rng_length] at hi
  have ei : cutL od none (some (0 + (i : Int))) = od.take i := by
    rw [cutL_to (by omega)]; congr 1; omega
  rw [ei]
  have hg : ∀ q ∈ od.take i, 0 ≤ q ∧ q < h.p := fun q hq => (hmem q).mp (List.mem_of_mem_take hq)
  have ng : (od.take i).Nodup := nd.sublist (List.take_sublist _ _)
  have hgl : (od.take i).length ≤ 30 := by rw [List.length_take]; omega
  have hs := order_sum hk nd (fun q hq => (hmem q).mp hq) (j := i) (by omega)
  have hbt : badPeople h.p [] (od.take i) = none := badPeople_ok ng fun q hq => ⟨(hg q hq).1, (hg q hq).2, by simp⟩
  refine ⟨sl_ok (by omega), pick _ _ _ hg ⟨rfl, rfl, rfl, ?_⟩⟩
  rw [e1, e2, e3]
  refine ⟨⟨hk.r0, by have := hk.r60; omega, by show h.n ≤ 1000; omega, by omega, hg⟩, fun z => ?_, fun _ => ⟨hk, ?_⟩⟩
  · have z' : (!decide (((od.take i).map (onCount h (onO h od))).sum = (fcH h (od.take i)).sum)) = true := z
    rw [hs] at z'; simp at z'
  rw [hbt]
  refine ⟨rfl, True.intro, nofun, fun _ => wfor_inv (fun _ _ => True) True.intro (fun j hj s N2 _ hJ => ?_) fun _ _ => hI _ True.intro⟩
  obtain ⟨on, ok, e⟩ := hpl _ (List.getElem_mem hj)
  rw [e]
  refine ⟨sl_ok (by omega), pick on _ _ hg ⟨fun z => ?_, fun _ => hJ _ True.intro⟩⟩
  have := of_decide_eq_true z
  have := plan_le hk ok ng hg
  omega
theorem fk__law_steepest {w : World} {K : PySem.W.Frag} {mg : Str → Option Value} {base : Heap} (T : LC K mg) (G_order_counts : GFn PW w K mg base "order_counts" 13 P_order_counts (spR K (arC (α := HouseT) (arC (α := (List Int)) ar0)) (fun z : List Int => mu z) (fun p : HouseT × (List Int) × Unit => W_order_counts p.1 p.2.1))) (G__law_ints : GFn PW w K mg base "_law_ints" 5 P__law_ints (spF K (arC (α := (List Int)) ar0) (fun p : (List Int) × Unit => W__law_ints p.1))) (G__law_same : GFn PW w K mg base "_law_same" 9 P__law_same (spF K (arC (α := PV) (arC (α := PV) ar0)) (fun p : PV × PV × Unit =>  W__law_same 4 p.1 p.2.1))) (G__law_first : GFn PW w K mg base "_law_first" 4 P__law_first (spR K (arC (α := (List Int)) (arC (α := (List Int)) (arC (α := Int) (arC (α := (List Int)) ar0)))) (fun z : List Int => mu z) (fun p : (List Int) × (List Int) × Int × (List Int) × Unit => W__law_first p.1 p.2.1 p.2.2.1 p.2.2.2.1))) (G_most_of : GFn PW w K mg base "most_of" 10 P_most_of (spF K (arC (α := HouseT) (arC (α := (List Int)) ar0)) (fun p : HouseT × (List Int) × Unit => W_most_of p.1 p.2.1))) : ∃ fd, Binds K fd P__law_steepest [] ∧ FnOk PW w K mg base (L2.CX PW w) 14 (He.ga K "_law_steepest") fd P__law_steepest (spF K (arC (α := HouseT) (arC (α := (HL ((List Int) × (List Int) × Int × (List (List Int)) × Unit))) (arC (α := (List Int)) (arC (α := (List (List Int))) ar0)))) (fun p : HouseT × (HL ((List Int) × (List Int) × Int × (List (List Int)) × Unit)) × (List Int) × (List (List Int)) × Unit => W__law_steepest p.1 p.2.1 p.2.2.1 p.2.2.2.1)) ∧ PySem.W.keepIn K (.ref (He.ga K "_law_steepest")) = true := by
  obtain ⟨fd, F⟩ := F__law_steepest T
  exact ⟨fd, (F.bindsN fun _ _ _ _ _ _ us hl => match us, hl with | [_, _, _, _], _ => rfl), fd__law_steepest T G_order_counts G__law_ints G__law_same G__law_first G_most_of F, F.kp⟩
theorem G__law_steepest {w : World} {K : PySem.W.Frag} {mg : Str → Option Value} {base : Heap} (T : LC K mg) (G_order_counts : GFn PW w K mg base "order_counts" 13 P_order_counts (spR K (arC (α := HouseT) (arC (α := (List Int)) ar0)) (fun z : List Int => mu z) (fun p : HouseT × (List Int) × Unit => W_order_counts p.1 p.2.1))) (G__law_ints : GFn PW w K mg base "_law_ints" 5 P__law_ints (spF K (arC (α := (List Int)) ar0) (fun p : (List Int) × Unit => W__law_ints p.1))) (G__law_same : GFn PW w K mg base "_law_same" 9 P__law_same (spF K (arC (α := PV) (arC (α := PV) ar0)) (fun p : PV × PV × Unit =>  W__law_same 4 p.1 p.2.1))) (G__law_first : GFn PW w K mg base "_law_first" 4 P__law_first (spR K (arC (α := (List Int)) (arC (α := (List Int)) (arC (α := Int) (arC (α := (List Int)) ar0)))) (fun z : List Int => mu z) (fun p : (List Int) × (List Int) × Int × (List Int) × Unit => W__law_first p.1 p.2.1 p.2.2.1 p.2.2.2.1))) (G_most_of : GFn PW w K mg base "most_of" 10 P_most_of (spF K (arC (α := HouseT) (arC (α := (List Int)) ar0)) (fun p : HouseT × (List Int) × Unit => W_most_of p.1 p.2.1))) : GFn PW w K mg base "_law_steepest" 14 P__law_steepest (spF K (arC (α := HouseT) (arC (α := (HL ((List Int) × (List Int) × Int × (List (List Int)) × Unit))) (arC (α := (List Int)) (arC (α := (List (List Int))) ar0)))) (fun p : HouseT × (HL ((List Int) × (List Int) × Int × (List (List Int)) × Unit)) × (List Int) × (List (List Int)) × Unit => W__law_steepest p.1 p.2.1 p.2.2.1 p.2.2.2.1)) := by
  obtain ⟨fd, b, F, kp⟩ := fk__law_steepest (w := w) (base := base) T G_order_counts G__law_ints G__law_same G__law_first G_most_of
  exact ⟨_, fd, g__law_steepest T, kp, b, F⟩


theorem fd_law {w : World} {K : PySem.W.Frag} {mg : Str → Option Value} {base : Heap} (T : LC K mg) (G__law_pool : GFn PW w K mg base "_law_pool" 1 P__law_pool (sp_pool K)) (G__law_draw : GFn PW w K mg base "_law_draw" 1 P__law_draw sp_draw) (G__law_large : GFn PW w K mg base "_law_large" 5 P__law_large (spP K ar0 (fun _ : Unit => W__law_large))) (G__law_house : GFn PW w K mg base "_law_house" 6 P__law_house (spP K (arC (α := Int) (arC (α := Int) (arC (α := Int) ar0))) (fun p : Int × Int × Int × Unit => W__law_house p.1 p.2.1 p.2.2.1))) (MK_House : MkKC PW w K mg base "House" (He.ga K "House") 2 ["rest"] 6 (spI K "House" args_House (fun p : (WantsT × (List Int) × Unit) × (Int × Unit) => W_HouseU_initU p.1.1 p.1.2.1 p.2.1))) (MK_Wants : MkC PW w K mg base "Wants" (He.ga K "Wants") 4 (spI K "Wants" (arC (α := (List Int)) ar0) (fun p : (List Int) × Unit => W_WantsU_initU p.1))) (G__law_mixed : GFn PW w K mg base "_law_mixed" 4 P__law_mixed (spPR K (arC (α := Int) ar0) (fun z : List Int => mu z) (fun p : Int × Unit => W__law_mixed p.1))) (G__law_rows : GFn PW w K mg base "_law_rows" 4 P__law_rows (spPR K (arC (α := Int) (arC (α := (List Int)) (arC (α := Int) (arC (α := Int) ar0)))) (fun z : List (List Int) => mu z) (fun p : Int × (List Int) × Int × Int × Unit => W__law_rows p.1 p.2.1 p.2.2.1 p.2.2.2.1))) (G__law_counts : GFn PW w K mg base "_law_counts" 4 P__law_counts (spR K (arC (α := (List (List Int))) (arC (α := Int) ar0)) (fun z : List Int => mu z) (fun p : (List (List Int)) × Int × Unit => W__law_counts p.1 p.2.1))) (G__law_thin : GFn PW w K mg base "_law_thin" 4 P__law_thin (spPR K (arC (α := (List (List Int))) ar0) (fun z : List (List Int) => mu z) (fun p : (List (List Int)) × Unit => W__law_thin p.1))) (G__law_cut : GFn PW w K mg base "_law_cut" 4 P__law_cut (spR K (arC (α := (List (List Int))) (arC (α := (List Int)) ar0)) (fun z : List (List Int) => mu z) (fun p : (List (List Int)) × (List Int) × Unit => W__law_cut p.1 p.2.1))) (G__law_steepest : GFn PW w K mg base "_law_steepest" 14 P__law_steepest (spF K (arC (α := HouseT) (arC (α := (HL ((List Int) × (List Int) × Int × (List (List Int)) × Unit))) (arC (α := (List Int)) (arC (α := (List (List Int))) ar0)))) (fun p : HouseT × (HL ((List Int) × (List Int) × Int × (List (List Int)) × Unit)) × (List Int) × (List (List Int)) × Unit => W__law_steepest p.1 p.2.1 p.2.2.1 p.2.2.2.1))) (G_order_counts : GFn PW w K mg base "order_counts" 13 P_order_counts (spR K (arC (α := HouseT) (arC (α := (List Int)) ar0)) (fun z : List Int => mu z) (fun p : HouseT × (List Int) × Unit => W_order_counts p.1 p.2.1))) {fd : FuncData} (F : FunD K "law" "law" (defArgs s_law) (defBody s_law) (defScope s_law) [] [] (He.ga K "law") fd) : FnOk PW w K mg base (L2.CX PW w) 15 (He.ga K "law") fd P_law (sp_law K) := by
  refine F.ok sc_law (fun vs H Q E h => by obtain ⟨_, _, rfl, _⟩ := h; rfl) fun cdv A outer s H vs Q E hr h => ?_
  refine ⟨_, (pss_cons (ps_set (i := 1) sc_law.nd rfl (Or.inl rfl) (pe_g G__law_pool (hr.mono (by decide)) (takes_of rfl rfl rfl rfl) (pa_cons (pv 0) (pa_cons pe_int pa_nil))))
      (pss_cons (ps_if (pt_cmpR (kEq K (hu65 hr)) (pe_g G__law_draw (hr.mono (by decide)) (takes_of rfl rfl rfl rfl) (pa_cons (pv 1) (pa_cons pe_int pa_nil))) pe_int (nomark _)) (pss_cons (ps_set (i := 2) sc_law.nd rfl (Or.inl rfl) (pe_g G__law_large (hr.mono (by decide)) (takes_of rfl rfl rfl rfl) (pa_cons (pv 1) pa_nil)))
      pss_nil) (pss_cons (ps_set (i := 2) sc_law.nd rfl (Or.inl rfl) (pe_g G__law_house (hr.mono (by decide)) (takes_of rfl rfl rfl rfl) (pa_cons (pv 1) (pa_cons pe_int (pa_cons pe_int (pa_cons pe_int pa_nil))))))
      pss_nil))
      (pss_cons (ps_set (i := 3) sc_law.nd rfl (Or.inl rfl) (pe_ix (kIx K) (pv 2) pe_int (fun _ _ => rfl)))
      (pss_cons (ps_set (i := 4) sc_law.nd rfl (Or.inl rfl) (pe_ix (kIx K) (pv 2) pe_int (fun _ _ => rfl)))
      (pss_cons (ps_set (i := 5) sc_law.nd rfl (Or.inl rfl) (pe_callB (kLen K) (by rfl) (f_len T) PySem.boot_len (pa_cons (pv 4) pa_nil)))
      (pss_cons (ps_set (i := 6) sc_law.nd rfl (Or.inl rfl) (pe_mkK MK_House (hr.mono (by decide)) (takes_of rfl rfl rfl rfl) (pa_cons (pe_mk MK_Wants (hr.mono (by decide)) (takes_of rfl rfl rfl rfl) (pa_cons (pv 3) pa_nil)) (pa_cons (pv 4) pa_nil)) (pk_cons (pe_ix (kIx K) (pv 2) pe_int (fun _ _ => rfl)) pk_nil)))
      (pss_cons (ps_set (i := 7) sc_law.nd rfl (Or.inl rfl) (pe_g G__law_mixed (hr.mono (by decide)) (takes_of rfl rfl rfl rfl) (pa_cons (pv 1) (pa_cons (pv 5) pa_nil))))
      (pss_cons (ps_set (i := 8) sc_law.nd rfl (Or.inl rfl) (pe_g G__law_mixed (hr.mono (by decide)) (takes_of rfl rfl rfl rfl) (pa_cons (pv 1) (pa_cons (pv 5) pa_nil))))
      (pss_cons (ps_set (i := 9) sc_law.nd rfl (Or.inl rfl) (pe_g G__law_rows (hr.mono (by decide)) (takes_of rfl rfl rfl rfl) (pa_cons (pv 1) (pa_cons (pe_callB (kLen K) (by rfl) (f_len T) PySem.boot_len (pa_cons (pv 3) pa_nil)) (pa_cons (pv 4) (pa_cons (pe_ix (kIx K) (pv 2) pe_int (fun _ _ => rfl)) (pa_cons (pe_op (kAdd K) pe_int (pe_g G__law_draw (hr.mono (by decide)) (takes_of rfl rfl rfl rfl) (pa_cons (pv 1) (pa_cons pe_int pa_nil)))) pa_nil)))))))
      (pss_cons (ps_set (i := 10) sc_law.nd rfl (Or.inl rfl) (pe_lst (pa_cons (pe_g G__law_counts (hr.mono (by decide)) (takes_of rfl rfl rfl rfl) (pa_cons (pe_g G__law_thin (hr.mono (by decide)) (takes_of rfl rfl rfl rfl) (pa_cons (pv 1) (pa_cons (pe_ix (kIx K) (pv 2) pe_int (fun _ _ => rfl)) pa_nil))) (pa_cons (pv 5) pa_nil))) (pa_cons (pe_g G__law_counts (hr.mono (by decide)) (takes_of rfl rfl rfl rfl) (pa_cons (pe_g G__law_cut (hr.mono (by decide)) (takes_of rfl rfl rfl rfl) (pa_cons (pv 9) (pa_cons (pv 3) pa_nil))) (pa_cons (pv 5) pa_nil))) pa_nil))))
      (pss_cons (ps_if (pt_not (pt_val (pe_g G__law_steepest (hr.mono (by decide)) (takes_of rfl rfl rfl rfl) (pa_cons (pv 6) (pa_cons (pv 2) (pa_cons (pv 8) (pa_cons (pv 10) pa_nil))))))) (pss_cons (ps_ret pe_bl) pss_nil) pss_nil)
      (pss_cons (ps_ret (pe_g G__law_steepest (hr.mono (by decide)) (takes_of rfl rfl rfl rfl) (pa_cons (pv 6) (pa_cons (pv 2) (pa_cons (pv 7) (pa_cons (pe_op (kAdd K) (pv 10) (pe_lst (pa_cons (pe_g G_order_counts (hr.mono (by decide)) (takes_of rfl rfl rfl rfl) (pa_cons (pv 6) (pa_cons (pe_callTy (kList K) (by rfl) (f_list T) (by decide +kernel) (pa_cons (pv 8) pa_nil)) pa_nil))) pa_nil))) pa_nil)))))) pss_nil)))))))))))), ?_⟩
  refine use_L (Γ := [.u, .u, .u, .u, .u, .u, .u, .u, .u, .u]) h (.u (.u (.u (.u (.u (.u (.u (.u (.u (.u .nil)))))))))) (Nat.le_of_ble_eq_true rfl) (fun F => (s_setR 1 (r_pool 0 rfl (e_int _)) .nil (fun pool_1 => (s_if (e1 := (fun s_2 : ((HL ((List Int) × (List Int) × Int × (List (List Int)) × Unit))) × Unit => [.o (scr), .o (pool pool_1), .v (s_2.1 : (HL ((List Int) × (List Int) × Int × (List (List Int)) × Unit))), .u, .u, .u, .u, .u, .u, .u, .u])) (c_test (e_op o_eq (e_draw 1 rfl (e_int _)) (e_int _))) .nil (s_set 2 (α := (HL ((List Int) × (List Int) × Int × (List (List Int)) × Unit))) (e_callP 1 rfl t_nil) .nil (fun parts_3 => (s_next (parts_3, ()) (show Wk [.o (scr), .o (pool pool_1), .v (parts_3 : (HL ((List Int) × (List Int) × Int × (List (List Int)) × Unit))), .u, .u, .u, .u, .u, .u, .u, .u] [.o (scr), .o (pool pool_1), .v (parts_3 : (HL ((List Int) × (List Int) × Int × (List (List Int)) × Unit))), .u, .u, .u, .u, .u, .u, .u, .u] from (.same (.same (.same (.u (.u (.u (.u (.u (.u (.u (.u .nil))))))))))))))) (s_set 2 (α := (HL ((List Int) × (List Int) × Int × (List (List Int)) × Unit))) (e_callP 1 rfl (t_cons (e_int _) (t_cons (e_int _) (t_cons (e_int _) t_nil)))) .nil (fun parts_4 => (s_next (parts_4, ()) (show Wk [.o (scr), .o (pool pool_1), .v (parts_4 : (HL ((List Int) × (List Int) × Int × (List (List Int)) × Unit))), .u, .u, .u, .u, .u, .u, .u, .u] [.o (scr), .o (pool pool_1), .v (parts_4 : (HL ((List Int) × (List Int) × Int × (List (List Int)) × Unit))), .u, .u, .u, .u, .u, .u, .u, .u] from (.same (.same (.same (.u (.u (.u (.u (.u (.u (.u (.u .nil))))))))))))))) (fun s_2 => (s_set 3 (α := (List Int)) (e_op (o_ixH (ι := (List Int) × (List Int) × Int × (List (List Int)) × Unit) (β := (List Int)) 0 (fun x => x.1) (fun _ => rfl)) (e_var 2 rfl) (e_int _)) .nil (fun days_5 => (s_set 4 (α := (List Int)) (e_op (o_ixH (ι := (List Int) × (List Int) × Int × (List (List Int)) × Unit) (β := (List Int)) 1 (fun x => x.2.1) (fun _ => rfl)) (e_var 2 rfl) (e_int _)) .nil (fun starts_6 => (s_set 5 (α := Int) (e_cb1 b_len (e_var 4 rfl)) .nil (fun many_7 => (s_set 6 (α := HouseT) (e_mkK (args := args_House) (t_cons (e_mk (t_cons (e_var 3 rfl) t_nil)) (t_cons (e_var 4 rfl) t_nil)) (t_cons (e_op (o_ixH (ι := (List Int) × (List Int) × Int × (List (List Int)) × Unit) (β := Int) 2 (fun x => x.2.2.1) (fun _ => rfl)) (e_var 2 rfl) (e_int _)) t_nil) (fun _ => rfl) (fun _ => rfl) (fun _ => rfl)) .nil (fun house_8 => (s_set 7 (α := (List Int)) (e_frz (r_callP 1 rfl (t_cons (e_var 5 rfl) t_nil))) .nil (fun order_9 => (s_set 8 (α := (List Int)) (e_frz (r_callP 1 rfl (t_cons (e_var 5 rfl) t_nil))) .nil (fun other_10 => (s_set 9 (α := (List (List Int))) (e_frz (r_callP 1 rfl (t_cons (e_cb1 b_len (e_var 3 rfl)) (t_cons (e_var 4 rfl) (t_cons (e_op (o_ixH (ι := (List Int) × (List Int) × Int × (List (List Int)) × Unit) (β := Int) 2 (fun x => x.2.2.1) (fun _ => rfl)) (e_var 2 rfl) (e_int _)) (t_cons (e_op o_add (e_int _) (e_draw 1 rfl (e_int _))) t_nil)))))) .nil (fun rows_11 => (s_set 10 (α := (List (List Int))) (e_frz (r_lst (a_cons (e_frz (r_call (t_cons (e_frz (r_callP 1 rfl (t_cons (e_op (o_ixH (ι := (List Int) × (List Int) × Int × (List (List Int)) × Unit) (β := (List (List Int))) 3 (fun x => x.2.2.2.1) (fun _ => rfl)) (e_var 2 rfl) (e_int _)) t_nil))) (t_cons (e_var 5 rfl) t_nil)))) (a_cons (e_frz (r_call (t_cons (e_frz (r_call (t_cons (e_var 9 rfl) (t_cons (e_var 3 rfl) t_nil)))) (t_cons (e_var 5 rfl) t_nil)))) a_nil)))) .nil (fun plans_12 => (s_if (e1 := (fun _ : Unit => [.o (scr), .o (pool pool_1), .v (s_2.1 : (HL ((List Int) × (List Int) × Int × (List (List Int)) × Unit))), .v (days_5 : (List Int)), .v (starts_6 : (List Int)), .v (many_7 : Int), .v (house_8 : HouseT), .v (order_9 : (List Int)), .v (other_10 : (List Int)), .v (rows_11 : (List (List Int))), .v (plans_12 : (List (List Int)))])) (c_not (c_val (e_call (t_cons (e_var 6 rfl) (t_cons (e_var 2 rfl) (t_cons (e_var 8 rfl) (t_cons (e_var 10 rfl) t_nil))))))) .nil (s_ret (f := fun z => z) (e_bl _) .nil (fun _ => rfl) (fun _ => .nil)) (s_next () (show Wk [.o (scr), .o (pool pool_1), .v (s_2.1 : (HL ((List Int) × (List Int) × Int × (List (List Int)) × Unit))), .v (days_5 : (List Int)), .v (starts_6 : (List Int)), .v (many_7 : Int), .v (house_8 : HouseT), .v (order_9 : (List Int)), .v (other_10 : (List Int)), .v (rows_11 : (List (List Int))), .v (plans_12 : (List (List Int)))] [.o (scr), .o (pool pool_1), .v (s_2.1 : (HL ((List Int) × (List Int) × Int × (List (List Int)) × Unit))), .v (days_5 : (List Int)), .v (starts_6 : (List Int)), .v (many_7 : Int), .v (house_8 : HouseT), .v (order_9 : (List Int)), .v (other_10 : (List Int)), .v (rows_11 : (List (List Int))), .v (plans_12 : (List (List Int)))] from (.same (.same (.same (.same (.same (.same (.same (.same (.same (.same (.same .nil))))))))))))) (fun _ => (s_ret (f := fun z => z) (e_call (t_cons (e_var 6 rfl) (t_cons (e_var 2 rfl) (t_cons (e_var 7 rfl) (t_cons (e_frz (r_add (e_var 10 rfl) (e_frz (r_lst (a_cons (e_frz (r_call (t_cons (e_var 6 rfl) (t_cons (e_frz (r_list (e_var 8 rfl))) t_nil)))) a_nil))))) t_nil))))) .nil (fun _ => rfl) (fun _ => .nil))))))))))))))))))))))))) ?_
  dsimp only
  refine ⟨by omega, fun _ => ⟨⟨by decide, by decide⟩, fun v _ _ => ⟨fun _ => ?_, fun _ => ⟨⟨by decide, by decide, by decide, by decide, by decide, by decide⟩, ?_⟩⟩⟩⟩
  all_goals
    intro ds ss g rows hd hs g0 g1 hds hss hrl hfit hle
    have b1 : badAt badNumber 0 30 0 ds = none := badAt_none.mpr hds
    have b2 : badAt badComing 1 ((ds.length : Int) + 1) 0 ss = none := badAt_none.mpr hss
    refine ⟨rfl, rfl, ?_⟩
    unfold W_WantsU_initU
    dsimp only
    rw [if_neg (by omega), b1]
    refine ⟨rfl, ?_⟩
    unfold W_HouseU_initU
    refine ⟨hd, ?_⟩
    try dsimp only
    rw [if_neg (by omega)]
    try dsimp only
    rw [b2]
    try dsimp only
    rw [if_pos ⟨g0, g1⟩]
    have hk : HouseT.Ok ⟨⟨⟨ds⟩⟩, ⟨ss⟩, g⟩ := ⟨hd, hs, hds, hss, g0, g1⟩
    obtain ⟨h, hh⟩ : ∃ h : HouseT, h = ⟨⟨⟨ds⟩⟩, ⟨ss⟩, g⟩ := ⟨_, rfl⟩
    rw [← hh] at hk ⊢
    have w1 : h.wants.numbers.items = ds := by rw [hh]
    have w2 : h.comings.items = ss := by rw [hh]
    have w3 : h.rest = g := by rw [hh]
    have hp : h.p = ss.length := by rw [← w2]; rfl
    have hn : h.n = ds.length := by rw [← w1]; rfl
    have ep : (ss.length : Int).toNat = h.p := by omega
    refine ⟨⟨by omega, by omega⟩, fun od p1 => ⟨⟨by omega, by omega⟩, fun od2 p2 => ⟨rfl, ⟨by decide, by decide⟩, fun u u0 u1 => ⟨⟨by omega, by omega, by omega, g0, by omega, by omega⟩, fun rs hr hf => ⟨rfl, ⟨by omega, fun r hm => ?_⟩, fun th hth => ?_⟩⟩⟩⟩⟩
    · obtain ⟨t, ht, e⟩ := List.mem_iff_getElem.mp hm
      have := (hfit t).2.1
      rw [List.getD, List.getElem?_eq_getElem ht, e] at this
      have : r.length ≤ ss.length := this
      omega
    have hthl := hth.1
    refine ⟨⟨by omega, by omega, by omega⟩, ⟨by omega, by omega, fun x hx => (hds x hx).1⟩, ⟨by omega, by omega, by simp [cutR]; omega⟩, sl_ok (by simp), ?_⟩
    rw [ep] at p1 p2 ⊢
    have pl1 : PlanOk h fun p t => decide (p ∈ th.getD t []) := plan_rows hk (by rw [w2, w3]; exact hfit.sub hth) fun t => by rw [w1]; exact Nat.le_trans (hth.2 t).length_le (hle t)
    have pl2 : PlanOk h fun p t => decide (p ∈ (cutR rs ds).getD t []) := plan_rows hk (by rw [w2, w3]; exact hf.sub (cutR_sub (by omega))) fun t => by rw [w1]; exact cutR_le rs ds t
    have c1 := countsR_on (h := h) (rows := th) (by omega)
    have c2 := countsR_on (h := h) (rows := cutR rs ds) (by rw [hn]; simp [cutR])
    have two : ∀ pl ∈ [countsR th h.p, countsR (cutR rs ds) h.p], ∃ on : Int → Nat → Bool, PlanOk h on ∧ pl = (List.range h.p).map fun q : Nat => onCount h on (q : Int) := fun pl hm => by
      rcases List.mem_cons.mp hm with e | e
      · exact ⟨_, pl1, by rw [e]; exact c1⟩
      · exact ⟨_, pl2, by rw [List.mem_singleton.mp e]; exact c2⟩
    obtain ⟨o1, o2, o3, o4⟩ := order_ok p2
    refine ⟨⟨hk, w1.symm, w2.symm, w3.symm, p2, two⟩, nofun, fun _ => ⟨hk, o4, o2, sl_ok (by simp), sl_ok (by simp), ⟨⟨hk, w1.symm, w2.symm, w3.symm, p1, fun pl hm => ?_⟩, rfl⟩⟩⟩
    rcases List.mem_append.mp hm with m | m
    · exact two pl m
    · exact ⟨_, plan_order hk o1 o3, by rw [List.mem_singleton.mp m]; exact nio_counts h od2⟩

theorem laws {w : World} {K : PySem.W.Frag} {mg : Str → Option Value} {h : Heap} (X : K.In h) (G : h.Ns mainGlobals mg) (c : SaysY fa fn lk fileP xd da K) {f : Addr} (hfa : mg ("law" : Str) = some (.ref f)) :
    ∃ fd : FuncData, (∀ (s : Shared) (v : Value), BindsTo s fd ⟨[v], []⟩ [("script", v)]) ∧ ∀ base : Heap, FnOk PW w K mg base (CXe PW) 15 f fd ["script"] (Vc.sp_law K) := by
  have T : LC K mg := ⟨h, X, G, c⟩
  obtain ⟨fd, F⟩ := F_law T
  have e := hfa.symm.trans (g_law T)
  cases e
  have b := FunD.bindsA (ps := ["script"]) F fun _ _ _ _ _ _ us hl => match us, hl with | [_], _ => rfl
  refine ⟨fd, fun s v => b s [v] rfl, fun base => fnOk_e ?_⟩
  have x_LN_Wants := LN_Wants (w := w) (base := base) T
  have x_PR_House_nights := PR_House_nights (w := w) (base := base) T x_LN_Wants
  have x_PR_House_people := PR_House_people (w := w) (base := base) T
  have x_G_check_person := G_check_person (w := w) (base := base) T x_PR_House_people
  have x_G_check_people := G_check_people (w := w) (base := base) T x_PR_House_people x_G_check_person
  have x_G_arrivals := G_arrivals (w := w) (base := base) T x_PR_House_nights
  have x_G_first_choice := G_first_choice (w := w) (base := base) T x_G_check_people x_G_arrivals
  have x_G_room_left := G_room_left (w := w) (base := base) T x_G_first_choice
  have x_G_growth := G_growth (w := w) (base := base) T x_G_room_left x_G_check_person x_PR_House_nights
  have x_MK_Wants := MK_Wants (w := w) (base := base) T
  have x_MK_House := MK_House (w := w) (base := base) T x_LN_Wants
  have x_G_check_order := G_check_order (w := w) (base := base) T x_G_check_people x_PR_House_people
  have x_G_nights_in_order := G_nights_in_order (w := w) (base := base) T x_G_check_order x_PR_House_people x_G_growth
  have x_G_order_counts := G_order_counts (w := w) (base := base) T x_G_nights_in_order
  have x_G_most_of := G_most_of (w := w) (base := base) T x_G_first_choice
  have x_G__law_pool := G__law_pool (w := w) (base := base) T
  have x_G__law_draw := G__law_draw (w := w) (base := base) T
  have x_G__law_size := G__law_size (w := w) (base := base) T x_G__law_draw
  have x_G__law_wants := G__law_wants (w := w) (base := base) T x_G__law_draw
  have x_G__law_comings := G__law_comings (w := w) (base := base) T x_G__law_draw
  have x_G__law_first := G__law_first (w := w) (base := base) T
  have x_G__law_int := G__law_int (w := w) (base := base) T
  have x_G__law_same := G__law_same (w := w) (base := base) T x_G__law_int
  have x_G__law_rows := G__law_rows (w := w) (base := base) T x_G__law_draw
  have x_G__law_counts := G__law_counts (w := w) (base := base) T
  have x_G__law_world := G__law_world (w := w) (base := base) T x_G__law_size x_G__law_draw x_G__law_comings x_G__law_rows x_G__law_counts
  have x_G__law_bend_days := G__law_bend_days (w := w) (base := base) T x_G__law_draw
  have x_G__law_ints := G__law_ints (w := w) (base := base) T x_G__law_int
  have x_G__law_cut := G__law_cut (w := w) (base := base) T
  have x_G__law_thin := G__law_thin (w := w) (base := base) T x_G__law_draw
  have x_G__law_mixed := G__law_mixed (w := w) (base := base) T x_G__law_draw
  have x_G__law_house := G__law_house (w := w) (base := base) T x_G__law_draw x_G__law_world x_G__law_bend_days x_G__law_wants
  have x_G__law_large := G__law_large (w := w) (base := base) T x_G__law_draw x_G__law_wants x_G__law_comings x_G__law_cut x_G__law_rows
  have x_G__law_steepest := G__law_steepest (w := w) (base := base) T x_G_order_counts x_G__law_ints x_G__law_same x_G__law_first x_G_most_of
  exact fd_law (w := w) (base := base) T x_G__law_pool x_G__law_draw x_G__law_large x_G__law_house x_MK_House x_MK_Wants x_G__law_mixed x_G__law_rows x_G__law_counts x_G__law_thin x_G__law_cut x_G__law_steepest x_G_order_counts F
end K15
open PySem PySem.W PySem.Calls PyProof.Rows
theorem PySem.Challenge.cw_restnights_k15_orders_whole_steepest_holds : PySem.Challenge.rw_restnights_k15_orders_whole_steepest.Holds := by
  w_on; o_law
  refine HandSHeadRun.head_any (r := OpenLaw.row PySem.Challenge.rw_restnights_k15_orders_whole_steepest) (q := view (OpenLaw.row PySem.Challenge.rw_restnights_k15_orders_whole_steepest).prog [51]) (H := K15.hk) (ob := K15.ob) (M := 100000) (loose := K15.loose) (d := HandSHeadRun.topDef (OpenLaw.row PySem.Challenge.rw_restnights_k15_orders_whole_steepest).prog 51) (kwd := []) K15.ob_eq
    (by kernel_rfl) (fun s => by kernel_rfl) K15.run (by kernel_rfl) (by kernel_rfl) (by kernel_rfl) (by rfl) (by first | assumption | decide +kernel) (by decide +kernel) ⟨rfl, rfl, rfl, rfl, rfl, by decide +kernel⟩ ?hw ?hc
  case hw => w_witness2
  case hc =>
    refine L2.walk_ofE (l := PySem.Challenge.rw_restnights_k15_orders_whole_steepest) (n := 63) (k := 15) (x := "script") (CX := Rn.CXe (PySem.Challenge.rw_restnights_k15_orders_whole_steepest).prog) rfl (by decide) (by kernel_rfl) ⟨rfl, by decide, by decide⟩ ?F (fun _ _ _ _ z => Rn.cxe_no z)
    intro w mg fa h Y G hmg0
    obtain ⟨K, KX, c⟩ := Y
    have hmg : mg ("law" : PySem.Str) = some (.ref fa) := by
      have e : (HandSHeadRun.topDef (OpenLaw.row PySem.Challenge.rw_restnights_k15_orders_whole_steepest).prog 51).name = ("law" : PySem.Str) := by kernel_rfl
      rw [← e]
      exact hmg0
    obtain ⟨fd, hb, hF⟩ := K15.laws (w := w) KX G c hmg
    exact ⟨K, fd, Vc.sp_law K, KX, hb, fun H a ns hl _ hS => ⟨a, ns, rfl, hS, fun _ => rfl⟩, fun base _ _ => hF base⟩
