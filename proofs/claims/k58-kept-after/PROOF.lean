import PyProof.Rows.All
import Wide.All
import OpenK.AllK
import Wide.FinOn
import KE.KExcSuper
import KE.RegKSuper
import HandS.ForMost
import HandS.Exc
import HandS.ExcField
import HandS.ExcIs
import HandS.ExcInit
import HandS.ExcOwn
import HandS.WordsExc
import HandS.Defaults
import HandS.Wide
import HandS.Deep
import HandS.TupAny
import HandS.TupMul
import HandS.IsInst
import HandS.Walk
import HandS.Style
import HandS.Property
import HandS.ClsMeth
import HandS.SortInts
import HandS.Head0
import HandS.Head1
import HandS.Head2
import HandS.HeadEnd
import HandS.HeadHook1
import HandS.HeadHook2
import HandS.HeadHook3
import HandS.HeadHook4
import KE.Datum
import KE.DatumIndex
import HandS.OwnIter
import HandS.IterVal
import PyProof.Rows.TupIter
import PySem.Challenge.RW_restnights_k58_kept_after_whole_many_wee
set_option Elab.async false
set_option linter.all false
set_option maxRecDepth 100000
set_option maxHeartbeats 4000000
namespace XN
open PySem PySem.Spec PySem.W PySem.Calls PyProof.Rows PySem.HandSPX

/-- the rows self.f = f of an __init__ -/
inductive Stores : List Str → List Stmt → Prop
  | nil : Stores [] []
  | cons {f : Str} {fs : List Str} {sts : List Stmt} (p1 p2 p3 p4 : Pos) (h : Stores fs sts) : Stores (f :: fs) (.Assign [.Attribute (.Name "self" p1) f p2] (.Name f p3) p4 :: sts)

/-- what the written part says of an own class of errors at C whose __init__ (at fI) is: super().__init__(text), then a store for each of fs -/
structure ExcK (prog : Program) (K : Frag) (C fI : Addr) (fs : List Str) : Prop where
  cls : ∃ nm q N bs bm sn sub ab col dd k0 k1 k2 k3 k5, K.lookup C = some (excClassObj nm q C N bs bm true sn sub ab col dd k0 k1 k2 k3 k5 "ValueError.__new__") ∧ refsVE bm = true
  sa : findIn K (.ref C) "__setattr__" = some (some (.builtin "object.__setattr__"))
  noF : ∀ f ∈ fs, findIn K (.ref C) f = some none
  iC : findIn K (.ref C) "__init__" = some (some (.ref fI))
  tC : typeIn K (.ref fI) = some (.type "function")
  kC : keepIn K (.ref C) = true
  exC : subIn K (.ref C) (.type "BaseException") = some true
  veC : subIn K (.ref C) (.type "ValueError") = some true
  tyC : typeIn K (.ref C) = some (.type "type")
  sup : ks_superIn K C C "__init__" = some (some (.builtin "ValueError.__init__"))
  slf : mroIn K C (.ref C) = some true
  tp : nsIn K cStatics "thirdparty.any" = some none
  nosup : nsIn K mainGlobals "super" = some none
  top : (prog.main.scope.names.lookup ("super" : Str)).isSome = false
  nd : fs.Nodup
  noself : ("self" : Str) ∉ fs
  nodbg : ∀ f ∈ fs, (f == ("__debug__" : Str)) = false
  few : fs.length ≤ 20
  fn : ∃ (oc : Value) (od : Option Addr) (doc pm : Value) (an : Option Addr) (ct : Value) (osl : Array (Option Value)) (qual : Str) (params : Arguments) (scope : Scope) (body : List Stmt) (cc cda : Addr) (m : Str) (mj : Nat) (q1 q2 q3 q4 q5 q6 q7 : Pos) (ar : Arg) (vs : Array Value) (file : Str) (tf : Tok)
      (cl ccl : Value) (cld ccd : Option Addr) (csl cch : Array (Option Value)),
    K.lookup fI = some ⟨oc, od, .func (ksFn "__init__" qual params body scope .none .none doc pm an (.ref cda) ct cc), osl⟩ ∧ codeIn K (.ref cda) qual = true ∧
    body = .Expr (.Call (.Attribute (.Call (.Name "super" q1) [] [] q2) "__init__" q3) [.Constant (.str m) mj q4] [] q5) q6 :: body.drop 1 ∧ Stores fs (body.drop 1) ∧
    (q3.endLine == q5.line) = true ∧ (params.posonlyargs ++ params.args).head? = some ar ∧ ar.arg = "self" ∧
    K.lookup cc = some ⟨cl, cld, .cell (some (.ref C)), csl⟩ ∧ K.lookup cda = some ⟨ccl, ccd, .fields vs, cch⟩ ∧ vs[2]? = some (.str file tf) ∧ ((prog.main.file : Str) == file) = true ∧
    (∀ us : List Value, us.length = fs.length + 1 → bindArgs (ksFn "__init__" qual params body scope .none .none doc pm an (.ref cda) ct cc) ⟨us, []⟩ = pure ((("self" : Str) :: fs).zip us)) ∧
    scope.kind = .function ∧ scope.isCoroutine = false ∧ scope.isGenerator = false ∧ (∀ x ∈ scope.names, x.2 ≠ .cell) ∧ (∀ x ∈ ("self" : Str) :: fs, scope.names.lookup x = some .local) ∧
    scope.names.lookup ("super" : Str) = some .globalImplicit ∧ scope.names.lookup ("__class__" : Str) = some .free

/-- what __init__ leaves of the fresh exception at x -/
structure InitEnd (h h' : Heap) (x C : Addr) (fs : List Str) (us : List Value) (d : Option Addr) : Prop where
  keep : ∀ b o, b ≠ x → h.get? b = some o → h'.get? b = some o
  obj : ∃ t1 : Addr, h'.get? x = some { cls := .ref C, dict := d, data := .fields #[.ref t1, .none, .none, .none, .bool false, .none] }
  dict : match d with
    | none => fs = []
    | some dx => h.objs.size ≤ dx ∧ dx ≠ x ∧ ∃ m, h'.Ns1 dx m ∧ (∀ y, m y = (fs.zip us).lookup y) ∧ PySem.Within m fs

section
variable {prog : Program} {w : World} {A : Around} {E : Value → Shared → Prop} {R : Result → Shared → Prop} {s : Shared} {K : Frag} {mg mb : Str → Option Value} {C fI : Addr} {fs : List Str}

theorem eval_super {env : Env} {msg : Str} {mj : Nat} {q1 q2 q3 q4 q5 : Pos} (h : (q3.endLine == q5.line) = true) : ∃ pl : Sem Bool, eval (.Call (.Attribute (.Call (.Name "super" q1) [] [] q2) "__init__" q3) [.Constant (.str msg) mj q4] [] q5) env = (do
      let ov ← attributeBase (.Call (.Name "super" q1) [] [] q2) "__init__" env (eval (.Call (.Name "super" q1) [] [] q2) env)
      standAt q3.atName
      let (f, first) ← holding [ov] (getMethod ov "__init__" pl)
      callWith q5 f first (backTo q5 (starEach [.Constant (.str msg) mj q4] env)) []) := by
  have e : ∀ o : Expr, methodCallPos true o env q3 q5 = pure q5 := fun o => by
    unfold methodCallPos
    rw [h]
    rfl
  refine ⟨(do return (← importBound (.Call (.Name "super" q1) [] [] q2) env).getD true), ?_⟩
  show (do
    let ov ← attributeBase (.Call (.Name "super" q1) [] [] q2) "__init__" env (eval (.Call (.Name "super" q1) [] [] q2) env)
    standAt q3.atName
    let (f, first) ← holding [ov] (calleeOf true (.Call (.Name "super" q1) [] [] q2) env ov "__init__")
    let callPos ← methodCallPos true (.Call (.Name "super" q1) [] [] q2) env q3 q5
    callWith callPos f first (backTo q5 (starEach [.Constant (.str msg) mj q4] env)) []) = _
  simp only [e, pure_bind]
  rfl
/-- super().__init__(text) at the instance at x -/
theorem super_init {body : List Stmt} {env : Env} {fd : FuncData} {cc cda x t0 L : Addr} {m : Str → Option Value} {msg : Str} {mj : Nat} {q1 q2 q3 q4 q5 q6 : Pos} {ar : Arg} {of occ ocd : Obj} {vs : Array Value} {file : Str} {tf : Tok} {Q : Flow → Shared → Prop}
    (T : ExcK prog K C fI fs) (X : K.In s.heap) (hg : s.heap.Ns mainGlobals mg) (hb : s.heap.Ns builtinsNs mb) (hbb : mb "super" = bootBuiltins "super") (hmg : mg "super" = none)
    (hks : env.kindOf "super" = some .globalImplicit) (hkc : env.kindOf "__class__" = some .free) (hka : env.kindOf "self" = some .local) (hk : env.scope.kind = .function) (hfu : env.func = some fI) (hco : env.code = .ref cda) (hgl : env.globals = mainGlobals) (hbl : env.builtins = builtinsNs) (hloc : env.locals = L)
    (hcells : env.cells.lookup ("__class__" : Str) = some cc) (hst : interactive env = false)
    (hf : s.heap.get? fI = some of) (hfd : of.data = .func fd) (hp : (fd.params.posonlyargs ++ fd.params.args).head? = some ar) (har : ar.arg = "self")
    (hcode : s.heap.get? cda = some ocd) (hcd2 : ocd.data = .fields vs) (hvs : vs[2]? = some (.str file tf)) (hfile : ((prog.main.file : Str) == file) = true)
    (hcell : s.heap.get? cc = some occ) (hcell2 : occ.data = .cell (some (.ref C))) (hns : s.heap.Ns L m) (hself : m "self" = some (.ref x)) (hx : s.heap.get? x = some (excO C t0))
    (heL : ∃ pl : Sem Bool, eval (.Call (.Attribute (.Call (.Name "super" q1) [] [] q2) "__init__" q3) [.Constant (.str msg) mj q4] [] q5) env = (do
      let ov ← attributeBase (.Call (.Name "super" q1) [] [] q2) "__init__" env (eval (.Call (.Name "super" q1) [] [] q2) env)
      standAt q3.atName
      let (f, first) ← holding [ov] (getMethod ov "__init__" pl)
      callWith q5 f first (backTo q5 (starEach [.Constant (.str msg) mj q4] env)) []))
    (hsw : swapsWith (.Call (.Attribute (.Call (.Name "super" q1) [] [] q2) "__init__" q3) [.Constant (.str msg) mj q4] [] q5) none q6.line env = pure false)
    (hq : ∀ h' tk t1, (∀ b o, b ≠ x → s.heap.get? b = some o → h'.get? b = some o) → h'.get? x = some (excO C t1) → Q .next { s with heap := h', toks := tk }) :
    _root_.PySem.wpAt (model prog w) A (.func body env) (exec (.Expr (.Call (.Attribute (.Call (.Name "super" q1) [] [] q2) "__init__" q3) [.Constant (.str msg) mj q4] [] q5) q6) env) Q E s := by
  obtain ⟨nm, q, N, bs, bm, sn, sub, ab, col, dd, k0, k1, k2, k3, k5, hC, hbm⟩ := T.cls
  have hcl : clsIn K C = some { name := nm, bases := bs, mro := .ref C :: bm, ns := N, qualname := q, hasDict := true, slotNames := sn, subclasses := sub, abstract := ab, collection := col, hasDel := false } := by unfold clsIn; rw [hC] <;> rfl
  refine ks_wpAt_Expr_any ?_ hst hsw
  obtain ⟨pl, heL⟩ := heL
  refine ks_wpAt_MethodCall (pl := pl) ?_ heL
  have hat : (("__init__" : Str) == ("__class__" : Str)) = false := by decide
  obtain ⟨hh, g, d, t, os⟩ := s
  refine ks_wpAt_super_base hks hkc hat hfu hf hfd hp hco hcode hcd2 hvs hfile T.top ?_
  refine ks_loadName_global hk hks (loadGlobal_builtin (by rw [hgl]; exact hg) hmg (by rw [hbl]; exact hb) (hbb.trans (PyProof.Rows.Boot.«super»)) ⟨rfl, ?_⟩)
  refine wpAny_loadName_free hk hkc hcells ⟨occ, hcell, hcell2⟩ ?_
  rw [har]
  refine wpAny_loadName_local hk hka (by rw [hloc]; exact hns) hself ?_
  have hCg := X _ _ hC
  refine ks_wpAny_isType_cls hCg rfl ⟨rfl, ?_⟩
  refine ks_wpAny_call_super hCg rfl hx rfl (fun c e => by cases e) (looks_mroIn X T.slf) (fun h1 e1 k1' => ?_)
  have X1 : K.In h1 := X.keeps k1'
  have hx1 := k1' _ _ hx
  have I1 : InstAt h1 x (excO C t0) C none := ⟨hx1, rfl, rfl, trivial⟩
  have hsup : alongIn K "__init__" (((Value.ref C :: bm).dropWhile (· != .ref C)).drop 1) = some (some (.builtin "ValueError.__init__")) := by
    have z := T.sup
    unfold ks_superIn at z
    rw [hcl] at z
    exact z
  refine kxs_getMethod kxs_ValueError e1 (looks_opaque X1 T.tp) (l₀ := Value.ref C :: bm) (fun A Q E s k q => wpAny_bind ((looks_clsIn X1 hcl) A _ E s k (wpAny_pure q))) rfl X1 hsup (I1.type.andThen (looks_subIn X1 T.veC)) (ks_ne X1 I1 hcl) (by decide) ?_
  -- the wrapper, called
  have hmw : (h1.push (kxs_mw "ValueError.__init__" x)).get? h1.objs.size = some (kxs_mw "ValueError.__init__" x) := Heap.get?_push_at rfl rfl
  have up : ∀ y o, h1.get? y = some o → (h1.push (kxs_mw "ValueError.__init__" x)).get? y = some o := fun y o e => Heap.get?_push_of_some _ e
  refine kxs_callWith (i := "ValueError.__init__") (x := x) (by rfl) ?_
  refine evalArgs_plain ?_
  show wpAny _ _ (spliced ((false, eval (.Constant (.str msg) mj q4) env) :: [])) _ _ _
  refine spliced_cons (Calls.Constant_str (spliced_nil ⟨hmw, ?_⟩))
  have hu := hmw
  refine wpAny_call (codeAny_of_tree ?_)
  show wpAny _ A.in1 (callAny (.ref h1.objs.size) _) _ _ _
  simp only [callAny]
  refine wpAny_bind (wpAny_load hu ?_)
  simp only [kxs_mw, show (Value.type "method-wrapper" == Value.type "method" || Value.type "method-wrapper" == Value.type "builtin_function_or_method" || Value.type "method-wrapper" == Value.type "method-wrapper") = true by decide, if_true]
  refine KFB.if_so (by decide) ?_
  refine wpAny_bind (check_bound_init F.excBase_ValueError.toExcCallFacts (up _ _ (k1' _ _ hCg)) (up _ _ hx1) rfl ?_)
  refine wpAny_bind (wpAny_pure (wpAny_pure ?_))
  refine ⟨plainId_quiet F.excBase_ValueError.init.plain _, codeAny_builtin F.excBase_ValueError.initEntry ?_⟩
  refine exc_init_tree (cls := .ref C) (t0 := t0) (dv := none) (c2 := .none) (c3 := .none) (b4 := .bool false) (up _ _ hx1) (by show 1 ≤ sizeLine; rw [sizeLine_eq]; decide) (fun h' k he ht => ?_)
  exact hq h' _ _ (fun b o hb e => k b o hb (up _ _ (k1' b o e))) he

/-! ### the stores -/
theorem lookup_out {α : Type} : ∀ {fs : List Str} {us : List α} {f : Str}, f ∉ fs → (fs.zip us).lookup f = none
  | [], _, _, _ => rfl
  | _ :: _, [], _, _ => by simp
  | g :: fs, u :: us, f, h => by
    have hne : (f == g) = false := by
      have : f ≠ g := fun e => h (by rw [e]; exact List.mem_cons_self)
      simpa using this
    rw [List.zip_cons_cons, List.lookup_cons, hne]
    exact lookup_out fun q => h (List.mem_cons_of_mem _ q)

theorem Ns.keep {h h' : Heap} {L : Addr} {m : Str → Option Value} (n : h.Ns L m) (k : ∀ o, h.get? L = some o → h'.get? L = some o) : h'.Ns L m := by
  obtain ⟨o, es, ep, ho, r⟩ := n
  exact ⟨o, es, ep, k o ho, r⟩

theorem stores_old {env : Env} {L x dx : Addr} {m : Str → Option Value} (hk : env.scope.kind = .function) (hloc : env.locals = L) (hself : m "self" = some (.ref x)) (hks : env.kindOf "self" = some .local) (hLx : L ≠ dx)
    (T : findIn K (.ref C) "__setattr__" = some (some (.builtin "object.__setattr__"))) {cd : ClassData} (hcl : clsIn K C = some cd) (hre : refsVE cd.mro = true) (hhd : cd.hasDict = true) :
    ∀ {fs : List Str} {sts : List Stmt}, Stores fs sts → fs.Nodup → (∀ f ∈ fs, findIn K (.ref C) f = some none) → (∀ f ∈ fs, env.kindOf f = some .local) → (∀ f ∈ fs, (f == ("__debug__" : Str)) = false) →
    ∀ (us : List Value), us.length = fs.length → (∀ y, y ∈ fs → m y = (fs.zip us).lookup y) → ∀ (s : Shared) (m0 : Str → Option Value) (nl : List Str) (t1 : Addr), K.In s.heap → s.heap.Ns L m →
    s.heap.get? x = some { cls := .ref C, dict := some dx, data := .fields #[.ref t1, .none, .none, .none, .bool false, .none] } → s.heap.Ns1 dx m0 → PySem.Within m0 nl → nl.length + fs.length ≤ 900 → K.lookup dx = none → dx ≠ x →
    ∀ {Q : Flow → Shared → Prop}, (∀ h' tk m1, (∀ b o, b ≠ dx → s.heap.get? b = some o → h'.get? b = some o) → h'.Ns1 dx m1 → (∀ y, m1 y = match (fs.zip us).lookup y with | some u => some u | none => m0 y) → PySem.Within m1 (fs ++ nl) → Q .next { s with heap := h', toks := tk }) →
    wpAny (model prog w) A (execs sts env) Q E s := by
  intro fs sts S
  induction S with
  | nil =>
    intro _ _ _ _ us hl _ s m0 nl t1 X hn hx hns hw _ _ _ Q hq
    refine wpAny_execs_nil ?_
    exact hq s.heap s.toks m0 (fun _ _ _ e => e) hns (fun y => by simp) hw
  | cons p1 p2 p3 p4 S ih =>
    rename_i f fs sts
    intro nd noF hloc' hdbg us hl hm s m0 nl t1 X hn hx hns hw hsz hkd hdx Q hq
    cases us with
    | nil => cases hl
    | cons u us =>
      have hfu : m f = some u := by
        rw [hm f List.mem_cons_self, List.zip_cons_cons, List.lookup_cons, show (f == f) = true by simp]
      have ndf := List.nodup_cons.mp nd
      refine wpAny_execs_cons (plainObj_wpAny_Assign_Attribute ?_ (by rfl))
      refine wpAny_Name (wpAny_loadName_local hk (hloc' f List.mem_cons_self) (by rw [hloc]; exact hn) hfu ?_) (hdbg f List.mem_cons_self)
      refine wpAny_Name (wpAny_loadName_local hk hks (by rw [hloc]; exact hn) hself ?_) (by decide)
      obtain ⟨oD, _, _, hoD, _, _⟩ := hns.count hw
      obtain ⟨hp, g, d, t, os⟩ := s
      refine set_plain X (ox := { cls := .ref C, dict := some dx, data := .fields #[.ref t1, .none, .none, .none, .bool false, .none] }) (od := some oD) ⟨hx, rfl, rfl, hoD⟩ T ?_
      refine PySem.OEX.osa_old X hx hns hw (by omega) hcl hre hhd (noF f List.mem_cons_self) (fun h3 tk3 k3 hn3 => ?_)
      have X3 : K.In h3 := fun a o e => k3 a o (fun z => by rw [z, hkd] at e; cases e) (X a o e)
      refine ih ndf.2 (fun g hg => noF g (List.mem_cons_of_mem _ hg)) (fun g hg => hloc' g (List.mem_cons_of_mem _ hg)) (fun g hg => hdbg g (List.mem_cons_of_mem _ hg)) us (by simpa using hl) (fun y hy => ?_) ⟨h3, g, d, tk3, os⟩ _ (f :: nl) t1 X3 (Ns.keep hn fun o e => k3 L o hLx e) (k3 _ _ (Ne.symm hdx) hx) hn3 (Within.cons f u hw) (by simp only [List.length_cons] at hsz ⊢; omega) hkd hdx (fun h' tk m1 k hn1 hm1 hw1 => ?_)
      · rw [hm y (List.mem_cons_of_mem _ hy), List.zip_cons_cons, List.lookup_cons]
        have : (y == f) = false := by
          have : y ≠ f := fun e => ndf.1 (e ▸ hy)
          simpa using this
        rw [this]
      · refine hq h' tk m1 (fun b o hb e => k b o hb (k3 b o hb e)) hn1 (fun y => ?_) (fun y hy => ?_)
        · rw [hm1 y, List.zip_cons_cons, List.lookup_cons]
          by_cases e : y = f
          · subst e
            rw [lookup_out ndf.1]
            simp
          · have : (y == f) = false := by simpa using e
            rw [this]
            simp only [if_neg e]
        · have := hw1 y hy
          simp only [List.mem_append, List.mem_cons] at this ⊢
          rcases this with h | h | h
          · exact .inl (.inr h)
          · exact .inl (.inl h)
          · exact .inr h

theorem knone {h : Heap} {a : Addr} (X : K.In h) (e : h.get? a = none) : K.lookup a = none := by
  cases q : K.lookup a with
  | none => rfl
  | some o => rw [X _ _ q] at e; cases e
theorem rev_lookup {α : Type} : ∀ {fs : List Str} {us : List α} (y : Str), fs.Nodup → (fs.zip us).reverse.lookup y = (fs.zip us).lookup y
  | [], _, _, _ => by simp
  | _ :: _, [], _, _ => by simp
  | f :: fs, u :: us, y, nd => by
    have ndf := List.nodup_cons.mp nd
    rw [List.zip_cons_cons, List.reverse_cons, List.lookup_append, rev_lookup y ndf.2, List.lookup_cons]
    by_cases e : y = f
    · subst e
      rw [lookup_out ndf.1]
      simp
    · have e' : (y == f) = false := by simpa using e
      rw [e']
      cases h : (fs.zip us).lookup y <;> simp [List.lookup, e', h]

theorem exc_init (T : ExcK prog K C fI fs) {x t0 : Addr} {us : List Value} (X : K.In s.heap) (hg : s.heap.Ns mainGlobals mg) (hb : s.heap.Ns builtinsNs mb) (hbb : mb "super" = bootBuiltins "super") (hmg : mg "super" = none) (hlim : s.heap.NoLimit)
    (hx : s.heap.get? x = some (excO C t0)) (hnx : K.lookup x = none) (hroom : A.depth < recursionLimit) (hus : us.length = fs.length)
    (hq : ∀ h' tk d, InitEnd s.heap h' x C fs us d → R (.ok (.ret .none)) { s with heap := h', toks := tk }) :
    codeAny (model prog w) A (.call (.ref fI) ⟨.ref x :: us, []⟩) R s := by
  obtain ⟨oc, od, doc, pm, an, ct, osl, qual, params, scope, body, cc, cda, msg, mj, q1, q2, q3, q4, q5, q6, q7, ar, vs, file, tf, cl, ccl, cld, ccd, csl, cch, lk, hcd, hbody, hst, hline, hp, har, hcc, hcda, hvs, hfile, hbind, hk, hco, hgen, hncell, hloc, hsu, hcls⟩ := T.fn
  obtain ⟨nm, q, N, bs, bm, sn, sub, ab, col, dd, k0, k1, k2, k3, k5, hC, hbm⟩ := T.cls
  have hcl : clsIn K C = some { name := nm, bases := bs, mro := .ref C :: bm, ns := N, qualname := q, hasDict := true, slotNames := sn, subclasses := sub, abstract := ab, collection := col, hasDel := false } := by unfold clsIn; rw [hC] <;> rfl
  have hbt : BindsTo s (ksFn "__init__" qual params body scope .none .none doc pm an (.ref cda) ct cc) ⟨.ref x :: us, []⟩ ((("self" : Str) :: fs).zip (.ref x :: us)) := .of_eq (hbind _ (by rw [List.length_cons, hus]))
  have hnd : (("self" : Str) :: fs).Nodup := List.nodup_cons.mpr ⟨T.noself, T.nd⟩
  have getL : ∀ {y : Str} {v : Value}, ((("self" : Str) :: fs).zip (Value.ref x :: us)).lookup y = some v → ((("self" : Str) :: fs).zip (Value.ref x :: us)).reverse.lookup y = some v := fun {y v} h => by rw [rev_lookup y hnd]; exact h
  refine ks_codeAny_call_defAt (fd := ksFn "__init__" qual params body scope .none .none doc pm an (.ref cda) ct cc) (body := body) hroom (X _ _ lk) rfl hlim (codeRec_of X hcd) rfl hbt hncell (fun y hy => ?_) (fun h₀ hns hk₀ => ?_) hco hgen hk
  · obtain ⟨a, b⟩ := y
    exact hloc _ (List.of_mem_zip hy).1
  have hns' : h₀.Ns s.heap.objs.size (fun y => ((("self" : Str) :: fs).zip (Value.ref x :: us)).reverse.lookup y) := hns
  have X0 : K.In h₀ := X.keeps hk₀
  have hx0 := hk₀ _ _ hx
  have hLx : s.heap.objs.size ≠ x := Nat.ne_of_gt (Heap.lt_size hx)
  have hself : (fun y => ((("self" : Str) :: fs).zip (Value.ref x :: us)).reverse.lookup y) "self" = some (.ref x) := getL (by simp)
  generalize hA' : A.deeper (callEnv (ksFn "__init__" qual params body scope .none .none doc pm an (.ref cda) ct cc) s.heap.objs.size fI) = A'
  have hkind : ∀ y k, scope.names.lookup y = some k → (callEnv (ksFn "__init__" qual params body scope .none .none doc pm an (.ref cda) ct cc) s.heap.objs.size fI).kindOf y = some k := fun y k h => h
  generalize hst0 : ({ s with heap := h₀, toks := s.toks + ((("self" : Str) :: fs).zip (Value.ref x :: us)).length } : Shared) = s0
  have hs0 : s0.heap = h₀ := by rw [← hst0]
  rw [hbody]
  refine ks_wpAt_execs_cons ?_
  refine super_init (L := s.heap.objs.size) (m := fun y => ((("self" : Str) :: fs).zip (Value.ref x :: us)).reverse.lookup y) (x := x) (t0 := t0) T (by rw [hs0]; exact X0) (by rw [hs0]; exact hg.keeps hk₀) (by rw [hs0]; exact hb.keeps hk₀) hbb hmg (hkind _ _ hsu) (hkind _ _ hcls) (hkind _ _ (hloc _ List.mem_cons_self)) hk rfl rfl rfl rfl rfl rfl (by simp [interactive, callEnv, newEnv, hk])
    (by rw [hs0]; exact X0 _ _ lk) rfl hp har (by rw [hs0]; exact X0 _ _ hcda) rfl hvs hfile (by rw [hs0]; exact X0 _ _ hcc) rfl (by rw [hs0]; exact hns') hself (by rw [hs0]; exact hx0) (eval_super hline) (by rfl) (fun h1 tk1 t1 kk1 hx1 => ?_)
  rw [hs0] at kk1
  refine PySem.wpAt_of_wpAny ?_
  have X1 : K.In h1 := fun a o e => kk1 a o (fun z => by rw [z, hnx] at e; cases e) (X0 a o e)
  have hnsL : h1.Ns s.heap.objs.size (fun y => ((("self" : Str) :: fs).zip (Value.ref x :: us)).reverse.lookup y) := Ns.keep hns' fun o e => kk1 _ o hLx e
  have old1 : ∀ b o, b ≠ x → s.heap.get? b = some o → h1.get? b = some o := fun b o hb e => kk1 b o hb (hk₀ b o e)
  have hmf : ∀ y, y ∈ fs → (fun y => ((("self" : Str) :: fs).zip (Value.ref x :: us)).reverse.lookup y) y = (fs.zip us).lookup y := fun y hy => by
    show ((("self" : Str) :: fs).zip (Value.ref x :: us)).reverse.lookup y = _
    rw [rev_lookup y hnd, List.zip_cons_cons, List.lookup_cons]
    have : (y == ("self" : Str)) = false := by
      have : y ≠ "self" := fun e => T.noself (e ▸ hy)
      simpa using this
    rw [this]
  generalize hsts : body.drop 1 = sts at hst ⊢
  subst hst0
  cases hst with
  | nil =>
    refine wpAny_execs_nil ?_
    exact hq h1 tk1 none ⟨old1, ⟨t1, hx1⟩, rfl⟩
  | cons p1 p2 p3 p4 S =>
    rename_i f fs' sts'
    cases us with
    | nil => cases hus
    | cons u us =>
      have ndf := List.nodup_cons.mp T.nd
      have hfu := (hmf f List.mem_cons_self).trans (show ((f :: fs').zip (u :: us)).lookup f = some u by simp)
      refine wpAny_execs_cons (plainObj_wpAny_Assign_Attribute ?_ (by rfl))
      refine wpAny_Name (wpAny_loadName_local hk (hkind _ _ (hloc f (List.mem_cons_of_mem _ List.mem_cons_self))) hnsL hfu ?_) (T.nodbg f List.mem_cons_self)
      refine wpAny_Name (wpAny_loadName_local hk (hkind _ _ (hloc "self" List.mem_cons_self)) hnsL hself ?_) (by decide)
      refine set_plain X1 (ox := excO C t1) (od := none) ⟨hx1, rfl, rfl, trivial⟩ T.sa ?_
      refine exc_osa X1 hx1 hcl (show refsVE (.ref C :: bm) = true from hbm) rfl (T.noF f List.mem_cons_self) (fun h3 tk3 dx k3 dn dne hx3 hn3 => ?_)
      have X3 : K.In h3 := fun a o e => k3 a o (fun z => by rw [z, hnx] at e; cases e) (X1 a o e)
      have dnone : h1.get? dx = none := Heap.get?_none_of_le dn
      have hLd : s.heap.objs.size ≠ dx := fun z => by
        obtain ⟨o, _, _, ho, _⟩ := hnsL
        rw [z, dnone] at ho
        cases ho
      have few := T.few
      refine stores_old (x := x) (dx := dx) (L := s.heap.objs.size) (m := fun y => ((("self" : Str) :: f :: fs').zip (Value.ref x :: u :: us)).reverse.lookup y) hk rfl hself (hkind _ _ (hloc "self" List.mem_cons_self)) hLd T.sa hcl (show refsVE (.ref C :: bm) = true from hbm) rfl S ndf.2 (fun g hg => T.noF g (List.mem_cons_of_mem _ hg)) (fun g hg => hkind _ _ (hloc g (List.mem_cons_of_mem _ (List.mem_cons_of_mem _ hg)))) (fun g hg => T.nodbg g (List.mem_cons_of_mem _ hg)) us (by simpa using hus)
        (fun y hy => ?_) _ _ [f] t1 X3 (Ns.keep hnsL fun o e => k3 _ o hLx e) hx3 hn3 (Within.cons f u Within.nil) (by simp only [List.length_cons, List.length_nil] at few ⊢; omega) (knone X1 dnone) dne (fun h' tk m1 k hn1 hm1 hw1 => ?_)
      · refine (hmf y (List.mem_cons_of_mem _ hy)).trans ?_
        rw [List.zip_cons_cons, List.lookup_cons]
        have : (y == f) = false := by
          have : y ≠ f := fun e => ndf.1 (e ▸ hy)
          simpa using this
        rw [this]
      · refine hq h' tk (some dx) ⟨fun b o hb e => ?_, ⟨t1, k _ _ (Ne.symm dne) hx3⟩, ?_, dne, m1, hn1, fun y => ?_, fun y hy => ?_⟩
        · have e1 := old1 b o hb e
          exact k b o (fun z => by rw [z, dnone] at e1; cases e1) (k3 b o hb e1)
        · exact Nat.le_of_lt (Nat.lt_of_lt_of_le hnsL.lt dn)
        · rw [hm1 y, List.zip_cons_cons, List.lookup_cons]
          by_cases e : y = f
          · subst e
            rw [lookup_out ndf.1]
            simp
          · have : (y == f) = false := by simpa using e
            rw [this]
            simp only [if_neg e]
            cases (fs'.zip us).lookup y <;> rfl
        · have := hw1 y hy
          simp only [List.mem_append, List.mem_cons, List.not_mem_nil, or_false] at this ⊢
          rcases this with h | h
          · exact .inr h
          · exact .inl h
end
end XN

namespace L2
open PySem PySem.Spec PyProof.Rows XN
theorem zip_lookup_rel : ∀ {fs : List Str} {vs : List V} {us : List Value} (y : Str), Vals vs us → RelO ((fs.zip vs).lookup y) ((fs.zip us).lookup y)
  | [], _, _, _, _ => trivial
  | _ :: _, [], [], _, .nil => trivial
  | f :: fs, v :: vs, u :: us, y, .cons r t => by
    rw [List.zip_cons_cons, List.zip_cons_cons, List.lookup_cons, List.lookup_cons]
    cases h : (y == f) with
    | true => exact r
    | false => exact zip_lookup_rel y t
section
variable {X : Cx} {C fI : Addr} {fs : List Str}
/-- C(e, ..), C an own class of errors that stores its arguments under fs -/
def tMkX (C : Addr) (fs : List Str) (ta : TA) : St → Hp → XK → Prop := fun σ H Q => ta σ H fun vs H1 => vs.length = fs.length ∧ ∀ d, H1 d = none → Q (.ref C) (some d) (upd H1 d (.xd (fs.zip vs)))
theorem pmk_exc {x : Str} {k : Nat} {e : Expr} {es : List Expr} {ta : TA} {p pos : Pos} (T : ExcK X.prog X.K C fI fs) (hfs : fs ≠ []) (gC : X.mg x = some (.ref C)) (hr : Room k X.A) (ha : PA X (e :: es) ta) (hg : Gl X x)
    (hms : X.mg "super" = none) (hdb : (x == ("__debug__" : Str)) = false := by decide)
    (he : starEach (e :: es) X.env = (false, eval e X.env) :: starEach es X.env := by rfl) (hpl : (backTo pos (starEach es X.env)).any (·.1) = false := by rfl) :
    PMk X (.Call (.Name x p) (e :: es) [] pos) (tMkX C fs ta) := by
  intro pins s σ H Q I h
  obtain ⟨nm, q, N, bs, bm, sn, sub, ab, col, dd, k0, k1, k2, k3, k5, hC, hbm⟩ := T.cls
  refine wpAny_Call_Name_kw (ld_glob I hg gC ?_ hdb)
  refine PySem.W.callWith_K (h₀ := X.base) I.ok.mod.kin T.kC (thn (ha.run pos pins s σ H _ I h) fun us s1 hh => ?_) he hpl
  obtain ⟨vs, H1, I1, r1, hl, q1⟩ := hh
  refine ⟨I1.kIn, ?_⟩
  show wpAny _ _ (call (.ref C) us) _ _ _
  have hlim := I1.nolimit
  have KX := I1.kIn
  obtain ⟨hp, g, dr, tk, os⟩ := s1
  have kk : ∀ b o, hp.get? b = some o → ((hp.push (PySem.W.kdv_tup us)).push (PySem.HandSPX.excO C hp.objs.size)).get? b = some o := fun b o e => Heap.get?_push_of_some _ (Heap.get?_push_of_some _ e)
  have hget : ((hp.push (PySem.W.kdv_tup us)).push (PySem.HandSPX.excO C hp.objs.size)).get? (hp.objs.size + 1) = some (PySem.HandSPX.excO C hp.objs.size) := by heap_get
  have hnx : X.K.lookup (hp.objs.size + 1) = none := knone KX (Heap.get?_none_of_le (Nat.le_succ _))
  have hlen : us.length = fs.length := by rw [← hl]; exact (Paired.length r1).symm
  obtain ⟨mb, hb1, hb2⟩ := I1.mod.blt
  refine wpAny_call (PySem.HandSPX.call_own F.excBase_ValueError (fun Y => PySem.HandSPX.refsVE_contains Y bm hbm) (KX _ _ hC) (PySem.W.looks_findIn KX T.iC) (fun self => PySem.W.bind_fn KX self T.tC) (by have := T.few; rw [hlen, sizeLine_eq]; omega) ?_)
  refine exc_init (s := ⟨(hp.push (PySem.W.kdv_tup us)).push (PySem.HandSPX.excO C hp.objs.size), g, dr, tk, os⟩) T (KX.keeps kk) ((I1.mod.glob.keeps I1.bk).keeps kk) ((hb1.keeps I1.bk).keeps kk) (hb2 _ (by decide)) hms (hlim.keeps kk) hget hnx (by have := hr.dp; rw [make_depth]; omega) hlen (fun h' tk' d M => ?_)
  show _ ∧ MkP X pins σ Q (.ref (hp.objs.size + 1)) ⟨h', g, dr, tk', os⟩
  obtain ⟨kp, ⟨t1, hobj⟩, hd⟩ := M
  have kp' : ∀ b o, hp.get? b = some o → h'.get? b = some o := fun b o e => kp b o (Nat.ne_of_lt (Nat.lt_succ_of_lt (Heap.lt_size e))) (kk b o e)
  refine ⟨rfl, ?_⟩
  cases d with
  | none => exact absurd hd hfs
  | some dx =>
    obtain ⟨hdn, hde, m, hns, hm, hw⟩ := hd
    have hdx : hp.objs.size ≤ dx := by
      have z : hp.objs.size + 2 ≤ dx := by
        first
          | (simpa only [Heap.size_push] using hdn)
          | exact hdn
          | (have q := hdn; rw [Heap.size_push, Heap.size_push] at q; exact q)
      omega
    obtain ⟨G', g1, g2⟩ := restrict h' fun b => decide (b ≠ hp.objs.size + 1)
    have gk : ∀ b, b ≠ hp.objs.size + 1 → G'.get? b = h'.get? b := fun b hb => g1 b (decide_eq_true hb)
    have ge : G'.get? (hp.objs.size + 1) = none := g2 _ (by simp)
    have old : ∀ b o, hp.get? b = some o → G'.get? b = some o := fun b o q => (gk b (Nat.ne_of_lt (Nat.lt_succ_of_lt (Heap.lt_size q)))).trans (kp' b o q)
    have ob : ObjOk X.prog X.w (upd H1 dx (.xd (fs.zip vs))) G' dx (.xd (fs.zip vs)) :=
      ⟨_, hns.at (fun o q => (gk dx hde).trans q), fun f => by rw [hm f]; exact zip_lookup_rel f r1⟩
    have J : Inv X pins σ (upd H1 dx (.xd (fs.zip vs))) ⟨G', g, dr, tk', os⟩ := I1.laid (t' := tk') old hdx ob
    refine ⟨hp.objs.size + 1, _, _, ⟨G', g, dr, tk', os⟩, _, .ref C, some dx, rfl, J, fun b o q => ?_, ge, hobj, ⟨rfl, rfl⟩, rfl, rfl, ?_, rfl, I1.bare, raises_own T.exC T.tyC, q1 dx (I1.hok.fresh hdx)⟩
    · by_cases hb : b = hp.objs.size + 1
      · have q' : G'.get? b = some o := q
        rw [hb, ge] at q'
        cases q'
      · exact (gk b hb).symm.trans q
    · rw [upd_ne (Ne.symm hde)]
      exact I1.hok.fresh (Nat.le_succ _)
end
end L2

/-! My layer over the hand layer: calls by bundles, operators of several kinds in one rule, one intro lemma a reading, a stepper. -/
namespace Rn
open PySem PySem.Spec PyProof.Rows L2
abbrev St : Type := L2.St

/-! ### defs by bundles -/
/-- the module's name x stands for a def that keeps sp -/
structure GFn (P : Program) (w : World) (K : PySem.W.Frag) (mg : Str → Option Value) (base : Heap) (x : Str) (k : Nat) (ps : List Str) (sp : Sp) : Prop where
  ex : ∃ f fd, mg x = some (.ref f) ∧ PySem.W.keepIn K (.ref f) = true ∧ Binds K fd ps [] ∧ FnOk P w K mg base (L2.CX P w) k f fd ps sp
section
variable {X : Cx} {k : Nat} {ps : List Str} {sp : Sp} {x : Str} {p pos : Pos} {e : Expr} {es : List Expr} {t : TA} {W : WX}
/-- the i-th def's call: sp's wish with the exceptions that W takes -/
def tG (sp : Sp) (W : WX) (t : TA) : TE := fun σ H Q => t σ H fun vs H1 => sp vs H1 Q fun c d H' => W c d σ H'
theorem pe_g (G : GFn X.prog X.w X.K X.mg X.base x k ps sp) (hr : Room k X.A) (tk : Takes X W) (ha : PA X (e :: es) t) (hg : Gl X x := by rfl) (hdb : (x == ("__debug__" : Str)) = false := by decide)
    (he : starEach (e :: es) X.env = (false, eval e X.env) :: starEach es X.env := by rfl) (hpl : (backTo pos (starEach es X.env)).any (·.1) = false := by rfl) :
    PE X (.Call (.Name x p) (e :: es) [] pos) (tG sp W t) := by
  obtain ⟨f, fd, hm, hk, hb, F⟩ := G.ex
  exact pe_callS F hr hg hm hk hb (fun σ => passAt tk σ) ha hdb he hpl
end

/-! ### operators of several kinds -/
section
variable {X : Cx}
def rAddS : R2 := fun x y H Q => ∃ i j, x = .str i ∧ y = .str j ∧ i.length + j.length ≤ sizeLine ∧ Q (.str (i ++ j)) H
def rAddZ (K : PySem.W.Frag) : R2 := fun x y H Q => (rI0 fun i j => .int (i + j)) x y H Q ∨ (rAddS x y H Q ∨ (rCat x y H Q ∨ rCatA K x y H Q))
theorem op_addZ : OpR X (binaryOp .Add) (rAddZ X.K) := op_add.or (op_add_str.or (op_cat.or op_catA))
def rMulZ (K : PySem.W.Frag) : R2 := fun x y H Q => ((rI CMul fun i j => .int (i * j)) x y H Q ∨ (rI CMulW fun i j => .int (i * j)) x y H Q) ∨ (rRep x y H Q ∨ rRepT K x y H Q)
theorem op_mulZ : OpR X (binaryOp .Mult) (rMulZ X.K) := (op_mul.or op_mulW).or (op_rep.or op_repT)
def rDivZ : R2 := rI CDivW fun i j => .int (i / j)
theorem op_divZ : OpR X (binaryOp .FloorDiv) rDivZ := op_fdivW
def rModZ : R2 := rI (fun _ j => 0 < j) fun i j => .int (i % j)
theorem op_modZ : OpR X (binaryOp .Mod) rModZ := op_mod
def rEqZ (K : PySem.W.Frag) : R2 := fun x y H Q => rEq x y H Q ∨ rEqD K x y H Q
def rNeZ (K : PySem.W.Frag) : R2 := fun x y H Q => rNe x y H Q ∨ rNeD K x y H Q
theorem op_eqZ (hu : X.A.units + 64 < cLine) : OpR X (compareOp .Eq) (rEqZ X.K) := op_eq.or (op_eqD hu)
theorem op_neZ (hu : X.A.units + 64 < cLine) : OpR X (compareOp .NotEq) (rNeZ X.K) := op_ne.or (op_neD hu)
def rInZ (K : PySem.W.Frag) : R2 := fun x y H Q => rIn K false x y H Q ∨ rInD K x y H Q
def rNotInZ (K : PySem.W.Frag) : R2 := fun x y H Q => rIn K true x y H Q ∨ rNotInD K x y H Q
theorem op_inZ (hu : X.A.units + 65 < cLine) : OpR X (compareOp .In) (rInZ X.K) := op_in_seq.or (op_inD hu)
theorem op_notInZ (hu : X.A.units + 65 < cLine) : OpR X (compareOp .NotIn) (rNotInZ X.K) := op_notIn_seq.or (op_notInD hu)
def rSlZ (K : PySem.W.Frag) : V → Option Int → Option Int → Hp → VK → Prop := fun x lo hi H Q => rSlL K x lo hi H Q ∨ (rSlA K x lo hi H Q ∨ rSlS x lo hi H Q)
theorem sl_Z : SlR X (rSlZ X.K) := sl_list.or (sl_tupA.or sl_str)
end
/-! ### intro lemmas: values -/
theorem decV_int (i j : Int) : decide (V.int i = V.int j) = decide (i = j) := by
  by_cases e : i = j
  · subst e; simp
  · have : ¬ V.int i = V.int j := fun q => e (V.int.inj q)
    simp [e]
section
variable {K : PySem.W.Frag} {H : Hp} {Q : VK} {i j : Int} {a b : Addr} {xs ys : List V} {v : V} {z : Str}
theorem zAdd_int (h : Q (.int (i + j)) H) : rAddZ K (.int i) (.int j) H Q := .inl ⟨i, j, rfl, rfl, h⟩
theorem zAdd_str {z y : Str} (hl : z.length + y.length ≤ sizeLine) (h : Q (.str (z ++ y)) H) : rAddZ K (.str z) (.str y) H Q := .inr (.inl ⟨z, y, rfl, rfl, hl, h⟩)
theorem zAdd_lst (ha : H a = some (.lst xs)) (hb : H b = some (.lst ys)) (hl : xs.length + ys.length ≤ sizeLine) (h : ∀ p, H p = none → Q (.ref p) (upd H p (.lst (xs ++ ys)))) : rAddZ K (.ref a) (.ref b) H Q :=
  .inr (.inr (.inl ⟨a, b, xs, ys, rfl, rfl, ha, hb, hl, h⟩))
theorem zAdd_tup (ha : SqT K H a xs) (hb : SqT K H b ys) (hl : xs.length + ys.length ≤ sizeLine) (h0 : xs = [] → Q (.ref b) H) (h1 : xs ≠ [] → ys = [] → Q (.ref a) H) (h : xs ≠ [] → ys ≠ [] → ∀ p, H p = none → Q (.ref p) (upd H p (.tup (xs ++ ys)))) : rAddZ K (.ref a) (.ref b) H Q :=
  .inr (.inr (.inr ⟨a, b, xs, ys, rfl, rfl, ha, hb, hl, h0, h1, h⟩))
theorem zSub_int (h : Q (.int (i - j)) H) : rI0 (fun i j => V.int (i - j)) (.int i) (.int j) H Q := ⟨i, j, rfl, rfl, h⟩
theorem zMul_int (hc : CMul i j) (h : Q (.int (i * j)) H) : rMulZ K (.int i) (.int j) H Q := .inl (.inl ⟨i, j, rfl, rfl, hc, h⟩)
theorem zMul_wide (hc : CMulW i j) (h : Q (.int (i * j)) H) : rMulZ K (.int i) (.int j) H Q := .inl (.inr ⟨i, j, rfl, rfl, hc, h⟩)
theorem zMul_lst (ha : H a = some (.lst xs)) (h0 : -(2 ^ 63) ≤ j) (h1 : j < 2 ^ 63) (hl : xs.length * j.toNat ≤ sizeLine) (h : ∀ p, H p = none → Q (.ref p) (upd H p (.lst (List.replicate j.toNat xs).flatten))) : rMulZ K (.ref a) (.int j) H Q :=
  .inr (.inl ⟨a, j, xs, rfl, rfl, ha, h0, h1, hl, h⟩)
theorem zDiv (hc : CDivW i j) (h : Q (.int (i / j)) H) : rDivZ (.int i) (.int j) H Q := ⟨i, j, rfl, rfl, hc, h⟩
theorem zMod (hc : 0 < j) (h : Q (.int (i % j)) H) : rModZ (.int i) (.int j) H Q := ⟨i, j, rfl, rfl, hc, h⟩
theorem zPow (hc : CPow i j) (h : Q (.int (i ^ j.toNat)) H) : rI CPow (fun i j => V.int (i ^ j.toNat)) (.int i) (.int j) H Q := ⟨i, j, rfl, rfl, hc, h⟩
theorem zCmp {g : Int → Int → V} (h : Q (g i j) H) : rI0 g (.int i) (.int j) H Q := ⟨i, j, rfl, rfl, h⟩
theorem zEq {x y : V} (hs : scal x y = true) (h : Q (.bl (decide (x = y))) H) : rEqZ K x y H Q := .inl ⟨hs, h⟩
theorem zNe {x y : V} (hs : scal x y = true) (h : Q (.bl (!decide (x = y))) H) : rNeZ K x y H Q := .inl ⟨hs, h⟩
theorem zEq_int (h : Q (.bl (decide (i = j))) H) : rEqZ K (.int i) (.int j) H Q := .inl ⟨rfl, by rw [decV_int]; exact h⟩
theorem zNe_int (h : Q (.bl (!decide (i = j))) H) : rNeZ K (.int i) (.int j) H Q := .inl ⟨rfl, by rw [decV_int]; exact h⟩
theorem zEq_D {x y : V} {d e : PyData} (hd : Dp K H x d) (he : Dp K H y e) (s1 : SeqAt.shaped d = true) (s2 : SeqAt.shaped e = true) (h : Q (.bl (PyData.eqv d e)) H) : rEqZ K x y H Q := .inr ⟨d, e, hd, he, s1, s2, h⟩
theorem zNe_D {x y : V} {d e : PyData} (hd : Dp K H x d) (he : Dp K H y e) (s1 : SeqAt.shaped d = true) (s2 : SeqAt.shaped e = true) (h : Q (.bl (!PyData.eqv d e)) H) : rNeZ K x y H Q := .inr ⟨d, e, hd, he, s1, s2, h⟩
theorem zNeg (h : Q (.int (-i)) H) : rU (fun i => V.int (-i)) (.int i) H Q := ⟨i, rfl, h⟩
theorem zIx_lst (hs : SqL K H a xs) (hv : atI xs i = some v) (h : Q v H) : rIx K (.ref a) (.int i) H Q := .inl ⟨a, xs, i, v, rfl, rfl, hs, hv, h⟩
theorem zIx_tup (hs : SqT K H a xs) (hv : atI xs i = some v) (h : Q v H) : rIx K (.ref a) (.int i) H Q := .inr (.inl ⟨a, xs, i, v, rfl, rfl, hs, hv, h⟩)
theorem zIx_str {c : Nat} (hl : z.length ≤ sizeLine) (hv : atI z.cps.toList i = some c) (h : Q (.str ⟨#[c]⟩) H) : rIx K (.str z) (.int i) H Q := .inr (.inr ⟨z, i, c, rfl, rfl, hl, hv, h⟩)
theorem zSl_lst {lo hi : Option Int} (hs : SqL K H a xs) (h : ∀ p, H p = none → Q (.ref p) (upd H p (.lst (cutV xs lo hi)))) : rSlZ K (.ref a) lo hi H Q := .inl ⟨a, xs, rfl, hs, h⟩
theorem zSl_str {lo hi : Option Int} (hl : z.length ≤ sizeLine) (h : Q (.str (cutS z lo hi)) H) : rSlZ K (.str z) lo hi H Q := .inr (.inr ⟨z, rfl, hl, h⟩)
theorem zIn_flat {x : V} (hs : SqL K H a xs ∨ SqT K H a xs) (hx : flatV x = true) (hf : xs.all flatV = true) (h : Q (.bl (inV x xs)) H) : rInZ K x (.ref a) H Q := .inl ⟨a, xs, rfl, hs, hx, hf, h⟩
theorem zNotIn_flat {x : V} (hs : SqL K H a xs ∨ SqT K H a xs) (hx : flatV x = true) (hf : xs.all flatV = true) (h : Q (.bl (!inV x xs)) H) : rNotInZ K x (.ref a) H Q := .inl ⟨a, xs, rfl, hs, hx, hf, h⟩
theorem zIn_D {x : V} {d : PyData} {ds : List PyData} (hd : Dp K H x d) (he : Dp K H (.ref a) (.list ds)) (s1 : SeqAt.shaped d = true) (s2 : SeqAt.shaped (.list ds) = true) (h : Q (.bl (ds.any fun z => PyData.eqv z d)) H) : rInZ K x (.ref a) H Q := .inr ⟨d, ds, hd, he, s1, s2, h⟩
end

/-! ### intro lemmas: the combinators -/
section
variable {K : PySem.W.Frag} {σ : St} {H : Hp} {Q : VK} {D : Ends} {ta tb tc te : TE} {t u : TS} {c c' : TT} {g : TG} {r r' : R2} {i : Nat} {v : V} {T : TA} {QA : List V → Hp → Prop} {QT : Bool → Hp → Prop} {wi : TI} {id : String}
theorem rd_var (h1 : σ[i]? = some (some v)) (h : Q v H) : tVar i σ H Q := ⟨v, h1, h⟩
theorem rd_c (h : Q v H) : tC v σ H Q := h
theorem rd_op (h : ta σ H fun x H1 => tb σ H1 fun y H2 => r x y H2 Q) : tOp r ta tb σ H Q := h
theorem rd_un {rr : V → Hp → VK → Prop} (h : ta σ H fun x H1 => rr x H1 Q) : tUn rr ta σ H Q := h
theorem rd_nil (h : QA [] H) : tNil σ H QA := h
theorem rd_cons (h : ta σ H fun x H1 => T σ H1 fun xs H2 => QA (x :: xs) H2) : tCons ta T σ H QA := h
theorem rd_cb {rc : List V → Hp → VK → Prop} (h : T σ H fun vs H1 => rc vs H1 Q) : tCB rc T σ H Q := h
theorem rd_g {sp : Sp} {W : WX} (h : T σ H fun vs H1 => sp vs H1 Q fun c d H' => W c d σ H') : tG sp W T σ H Q := h
/-- a new object, then Q -/
def kNew (o : HO) (Q : VK) : Hp → Prop := fun H1 => ∀ p, H1 p = none → Q (.ref p) (upd H1 p o)
theorem rd_tup (h : T σ H fun xs H1 => xs.length ≤ sizeLine ∧ kNew (.tup xs) Q H1) : tTup T σ H Q := h
theorem rd_lst (h : T σ H fun xs H1 => xs.length ≤ sizeLine ∧ kNew (.lst xs) Q H1) : tLst T σ H Q := h
theorem rd_sl {rs : V → Option Int → Option Int → Hp → VK → Prop} {tl th : TO} (h : te σ H fun x H1 => tl σ H1 fun l H2 => th σ H2 fun u H3 => rs x l u H3 Q) : tSl rs te tl th σ H Q := h
theorem rd_part {QO : Option Int → Hp → Prop} (h : te σ H fun x H1 => ∃ i, x = .int i ∧ QO (some i) H1) : tPart te σ H QO := h
theorem rd_nopart {QO : Option Int → Hp → Prop} (h : QO none H) : tNoPart σ H QO := h
theorem rd_bm {Ty : String} {rm : V → List V → Hp → VK → Prop} (h : te σ H fun x H1 => tyV K Ty x H1 ∧ T σ H1 fun xs H2 => rm x xs H2 Q) : tBM K Ty rm te T σ H Q := h
theorem rd_bm0 {Ty : String} {rm : V → List V → Hp → VK → Prop} (h : te σ H fun x H1 => tyV K Ty x H1 ∧ rm x [] H1 Q) : tBM0 K Ty rm te σ H Q := h
theorem rd_ifE (h : c σ H fun b H1 => if b = true then ta σ H1 Q else tb σ H1 Q) : tIf c ta tb σ H Q := h
theorem rd_andV (h : ta σ H fun x H1 => ∃ c, x = .bl c ∧ if c = true then tb σ H1 Q else Q (.bl false) H1) : tAndV ta tb σ H Q := h
theorem rd_orV (h : ta σ H fun x H1 => ∃ c, x = .bl c ∧ if c = true then Q (.bl true) H1 else tb σ H1 Q) : tOrV ta tb σ H Q := h
theorem rd_notV (h : ta σ H fun x H1 => ∃ c, x = .bl c ∧ Q (.bl (!c)) H1) : tNotV ta σ H Q := h
theorem rd_test (h : te σ H fun x H1 => ∃ k, x = .bl k ∧ QT k H1) : tTest te σ H QT := h
theorem rd_tB (h : te σ H fun x H1 => ∃ k, x = .bl k ∧ QT k H1) : tB te σ H QT := h
theorem rd_and (h : c σ H fun b H1 => if b = true then c' σ H1 QT else QT false H1) : tAnd c c' σ H QT := h
theorem rd_or (h : c σ H fun b H1 => if b = true then QT true H1 else c' σ H1 QT) : tOr c c' σ H QT := h
theorem rd_not (h : c σ H fun b H1 => QT (!b) H1) : tNot c σ H QT := h
theorem rd_chain (h : ta σ H fun x H1 => tb σ H1 fun y H2 => r x y H2 fun z H3 => ∃ k, z = .bl k ∧ (if k = true then tc σ H3 fun w' H4 => r' y w' H4 Q else Q (.bl false) H3)) : tChain r r' ta tb tc σ H Q := h
theorem rd_bl {b : Bool} {P : Bool → Prop} (h : P b) : ∃ k, V.bl b = .bl k ∧ P k := ⟨b, rfl, h⟩
theorem rd_intE {n : Int} {P : Int → Prop} (h : P n) : ∃ k, V.int n = .int k ∧ P k := ⟨n, rfl, h⟩
theorem rd_seq (h : t { D with nx := u D } σ H) : tSeq t u D σ H := h
theorem rd_asg (h : te σ H fun x H1 => g x σ H1 D.nx) : tAsg te g D σ H := h
theorem rd_gname {QG : St → Hp → Prop} (h : QG (σ.set i (some v)) H) : gName i v σ H QG := h
theorem rd_gsub {to ti : TE} {ts : TSet} {QG : St → Hp → Prop} (h : to σ H fun o H1 => ti σ H1 fun i H2 => ts o i v H2 fun H3 => QG σ H3) : gSub to ti ts v σ H QG := h
theorem rd_drop (h : te σ H fun _ H1 => D.nx σ H1) : tDrop te D σ H := h
theorem rd_ret (h : te σ H D.rt) : tRet te D σ H := h
theorem rd_retN (h : D.rt .non H) : tRetN D σ H := h
theorem rd_next (h : D.nx σ H) : tNext D σ H := h
theorem rd_brk (h : D.bk σ H) : tBreak D σ H := h
theorem rd_ct (h : D.ct σ H) : tCont D σ H := h
theorem rd_ifS (h : c σ H fun b H1 => if b = true then t D σ H1 else u D σ H1) : tIfS c t u D σ H := h
theorem rd_aug {ti : TIp} {x : V} (h1 : σ[i]? = some (some x)) (h : te σ H fun y H1 => ti x y H1 fun z H2 => D.nx (σ.set i (some z)) H2) : tAug i te ti D σ H := ⟨x, h1, h⟩
theorem rd_fld {f : Str} (h : te σ H fun x H1 => ∃ a C dx fs v, x = .ref a ∧ H1 a = some (.ins C dx fs) ∧ Cls K C ∧ NoAttr K C f ∧ fs.lookup f = some v ∧ Q v H1) : tFld K te f σ H Q := h
theorem rd_yes (h : QT true H) : tYes σ H QT := h
theorem rd_sfld {f : Str} {tv : TE} (h : tv σ H fun y H1 => te σ H1 fun x H2 => ∃ a C dx fs, x = .ref a ∧ H2 a = some (.ins C dx fs) ∧ Cls K C ∧ NoAttr K C f ∧ fs.length < 1000 ∧ D.nx σ (upd H2 a (.ins C dx (putF f y fs)))) : sFld K te tv f D σ H := h
theorem iteB {A B : Prop} {b : Bool} (h1 : b = true → A) (h2 : b = false → B) : if b = true then A else B := by
  cases b with
  | true => exact iteT (h1 rfl)
  | false => exact iteF (h2 rfl)
theorem iteD {p : Prop} {_ : Decidable p} {A B : Prop} (h1 : p → A) (h2 : ¬ p → B) : if decide p = true then A else B := by
  by_cases h : p
  · rw [decide_eq_true h]; exact iteT (h1 h)
  · rw [decide_eq_false h]; exact iteF (h2 h)
theorem iteND {p : Prop} {_ : Decidable p} {A B : Prop} (h1 : ¬ p → A) (h2 : p → B) : if (!decide p) = true then A else B := by
  by_cases h : p
  · rw [decide_eq_true h]; exact iteF (h2 h)
  · rw [decide_eq_false h]; exact iteT (h1 h)
end
end Rn

/-! data that stays: a part F of the heap H that nothing changes; typed data in it; what a step leaves (Gr). -/
namespace Rn
open PySem PySem.Spec PyProof.Rows L2
open PySem.W (Datum Tup)

/-! ### parts of a heap -/
def Xt (F H : Hp) : Prop := ∀ b o, F b = some o → H b = some o
theorem Xt.refl (F : Hp) : Xt F F := fun _ _ h => h
theorem Xt.trans {F G H : Hp} (a : Xt F G) (b : Xt G H) : Xt F H := fun c o h => b c o (a c o h)
theorem Xt.upd {F H : Hp} {p : Addr} {o : HO} (a : Xt F H) (n : F p = none) : Xt F (L2.upd H p o) := fun b u h => by
  by_cases e : b = p
  · subst e; rw [n] at h; cases h
  · rw [upd_ne e]; exact a b u h
theorem Xt.updF {F H : Hp} {p : Addr} {o : HO} (a : Xt F H) (h : H p = some o) : Xt (L2.upd F p o) H := fun b u q => by
  by_cases e : b = p
  · subst e; rw [upd_same] at q; rw [← q]; exact h
  · rw [upd_ne e] at q; exact a b u q
/-- from (F, H) to (F', H'): F' grows of F by what was not there, H' is H but at S -/
structure Gr (S : List Addr) (F H F' H' : Hp) : Prop where
  ff : Xt F F'
  fh : Xt F' H'
  hh : ∀ b o, b ∉ S → H b = some o → H' b = some o
  th : ∀ b, H b ≠ none → H' b ≠ none
  nw : ∀ b, H b ≠ none → F b = none → F' b = none
section
variable {S S' : List Addr} {F H F' H' F'' H'' : Hp} {p : Addr} {o : HO}
theorem Gr.refl (e : Xt F H) : Gr S F H F H := ⟨.refl _, e, fun _ _ _ h => h, fun _ h => h, fun _ _ h => h⟩
theorem Gr.trans (a : Gr S F H F' H') (b : Gr S' F' H' F'' H'') (s : ∀ p ∈ S', p ∈ S ∨ H p = none) : Gr S F H F'' H'' :=
  ⟨a.ff.trans b.ff, b.fh, fun c o n h => b.hh c o (fun m => by
    rcases s c m with k | k
    · exact n k
    · rw [k] at h; cases h) (a.hh c o n h), fun c h => b.th c (a.th c h), fun c h f => b.nw c (a.th c h) (a.nw c h f)⟩
theorem Gr.tr0 (a : Gr S F H F' H') (b : Gr [] F' H' F'' H'') : Gr S F H F'' H'' := a.trans b fun _ h => nomatch h
theorem Gr.weak (a : Gr [] F H F' H') : Gr S F H F' H' := ⟨a.ff, a.fh, fun b o _ h => a.hh b o (fun m => nomatch m) h, a.th, a.nw⟩
/-- a new object, free to change -/
theorem Gr.newM (e : Xt F H) (n : H p = none) : Gr [] F H F (L2.upd H p o) := by
  have nf : F p = none := by
    cases q : F p with
    | none => rfl
    | some u => rw [e p u q] at n; cases n
  refine ⟨.refl _, e.upd nf, fun b u _ h => ?_, fun b h => ?_, fun _ _ h => h⟩
  · rw [upd_ne (ne_of_none h n)]; exact h
  · intro z
    by_cases q : b = p
    · subst q; exact h n
    · rw [upd_ne q] at z; exact h z
/-- a new object that stays -/
theorem Gr.newF (e : Xt F H) (n : H p = none) : Gr [] F H (L2.upd F p o) (L2.upd H p o) := by
  have g := Gr.newM (o := o) e n
  refine ⟨fun b u h => ?_, Xt.updF g.fh upd_same, g.hh, g.th, fun b h f => ?_⟩
  · have : b ≠ p := fun z => by subst z; rw [e b u h] at n; cases n
    rw [upd_ne this]; exact h
  · have : b ≠ p := fun z => by subst z; exact h n
    rw [upd_ne this]; exact f
/-- p changes -/
theorem Gr.chg (e : Xt F H) (n : F p = none) (h : H p ≠ none) : Gr [p] F H F (L2.upd H p o) := by
  refine ⟨.refl _, e.upd n, fun b u m q => ?_, fun b q z => ?_, fun _ _ h => h⟩
  · rw [upd_ne (fun z => m (by simp [z]))]; exact q
  · by_cases k : b = p
    · subst k; rw [upd_same] at z; cases z
    · rw [upd_ne k] at z; exact q z
/-- p stays from here on -/
theorem Gr.frz (e : Xt F H) (n : F p = none) (h : H p = some o) (g : Gr S F'' H'' F H) (k : H'' p = none) : Gr S F'' H'' (L2.upd F p o) H := by
  refine ⟨fun b u q => ?_, e.updF h, g.hh, g.th, fun b q f => ?_⟩
  · have : b ≠ p := fun z => by subst z; rw [g.ff b u q] at n; cases n
    rw [upd_ne this]; exact g.ff b u q
  · have : b ≠ p := fun z => by subst z; exact q k
    rw [upd_ne this]; exact g.nw b q f
theorem Xt.frz (e : Xt F H) (n : F p = none) : Xt F (L2.upd F p o) := fun b u q => by
  have : b ≠ p := fun z => by subst z; rw [q] at n; cases n
  rw [upd_ne this]; exact q
theorem Gr.at_ (g : Gr S F H F' H') (h : H p = some o) (n : p ∉ S) : H' p = some o := g.hh p o n h
theorem Gr.at0 (g : Gr [] F H F' H') (h : H p = some o) : H' p = some o := g.hh p o (fun m => nomatch m) h
theorem Gr.no (g : Gr S F H F' H') (h : F p = none) (q : H p ≠ none) : F' p = none := g.nw p q h
theorem Gr.old (g : Gr S F H F' H') (n : H' p = none) : H p = none := by
  cases q : H p with
  | none => rfl
  | some u => exact absurd n (g.th p (by rw [q]; exact nofun))
end

/-- a step that leaves the part that stays as it is -/
structure Gc (S : List Addr) (F H H' : Hp) : Prop where
  gr : Gr S F H F H'
theorem Gc.fh {S : List Addr} {F H H' : Hp} (g : Gc S F H H') : Xt F H' := g.gr.fh
theorem Gc.old {S : List Addr} {F H H' : Hp} {p : Addr} (g : Gc S F H H') (n : H' p = none) : H p = none := g.gr.old n
theorem Gc.at0 {F H H' : Hp} {p : Addr} {o : HO} (g : Gc [] F H H') (h : H p = some o) : H' p = some o := g.gr.at0 h
theorem Gc.th {S : List Addr} {F H H' : Hp} (g : Gc S F H H') : ∀ b, H b ≠ none → H' b ≠ none := g.gr.th
/-! ### typed data -/
section
variable {K : PySem.W.Frag} {F G H : Hp} {a : Addr} {v : V} {vs ws : List V}
theorem rd_ext (e : Xt F H) {u : HO} (h : Rd F a u) : Rd H a u := by
  rcases h with h | ⟨o, h⟩
  · exact .inl (e _ _ h)
  · exact .inr ⟨o, e _ _ h⟩
theorem sqL_ext (e : Xt F H) (h : SqL K F a vs) : SqL K H a vs := by
  rcases h with h | h
  · exact .inl (rd_ext e h)
  · exact .inr h
theorem sqT_ext (e : Xt F H) (h : SqT K F a vs) : SqT K H a vs := by
  rcases h with h | h
  · exact .inl (rd_ext e h)
  · exact .inr h
mutual
theorem dp_ext (e : Xt F H) : ∀ {d : PyData} {v : V}, Dp K F v d → Dp K H v d
  | .none, _, h => by cases h; exact .non
  | .bool b, _, h => by cases h; exact .bl b
  | .int i, _, h => by cases h; exact .int i
  | .str x, _, h => by cases h; exact .str x
  | .list ds, _, h => by
    cases h with
    | lst h1 h2 => exact .lst (sqL_ext e h1) (dpAll_ext e h2)
  | .tuple ds, _, h => by
    cases h with
    | tup h1 h2 => exact .tup (sqT_ext e h1) (dpAll_ext e h2)
  | .dict _, _, h => by cases h
theorem dpAll_ext (e : Xt F H) : ∀ {ds : List PyData} {vs : List V}, DpAll K F vs ds → DpAll K H vs ds
  | [], _, h => by cases h; exact .nil
  | d :: ds, _, h => by
    cases h with
    | cons h1 h2 => exact .cons (dp_ext e h1) (dpAll_ext e h2)
end
end
/-- in F, v is x -/
def Rp (K : PySem.W.Frag) (F : Hp) (v : V) {α : Type} [DecidableEq α] [Datum α] (x : α) : Prop := Dp K F v (Datum.toD x)
/-- item by item -/
def RpA (K : PySem.W.Frag) (F : Hp) (vs : List V) {α : Type} [DecidableEq α] [Datum α] (xs : List α) : Prop := DpAll K F vs (xs.map Datum.toD)
section
variable {K : PySem.W.Frag} {F G H : Hp} {a : Addr} {v : V} {vs ws : List V} {α β : Type} [DecidableEq α] [Datum α] [DecidableEq β] [Datum β] {x : α} {y : β} {xs ys : List α}
theorem Rp.ext {v : V} {α : Type} [DecidableEq α] [Datum α] {x : α} (h : Rp K F v x) (e : Xt F H) : Rp K H v x := dp_ext e h
theorem RpA.ext {vs : List V} {α : Type} [DecidableEq α] [Datum α] {xs : List α} (h : RpA K F vs xs) (e : Xt F H) : RpA K H vs xs := dpAll_ext e h
theorem rp_int (i : Int) : Rp K F (.int i) i := Dp.int i
theorem rp_bl (b : Bool) : Rp K F (.bl b) b := Dp.bl b
theorem rp_str (z : Str) : Rp K F (.str z) z := Dp.str z
theorem rp_non : Rp K F .non () := Dp.non
theorem Rp.int {v : V} {i : Int} (h : Rp K F v i) : v = .int i := by cases h; rfl
theorem Rp.bl {v : V} {i : Bool} (h : Rp K F v i) : v = .bl i := by cases h; rfl
theorem Rp.str {v : V} {i : Str} (h : Rp K F v i) : v = .str i := by cases h; rfl
theorem RpA.nil : RpA K F [] ([] : List α) := DpAll.nil
theorem RpA.cons (h : Rp K F v x) (t : RpA K F vs xs) : RpA K F (v :: vs) (x :: xs) := DpAll.cons h t
theorem RpA.un {vs : List V} {x : α} {xs : List α} (h : RpA K F vs (x :: xs)) : ∃ v ws, vs = v :: ws ∧ Rp K F v x ∧ RpA K F ws xs := by cases h with | cons a b => exact ⟨_, _, rfl, a, b⟩
theorem RpA.unnil {vs : List V} (h : RpA K F vs ([] : List α)) : vs = [] := by cases h; rfl
theorem rp_lst (hs : SqL K F a vs) (h : RpA K F vs xs) : Rp K F (.ref a) xs := Dp.lst hs h
theorem rp_tup (hs : SqT K F a vs) (h : RpA K F vs xs) : Rp K F (.ref a) (Tup.mk xs) := Dp.tup hs h
theorem rp_pair {v w : V} (hs : SqT K F a [v, w]) (h : Rp K F v x) (k : Rp K F w y) : Rp K F (.ref a) (x, y) := Dp.tup hs (.cons h (.cons k .nil))
theorem Rp.lst {v : V} {xs : List α} (h : Rp K F v xs) : ∃ a vs, v = .ref a ∧ SqL K F a vs ∧ RpA K F vs xs := by
  have h' : Dp K F v (.list (xs.map Datum.toD)) := h
  cases h' with
  | lst a b => exact ⟨_, _, rfl, a, b⟩
theorem Rp.tup {v : V} {xs : List α} (h : Rp K F v (Tup.mk xs)) : ∃ a vs, v = .ref a ∧ SqT K F a vs ∧ RpA K F vs xs := by
  have h' : Dp K F v (.tuple (xs.map Datum.toD)) := h
  cases h' with
  | tup a b => exact ⟨_, _, rfl, a, b⟩
theorem Rp.pair {v : V} {x : α} {y : β} (h : Rp K F v (x, y)) : ∃ a u w, v = .ref a ∧ SqT K F a [u, w] ∧ Rp K F u x ∧ Rp K F w y := by
  have h' : Dp K F v (.tuple [Datum.toD x, Datum.toD y]) := h
  cases h' with
  | tup a b =>
    cases b with
    | cons h1 h2 =>
      cases h2 with
      | cons h2 h3 =>
        cases h3
        exact ⟨_, _, _, rfl, a, h1, h2⟩
theorem RpA.length : ∀ {vs : List V} {xs : List α}, RpA K F vs xs → vs.length = xs.length
  | [], [], _ => rfl
  | [], _ :: _, h => by obtain ⟨_, _, e, _⟩ := h.un; cases e
  | _ :: _, [], h => by have := h.unnil; cases this
  | v :: vs, x :: xs, h => by
    obtain ⟨_, _, e, _, t⟩ := h.un
    cases e
    rw [List.length_cons, List.length_cons, RpA.length t]
theorem RpA.at_ : ∀ {vs : List V} {xs : List α}, RpA K F vs xs → ∀ {i : Nat} {x : α}, xs[i]? = some x → ∃ v, vs[i]? = some v ∧ Rp K F v x
  | vs, [], h, i, x, e => by simp at e
  | vs, y :: ys, h, i, x, e => by
    obtain ⟨v, ws, rfl, hv, t⟩ := h.un
    cases i with
    | zero => simp at e; subst e; exact ⟨v, rfl, hv⟩
    | succ i => simp at e; obtain ⟨u, q, r⟩ := RpA.at_ t e; exact ⟨u, by simpa using q, r⟩
theorem RpA.at' {vs : List V} {xs : List α} (h : RpA K F vs xs) {i : Nat} {v : V} (e : vs[i]? = some v) : ∃ x, xs[i]? = some x ∧ Rp K F v x := by
  have hi : i < xs.length := by rw [← h.length]; exact (List.getElem?_eq_some_iff.mp e).1
  obtain ⟨u, q, r⟩ := h.at_ (List.getElem?_eq_getElem hi)
  rw [e] at q; cases q
  exact ⟨xs[i], List.getElem?_eq_getElem hi, r⟩
theorem RpA.append : ∀ {vs ws : List V} {xs ys : List α}, RpA K F vs xs → RpA K F ws ys → RpA K F (vs ++ ws) (xs ++ ys)
  | vs, ws, [], ys, h, k => by rw [h.unnil]; exact k
  | vs, ws, x :: xs, ys, h, k => by
    obtain ⟨v, us, rfl, hv, t⟩ := h.un
    exact RpA.cons hv (RpA.append t k)
theorem RpA.snoc (h : RpA K F vs xs) (k : Rp K F v x) : RpA K F (vs ++ [v]) (xs ++ [x]) := h.append (RpA.cons k RpA.nil)
theorem RpA.take : ∀ (n : Nat) {vs : List V} {xs : List α}, RpA K F vs xs → RpA K F (vs.take n) (xs.take n)
  | 0, _, _, _ => .nil
  | n + 1, vs, [], h => by rw [h.unnil]; exact .nil
  | n + 1, vs, x :: xs, h => by
    obtain ⟨v, us, rfl, hv, t⟩ := h.un
    rw [List.take_succ_cons, List.take_succ_cons]
    exact RpA.cons hv (RpA.take n t)
theorem RpA.drop : ∀ (n : Nat) {vs : List V} {xs : List α}, RpA K F vs xs → RpA K F (vs.drop n) (xs.drop n)
  | 0, _, _, h => h
  | n + 1, vs, [], h => by rw [h.unnil]; exact .nil
  | n + 1, vs, x :: xs, h => by
    obtain ⟨v, us, rfl, hv, t⟩ := h.un
    rw [List.drop_succ_cons, List.drop_succ_cons]
    exact RpA.drop n t
theorem RpA.set : ∀ (n : Nat) {vs : List V} {xs : List α} {v : V} {x : α}, RpA K F vs xs → Rp K F v x → RpA K F (vs.set n v) (xs.set n x)
  | n, vs, [], v, x, h, k => by rw [h.unnil]; exact .nil
  | 0, vs, x :: xs, v, y, h, k => by
    obtain ⟨u, us, rfl, hv, t⟩ := h.un
    exact RpA.cons k t
  | n + 1, vs, x :: xs, v, y, h, k => by
    obtain ⟨u, us, rfl, hv, t⟩ := h.un
    exact RpA.cons hv (RpA.set n t k)
theorem RpA.ints : ∀ {ns : List Int}, RpA K F (ns.map V.int) ns
  | [] => .nil
  | n :: ns => RpA.cons (rp_int n) RpA.ints
theorem RpA.unints : ∀ {vs : List V} {ns : List Int}, RpA K F vs ns → vs = ns.map V.int
  | vs, [], h => h.unnil
  | vs, n :: ns, h => by
    obtain ⟨v, us, rfl, hv, t⟩ := h.un
    rw [hv.int, RpA.unints t]; rfl
theorem Rp.ints {v : V} {ns : List Int} (h : Rp K F v ns) : ∃ a, v = .ref a ∧ SqL K F a (ns.map V.int) := by
  obtain ⟨a, vs, rfl, hs, t⟩ := h.lst
  exact ⟨a, rfl, by rw [← t.unints]; exact hs⟩
theorem rp_ints {ns : List Int} (h : SqL K F a (ns.map V.int)) : Rp K F (.ref a) ns := rp_lst h RpA.ints
theorem RpA.map {γ : Type} {g : α → V} {f : γ → α} : ∀ {l : List γ} , (∀ z ∈ l, Rp K F (g (f z)) (f z)) → RpA K F (l.map fun z => g (f z)) (l.map f)
  | [], _ => .nil
  | z :: l, h => RpA.cons (h z (by simp)) (RpA.map fun y hy => h y (by simp [hy]))
theorem rp_toD {v : V} {x : α} (h : Rp K F v x) : Dp K F v (Datum.toD x) := h
end

/-! ### == and in, of plain data -/
section
variable {X : Cx}
def rEqT (K : PySem.W.Frag) : R2 := fun x y H Q => ∃ d e, Dp K H x d ∧ Dp K H y e ∧ d.plain = true ∧ e.plain = true ∧ d.depth ≤ 64 ∧ Q (.bl (PyData.eqv d e)) H
def rNeT (K : PySem.W.Frag) : R2 := fun x y H Q => ∃ d e, Dp K H x d ∧ Dp K H y e ∧ d.plain = true ∧ e.plain = true ∧ d.depth ≤ 64 ∧ Q (.bl (!PyData.eqv d e)) H
theorem op_eqT (hu : X.A.units + 64 < cLine) : OpR X (compareOp .Eq) (rEqT X.K) := by
  intro pins s σ H x y v u Q I rx ry h
  obtain ⟨d, e, hd, he, sd, se, hl, q⟩ := h
  obtain ⟨as, r1⟩ := Dp.reads I d x v hd rx
  obtain ⟨bs, r2⟩ := Dp.reads I e y u he ry
  exact PySem.SeqAt.eq_plain r1 r2 sd se (by have := Nat.min_le_left d.depth e.depth; omega) ⟨.bl _, H, I, rfl, q⟩
theorem op_neT (hu : X.A.units + 64 < cLine) : OpR X (compareOp .NotEq) (rNeT X.K) := by
  intro pins s σ H x y v u Q I rx ry h
  obtain ⟨d, e, hd, he, sd, se, hl, q⟩ := h
  obtain ⟨as, r1⟩ := Dp.reads I d x v hd rx
  obtain ⟨bs, r2⟩ := Dp.reads I e y u he ry
  exact PySem.SeqAt.ne_plain r1 r2 sd se (by have := Nat.min_le_left d.depth e.depth; omega) ⟨.bl _, H, I, rfl, q⟩
def rInT (K : PySem.W.Frag) : R2 := fun x y H Q => ∃ d ds, Dp K H x d ∧ (Dp K H y (.list ds) ∨ Dp K H y (.tuple ds)) ∧ d.plain = true ∧ PyData.plainAll ds = true ∧ PyData.depthAll ds ≤ 64 ∧ Q (.bl (ds.any fun z => PyData.eqv z d)) H
def rNotInT (K : PySem.W.Frag) : R2 := fun x y H Q => ∃ d ds, Dp K H x d ∧ (Dp K H y (.list ds) ∨ Dp K H y (.tuple ds)) ∧ d.plain = true ∧ PyData.plainAll ds = true ∧ PyData.depthAll ds ≤ 64 ∧ Q (.bl (!ds.any fun z => PyData.eqv z d)) H
theorem op_inT (hu : X.A.units + 65 < cLine) : OpR X (compareOp .In) (rInT X.K) := by
  intro pins s σ H x y v u Q I rx ry h
  obtain ⟨d, ds, hd, he, sd, se, hl, q⟩ := h
  obtain ⟨as, r1⟩ := Dp.reads I d x v hd rx
  have hm := Nat.min_le_left (PyData.depthAll ds) d.depth
  rcases he with he | he
  · obtain ⟨bs, r2⟩ := Dp.reads I _ y u he ry
    exact PySem.SeqAt.in_list_data r2 r1 se sd (by omega) ⟨.bl _, H, I, rfl, q⟩
  · obtain ⟨bs, r2⟩ := Dp.reads I _ y u he ry
    exact PySem.SeqAt.in_tuple_data r2 r1 se sd (by omega) ⟨.bl _, H, I, rfl, q⟩
theorem op_notInT (hu : X.A.units + 65 < cLine) : OpR X (compareOp .NotIn) (rNotInT X.K) := by
  intro pins s σ H x y v u Q I rx ry h
  obtain ⟨d, ds, hd, he, sd, se, hl, q⟩ := h
  obtain ⟨as, r1⟩ := Dp.reads I d x v hd rx
  have hm := Nat.min_le_left (PyData.depthAll ds) d.depth
  rcases he with he | he
  · obtain ⟨bs, r2⟩ := Dp.reads I _ y u he ry
    exact PySem.SeqAt.notIn_list_data r2 r1 se sd (by omega) ⟨.bl _, H, I, rfl, q⟩
  · obtain ⟨bs, r2⟩ := Dp.reads I _ y u he ry
    exact PySem.SeqAt.notIn_tuple_data r2 r1 se sd (by omega) ⟨.bl _, H, I, rfl, q⟩
/-- l.index(z), z in l -/
def rIndexT (K : PySem.W.Frag) : V → List V → Hp → VK → Prop := fun x xs H Q => ∃ (α : Type) (_ : DecidableEq α) (_ : Datum α) (y : V) (l : List α) (z : α), xs = [y] ∧ Rp K H x l ∧ Rp K H y z ∧ z ∈ l ∧ Datum.depth α ≤ 60 ∧ Q (.int (l.idxOf z : Nat)) H
theorem mt_indexT (hu : X.A.units + 65 < cLine) : MtR X "list.index" (rIndexT X.K) := by
  intro pins s σ H x xs v us Q I rx rxs h
  obtain ⟨α, _, _, y, l, z, rfl, hl, hy, hz, hd, q⟩ := h
  obtain ⟨a, vs, rfl, hs, ha⟩ := hl.lst
  cases rx
  cases rxs with
  | cons ry rt =>
    rename_i uy ut
    cases rt
    obtain ⟨its, rv, hl, hlen⟩ := I.list hs
    obtain ⟨bs, r1⟩ := Dp.reads I _ y uy hy ry
    obtain ⟨as, r2⟩ := Dp.readsAll I _ _ its ha rv
    exact PySem.W.index_list_datum (xs := l) (x := z) hl.isList ⟨as, r2⟩ ⟨bs, r1⟩ (by omega) (by rw [← ha.length]; exact rv.length ▸ hlen) hz ⟨.int _, H, I.kept (t' := s.toks + 1) (fun _ _ e => e), ⟨_, rfl⟩, q⟩
end
end Rn

/-! len(o) by an own __len__; a walk over o whose __iter__ gives iter(self.f), f a tuple. -/
namespace Rn
open PySem PySem.Spec PyProof.Rows L2

/-! ### len(o) -/
/-- the class at C has an own __len__ that keeps sp -/
structure LenC (P : Program) (w : World) (K : PySem.W.Frag) (mg : Str → Option Value) (base : Heap) (C : Addr) (k : Nat) (sp : Sp) : Prop where
  ex : ∃ f fd ps, PySem.W.findIn K (.ref C) "__len__" = some (some (.ref f)) ∧ PySem.W.isFn K (.ref f) = true ∧ Binds K fd ps [] ∧ FnOk P w K mg base (L2.CX P w) k f fd ps sp
def rLenO (C : Addr) (sp : Sp) : List V → Hp → VK → Prop := fun vs H Q => ∃ a dx fs, vs = [.ref a] ∧ H a = some (.ins C dx fs) ∧
  sp [.ref a] H (fun v H' => ∃ n : Int, v = .int n ∧ 0 ≤ n ∧ n < 2 ^ 63 ∧ Q (.int n) H') fun _ _ _ => False
section
variable {X : Cx} {C : Addr} {k : Nat} {sp : Sp}
theorem call_lenO (L : LenC X.prog X.w X.K X.mg X.base C k sp) (hr : Room (k + 1) X.A) : CallR X (.builtin "len") (rLenO C sp) := by
  obtain ⟨f, fd, ps, hs, hf, bN, FN⟩ := L.ex
  intro pins s σ H xs us Q I r h
  obtain ⟨a, dx, fs, rfl, ha, hsp⟩ := h
  obtain rfl := Vals.ref1 r
  obtain ⟨mA, J, _⟩ := ins_get I.hok ha
  obtain ⟨od, J, _⟩ := J.look
  obtain ⟨m, hF⟩ := I.fr
  refine PySem.W.len_K hF I.ok.mod.kin J hs hf ?_
  have sb : Sub X k X.A.in1 := Sub.in1 ⟨hr, rfl⟩
  have e0 : Env0 X.prog X.w X.K X.mg X.base X.A.in1 X.stack s H := by
    have e := I.env0
    exact ⟨by rw [sb.fr]; exact e.frames, e.mod, e.bs, e.bsz, e.funs, e.frf, e.hok, e.bare⟩
  have hl := FN.len _ _ _ _ hsp
  have r2 : Vals [V.ref a] [Value.ref a] := .cons rfl .nil
  refine wpAny_call (codeAny_mono (FN.run X.A.in1 X.stack s H ⟨[.ref a], []⟩ [.ref a] [.ref a] _ (fun _ _ _ => False) sb.room e0 (by
    have := bN s [.ref a] I.kIn (by simpa using hl)
    simpa using this) r2 hsp) fun r s' hq => ?_)
  cases r with
  | error e =>
    obtain ⟨_, _, _, _, _, _, _, _, _, _, _, _, hE⟩ := hq
    exact hE.elim
  | ok fl =>
    cases fl with
    | ret u =>
      obtain ⟨v, H', I', rv, n, rfl, h0, h1, q⟩ := I.after hq
      obtain ⟨t, rfl⟩ := rv
      exact ⟨⟨h0, h1⟩, .int n, H', I'.kept (t' := s'.toks + 1) (fun _ _ e => e), ⟨_, rfl⟩, q⟩
    | next => exact False.elim hq
    | brk => exact False.elim hq
    | cont => exact False.elim hq
end

/-! ### a def's run, its promise told by the state at the call -/
theorem fn_runS {CX : CXT} {P : Program} {w : World} {K : PySem.W.Frag} {mg : Str → Option Value} {base : Heap} {k : Nat} {f : Addr} {name qual : Str} {params : Arguments} {body : List Stmt} {scope : Scope} {dV kV doc pm cdv ct oc : Value} {an od : Option Addr}
    {osl : Array (Option Value)} {N ps : List Str} {s : Shared} {A : Around} {outer : List Env} {H : Hp} {args : Args} {us : List Value} {vs : List V} {Q : VK} {E : XK}
    (lk : K.lookup f = some ⟨oc, od, .func (PySem.W.fnOf name qual params body scope dV kV doc pm an cdv ct), osl⟩) (hcd : PySem.W.codeIn K cdv qual = true) (S : FnScope N ps scope) (hl : vs.length = ps.length)
    (hr : Room (k + 1) A) (e0 : Env0 P w K mg base A outer s H) (hb : BindsTo s (PySem.W.fnOf name qual params body scope dV kV doc pm an cdv ct) args (ps.zip us)) (r : Vals vs us)
    (hbody : Room k (A.deeper (envOfC qual scope s.heap.objs.size f cdv)) → ∃ t, PSs (cxOf CX P w K mg base N qual scope f cdv A outer s H E) body t ∧ t { nx := fun _ H' => Q .non H', rt := Q } (start N vs) H) :
    codeAny (model P w) A (.call (.ref f) args) (CR CX outer P w H s Q E) s := by
  have KX : K.In s.heap := e0.mod.kin.keeps fun b o e => (e0.bs b o e).1
  have lim : s.heap.NoLimit := e0.mod.nolimit.keeps fun b o e => (e0.bs b o e).1
  have hkind : ∀ y ∈ ps.zip us, scope.names.lookup y.1 = some .local ∨ (scope.names.lookup y.1 = some .cell ∧ ((cellsFrom (s.heap.objs.size + 1) scope.names []).lookup y.1).isSome = true) := fun ⟨n, v⟩ hy => by
    rcases S.par n (List.of_mem_zip hy).1 with q | q
    · exact .inl q
    · exact .inr ⟨q, PySem.W.cellsFrom_some _ _ _ (.inl q)⟩
  refine codeAny_call_function hr.depth (KX _ _ lk) rfl S.co S.gen rfl (PySem.W.codeRec_of KX hcd) (hb _ _ _ _ ?_)
  refine wpAny_newFunctionEnv_cells S.kind hkind fun env he s1 x => ?_
  subst he
  refine ⟨lim.keeps x.toInCall.keep, codeAny_func ?_⟩
  obtain ⟨t, ht, hq⟩ := hbody (hr.deeper _)
  have I : Inv (cxOf CX P w K mg base N qual scope f cdv A outer s H E) [] (start N vs) H s1 := inv_start S hr.hd e0 hl r x
  refine wpAny_mono (ht.run [] s1 (start N vs) H _ I hq) (fun fl s' hs => ?_) fun e s' hs => hs
  have fin : ∀ {σ' : St} {H' : Hp} {v : V} {u : Value}, Inv (cxOf CX P w K mg base N qual scope f cdv A outer s H E) [] σ' H' s' → RelV v u → Q v H' → CE outer P w H s Q u s' :=
    fun {σ' H' v u} J rv q => ⟨v, H', J.os, J.bare, J.base, J.hok, rv, q⟩
  cases fl with
  | ret u =>
    obtain ⟨v, σ', H', J, rv, q⟩ := hs
    exact fin J rv q
  | next =>
    obtain ⟨σ', H', J, q⟩ := hs
    exact fin (v := V.non) (u := Value.none) J rfl q
  | brk =>
    obtain ⟨_, _, _, q⟩ := hs
    exact False.elim q
  | cont =>
    obtain ⟨_, _, _, q⟩ := hs
    exact False.elim q

/-! ### iter(t), t a tuple -/
def itT (t : Addr) (i : Nat) : Obj := { cls := .type "tuple_iterator", data := .fields #[.ref t, rawInt i] }
def ItT (t it : Addr) (i : Nat) : HO := .ext fun h => h.get? it = some (itT t i)
theorem itT_ok {P : Program} {w : World} {H : Hp} {h : Heap} {t it : Addr} {i : Nat} (e : h.get? it = some (itT t i)) : ObjOk P w H h it (ItT t it i) := ⟨e, ⟨_, e⟩, fun h1 h2 q k => k _ q⟩
def rIterT (K : PySem.W.Frag) (n : Nat) : List V → Hp → VK → Prop := fun xs H Q => ∃ (l : Addr) (zs : List V), xs = [.ref l] ∧ SqT K H l zs ∧ ∀ it, H it = Option.none → n ≤ it → Q (.ref it) (upd H it (ItT l it 0))
section
variable {X : Cx}
theorem call_iterT : CallR X (.builtin "iter") (rIterT X.K X.s_0.heap.objs.size) := by
  intro pins s σ H xs us Q I r h
  obtain ⟨l, zs, rfl, hq, q⟩ := h
  obtain rfl := Vals.ref1 r
  obtain ⟨its, rv, pl, hz⟩ := I.tuple hq
  refine Calls.call_function_entry (by decide +kernel) (by decide +kernel) PySem.W.kdk_entry_iter (PySem.W.kdk_args_iter _) ?_
  unfold Builtin.«iter»
  refine wpAny_bind (m := someArgs "iter" 1 2 _) (wpAny_of_eq (a := [Value.ref l]) (by first | rfl | kernel_rfl!) ?_)
  show wpAny _ _ (pyIter (.ref l) >>= _) _ _ _
  refine wpAny_bind (wpAny_pyIter_tuple (show s.heap.IsTuple l its.toArray from pl) ?_)
  refine wpAny_pure ⟨_, rfl, ?_⟩
  exact ⟨.ref s.heap.objs.size, _, I.laid (t' := s.toks) (fun b u e => Heap.get?_push_of_some _ e) (Nat.le_refl _) (itT_ok (Heap.get?_push_size _ rfl)), rfl, q _ (I.hok.fresh (Nat.le_refl _)) I.sz⟩
end

/-! ### a walk over o -/
/-- the class at C has an own __iter__, which is: return iter(self.fl) -/
abbrev iterBody (fl : Str) (p1 p2 p3 p4 p5 : Pos) : List Stmt := [.Return (some (.Call (.Name "iter" p1) [.Attribute (.Name "self" p2) fl p3] [] p4)) p5]
structure IterC (P : Program) (w : World) (K : PySem.W.Frag) (mg : Str → Option Value) (C : Addr) (fl : Str) : Prop where
  cl : Cls K C
  na : NoAttr K C fl
  fr : mg "iter" = none
  ex : ∃ f fd params scope nm qual p1 p2 p3 p4 p5 p6, PySem.W.findIn K (.ref C) "__iter__" = some (some (.ref f)) ∧ PySem.W.isFn K (.ref f) = true ∧
    FunD K nm qual params (iterBody fl p1 p2 p3 p4 p5) scope [] [] f fd ∧ Binds K fd ["self"] [] ∧ FnScope ["self"] ["self"] scope ∧ scope.names.lookup ("iter" : Str) = some .globalImplicit ∧ p6 = p5
theorem drop_old {H : Hp} {it b : Addr} {o : HO} (h : H b = some o) (n : H it = none) (u : HO) : ItX.dropH (upd H it u) it b = some o := by
  rw [ItX.dropH_upd n]; exact h
def iOwn (K : PySem.W.Frag) (C : Addr) (fl : Str) (te : TE) : TI := fun σ H R => te σ H fun x H1 => ∃ a dx fs b, x = .ref a ∧ H1 a = some (.ins C dx fs) ∧ fs.lookup fl = some (.ref b) ∧ (∃ xs, SqT K H1 b xs) ∧ R (Itt K b) H1
section
variable {X : Cx} {C : Addr} {fl : Str} {tg e : Expr} {te : TE} {k : Nat}
theorem pi_own (T : IterC X.prog X.w X.K X.mg C fl) (hr : Room 1 X.A) (he : PE X e te) : PI X tg e (iOwn X.K C fl te) := by
  refine ⟨fun pins s σ H R I h => ?_⟩
  refine thn (he.run pins s σ H _ I h) fun u s1 ⟨x, H1, I1, r1, a, dx, fs, b, ex, ha, hf, ⟨xs, hs⟩, q⟩ => ?_
  subst ex
  obtain rfl : u = .ref a := r1
  obtain ⟨f, fd, params, scope, nm, qual, p1, p2, p3, p4, p5, p6, hfi, hfn, F, bI, S, hgl, _⟩ := T.ex
  obtain ⟨mA, J, _⟩ := ins_get I1.hok ha
  obtain ⟨od, J, _⟩ := J.look
  obtain ⟨m, hF⟩ := I1.fr
  refine PySem.W.owit_iter hF I1.ok.mod.kin J hfi hfn ?_
  obtain ⟨oc, od', dV, kV, doc, pm, an, cdv, ct, osl, rfl, lk, hcd, hD, _⟩ := F.ex
  have r2 : Vals [V.ref a] [Value.ref a] := .cons rfl .nil
  have hb : BindsTo s1 (PySem.W.fnOf nm qual params (iterBody fl p1 p2 p3 p4 p5) scope dV kV doc pm an cdv ct) ⟨[.ref a], []⟩ ((["self"] : List Str).zip [.ref a]) := by
    have := bI s1 [.ref a] I1.kIn rfl
    simpa using this
  refine wpAny_call (codeAny_mono (fn_runS (CX := CX0) (P := X.prog) (w := X.w) (mg := X.mg) (base := X.base) (k := 0) (N := ["self"]) (Q := fun v H' => ∃ it, v = .ref it ∧ H1 it = none ∧ s1.heap.objs.size ≤ it ∧ H' = upd H1 it (ItT b it 0)) (E := fun _ _ _ => False) lk hcd S rfl (hr.mono (by omega)) I1.env0 hb r2 fun hr' => ?_) fun r s2 hq => ?_)
  · have hvis : Vis scope ("self" : Str) := by
      rcases S.par "self" (by simp) with q | q
      · exact .inl q
      · exact .inr (.inl q)
    refine ⟨_, PSs.nox (pss_one (ps_ret (pe_callB (id := "iter") call_iterT hgl T.fr (by decide +kernel) (pa_cons (pe_fld (pv 0 (hv := hvis)) (by rfl)) pa_nil)))), ?_⟩
    exact ⟨_, rfl, a, C, dx, fs, .ref b, rfl, ha, T.cl, T.na, hf, b, xs, rfl, hs, fun it n le => ⟨it, rfl, n, le, rfl⟩⟩
  · cases r with
    | error e => exact False.elim hq
    | ok fl =>
      cases fl with
      | next => exact False.elim hq
      | brk => exact False.elim hq
      | cont => exact False.elim hq
      | ret u2 =>
        obtain ⟨v, H', I2, rv, it, rfl, hn, le, rfl⟩ := I1.after hq
        obtain rfl : u2 = .ref it := rv
        have eo : s2.heap.get? it = some (itT b 0) := (I2.hok it _ upd_same).1
        have st : s2.heap.IsTupleIter it b 0 := ⟨_, eo, rfl, rfl⟩
        show wpAny _ _ (specialOf (.ref it) "__next__") _ _ _
        refine wpAny_specialOf (name := Str.ofString "__next__") ⟨_, eo, rfl⟩ slot_tupleiter_next.lookup ?_
        have I3 := ItX.inv_drop I2 (show upd H1 it (ItT b it 0) it = some (.ext _) from upd_same)
        rw [ItX.dropH_upd hn] at I3
        have fp := ItX.inv_fp I2 (upd_same (H := H1) (a := it) (o := ItT b it 0)) (Nat.le_trans I1.sz le)
        rw [ItX.dropH_upd hn] at fp
        exact ⟨it, [it], _, _, H1, rfl, I3, turn_tuple b it, st, fun b' hb' => by
          have e : b' = it := by simpa using hb'
          rw [e]; exact fp, q⟩
end
end Rn

/-! the head's Hook: facts by names, defs, own looks; from the module's names and the statics on. -/
namespace Rn
open PySem PySem.Spec PyProof.Rows L2
open ClX
open He (frG frG_in growD fAd ga ma Fa DefD obsD valD SaysD)

def asY (g : Addr → Option Obj) : Nat → List Addr
  | 0 => [mainGlobals, cStatics]
  | n + 1 => growD g (asY g n)
abbrev Look1 : Type := PySem.W.Frag → Bool
abbrev AlY : Type := He.AlD × Bool
def obsY (fa : List Fa) (fn : List DefD) (xs : List Look1) (K : PySem.W.Frag) : AlY := (obsD fa fn K, xs.all fun f => f K)
def valY (fn : List DefD) : AlY := (valD fn, true)
def obsYG (n : Nat) (fa : List Fa) (fn : List DefD) (xs : List Look1) (g : Addr → Option Obj) : AlY := obsY fa fn xs (frG g (asY g n))
def SaysY (fa : List Fa) (fn : List DefD) (xs : List Look1) (K : PySem.W.Frag) : Prop := obsY fa fn xs K = valY fn
def hookY (n : Nat) (fa : List Fa) (fn : List DefD) (xs : List Look1) : PySem.W.Hook where
  α := AlY
  obs := fun s => obsYG n fa fn xs s.heap.get?
  val := fun _ => valY fn
  says := fun _ h => ∃ K : PySem.W.Frag, K.In h ∧ SaysY fa fn xs K
  of := fun _ _ e => ⟨_, frG_in, e⟩
  keeps := fun _ _ _ ⟨K, hK, c⟩ k => ⟨K, PySem.W.Frag.In.keeps hK k, c⟩
theorem obsYG_eq {n : Nat} {fa : List Fa} {fn : List DefD} {xs : List Look1} {g : Addr → Option Obj} {s : Shared} (h : ∀ a, g a = s.heap.get? a) : obsYG n fa fn xs g = (hookY n fa fn xs).obs s := by
  have e : g = s.heap.get? := funext h
  rw [e] <;> rfl
section
variable {fa : List Fa} {fn : List DefD} {xs : List Look1} {K : PySem.W.Frag}
theorem SaysY.d (c : SaysY fa fn xs K) : SaysD fa fn K := congrArg (fun z : AlY => z.1) c
theorem SaysY.lk (c : SaysY fa fn xs K) (i : Nat) {f : Look1} (h : xs[i]? = some f := by rfl) : f K = true := by
  have c2 : (xs.all fun f => f K) = true := congrArg (fun z : AlY => z.2) c
  exact List.all_eq_true.mp c2 f (List.mem_of_getElem? h)
end

/-! ### looks -/
/-- a class's constant -/
def cvalI (x f : Str) (i : Int) : Look1 := fun K => match PySem.W.typeIn K (.ref (ga K x)) with
  | some mc => PySem.W.readsIn K (ga K x) mc && (He.eqO (PySem.W.specialIn K (.ref (ga K x)) "__getattribute__") (some (some (.builtin "type.__getattribute__"))) && (match PySem.W.findCls K (.ref (ga K x)) mc f with
    | some (.val (.int j _)) => decide (j = i)
    | _ => false))
  | _ => false
theorem cvalI_ok {K : PySem.W.Frag} {x f : Str} {i : Int} (h : cvalI x f i K = true) : ∃ mc u, CRead K (ga K x) mc ∧ CVal K (ga K x) mc f (.int i) u := by
  unfold cvalI at h
  cases e : PySem.W.typeIn K (.ref (ga K x)) with
  | none => rw [e] at h; cases h
  | some mc =>
    rw [e] at h
    obtain ⟨h1, h23⟩ := He.ba h
    obtain ⟨h2, h3⟩ := He.ba h23
    cases q : PySem.W.findCls K (.ref (ga K x)) mc f with
    | none => rw [q] at h3; cases h3
    | some r =>
      rw [q] at h3
      cases r with
      | val u =>
        cases u with
        | int j t =>
          have ej : j = i := of_decide_eq_true h3
          subst ej
          exact ⟨mc, _, ⟨h1, He.eqO_ok h2⟩, ⟨q, ⟨t, rfl⟩⟩⟩
        | _ => cases h3
      | _ => cases h3
/-- C.f, C a class by the name x, f its constant i -/
def tCv (i : Int) : TE := tC (.int i)
section
variable {X : Cx} {x f : Str} {i : Int} {p pos : Pos}
theorem pe_cv (h : ∃ C mc u, X.mg x = some (.ref C) ∧ CRead X.K C mc ∧ CVal X.K C mc f (.int i) u) (hg : Gl X x := by rfl) (hdb : (x == ("__debug__" : Str)) = false := by decide)
    (hb : attributeBase (.Name x p) f X.env (eval (.Name x p) X.env) = eval (.Name x p) X.env := by rfl) : PE X (.Attribute (.Name x p) f pos) (tC (.int i)) := by
  obtain ⟨C, mc, u, hm, hr, hv⟩ := h
  refine ⟨fun pins s σ H Q I h => ?_⟩
  exact (pe_cval (ta := tC (.ref C)) (pe_glob hg hm rfl hdb) hb).run pins s σ H Q I ⟨C, mc, _, u, rfl, hr, hv, h⟩
end
end Rn

/-! constructors, methods, defs by bundles; what they may let out is taken by Takes. -/
namespace Rn
open PySem PySem.Spec PyProof.Rows L2

/-- the module's name x stands for a class whose __init__ keeps sp (self ahead) -/
structure MkC (P : Program) (w : World) (K : PySem.W.Frag) (mg : Str → Option Value) (base : Heap) (x : Str) (C : Addr) (k : Nat) (sp : Sp) : Prop where
  ex : ∃ f fd ps, mg x = some (.ref C) ∧ Mk K C f ∧ Binds K fd ps [] ∧ FnOk P w K mg base (L2.CX P w) k f fd ps sp
/-- a method of the class at C that keeps sp -/
structure MtC (P : Program) (w : World) (K : PySem.W.Frag) (mg : Str → Option Value) (base : Heap) (C : Addr) (m : Str) (k : Nat) (sp : Sp) : Prop where
  ex : ∃ f fd ps, Cls K C ∧ Meth K C m f ∧ Binds K fd ps [] ∧ FnOk P w K mg base (L2.CX P w) k f fd ps sp
def tMk (C : Addr) (sp : Sp) (W : WX) (t : TA) : TE := fun σ H Q => t σ H fun vs H1 => ∀ x dx, H1 x = none → H1 dx = none → dx ≠ x →
  sp (.ref x :: vs) (upd (upd H1 dx (.own x)) x (.ins C dx [])) (fun v H2 => v = .non ∧ Q (.ref x) H2) fun c d H' => W c d σ H'
def tMt (C : Addr) (m : Str) (sp : Sp) (W : WX) (ta : TE) (t : TA) : TE := fun σ H Q => ta σ H fun x H1 => ∃ a dx fs, x = .ref a ∧ H1 a = some (.ins C dx fs) ∧ fs.lookup m = none ∧
  t σ H1 fun vs H2 => sp (x :: vs) H2 Q fun c d H' => W c d σ H'
section
variable {X : Cx} {k : Nat} {f C : Addr} {fd : FuncData} {ps : List Str} {sp : Sp} {W : WX} {x m : Str} {p pos apos : Pos} {e o : Expr} {es : List Expr} {ta : TE} {t : TA}
theorem run_makeS {pins : List (Addr × Obj)} {σ : St} {H : Hp} {s : Shared} {Q : VK} {us : List Value} {vs : List V} (M : Mk X.K C f) (F : FnOk X.prog X.w X.K X.mg X.base (L2.CX X.prog X.w) k f fd ps sp) (hr : Room (k + 1) X.A) (hb : Binds X.K fd ps [])
    (tk : Takes X W) (I : L2.Inv X pins σ H s) (r : Vals vs us)
    (h : ∀ x dx, H x = none → H dx = none → dx ≠ x → sp (.ref x :: vs) (upd (upd H dx (.own x)) x (.ins C dx [])) (fun v H2 => v = .non ∧ Q (.ref x) H2) fun c d H' => W c d σ H') :
    wpAny (model X.prog X.w) X.A (call (.ref C) us) (EP X pins σ Q) X.xe s := by
  have hq := h (s.heap.objs.size + 1) s.heap.objs.size (I.hok.fresh (Nat.le_succ _)) (I.hok.fresh (Nat.le_refl _)) (Nat.ne_of_lt (Nat.lt_succ_self _))
  have I2 := Inv.made (C := C) I
  have r2 : Vals (V.ref (s.heap.objs.size + 1) :: vs) (Value.ref (s.heap.objs.size + 1) :: us) := .cons rfl r
  have hl : (Value.ref (s.heap.objs.size + 1) :: us ++ []).length = ps.length := by
    have e := r2.length
    rw [F.len _ _ _ _ hq] at e
    rw [List.append_nil]
    exact e.symm
  refine wpAny_call (make_map (f := f) I.kIn M.makes M.init (beq_iff_eq.mp M.fn) (codeAny_mono (F.run _ X.stack _ _ ⟨Value.ref (s.heap.objs.size + 1) :: us, []⟩ (Value.ref (s.heap.objs.size + 1) :: us) _ _ _ (hr.make C us [])
    (I2.env0.make C us []) (by have := hb _ (Value.ref (s.heap.objs.size + 1) :: us) I2.kIn hl; rw [List.append_nil] at this; exact this) r2 hq) fun r s' hq' => ?_))
  cases r with
  | error e => exact passAt tk σ pins _ _ e s' I2 hq'
  | ok fl =>
    cases fl with
    | ret u =>
      obtain ⟨v, H', I3, rv, ev, q3⟩ := I2.after hq'
      subst ev
      exact ⟨rv, ⟨V.ref (s.heap.objs.size + 1), H', I3, rfl, q3⟩⟩
    | next => exact False.elim hq'
    | brk => exact False.elim hq'
    | cont => exact False.elim hq'
theorem pe_mk (M : MkC X.prog X.w X.K X.mg X.base x C k sp) (hr : Room (k + 1) X.A) (tk : Takes X W) (ha : PA X (e :: es) t) (hg : Gl X x := by rfl) (hdb : (x == ("__debug__" : Str)) = false := by decide)
    (he : starEach (e :: es) X.env = (false, eval e X.env) :: starEach es X.env := by rfl) (hpl : (backTo pos (starEach es X.env)).any (·.1) = false := by rfl) :
    PE X (.Call (.Name x p) (e :: es) [] pos) (tMk C sp W t) := by
  obtain ⟨f, fd, ps, hm, M, hb, F⟩ := M.ex
  refine ⟨fun pins s σ H Q I h => ?_⟩
  refine wpAny_Call_Name_kw (ld_glob I hg hm ?_ hdb)
  refine PySem.W.callWith_K (h₀ := X.base) I.ok.mod.kin M.kp (thn (ha.run pos pins s σ H _ I h) fun us s1 ⟨vs, H1, I1, r, q⟩ => ⟨I1.kIn, ?_⟩) he hpl
  exact run_makeS M F hr hb tk I1 r q
theorem pe_mk0 (M : MkC X.prog X.w X.K X.mg X.base x C k sp) (hr : Room (k + 1) X.A) (tk : Takes X W) (hg : Gl X x := by rfl) (hdb : (x == ("__debug__" : Str)) = false := by decide) : PE X (.Call (.Name x p) [] [] pos) (tMk C sp W tNil) := by
  obtain ⟨f, fd, ps, hm, M, hb, F⟩ := M.ex
  refine ⟨fun pins s σ H Q I h => ?_⟩
  refine wpAny_Call_Name_kw (ld_glob I hg hm ?_ hdb)
  exact PySem.W.callWith_K0 I.kIn M.kp (run_makeS (us := []) M F hr hb tk I .nil h)
theorem pe_mt {pl : Sem Bool} (M : MtC X.prog X.w X.K X.mg X.base C m k sp) (hr : Room k X.A) (tk : Takes X W) (he : PE X o ta) (ha : PA X (e :: es) t)
    (hst : starEach (e :: es) X.env = (false, eval e X.env) :: starEach es X.env := by rfl) (hpl : (backTo pos (starEach es X.env)).any (·.1) = false := by rfl)
    (ht : eval (.Call (.Attribute o m apos) (e :: es) [] pos) X.env = (do
      let ov ← eval o X.env
      standAt apos.atName
      let (f, first) ← holding [ov] (getMethod ov m pl)
      callWith pos f first (backTo pos (starEach (e :: es) X.env)) (backToKw pos (keywordEach [] X.env))) := by rfl) :
    PE X (.Call (.Attribute o m apos) (e :: es) [] pos) (tMt C m sp W ta t) := by
  obtain ⟨f, fd, ps, c, hm, hb, F⟩ := M.ex
  refine ⟨fun pins s σ H Q I h => ?_⟩
  refine PySem.W.methodCall_KW (pl := pl) (thn (he.run pins s σ H _ I h) fun u s1 ⟨x, H1, I1, rx, a, dx, fs, ex, ea, l, q⟩ => ?_) ht
  subst ex
  obtain rfl : u = Value.ref a := rx
  refine getmeth_ok I1 ea c hm l ?_
  refine PySem.W.callWith_K (first := [.ref a]) (h₀ := X.base) I.ok.mod.kin hm.kp (thn (ha.run pos pins s1 σ H1 _ I1 q) fun us s2 ⟨vs, H2, I2, r, q2⟩ => ⟨I2.kIn, ?_⟩) hst hpl
  exact run_fnS (us := .ref a :: us) (vs := .ref a :: vs) (E := WE W) F hr hb (passAt tk σ) I2 (.cons rfl r) q2
theorem pe_mt0 {pl : Sem Bool} (M : MtC X.prog X.w X.K X.mg X.base C m k sp) (hr : Room k X.A) (tk : Takes X W) (he : PE X o ta)
    (ht : eval (.Call (.Attribute o m apos) [] [] pos) X.env = (do
      let ov ← eval o X.env
      standAt apos.atName
      let (f, first) ← holding [ov] (getMethod ov m pl)
      callWith pos f first (backTo pos (starEach [] X.env)) (backToKw pos (keywordEach [] X.env))) := by rfl) :
    PE X (.Call (.Attribute o m apos) [] [] pos) (tMt C m sp W ta tNil) := by
  obtain ⟨f, fd, ps, c, hm, hb, F⟩ := M.ex
  refine ⟨fun pins s σ H Q I h => ?_⟩
  refine PySem.W.methodCall_KW (pl := pl) (thn (he.run pins s σ H _ I h) fun u s1 ⟨x, H1, I1, rx, a, dx, fs, ex, ea, l, q⟩ => ?_) ht
  subst ex
  obtain rfl : u = Value.ref a := rx
  refine getmeth_ok I1 ea c hm l ?_
  exact PySem.W.callWith_K0 (first := [.ref a]) I1.kIn hm.kp (run_fnS (us := [.ref a]) (vs := [.ref a]) (E := WE W) F hr hb (passAt tk σ) I1 (.cons rfl .nil) q)
theorem pe_g0 {x : Str} {ps : List Str} {k : Nat} (G : GFn X.prog X.w X.K X.mg X.base x k ps sp) (hr : Room k X.A) (tk : Takes X W) (hg : Gl X x := by rfl) (hdb : (x == ("__debug__" : Str)) = false := by decide) :
    PE X (.Call (.Name x p) [] [] pos) (tG sp W tNil) := by
  obtain ⟨f, fd, hm, hk, hb, F⟩ := G.ex
  refine ⟨fun pins s σ H Q I h => ?_⟩
  refine wpAny_Call_Name_kw (ld_glob I hg hm ?_ hdb)
  exact PySem.W.callWith_K0 I.kIn hk (run_fnS (us := []) (vs := []) (E := WE W) F hr hb (passAt tk σ) I .nil h)
end

/-- what a def may let out, whatever the world -/
def CXe (P : Program) : CXT := fun o H s E u s' => ∃ w, L2.CX P w o H s E u s'
theorem fnOk_e {P : Program} {w : World} {K : PySem.W.Frag} {mg : Str → Option Value} {base : Heap} {k : Nat} {f : Addr} {fd : FuncData} {ps : List Str} {sp : Sp} (F : FnOk P w K mg base (L2.CX P w) k f fd ps sp) : FnOk P w K mg base (CXe P) k f fd ps sp :=
  ⟨F.len, fun A outer s H args us vs Q E hr e0 hb r h => codeAny_mono (F.run A outer s H args us vs Q E hr e0 hb r h) fun res s' hq => by
    cases res with
    | error e => exact ⟨w, hq⟩
    | ok fl => cases fl <;> exact hq⟩
theorem cxe_no {P : Program} {H : Hp} {s : Shared} {e : Value} {s' : Shared} (h : CXe P [] H s (fun _ _ _ => False) e s') : False := by
  obtain ⟨_, _, _, _, _, _, _, _, _, _, _, _, _, hE⟩ := h
  exact hE
/-! ### the calls' readings by names -/
def yLen (K : PySem.W.Frag) : List V → Hp → VK → Prop := fun xs H Q => ∃ x n, xs = [x] ∧ LenV K x H n ∧ Q (.int n) H
def yMin2 : List V → Hp → VK → Prop := fun xs H Q => ∃ i j, xs = [.int i, .int j] ∧ Q (.int (if j < i then j else i)) H
def yMax2 : List V → Hp → VK → Prop := fun xs H Q => ∃ i j, xs = [.int i, .int j] ∧ Q (.int (if j > i then j else i)) H
def yAbs : List V → Hp → VK → Prop := fun xs H Q => ∃ i, xs = [.int i] ∧ Q (.int (if i < 0 then -i else i)) H
def yInt : List V → Hp → VK → Prop := fun xs H Q => (∃ i, xs = [.int i] ∧ Q (.int i) H) ∨ ∃ k, xs = [.bl k] ∧ Q (.int (if k then 1 else 0)) H
def yList (K : PySem.W.Frag) : List V → Hp → VK → Prop := fun xs H Q => ∃ p ys, xs = [.ref p] ∧ (SqL K H p ys ∨ SqT K H p ys) ∧ ∀ l, H l = none → Q (.ref l) (upd H l (.lst ys))
def yTuple (K : PySem.W.Frag) : List V → Hp → VK → Prop := fun xs H Q => ∃ p ys, xs = [.ref p] ∧ ((SqL K H p ys ∧ ∀ l, H l = none → Q (.ref l) (upd H l (.tup ys))) ∨ (SqT K H p ys ∧ Q (.ref p) H))
section
variable {X : Cx}
theorem cy_len : CallR X (.builtin "len") (yLen X.K) := call_len
theorem cy_min2 (hc : X.calm = true) : CallR X (.builtin "min") yMin2 := call_min2 hc
theorem cy_max2 (hc : X.calm = true) : CallR X (.builtin "max") yMax2 := call_max2 hc
theorem cy_abs : CallR X (.builtin "abs") yAbs := call_abs
theorem cy_int : CallR X (.type "int") yInt := call_int1
theorem cy_list : CallR X (.type "list") (yList X.K) := call_list_of
theorem cy_tuple : CallR X (.type "tuple") (yTuple X.K) := call_tuple_of
end
/-! ### small rules -/
section
variable {X : Cx}
/-- a module's whole number -/
theorem pe_gi {x : Str} {i : Int} {p : Pos} (h : ∃ t, X.mg x = some (.int i t)) (hg : Gl X x := by rfl) (hd : (x == ("__debug__" : Str)) = false := by decide) : PE X (.Name x p) (tC (.int i)) := by
  obtain ⟨t, h⟩ := h
  exact pe_glob hg h ⟨t, rfl⟩ hd
/-- walked in the one way or the other -/
def iOr (w1 w2 : TI) : TI := fun σ H R => w1 σ H R ∨ w2 σ H R
theorem pi_or {tg l : Expr} {w1 w2 : TI} (h1 : PI X tg l w1) (h2 : PI X tg l w2) : PI X tg l (iOr w1 w2) :=
  ⟨fun pins s σ H R I h => h.elim (h1.run pins s σ H R I) (h2.run pins s σ H R I)⟩
/-- a list or a tuple, walked -/
theorem pi_seq {tg l : Expr} {tl : TE} (hl : PE X l tl) : PI X tg l (iOr (iList X.K tl) (iTup X.K tl)) := pi_or (pi_list hl) (pi_tup hl)
theorem hu65 {A : Around} {k : Nat} (hr : Room k A) : A.units + 65 < cLine := by
  have := hr.un
  omega
end
end Rn

/-! readings of typed data. -/
namespace Rn
open PySem PySem.Spec PyProof.Rows L2
open PySem.W (Datum Tup)

/-! ### lists: of our own making, changing -/
section
variable {K : PySem.W.Frag} {S : List Addr} {F H F' H' G : Hp} {p q : Addr} {v : V} {vs : List V} {α β : Type} [DecidableEq α] [Datum α] [DecidableEq β] [Datum β] {x : α} {xs ys : List α} {o : HO}
/-- a list made by the text -/
def Ld (K : PySem.W.Frag) (F : Hp) (v : V) {α : Type} [DecidableEq α] [Datum α] (xs : List α) : Prop := ∃ a vs, v = .ref a ∧ F a = some (.lst vs) ∧ RpA K F vs xs
theorem Ld.ext {v : V} {α : Type} [DecidableEq α] [Datum α] {xs : List α} (h : Ld K F v xs) (e : Xt F H) : Ld K H v xs := by
  obtain ⟨a, vs, h1, h2, h3⟩ := h
  exact ⟨a, vs, h1, e _ _ h2, h3.ext e⟩
theorem Ld.rp {v : V} {α : Type} [DecidableEq α] [Datum α] {xs : List α} (h : Ld K F v xs) : Rp K F v xs := by
  obtain ⟨a, vs, rfl, h2, h3⟩ := h
  exact rp_lst (.inl (.inl h2)) h3
theorem ld_of (h : F p = some (.lst vs)) (r : RpA K F vs xs) : Ld K F (.ref p) xs := ⟨p, vs, rfl, h, r⟩
/-- a list that changes -/
def Mu (K : PySem.W.Frag) (F H : Hp) (p : Addr) {α : Type} [DecidableEq α] [Datum α] (xs : List α) : Prop := F p = none ∧ ∃ vs, H p = some (.lst vs) ∧ RpA K F vs xs
theorem Mu.gr {α : Type} {i1 : DecidableEq α} {i2 : Datum α} {xs : List α} (m : Mu K F H p xs) (g : Gr S F H F' H') (n : p ∉ S) : Mu K F' H' p xs := by
  obtain ⟨h1, vs, h2, h3⟩ := m
  exact ⟨g.nw p (by rw [h2]; exact nofun) h1, vs, g.hh p _ n h2, h3.ext g.ff⟩
theorem Mu.gr0 {α : Type} {i1 : DecidableEq α} {i2 : Datum α} {xs : List α} (m : Mu K F H p xs) (g : Gr [] F H F' H') : Mu K F' H' p xs := m.gr g (fun h => nomatch h)
theorem Mu.by {α : Type} {i1 : DecidableEq α} {i2 : Datum α} {xs : List α} (g : Gr S F H F' H') (m : Mu K F H p xs) (n : p ∉ S) : Mu K F' H' p xs := m.gr g n
/-- it stays from here on -/
theorem Mu.frz {α : Type} [DecidableEq α] [Datum α] {xs : List α} (m : Mu K F H p xs) (e : Xt F H) : ∃ F', Xt F' H ∧ Xt F F' ∧ Ld K F' (.ref p) xs ∧ (∀ S F0 H0, Gr S F0 H0 F H → H0 p = none → Gr S F0 H0 F' H) ∧ ∀ q, q ≠ p → F q = none → F' q = none := by
  obtain ⟨h1, vs, h2, h3⟩ := m
  refine ⟨upd F p (.lst vs), e.updF h2, e.frz h1, ⟨p, vs, rfl, upd_same, h3.ext (e.frz h1)⟩, fun S F0 H0 g n => Gr.frz e h1 h2 g n, fun q n h => ?_⟩
  rw [upd_ne n]; exact h
/-- v is a list to be read -/
def Sees (K : PySem.W.Frag) (F H : Hp) (v : V) {α : Type} [DecidableEq α] [Datum α] (xs : List α) : Prop := ∃ a vs, v = .ref a ∧ SqL K H a vs ∧ RpA K F vs xs
theorem Rp.sees {v : V} {α : Type} [DecidableEq α] [Datum α] {xs : List α} (h : Rp K F v xs) (e : Xt F H) : Sees K F H v xs := by
  obtain ⟨a, vs, h1, h2, h3⟩ := h.lst
  exact ⟨a, vs, h1, sqL_ext e h2, h3⟩
theorem Mu.sees {α : Type} [DecidableEq α] [Datum α] {xs : List α} (m : Mu K F H p xs) : Sees K F H (.ref p) xs := by
  obtain ⟨h1, vs, h2, h3⟩ := m
  exact ⟨p, vs, rfl, .inl (.inl h2), h3⟩
/-- v is a tuple to be read -/
def SeesT (K : PySem.W.Frag) (F H : Hp) (v : V) {α : Type} [DecidableEq α] [Datum α] (xs : List α) : Prop := ∃ a vs, v = .ref a ∧ SqT K H a vs ∧ RpA K F vs xs
theorem Rp.seesT {v : V} {α : Type} [DecidableEq α] [Datum α] {xs : List α} (h : Rp K F v (Tup.mk xs)) (e : Xt F H) : SeesT K F H v xs := by
  obtain ⟨a, vs, h1, h2, h3⟩ := h.tup
  exact ⟨a, vs, h1, sqT_ext e h2, h3⟩
end

/-! ### whole numbers -/
theorem ite_min (i j : Int) : (if j < i then j else i) = min i j := by rw [Int.min_def]; split <;> split <;> omega
theorem ite_max (i j : Int) : (if j > i then j else i) = max i j := by rw [Int.max_def]; split <;> split <;> omega
def lmin : List Int → Int
  | [] => 0
  | [x] => x
  | x :: y :: r => min x (lmin (y :: r))
theorem lmin_mem : ∀ {xs : List Int}, xs ≠ [] → lmin xs ∈ xs
  | [x], _ => by simp [lmin]
  | x :: y :: r, _ => by
    have h := lmin_mem (xs := y :: r) (by simp)
    rw [lmin, Int.min_def]
    split
    · simp
    · exact List.mem_cons_of_mem _ h
theorem lmin_le : ∀ {xs : List Int} {x : Int}, x ∈ xs → lmin xs ≤ x
  | [x], y, h => by simp at h; subst h; simp [lmin]
  | x :: y :: r, z, h => by
    rw [lmin, Int.min_def]
    rcases List.mem_cons.mp h with e | e
    · subst e; split <;> omega
    · have := lmin_le e; split <;> omega
theorem lmin_eq {xs : List Int} {m : Int} (h : m ∈ xs) (k : ∀ y, y ∈ xs → m ≤ y) : m = lmin xs := by
  have h1 := lmin_le h
  have h2 := k _ (lmin_mem (List.ne_nil_of_mem h))
  omega
def lmax : List Int → Int
  | [] => 0
  | [x] => x
  | x :: y :: r => max x (lmax (y :: r))
theorem lmax_mem : ∀ {xs : List Int}, xs ≠ [] → lmax xs ∈ xs
  | [x], _ => by simp [lmax]
  | x :: y :: r, _ => by
    have h := lmax_mem (xs := y :: r) (by simp)
    rw [lmax, Int.max_def]
    split
    · exact List.mem_cons_of_mem _ h
    · simp
theorem le_lmax : ∀ {xs : List Int} {x : Int}, x ∈ xs → x ≤ lmax xs
  | [x], y, h => by simp at h; subst h; simp [lmax]
  | x :: y :: r, z, h => by
    rw [lmax, Int.max_def]
    rcases List.mem_cons.mp h with e | e
    · subst e; split <;> omega
    · have := le_lmax e; split <;> omega
theorem lmax_eq {xs : List Int} {m : Int} (h : m ∈ xs) (k : ∀ y, y ∈ xs → y ≤ m) : m = lmax xs := by
  have h1 := le_lmax h
  have h2 := k _ (lmax_mem (List.ne_nil_of_mem h))
  omega

/-! ### readings -/
def cutL {α : Type} (xs : List α) (lo hi : Option Int) : List α := (xs.drop (HT.sIx xs.length 0 lo)).take (HT.sIx xs.length xs.length hi - HT.sIx xs.length 0 lo)
theorem cutL_len {α : Type} (xs : List α) (lo hi : Option Int) : (cutL xs lo hi).length ≤ xs.length := by
  unfold cutL
  rw [List.length_take, List.length_drop]
  omega
theorem sIx_pos (n d : Nat) {k : Int} (h : 0 ≤ k) : HT.sIx n d (some k) = min k.toNat n := by
  show (if k < 0 then (k + (n : Int)).toNat else min k.toNat n) = _
  rw [if_neg (by omega)]
theorem cutL_to {α : Type} {xs : List α} {k : Int} (h : 0 ≤ k) : cutL xs none (some k) = xs.take k.toNat := by
  unfold cutL
  rw [sIx_pos _ _ h]
  show (xs.drop 0).take (min k.toNat xs.length - 0) = _
  rw [List.drop_zero, Nat.sub_zero]
  by_cases q : k.toNat ≤ xs.length
  · rw [Nat.min_eq_left q]
  · rw [Nat.min_eq_right (by omega), List.take_length, List.take_of_length_le (by omega)]
theorem cutL_from {α : Type} {xs : List α} {k : Int} (h : 0 ≤ k) : cutL xs (some k) none = xs.drop k.toNat := by
  unfold cutL
  rw [sIx_pos _ _ h]
  show (xs.drop (min k.toNat xs.length)).take (xs.length - min k.toNat xs.length) = _
  by_cases q : k.toNat ≤ xs.length
  · rw [Nat.min_eq_left q]
    exact List.take_of_length_le (by rw [List.length_drop]; omega)
  · rw [Nat.min_eq_right (by omega), List.drop_length, List.drop_of_length_le (by omega)]
    simp
section
variable {K : PySem.W.Frag} {S : List Addr} {F H F' H' G : Hp} {p q a b : Addr} {v w : V} {vs ws : List V} {α β : Type} [DecidableEq α] [Datum α] [DecidableEq β] [Datum β] {x y : α} {xs ys : List α} {o : HO} {Q : VK} {i j : Int} {ns : List Int} {lo hi : Option Int}
theorem RpA.cut {vs : List V} {xs : List α} (h : RpA K F vs xs) (lo hi : Option Int) : RpA K F (cutV vs lo hi) (cutL xs lo hi) := by
  unfold cutV cutL
  rw [h.length]
  exact (h.drop _).take _
theorem RpA.mem {vs : List V} {xs : List α} (h : RpA K F vs xs) {i : Nat} {v : V} (e : vs[i]? = some v) : ∃ x, xs[i]? = some x ∧ Rp K F v x := h.at' e
theorem q_len (h : Sees K F H v xs) (k : Q (.int (xs.length : Nat)) H) : yLen K [v] H Q := by
  obtain ⟨a, vs, rfl, h1, h2⟩ := h
  exact ⟨_, vs.length, rfl, .inl ⟨vs, h1, rfl⟩, by rw [h2.length]; exact k⟩
theorem q_lenT (h : SeesT K F H v xs) (k : Q (.int (xs.length : Nat)) H) : yLen K [v] H Q := by
  obtain ⟨a, vs, rfl, h1, h2⟩ := h
  exact ⟨_, vs.length, rfl, .inr ⟨vs, h1, rfl⟩, by rw [h2.length]; exact k⟩
theorem q_sum (h : Sees K F H v ns) (k : Q (.int ns.sum) H) : rSum K [v] H Q := by
  obtain ⟨a, vs, rfl, h1, h2⟩ := h
  rw [h2.unints] at h1
  exact ⟨a, ns, rfl, h1, k⟩
theorem q_minL (h : Sees K F H v ns) (hn : ns ≠ []) (k : Q (.int (lmin ns)) H) : rMin K [v] H Q := by
  obtain ⟨a, vs, rfl, h1, h2⟩ := h
  rw [h2.unints] at h1
  exact ⟨a, ns, rfl, h1, List.length_pos_iff.mpr hn, fun m hm hl => by rw [lmin_eq hm hl]; exact k⟩
theorem q_maxL (h : Sees K F H v ns) (hn : ns ≠ []) (k : Q (.int (lmax ns)) H) : rMax K [v] H Q := by
  obtain ⟨a, vs, rfl, h1, h2⟩ := h
  rw [h2.unints] at h1
  exact ⟨a, ns, rfl, h1, List.length_pos_iff.mpr hn, fun m hm hl => by rw [lmax_eq hm hl]; exact k⟩
theorem q_min2 (k : Q (.int (min i j)) H) : yMin2 [V.int i, V.int j] H Q := ⟨i, j, rfl, by rw [ite_min]; exact k⟩
theorem q_max2 (k : Q (.int (max i j)) H) : yMax2 [V.int i, V.int j] H Q := ⟨i, j, rfl, by rw [ite_max]; exact k⟩
theorem q_abs (k : Q (.int (i.natAbs : Nat)) H) : yAbs [V.int i] H Q := ⟨i, rfl, by
  have e : (if i < 0 then -i else i) = (i.natAbs : Nat) := by split <;> omega
  rw [e]; exact k⟩
theorem q_int1 (k : Q (.int i) H) : yInt [V.int i] H Q := .inl ⟨i, rfl, k⟩
theorem atI_ok {γ : Type} {zs : List γ} (h0 : 0 ≤ i) (h1 : i.toNat < zs.length) : atI zs i = some zs[i.toNat] := by
  have e : ((i.toNat : Nat) : Int) = i := Int.toNat_of_nonneg h0
  have q := atI_nat (xs := zs) (j := i.toNat) (List.getElem?_eq_getElem h1)
  rw [e] at q
  exact q
theorem atI_neg {γ : Type} {zs : List γ} (h1 : zs ≠ []) : atI zs (-1) = zs.getLast? := by
  have hl := List.length_pos_iff.mpr h1
  unfold atI ixN
  rw [if_neg (by omega), if_pos (by omega)]
  show zs[(-1 + (zs.length : Int)).toNat]? = _
  rw [List.getLast?_eq_getElem?]
  congr 1
  omega
/-- xs[i] -/
theorem q_ix (h : Sees K F H v xs) (h0 : 0 ≤ i) (h1 : i.toNat < xs.length) (k : ∀ u, Rp K F u (xs[i.toNat]'h1) → Q u H) : rIx K v (.int i) H Q := by
  obtain ⟨a, vs, rfl, h2, h3⟩ := h
  have hv : i.toNat < vs.length := by rw [h3.length]; exact h1
  obtain ⟨x, hx, hr⟩ := h3.at' (List.getElem?_eq_getElem hv)
  rw [List.getElem?_eq_getElem h1] at hx
  cases hx
  exact zIx_lst h2 (atI_ok h0 hv) (k _ hr)
theorem q_ixT (h : SeesT K F H v xs) (h0 : 0 ≤ i) (h1 : i.toNat < xs.length) (k : ∀ u, Rp K F u (xs[i.toNat]'h1) → Q u H) : rIx K v (.int i) H Q := by
  obtain ⟨a, vs, rfl, h2, h3⟩ := h
  have hv : i.toNat < vs.length := by rw [h3.length]; exact h1
  obtain ⟨x, hx, hr⟩ := h3.at' (List.getElem?_eq_getElem hv)
  rw [List.getElem?_eq_getElem h1] at hx
  cases hx
  exact zIx_tup h2 (atI_ok h0 hv) (k _ hr)
/-- the i-th whole number -/
abbrev iat (ns : List Int) (i : Int) : Int := ns.getD i.toNat 0
theorem q_ixI (h : Sees K F H v ns) (h0 : 0 ≤ i) (h1 : i.toNat < ns.length) (k : Q (.int (iat ns i)) H) : rIx K v (.int i) H Q :=
  q_ix h h0 h1 fun u r => by
    rw [r.int]
    have e : iat ns i = ns[i.toNat] := by simp [iat, List.getD, h1]
    rw [← e]; exact k
theorem q_ixTI (h : SeesT K F H v ns) (h0 : 0 ≤ i) (h1 : i.toNat < ns.length) (k : Q (.int (iat ns i)) H) : rIx K v (.int i) H Q :=
  q_ixT h h0 h1 fun u r => by
    rw [r.int]
    have e : iat ns i = ns[i.toNat] := by simp [iat, List.getD, h1]
    rw [← e]; exact k
theorem q_last (h : Sees K F H v ns) (h1 : ns ≠ []) (k : Q (.int (ns.getLast h1)) H) : rIx K v (.int (-1)) H Q := by
  obtain ⟨a, vs, rfl, h2, h3⟩ := h
  rw [h3.unints] at h2
  refine zIx_lst h2 (v := .int (ns.getLast h1)) ?_ k
  rw [atI_neg (by simpa using h1), List.getLast?_map, List.getLast?_eq_some_getLast h1]
  rfl
/-- a new object that stays, that changes -/
theorem q_newF (e : Xt F H) (k : ∀ p F' H', H p = none → Gr [] F H F' H' → F' p = some o → Q (.ref p) H') : kNew o Q H := fun p n => k p _ _ n (Gr.newF e n) upd_same
theorem q_newM (e : Xt F H) (k : ∀ p H', H p = none → Gc [] F H H' → F p = none → H' p = some o → Q (.ref p) H') : kNew o Q H := fun p n => k p _ n ⟨Gr.newM e n⟩ (by
  cases h : F p with
  | none => rfl
  | some u => rw [e p u h] at n; cases n) upd_same
/-- xs[lo:hi] -/
theorem q_sl (h : Sees K G H v xs) (e' : Xt G F) (e : Xt F H) (k : ∀ p F' H', H p = none → Gr [] F H F' H' → Ld K F' (.ref p) (cutL xs lo hi) → Q (.ref p) H') : rSlZ K v lo hi H Q := by
  obtain ⟨a, vs, rfl, h2, h3⟩ := h
  exact zSl_lst h2 (q_newF e fun p F' H' n g f => k p F' H' n g (ld_of f ((h3.cut lo hi).ext (e'.trans g.ff))))
theorem q_slM (h : Sees K G H v xs) (e' : Xt G F) (e : Xt F H) (k : ∀ p H', H p = none → Gc [] F H H' → Mu K F H' p (cutL xs lo hi) → Q (.ref p) H') : rSlZ K v lo hi H Q := by
  obtain ⟨a, vs, rfl, h2, h3⟩ := h
  exact zSl_lst h2 (q_newM e fun p H' n g f h => k p H' n g ⟨f, _, h, (h3.cut lo hi).ext e'⟩)
/-- list(xs) -/
theorem q_list (h : Sees K G H v xs) (e' : Xt G F) (e : Xt F H) (k : ∀ p F' H', H p = none → Gr [] F H F' H' → Ld K F' (.ref p) xs → Q (.ref p) H') : yList K [v] H Q := by
  obtain ⟨a, vs, rfl, h2, h3⟩ := h
  exact ⟨a, vs, rfl, .inl h2, q_newF e fun p F' H' n g f => k p F' H' n g (ld_of f (h3.ext (e'.trans g.ff)))⟩
theorem q_listM (h : Sees K G H v xs) (e' : Xt G F) (e : Xt F H) (k : ∀ p H', H p = none → Gc [] F H H' → Mu K F H' p xs → Q (.ref p) H') : yList K [v] H Q := by
  obtain ⟨a, vs, rfl, h2, h3⟩ := h
  exact ⟨a, vs, rfl, .inl h2, q_newM e fun p H' n g f h => k p H' n g ⟨f, _, h, h3.ext e'⟩⟩
theorem q_listT (h : SeesT K G H v xs) (e' : Xt G F) (e : Xt F H) (k : ∀ p F' H', H p = none → Gr [] F H F' H' → Ld K F' (.ref p) xs → Q (.ref p) H') : yList K [v] H Q := by
  obtain ⟨a, vs, rfl, h2, h3⟩ := h
  exact ⟨a, vs, rfl, .inr h2, q_newF e fun p F' H' n g f => k p F' H' n g (ld_of f (h3.ext (e'.trans g.ff)))⟩
/-- tuple(xs) -/
theorem q_tuple (h : Sees K G H v xs) (e' : Xt G F) (e : Xt F H) (k : ∀ u F' H', Gr [] F H F' H' → Rp K F' u (Tup.mk xs) → Q u H') : yTuple K [v] H Q := by
  obtain ⟨a, vs, rfl, h2, h3⟩ := h
  exact ⟨a, vs, rfl, .inl ⟨h2, q_newF e fun p F' H' n g f => k _ F' H' g (rp_tup (.inl (.inl f)) (h3.ext (e'.trans g.ff)))⟩⟩
theorem q_tupleT {v : V} (h : Rp K G v (Tup.mk xs)) (e' : Xt G F) (e : Xt F H) (k : ∀ u F' H', Gr [] F H F' H' → Rp K F' u (Tup.mk xs) → Q u H') : yTuple K [v] H Q := by
  have h0 := h
  obtain ⟨a, vs, rfl, h2, h3⟩ := h.tup
  exact ⟨a, vs, rfl, .inr ⟨sqT_ext (e'.trans e) h2, k _ F H (Gr.refl e) (h0.ext e')⟩⟩
/-- xs + ys -/
theorem q_cat (h : Ld K F v xs) (h' : Ld K G w ys) (e : Xt F H) (e' : Xt G F) (hl : xs.length + ys.length ≤ sizeLine) (k : ∀ p F' H', H p = none → Gr [] F H F' H' → Ld K F' (.ref p) (xs ++ ys) → Q (.ref p) H') : rAddZ K v w H Q := by
  obtain ⟨a, vs, rfl, h2, h3⟩ := h
  obtain ⟨b, ws, rfl, h4, h5⟩ := h'
  exact zAdd_lst (e _ _ h2) ((e'.trans e) _ _ h4) (by rw [h3.length, h5.length]; exact hl) (q_newF e fun p F' H' n g f => k p F' H' n g (ld_of f ((h3.append (h5.ext e')).ext g.ff)))
/-- [x] * k -/
theorem RpA.rep1 {v : V} {x : α} (h : Rp K F v x) : ∀ n : Nat, RpA K F (List.replicate n [v]).flatten (List.replicate n x)
  | 0 => .nil
  | n + 1 => by
    rw [List.replicate_succ, List.replicate_succ, List.flatten_cons]
    exact RpA.cons h (RpA.rep1 h n)
theorem q_rep1 (ha : F a = some (.lst [v])) (h : Rp K F v x) (e : Xt F H) (h0 : 0 ≤ j) (hl : j ≤ 16777216) (k : ∀ p F' H', H p = none → Gr [] F H F' H' → Ld K F' (.ref p) (List.replicate j.toNat x) → Q (.ref p) H') : rMulZ K (.ref a) (.int j) H Q :=
  zMul_lst (e _ _ ha) (by omega) (by omega) (by show 1 * j.toNat ≤ sizeLine; rw [sizeLine_eq]; omega) (q_newF e fun p F' H' n g f => k p F' H' n g (ld_of f ((RpA.rep1 h _).ext g.ff)))
/-- p.append(x) -/
theorem q_app (m : Mu K F H p xs) (e : Xt F H) (h : Rp K F v x) (hl : xs.length < sizeLine) (k : ∀ H', Gc [p] F H H' → Mu K F H' p (xs ++ [x]) → Q .non H') : rAppend (.ref p) [v] H Q := by
  obtain ⟨h1, vs, h2, h3⟩ := m
  exact ⟨p, vs, v, rfl, rfl, h2, by rw [h3.length]; exact hl, k _ ⟨Gr.chg e h1 (by rw [h2]; exact nofun)⟩ ⟨h1, _, upd_same, h3.snoc h⟩⟩
theorem q_tyL (h : Sees K F H v xs) : tyV K "list" v H := by
  obtain ⟨a, vs, rfl, h2, h3⟩ := h
  exact .inl ⟨rfl, vs, h2⟩
end
end Rn

/-! loops and comprehensions over typed data; the pool of draws. -/
namespace Rn
open PySem PySem.Spec PyProof.Rows L2
open PySem.W (Datum Tup)

/-- J walks over xs, which stand in F -/
structure Feed (K : PySem.W.Frag) (F : Hp) (J : It) {α : Type} [DecidableEq α] [Datum α] (xs : List α) : Prop where
  ex : ∃ Y, Walk J xs.length (fun H => Xt F H) Y ∧ ∀ i F1 H1 x H', Xt F F1 → Xt F1 H1 → Y i H1 x H' → ∃ F', Gr [] F1 H1 F' H' ∧ ∃ z, xs[i]? = some z ∧ Rp K F' x z
section
variable {K : PySem.W.Frag} {S : List Addr} {F F0 H F' H' G : Hp} {p q a b : Addr} {v w : V} {vs ws : List V} {α β : Type} [DecidableEq α] [Datum α] [DecidableEq β] [Datum β] {x y : α} {xs : List α} {ys : List β} {lo : Int} {n : Nat} {J : It}
theorem Rp.feed {v : V} {xs : List α} (h : Rp K F v xs) : ∃ a, v = .ref a ∧ (∃ vs, SqL K F a vs) ∧ Feed K F (Itl K a) xs := by
  obtain ⟨a, vs, rfl, h1, h2⟩ := h.lst
  refine ⟨a, rfl, ⟨vs, h1⟩, ⟨YAt vs, ?_, fun i F1 H1 x H' e1 e2 y => ?_⟩⟩
  · rw [← h2.length]
    exact walk_list.mono (fun H e => sqL_ext e h1) fun _ _ _ _ _ _ y => y
  · obtain ⟨rfl, hx⟩ := y
    obtain ⟨z, hz, r⟩ := h2.at' hx
    exact ⟨F1, Gr.refl e2, z, hz, r.ext e1⟩
theorem Rp.feedT {v : V} {xs : List α} (h : Rp K F v (Tup.mk xs)) : ∃ a, v = .ref a ∧ (∃ vs, SqT K F a vs) ∧ Feed K F (Itt K a) xs := by
  obtain ⟨a, vs, rfl, h1, h2⟩ := h.tup
  refine ⟨a, rfl, ⟨vs, h1⟩, ⟨YAt vs, ?_, fun i F1 H1 x H' e1 e2 y => ?_⟩⟩
  · rw [← h2.length]
    exact walk_tup.mono (fun H e => sqT_ext e h1) fun _ _ _ _ _ _ y => y
  · obtain ⟨rfl, hx⟩ := y
    obtain ⟨z, hz, r⟩ := h2.at' hx
    exact ⟨F1, Gr.refl e2, z, hz, r.ext e1⟩
/-- lo, lo + 1, .. -/
def rng (lo : Int) (n : Nat) : List Int := (List.range n).map fun i => lo + (i : Nat)
theorem rng_length (lo : Int) (n : Nat) : (rng lo n).length = n := by simp [rng]
theorem rng_at {lo : Int} {n i : Nat} (h : i < n) : (rng lo n)[i]? = some (lo + (i : Nat)) := by simp [rng, h]
theorem rng_mem {lo o : Int} {n : Nat} : o ∈ rng lo n ↔ lo ≤ o ∧ o < lo + n := by
  unfold rng
  rw [List.mem_map]
  constructor
  · rintro ⟨i, hi, rfl⟩
    have := List.mem_range.mp hi
    omega
  · intro h
    exact ⟨(o - lo).toNat, List.mem_range.mpr (by omega), by omega⟩
theorem map_rng_ne {γ : Type} {f : Int → γ} {lo : Int} {n : Nat} (h : 0 < n) : (rng lo n).map f ≠ [] := by
  intro e
  have q := congrArg List.length e
  rw [List.length_map, rng_length] at q
  simp at q
  omega
theorem feed_rng : Feed K F (Itr lo n) (rng lo n) := by
  refine ⟨fun i H x H' => i < n ∧ (YFn fun i => V.int (lo + (i : Nat))) i H x H', ?_, fun i F1 H1 x H' e1 e2 y => ?_⟩
  · rw [rng_length]
    exact walk_range.mono (fun H e => trivial) fun _ _ _ _ hi _ y => ⟨hi, y⟩
  · obtain ⟨hi, rfl, rfl⟩ := y
    exact ⟨F1, Gr.refl e2, _, rng_at hi, rp_int _⟩
/-- enumerate -/
def enum {α : Type} (xs : List α) : List (Int × α) := (rng 0 xs.length).zip xs
theorem enum_length {α : Type} (xs : List α) : (enum xs).length = xs.length := by simp [enum, rng_length]
theorem enum_at {α : Type} {xs : List α} {i : Nat} {x : α} (h : xs[i]? = some x) : (enum xs)[i]? = some ((i : Int), x) := by
  have hi : i < xs.length := (List.getElem?_eq_some_iff.mp h).1
  rw [enum, List.getElem?_zip_eq_some]
  exact ⟨by rw [rng_at hi]; simp, h⟩
theorem Rp.feedE {v : V} {xs : List α} (h : Rp K F v xs) : ∃ a, v = .ref a ∧ (∃ vs, SqL K F a vs) ∧ Feed K F (Ite K a) (enum xs) := by
  obtain ⟨a, vs, rfl, h1, h2⟩ := h.lst
  refine ⟨a, rfl, ⟨vs, h1⟩, ⟨YPair (fun i => some (.int (i : Nat))) (fun i => vs[i]?), ?_, fun i F1 H1 x H' e1 e2 y => ?_⟩⟩
  · rw [enum_length, ← h2.length]
    exact walk_enum.mono (fun H e => sqL_ext e h1) fun _ _ _ _ _ _ y => y
  · obtain ⟨T, x, y, rfl, hn, rfl, hx, hy⟩ := y
    cases hx
    obtain ⟨z, hz, r⟩ := h2.at' hy
    exact ⟨_, Gr.newF e2 hn, _, enum_at hz, rp_pair (.inl (.inl upd_same)) (rp_int _) (r.ext (e1.trans (Gr.newF e2 hn).ff))⟩
theorem feed_zip {v w : V} (h : Rp K F v xs) (k : Rp K F w ys) : ∃ a b, v = .ref a ∧ w = .ref b ∧ (∃ vs, SqL K F a vs) ∧ (∃ vs, SqL K F b vs) ∧ Feed K F (Itz K a b) (xs.zip ys) := by
  obtain ⟨a, vs, rfl, h1, h2⟩ := h.lst
  obtain ⟨b, ws, rfl, k1, k2⟩ := k.lst
  refine ⟨a, b, rfl, rfl, ⟨vs, h1⟩, ⟨ws, k1⟩, ⟨YPair (fun i => vs[i]?) (fun i => ws[i]?), ?_, fun i F1 H1 x H' e1 e2 y => ?_⟩⟩
  · exact (walk_zip (xs := vs) (ys := ws) (by rw [List.length_zip, h2.length, k2.length])).mono (fun H e => ⟨sqL_ext e h1, sqL_ext e k1⟩) fun _ _ _ _ _ _ y => y
  · obtain ⟨T, x, y, rfl, hn, rfl, hx, hy⟩ := y
    obtain ⟨z, hz, r⟩ := h2.at' hx
    obtain ⟨z', hz', r'⟩ := k2.at' hy
    exact ⟨_, Gr.newF e2 hn, _, List.getElem?_zip_eq_some.mpr ⟨hz, hz'⟩, rp_pair (.inl (.inl upd_same)) (r.ext (e1.trans (Gr.newF e2 hn).ff)) (r'.ext (e1.trans (Gr.newF e2 hn).ff))⟩

/-- a for over typed data: N i holds of the slots, the part that stays and the heap at turn i -/
theorem for_feed (fd : Feed K F J xs) {g : TG} {tb : TS} {D : Ends} {σ : St} (N : Nat → St → Hp → Hp → Prop) (h0 : N 0 σ F0 H) (he : ∀ i σ F' H', i ≤ xs.length → N i σ F' H' → Xt F F' ∧ Xt F' H')
    (hs : ∀ i (hi : i < xs.length) x σ F1 H1 F2 H2, N i σ F1 H1 → Gr [] F1 H1 F2 H2 → Rp K F2 x (xs[i]'hi) → g x σ H2 fun σ2 H3 =>
      tb { D with nx := fun σ' H' => ∃ F', N (i + 1) σ' F' H', ct := fun σ' H' => ∃ F', N (i + 1) σ' F' H', bk := D.nx } σ2 H3) (hd : ∀ σ F' H', N xs.length σ F' H' → D.nx σ H') :
    ∃ W : Nat → Nat → St → Hp → Prop, (∃ m, W 0 m σ H) ∧ ∀ i m σ H, W i m σ H →
      (J.stop i H ∧ D.nx σ H) ∨ (J.go i H ∧ ∃ N : St → Hp → Prop, (∀ σ' H', N σ' H' → ∃ m', m' < m ∧ W (i + 1) m' σ' H') ∧ ∀ x H', J.yld i H x H' → g x σ H' fun σ2 H2 => tb { D with nx := N, ct := N, bk := D.nx } σ2 H2) := by
  obtain ⟨Y, w, hy⟩ := fd.ex
  refine for_it w (fun i σ H => ∃ F', N i σ F' H) ⟨_, h0⟩ (fun i σ H hi ⟨F', h⟩ => ?_) (fun i x σ H H' hi ⟨F', h⟩ y => ?_) fun σ H ⟨F', h⟩ => hd σ F' H h
  · obtain ⟨e1, e2⟩ := he i σ F' H hi h
    exact e1.trans e2
  · obtain ⟨e1, e2⟩ := he i σ F' H (Nat.le_of_lt hi) h
    obtain ⟨F2, g2, z, hz, r⟩ := hy i F' H x H' e1 e2 y
    rw [List.getElem?_eq_getElem hi] at hz
    cases hz
    exact hs i hi x σ F' H F2 H' h g2 r
/-- a comprehension over typed data -/
theorem lc_feed (fd : Feed K F J xs) {g : TG} {tt : TT} {te : TE} {wp : List Nat} {σ : St} {H1 : Hp} {D : Addr} {Qd : Hp → Prop} (I : Nat → List β → Hp → Hp → Prop) (e : Xt F H1) (hD : H1 D = none) (hS : ∀ p ∈ S, H1 p ≠ none)
    (hn : xs.length ≤ sizeLine) (h0 : ∀ H', Gc [] F H1 H' → I 0 [] F H')
    (hs : ∀ i (hi : i < xs.length) ys F1 H2 x F3 H3 (T : V → Hp → Prop) (N : Hp → Prop), Gr S F H1 F1 H2 → Mu K F1 H2 D ys → I i ys F1 H2 → Gr [] F1 H2 F3 H3 → Rp K F3 x (xs[i]'hi) →
      (∀ y F6 H6 z, Gr S F3 H3 F6 H6 → Rp K F6 y z → (∀ H7, Gc [D] F6 H6 H7 → I (i + 1) (ys ++ [z]) F6 H7) → T y H6) → (∀ F5 H5, Gr S F3 H3 F5 H5 → I (i + 1) ys F5 H5 → N H5) →
      g x (wipe σ wp) H3 fun σ2 H4 => wipe σ2 wp = wipe σ wp ∧ tt σ2 H4 fun b H5 => if b = true then te σ2 H5 T else N H5)
    (hd : ∀ ys F1 F2 H2, Gr S F H1 F1 H2 → I xs.length ys F1 H2 → Xt F1 F2 → (∀ q, q ≠ D → F1 q = none → F2 q = none) → Gr S F H1 F2 H2 → Ld K F2 (.ref D) ys → Qd H2) :
    ∃ W : Nat → Nat → Hp → Prop, (∃ m, W 0 m (upd H1 D (.lst []))) ∧ ∀ i m H, W i m H →
      (J.stop i H ∧ Qd H) ∨ (J.go i H ∧ ∃ Nx : Hp → Prop, (∀ H', Nx H' → ∃ m', m' < m ∧ W (i + 1) m' H') ∧ ∀ x H', J.yld i H x H' → g x (wipe σ wp) H' fun σ2 H2 => wipe σ2 wp = wipe σ wp ∧ tt σ2 H2 fun b H3 =>
        if b = true then te σ2 H3 fun y H4 => ∃ acc, H4 D = some (.lst acc) ∧ acc.length < sizeLine ∧ Nx (upd H4 D (.lst (acc ++ [y]))) else Nx H3) := by
  obtain ⟨Y, w, hy⟩ := fd.ex
  have hDS : D ∉ S := fun m => hS D m hD
  have nfD : F D = none := by
    cases h : F D with
    | none => rfl
    | some u => rw [e D u h] at hD; cases hD
  refine lc_it w (fun i H => ∃ F1 ys, ys.length ≤ i ∧ Gr S F H1 F1 H ∧ Mu K F1 H D ys ∧ I i ys F1 H) ⟨F, [], Nat.le_refl _, (Gr.newM e hD).weak, ⟨nfD, [], upd_same, .nil⟩, h0 _ ⟨Gr.newM e hD⟩⟩ (fun i H hi ⟨F1, ys, _, g, _, _⟩ => g.ff.trans g.fh) (fun i x H H' hi ⟨F1, ys, hl, gg, m, hI⟩ y => ?_) fun H ⟨F1, ys, hl, gg, m, hI⟩ => ?_
  · obtain ⟨F3, g3, z, hz, r⟩ := hy i F1 H x H' gg.ff gg.fh y
    rw [List.getElem?_eq_getElem hi] at hz
    cases hz
    refine hs i hi ys F1 H x F3 H' _ _ gg m hI g3 r (fun y F6 H6 z g6 r6 h6 => ?_) fun F5 H5 g5 h5 => ?_
    · have m6 := (m.gr0 g3).gr g6 hDS
      obtain ⟨n6, acc, ha, rr⟩ := m6
      have gc : Gr [D] F6 H6 F6 (upd H6 D (.lst (acc ++ [y]))) := Gr.chg g6.fh n6 (by rw [ha]; exact nofun)
      have sz := rr.length
      refine ⟨acc, ha, by omega, F6, ys ++ [z], by simp; omega, ?_, ⟨n6, _, upd_same, rr.snoc r6⟩, h6 _ ⟨gc⟩⟩
      refine ((gg.tr0 g3).trans g6 fun p hp => .inl hp).trans gc fun p hp => .inr ?_
      rw [List.mem_singleton.mp hp]; exact hD
    · exact ⟨F5, ys, by omega, (gg.tr0 g3).trans g5 fun p hp => .inl hp, (m.gr0 g3).gr g5 hDS, h5⟩
  · obtain ⟨F2, x1, x2, x3, x4, x5⟩ := m.frz gg.fh
    exact hd ys F1 F2 H gg hI x2 x5 (x4 _ _ _ gg hD) x3
/-- a comprehension without a test that only makes things: f item by item -/
theorem lc_map (fd : Feed K F J xs) (f : α → β) {g : TG} {tt : TT} {te : TE} {wp : List Nat} {σ : St} {H1 : Hp} {D : Addr} {Qd : Hp → Prop} (e : Xt F H1) (hD : H1 D = none) (hn : xs.length ≤ sizeLine)
    (hs : ∀ z F2 H2 x F3 H3 (T : V → Hp → Prop), z ∈ xs → Gr [] F H1 F2 H2 → Gr [] F2 H2 F3 H3 → Rp K F3 x z → (∀ y F6 H6, Gr [] F3 H3 F6 H6 → Rp K F6 y (f z) → T y H6) →
      ∀ N : Hp → Prop, g x (wipe σ wp) H3 fun σ2 H4 => wipe σ2 wp = wipe σ wp ∧ tt σ2 H4 fun b H5 => if b = true then te σ2 H5 T else N H5)
    (hd : ∀ F2 H2, Gr [] F H1 F2 H2 → Ld K F2 (.ref D) (xs.map f) → Qd H2) :
    ∃ W : Nat → Nat → Hp → Prop, (∃ m, W 0 m (upd H1 D (.lst []))) ∧ ∀ i m H, W i m H →
      (J.stop i H ∧ Qd H) ∨ (J.go i H ∧ ∃ Nx : Hp → Prop, (∀ H', Nx H' → ∃ m', m' < m ∧ W (i + 1) m' H') ∧ ∀ x H', J.yld i H x H' → g x (wipe σ wp) H' fun σ2 H2 => wipe σ2 wp = wipe σ wp ∧ tt σ2 H2 fun b H3 =>
        if b = true then te σ2 H3 fun y H4 => ∃ acc, H4 D = some (.lst acc) ∧ acc.length < sizeLine ∧ Nx (upd H4 D (.lst (acc ++ [y]))) else Nx H3) := by
  refine lc_feed (S := []) fd (β := β) (fun i ys _ _ => ys = (xs.take i).map f) e hD (fun _ h => nomatch h) hn (fun _ _ => by simp) (fun i hi ys F1 H2 x F3 H3 T N g1 m hI g2 r k1 _ => ?_) fun ys F1 F2 H2 _ hI _ _ g l => ?_
  · exact hs xs[i] F1 H2 x F3 H3 T (List.getElem_mem hi) g1 g2 r (fun y F6 H6 g6 r6 => k1 y F6 H6 _ g6 r6 fun _ _ => by rw [hI, List.take_add_one, List.getElem?_eq_getElem hi, List.map_append]; rfl) N
  · rw [hI, List.take_length] at l
    exact hd F2 H2 g l
theorem Mu.frz_none {K : PySem.W.Frag} {F H : Hp} {p : Addr} {α : Type} [DecidableEq α] [Datum α] {xs : List α} (m : Mu K F H p xs) : F p = none := m.1
theorem Mu.some {K : PySem.W.Frag} {F H : Hp} {p : Addr} {α : Type} [DecidableEq α] [Datum α] {xs : List α} (m : Mu K F H p xs) : H p ≠ none := by
  obtain ⟨_, vs, h, _⟩ := m
  rw [h]; exact nofun
theorem cdiv_small {i j : Int} (h : 0 < j) (k : j < 2 ^ 200) : CDivW i j := wide_div h (b := 200) (by omega) (by decide) (by decide)
theorem cmul_l {i j : Int} (h : -(2 ^ 64) < i) (k : i < 2 ^ 64) : CMul i j := .inl ⟨h, k⟩
theorem cmul_r {i j : Int} (h : -(2 ^ 64) < j) (k : j < 2 ^ 64) : CMul i j := .inr ⟨h, k⟩
theorem cpow_small {i j : Int} (h : 0 ≤ j) (k : j ≤ 1000000) (l : i.natAbs < 2 ^ 64) : CPow i j := ⟨h, k, l⟩
end

/-! ### more readings of the combinators -/
section
variable {σ : St} {H : Hp} {Q : VK} {T : TA} {C : Addr} {sp : Sp} {W : WX} {ta : TE} {m : Str}
theorem rd_mt (h : ta σ H fun x H1 => ∃ a dx fs, x = .ref a ∧ H1 a = some (.ins C dx fs) ∧ fs.lookup m = none ∧ T σ H1 fun vs H2 => sp (x :: vs) H2 Q fun c d H' => W c d σ H') : tMt C m sp W ta T σ H Q := h
end

/-! ### more small ones -/
theorem cxK {CX : CXT} {P : Program} {w : World} {K : PySem.W.Frag} {mg : Str → Option Value} {base : Heap} {N : List Str} {q : Str} {sc : Scope} {f : Addr} {cdv : Value} {A : Around} {outer : List Env} {s : Shared} {H : Hp} {E : XK} : (cxOf CX P w K mg base N q sc f cdv A outer s H E).K = K := rfl
theorem iteDT {p : Prop} {_ : Decidable p} {A B : Prop} (h : p) (k : A) : if decide p = true then A else B := by rw [decide_eq_true h]; exact iteT k
theorem iteDF {p : Prop} {_ : Decidable p} {A B : Prop} (h : ¬ p) (k : B) : if decide p = true then A else B := by rw [decide_eq_false h]; exact iteF k
theorem iteNot {b : Bool} {A B : Prop} (h : if b = true then B else A) : if (!b) = true then A else B := by
  cases b with
  | true => exact iteF (by simpa using h)
  | false => exact iteT (by simpa using h)
theorem zSet_raw {H : Hp} {p : Addr} {xs : List V} {k : Int} {j : Nat} {v : V} {Q : Hp → Prop} (h : H p = some (.lst xs)) (hj : ixN xs.length k = some j) (q : Q (upd H p (.lst (xs.set j v)))) : rSetL (.ref p) (.int k) v H Q := ⟨p, xs, k, j, rfl, rfl, h, hj, q⟩
theorem zIx_raw {K : PySem.W.Frag} {H : Hp} {p : Addr} {xs : List V} {i : Int} {v : V} {Q : VK} (h : H p = some (.lst xs)) (hv : atI xs i = some v) (q : Q v H) : rIx K (.ref p) (.int i) H Q := zIx_lst (.inl (.inl h)) hv q
theorem zIx_rawF {K : PySem.W.Frag} {F H : Hp} {p : Addr} {xs : List V} {i : Int} {v : V} {Q : VK} (h : F p = some (.lst xs)) (e : Xt F H) (hv : atI xs i = some v) (q : Q v H) : rIx K (.ref p) (.int i) H Q := zIx_lst (.inl (.inl (e _ _ h))) hv q
theorem zIx_rawT {K : PySem.W.Frag} {F H : Hp} {p : Addr} {xs : List V} {i : Int} {v : V} {Q : VK} (h : F p = some (.tup xs)) (e : Xt F H) (hv : atI xs i = some v) (q : Q v H) : rIx K (.ref p) (.int i) H Q := zIx_tup (.inl (.inl (e _ _ h))) hv q

theorem Gr.s0 {P : Addr → Prop} : ∀ p ∈ ([] : List Addr), P p := fun _ h => nomatch h
theorem Gr.n0 {p : Addr} : p ∉ ([] : List Addr) := fun h => nomatch h
/-! ### objects -/
section
variable {K : PySem.W.Frag} {S : List Addr} {F H F' H' : Hp} {p a x C dx : Addr} {o : HO} {v : V} {vs : List V} {f : Str} {fs : List (Str × V)} {Q : VK} {E : XK} {sp : Sp}
def kFl (K : PySem.W.Frag) (f : Str) (Q : VK) : VK := fun x H1 => ∃ a C dx fs v, x = .ref a ∧ H1 a = some (.ins C dx fs) ∧ Cls K C ∧ NoAttr K C f ∧ fs.lookup f = some v ∧ Q v H1
def kSf (K : PySem.W.Frag) (f : Str) (y : V) (R : Hp → Prop) : VK := fun x H2 => ∃ a C dx fs, x = .ref a ∧ H2 a = some (.ins C dx fs) ∧ Cls K C ∧ NoAttr K C f ∧ fs.length < 1000 ∧ R (upd H2 a (.ins C dx (putF f y fs)))
theorem rd_fl {te : TE} {σ : St} (h : te σ H (kFl K f Q)) : tFld K te f σ H Q := h
theorem rd_sf {te tv : TE} {D : Ends} {σ : St} (h : tv σ H fun y H1 => te σ H1 (kSf K f y (D.nx σ))) : sFld K te tv f D σ H := h
theorem q_fld (h : F a = some (.ins C dx fs)) (e : Xt F H) (c : Cls K C) (n : NoAttr K C f) (l : fs.lookup f = some v) (k : Q v H) : kFl K f Q (.ref a) H := ⟨a, C, dx, fs, v, rfl, e _ _ h, c, n, l, k⟩
theorem q_fldM (h : H a = some (.ins C dx fs)) (c : Cls K C) (n : NoAttr K C f) (l : fs.lookup f = some v) (k : Q v H) : kFl K f Q (.ref a) H := ⟨a, C, dx, fs, v, rfl, h, c, n, l, k⟩
theorem q_sfld {y : V} {R : Hp → Prop} (h : H a = some (.ins C dx fs)) (c : Cls K C) (n : NoAttr K C f) (l : fs.length < 1000) (k : R (upd H a (.ins C dx (putF f y fs)))) :
    kSf K f y R (.ref a) H := ⟨a, C, dx, fs, rfl, h, c, n, l, k⟩
def kMk (C : Addr) (sp : Sp) (E : XK) (Q : VK) : List V → Hp → Prop := fun vs H1 => ∀ x dx, H1 x = none → H1 dx = none → dx ≠ x → sp (.ref x :: vs) (upd (upd H1 dx (.own x)) x (.ins C dx [])) (fun v H2 => v = .non ∧ Q (.ref x) H2) E
/-- a new instance, free to change -/
theorem q_mk (e : Xt F H) (k : ∀ x dx H', H x = none → Gc [] F H H' → F x = none → H' x = some (.ins C dx []) → sp (.ref x :: vs) H' (fun v H2 => v = .non ∧ Q (.ref x) H2) E) :
    kMk C sp E Q vs H := by
  intro x dx n1 n2 ne
  have g1 := Gr.newM (o := .own x) e n2
  have n3 : upd H dx (.own x) x = none := by rw [upd_ne (Ne.symm ne)]; exact n1
  have g2 := Gr.newM (o := .ins C dx []) g1.fh n3
  refine k x dx _ n1 ⟨g1.tr0 g2⟩ ?_ upd_same
  cases h : F x with
  | none => rfl
  | some u => rw [e x u h] at n1; cases n1
/-- an object stays from here on -/
theorem obj_frz (e : Xt F H) (n : F p = none) (h : H p = some o) : ∃ F', Xt F' H ∧ Xt F F' ∧ F' p = some o ∧ (∀ S F0 H0, Gr S F0 H0 F H → H0 p = none → Gr S F0 H0 F' H) ∧ ∀ q, q ≠ p → F q = none → F' q = none := by
  refine ⟨upd F p o, e.updF h, e.frz n, upd_same, fun S F0 H0 g k => Gr.frz e n h g k, fun q m k => ?_⟩
  rw [upd_ne m]; exact k
end

theorem rd_mk {σ : St} {H : Hp} {Q : VK} {T : TA} {C : Addr} {sp : Sp} {W : WX} (h : T σ H (kMk C sp (fun c d H' => W c d σ H') Q)) : tMk C sp W T σ H Q := h
/-! ### walks: readings -/
section
variable {K : PySem.W.Frag} {F H : Hp} {σ : St} {v w : V} {D : Ends} {Q : VK} {g : TG} {tt : TT} {te tl : TE} {ta : TA} {tb : TS} {wi w1 w2 : TI} {vs : List Nat} {R : It → Hp → Prop} {n i j : Int} {C : Addr} {fl : Str} {α β : Type} [DecidableEq α] [Datum α] [DecidableEq β] [Datum β] {xs : List α} {ys : List β}
theorem rd_lc (h : wi σ H fun J H1 => ∀ D, H1 D = none → ∃ W : Nat → Nat → Hp → Prop, (∃ m, W 0 m (upd H1 D (.lst []))) ∧ ∀ i m H, W i m H →
  (J.stop i H ∧ Q (.ref D) H) ∨ (J.go i H ∧ ∃ Nx : Hp → Prop, (∀ H', Nx H' → ∃ m', m' < m ∧ W (i + 1) m' H') ∧ ∀ x H', J.yld i H x H' → g x (wipe σ vs) H' fun σ2 H2 => wipe σ2 vs = wipe σ vs ∧ tt σ2 H2 fun b H3 =>
    if b = true then te σ2 H3 fun y H4 => ∃ acc, H4 D = some (.lst acc) ∧ acc.length < sizeLine ∧ Nx (upd H4 D (.lst (acc ++ [y]))) else Nx H3)) : tLc wi g tt te vs σ H Q := h
theorem rd_for (h : wi σ H fun J H1 => ∃ W : Nat → Nat → St → Hp → Prop, (∃ m, W 0 m σ H1) ∧ ∀ i m σ H, W i m σ H →
  (J.stop i H ∧ D.nx σ H) ∨ (J.go i H ∧ ∃ N : St → Hp → Prop, (∀ σ' H', N σ' H' → ∃ m', m' < m ∧ W (i + 1) m' σ' H') ∧ ∀ x H', J.yld i H x H' → g x σ H' fun σ2 H2 => tb { D with nx := N, ct := N, bk := D.nx } σ2 H2)) : tFor wi g tb D σ H := h
theorem rd_orl (h : w1 σ H R) : iOr w1 w2 σ H R := .inl h
theorem rd_orr (h : w2 σ H R) : iOr w1 w2 σ H R := .inr h
def kL (K : PySem.W.Frag) (R : It → Hp → Prop) : VK := fun x H1 => ∃ a, x = .ref a ∧ (∃ xs, SqL K H1 a xs) ∧ R (Itl K a) H1
def kT (K : PySem.W.Frag) (R : It → Hp → Prop) : VK := fun x H1 => ∃ a, x = .ref a ∧ (∃ xs, SqT K H1 a xs) ∧ R (Itt K a) H1
def k1 (R : It → Hp → Prop) : List V → Hp → Prop := fun vs H1 => ∃ j : Int, vs = [.int j] ∧ -(2 ^ 62) ≤ j ∧ j < 2 ^ 62 ∧ R (Itr 0 j.toNat) H1
def k2 (R : It → Hp → Prop) : List V → Hp → Prop := fun vs H1 => ∃ i j : Int, vs = [.int i, .int j] ∧ (-(2 ^ 62) ≤ i ∧ i < 2 ^ 62 ∧ -(2 ^ 62) ≤ j ∧ j < 2 ^ 62) ∧ R (Itr i (j - i).toNat) H1
def kE (K : PySem.W.Frag) (R : It → Hp → Prop) : List V → Hp → Prop := fun vs H1 => ∃ a xs, vs = [.ref a] ∧ SqL K H1 a xs ∧ R (Ite K a) H1
def kZ (K : PySem.W.Frag) (R : It → Hp → Prop) : List V → Hp → Prop := fun vs H1 => ∃ a b xs ys, vs = [.ref a, .ref b] ∧ SqL K H1 a xs ∧ SqL K H1 b ys ∧ R (Itz K a b) H1
def kO (K : PySem.W.Frag) (C : Addr) (fl : Str) (R : It → Hp → Prop) : VK := fun x H1 => ∃ a dx fs b, x = .ref a ∧ H1 a = some (.ins C dx fs) ∧ fs.lookup fl = some (.ref b) ∧ (∃ xs, SqT K H1 b xs) ∧ R (Itt K b) H1
theorem rd_iL (h : tl σ H (kL K R)) : iList K tl σ H R := h
theorem rd_iT (h : tl σ H (kT K R)) : iTup K tl σ H R := h
theorem rd_i1 (h : ta σ H (k1 R)) : iRng1 ta σ H R := h
theorem rd_i2 (h : ta σ H (k2 R)) : iRng2 ta σ H R := h
theorem rd_iZ (h : ta σ H (kZ K R)) : iZip K ta σ H R := h
theorem rd_iE (h : ta σ H (kE K R)) : iEnum K ta σ H R := h
theorem rd_iO (h : te σ H (kO K C fl R)) : iOwn K C fl te σ H R := h
theorem q_iL (h : Rp K F v xs) (e : Xt F H) (k : ∀ a, Feed K F (Itl K a) xs → R (Itl K a) H) : kL K R v H := by
  obtain ⟨a, rfl, ⟨ws, hs⟩, fd⟩ := h.feed
  exact ⟨a, rfl, ⟨ws, sqL_ext e hs⟩, k a fd⟩
theorem q_iT (h : Rp K F v (Tup.mk xs)) (e : Xt F H) (k : ∀ a, Feed K F (Itt K a) xs → R (Itt K a) H) : kT K R v H := by
  obtain ⟨a, rfl, ⟨ws, hs⟩, fd⟩ := h.feedT
  exact ⟨a, rfl, ⟨ws, sqT_ext e hs⟩, k a fd⟩
theorem q_i1 (h0 : -(2 ^ 62) ≤ n) (h1 : n < 2 ^ 62) (k : R (Itr 0 n.toNat) H) : k1 R [.int n] H := ⟨n, rfl, h0, h1, k⟩
theorem q_i2 (h0 : -(2 ^ 62) ≤ i) (h1 : i < 2 ^ 62) (h2 : -(2 ^ 62) ≤ j) (h3 : j < 2 ^ 62) (k : R (Itr i (j - i).toNat) H) : k2 R [.int i, .int j] H := ⟨i, j, rfl, ⟨h0, h1, h2, h3⟩, k⟩
theorem q_iE (h : Rp K F v xs) (e : Xt F H) (k : ∀ a, Feed K F (Ite K a) (enum xs) → R (Ite K a) H) : kE K R [v] H := by
  obtain ⟨a, rfl, ⟨ws, hs⟩, fd⟩ := h.feedE
  exact ⟨a, ws, rfl, sqL_ext e hs, k a fd⟩
theorem q_iZ (h : Rp K F v xs) (h' : Rp K F w ys) (e : Xt F H) (k : ∀ a b, Feed K F (Itz K a b) (xs.zip ys) → R (Itz K a b) H) : kZ K R [v, w] H := by
  obtain ⟨a, b, rfl, rfl, ⟨vs, hs⟩, ⟨ws, ht⟩, fd⟩ := feed_zip h h'
  exact ⟨a, b, vs, ws, rfl, sqL_ext e hs, sqL_ext e ht, k a b fd⟩
theorem q_iO {a dx : Addr} {fs : List (Str × V)} (ha : F a = some (.ins C dx fs)) (l : fs.lookup fl = some v) (h : Rp K F v (Tup.mk xs)) (e : Xt F H) (k : ∀ b, Feed K F (Itt K b) xs → R (Itt K b) H) :
    kO K C fl R (.ref a) H := by
  obtain ⟨b, rfl, ⟨ws, hs⟩, fd⟩ := h.feedT
  exact ⟨a, dx, fs, b, rfl, e _ _ ha, l, ⟨ws, sqT_ext e hs⟩, k b fd⟩
end

/-! ### a row, then the rest -/
theorem rd_seqA {te : TE} {g : TG} {u : TS} {D : Ends} {σ : St} {H : Hp} (h : tAsg te g { D with nx := u D } σ H) : tSeq (tAsg te g) u D σ H := h
theorem rd_seqD {te : TE} {u : TS} {D : Ends} {σ : St} {H : Hp} (h : tDrop te { D with nx := u D } σ H) : tSeq (tDrop te) u D σ H := h
/-- the rest from what holds between -/
theorem rd_cut {t u : TS} {D : Ends} {σ : St} {H : Hp} (P : St → Hp → Prop) (k : ∀ N : St → Hp → Prop, (∀ σ H, P σ H → N σ H) → t { D with nx := N } σ H) (h : ∀ σ H, P σ H → u D σ H) : tSeq t u D σ H := k (u D) h
/-! ### while -/
theorem rd_while {c : TT} {tb : TS} {D : Ends} {σ : St} {H : Hp} (W : Nat → St → Hp → Prop) (h0 : ∃ m, W m σ H) (h : ∀ m σ H, W m σ H →
  c σ H fun b H1 => if b = true then ∃ N : St → Hp → Prop, (∀ σ' H', N σ' H' → ∃ m', m' < m ∧ W m' σ' H') ∧ tb { D with nx := N, ct := N, bk := D.nx } σ H1 else D.nx σ H1) : tWhile c tb D σ H := ⟨W, h0, h⟩
theorem q_lastS {K : PySem.W.Frag} {F H : Hp} {v : V} {ns : List Int} {x : Int} {Q : VK} (h : Sees K F H v (ns ++ [x])) (k : Q (.int x) H) : rIx K v (.int (-1)) H Q := q_last h (by simp) (by rw [List.getLast_append]; simpa using k)
/-! ### isinstance of a whole number -/
theorem q_isi_int {K : PySem.W.Frag} {H : Hp} {i : Int} {Q : VK} (k : Q (.bl true) H) : rIsi K [.int i, .ty "int"] H Q := ⟨_, _, _, _, true, rfl, .ty _, .base (.int i), kit_ty (by decide +kernel), k⟩
theorem q_isi_ib {K : PySem.W.Frag} {H : Hp} {i : Int} {Q : VK} (k : Q (.bl false) H) : rIsi K [.int i, .ty "bool"] H Q := ⟨_, _, _, _, false, rfl, .ty _, .base (.int i), kit_ty (by decide +kernel), k⟩
/-! ### targets -/
section
variable {K : PySem.W.Frag} {F H : Hp} {σ : St} {v : V} {α β : Type} [DecidableEq α] [Datum α] [DecidableEq β] [Datum β] {x : α} {y : β} {t : TGs} {g : TG} {r : List V} {QG : St → Hp → Prop}
theorem rd_gcons (h : g v σ H fun σ' H' => t r σ' H' QG) : gCons g t (v :: r) σ H QG := ⟨v, r, rfl, h⟩
theorem rd_gnil (h : QG σ H) : gNil [] σ H QG := ⟨rfl, h⟩
theorem q_g2 (h : Rp K F v (x, y)) (e : Xt F H) (k : ∀ u w, Rp K F u x → Rp K F w y → t [u, w] σ H QG) : gTup K 2 t v σ H QG := by
  obtain ⟨a, u, w, rfl, hs, h1, h2⟩ := h.pair
  exact ⟨a, _, rfl, sqT_ext e hs, rfl, k u w h1 h2⟩
end

/-! ### the pool of draws -/
def PoolAt (H : Hp) (p : Addr) : Prop := ∃ a b c : Int, H p = some (.lst [.int a, .int b, .int c]) ∧ 0 ≤ b ∧ b < 2147483648
theorem PoolAt.gr {S : List Addr} {F H F' H' : Hp} {p : Addr} (h : PoolAt H p) (g : Gr S F H F' H') (n : p ∉ S) : PoolAt H' p := by
  obtain ⟨a, b, c, h1, h2⟩ := h
  exact ⟨a, b, c, g.hh p _ n h1, h2⟩
theorem PoolAt.some {H : Hp} {p : Addr} (h : PoolAt H p) : H p ≠ none := by
  obtain ⟨a, b, c, h1, h2⟩ := h
  rw [h1]; exact nofun
/-- _law_pool(script, at) -/
def sp_pool (K : PySem.W.Frag) : Sp := fun vs H Q _ => ∃ (F : Hp) (a : Addr) (ns : List Int) (i : Int), vs = [.ref a, .int i] ∧ SqL K H a (ns.map V.int) ∧ 0 ≤ i ∧ Xt F H ∧ ∀ p H', H p = none → Gc [] F H H' → F p = none → PoolAt H' p → Q (.ref p) H'
/-- _law_draw(pool, many) -/
def sp_draw : Sp := fun vs H Q _ => ∃ (F : Hp) (p : Addr) (m : Int), vs = [.ref p, .int m] ∧ Xt F H ∧ F p = none ∧ PoolAt H p ∧ 0 < m ∧ m < 2 ^ 200 ∧ ∀ (v : Int) H', 0 ≤ v → v < m → Gc [p] F H H' → PoolAt H' p → Q (.int v) H'
end Rn

/-! the rules with the written part named. -/
namespace Rn
open PySem PySem.Spec PyProof.Rows L2
section
variable {X : Cx} (K : PySem.W.Frag)
theorem kAdd (hK : X.K = K := by rfl) : OpR X (binaryOp .Add) (rAddZ K) := by subst hK; exact op_addZ
theorem kMul (hK : X.K = K := by rfl) : OpR X (binaryOp .Mult) (rMulZ K) := by subst hK; exact op_mulZ
def rEqY (K : PySem.W.Frag) : R2 := fun x y H Q => rEq x y H Q ∨ rEqT K x y H Q
def rNeY (K : PySem.W.Frag) : R2 := fun x y H Q => rNe x y H Q ∨ rNeT K x y H Q
theorem kEq (hu : X.A.units + 65 < cLine) (hK : X.K = K := by rfl) : OpR X (compareOp .Eq) (rEqY K) := by subst hK; exact op_eq.or (op_eqT (by omega))
theorem kNe (hu : X.A.units + 65 < cLine) (hK : X.K = K := by rfl) : OpR X (compareOp .NotEq) (rNeY K) := by subst hK; exact op_ne.or (op_neT (by omega))
theorem kIn (hu : X.A.units + 65 < cLine) (hK : X.K = K := by rfl) : OpR X (compareOp .In) (rInT K) := by subst hK; exact op_inT hu
theorem kNotIn (hu : X.A.units + 65 < cLine) (hK : X.K = K := by rfl) : OpR X (compareOp .NotIn) (rNotInT K) := by subst hK; exact op_notInT hu
theorem kIx (hK : X.K = K := by rfl) : IxR X (rIx K) := by subst hK; exact ix_seq
theorem kSl (hK : X.K = K := by rfl) : SlR X (rSlZ K) := by subst hK; exact sl_Z
theorem kLen (hK : X.K = K := by rfl) : CallR X (.builtin "len") (yLen K) := by subst hK; exact cy_len
theorem kList (hK : X.K = K := by rfl) : CallR X (.type "list") (yList K) := by subst hK; exact cy_list
theorem kTuple (hK : X.K = K := by rfl) : CallR X (.type "tuple") (yTuple K) := by subst hK; exact cy_tuple
theorem kSum (hc : X.calm = true) (hK : X.K = K := by rfl) : CallR X (.builtin "sum") (rSum K) := by subst hK; exact cr_sum hc
theorem kMin (hc : X.calm = true) (hK : X.K = K := by rfl) : CallR X (.builtin "min") (rMin K) := by subst hK; exact cr_min hc
theorem kMax (hc : X.calm = true) (hK : X.K = K := by rfl) : CallR X (.builtin "max") (rMax K) := by subst hK; exact cr_max hc
theorem kIsi (hK : X.K = K := by rfl) : CallR X (.builtin "isinstance") (rIsi K) := by subst hK; exact call_isi
theorem kIndex (hu : X.A.units + 65 < cLine) (hK : X.K = K := by rfl) : MtR X "list.index" (rIndexT K) := by subst hK; exact mt_indexT hu
theorem kFld {e : Expr} {f : Str} {pos : Pos} {ta : TE} (he : PE X e ta) (hb : attributeBase e f X.env (eval e X.env) = eval e X.env) (hK : X.K = K := by rfl) : PE X (.Attribute e f pos) (tFld K ta f) := by subst hK; exact pe_fld he hb
theorem ksFld {o value : Expr} {f : Str} {pos pos' : Pos} {ta tv : TE} (ha : PE X o ta) (hv : PE X value tv) (hs : swapsWith value (some (.Attribute o f pos')) pos.line X.env = pure false) (hK : X.K = K := by rfl) : PS X (.Assign [.Attribute o f pos'] value pos) (sFld K ta tv f) := by subst hK; exact ps_fld ha hv hs
theorem kgTup {es : List Expr} {k : Nat} {t : TGs} {n : Nat} {pos : Pos} (hc : X.calm = true) (h : PGs X es t) (hK : X.K = K := by rfl)
    (hn : (assignEach es X.env).length = n := by rfl) (hst : (assignEach es X.env).findIdx? (·.1) = none := by rfl) : PG X (.Tuple es k pos) (gTup K n t) := by subst hK; exact pg_tup hc h hn hst
theorem kiList {tg l : Expr} {tl : TE} (hl : PE X l tl) (hK : X.K = K := by rfl) : PI X tg l (iList K tl) := by subst hK; exact pi_list hl
theorem kiTup {tg l : Expr} {tl : TE} (hl : PE X l tl) (hK : X.K = K := by rfl) : PI X tg l (iTup K tl) := by subst hK; exact pi_tup hl
theorem kiEnum {e : Expr} {ta : TA} {p pos tpos : Pos} {elts : List Expr} {kk : Nat} (hg : Gl X "enumerate") (hm : X.mg "enumerate" = none) (ha : PA X [e] ta) (hK : X.K = K := by rfl) (hs : starEach [e] X.env = [(false, eval e X.env)] := by rfl) :
    PI X (.Tuple elts kk tpos) (.Call (.Name "enumerate" p) [e] [] pos) (iEnum K ta) := by subst hK; exact pi_enum hg hm ha hs
theorem kiZip {e e2 : Expr} {ta : TA} {p pos tpos : Pos} {elts : List Expr} {kk : Nat} (hg : Gl X "zip") (hm : X.mg "zip" = none) (ha : PA X [e, e2] ta) (hK : X.K = K := by rfl)
    (hs : starEach [e, e2] X.env = (false, eval e X.env) :: starEach [e2] X.env := by rfl) (hpl : (backTo pos (starEach [e2] X.env)).any (·.1) = false := by rfl) :
    PI X (.Tuple elts kk tpos) (.Call (.Name "zip" p) [e, e2] [] pos) (iZip K ta) := by subst hK; exact pi_zip hg hm ha hs hpl
theorem kiRev {tg e : Expr} {ta : TA} {p pos : Pos} (hg : Gl X "reversed") (hm : X.mg "reversed" = none) (ha : PA X [e] ta) (hK : X.K = K := by rfl) (hs : starEach [e] X.env = [(false, eval e X.env)] := by rfl) : PI X tg (.Call (.Name "reversed" p) [e] [] pos) (iRev K ta) := by subst hK; exact pi_reversed hg hm ha hs
theorem kRevL {e : Expr} {te : TE} {k : Nat} {p1 p2 p3 pos : Pos} (he : PE X e te) (hK : X.K = K := by rfl) : PE X (.Subscript e (.Slice none none (some (.UnaryOp .USub (.Constant (.int 1) k p1) p2)) p3) pos) (tRevL K te) := by subst hK; exact pe_revL he
theorem kBm {o e : Expr} {es : List Expr} {T : String} {name : Str} {id : String} {r : V → List V → Hp → VK → Prop} {to : TE} {t : TA} {apos cpos : Pos} (pa : PlainAttrs T) (slot : Slot T name id) (hty : typeOf (.builtin id) = pure (.type "method_descriptor")) (hm : MtR X id r) (ho : PE X o to) (ha : PA X (e :: es) t) (hK : X.K = K := by rfl)
    (hbase : attributeBase o name X.env (eval o X.env) = eval o X.env := by rfl)
    (hfew : ((backTo cpos (starEach (e :: es) X.env)).all (fun x => !x.1) && (backToKw cpos (keywordEach [] X.env)).all (fun x => x.1.isSome)
      && decide ((e :: es).length + ([] : List Keyword).length + (if ([] : List Keyword).isEmpty then 0 else 1) < 30)) = true := by rfl)
    (hline : (apos.endLine == cpos.line) = true := by rfl) (hs : starEach (e :: es) X.env = (false, eval e X.env) :: starEach es X.env := by rfl) (hplain : (backTo cpos (starEach es X.env)).any (·.1) = false := by rfl) :
    PE X (.Call (.Attribute o name apos) (e :: es) [] cpos) (tBM K T r to t) := by subst hK; exact pe_bm pa slot hty hm ho ha hbase hfew hline hs hplain
theorem kBm0 {o : Expr} {T : String} {name : Str} {id : String} {r : V → List V → Hp → VK → Prop} {to : TE} {apos cpos : Pos} (pa : PlainAttrs T) (slot : Slot T name id) (hty : typeOf (.builtin id) = pure (.type "method_descriptor")) (hm : MtR X id r) (ho : PE X o to) (hK : X.K = K := by rfl)
    (hbase : attributeBase o name X.env (eval o X.env) = eval o X.env := by rfl) (hline : (apos.endLine == cpos.line) = true := by rfl) : PE X (.Call (.Attribute o name apos) [] [] cpos) (tBM0 K T r to) := by subst hK; exact pe_bm0 pa slot hty hm ho hbase hline
end
section
open PySem.W (Datum Tup)
variable {K : PySem.W.Frag} {F G H : Hp} {v w : V} {α : Type} [DecidableEq α] [Datum α] {x y : α} {xs : List α} {Q : VK} {i j : Int}
theorem yEq_int (h : Q (.bl (decide (i = j))) H) : rEqY K (.int i) (.int j) H Q := .inl ⟨rfl, by rw [decV_int]; exact h⟩
theorem yNe_int (h : Q (.bl (!decide (i = j))) H) : rNeY K (.int i) (.int j) H Q := .inl ⟨rfl, by rw [decV_int]; exact h⟩
theorem q_eq (h : Rp K F v x) (k : Rp K G w y) (e : Xt F H) (e' : Xt G H) (hd : Datum.depth α ≤ 64) (q : Q (.bl (decide (x = y))) H) : rEqY K v w H Q :=
  .inr ⟨_, _, h.ext e, k.ext e', Datum.plain x, Datum.plain y, Nat.le_trans (Datum.depth_le x) hd, by rw [Datum.eqv]; exact q⟩
theorem q_ne (h : Rp K F v x) (k : Rp K G w y) (e : Xt F H) (e' : Xt G H) (hd : Datum.depth α ≤ 64) (q : Q (.bl (!decide (x = y))) H) : rNeY K v w H Q :=
  .inr ⟨_, _, h.ext e, k.ext e', Datum.plain x, Datum.plain y, Nat.le_trans (Datum.depth_le x) hd, by rw [Datum.eqv]; exact q⟩
theorem q_in (h : Rp K F v x) (k : Sees K G H w xs) (e : Xt F H) (e' : Xt G H) (hd : Datum.depth α ≤ 64) (q : Q (.bl (decide (x ∈ xs))) H) : rInT K v w H Q := by
  obtain ⟨a, ws, rfl, h1, h2⟩ := k
  exact ⟨_, _, h.ext e, .inl (.lst h1 (h2.ext e')), Datum.plain x, PySem.W.plainAll_map xs, Nat.le_trans (PySem.W.depthAll_map xs) hd, by rw [PySem.W.any_datum]; exact q⟩
theorem q_notIn (h : Rp K F v x) (k : Sees K G H w xs) (e : Xt F H) (e' : Xt G H) (hd : Datum.depth α ≤ 64) (q : Q (.bl (!decide (x ∈ xs))) H) : rNotInT K v w H Q := by
  obtain ⟨a, ws, rfl, h1, h2⟩ := k
  exact ⟨_, _, h.ext e, .inl (.lst h1 (h2.ext e')), Datum.plain x, PySem.W.plainAll_map xs, Nat.le_trans (PySem.W.depthAll_map xs) hd, by rw [PySem.W.any_datum]; exact q⟩
theorem q_index (h : Rp K F v x) (k : Sees K G H w xs) (e : Xt F H) (e' : Xt G H) (hd : Datum.depth α ≤ 60) (hm : x ∈ xs) (q : ∀ j : Nat, xs[j]? = some x → Q (.int j) H) : rIndexT K w [v] H Q := by
  obtain ⟨a, ws, rfl, h1, h2⟩ := k
  refine ⟨α, _, _, v, xs, x, rfl, rp_lst h1 (h2.ext e'), h.ext e, hm, hd, q _ ?_⟩
  have hl := List.idxOf_lt_length_of_mem hm
  rw [List.getElem?_eq_getElem hl, List.getElem_idxOf hl]
end
theorem blkOk_r {N : List Str} {sc scope : Scope} {own : List (Str × Nat)} (h : blkC N sc scope own = true) : BlkOk N sc scope own := blkOk_by h
end Rn

/-! k58, k59, k60: the week's functions as lists, plain. -/
namespace Rn
def FARI : Int := 10000000000000000000000000000000000000000
/-- the first table: 0 on the diagonal -/
def tab0 (n : Nat) : List (List Int) := (rng 0 n).map fun one => (rng 0 n).map fun other => if one = other then 0 else FARI
def newest (n : Nat) (p w : Int) (rows : List (List Int)) : List Int := (rng 0 n).map fun o => min (iat (rows.getD 0 []) o + w) (iat (rows.getD (n - 1) []) o + p)
def tabS (n : Nat) (p w : Int) (rows : List (List Int)) : List (List Int) := newest n p w rows :: rows.take (n - 1)
def weekTab (run : List Int) (rest : Int) (p : Int) : List (List Int) := run.foldl (fun rows w => tabS (rest.toNat + 1) p w rows) (tab0 (rest.toNat + 1))
def ledRow (row mosts : List Int) : Int := lmin ((rng 0 mosts.length).map fun o => iat row o + iat mosts o)
def led (table : List (List Int)) (mosts : List Int) : List Int := table.map fun row => ledRow row mosts
def joinT (later earlier : List (List Int)) : List (List Int) := later.map fun row => (rng 0 later.length).map fun o => lmin ((rng 0 later.length).map fun k => iat row k + iat (earlier.getD k.toNat []) o)
/-! sizes -/
def Sq (n : Nat) (rows : List (List Int)) : Prop := rows.length = n ∧ ∀ row ∈ rows, row.length = n
theorem tab0_sq (n : Nat) : Sq n (tab0 n) := by
  refine ⟨by simp [tab0, rng_length], fun row h => ?_⟩
  unfold tab0 at h
  obtain ⟨o, _, rfl⟩ := List.mem_map.mp h
  simp [rng_length]
theorem tabS_sq {n : Nat} {p w : Int} {rows : List (List Int)} (hn : 0 < n) (h : Sq n rows) : Sq n (tabS n p w rows) := by
  refine ⟨by simp [tabS, h.1]; omega, fun row hr => ?_⟩
  unfold tabS at hr
  rcases List.mem_cons.mp hr with e | e
  · subst e; simp [newest, rng_length]
  · exact h.2 _ (List.mem_of_mem_take e)
theorem weekTab_sq {run : List Int} {rest p : Int} : Sq (rest.toNat + 1) (weekTab run rest p) := by
  unfold weekTab
  generalize hr : tab0 (rest.toNat + 1) = rows
  have h : Sq (rest.toNat + 1) rows := hr ▸ tab0_sq _
  clear hr
  induction run generalizing rows with
  | nil => exact h
  | cons w ws ih => exact ih _ (tabS_sq (Nat.succ_pos _) h)
theorem getD_el {γ : Type} {xs : List γ} {i : Nat} (h : i < xs.length) (d : γ) : xs.getD i d = xs[i] := by simp [List.getD, h]
theorem foldl_take {γ δ : Type} (f : γ → δ → γ) (z : γ) {xs : List δ} {i : Nat} (h : i < xs.length) : (xs.take (i + 1)).foldl f z = f ((xs.take i).foldl f z) xs[i] := by
  rw [List.take_add_one, List.getElem?_eq_getElem h, List.foldl_append]
  rfl
open PySem PySem.Spec PyProof.Rows L2
open PySem.W (Datum Tup)
/-! objects -/
def IsWants (K : PySem.W.Frag) (F : Hp) (v : V) (ns : List Int) : Prop := ∃ a dx t, v = .ref a ∧ F a = some (.ins (He.ga K "Wants") dx [("numbers", t)]) ∧ Rp K F t (Tup.mk ns)
theorem IsWants.ext {K : PySem.W.Frag} {F G : Hp} {v : V} {ns : List Int} (h : IsWants K F v ns) (e : Xt F G) : IsWants K G v ns := by
  obtain ⟨a, dx, t, h1, h2, h3⟩ := h
  exact ⟨a, dx, t, h1, e _ _ h2, h3.ext e⟩
def IsWeek (K : PySem.W.Frag) (F : Hp) (v : V) (run : List Int) (rest : Int) : Prop := ∃ a dx r, v = .ref a ∧ F a = some (.ins (He.ga K "Week") dx [("run", r), ("rest", .int rest)]) ∧ IsWants K F r run
theorem IsWeek.ext {K : PySem.W.Frag} {F G : Hp} {v : V} {run : List Int} {rest : Int} (h : IsWeek K F v run rest) (e : Xt F G) : IsWeek K G v run rest := by
  obtain ⟨a, dx, t, h1, h2, h3⟩ := h
  exact ⟨a, dx, t, h1, e _ _ h2, h3.ext e⟩
def sp_wlen (K : PySem.W.Frag) : Sp := fun vs H Q _ => ∃ (F : Hp) (v : V) (ns : List Int), vs = [v] ∧ Xt F H ∧ IsWants K F v ns ∧ Q (.int ns.length) H
theorem q_wlen {K : PySem.W.Frag} {F H : Hp} {v : V} {ns : List Int} {Q : VK} (h : IsWants K F v ns) (e : Xt F H) (hl : ns.length ≤ 1000) (k : Q (.int ns.length) H) : rLenO (He.ga K "Wants") (sp_wlen K) [v] H Q := by
  have h0 := h
  obtain ⟨a, dx, t, rfl, h2, h3⟩ := h
  exact ⟨a, dx, _, rfl, e _ _ h2, F, _, ns, rfl, e, h0, _, rfl, by omega, by omega, k⟩
end Rn

/-! the plain law of k58: (min, +) tables, first choice, rounds. -/
namespace Rn

/-! ### least items -/
theorem lmin_le_map {γ : Type} {f : γ → Int} {l : List γ} {z : γ} (h : z ∈ l) : lmin (l.map f) ≤ f z := lmin_le (List.mem_map.mpr ⟨z, h, rfl⟩)
theorem lmin_ex {γ : Type} {f : γ → Int} {l : List γ} (h : l ≠ []) : ∃ z ∈ l, lmin (l.map f) = f z := by
  have q := lmin_mem (xs := l.map f) (by simpa using h)
  obtain ⟨z, hz, e⟩ := List.mem_map.mp q
  exact ⟨z, hz, e.symm⟩
theorem rng_ne {n : Nat} (h : 0 < n) : rng 0 n ≠ [] := by
  intro e
  have q := congrArg List.length e
  rw [rng_length] at q
  simp at q
  omega
theorem iat_map_rng {f : Int → Int} {n : Nat} {o : Int} (h : o ∈ rng 0 n) : iat ((rng 0 n).map f) o = f o := by
  obtain ⟨h1, h2⟩ := rng_mem.mp h
  have hl : o.toNat < ((rng 0 n).map f).length := by rw [List.length_map, rng_length]; omega
  unfold iat
  rw [getD_el hl, List.getElem_map]
  congr 1
  have q := rng_at (lo := 0) (n := n) (i := o.toNat) (by omega)
  obtain ⟨_, q⟩ := List.getElem?_eq_some_iff.mp q
  rw [q]
  omega
theorem iat_map {γ : Type} {f : γ → Int} {l : List γ} {o : Int} (d : γ) (h0 : 0 ≤ o) (h1 : o.toNat < l.length) : iat (l.map f) o = f (l.getD o.toNat d) := by
  unfold iat
  rw [getD_el (by rw [List.length_map]; exact h1), List.getElem_map, getD_el h1]
theorem led_length (t : List (List Int)) (x : List Int) : (led t x).length = t.length := by simp [led]
theorem joinT_sq {n : Nat} {a b : List (List Int)} (h : Sq n a) : Sq n (joinT a b) := by
  refine ⟨by simp [joinT, h.1], fun row hr => ?_⟩
  unfold joinT at hr
  obtain ⟨r, _, rfl⟩ := List.mem_map.mp hr
  rw [List.length_map, rng_length, h.1]

/-! ### led over a joined table -/
theorem led_join {n : Nat} {a b : List (List Int)} {x : List Int} (hn : 0 < n) (ha : Sq n a) (hb : Sq n b) (hx : x.length = n) : led (joinT a b) x = led a (led b x) := by
  unfold led joinT
  rw [List.map_map]
  apply List.map_congr_left
  intro row hrow
  have hr := ha.2 row hrow
  show ledRow ((rng 0 a.length).map fun o => lmin ((rng 0 a.length).map fun k => iat row k + iat (b.getD k.toNat []) o)) x = ledRow row (b.map fun row => ledRow row x)
  rw [ha.1]
  unfold ledRow
  rw [hx, List.length_map, hb.1]
  have hne := rng_ne hn
  obtain ⟨o, ho, e1⟩ := lmin_ex (f := fun o => iat ((rng 0 n).map fun o => lmin ((rng 0 n).map fun k => iat row k + iat (b.getD k.toNat []) o)) o + iat x o) hne
  obtain ⟨k, hk, e2⟩ := lmin_ex (f := fun k => iat row k + iat (b.map fun row => lmin ((rng 0 x.length).map fun o => iat row o + iat x o)) k) hne
  have bk : ∀ k, k ∈ rng 0 n → iat (b.map fun row => lmin ((rng 0 x.length).map fun o => iat row o + iat x o)) k = lmin ((rng 0 n).map fun o => iat (b.getD k.toNat []) o + iat x o) := fun k hk => by
    obtain ⟨h1, h2⟩ := rng_mem.mp hk
    rw [iat_map [] h1 (by rw [hb.1]; omega), hx]
  rw [hx] at e2 bk
  refine Int.le_antisymm ?_ ?_
  · rw [e2, bk k hk]
    obtain ⟨o', ho', e3⟩ := lmin_ex (f := fun o => iat (b.getD k.toNat []) o + iat x o) hne
    rw [e3]
    have q1 := lmin_le_map (f := fun o => iat ((rng 0 n).map fun o => lmin ((rng 0 n).map fun k => iat row k + iat (b.getD k.toNat []) o)) o + iat x o) ho'
    rw [iat_map_rng ho'] at q1
    have q2 := lmin_le_map (f := fun k => iat row k + iat (b.getD k.toNat []) o') hk
    omega
  · rw [e1, iat_map_rng ho]
    obtain ⟨k', hk', e3⟩ := lmin_ex (f := fun k => iat row k + iat (b.getD k.toNat []) o) hne
    rw [e3]
    have q1 := lmin_le_map (f := fun k => iat row k + iat (b.map fun row => lmin ((rng 0 n).map fun o => iat row o + iat x o)) k) hk'
    rw [bk k' hk'] at q1
    have q2 := lmin_le_map (f := fun o => iat (b.getD k'.toNat []) o + iat x o) ho
    omega

/-! ### so many times -/
def itN {γ : Type} (f : γ → γ) : Nat → γ → γ
  | 0, x => x
  | n + 1, x => itN f n (f x)
theorem itN_add {γ : Type} (f : γ → γ) : ∀ (a b : Nat) (x : γ), itN f (a + b) x = itN f a (itN f b x)
  | a, 0, x => rfl
  | a, b + 1, x => by
    show itN f (a + b) (f x) = itN f a (itN f b (f x))
    exact itN_add f a b (f x)
theorem itN_succ {γ : Type} (f : γ → γ) (n : Nat) (x : γ) : itN f (n + 1) x = f (itN f n x) := by
  rw [Nat.add_comm]
  exact itN_add f 1 n x
theorem itN_led_length {t : List (List Int)} {n : Nat} (ht : t.length = n) {x : List Int} (hx : x.length = n) : ∀ k, (itN (led t) k x).length = n
  | 0 => hx
  | k + 1 => by rw [itN_succ, led_length, ht]

/-! ### a week -/
/-- one night on the sums of so many nights back -/
def stepV (n : Nat) (p w : Int) (v : List Int) : List Int := min (iat v 0 + w) (iat v (n - 1 : Nat) + p) :: v.take (n - 1)
theorem led_tabS {n : Nat} {p w : Int} {rows : List (List Int)} {x : List Int} (hn : 0 < n) (h : Sq n rows) (hx : x.length = n) : led (tabS n p w rows) x = stepV n p w (led rows x) := by
  unfold tabS stepV
  show ledRow (newest n p w rows) x :: (rows.take (n - 1)).map (fun row => ledRow row x) = _
  congr 1
  · have hne := rng_ne hn
    have a0 : iat (led rows x) 0 = ledRow (rows.getD 0 []) x := iat_map [] (Int.le_refl _) (by rw [h.1]; exact hn)
    have a1 : iat (led rows x) (n - 1 : Nat) = ledRow (rows.getD (n - 1) []) x := by
      have := iat_map (f := fun row => ledRow row x) (l := rows) (o := ((n - 1 : Nat) : Int)) [] (by omega) (by rw [h.1]; omega)
      rw [Int.toNat_natCast] at this
      exact this
    rw [a0, a1]
    unfold ledRow newest
    rw [hx]
    obtain ⟨o, ho, e⟩ := lmin_ex (f := fun o => iat ((rng 0 n).map fun o => min (iat (rows.getD 0 []) o + w) (iat (rows.getD (n - 1) []) o + p)) o + iat x o) hne
    obtain ⟨o1, ho1, e1⟩ := lmin_ex (f := fun o => iat (rows.getD 0 []) o + iat x o) hne
    obtain ⟨o2, ho2, e2⟩ := lmin_ex (f := fun o => iat (rows.getD (n - 1) []) o + iat x o) hne
    have q1 := lmin_le_map (f := fun o => iat ((rng 0 n).map fun o => min (iat (rows.getD 0 []) o + w) (iat (rows.getD (n - 1) []) o + p)) o + iat x o) ho1
    have q2 := lmin_le_map (f := fun o => iat ((rng 0 n).map fun o => min (iat (rows.getD 0 []) o + w) (iat (rows.getD (n - 1) []) o + p)) o + iat x o) ho2
    have q3 := lmin_le_map (f := fun o => iat (rows.getD 0 []) o + iat x o) ho
    have q4 := lmin_le_map (f := fun o => iat (rows.getD (n - 1) []) o + iat x o) ho
    rw [iat_map_rng ho1] at q1
    rw [iat_map_rng ho2] at q2
    rw [iat_map_rng ho] at e
    rw [e] at q1 q2 ⊢
    rw [e1] at q3 ⊢
    rw [e2] at q4 ⊢
    omega
  · unfold led
    rw [List.map_take]
/-- no item is far above another -/
def Near (x : List Int) : Prop := ∀ a ∈ x, ∀ b ∈ x, a ≤ FARI + b
theorem mem_iat {x : List Int} {o : Int} (h : o ∈ rng 0 x.length) : iat x o ∈ x := by
  obtain ⟨h1, h2⟩ := rng_mem.mp h
  unfold iat
  rw [getD_el (by omega)]
  exact List.getElem_mem _
theorem led_tab0 {n : Nat} {x : List Int} (hx : x.length = n) (hN : Near x) : led (tab0 n) x = x := by
  apply List.ext_getElem
  · rw [led_length, (tab0_sq n).1, hx]
  · intro i h1 h2
    have hi : i < n := by omega
    have hi' : (i : Int) ∈ rng 0 n := rng_mem.mpr (by omega)
    have e0 : (led (tab0 n) x)[i] = ledRow ((rng 0 n).map fun other => if (i : Int) = other then 0 else FARI) x := by
      apply Option.some.inj
      rw [← List.getElem?_eq_getElem h1]
      unfold led tab0
      rw [List.getElem?_map, List.getElem?_map, rng_at hi]
      simp
    rw [e0]
    unfold ledRow
    rw [hx]
    have xi : iat x (i : Int) = x[i] := by
      unfold iat
      rw [Int.toNat_natCast, getD_el h2]
    obtain ⟨o, ho, e⟩ := lmin_ex (f := fun o => iat ((rng 0 n).map fun other => if (i : Int) = other then 0 else FARI) o + iat x o) (rng_ne (n := n) (by omega))
    have q := lmin_le_map (f := fun o => iat ((rng 0 n).map fun other => if (i : Int) = other then 0 else FARI) o + iat x o) hi'
    rw [iat_map_rng hi', if_pos rfl, xi] at q
    rw [e, iat_map_rng ho] at q ⊢
    by_cases c : (i : Int) = o
    · subst c
      rw [if_pos rfl, xi]
      omega
    · rw [if_neg c] at q ⊢
      have z := hN _ (List.getElem_mem h2) _ (mem_iat (x := x) (o := o) (by rw [hx]; exact ho))
      omega
theorem led_week {run : List Int} {rest p : Int} {x : List Int} (hx : x.length = rest.toNat + 1) (hN : Near x) : led (weekTab run rest p) x = run.foldl (fun v w => stepV (rest.toNat + 1) p w v) x := by
  have go : ∀ (run : List Int) (rows : List (List Int)), Sq (rest.toNat + 1) rows → led (run.foldl (fun rows w => tabS (rest.toNat + 1) p w rows) rows) x = run.foldl (fun v w => stepV (rest.toNat + 1) p w v) (led rows x) := by
    intro run
    induction run with
    | nil => intro rows _; rfl
    | cons w ws ih =>
      intro rows h
      rw [List.foldl_cons, List.foldl_cons, ih _ (tabS_sq (Nat.succ_pos _) h), led_tabS (Nat.succ_pos _) h hx]
  unfold weekTab
  rw [go run _ (tab0_sq _), led_tab0 hx hN]
end Rn

namespace Rn

/-! ### first choice -/
def fcStep (p : Int) (s : Int × List Int) (w : Int) : Int × List Int := (s.1 + min w (p - s.2.sum), (s.2 ++ [min w (p - s.2.sum)]).drop 1)
def fcWeek (run recent : List Int) (p : Int) : Int × List Int := run.foldl (fcStep p) (0, recent)
def fcAt (run : List Int) (gap : Nat) (p : Int) : Nat → Int × List Int
  | 0 => (0, List.replicate gap 0)
  | k + 1 => ((fcAt run gap p k).1 + (fcWeek run (fcAt run gap p k).2 p).1, (fcWeek run (fcAt run gap p k).2 p).2)
/-- what a state is -/
structure Okc (p m : Int) (gap : Nat) (c : List Int) : Prop where
  len : c.length = gap
  bnd : ∀ r ∈ c, 0 ≤ r ∧ r ≤ m
  sum : c.sum ≤ p
theorem sum_nonneg : ∀ {c : List Int}, (∀ r ∈ c, 0 ≤ r) → 0 ≤ c.sum
  | [], _ => Int.le_refl _
  | r :: c, h => by
    rw [List.sum_cons]
    have h1 := h r (by simp)
    have h2 := sum_nonneg (c := c) fun x hx => h x (by simp [hx])
    omega
theorem fcStep_ok {p m w : Int} {gap : Nat} {s : Int × List Int} (hm : 0 ≤ m) (hw : 0 ≤ w ∧ w ≤ m) (h : Okc p m gap s.2) : Okc p m gap (fcStep p s w).2 ∧ s.1 ≤ (fcStep p s w).1 := by
  obtain ⟨k, c⟩ := s
  obtain ⟨hl, hb, hs⟩ := h
  have m0 : 0 ≤ min w (p - c.sum) := by have : c.sum ≤ p := hs; omega
  have m1 : min w (p - c.sum) ≤ m := by omega
  refine ⟨⟨?_, ?_, ?_⟩, ?_⟩
  · show ((c ++ [min w (p - c.sum)]).drop 1).length = gap
    rw [List.length_drop, List.length_append, List.length_singleton]
    have : c.length = gap := hl
    omega
  · intro r hr
    have hr' : r ∈ c ++ [min w (p - c.sum)] := List.mem_of_mem_drop hr
    rcases List.mem_append.mp hr' with e | e
    · exact hb r e
    · rw [List.mem_singleton.mp e]; exact ⟨m0, m1⟩
  · show ((c ++ [min w (p - c.sum)]).drop 1).sum ≤ p
    cases c with
    | nil => show (([] : List Int)).sum ≤ p; exact hs
    | cons r c =>
      show (c ++ [min w (p - (r :: c).sum)]).sum ≤ p
      rw [List.sum_append, List.sum_cons]
      have h0 := (hb r (by simp)).1
      simp only [List.sum_cons, List.sum_nil]
      omega
  · show k ≤ k + min w (p - c.sum)
    omega
theorem fcFold_ok {p m : Int} {gap : Nat} (hm : 0 ≤ m) : ∀ {run : List Int} {s : Int × List Int}, (∀ w ∈ run, 0 ≤ w ∧ w ≤ m) → Okc p m gap s.2 → Okc p m gap (run.foldl (fcStep p) s).2 ∧ s.1 ≤ (run.foldl (fcStep p) s).1
  | [], s, _, h => ⟨h, Int.le_refl _⟩
  | w :: run, s, hr, h => by
    obtain ⟨h1, h2⟩ := fcStep_ok hm (hr w (by simp)) h
    obtain ⟨h3, h4⟩ := fcFold_ok (run := run) (s := fcStep p s w) hm (fun x hx => hr x (by simp [hx])) h1
    exact ⟨h3, Int.le_trans h2 h4⟩
theorem okc_zero {p m : Int} {gap : Nat} (hp : 0 ≤ p) (hm : 0 ≤ m) : Okc p m gap (List.replicate gap 0) := by
  refine ⟨by simp, fun r hr => ?_, ?_⟩
  · rw [List.eq_of_mem_replicate hr]; exact ⟨Int.le_refl _, hm⟩
  · have : ∀ n : Nat, (List.replicate n (0 : Int)).sum = 0 := fun n => by
      induction n with
      | zero => rfl
      | succ n ih => rw [List.replicate_succ, List.sum_cons, ih]; rfl
    rw [this]; exact hp
theorem fcAt_ok {run : List Int} {gap : Nat} {p m : Int} (hp : 0 ≤ p) (hm : 0 ≤ m) (hr : ∀ w ∈ run, 0 ≤ w ∧ w ≤ m) : ∀ k, Okc p m gap (fcAt run gap p k).2
  | 0 => okc_zero hp hm
  | k + 1 => (fcFold_ok (s := (0, (fcAt run gap p k).2)) hm hr (fcAt_ok hp hm hr k)).1
theorem fcAt_mono {run : List Int} {gap : Nat} {p m : Int} (hp : 0 ≤ p) (hm : 0 ≤ m) (hr : ∀ w ∈ run, 0 ≤ w ∧ w ≤ m) (k : Nat) : ∀ j, (fcAt run gap p k).1 ≤ (fcAt run gap p (k + j)).1
  | 0 => Int.le_refl _
  | j + 1 => by
    have h1 := fcAt_mono (gap := gap) hp hm hr k j
    have h2 := (fcFold_ok (s := (0, (fcAt run gap p (k + j)).2)) hm hr (fcAt_ok hp hm hr (k + j))).2
    show (fcAt run gap p k).1 ≤ (fcAt run gap p (k + j)).1 + (fcWeek run (fcAt run gap p (k + j)).2 p).1
    have h3 : (0 : Int) ≤ (fcWeek run (fcAt run gap p (k + j)).2 p).1 := h2
    omega

/-! ### the sums back -/
def vecOf (S : Int) : List Int → List Int
  | [] => [S]
  | r :: rs => S :: vecOf (S - r) rs
theorem vec_length : ∀ (S : Int) (rev : List Int), (vecOf S rev).length = rev.length + 1
  | _, [] => rfl
  | S, r :: rs => by
    show (vecOf (S - r) rs).length + 1 = _
    rw [vec_length (S - r) rs]
    rfl
theorem vec_head (S : Int) (rev : List Int) : iat (vecOf S rev) 0 = S := by cases rev <;> rfl
theorem vec_last : ∀ (S : Int) (rev : List Int), (vecOf S rev).getD rev.length 0 = S - rev.sum
  | S, [] => by simp [vecOf]
  | S, r :: rs => by
    show (S :: vecOf (S - r) rs).getD (rs.length + 1) 0 = _
    rw [List.getD_cons_succ, vec_last (S - r) rs, List.sum_cons]
    omega
theorem vec_take : ∀ (S : Int) (rev : List Int), rev ≠ [] → (vecOf S rev).take rev.length = vecOf S rev.dropLast
  | S, [r], _ => rfl
  | S, r :: q :: rs, _ => by
    show (S :: vecOf (S - r) (q :: rs)).take ((q :: rs).length + 1) = vecOf S (r :: (q :: rs).dropLast)
    rw [List.take_succ_cons, vec_take (S - r) (q :: rs) (by simp)]
    rfl
theorem step_vec (p w S : Int) (rev : List Int) : stepV (rev.length + 1) p w (vecOf S rev) = vecOf (S + min w (p - rev.sum)) ((min w (p - rev.sum) :: rev).dropLast) := by
  unfold stepV
  rw [vec_head]
  have e : iat (vecOf S rev) ((rev.length + 1 - 1 : Nat) : Int) = S - rev.sum := by
    show (vecOf S rev).getD (((rev.length + 1 - 1 : Nat) : Int)).toNat 0 = _
    rw [Int.toNat_natCast, Nat.add_sub_cancel, vec_last]
  rw [e, Nat.add_sub_cancel]
  have hm : min (S + w) (S - rev.sum + p) = S + min w (p - rev.sum) := by omega
  rw [hm]
  cases rev with
  | nil => rfl
  | cons r rs =>
    rw [vec_take S (r :: rs) (by simp)]
    show _ = vecOf (S + min w (p - (r :: rs).sum)) (min w (p - (r :: rs).sum) :: (r :: rs).dropLast)
    show _ = (S + min w (p - (r :: rs).sum)) :: vecOf (S + min w (p - (r :: rs).sum) - min w (p - (r :: rs).sum)) (r :: rs).dropLast
    rw [show S + min w (p - (r :: rs).sum) - min w (p - (r :: rs).sum) = S by omega]
theorem sum_reverse (c : List Int) : c.reverse.sum = c.sum := by
  induction c with
  | nil => rfl
  | cons r c ih =>
    rw [List.reverse_cons, List.sum_append, ih, List.sum_cons]
    simp only [List.sum_cons, List.sum_nil]
    omega
theorem fold_vec (p B : Int) : ∀ (run : List Int) (k : Int) (c : List Int), run.foldl (fun v w => stepV (c.length + 1) p w v) (vecOf (B + k) c.reverse) = vecOf (B + (run.foldl (fcStep p) (k, c)).1) (run.foldl (fcStep p) (k, c)).2.reverse
  | [], k, c => rfl
  | w :: run, k, c => by
    rw [List.foldl_cons, List.foldl_cons]
    have h1 := step_vec p w (B + k) c.reverse
    rw [List.length_reverse, sum_reverse] at h1
    rw [h1]
    have h2 : ((c ++ [min w (p - c.sum)]).drop 1).length = c.length := by
      rw [List.length_drop, List.length_append, List.length_singleton]
      omega
    have h3 : ((c ++ [min w (p - c.sum)]).drop 1).reverse = (min w (p - c.sum) :: c.reverse).dropLast := by
      rw [List.drop_one, ← List.dropLast_reverse, List.reverse_append]
      rfl
    have h4 := fold_vec p B run (k + min w (p - c.sum)) ((c ++ [min w (p - c.sum)]).drop 1)
    rw [h2, h3] at h4
    rw [Int.add_assoc]
    exact h4
theorem mem_vec : ∀ {S : Int} {rev : List Int} {a : Int}, (∀ r ∈ rev, 0 ≤ r) → a ∈ vecOf S rev → S - rev.sum ≤ a ∧ a ≤ S
  | S, [], a, _, h => by
    simp [vecOf] at h
    subst h
    simp
  | S, r :: rs, a, hr, h => by
    have h0 := hr r (by simp)
    have hs := sum_nonneg (c := rs) fun x hx => hr x (by simp [hx])
    rw [List.sum_cons]
    rcases List.mem_cons.mp (show a ∈ S :: vecOf (S - r) rs from h) with e | e
    · subst e; omega
    · have := mem_vec (fun x hx => hr x (by simp [hx])) e
      omega
theorem near_vec {S p : Int} {rev : List Int} (hr : ∀ r ∈ rev, 0 ≤ r) (hs : rev.sum ≤ p) (hp : p ≤ FARI) : Near (vecOf S rev) := fun a ha b hb => by
  have h1 := mem_vec hr ha
  have h2 := mem_vec hr hb
  omega
/-- the tables tell first choice -/
theorem tables_at {run : List Int} {rest p m : Int} (h0 : 0 ≤ rest) (hp : 0 ≤ p) (hp1 : p ≤ FARI) (hm : 0 ≤ m) (hr : ∀ w ∈ run, 0 ≤ w ∧ w ≤ m) :
    ∀ k, itN (led (weekTab run rest p)) k (List.replicate (rest.toNat + 1) 0) = vecOf (fcAt run rest.toNat p k).1 (fcAt run rest.toNat p k).2.reverse
  | 0 => by
    show List.replicate (rest.toNat + 1) 0 = vecOf 0 (List.replicate rest.toNat 0).reverse
    have : ∀ n : Nat, List.replicate (n + 1) (0 : Int) = vecOf 0 (List.replicate n 0) := fun n => by
      induction n with
      | zero => rfl
      | succ n ih =>
        show (0 : Int) :: List.replicate (n + 1) 0 = 0 :: vecOf (0 - 0) (List.replicate n 0)
        rw [ih]
        rfl
    rw [List.reverse_replicate]
    exact this _
  | k + 1 => by
    have ok := fcAt_ok (gap := rest.toNat) hp hm hr k
    rw [itN_succ, tables_at h0 hp hp1 hm hr k]
    have hl : (vecOf (fcAt run rest.toNat p k).1 (fcAt run rest.toNat p k).2.reverse).length = rest.toNat + 1 := by rw [vec_length, List.length_reverse, ok.len]
    rw [led_week hl (near_vec (p := p) (fun r hr => (ok.bnd r (List.mem_reverse.mp hr)).1) (by rw [sum_reverse]; exact ok.sum) hp1)]
    have := fold_vec p (fcAt run rest.toNat p k).1 run 0 (fcAt run rest.toNat p k).2
    rw [ok.len, Int.add_zero] at this
    rw [this]
    rfl

/-! ### rounds -/
theorem fc_again {run : List Int} {gap : Nat} {p : Int} {f t : Nat} (h : (fcAt run gap p t).2 = (fcAt run gap p f).2) : ∀ k, (fcAt run gap p (t + k)).2 = (fcAt run gap p (f + k)).2 ∧ (fcAt run gap p (t + k)).1 = (fcAt run gap p (f + k)).1 + ((fcAt run gap p t).1 - (fcAt run gap p f).1)
  | 0 => ⟨h, by show (fcAt run gap p t).1 = (fcAt run gap p f).1 + _; omega⟩
  | k + 1 => by
    obtain ⟨h1, h2⟩ := fc_again h k
    refine ⟨?_, ?_⟩
    · show (fcWeek run (fcAt run gap p (t + k)).2 p).2 = (fcWeek run (fcAt run gap p (f + k)).2 p).2
      rw [h1]
    · show (fcAt run gap p (t + k)).1 + (fcWeek run (fcAt run gap p (t + k)).2 p).1 = (fcAt run gap p (f + k)).1 + (fcWeek run (fcAt run gap p (f + k)).2 p).1 + _
      rw [h1, h2]
      omega
theorem fc_many {run : List Int} {gap : Nat} {p : Int} {f t : Nat} (hft : f ≤ t) (h : (fcAt run gap p t).2 = (fcAt run gap p f).2) (r : Nat) : ∀ q : Nat, (fcAt run gap p (f + r + q * (t - f))).1 = (fcAt run gap p (f + r)).1 + q * ((fcAt run gap p t).1 - (fcAt run gap p f).1)
  | 0 => by simp
  | q + 1 => by
    have e : f + r + (q + 1) * (t - f) = t + (r + q * (t - f)) := by rw [Nat.succ_mul]; omega
    rw [e, (fc_again h _).2, ← Nat.add_assoc, fc_many hft h r q]
    rw [Int.natCast_succ, Int.add_mul]
    omega
/-- _law_kept -/
def lawKept (f : Nat) (sums : List Int) (weeks : Int) : Int :=
  if weeks < sums.length then iat sums weeks
  else iat sums (f + (weeks - f) % ((sums.length : Int) - 1 - f)) + (weeks - f) / ((sums.length : Int) - 1 - f) * (iat sums ((sums.length : Int) - 1) - iat sums f)
def Rounds (run : List Int) (gap : Nat) (p : Int) (f : Nat) (sums : List Int) : Prop := ∃ t, f < t ∧ t ≤ 700 ∧ sums = (List.range (t + 1)).map (fun k => (fcAt run gap p k).1) ∧ (fcAt run gap p t).2 = (fcAt run gap p f).2
theorem iat_range {g : Nat → Int} {n : Nat} {i : Int} (h0 : 0 ≤ i) (h1 : i.toNat < n) : iat ((List.range n).map g) i = g i.toNat := by
  unfold iat
  rw [getD_el (by simpa using h1), List.getElem_map, List.getElem_range]
theorem lawKept_eq {run : List Int} {gap : Nat} {p : Int} {f : Nat} {sums : List Int} {weeks : Int} (h : Rounds run gap p f sums) (hw : 0 ≤ weeks) : lawKept f sums weeks = (fcAt run gap p weeks.toNat).1 := by
  obtain ⟨t, hft, _, rfl, e⟩ := h
  unfold lawKept
  rw [List.length_map, List.length_range]
  split
  · rename_i hlt
    rw [iat_range hw (by omega)]
  · rename_i hge
    have hL : ((t + 1 : Nat) : Int) - 1 - f = ((t - f : Nat) : Int) := by omega
    rw [hL]
    have hpos : (0 : Int) < ((t - f : Nat) : Int) := by omega
    obtain ⟨b, hb⟩ : ∃ b : Nat, weeks - f = b := ⟨(weeks - f).toNat, by omega⟩
    rw [hb]
    have hm1 := Int.emod_nonneg (b : Int) (Int.ne_of_gt hpos)
    have hm2 := Int.emod_lt_of_pos (b : Int) hpos
    rw [iat_range (by omega) (by omega), iat_range (by omega) (by omega), iat_range (by omega) (by omega)]
    have q := fc_many (p := p) (run := run) (gap := gap) (Nat.le_of_lt hft) e (b % (t - f)) (b / (t - f))
    have e1 : f + b % (t - f) + b / (t - f) * (t - f) = weeks.toNat := by
      have := Nat.mod_add_div b (t - f)
      rw [Nat.mul_comm] at this
      omega
    rw [e1] at q
    rw [q]
    have e2 : ((f : Int) + (b : Int) % ((t - f : Nat) : Int)).toNat = f + b % (t - f) := by omega
    rw [e2]
    have e3 : (((t + 1 : Nat) : Int) - 1).toNat = t := by omega
    have e4 : (f : Int).toNat = f := by omega
    rw [e3, e4]
    rfl

/-! ### so many states -/
theorem nodup_lt : ∀ (B : Nat) (l : List Nat), l.Nodup → (∀ x ∈ l, x < B) → l.length ≤ B
  | 0, [], _, _ => Nat.le_refl _
  | 0, x :: _, _, h => absurd (h x (by simp)) (by omega)
  | B + 1, l, nd, h => by
    have h1 : (l.erase B).Nodup := nd.erase B
    have h2 : ∀ x ∈ l.erase B, x < B := fun x hx => by
      have a := h x (List.mem_of_mem_erase hx)
      have b : x ≠ B := fun e => by
        subst e
        exact (List.Nodup.mem_erase_iff nd).mp hx |>.1 rfl
      omega
    have h3 := nodup_lt B (l.erase B) h1 h2
    have h4 := List.length_erase (a := B) (l := l)
    split at h4 <;> omega
def code (B : Nat) : List Int → Nat
  | [] => 0
  | r :: c => r.toNat + B * code B c
theorem code_lt {B : Nat} : ∀ {c : List Int}, (∀ r ∈ c, 0 ≤ r ∧ r.toNat < B) → code B c < B ^ c.length
  | [], _ => by simp [code]
  | r :: c, h => by
    have h1 := (h r (by simp)).2
    have h2 := code_lt (B := B) (c := c) fun x hx => h x (by simp [hx])
    rw [List.length_cons, Nat.pow_succ, code]
    have h3 : B * code B c + B ≤ B * B ^ c.length := by
      rw [← Nat.mul_succ]
      exact Nat.mul_le_mul_left _ h2
    rw [Nat.mul_comm (B ^ c.length)]
    omega
theorem code_inj {B : Nat} : ∀ {c d : List Int}, c.length = d.length → (∀ r ∈ c, 0 ≤ r ∧ r.toNat < B) → (∀ r ∈ d, 0 ≤ r ∧ r.toNat < B) → code B c = code B d → c = d
  | [], [], _, _, _, _ => rfl
  | [], _ :: _, h, _, _, _ => by simp at h
  | _ :: _, [], h, _, _, _ => by simp at h
  | r :: c, q :: d, hl, hc, hd, e => by
    have h1 := hc r (by simp)
    have h2 := hd q (by simp)
    rw [code, code] at e
    have e1 : r.toNat = q.toNat := by
      have a : (r.toNat + B * code B c) % B = r.toNat := by rw [Nat.add_mul_mod_self_left, Nat.mod_eq_of_lt h1.2]
      have b : (q.toNat + B * code B d) % B = q.toNat := by rw [Nat.add_mul_mod_self_left, Nat.mod_eq_of_lt h2.2]
      rw [← a, ← b, e]
    have e2 : code B c = code B d := by
      have : B * code B c = B * code B d := by omega
      exact Nat.eq_of_mul_eq_mul_left (by omega) this
    have e3 := code_inj (by simpa using hl) (fun x hx => hc x (by simp [hx])) (fun x hx => hd x (by simp [hx])) e2
    rw [e3, show r = q by omega]
/-- different states are few -/
theorem few_states {p m : Int} {gap : Nat} {l : List (List Int)} (hm : 0 ≤ m) (nd : l.Nodup) (h : ∀ c ∈ l, Okc p m gap c) : l.length ≤ (m.toNat + 1) ^ gap := by
  have hb : ∀ c ∈ l, ∀ r ∈ c, 0 ≤ r ∧ r.toNat < m.toNat + 1 := fun c hc r hr => by
    have := (h c hc).bnd r hr
    omega
  have h1 := nodup_lt ((m.toNat + 1) ^ gap) (l.map (code (m.toNat + 1))) (by
    rw [List.nodup_iff_pairwise_ne] at nd ⊢
    rw [List.pairwise_map]
    refine List.Pairwise.imp_of_mem ?_ nd
    intro c d hc hd ne e
    exact ne (code_inj (by rw [(h c hc).len, (h d hd).len]) (hb c hc) (hb d hd) e)) (fun x hx => by
    obtain ⟨c, hc, rfl⟩ := List.mem_map.mp hx
    have := code_lt (hb c hc)
    rw [(h c hc).len] at this
    exact this)
  rwa [List.length_map] at h1

/-! ### the whole is no more than the parts -/
def Below (n : Nat) (c : Int) (x y : List Int) : Prop := x.length = n ∧ y.length = n ∧ ∀ o ∈ rng 0 n, iat x o ≤ iat y o + c
theorem led_below {n : Nat} {c : Int} {t : List (List Int)} {x y : List Int} (hn : 0 < n) (ht : t.length = n) (h : Below n c x y) : Below n c (led t x) (led t y) := by
  obtain ⟨h1, h2, h3⟩ := h
  refine ⟨by rw [led_length, ht], by rw [led_length, ht], fun o ho => ?_⟩
  obtain ⟨o1, o2⟩ := rng_mem.mp ho
  have e : ∀ z, iat (led t z) o = ledRow (t.getD o.toNat []) z := fun z => iat_map [] o1 (by rw [ht]; omega)
  rw [e, e]
  unfold ledRow
  rw [h1, h2]
  obtain ⟨q, hq, eq⟩ := lmin_ex (f := fun k => iat (t.getD o.toNat []) k + iat y k) (rng_ne hn)
  have a := lmin_le_map (f := fun k => iat (t.getD o.toNat []) k + iat x k) hq
  have b := h3 q hq
  rw [eq]
  omega
theorem itN_below {n : Nat} {c : Int} {t : List (List Int)} (hn : 0 < n) (ht : t.length = n) : ∀ (k : Nat) {x y : List Int}, Below n c x y → Below n c (itN (led t) k x) (itN (led t) k y)
  | 0, _, _, h => h
  | k + 1, _, _, h => itN_below hn ht k (led_below hn ht h)
theorem fcAt_add {run : List Int} {rest p m : Int} (h0 : 0 ≤ rest) (hp : 0 ≤ p) (hp1 : p ≤ FARI) (hm : 0 ≤ m) (hr : ∀ w ∈ run, 0 ≤ w ∧ w ≤ m) (a b : Nat) :
    (fcAt run rest.toNat p (a + b)).1 ≤ (fcAt run rest.toNat p a).1 + (fcAt run rest.toNat p b).1 := by
  have hA := tables_at h0 hp hp1 hm hr a
  have hB := tables_at h0 hp hp1 hm hr b
  have hC := tables_at h0 hp hp1 hm hr (b + a)
  have ok := fcAt_ok (gap := rest.toNat) hp hm hr a
  rw [itN_add, hA] at hC
  have hl : (vecOf (fcAt run rest.toNat p a).1 (fcAt run rest.toNat p a).2.reverse).length = rest.toNat + 1 := by rw [vec_length, List.length_reverse, ok.len]
  have bl : Below (rest.toNat + 1) (fcAt run rest.toNat p a).1 (vecOf (fcAt run rest.toNat p a).1 (fcAt run rest.toNat p a).2.reverse) (List.replicate (rest.toNat + 1) 0) := by
    refine ⟨hl, by simp, fun o ho => ?_⟩
    have h1 := mem_vec (S := (fcAt run rest.toNat p a).1) (rev := (fcAt run rest.toNat p a).2.reverse) (fun r hr => (ok.bnd r (List.mem_reverse.mp hr)).1) (mem_iat (by rw [hl]; exact ho))
    obtain ⟨o1, o2⟩ := rng_mem.mp ho
    have e : iat (List.replicate (rest.toNat + 1) 0) o = 0 := by
      unfold iat
      rw [getD_el (by rw [List.length_replicate]; omega), List.getElem_replicate]
    rw [e]
    omega
  have q := (itN_below (Nat.succ_pos _) (weekTab_sq (run := run) (rest := rest) (p := p)).1 b bl).2.2 0 (rng_mem.mpr (by omega))
  rw [hC, hB, vec_head, vec_head] at q
  rw [Nat.add_comm a b]
  omega
theorem half_mul (l c : Nat) : l * c = l / 2 * (2 * c) + l % 2 * c := by
  have h := Nat.div_add_mod l 2
  calc l * c = (2 * (l / 2) + l % 2) * c := by rw [h]
    _ = l / 2 * (2 * c) + l % 2 * c := by rw [Nat.add_mul, Nat.mul_comm 2 (l / 2), Nat.mul_assoc]
theorem fcFold_len {p : Int} : ∀ {run : List Int} {s : Int × List Int}, (run.foldl (fcStep p) s).2.length = s.2.length
  | [], _ => rfl
  | w :: run, s => by
    rw [List.foldl_cons, fcFold_len (run := run)]
    show ((s.2 ++ [min w (p - s.2.sum)]).drop 1).length = _
    rw [List.length_drop, List.length_append, List.length_singleton]
    omega
theorem range_snoc {γ : Type} (g : Nat → γ) (i : Nat) : (List.range (i + 1)).map g = (List.range i).map g ++ [g i] := by
  rw [List.range_succ, List.map_append]
  rfl
theorem nodup_snoc {γ : Type} {l : List γ} {x : γ} (h : l.Nodup) (n : x ∉ l) : (l ++ [x]).Nodup := by
  rw [List.nodup_append]
  exact ⟨h, by simp, fun a ha b hb e => by
    rw [List.mem_singleton.mp hb] at e
    exact n (e ▸ ha)⟩
theorem fcFold_le {p m : Int} (hm : m ≤ 30) : ∀ {run : List Int} {s : Int × List Int}, (∀ w ∈ run, 0 ≤ w ∧ w ≤ m) → (run.foldl (fcStep p) s).1 ≤ s.1 + run.length * 30
  | [], s, _ => by simp
  | w :: run, s, hr => by
    have h1 := fcFold_le (p := p) (run := run) (s := fcStep p s w) hm fun x hx => hr x (by simp [hx])
    have h2 := (hr w (by simp)).2
    rw [List.foldl_cons, List.length_cons]
    have h3 : (fcStep p s w).1 ≤ s.1 + w := by
      show s.1 + min w (p - s.2.sum) ≤ s.1 + w
      omega
    omega
theorem fcAt_le {run : List Int} {gap : Nat} {p m : Int} (hm : m ≤ 30) (hl : run.length ≤ 14) (hr : ∀ w ∈ run, 0 ≤ w ∧ w ≤ m) : ∀ k : Nat, (fcAt run gap p k).1 ≤ 420 * k
  | 0 => by show (0 : Int) ≤ _; omega
  | k + 1 => by
    have h1 := fcAt_le (gap := gap) (p := p) hm hl hr k
    have h2 := fcFold_le (p := p) (s := (0, (fcAt run gap p k).2)) hm hr
    show (fcAt run gap p k).1 + (fcWeek run (fcAt run gap p k).2 p).1 ≤ _
    have h3 : (fcWeek run (fcAt run gap p k).2 p).1 ≤ 0 + run.length * 30 := h2
    omega
theorem rounds_facts {run : List Int} {gap : Nat} {p m : Int} {f : Nat} {sums : List Int} (h : Rounds run gap p f sums) (hp : 0 ≤ p) (hm0 : 0 ≤ m) (hm : m ≤ 30) (hl : run.length ≤ 14) (hr : ∀ w ∈ run, 0 ≤ w ∧ w ≤ m) :
    (f : Int) < (sums.length : Int) - 1 ∧ sums.length ≤ 701 ∧ ∀ x ∈ sums, 0 ≤ x ∧ x ≤ 2 ^ 60 := by
  obtain ⟨t, h1, h2, rfl, h3⟩ := h
  rw [List.length_map, List.length_range]
  refine ⟨by omega, by omega, fun x hx => ?_⟩
  obtain ⟨k, hk, rfl⟩ := List.mem_map.mp hx
  have hk' := List.mem_range.mp hk
  have a := fcAt_le (gap := gap) (p := p) hm hl hr k
  have b := fcAt_mono (gap := gap) hp hm0 hr 0 k
  rw [Nat.zero_add] at b
  have c : (fcAt run gap p 0).1 = 0 := rfl
  omega
end Rn

open PySem PySem.Spec PyProof.Rows L2 Rn
local macro_rules | `(tactic| walk_at "xt") => `(tactic| first
  | assumption
  | exact Xt.refl _
  | exact Gc.fh (by assumption)
  | (refine Xt.trans ?_ (Gr.fh (by assumption)); walk_at "xt")
  | (refine Xt.trans ?_ (Gc.fh (by assumption)); walk_at "xt")
  | (refine Xt.trans ?_ (Gr.ff (by assumption)); walk_at "xt"))
local macro_rules | `(tactic| walk_at "no") => `(tactic| first
  | assumption
  | (refine Gr.old (by assumption) ?_; walk_at "no")
  | (refine Gc.old (by assumption) ?_; walk_at "no"))
local macro_rules | `(tactic| walk_at "ne") => `(tactic| first
  | assumption
  | exact Ne.symm (by assumption)
  | (intro e; subst e; simp_all; done))
local macro_rules | `(tactic| walk_at "nm") => `(tactic| first
  | exact Gr.n0
  | (intro hm; have he := List.mem_singleton.mp hm; revert he; walk_at "ne")
  | (simp only [List.mem_cons, List.not_mem_nil, or_false, not_or]; refine ⟨?_, ?_⟩ <;> walk_at "ne"))
local macro_rules | `(tactic| walk_at "gs") => `(tactic| first
  | exact Gr.s0
  | (intro q hq; have he := List.mem_singleton.mp hq; rw [he]; first | exact .inl (List.mem_cons_self) | exact .inr (by walk_at "no") | exact .inl (List.mem_cons_of_mem _ List.mem_cons_self)))
local macro_rules | `(tactic| walk_at "gr") => `(tactic| first
  | assumption
  | exact Gr.refl (by walk_at "xt")
  | exact Gc.gr (by assumption)
  | exact Gr.weak (by assumption)
  | exact Gr.weak (Gc.gr (by assumption))
  | (refine Gr.trans ?_ (by assumption) ?_; (walk_at "gr"); (walk_at "gs"))
  | (refine Gr.trans ?_ (Gc.gr (by assumption)) ?_; (walk_at "gr"); (walk_at "gs")))
local macro_rules | `(tactic| walk_at "fn") => `(tactic| first
  | assumption
  | exact (Mu.frz_none (by assumption))
  | (refine Gr.no (by assumption) ?_ ?_; (walk_at "fn"); (walk_at "so")))
local macro_rules | `(tactic| walk_at "so") => `(tactic| first
  | assumption
  | exact PoolAt.some (by assumption)
  | exact Mu.some (by assumption)
  | (refine Gr.th (by assumption) _ ?_; walk_at "so")
  | (refine Gc.th (by assumption) _ ?_; walk_at "so"))
local macro_rules | `(tactic| walk_at "pool") => `(tactic| first
  | assumption
  | (refine PoolAt.gr ?_ (by assumption) ?_; (walk_at "pool"); (walk_at "nm"))
  | (refine PoolAt.gr ?_ (Gc.gr (by assumption)) ?_; (walk_at "pool"); (walk_at "nm")))
local macro_rules | `(tactic| walk_at "mu") => `(tactic| first
  | assumption
  | exact Mu.by (by assumption) (by walk_at "mu") (by walk_at "nm")
  | exact Mu.by (Gc.gr (by assumption)) (by walk_at "mu") (by walk_at "nm"))
local macro_rules | `(tactic| walk_at "ld") => `(tactic| first
  | assumption
  | exact Ld.ext (by assumption) (by walk_at "xt"))
local macro_rules | `(tactic| walk_at "rp") => `(tactic| first
  | exact rp_int _
  | exact rp_bl _
  | exact rp_str _
  | exact rp_non
  | assumption
  | exact Rp.ext (by assumption) (by walk_at "xt")
  | exact Ld.rp (by walk_at "ld"))
local macro_rules | `(tactic| walk_at "sees") => `(tactic| first
  | exact Rp.sees (by assumption) (by walk_at "xt")
  | exact Rp.sees (Ld.rp (by assumption)) (by walk_at "xt")
  | exact Mu.sees (by walk_at "mu"))
local macro_rules | `(tactic| walk_at "seesT") => `(tactic| first
  | exact Rp.seesT (by assumption) (by walk_at "xt"))
local macro_rules | `(tactic| walk_at "hp") => `(tactic| first
  | assumption
  | exact upd_same
  | exact Gr.at0 (by assumption) (by assumption)
  | exact Gc.at0 (by assumption) (by assumption))
local macro_rules | `(tactic| walk_at "rdc") => `(tactic| first | (with_reducible refine rd_seq ?_) | walk_at "rdc0")
local macro_rules | `(tactic| walk_at "rdq") => `(tactic| ((try dsimp only [cxK]); repeat' (first | (with_reducible refine rd_seqA ?_) | (with_reducible refine rd_seqD ?_) | walk_at "rdc0" | walk_at "rdv" | walk_at "rdw")))
local macro_rules | `(tactic| walk_at "rdc0") => `(tactic| with_reducible first
  | refine rd_asg ?_
  | refine rd_gname ?_
  | refine rd_var rfl ?_
  | refine rd_c ?_
  | refine rd_op ?_
  | refine rd_ret ?_
  | refine rd_retN ?_
  | refine rd_next ?_
  | refine rd_brk ?_
  | refine rd_ct ?_
  | refine rd_ifS ?_
  | refine rd_ifE ?_
  | refine rd_test ?_
  | refine rd_tB ?_
  | refine rd_bl ?_
  | refine rd_intE ?_
  | refine rd_not ?_
  | refine rd_and ?_
  | refine rd_or ?_
  | refine rd_andV ?_
  | refine rd_orV ?_
  | refine rd_notV ?_
  | refine rd_chain ?_
  | refine rd_cb ?_
  | refine rd_cons ?_
  | refine rd_nil ?_
  | refine rd_g ?_
  | refine rd_mk ?_
  | refine rd_mt ?_
  | refine rd_un ?_
  | refine rd_tup ?_
  | refine rd_lst ?_
  | refine rd_sl ?_
  | refine rd_part ?_
  | refine rd_nopart ?_
  | refine rd_bm ?_
  | refine rd_bm0 ?_
  | refine rd_drop ?_
  | refine rd_aug rfl ?_
  | refine rd_fl ?_
  | refine rd_sf ?_
  | refine rd_gsub ?_
  | refine rd_yes ?_
  | refine rd_lc ?_
  | refine rd_for ?_
  | refine rd_iL ?_
  | refine rd_iT ?_
  | refine rd_i1 ?_
  | refine rd_i2 ?_
  | refine rd_gcons ?_
  | refine rd_gnil ?_
  | refine rd_iE ?_
  | refine rd_iZ ?_
  | refine rd_iO ?_
  | refine iteT ?_
  | refine iteF ?_)
local macro_rules | `(tactic| walk_at "rdv") => `(tactic| first
  | (with_reducible refine zAdd_int ?_)
  | (with_reducible refine zSub_int ?_)
  | (with_reducible refine zCmp ?_)
  | (with_reducible refine yEq_int ?_)
  | (with_reducible refine yNe_int ?_)
  | (with_reducible refine zNeg ?_)
  | (with_reducible refine q_min2 ?_)
  | (with_reducible refine q_max2 ?_)
  | (with_reducible refine q_abs ?_)
  | (with_reducible refine q_int1 ?_))
local macro_rules | `(tactic| walk_at "rdw") => `(tactic| first
  | (with_reducible refine iteNot ?_)
  | ((with_reducible show if decide _ = true then _ else _); first | refine iteDF (by omega) ?_ | refine iteDT (by omega) ?_)
  | ((with_reducible show rIx _ _ _ _ _); first
      | refine zIx_raw (by walk_at "hp") (by rfl) ?_
      | refine zIx_rawF (by assumption) (by walk_at "xt") (by rfl) ?_
      | refine zIx_rawT (by assumption) (by walk_at "xt") (by rfl) ?_
      | refine q_ixI (by walk_at "sees") (by omega) (by omega) ?_
      | refine q_ixTI (by walk_at "seesT") (by omega) (by omega) ?_)
  | ((with_reducible show List.length _ ≤ sizeLine ∧ _); refine And.intro (by simp [sizeLine_eq]) ?_)
  | ((with_reducible show kFl _ _ _ _ _); first
      | refine q_fld (by assumption) (by walk_at "xt") (by assumption) (by assumption) (by rfl) ?_
      | refine q_fldM (by walk_at "hp") (by assumption) (by assumption) (by rfl) ?_)
  | ((with_reducible show kSf _ _ _ _ _ _); refine q_sfld (by walk_at "hp") (by assumption) (by assumption) (Nat.le_of_ble_eq_true rfl) ?_)
  | ((with_reducible show wipe _ _ = wipe _ _ ∧ _); refine And.intro (by rfl) ?_)
  | (with_reducible refine q_isi_int ?_)
  | (with_reducible refine q_isi_ib ?_)
  | ((with_reducible show tyV _ "list" _ _ ∧ _); refine And.intro (q_tyL (by walk_at "sees")) ?_)
  | ((with_reducible show rSetL _ _ _ _ _); refine zSet_raw (by walk_at "hp") (by rfl) ?_)
  | ((with_reducible show yLen _ _ _ _); first | refine q_len (by walk_at "sees") ?_ | refine q_lenT (by walk_at "seesT") ?_)
  | ((with_reducible show rSum _ _ _ _); refine q_sum (by walk_at "sees") ?_)
  | ((with_reducible show rModZ _ _ _ _); refine zMod (by first | decide | omega) ?_)
  | ((with_reducible show rDivZ _ _ _ _); refine zDiv (cdiv_small (by first | decide | omega) (by first | decide | omega)) ?_)
  | ((with_reducible show rMulZ _ _ _ _ _); first
      | refine zMul_int (cmul_l (by first | decide | omega) (by first | decide | omega)) ?_
      | refine zMul_int (cmul_r (by first | decide | omega) (by first | decide | omega)) ?_)
  | ((with_reducible show rI CPow _ _ _ _ _); refine zPow (cpow_small (by decide) (by decide) (by decide)) ?_; (try simp only [Int.reduceToNat, Int.reducePow])))
local macro_rules | `(tactic| walk_at "rd") => `(tactic| ((try dsimp only [cxK]); repeat' (first | walk_at "rdc" | walk_at "rdv" | walk_at "rdw")))
namespace K58
open PySem PySem.Spec PyProof.Rows L2 Rn
open PySem.W (Datum Tup)
def top (i : Nat) : Stmt := PySem.Challenge.pw_restnights_k58_kept_after_whole_many_wee.main.body.getD i (.Pass ⟨0, 0, 0, 0⟩)
def memb (s : Stmt) (j : Nat) : Stmt := match s with
  | .ClassDef _ _ _ b _ _ _ _ _ _ _ => b.getD j (.Pass ⟨0, 0, 0, 0⟩)
  | _ => .Pass ⟨0, 0, 0, 0⟩
abbrev s_WeekU_initU : Stmt := memb (top 14) 0
abbrev N_WeekU_initU : List Str := ["self", "run", "rest"]
abbrev P_WeekU_initU : List Str := ["self", "run", "rest"]
theorem sc_WeekU_initU : FnScope N_WeekU_initU P_WeekU_initU (defScope s_WeekU_initU) := ⟨rfl, rfl, rfl, by decide +kernel, rfl, by decide +kernel, by decide +kernel⟩
def d_WeekU_initU : He.DefD := ⟨("Week", some "__init__"), "__init__", "Week.__init__", defArgs s_WeekU_initU, defBody s_WeekU_initU, defScope s_WeekU_initU, [], []⟩
abbrev s_kept_after : Stmt := top 15
abbrev N_kept_after : List Str := ["week", "people", "weeks", "mosts", "table", "left"]
abbrev P_kept_after : List Str := ["week", "people", "weeks"]
theorem sc_kept_after : FnScope N_kept_after P_kept_after (defScope s_kept_after) := ⟨rfl, rfl, rfl, by decide +kernel, rfl, by decide +kernel, by decide +kernel⟩
def d_kept_after : He.DefD := ⟨("kept_after", none), "kept_after", "kept_after", defArgs s_kept_after, defBody s_kept_after, defScope s_kept_after, [], []⟩
abbrev s_week_table : Stmt := top 16
abbrev N_week_table : List Str := ["week", "people", "size", "rows", "want", "nearest", "farthest", "newest", "one", "other"]
abbrev P_week_table : List Str := ["week", "people"]
theorem sc_week_table : FnScope N_week_table P_week_table (defScope s_week_table) := ⟨rfl, rfl, rfl, by decide +kernel, rfl, by decide +kernel, by decide +kernel⟩
def d_week_table : He.DefD := ⟨("week_table", none), "week_table", "week_table", defArgs s_week_table, defBody s_week_table, defScope s_week_table, [], []⟩
abbrev s_led_over : Stmt := top 17
abbrev N_led_over : List Str := ["table", "mosts", "row", "other"]
abbrev P_led_over : List Str := ["table", "mosts"]
theorem sc_led_over : FnScope N_led_over P_led_over (defScope s_led_over) := ⟨rfl, rfl, rfl, by decide +kernel, rfl, by decide +kernel, by decide +kernel⟩
def d_led_over : He.DefD := ⟨("led_over", none), "led_over", "led_over", defArgs s_led_over, defBody s_led_over, defScope s_led_over, [], []⟩
abbrev s_joined_tables : Stmt := top 18
abbrev N_joined_tables : List Str := ["later", "earlier", "size", "table", "row", "other", "place"]
abbrev P_joined_tables : List Str := ["later", "earlier"]
theorem sc_joined_tables : FnScope N_joined_tables P_joined_tables (defScope s_joined_tables) := ⟨rfl, rfl, rfl, by decide +kernel, rfl, by decide +kernel, by decide +kernel⟩
def d_joined_tables : He.DefD := ⟨("joined_tables", none), "joined_tables", "joined_tables", defArgs s_joined_tables, defBody s_joined_tables, defScope s_joined_tables, [], []⟩
abbrev s_WantsU_initU : Stmt := memb (top 20) 2
abbrev N_WantsU_initU : List Str := ["self", "numbers", "index", "number"]
abbrev P_WantsU_initU : List Str := ["self", "numbers"]
theorem sc_WantsU_initU : FnScope N_WantsU_initU P_WantsU_initU (defScope s_WantsU_initU) := ⟨rfl, rfl, rfl, by decide +kernel, rfl, by decide +kernel, by decide +kernel⟩
def d_WantsU_initU : He.DefD := ⟨("Wants", some "__init__"), "__init__", "Wants.__init__", defArgs s_WantsU_initU, defBody s_WantsU_initU, defScope s_WantsU_initU, [], []⟩
abbrev s_WantsU_lenU : Stmt := memb (top 20) 4
abbrev N_WantsU_lenU : List Str := ["self"]
abbrev P_WantsU_lenU : List Str := ["self"]
theorem sc_WantsU_lenU : FnScope N_WantsU_lenU P_WantsU_lenU (defScope s_WantsU_lenU) := ⟨rfl, rfl, rfl, by decide +kernel, rfl, by decide +kernel, by decide +kernel⟩
def d_WantsU_lenU : He.DefD := ⟨("Wants", some "__len__"), "__len__", "Wants.__len__", defArgs s_WantsU_lenU, defBody s_WantsU_lenU, defScope s_WantsU_lenU, [], []⟩
abbrev s_WantsU_iterU : Stmt := memb (top 20) 5
abbrev N_WantsU_iterU : List Str := ["self"]
abbrev P_WantsU_iterU : List Str := ["self"]
theorem sc_WantsU_iterU : FnScope N_WantsU_iterU P_WantsU_iterU (defScope s_WantsU_iterU) := ⟨rfl, rfl, rfl, by decide +kernel, rfl, by decide +kernel, by decide +kernel⟩
def d_WantsU_iterU : He.DefD := ⟨("Wants", some "__iter__"), "__iter__", "Wants.__iter__", defArgs s_WantsU_iterU, defBody s_WantsU_iterU, defScope s_WantsU_iterU, [], []⟩
abbrev s__law_pool : Stmt := top 22
abbrev N__law_pool : List Str := ["script", "at", "cell"]
abbrev P__law_pool : List Str := ["script", "at"]
theorem sc__law_pool : FnScope N__law_pool P__law_pool (defScope s__law_pool) := ⟨rfl, rfl, rfl, by decide +kernel, rfl, by decide +kernel, by decide +kernel⟩
def d__law_pool : He.DefD := ⟨("_law_pool", none), "_law_pool", "_law_pool", defArgs s__law_pool, defBody s__law_pool, defScope s__law_pool, [], []⟩
abbrev s__law_draw : Stmt := top 23
abbrev N__law_draw : List Str := ["pool", "many", "value", "mixed"]
abbrev P__law_draw : List Str := ["pool", "many"]
theorem sc__law_draw : FnScope N__law_draw P__law_draw (defScope s__law_draw) := ⟨rfl, rfl, rfl, by decide +kernel, rfl, by decide +kernel, by decide +kernel⟩
def d__law_draw : He.DefD := ⟨("_law_draw", none), "_law_draw", "_law_draw", defArgs s__law_draw, defBody s__law_draw, defScope s__law_draw, [], []⟩
abbrev s__law_wants : Stmt := top 24
abbrev N__law_wants : List Str := ["pool", "nights", "most", "night"]
abbrev P__law_wants : List Str := ["pool", "nights", "most"]
theorem sc__law_wants : FnScope N__law_wants P__law_wants (defScope s__law_wants) := ⟨rfl, rfl, rfl, by decide +kernel, rfl, by decide +kernel, by decide +kernel⟩
def d__law_wants : He.DefD := ⟨("_law_wants", none), "_law_wants", "_law_wants", defArgs s__law_wants, defBody s__law_wants, defScope s__law_wants, [], []⟩
abbrev s__law_int : Stmt := top 25
abbrev N__law_int : List Str := ["x"]
abbrev P__law_int : List Str := ["x"]
theorem sc__law_int : FnScope N__law_int P__law_int (defScope s__law_int) := ⟨rfl, rfl, rfl, by decide +kernel, rfl, by decide +kernel, by decide +kernel⟩
def d__law_int : He.DefD := ⟨("_law_int", none), "_law_int", "_law_int", defArgs s__law_int, defBody s__law_int, defScope s__law_int, [], []⟩
abbrev s__law_weeks : Stmt := top 26
abbrev N__law_weeks : List Str := ["pool", "way"]
abbrev P__law_weeks : List Str := ["pool"]
theorem sc__law_weeks : FnScope N__law_weeks P__law_weeks (defScope s__law_weeks) := ⟨rfl, rfl, rfl, by decide +kernel, rfl, by decide +kernel, by decide +kernel⟩
def d__law_weeks : He.DefD := ⟨("_law_weeks", none), "_law_weeks", "_law_weeks", defArgs s__law_weeks, defBody s__law_weeks, defScope s__law_weeks, [], []⟩
abbrev s__law_one_week : Stmt := top 27
abbrev N__law_one_week : List Str := ["run", "recent", "people", "chosen", "kept", "want", "made"]
abbrev P__law_one_week : List Str := ["run", "recent", "people"]
theorem sc__law_one_week : FnScope N__law_one_week P__law_one_week (defScope s__law_one_week) := ⟨rfl, rfl, rfl, by decide +kernel, rfl, by decide +kernel, by decide +kernel⟩
def d__law_one_week : He.DefD := ⟨("_law_one_week", none), "_law_one_week", "_law_one_week", defArgs s__law_one_week, defBody s__law_one_week, defScope s__law_one_week, [], []⟩
abbrev s__law_rounds : Stmt := top 28
abbrev N__law_rounds : List Str := ["run", "gap", "people", "recent", "seen", "sums", "turn", "told"]
abbrev P__law_rounds : List Str := ["run", "gap", "people"]
theorem sc__law_rounds : FnScope N__law_rounds P__law_rounds (defScope s__law_rounds) := ⟨rfl, rfl, rfl, by decide +kernel, rfl, by decide +kernel, by decide +kernel⟩
def d__law_rounds : He.DefD := ⟨("_law_rounds", none), "_law_rounds", "_law_rounds", defArgs s__law_rounds, defBody s__law_rounds, defScope s__law_rounds, [], []⟩
abbrev s__law_kept : Stmt := top 29
abbrev N__law_kept : List Str := ["rounds", "weeks", "first", "sums", "long", "whole", "behind"]
abbrev P__law_kept : List Str := ["rounds", "weeks"]
theorem sc__law_kept : FnScope N__law_kept P__law_kept (defScope s__law_kept) := ⟨rfl, rfl, rfl, by decide +kernel, rfl, by decide +kernel, by decide +kernel⟩
def d__law_kept : He.DefD := ⟨("_law_kept", none), "_law_kept", "_law_kept", defArgs s__law_kept, defBody s__law_kept, defScope s__law_kept, [], []⟩
abbrev s_law : Stmt := top 30
abbrev N_law : List Str := ["script", "pool", "nights", "run", "gap", "people", "one", "two", "week", "rounds", "asked", "told", "weeks", "more", "again", "want"]
abbrev P_law : List Str := ["script"]
theorem sc_law : FnScope N_law P_law (defScope s_law) := ⟨rfl, rfl, rfl, by decide +kernel, rfl, by decide +kernel, by decide +kernel⟩
def d_law : He.DefD := ⟨("law", none), "law", "law", defArgs s_law, defBody s_law, defScope s_law, [], []⟩
def fn0 : List He.DefD := [d_WeekU_initU, d_kept_after, d_week_table, d_led_over, d_joined_tables, d_WantsU_initU, d_WantsU_lenU, d_WantsU_iterU, d__law_pool, d__law_draw, d__law_wants, d__law_int, d__law_weeks, d__law_one_week, d__law_rounds, d__law_kept, d_law]
def fn : List He.DefD := fn0
def fa0 : List He.Fa := [.free "len", .free "min", .free "range", .free "abs", .free "int", .free "list", .free "tuple", .free "sum", .free "isinstance", .free "bool", .free "enumerate", .free "iter", .glo "kept_after", .glo "week_table", .glo "led_over", .glo "joined_tables", .glo "_law_pool", .glo "_law_draw", .glo "_law_wants", .glo "_law_int", .glo "_law_weeks", .glo "_law_one_week", .glo "_law_rounds", .glo "_law_kept", .glo "law", .glo "Week", .cls "Week", .mkr "Week", .noat "Week" "rest", .noat "Week" "run"]
def fa1 : List He.Fa := [.glo "Wants", .cls "Wants", .mkr "Wants", .noat "Wants" "numbers", .meth "Wants" "__len__", .meth "Wants" "__iter__", .int "MOST_NIGHTS" 14, .int "MOST_REST" 4, .int "MOST_PEOPLE" 1000000, .int "MOST_WEEKS" 1000000000000000000, .int "FAR" 10000000000000000000000000000000000000000]
def fa : List He.Fa := fa0 ++ (fa1)
def lk0 : List Look1 := [cvalI "Wants" "MOST" 60, cvalI "Wants" "GREATEST" 30]
def lk : List Look1 := lk0
def loose0 : List Str := ["_wall", "NightsError", "NoNight", "BadNumber", "TooLong", "BadRest", "EmptyWeek", "MOST_NIGHTS", "MOST_REST", "MOST_PEOPLE", "MOST_WEEKS", "FAR", "Week", "kept_after", "week_table", "led_over", "joined_tables", "Wants", "_law_pool", "_law_draw", "_law_wants", "_law_int", "_law_weeks", "_law_one_week", "_law_rounds", "_law_kept"]
def loose : List Str := loose0
abbrev R : PySem.W.OpenRow := PySem.W.OpenLaw.row PySem.Challenge.rw_restnights_k58_kept_after_whole_many_wee
abbrev hk : PySem.W.Hook := hookY 6 fa fn lk
def ob (s : PySem.W.SharedT) : AlY := obsYG 6 fa fn lk (HandSHeadRun.getT s)
theorem ob_eq (s : PySem.W.SharedT) : ob s = hk.obs s.abs := obsYG_eq (HandSHeadRun.getT_eq s)
theorem run (w : World) : HandSHeadRun.RunEq R (PySem.W.view R.prog [30]) hk ob 100000 loose w := by
  intro os
  kernel_rfl
structure LC (K : PySem.W.Frag) (mg : Str → Option Value) : Prop where
  ex : ∃ h : Heap, K.In h ∧ h.Ns mainGlobals mg ∧ SaysY fa fn lk K
section
variable {K : PySem.W.Frag} {mg : Str → Option Value} (T : LC K mg)
include T
theorem f_len : mg "len" = none := by
  obtain ⟨h, X, G, c⟩ := T.ex
  exact He.free_ok X G (c.d.fact 0 (f := .free "len") rfl)
theorem f_min : mg "min" = none := by
  obtain ⟨h, X, G, c⟩ := T.ex
  exact He.free_ok X G (c.d.fact 1 (f := .free "min") rfl)
theorem f_range : mg "range" = none := by
  obtain ⟨h, X, G, c⟩ := T.ex
  exact He.free_ok X G (c.d.fact 2 (f := .free "range") rfl)
theorem f_abs : mg "abs" = none := by
  obtain ⟨h, X, G, c⟩ := T.ex
  exact He.free_ok X G (c.d.fact 3 (f := .free "abs") rfl)
theorem f_int : mg "int" = none := by
  obtain ⟨h, X, G, c⟩ := T.ex
  exact He.free_ok X G (c.d.fact 4 (f := .free "int") rfl)
theorem f_list : mg "list" = none := by
  obtain ⟨h, X, G, c⟩ := T.ex
  exact He.free_ok X G (c.d.fact 5 (f := .free "list") rfl)
theorem f_tuple : mg "tuple" = none := by
  obtain ⟨h, X, G, c⟩ := T.ex
  exact He.free_ok X G (c.d.fact 6 (f := .free "tuple") rfl)
theorem f_sum : mg "sum" = none := by
  obtain ⟨h, X, G, c⟩ := T.ex
  exact He.free_ok X G (c.d.fact 7 (f := .free "sum") rfl)
theorem f_isinstance : mg "isinstance" = none := by
  obtain ⟨h, X, G, c⟩ := T.ex
  exact He.free_ok X G (c.d.fact 8 (f := .free "isinstance") rfl)
theorem f_bool : mg "bool" = none := by
  obtain ⟨h, X, G, c⟩ := T.ex
  exact He.free_ok X G (c.d.fact 9 (f := .free "bool") rfl)
theorem f_enumerate : mg "enumerate" = none := by
  obtain ⟨h, X, G, c⟩ := T.ex
  exact He.free_ok X G (c.d.fact 10 (f := .free "enumerate") rfl)
theorem f_iter : mg "iter" = none := by
  obtain ⟨h, X, G, c⟩ := T.ex
  exact He.free_ok X G (c.d.fact 11 (f := .free "iter") rfl)
theorem g_kept_after : mg "kept_after" = some (.ref (He.ga K "kept_after")) := by
  obtain ⟨h, X, G, c⟩ := T.ex
  exact He.glo_ok X G (c.d.fact 12 (f := .glo "kept_after") rfl)
theorem g_week_table : mg "week_table" = some (.ref (He.ga K "week_table")) := by
  obtain ⟨h, X, G, c⟩ := T.ex
  exact He.glo_ok X G (c.d.fact 13 (f := .glo "week_table") rfl)
theorem g_led_over : mg "led_over" = some (.ref (He.ga K "led_over")) := by
  obtain ⟨h, X, G, c⟩ := T.ex
  exact He.glo_ok X G (c.d.fact 14 (f := .glo "led_over") rfl)
theorem g_joined_tables : mg "joined_tables" = some (.ref (He.ga K "joined_tables")) := by
  obtain ⟨h, X, G, c⟩ := T.ex
  exact He.glo_ok X G (c.d.fact 15 (f := .glo "joined_tables") rfl)
theorem g__law_pool : mg "_law_pool" = some (.ref (He.ga K "_law_pool")) := by
  obtain ⟨h, X, G, c⟩ := T.ex
  exact He.glo_ok X G (c.d.fact 16 (f := .glo "_law_pool") rfl)
theorem g__law_draw : mg "_law_draw" = some (.ref (He.ga K "_law_draw")) := by
  obtain ⟨h, X, G, c⟩ := T.ex
  exact He.glo_ok X G (c.d.fact 17 (f := .glo "_law_draw") rfl)
theorem g__law_wants : mg "_law_wants" = some (.ref (He.ga K "_law_wants")) := by
  obtain ⟨h, X, G, c⟩ := T.ex
  exact He.glo_ok X G (c.d.fact 18 (f := .glo "_law_wants") rfl)
theorem g__law_int : mg "_law_int" = some (.ref (He.ga K "_law_int")) := by
  obtain ⟨h, X, G, c⟩ := T.ex
  exact He.glo_ok X G (c.d.fact 19 (f := .glo "_law_int") rfl)
theorem g__law_weeks : mg "_law_weeks" = some (.ref (He.ga K "_law_weeks")) := by
  obtain ⟨h, X, G, c⟩ := T.ex
  exact He.glo_ok X G (c.d.fact 20 (f := .glo "_law_weeks") rfl)
theorem g__law_one_week : mg "_law_one_week" = some (.ref (He.ga K "_law_one_week")) := by
  obtain ⟨h, X, G, c⟩ := T.ex
  exact He.glo_ok X G (c.d.fact 21 (f := .glo "_law_one_week") rfl)
theorem g__law_rounds : mg "_law_rounds" = some (.ref (He.ga K "_law_rounds")) := by
  obtain ⟨h, X, G, c⟩ := T.ex
  exact He.glo_ok X G (c.d.fact 22 (f := .glo "_law_rounds") rfl)
theorem g__law_kept : mg "_law_kept" = some (.ref (He.ga K "_law_kept")) := by
  obtain ⟨h, X, G, c⟩ := T.ex
  exact He.glo_ok X G (c.d.fact 23 (f := .glo "_law_kept") rfl)
theorem g_law : mg "law" = some (.ref (He.ga K "law")) := by
  obtain ⟨h, X, G, c⟩ := T.ex
  exact He.glo_ok X G (c.d.fact 24 (f := .glo "law") rfl)
theorem g_Week : mg "Week" = some (.ref (He.ga K "Week")) := by
  obtain ⟨h, X, G, c⟩ := T.ex
  exact He.glo_ok X G (c.d.fact 25 (f := .glo "Week") rfl)
theorem cl_Week : Cls K (He.ga K "Week") := by
  obtain ⟨h, X, G, c⟩ := T.ex
  exact He.cls_ok (c.d.fact 26 (f := .cls "Week") rfl)
theorem mk_Week : Mk K (He.ga K "Week") (He.ma K (He.ga K "Week") "__init__") := by
  obtain ⟨h, X, G, c⟩ := T.ex
  exact He.mkr_ok (c.d.fact 27 (f := .mkr "Week") rfl)
theorem na_Week_rest : NoAttr K (He.ga K "Week") "rest" := by
  obtain ⟨h, X, G, c⟩ := T.ex
  exact He.noat_ok (c.d.fact 28 (f := .noat "Week" "rest") rfl)
theorem na_Week_run : NoAttr K (He.ga K "Week") "run" := by
  obtain ⟨h, X, G, c⟩ := T.ex
  exact He.noat_ok (c.d.fact 29 (f := .noat "Week" "run") rfl)
theorem g_Wants : mg "Wants" = some (.ref (He.ga K "Wants")) := by
  obtain ⟨h, X, G, c⟩ := T.ex
  exact He.glo_ok X G (c.d.fact 30 (f := .glo "Wants") rfl)
theorem cl_Wants : Cls K (He.ga K "Wants") := by
  obtain ⟨h, X, G, c⟩ := T.ex
  exact He.cls_ok (c.d.fact 31 (f := .cls "Wants") rfl)
theorem mk_Wants : Mk K (He.ga K "Wants") (He.ma K (He.ga K "Wants") "__init__") := by
  obtain ⟨h, X, G, c⟩ := T.ex
  exact He.mkr_ok (c.d.fact 32 (f := .mkr "Wants") rfl)
theorem na_Wants_numbers : NoAttr K (He.ga K "Wants") "numbers" := by
  obtain ⟨h, X, G, c⟩ := T.ex
  exact He.noat_ok (c.d.fact 33 (f := .noat "Wants" "numbers") rfl)
theorem me_WantsU_lenU : Meth K (He.ga K "Wants") "__len__" (He.ma K (He.ga K "Wants") "__len__") := by
  obtain ⟨h, X, G, c⟩ := T.ex
  exact He.meth_ok (c.d.fact 34 (f := .meth "Wants" "__len__") rfl)
theorem me_WantsU_iterU : Meth K (He.ga K "Wants") "__iter__" (He.ma K (He.ga K "Wants") "__iter__") := by
  obtain ⟨h, X, G, c⟩ := T.ex
  exact He.meth_ok (c.d.fact 35 (f := .meth "Wants" "__iter__") rfl)
theorem c_MOST_NIGHTS : ∃ t, mg "MOST_NIGHTS" = some (.int 14 t) := by
  obtain ⟨h, X, G, c⟩ := T.ex
  exact He.int_ok X G (c.d.fact 36 (f := .int "MOST_NIGHTS" 14) rfl)
theorem c_MOST_REST : ∃ t, mg "MOST_REST" = some (.int 4 t) := by
  obtain ⟨h, X, G, c⟩ := T.ex
  exact He.int_ok X G (c.d.fact 37 (f := .int "MOST_REST" 4) rfl)
theorem c_MOST_PEOPLE : ∃ t, mg "MOST_PEOPLE" = some (.int 1000000 t) := by
  obtain ⟨h, X, G, c⟩ := T.ex
  exact He.int_ok X G (c.d.fact 38 (f := .int "MOST_PEOPLE" 1000000) rfl)
theorem c_MOST_WEEKS : ∃ t, mg "MOST_WEEKS" = some (.int 1000000000000000000 t) := by
  obtain ⟨h, X, G, c⟩ := T.ex
  exact He.int_ok X G (c.d.fact 39 (f := .int "MOST_WEEKS" 1000000000000000000) rfl)
theorem c_FAR : ∃ t, mg "FAR" = some (.int 10000000000000000000000000000000000000000 t) := by
  obtain ⟨h, X, G, c⟩ := T.ex
  exact He.int_ok X G (c.d.fact 40 (f := .int "FAR" 10000000000000000000000000000000000000000) rfl)
theorem k_Wants_MOST : ∃ C mc u, mg "Wants" = some (.ref C) ∧ ClX.CRead K C mc ∧ ClX.CVal K C mc "MOST" (.int 60) u := by
  obtain ⟨h, X, G, c⟩ := T.ex
  obtain ⟨mc, u, h1, h2⟩ := cvalI_ok (c.lk 0 (f := cvalI "Wants" "MOST" 60) rfl)
  exact ⟨_, mc, u, g_Wants T, h1, h2⟩
theorem k_Wants_GREATEST : ∃ C mc u, mg "Wants" = some (.ref C) ∧ ClX.CRead K C mc ∧ ClX.CVal K C mc "GREATEST" (.int 30) u := by
  obtain ⟨h, X, G, c⟩ := T.ex
  obtain ⟨mc, u, h1, h2⟩ := cvalI_ok (c.lk 1 (f := cvalI "Wants" "GREATEST" 30) rfl)
  exact ⟨_, mc, u, g_Wants T, h1, h2⟩
theorem F_WeekU_initU : ∃ fd, FunD K "__init__" "Week.__init__" (defArgs s_WeekU_initU) (defBody s_WeekU_initU) (defScope s_WeekU_initU) [] [] (He.ma K (He.ga K "Week") "__init__") fd := by
  obtain ⟨h, X, G, c⟩ := T.ex
  exact c.d.def_ 0 (d := d_WeekU_initU) rfl
theorem F_kept_after : ∃ fd, FunD K "kept_after" "kept_after" (defArgs s_kept_after) (defBody s_kept_after) (defScope s_kept_after) [] [] (He.ga K "kept_after") fd := by
  obtain ⟨h, X, G, c⟩ := T.ex
  exact c.d.def_ 1 (d := d_kept_after) rfl
theorem F_week_table : ∃ fd, FunD K "week_table" "week_table" (defArgs s_week_table) (defBody s_week_table) (defScope s_week_table) [] [] (He.ga K "week_table") fd := by
  obtain ⟨h, X, G, c⟩ := T.ex
  exact c.d.def_ 2 (d := d_week_table) rfl
theorem F_led_over : ∃ fd, FunD K "led_over" "led_over" (defArgs s_led_over) (defBody s_led_over) (defScope s_led_over) [] [] (He.ga K "led_over") fd := by
  obtain ⟨h, X, G, c⟩ := T.ex
  exact c.d.def_ 3 (d := d_led_over) rfl
theorem F_joined_tables : ∃ fd, FunD K "joined_tables" "joined_tables" (defArgs s_joined_tables) (defBody s_joined_tables) (defScope s_joined_tables) [] [] (He.ga K "joined_tables") fd := by
  obtain ⟨h, X, G, c⟩ := T.ex
  exact c.d.def_ 4 (d := d_joined_tables) rfl
theorem F_WantsU_initU : ∃ fd, FunD K "__init__" "Wants.__init__" (defArgs s_WantsU_initU) (defBody s_WantsU_initU) (defScope s_WantsU_initU) [] [] (He.ma K (He.ga K "Wants") "__init__") fd := by
  obtain ⟨h, X, G, c⟩ := T.ex
  exact c.d.def_ 5 (d := d_WantsU_initU) rfl
theorem F_WantsU_lenU : ∃ fd, FunD K "__len__" "Wants.__len__" (defArgs s_WantsU_lenU) (defBody s_WantsU_lenU) (defScope s_WantsU_lenU) [] [] (He.ma K (He.ga K "Wants") "__len__") fd := by
  obtain ⟨h, X, G, c⟩ := T.ex
  exact c.d.def_ 6 (d := d_WantsU_lenU) rfl
theorem F_WantsU_iterU : ∃ fd, FunD K "__iter__" "Wants.__iter__" (defArgs s_WantsU_iterU) (defBody s_WantsU_iterU) (defScope s_WantsU_iterU) [] [] (He.ma K (He.ga K "Wants") "__iter__") fd := by
  obtain ⟨h, X, G, c⟩ := T.ex
  exact c.d.def_ 7 (d := d_WantsU_iterU) rfl
theorem F__law_pool : ∃ fd, FunD K "_law_pool" "_law_pool" (defArgs s__law_pool) (defBody s__law_pool) (defScope s__law_pool) [] [] (He.ga K "_law_pool") fd := by
  obtain ⟨h, X, G, c⟩ := T.ex
  exact c.d.def_ 8 (d := d__law_pool) rfl
theorem F__law_draw : ∃ fd, FunD K "_law_draw" "_law_draw" (defArgs s__law_draw) (defBody s__law_draw) (defScope s__law_draw) [] [] (He.ga K "_law_draw") fd := by
  obtain ⟨h, X, G, c⟩ := T.ex
  exact c.d.def_ 9 (d := d__law_draw) rfl
theorem F__law_wants : ∃ fd, FunD K "_law_wants" "_law_wants" (defArgs s__law_wants) (defBody s__law_wants) (defScope s__law_wants) [] [] (He.ga K "_law_wants") fd := by
  obtain ⟨h, X, G, c⟩ := T.ex
  exact c.d.def_ 10 (d := d__law_wants) rfl
theorem F__law_int : ∃ fd, FunD K "_law_int" "_law_int" (defArgs s__law_int) (defBody s__law_int) (defScope s__law_int) [] [] (He.ga K "_law_int") fd := by
  obtain ⟨h, X, G, c⟩ := T.ex
  exact c.d.def_ 11 (d := d__law_int) rfl
theorem F__law_weeks : ∃ fd, FunD K "_law_weeks" "_law_weeks" (defArgs s__law_weeks) (defBody s__law_weeks) (defScope s__law_weeks) [] [] (He.ga K "_law_weeks") fd := by
  obtain ⟨h, X, G, c⟩ := T.ex
  exact c.d.def_ 12 (d := d__law_weeks) rfl
theorem F__law_one_week : ∃ fd, FunD K "_law_one_week" "_law_one_week" (defArgs s__law_one_week) (defBody s__law_one_week) (defScope s__law_one_week) [] [] (He.ga K "_law_one_week") fd := by
  obtain ⟨h, X, G, c⟩ := T.ex
  exact c.d.def_ 13 (d := d__law_one_week) rfl
theorem F__law_rounds : ∃ fd, FunD K "_law_rounds" "_law_rounds" (defArgs s__law_rounds) (defBody s__law_rounds) (defScope s__law_rounds) [] [] (He.ga K "_law_rounds") fd := by
  obtain ⟨h, X, G, c⟩ := T.ex
  exact c.d.def_ 14 (d := d__law_rounds) rfl
theorem F__law_kept : ∃ fd, FunD K "_law_kept" "_law_kept" (defArgs s__law_kept) (defBody s__law_kept) (defScope s__law_kept) [] [] (He.ga K "_law_kept") fd := by
  obtain ⟨h, X, G, c⟩ := T.ex
  exact c.d.def_ 15 (d := d__law_kept) rfl
theorem F_law : ∃ fd, FunD K "law" "law" (defArgs s_law) (defBody s_law) (defScope s_law) [] [] (He.ga K "law") fd := by
  obtain ⟨h, X, G, c⟩ := T.ex
  exact c.d.def_ 16 (d := d_law) rfl
end
theorem fd__law_pool {P : Program} {w : World} {K : PySem.W.Frag} {mg : Str → Option Value} {base : Heap} (T : LC K mg) {fd : FuncData} (F : FunD K "_law_pool" "_law_pool" (defArgs s__law_pool) (defBody s__law_pool) (defScope s__law_pool) [] [] (He.ga K "_law_pool") fd) : FnOk P w K mg base (L2.CX P w) 1 (He.ga K "_law_pool") fd P__law_pool (sp_pool K) := by
  refine F.ok sc__law_pool (fun vs H Q E h => by repeat' (first | (obtain ⟨rfl, _⟩ := h; rfl) | (obtain ⟨_, h⟩ := h))) fun cdv A outer s H vs Q E hr h => ?_
  refine ⟨_, (pss_cons (ps_set (i := 2) sc__law_pool.nd rfl (Or.inl rfl) pe_int)
      (pss_cons (ps_if (pt_cmpR op_lt (pv 1) (pe_callB (kLen K) (by rfl) (f_len T) PySem.boot_len (pa_cons (pv 0) pa_nil)) (nomark _)) (pss_one (ps_set (i := 2) sc__law_pool.nd rfl (Or.inl rfl) (pe_callB cy_abs (by rfl) (f_abs T) (by decide +kernel) (pa_cons (pe_ix (kIx K) (pv 0) (pv 1) (fun _ _ => rfl)) pa_nil)))) pss_nil)
      (pss_cons (ps_if (pt_cmpR op_ge (pv 2) (pe_op op_pow pe_int pe_int) (nomark _)) (pss_one (ps_ret (pe_lst (pa_cons (pe_op op_sub (pv 2) (pe_op op_pow pe_int pe_int)) (pa_cons pe_int (pa_cons pe_int pa_nil)))))) pss_nil)
      (pss_one (ps_ret (pe_lst (pa_cons (pe_un un_neg pe_int) (pa_cons (pe_op op_modZ (pe_callTy cy_int (by rfl) (f_int T) (by decide +kernel) (pa_cons (pv 2) pa_nil)) pe_int) (pa_cons (pe_op (kAdd K) (pv 1) pe_int) pa_nil))))))))), ?_⟩
  obtain ⟨F, p, ns, i, rfl, hs, hi, e0, hQ⟩ := h
  have sz : Sees K F H (.ref p) ns := ⟨p, _, rfl, hs, RpA.ints⟩
  have fin : ∀ (b a c : Int), 0 ≤ b → b < 2147483648 → ∀ p, H p = none → Q (.ref p) (upd H p (.lst [.int a, .int b, .int c])) := fun b a c h0 h1 p n => hQ p _ n ⟨Gr.newM e0 n⟩ (by
    cases h : F p with
    | none => rfl
    | some u => rw [e0 p u h] at n; cases n) ⟨_, _, _, upd_same, h0, h1⟩
  have e1 : 0 ≤ i := hi
  walk_at "rd"
  refine q_len sz ?_
  walk_at "rd"
  refine iteD (fun h1 => ?_) (fun h1 => ?_)
  · walk_at "rd"
    refine q_ixI sz (by omega) (by omega) ?_
    walk_at "rd"
    refine iteD (fun h2 => ?_) (fun h2 => ?_)
    · walk_at "rd"
      exact fin _ _ _ (by decide) (by decide)
    · walk_at "rd"
      exact fin _ _ _ (Int.emod_nonneg _ (by decide)) (Int.lt_of_lt_of_le (Int.emod_lt_of_pos _ (by decide)) (by decide))
  · walk_at "rd"
    exact fin _ _ _ (Int.emod_nonneg _ (by decide)) (Int.lt_of_lt_of_le (Int.emod_lt_of_pos _ (by decide)) (by decide))
theorem fk__law_pool {P : Program} {w : World} {K : PySem.W.Frag} {mg : Str → Option Value} {base : Heap} (T : LC K mg) : ∃ fd, Binds K fd P__law_pool [] ∧ FnOk P w K mg base (L2.CX P w) 1 (He.ga K "_law_pool") fd P__law_pool (sp_pool K) ∧ PySem.W.keepIn K (.ref (He.ga K "_law_pool")) = true := by
  obtain ⟨fd, F⟩ := F__law_pool T
  exact ⟨fd, (F.bindsN fun _ _ _ _ _ _ us hl => match us, hl with | [_, _], _ => rfl), fd__law_pool T  F, F.kp⟩
theorem G__law_pool {P : Program} {w : World} {K : PySem.W.Frag} {mg : Str → Option Value} {base : Heap} (T : LC K mg) : GFn P w K mg base "_law_pool" 1 P__law_pool (sp_pool K) := by
  obtain ⟨fd, b, F, kp⟩ := fk__law_pool (P := P) (w := w) (base := base) T 
  exact ⟨_, fd, g__law_pool T, kp, b, F⟩

theorem fd__law_draw {P : Program} {w : World} {K : PySem.W.Frag} {mg : Str → Option Value} {base : Heap} (T : LC K mg) {fd : FuncData} (F : FunD K "_law_draw" "_law_draw" (defArgs s__law_draw) (defBody s__law_draw) (defScope s__law_draw) [] [] (He.ga K "_law_draw") fd) : FnOk P w K mg base (L2.CX P w) 1 (He.ga K "_law_draw") fd P__law_draw (sp_draw) := by
  refine F.ok sc__law_draw (fun vs H Q E h => by repeat' (first | (obtain ⟨rfl, _⟩ := h; rfl) | (obtain ⟨_, h⟩ := h))) fun cdv A outer s H vs Q E hr h => ?_
  refine ⟨_, (pss_cons (ps_if (pt_cmpR op_ge (pe_ix (kIx K) (pv 0) pe_int (fun _ _ => rfl)) pe_int (nomark _)) (pss_cons (ps_set (i := 2) sc__law_draw.nd rfl (Or.inl rfl) (pe_op op_modZ (pe_callTy cy_int (by rfl) (f_int T) (by decide +kernel) (pa_cons (pe_ix (kIx K) (pv 0) pe_int (fun _ _ => rfl)) pa_nil)) (pv 1)))
      (pss_cons (ps_asg (pe_op op_divZ (pe_ix (kIx K) (pv 0) pe_int (fun _ _ => rfl)) (pv 1)) (pg_sub (pv 0) pe_int set_list))
      (pss_one (ps_ret (pv 2))))) pss_nil)
      (pss_cons (ps_asg (pe_op (kAdd K) (pe_ix (kIx K) (pv 0) pe_int (fun _ _ => rfl)) pe_int) (pg_sub (pv 0) pe_int set_list))
      (pss_cons (ps_set (i := 3) sc__law_draw.nd rfl (Or.inl rfl) (pe_ix (kIx K) (pv 0) pe_int (fun _ _ => rfl)))
      (pss_cons (ps_set (i := 3) sc__law_draw.nd rfl (Or.inl rfl) (pe_op op_modZ (pe_callTy cy_int (by rfl) (f_int T) (by decide +kernel) (pa_cons (pe_op (kAdd K) (pe_op (kAdd K) (pe_op (kMul K) (pv 3) (pv 3)) (pe_op (kMul K) (pe_ix (kIx K) (pv 0) pe_int (fun _ _ => rfl)) pe_int)) pe_int) pa_nil)) pe_int))
      (pss_cons (ps_set (i := 3) sc__law_draw.nd rfl (Or.inl rfl) (pe_op op_modZ (pe_callTy cy_int (by rfl) (f_int T) (by decide +kernel) (pa_cons (pe_op (kAdd K) (pe_op (kMul K) (pv 3) (pv 3)) (pe_op op_divZ (pv 3) pe_int)) pa_nil)) pe_int))
      (pss_cons (ps_asg (pv 3) (pg_sub (pv 0) pe_int set_list))
      (pss_one (ps_ret (pe_op op_modZ (pe_callTy cy_int (by rfl) (f_int T) (by decide +kernel) (pa_cons (pe_op op_divZ (pv 3) pe_int) pa_nil)) (pv 1)))))))))), ?_⟩
  obtain ⟨F, p, m, rfl, e0, hF, ⟨a, b, c, hp, hb0, hb1⟩, hm0, hm1, hQ⟩ := h
  have hp' : H p ≠ none := by rw [hp]; exact nofun
  walk_at "rd"
  refine iteD (fun h1 => ?_) (fun h1 => ?_)
  · walk_at "rd"
    exact hQ _ _ (Int.emod_nonneg _ (by omega)) (Int.emod_lt_of_pos _ hm0) ⟨Gr.chg e0 hF hp'⟩ ⟨_, _, _, upd_same, hb0, hb1⟩
  · walk_at "rd"
    rw [upd_upd]
    exact hQ _ _ (Int.emod_nonneg _ (by omega)) (Int.emod_lt_of_pos _ hm0) ⟨Gr.chg e0 hF hp'⟩ ⟨_, _, _, upd_same, Int.emod_nonneg _ (by decide), Int.lt_of_lt_of_le (Int.emod_lt_of_pos _ (by decide)) (by decide)⟩
theorem fk__law_draw {P : Program} {w : World} {K : PySem.W.Frag} {mg : Str → Option Value} {base : Heap} (T : LC K mg) : ∃ fd, Binds K fd P__law_draw [] ∧ FnOk P w K mg base (L2.CX P w) 1 (He.ga K "_law_draw") fd P__law_draw (sp_draw) ∧ PySem.W.keepIn K (.ref (He.ga K "_law_draw")) = true := by
  obtain ⟨fd, F⟩ := F__law_draw T
  exact ⟨fd, (F.bindsN fun _ _ _ _ _ _ us hl => match us, hl with | [_, _], _ => rfl), fd__law_draw T  F, F.kp⟩
theorem G__law_draw {P : Program} {w : World} {K : PySem.W.Frag} {mg : Str → Option Value} {base : Heap} (T : LC K mg) : GFn P w K mg base "_law_draw" 1 P__law_draw (sp_draw) := by
  obtain ⟨fd, b, F, kp⟩ := fk__law_draw (P := P) (w := w) (base := base) T 
  exact ⟨_, fd, g__law_draw T, kp, b, F⟩

def sp_wants (K : PySem.W.Frag) : Sp := fun vs H Q _ => ∃ (F : Hp) (p : Addr) (n m : Int), vs = [.ref p, .int n, .int m] ∧ Xt F H ∧ F p = none ∧ PoolAt H p ∧ 0 ≤ n ∧ n ≤ 1000 ∧ 0 ≤ m ∧ m < 2 ^ 100 ∧
  ∀ u F' H' xs, Gr [p] F H F' H' → PoolAt H' p → F' p = none → Ld K F' u xs → xs.length = n.toNat → (∀ x ∈ xs, 0 ≤ x ∧ x ≤ m) → Q u H'
theorem fd__law_wants {P : Program} {w : World} {K : PySem.W.Frag} {mg : Str → Option Value} {base : Heap} (T : LC K mg) (G__law_draw : GFn P w K mg base "_law_draw" 1 P__law_draw (sp_draw)) {fd : FuncData} (F : FunD K "_law_wants" "_law_wants" (defArgs s__law_wants) (defBody s__law_wants) (defScope s__law_wants) [] [] (He.ga K "_law_wants") fd) : FnOk P w K mg base (L2.CX P w) 2 (He.ga K "_law_wants") fd P__law_wants (sp_wants K) := by
  refine F.ok sc__law_wants (fun vs H Q E h => by repeat' (first | (obtain ⟨rfl, _⟩ := h; rfl) | (obtain ⟨_, h⟩ := h))) fun cdv A outer s H vs Q E hr h => ?_
  refine ⟨_, (pss_one (ps_ret (pe_lc (own := [("night", 3)]) rfl sc__law_wants.nd (pi_range1 rfl (f_range T) (pa_cons (pv 1) pa_nil)) (blkOk_r (by rfl)) (fun _ _ _ _ _ => (pg_name (i := 3) sc__law_wants.nd rfl (Or.inl rfl))) (fun _ _ _ _ _ => pts_nil) (fun _ _ _ _ _ => (pe_g G__law_draw (hr.mono (by decide)) takes0 (pa_cons (pv 0) (pa_cons (pe_op (kAdd K) (pv 2) pe_int) pa_nil))))))), ?_⟩
  obtain ⟨F, p, n, m, rfl, e0, hF, hp, hn0, hn1, hm0, hm1, hQ⟩ := h
  have hps := hp.some
  walk_at "rd"
  refine q_i1 (by omega) (by omega) ?_
  intro D hD
  have hpD : p ≠ D := fun e => hps (by rw [e]; exact hD)
  refine lc_feed (K := K) (S := [p]) (F := F) (β := Int) feed_rng (fun i ys F' H' => PoolAt H' p ∧ F' p = none ∧ ys.length = i ∧ ∀ x ∈ ys, 0 ≤ x ∧ x ≤ m) e0 hD (fun q hq => by rw [List.mem_singleton.mp hq]; exact hps) (by rw [rng_length, sizeLine_eq]; omega)
    (fun H' g => ⟨by walk_at "pool", hF, rfl, fun _ h => nomatch h⟩) (fun i hi ys F1 H1 x F2 H2 T1 N g1 mm hI g2 rx k1 k2 => ?_) (fun ys F1 F2 H2 g1 hI e1 nn g2 l => ?_)
  · obtain ⟨hp1, hf1, hl, hb⟩ := hI
    walk_at "rd"
    refine ⟨F2, p, m + 1, rfl, by walk_at "xt", by walk_at "fn", by walk_at "pool", by omega, by omega, fun v H3 h0 h1 g3 hp3 => ?_⟩
    refine k1 _ F2 H3 v g3.gr (rp_int _) fun H4 g4 => ⟨hp3.gr g4.gr (by walk_at "nm"), by walk_at "fn", by simp [hl], fun y hy => ?_⟩
    rcases List.mem_append.mp hy with e | e
    · exact hb y e
    · rw [List.mem_singleton.mp e]; omega
  · obtain ⟨hp1, hf1, hl, hb⟩ := hI
    rw [rng_length] at hl
    walk_at "rd"
    exact hQ _ F2 H2 ys g2 hp1 (nn p hpD hf1) l hl hb
theorem fk__law_wants {P : Program} {w : World} {K : PySem.W.Frag} {mg : Str → Option Value} {base : Heap} (T : LC K mg) (G__law_draw : GFn P w K mg base "_law_draw" 1 P__law_draw (sp_draw)) : ∃ fd, Binds K fd P__law_wants [] ∧ FnOk P w K mg base (L2.CX P w) 2 (He.ga K "_law_wants") fd P__law_wants (sp_wants K) ∧ PySem.W.keepIn K (.ref (He.ga K "_law_wants")) = true := by
  obtain ⟨fd, F⟩ := F__law_wants T
  exact ⟨fd, (F.bindsN fun _ _ _ _ _ _ us hl => match us, hl with | [_, _, _], _ => rfl), fd__law_wants T G__law_draw F, F.kp⟩
theorem G__law_wants {P : Program} {w : World} {K : PySem.W.Frag} {mg : Str → Option Value} {base : Heap} (T : LC K mg) (G__law_draw : GFn P w K mg base "_law_draw" 1 P__law_draw (sp_draw)) : GFn P w K mg base "_law_wants" 2 P__law_wants (sp_wants K) := by
  obtain ⟨fd, b, F, kp⟩ := fk__law_wants (P := P) (w := w) (base := base) T G__law_draw
  exact ⟨_, fd, g__law_wants T, kp, b, F⟩

def sp_weeks : Sp := fun vs H Q _ => ∃ (F : Hp) (p : Addr), vs = [.ref p] ∧ Xt F H ∧ F p = none ∧ PoolAt H p ∧
  ∀ (v : Int) H', 0 ≤ v → v ≤ 1000000000000000000 → Gr [p] F H F H' → PoolAt H' p → Q (.int v) H'
theorem fd__law_weeks {P : Program} {w : World} {K : PySem.W.Frag} {mg : Str → Option Value} {base : Heap} (T : LC K mg) (G__law_draw : GFn P w K mg base "_law_draw" 1 P__law_draw (sp_draw)) {fd : FuncData} (F : FunD K "_law_weeks" "_law_weeks" (defArgs s__law_weeks) (defBody s__law_weeks) (defScope s__law_weeks) [] [] (He.ga K "_law_weeks") fd) : FnOk P w K mg base (L2.CX P w) 2 (He.ga K "_law_weeks") fd P__law_weeks (sp_weeks) := by
  refine F.ok sc__law_weeks (fun vs H Q E h => by repeat' (first | (obtain ⟨rfl, _⟩ := h; rfl) | (obtain ⟨_, h⟩ := h))) fun cdv A outer s H vs Q E hr h => ?_
  refine ⟨_, (pss_cons (ps_set (i := 1) sc__law_weeks.nd rfl (Or.inl rfl) (pe_g G__law_draw (hr.mono (by decide)) (takes_of rfl rfl rfl rfl) (pa_cons (pv 0) (pa_cons pe_int pa_nil))))
      (pss_cons (ps_if (pt_cmpR (kEq K (hu65 hr)) (pv 1) pe_int (nomark _)) (pss_one (ps_ret (pe_g G__law_draw (hr.mono (by decide)) (takes_of rfl rfl rfl rfl) (pa_cons (pv 0) (pa_cons pe_int pa_nil))))) pss_nil)
      (pss_cons (ps_if (pt_cmpR (kEq K (hu65 hr)) (pe_g G__law_draw (hr.mono (by decide)) (takes_of rfl rfl rfl rfl) (pa_cons (pv 0) (pa_cons pe_int pa_nil))) pe_int (nomark _)) (pss_one (ps_ret (pe_op op_pow pe_int pe_int))) pss_nil)
      (pss_one (ps_ret (pe_op (kAdd K) (pe_g G__law_draw (hr.mono (by decide)) (takes_of rfl rfl rfl rfl) (pa_cons (pv 0) (pa_cons (pe_op op_pow pe_int pe_int) pa_nil))) (pe_op (kMul K) (pe_op op_pow pe_int pe_int) (pe_g G__law_draw (hr.mono (by decide)) (takes_of rfl rfl rfl rfl) (pa_cons (pv 0) (pa_cons (pe_op op_pow pe_int pe_int) pa_nil)))))))))), ?_⟩
  obtain ⟨F, p, rfl, e0, hF, hp, hQ⟩ := h
  walk_at "rd"
  refine ⟨F, p, 3, rfl, by walk_at "xt", hF, by walk_at "pool", by omega, by omega, fun v1 H1 a1 b1 g1 hp1 => ?_⟩
  walk_at "rd"
  refine iteD (fun c1 => ?_) (fun c1 => ?_)
  · walk_at "rd"
    refine ⟨F, p, 41, rfl, by walk_at "xt", hF, by walk_at "pool", by omega, by omega, fun v2 H2 a2 b2 g2 hp2 => ?_⟩
    exact hQ _ _ a2 (by omega) (by walk_at "gr") hp2
  · walk_at "rd"
    refine ⟨F, p, 16, rfl, by walk_at "xt", hF, by walk_at "pool", by omega, by omega, fun v2 H2 a2 b2 g2 hp2 => ?_⟩
    walk_at "rd"
    refine iteD (fun c2 => ?_) (fun c2 => ?_)
    · walk_at "rd"
      exact hQ _ _ (by omega) (by omega) (by walk_at "gr") hp2
    · walk_at "rd"
      refine ⟨F, p, _, rfl, by walk_at "xt", hF, by walk_at "pool", by omega, by omega, fun v3 H3 a3 b3 g3 hp3 => ?_⟩
      walk_at "rd"
      refine ⟨F, p, _, rfl, by walk_at "xt", hF, by walk_at "pool", by omega, by omega, fun v4 H4 a4 b4 g4 hp4 => ?_⟩
      walk_at "rd"
      exact hQ _ _ (by omega) (by omega) (by walk_at "gr") hp4
theorem fk__law_weeks {P : Program} {w : World} {K : PySem.W.Frag} {mg : Str → Option Value} {base : Heap} (T : LC K mg) (G__law_draw : GFn P w K mg base "_law_draw" 1 P__law_draw (sp_draw)) : ∃ fd, Binds K fd P__law_weeks [] ∧ FnOk P w K mg base (L2.CX P w) 2 (He.ga K "_law_weeks") fd P__law_weeks (sp_weeks) ∧ PySem.W.keepIn K (.ref (He.ga K "_law_weeks")) = true := by
  obtain ⟨fd, F⟩ := F__law_weeks T
  exact ⟨fd, (F.bindsN fun _ _ _ _ _ _ us hl => match us, hl with | [_], _ => rfl), fd__law_weeks T G__law_draw F, F.kp⟩
theorem G__law_weeks {P : Program} {w : World} {K : PySem.W.Frag} {mg : Str → Option Value} {base : Heap} (T : LC K mg) (G__law_draw : GFn P w K mg base "_law_draw" 1 P__law_draw (sp_draw)) : GFn P w K mg base "_law_weeks" 2 P__law_weeks (sp_weeks) := by
  obtain ⟨fd, b, F, kp⟩ := fk__law_weeks (P := P) (w := w) (base := base) T G__law_draw
  exact ⟨_, fd, g__law_weeks T, kp, b, F⟩

def sp_int : Sp := fun vs H Q _ => ∃ i : Int, vs = [.int i] ∧ Q (.bl true) H
theorem fd__law_int {P : Program} {w : World} {K : PySem.W.Frag} {mg : Str → Option Value} {base : Heap} (T : LC K mg) {fd : FuncData} (F : FunD K "_law_int" "_law_int" (defArgs s__law_int) (defBody s__law_int) (defScope s__law_int) [] [] (He.ga K "_law_int") fd) : FnOk P w K mg base (L2.CX P w) 1 (He.ga K "_law_int") fd P__law_int (sp_int) := by
  refine F.ok sc__law_int (fun vs H Q E h => by repeat' (first | (obtain ⟨rfl, _⟩ := h; rfl) | (obtain ⟨_, h⟩ := h))) fun cdv A outer s H vs Q E hr h => ?_
  refine ⟨_, (pss_one (ps_ret (pe_and (pe_callB (kIsi K) (by rfl) (f_isinstance T) (by decide +kernel) (pa_cons (pv 0) (pa_cons (pe_bltn (u := .type "int") (v := .ty "int") (by rfl) (f_int T) (by decide +kernel) rfl) pa_nil))) (pe_one (pe_not (pe_callB (kIsi K) (by rfl) (f_isinstance T) (by decide +kernel) (pa_cons (pv 0) (pa_cons (pe_bltn (u := .type "bool") (v := .ty "bool") (by rfl) (f_bool T) (by decide +kernel) rfl) pa_nil)))))))), ?_⟩
  obtain ⟨i, rfl, hQ⟩ := h
  walk_at "rd"
  exact hQ
theorem fk__law_int {P : Program} {w : World} {K : PySem.W.Frag} {mg : Str → Option Value} {base : Heap} (T : LC K mg) : ∃ fd, Binds K fd P__law_int [] ∧ FnOk P w K mg base (L2.CX P w) 1 (He.ga K "_law_int") fd P__law_int (sp_int) ∧ PySem.W.keepIn K (.ref (He.ga K "_law_int")) = true := by
  obtain ⟨fd, F⟩ := F__law_int T
  exact ⟨fd, (F.bindsN fun _ _ _ _ _ _ us hl => match us, hl with | [_], _ => rfl), fd__law_int T  F, F.kp⟩
theorem G__law_int {P : Program} {w : World} {K : PySem.W.Frag} {mg : Str → Option Value} {base : Heap} (T : LC K mg) : GFn P w K mg base "_law_int" 1 P__law_int (sp_int) := by
  obtain ⟨fd, b, F, kp⟩ := fk__law_int (P := P) (w := w) (base := base) T 
  exact ⟨_, fd, g__law_int T, kp, b, F⟩

def sp_one (K : PySem.W.Frag) : Sp := fun vs H Q _ => ∃ (F : Hp) (v w : V) (p : Int) (run recent : List Int), vs = [v, w, .int p] ∧ Xt F H ∧ Rp K F v run ∧ Rp K F w recent ∧ run.length ≤ 60 ∧ recent.length ≤ 60 ∧
  ∀ u F' H' r w', Gr [] F H F' H' → u = .ref r → F' r = some (.lst [.int (fcWeek run recent p).1, w']) → Ld K F' w' (fcWeek run recent p).2 → Q u H'
theorem fd__law_one_week {P : Program} {w : World} {K : PySem.W.Frag} {mg : Str → Option Value} {base : Heap} (T : LC K mg) {fd : FuncData} (F : FunD K "_law_one_week" "_law_one_week" (defArgs s__law_one_week) (defBody s__law_one_week) (defScope s__law_one_week) [] [] (He.ga K "_law_one_week") fd) : FnOk P w K mg base (L2.CX P w) 1 (He.ga K "_law_one_week") fd P__law_one_week (sp_one K) := by
  refine F.ok sc__law_one_week (fun vs H Q E h => by repeat' (first | (obtain ⟨rfl, _⟩ := h; rfl) | (obtain ⟨_, h⟩ := h))) fun cdv A outer s H vs Q E hr h => ?_
  refine ⟨_, (pss_cons (ps_set (i := 3) sc__law_one_week.nd rfl (Or.inl rfl) (pe_callTy (kList K) (by rfl) (f_list T) (by decide +kernel) (pa_cons (pv 1) pa_nil)))
      (pss_cons (ps_set (i := 4) sc__law_one_week.nd rfl (Or.inl rfl) pe_int)
      (pss_cons (ps_for (passes_of rfl) rfl (kiList K (pv 0)) (pg_name (i := 5) sc__law_one_week.nd rfl (Or.inl rfl)) (pss_cons (ps_set (i := 6) sc__law_one_week.nd rfl (Or.inl rfl) (pe_callB (cy_min2 rfl) (by rfl) (f_min T) (by decide +kernel) (pa_cons (pe_callTy cy_int (by rfl) (f_int T) (by decide +kernel) (pa_cons (pv 5) pa_nil)) (pa_cons (pe_op op_sub (pv 2) (pe_callB (kSum K rfl) (by rfl) (f_sum T) (by decide +kernel) (pa_cons (pv 3) pa_nil))) pa_nil))))
      (pss_cons (ps_set (i := 4) sc__law_one_week.nd rfl (Or.inl rfl) (pe_op (kAdd K) (pv 4) (pv 6)))
      (pss_cons (ps_expr (kBm K PySem.F.plainAttrs_list PySem.F.slot_list_append PySem.F.type_list_append mt_append (pv 3) (pa_cons (pv 6) pa_nil)))
      (pss_one (ps_set (i := 3) sc__law_one_week.nd rfl (Or.inl rfl) (pe_slice (kSl K) (pv 3) (po_some pe_int) po_none)))))))
      (pss_one (ps_ret (pe_lst (pa_cons (pv 4) (pa_cons (pv 3) pa_nil)))))))), ?_⟩
  obtain ⟨F, v, w', p, run, recent, rfl, e0, hv, hw, hl, hl2, hQ⟩ := h
  walk_at "rd"
  refine q_listM (F := F) (by walk_at "sees") (Xt.refl _) (by walk_at "xt") fun q H1 n1 g1 m1 => ?_
  walk_at "rd"
  refine q_iL (F := F) (by walk_at "rp") (by walk_at "xt") fun a fd => ?_
  obtain ⟨W, hW⟩ : ∃ W : Nat → Rn.St → Hp → Hp → Prop, W = fun (i : Nat) (σ : Rn.St) (F' H' : Hp) => ∃ (q : Addr) (x5 x6 : Option V), Gr [] F H F' H' ∧ H q = none ∧ Mu K F' H' q ((run.take i).foldl (fcStep p) (0, recent)).2 ∧ σ = [some v, some w', some (.int p), some (.ref q), some (.int ((run.take i).foldl (fcStep p) (0, recent)).1), x5, x6] := ⟨_, rfl⟩
  refine for_feed fd W (by rw [hW]; exact ⟨q, _, _, by walk_at "gr", n1, m1, rfl⟩) (fun i σ F' H' hi h => by rw [hW] at h; obtain ⟨_, _, _, h, _⟩ := h; exact ⟨h.ff, h.fh⟩) (fun i hi x σ F2 H2 F3 H3 hN g3 rx => ?_) (fun σ F' H' hN => ?_)
  · rw [hW] at hN
    obtain ⟨q, x5, x6, gg, nq, mm, rfl⟩ := hN
    obtain rfl := rx.int
    have hlen : ((run.take i).foldl (fcStep p) (0, recent)).2.length ≤ 60 := by
      rw [fcFold_len]
      exact hl2
    generalize hs : (run.take i).foldl (fcStep p) (0, recent) = s at mm hlen
    obtain ⟨k, c⟩ := s
    have mm3 := mm.gr0 g3
    walk_at "rd"
    refine q_app (by walk_at "mu") (by walk_at "xt") (by walk_at "rp") (by rw [sizeLine_eq]; omega) fun H4 g4 m4 => ?_
    walk_at "rd"
    refine q_slM (F := F3) (by walk_at "sees") (Xt.refl _) (by walk_at "xt") fun q2 H5 n5 g5 m5 => ?_
    walk_at "rd"
    refine ⟨F3, ?_⟩
    rw [hW]
    refine ⟨q2, some (.int run[i]), some (.int (min run[i] (p - c.sum))), by walk_at "gr", by walk_at "no", ?_, ?_⟩
    · rw [foldl_take _ _ hi, hs]
      rw [cutL_from (by omega)] at m5
      exact m5
    · rw [foldl_take _ _ hi, hs]
      rfl
  · rw [hW] at hN
    obtain ⟨q, x5, x6, gg, nq, mm, rfl⟩ := hN
    rw [List.take_length] at mm ⊢
    obtain ⟨F5, e5, x5', l5, k5, _⟩ := mm.frz gg.fh
    have g5 := k5 _ _ _ gg nq
    walk_at "rd"
    refine q_newF (F := F5) (by walk_at "xt") fun r F6 H6 n6 g6 h6 => ?_
    exact hQ _ F6 H6 r _ (by walk_at "gr") rfl h6 (l5.ext g6.ff)
theorem fk__law_one_week {P : Program} {w : World} {K : PySem.W.Frag} {mg : Str → Option Value} {base : Heap} (T : LC K mg) : ∃ fd, Binds K fd P__law_one_week [] ∧ FnOk P w K mg base (L2.CX P w) 1 (He.ga K "_law_one_week") fd P__law_one_week (sp_one K) ∧ PySem.W.keepIn K (.ref (He.ga K "_law_one_week")) = true := by
  obtain ⟨fd, F⟩ := F__law_one_week T
  exact ⟨fd, (F.bindsN fun _ _ _ _ _ _ us hl => match us, hl with | [_, _, _], _ => rfl), fd__law_one_week T  F, F.kp⟩
theorem G__law_one_week {P : Program} {w : World} {K : PySem.W.Frag} {mg : Str → Option Value} {base : Heap} (T : LC K mg) : GFn P w K mg base "_law_one_week" 1 P__law_one_week (sp_one K) := by
  obtain ⟨fd, b, F, kp⟩ := fk__law_one_week (P := P) (w := w) (base := base) T 
  exact ⟨_, fd, g__law_one_week T, kp, b, F⟩

def sp_rounds (K : PySem.W.Frag) : Sp := fun vs H Q _ => ∃ (F : Hp) (v : V) (gap p m : Int) (run : List Int), vs = [v, .int gap, .int p] ∧ Xt F H ∧ Rp K F v run ∧ run.length ≤ 60 ∧ 0 ≤ gap ∧ gap ≤ 60 ∧ 0 ≤ p ∧ 0 ≤ m ∧ (∀ w ∈ run, 0 ≤ w ∧ w ≤ m) ∧ (m.toNat + 1) ^ gap.toNat ≤ 625 ∧
  ∀ u F' H' r w' f sums, Gr [] F H F' H' → u = .ref r → F' r = some (.lst [.int (f : Nat), w']) → Ld K F' w' sums → Rounds run gap.toNat p f sums → Q u H'
theorem fd__law_rounds {P : Program} {w : World} {K : PySem.W.Frag} {mg : Str → Option Value} {base : Heap} (T : LC K mg) (G__law_one_week : GFn P w K mg base "_law_one_week" 1 P__law_one_week (sp_one K)) {fd : FuncData} (F : FunD K "_law_rounds" "_law_rounds" (defArgs s__law_rounds) (defBody s__law_rounds) (defScope s__law_rounds) [] [] (He.ga K "_law_rounds") fd) : FnOk P w K mg base (L2.CX P w) 2 (He.ga K "_law_rounds") fd P__law_rounds (sp_rounds K) := by
  refine F.ok sc__law_rounds (fun vs H Q E h => by repeat' (first | (obtain ⟨rfl, _⟩ := h; rfl) | (obtain ⟨_, h⟩ := h))) fun cdv A outer s H vs Q E hr h => ?_
  refine ⟨_, (pss_cons (ps_set (i := 3) sc__law_rounds.nd rfl (Or.inl rfl) (pe_op (kMul K) (pe_lst (pa_cons pe_int pa_nil)) (pv 1)))
      (pss_cons (ps_set (i := 4) sc__law_rounds.nd rfl (Or.inl rfl) (pe_lst pa_nil))
      (pss_cons (ps_set (i := 5) sc__law_rounds.nd rfl (Or.inl rfl) (pe_lst (pa_cons pe_int pa_nil)))
      (pss_cons (ps_for (passes_of rfl) rfl (pi_range1 rfl (f_range T) (pa_cons pe_int pa_nil)) (pg_name (i := 6) sc__law_rounds.nd rfl (Or.inl rfl)) (pss_cons (ps_if (pt_cmpR (kIn K (hu65 hr)) (pv 3) (pv 4) (by with_unfolding_all rfl)) (pss_one (ps_ret (pe_lst (pa_cons (kBm K PySem.F.plainAttrs_list PySem.F.slot_list_index PySem.F.type_list_index (kIndex K (hu65 hr)) (pv 4) (pa_cons (pv 3) pa_nil)) (pa_cons (pv 5) pa_nil))))) pss_nil)
      (pss_cons (ps_expr (kBm K PySem.F.plainAttrs_list PySem.F.slot_list_append PySem.F.type_list_append mt_append (pv 4) (pa_cons (pv 3) pa_nil)))
      (pss_cons (ps_set (i := 7) sc__law_rounds.nd rfl (Or.inl rfl) (pe_g G__law_one_week (hr.mono (by decide)) (takes_of rfl rfl rfl rfl) (pa_cons (pv 0) (pa_cons (pv 3) (pa_cons (pv 2) pa_nil)))))
      (pss_cons (ps_expr (kBm K PySem.F.plainAttrs_list PySem.F.slot_list_append PySem.F.type_list_append mt_append (pv 5) (pa_cons (pe_op (kAdd K) (pe_ix (kIx K) (pv 5) (pv 6) (fun _ _ => rfl)) (pe_ix (kIx K) (pv 7) pe_int (fun _ _ => rfl))) pa_nil)))
      (pss_one (ps_set (i := 3) sc__law_rounds.nd rfl (Or.inl rfl) (pe_ix (kIx K) (pv 7) pe_int (fun _ _ => rfl)))))))))
      (pss_one (ps_ret (pe_lst (pa_cons pe_int (pa_cons (pv 5) pa_nil))))))))), ?_⟩
  obtain ⟨F, v, gap, p, m, run, rfl, e0, hv, hl, hg0, hg1, hp, hm, hr1, hsmall, hQ⟩ := h
  walk_at "rd"
  refine q_newF (F := F) (by walk_at "xt") fun p1 F1 H1 n1 g1 f1 => ?_
  walk_at "rd"
  refine q_rep1 (F := F1) f1 (rp_int 0) (by walk_at "xt") (by omega) (by omega) fun p2 F2 H2 n2 g2 l2 => ?_
  walk_at "rd"
  refine q_newM (F := F2) (by walk_at "xt") fun q H3 n3 g3 f3 h3 => ?_
  have m3 : Mu K F2 H3 q ([] : List (List Int)) := ⟨f3, [], h3, .nil⟩
  walk_at "rd"
  refine q_newM (F := F2) (by walk_at "xt") fun q' H4 n4 g4 f4 h4 => ?_
  have m4 : Mu K F2 H4 q' [(0 : Int)] := ⟨f4, _, h4, RpA.cons (rp_int 0) RpA.nil⟩
  have nq : H q = none := by walk_at "no"
  have nq' : H q' = none := by walk_at "no"
  have hqq : q ≠ q' := fun e => by rw [← e, h3] at n4; cases n4
  have m3' : Mu K F2 H4 q ([] : List (List Int)) := m3.gr0 g4.gr
  have gg4 : Gr [] F H F2 H4 := by walk_at "gr"
  walk_at "rd"
  refine q_i1 (by omega) (by omega) ?_
  let A : Nat → Int × List Int := fcAt run gap.toNat p
  obtain ⟨W, hW⟩ : ∃ W : Nat → Rn.St → Hp → Hp → Prop, W = fun (i : Nat) (σ : Rn.St) (F' H' : Hp) => ∃ (rv : V) (x6 x7 : Option V), Gr [] F H F' H' ∧ i ≤ 700 ∧ ((List.range i).map fun k => (A k).2).Nodup ∧ Ld K F' rv (A i).2 ∧ Mu K F' H' q ((List.range i).map fun k => (A k).2) ∧ Mu K F' H' q' ((List.range (i + 1)).map fun k => (A k).1) ∧ σ = [some v, some (.int gap), some (.int p), some rv, some (.ref q), some (.ref q'), x6, x7] := ⟨_, rfl⟩
  have few : ∀ i, ((List.range i).map fun k => (A k).2).Nodup → i ≤ 625 := fun i nd => by
    have := few_states (p := p) (m := m) (gap := gap.toNat) hm nd fun c hc => by
      obtain ⟨k, _, rfl⟩ := List.mem_map.mp hc
      exact fcAt_ok hp hm hr1 k
    rw [List.length_map, List.length_range] at this
    omega
  refine for_feed (K := K) (F := F) (F0 := F2) feed_rng W ?_ (fun i σ F' H' hi h => ?_) (fun i hi x σ F5 H5 F6 H6 hN g6 rx => ?_) (fun σ F' H' hN => ?_)
  · rw [hW]
    exact ⟨_, _, _, gg4, by omega, List.nodup_nil, l2, m3', m4, rfl⟩
  · rw [hW] at h
    obtain ⟨_, _, _, h, _⟩ := h
    exact ⟨h.ff, h.fh⟩
  · rw [hW] at hN
    obtain ⟨rv, x6, x7, g5, h700, nd, lr, mq, mq', rfl⟩ := hN
    rw [rng_length] at hi
    have hi2 : i < 700 := hi
    have ei : (rng 0 (Int.toNat 700))[i]'(by rw [rng_length]; exact hi) = (i : Int) := by
      have q := rng_at (lo := 0) (n := Int.toNat 700) (i := i) hi
      obtain ⟨_, q⟩ := List.getElem?_eq_some_iff.mp q
      rw [q]
      omega
    rw [ei] at rx
    obtain rfl := rx.int
    have ok := fcAt_ok (gap := gap.toNat) hp hm hr1 i
    have mq6 := mq.gr0 g6
    have mq6' := mq'.gr0 g6
    have lr6 := lr.ext g6.ff
    have hlen1 : ((List.range i).map fun k => (A k).2).length = i := by simp
    have hlen2 : ((List.range (i + 1)).map fun k => (A k).1).length = i + 1 := by simp
    walk_at "rd"
    refine q_in (F := F6) (by walk_at "rp") (by walk_at "sees") (by walk_at "xt") (by walk_at "xt") (by decide) ?_
    walk_at "rd"
    refine iteD (fun c => ?_) (fun c => ?_)
    · walk_at "rd"
      refine q_index (F := F6) (by walk_at "rp") (by walk_at "sees") (by walk_at "xt") (by walk_at "xt") (by decide) c fun j hj => ?_
      walk_at "rd"
      obtain ⟨F7, e7, x7', l7, k7, _⟩ := mq6'.frz g6.fh
      have gg7 := k7 _ _ _ (g5.tr0 g6) nq'
      refine q_newF (F := F7) (by walk_at "xt") fun r F8 H8 n8 g8 h8 => ?_
      walk_at "rd"
      have hj2 : j < i := by
        have := (List.getElem?_eq_some_iff.mp hj).1
        rw [hlen1] at this
        exact this
      refine hQ _ F8 H8 r _ j _ (gg7.tr0 g8) rfl h8 (l7.ext g8.ff) ⟨i, hj2, by omega, rfl, ?_⟩
      rw [List.getElem?_map, List.getElem?_range hj2] at hj
      exact (Option.some.inj hj).symm
    · walk_at "rd"
      refine q_app mq6 (by walk_at "xt") (by walk_at "rp") (by rw [hlen1, sizeLine_eq]; omega) fun H7 g7 m7 => ?_
      have m7' := mq6'.gr g7.gr (by walk_at "nm")
      walk_at "rd"
      refine ⟨F6, _, _, p, run, (A i).2, rfl, by walk_at "xt", by walk_at "rp", by walk_at "rp", hl, by rw [ok.len]; omega, fun u F8 H8 r w8 g8 hu h8 l8 => ?_⟩
      subst hu
      have m8 := m7.gr0 g8
      have m8' := m7'.gr0 g8
      walk_at "rd"
      refine q_app m8' (by walk_at "xt") (by walk_at "rp") (by rw [hlen2, sizeLine_eq]; omega) fun H9 g9 m9' => ?_
      have m9 := m8.gr g9.gr (by walk_at "nm")
      walk_at "rd"
      have ea : iat ((List.range (i + 1)).map fun k => (A k).1) (i : Int) = (A i).1 := by
        rw [iat_range (by omega) (by omega)]
        rfl
      refine ⟨F8, ?_⟩
      rw [hW]
      refine ⟨w8, some (.int (i : Int)), some (.ref r), by walk_at "gr", by omega, ?_, l8, ?_, ?_, rfl⟩
      · rw [range_snoc]
        exact nodup_snoc nd c
      · rw [range_snoc]
        exact m9
      · rw [range_snoc]
        rw [ea] at m9'
        exact m9'
  · rw [hW] at hN
    obtain ⟨rv, x6, x7, g5, h700, nd, lr, mq, mq', rfl⟩ := hN
    have := few _ nd
    rw [rng_length] at this
    exact absurd this (by decide)
theorem fk__law_rounds {P : Program} {w : World} {K : PySem.W.Frag} {mg : Str → Option Value} {base : Heap} (T : LC K mg) (G__law_one_week : GFn P w K mg base "_law_one_week" 1 P__law_one_week (sp_one K)) : ∃ fd, Binds K fd P__law_rounds [] ∧ FnOk P w K mg base (L2.CX P w) 2 (He.ga K "_law_rounds") fd P__law_rounds (sp_rounds K) ∧ PySem.W.keepIn K (.ref (He.ga K "_law_rounds")) = true := by
  obtain ⟨fd, F⟩ := F__law_rounds T
  exact ⟨fd, (F.bindsN fun _ _ _ _ _ _ us hl => match us, hl with | [_, _, _], _ => rfl), fd__law_rounds T G__law_one_week F, F.kp⟩
theorem G__law_rounds {P : Program} {w : World} {K : PySem.W.Frag} {mg : Str → Option Value} {base : Heap} (T : LC K mg) (G__law_one_week : GFn P w K mg base "_law_one_week" 1 P__law_one_week (sp_one K)) : GFn P w K mg base "_law_rounds" 2 P__law_rounds (sp_rounds K) := by
  obtain ⟨fd, b, F, kp⟩ := fk__law_rounds (P := P) (w := w) (base := base) T G__law_one_week
  exact ⟨_, fd, g__law_rounds T, kp, b, F⟩

def sp_lkept (K : PySem.W.Frag) : Sp := fun vs H Q _ => ∃ (F : Hp) (r : Addr) (w' : V) (weeks : Int) (f : Nat) (sums : List Int), vs = [.ref r, .int weeks] ∧ Xt F H ∧ F r = some (.lst [.int f, w']) ∧ Rp K F w' sums ∧ (f : Int) < (sums.length : Int) - 1 ∧ sums.length ≤ 701 ∧ 0 ≤ weeks ∧ weeks ≤ 1000000000000000000 ∧
  (∀ x ∈ sums, 0 ≤ x ∧ x ≤ 2 ^ 60) ∧ Q (.int (lawKept f sums weeks)) H
theorem fd__law_kept {P : Program} {w : World} {K : PySem.W.Frag} {mg : Str → Option Value} {base : Heap} (T : LC K mg) {fd : FuncData} (F : FunD K "_law_kept" "_law_kept" (defArgs s__law_kept) (defBody s__law_kept) (defScope s__law_kept) [] [] (He.ga K "_law_kept") fd) : FnOk P w K mg base (L2.CX P w) 1 (He.ga K "_law_kept") fd P__law_kept (sp_lkept K) := by
  refine F.ok sc__law_kept (fun vs H Q E h => by repeat' (first | (obtain ⟨rfl, _⟩ := h; rfl) | (obtain ⟨_, h⟩ := h))) fun cdv A outer s H vs Q E hr h => ?_
  refine ⟨_, (pss_cons (ps_set (i := 2) sc__law_kept.nd rfl (Or.inl rfl) (pe_ix (kIx K) (pv 0) pe_int (fun _ _ => rfl)))
      (pss_cons (ps_set (i := 3) sc__law_kept.nd rfl (Or.inl rfl) (pe_ix (kIx K) (pv 0) pe_int (fun _ _ => rfl)))
      (pss_cons (ps_if (pt_cmpR op_lt (pv 1) (pe_callB (kLen K) (by rfl) (f_len T) PySem.boot_len (pa_cons (pv 3) pa_nil)) (nomark _)) (pss_one (ps_ret (pe_ix (kIx K) (pv 3) (pv 1) (fun _ _ => rfl)))) pss_nil)
      (pss_cons (ps_set (i := 4) sc__law_kept.nd rfl (Or.inl rfl) (pe_op op_sub (pe_op op_sub (pe_callB (kLen K) (by rfl) (f_len T) PySem.boot_len (pa_cons (pv 3) pa_nil)) pe_int) (pv 2)))
      (pss_cons (ps_set (i := 5) sc__law_kept.nd rfl (Or.inl rfl) (pe_op op_sub (pe_ix (kIx K) (pv 3) (pe_un un_neg pe_int) (fun _ _ => rfl)) (pe_ix (kIx K) (pv 3) (pv 2) (fun _ _ => rfl))))
      (pss_cons (ps_set (i := 6) sc__law_kept.nd rfl (Or.inl rfl) (pe_op op_sub (pv 1) (pv 2)))
      (pss_one (ps_ret (pe_op (kAdd K) (pe_ix (kIx K) (pv 3) (pe_op (kAdd K) (pv 2) (pe_op op_modZ (pe_callTy cy_int (by rfl) (f_int T) (by decide +kernel) (pa_cons (pv 6) pa_nil)) (pv 4))) (fun _ _ => rfl)) (pe_op (kMul K) (pe_op op_divZ (pv 6) (pv 4)) (pv 5))))))))))), ?_⟩
  obtain ⟨F, r, w', weeks, f, sums, rfl, e0, hr', hw, hf, hl, hw0, hw1, hb, hQ⟩ := h
  have hne : sums ≠ [] := fun e => by rw [e] at hf; simp at hf; omega
  have eg : sums.getLast hne = iat sums ((sums.length : Int) - 1) := by
    unfold iat
    rw [List.getLast_eq_getElem, getD_el (by omega)]
    congr 1
    omega
  have hm0 := Int.emod_nonneg (weeks - f) (show (sums.length : Int) - 1 - f ≠ 0 by omega)
  have hm1 := Int.emod_lt_of_pos (weeks - f) (show 0 < (sums.length : Int) - 1 - f by omega)
  have hb1 := hb _ (List.getLast_mem hne)
  have hb2 := hb (iat sums f) (mem_iat (rng_mem.mpr (by omega)))
  walk_at "rd"
  refine iteD (fun c => ?_) (fun c => ?_)
  · walk_at "rd"
    unfold lawKept at hQ
    rw [if_pos c] at hQ
    exact hQ
  · walk_at "rd"
    refine q_last (by walk_at "sees") hne ?_
    walk_at "rd"
    unfold lawKept at hQ
    rw [if_neg c, ← eg] at hQ
    exact hQ
theorem fk__law_kept {P : Program} {w : World} {K : PySem.W.Frag} {mg : Str → Option Value} {base : Heap} (T : LC K mg) : ∃ fd, Binds K fd P__law_kept [] ∧ FnOk P w K mg base (L2.CX P w) 1 (He.ga K "_law_kept") fd P__law_kept (sp_lkept K) ∧ PySem.W.keepIn K (.ref (He.ga K "_law_kept")) = true := by
  obtain ⟨fd, F⟩ := F__law_kept T
  exact ⟨fd, (F.bindsN fun _ _ _ _ _ _ us hl => match us, hl with | [_, _], _ => rfl), fd__law_kept T  F, F.kp⟩
theorem G__law_kept {P : Program} {w : World} {K : PySem.W.Frag} {mg : Str → Option Value} {base : Heap} (T : LC K mg) : GFn P w K mg base "_law_kept" 1 P__law_kept (sp_lkept K) := by
  obtain ⟨fd, b, F, kp⟩ := fk__law_kept (P := P) (w := w) (base := base) T 
  exact ⟨_, fd, g__law_kept T, kp, b, F⟩

theorem it_Wants {P : Program} {w : World} {K : PySem.W.Frag} {mg : Str → Option Value} (T : LC K mg) : IterC P w K mg (He.ga K "Wants") "numbers" := by
  obtain ⟨fd, F⟩ := F_WantsU_iterU T
  exact ⟨cl_Wants T, na_Wants_numbers T, f_iter T, _, fd, _, _, _, _, _, _, _, _, _, _, (me_WantsU_iterU T).at_, (me_WantsU_iterU T).fn, F, F.bindsN fun _ _ _ _ _ _ us hl => match us, hl with | [_], _ => rfl, sc_WantsU_iterU, rfl, rfl⟩
def sp_wtab (K : PySem.W.Frag) : Sp := fun vs H Q _ => ∃ (F : Hp) (v : V) (p : Int) (run : List Int) (rest : Int), vs = [v, .int p] ∧ Xt F H ∧ IsWeek K F v run rest ∧ 0 ≤ rest ∧ rest ≤ 50 ∧ run.length ≤ 60 ∧
  ∀ u F' H', Gr [] F H F' H' → Ld K F' u (weekTab run rest p) → Q u H'
theorem fd_week_table {P : Program} {w : World} {K : PySem.W.Frag} {mg : Str → Option Value} {base : Heap} (T : LC K mg) {fd : FuncData} (F : FunD K "week_table" "week_table" (defArgs s_week_table) (defBody s_week_table) (defScope s_week_table) [] [] (He.ga K "week_table") fd) : FnOk P w K mg base (L2.CX P w) 3 (He.ga K "week_table") fd P_week_table (sp_wtab K) := by
  refine F.ok sc_week_table (fun vs H Q E h => by repeat' (first | (obtain ⟨rfl, _⟩ := h; rfl) | (obtain ⟨_, h⟩ := h))) fun cdv A outer s H vs Q E hr h => ?_
  refine ⟨_, (pss_cons (ps_set (i := 2) sc_week_table.nd rfl (Or.inr rfl) (pe_op (kAdd K) (kFld K (pv 0) rfl) pe_int))
      (pss_cons (ps_setLc (i := 3) (own := [("one", 8)]) rfl sc_week_table.nd rfl rfl (sw_true rfl rfl rfl (by decide +kernel)) (pi_range1 rfl (f_range T) (pa_cons (pv 2) pa_nil)) (blkOk_r (by rfl)) (fun _ _ _ _ _ => (pg_name (i := 8) sc_week_table.nd rfl (Or.inr rfl))) (fun _ _ _ _ _ => pts_nil) (fun _ _ _ _ _ => (pe_lc (own := [("other", 9)]) rfl sc_week_table.nd (pi_range1 rfl (f_range T) (pa_cons (pv 2) pa_nil)) (blkOk_r (by rfl)) (fun _ _ _ _ _ => (pg_name (i := 9) sc_week_table.nd rfl (Or.inl rfl))) (fun _ _ _ _ _ => pts_nil) (fun _ _ _ _ _ => (pe_ifExp (pt_cmpR (kEq K (hu65 hr)) (pv 8) (pv 9) (nomark _)) pe_int (pe_gi (c_FAR T)))))))
      (pss_cons (ps_for (passes_of rfl) rfl (pi_own (it_Wants (P := P) (w := w) T) (hr.mono (by decide)) (kFld K (pv 0) rfl)) (pg_name (i := 4) sc_week_table.nd rfl (Or.inr rfl)) (pss_cons (ps_set (i := 5) sc_week_table.nd rfl (Or.inr rfl) (pe_ix (kIx K) (pv 3) pe_int (fun _ _ => rfl)))
      (pss_cons (ps_set (i := 6) sc_week_table.nd rfl (Or.inr rfl) (pe_ix (kIx K) (pv 3) (pe_op op_sub (pv 2) pe_int) (fun _ _ => rfl)))
      (pss_cons (ps_setLc (i := 7) (own := [("other", 9)]) rfl sc_week_table.nd rfl rfl (sw_true rfl rfl rfl (by decide +kernel)) (pi_range1 rfl (f_range T) (pa_cons (pv 2) pa_nil)) (blkOk_r (by rfl)) (fun _ _ _ _ _ => (pg_name (i := 9) sc_week_table.nd rfl (Or.inl rfl))) (fun _ _ _ _ _ => pts_nil) (fun _ _ _ _ _ => (pe_callB (cy_min2 rfl) (by rfl) (f_min T) (by decide +kernel) (pa_cons (pe_op (kAdd K) (pe_ix (kIx K) (pv 5) (pv 9) (fun _ _ => rfl)) (pv 4)) (pa_cons (pe_op (kAdd K) (pe_ix (kIx K) (pv 6) (pv 9) (fun _ _ => rfl)) (pv 1)) pa_nil)))))
      (pss_one (ps_set (i := 3) sc_week_table.nd rfl (Or.inl rfl) (pe_op (kAdd K) (pe_lst (pa_cons (pv 7) pa_nil)) (pe_slice (kSl K) (pv 3) po_none (po_some (pe_op op_sub (pv 2) pe_int))))))))))
      (pss_one (ps_ret (pv 3)))))), ?_⟩
  obtain ⟨F, v, pp, run, rest, rfl, e0, ⟨a, dx, r, rfl, ha, hr'⟩, h0, h1, hl, hQ⟩ := h
  obtain ⟨aw, dw, t, rfl, haw, ht⟩ := hr'
  have cW := cl_Week T
  have nW := na_Week_run T
  have nR := na_Week_rest T
  have hn : ((rest.toNat + 1 : Nat) : Int) = rest + 1 := by omega
  have hn2 : (rest + 1).toNat = rest.toNat + 1 := by omega
  walk_at "rd"
  refine q_i1 (by omega) (by omega) ?_
  intro D hD
  refine lc_map (K := K) (F := F) feed_rng (fun one => (rng 0 (rest.toNat + 1)).map fun other => if one = other then 0 else FARI) (by walk_at "xt") hD (by rw [rng_length, sizeLine_eq]; omega) (fun one F2 H2 x F3 H3 T1 hz g2 g3 rx k N => ?_) (fun F2 H2 g2 l => ?_)
  · obtain rfl := rx.int
    walk_at "rd"
    refine q_i1 (by omega) (by omega) ?_
    intro D2 hD2
    refine lc_map (K := K) (F := F3) feed_rng (fun other => if one = other then 0 else FARI) (by walk_at "xt") hD2 (by rw [rng_length, sizeLine_eq]; omega) (fun other F4 H4 y F5 H5 T2 ho g4 g5 ry k2 N2 => ?_) (fun F4 H4 g4 l => ?_)
    · obtain rfl := ry.int
      walk_at "rd"
      refine iteD (fun e => ?_) (fun e => ?_)
      · walk_at "rd"
        exact k2 _ _ _ (by walk_at "gr") (by rw [if_pos e]; exact rp_int _)
      · walk_at "rd"
        exact k2 _ _ _ (by walk_at "gr") (by rw [if_neg e]; exact rp_int _)
    · rw [hn2] at l
      exact k _ _ _ (by walk_at "gr") l.rp
  · rw [hn2] at l
    have l0 : Ld K F2 (.ref D) (tab0 (rest.toNat + 1)) := l
    walk_at "rd"
    let n := rest.toNat + 1
    refine q_iO (haw |> g2.ff _ _) (by rfl) (ht.ext g2.ff) g2.fh fun b fd => ?_
    refine for_feed fd (fun i σ F' H' => Gr [] F2 H2 F' H' ∧ ∃ rw x4 x5 x6 x7 x8 x9, Ld K F' rw ((run.take i).foldl (fun rows w => tabS n pp w rows) (tab0 n)) ∧ σ = [some (.ref a), some (.int pp), some (.int (rest + 1)), some rw, x4, x5, x6, x7, x8, x9]) ⟨Gr.refl g2.fh, _, _, _, _, _, _, _, l0, rfl⟩ (fun i σ F' H' hi h => ⟨h.1.ff, h.1.fh⟩) (fun i hi x σ F3 H3 F4 H4 hN g4 rx => ?_) (fun σ F' H' hN => ?_)
    · obtain ⟨gg, rw', x4, x5, x6, x7, x8, x9, lr, rfl⟩ := hN
      obtain rfl := rx.int
      have hsq : Sq n ((run.take i).foldl (fun rows w => tabS n pp w rows) (tab0 n)) := by
        have q := weekTab_sq (run := run.take i) (rest := rest) (p := pp)
        exact q
      generalize hrows : (run.take i).foldl (fun rows w => tabS n pp w rows) (tab0 n) = rows at lr hsq
      have lr4 := lr.ext g4.ff
      have hlen := hsq.1
      have hnn : n = rest.toNat + 1 := rfl
      walk_at "rd"
      refine q_ix (xs := rows) (by walk_at "sees") (by omega) (by omega) fun un rn => ?_
      walk_at "rd"
      refine q_ix (xs := rows) (by walk_at "sees") (by omega) (by omega) fun uf rf => ?_
      have hl0 := hsq.2 _ (List.getElem_mem (show (0 : Int).toNat < rows.length by omega))
      have hl1 := hsq.2 _ (List.getElem_mem (show (rest + 1 - 1).toNat < rows.length by omega))
      have e0' : rows[(0 : Int).toNat]'(by omega) = rows.getD 0 [] := (getD_el (by omega) []).symm
      have e1' : rows[(rest + 1 - 1).toNat]'(by omega) = rows.getD (n - 1) [] := by
        have q : (rest + 1 - 1).toNat = n - 1 := by omega
        rw [getD_el (show n - 1 < rows.length by omega)]
        congr 1
      rw [e0'] at rn hl0
      rw [e1'] at rf hl1
      walk_at "rd"
      refine q_i1 (by omega) (by omega) ?_
      intro D3 hD3
      refine lc_map (K := K) (F := F4) feed_rng (fun o => min (iat (rows.getD 0 []) o + run[i]) (iat (rows.getD (n - 1) []) o + pp)) (by walk_at "xt") hD3 (by rw [rng_length, sizeLine_eq]; omega) (fun o F5 H5 y F6 H6 T2 ho g5 g6 ry k2 N2 => ?_) (fun F5 H5 g5 l5 => ?_)
      · obtain rfl := ry.int
        obtain ⟨ho1, ho2⟩ := rng_mem.mp ho
        walk_at "rd"
        exact k2 _ _ _ (by walk_at "gr") (by walk_at "rp")
      · rw [hn2] at l5
        have l5' : Ld K F5 (.ref D3) (newest n pp run[i] rows) := l5
        walk_at "rd"
        refine q_newF (F := F5) (by walk_at "xt") fun p1 F6 H6 n6 g6 h6 => ?_
        walk_at "rd"
        refine q_sl (F := F6) (G := F4) (xs := rows) (by walk_at "sees") (by walk_at "xt") (by walk_at "xt") fun p2 F7 H7 n7 g7 l7 => ?_
        have l6 : Ld K F6 (.ref p1) [newest n pp run[i] rows] := ld_of h6 (RpA.cons (l5'.rp.ext g6.ff) RpA.nil)
        refine q_cat (F := F7) (G := F7) (l6.ext g7.ff) l7 (by walk_at "xt") (by walk_at "xt") (by have := cutL_len rows none (some (rest + 1 - 1)); rw [sizeLine_eq]; simp only [List.length_singleton]; omega) fun p3 F8 H8 n8 g8 l8 => ?_
        walk_at "rd"
        refine ⟨F8, by walk_at "gr", _, _, _, _, _, _, _, ?_, rfl⟩
        rw [foldl_take _ _ hi, hrows]
        have ec : [newest n pp run[i] rows] ++ cutL rows none (some (rest + 1 - 1)) = tabS n pp run[i] rows := by
          rw [cutL_to (by omega), show (rest + 1 - 1).toNat = n - 1 by omega]
          rfl
        rw [← ec]
        exact l8
    · obtain ⟨gg, rw', x4, x5, x6, x7, x8, x9, lr, rfl⟩ := hN
      rw [List.take_length] at lr
      walk_at "rd"
      exact hQ _ F' H' (g2.tr0 gg) lr
theorem fk_week_table {P : Program} {w : World} {K : PySem.W.Frag} {mg : Str → Option Value} {base : Heap} (T : LC K mg) : ∃ fd, Binds K fd P_week_table [] ∧ FnOk P w K mg base (L2.CX P w) 3 (He.ga K "week_table") fd P_week_table (sp_wtab K) ∧ PySem.W.keepIn K (.ref (He.ga K "week_table")) = true := by
  obtain ⟨fd, F⟩ := F_week_table T
  exact ⟨fd, (F.bindsN fun _ _ _ _ _ _ us hl => match us, hl with | [_, _], _ => rfl), fd_week_table T  F, F.kp⟩
theorem G_week_table {P : Program} {w : World} {K : PySem.W.Frag} {mg : Str → Option Value} {base : Heap} (T : LC K mg) : GFn P w K mg base "week_table" 3 P_week_table (sp_wtab K) := by
  obtain ⟨fd, b, F, kp⟩ := fk_week_table (P := P) (w := w) (base := base) T 
  exact ⟨_, fd, g_week_table T, kp, b, F⟩

def sp_led (K : PySem.W.Frag) : Sp := fun vs H Q _ => ∃ (F : Hp) (v w : V) (table : List (List Int)) (mosts : List Int), vs = [v, w] ∧ Xt F H ∧ Rp K F v table ∧ Rp K F w mosts ∧ (∀ row ∈ table, row.length = mosts.length) ∧ mosts ≠ [] ∧ mosts.length ≤ 60 ∧ table.length ≤ 60 ∧
  ∀ u F' H', Gr [] F H F' H' → Ld K F' u (led table mosts) → Q u H'
theorem fd_led_over {P : Program} {w : World} {K : PySem.W.Frag} {mg : Str → Option Value} {base : Heap} (T : LC K mg) {fd : FuncData} (F : FunD K "led_over" "led_over" (defArgs s_led_over) (defBody s_led_over) (defScope s_led_over) [] [] (He.ga K "led_over") fd) : FnOk P w K mg base (L2.CX P w) 1 (He.ga K "led_over") fd P_led_over (sp_led K) := by
  refine F.ok sc_led_over (fun vs H Q E h => by repeat' (first | (obtain ⟨rfl, _⟩ := h; rfl) | (obtain ⟨_, h⟩ := h))) fun cdv A outer s H vs Q E hr h => ?_
  refine ⟨_, (pss_one (ps_ret (pe_lc (own := [("row", 2)]) rfl sc_led_over.nd (kiList K (pv 0)) (blkOk_r (by rfl)) (fun _ _ _ _ _ => (pg_name (i := 2) sc_led_over.nd rfl (Or.inr rfl))) (fun _ _ _ _ _ => pts_nil) (fun _ _ _ _ _ => (pe_callB (kMin K rfl) (by rfl) (f_min T) (by decide +kernel) (pa_cons (pe_lc (own := [("other", 3)]) rfl sc_led_over.nd (pi_range1 rfl (f_range T) (pa_cons (pe_callB (kLen K) (by rfl) (f_len T) PySem.boot_len (pa_cons (pv 1) pa_nil)) pa_nil)) (blkOk_r (by rfl)) (fun _ _ _ _ _ => (pg_name (i := 3) sc_led_over.nd rfl (Or.inl rfl))) (fun _ _ _ _ _ => pts_nil) (fun _ _ _ _ _ => (pe_op (kAdd K) (pe_ix (kIx K) (pv 2) (pv 3) (fun _ _ => rfl)) (pe_ix (kIx K) (pv 1) (pv 3) (fun _ _ => rfl))))) pa_nil)))))), ?_⟩
  obtain ⟨F, v, w', table, mosts, rfl, e0, hv, hw, hrow, hne, hm, ht, hQ⟩ := h
  have hpos : 0 < mosts.length := List.length_pos_iff.mpr hne
  walk_at "rd"
  refine q_iL (by walk_at "rp") (by walk_at "xt") fun a fd => ?_
  intro D hD
  refine lc_map fd (fun row => ledRow row mosts) (by walk_at "xt") hD (by rw [sizeLine_eq]; omega) (fun row F2 H2 x F3 H3 T hz g2 g3 r k N => ?_) (fun F2 H2 g2 l => hQ _ F2 H2 g2 l)
  have hr := hrow row hz
  walk_at "rd"
  refine q_i1 (by omega) (by omega) ?_
  intro D2 hD2
  refine lc_map (K := K) (F := F3) feed_rng (fun o => iat row o + iat mosts o) (by walk_at "xt") hD2 (by rw [rng_length, sizeLine_eq]; omega) (fun o F4 H4 y F5 H5 T2 ho g4 g5 ry k2 N2 => ?_) (fun F4 H4 g4 l => ?_)
  · obtain rfl := ry.int
    obtain ⟨ho1, ho2⟩ := rng_mem.mp ho
    walk_at "rd"
    exact k2 _ _ _ (by walk_at "gr") (by walk_at "rp")
  · walk_at "rd"
    rw [Int.toNat_natCast] at l
    exact q_minL (by walk_at "sees") (map_rng_ne hpos) (k _ _ _ (by walk_at "gr") (by walk_at "rp"))
theorem fk_led_over {P : Program} {w : World} {K : PySem.W.Frag} {mg : Str → Option Value} {base : Heap} (T : LC K mg) : ∃ fd, Binds K fd P_led_over [] ∧ FnOk P w K mg base (L2.CX P w) 1 (He.ga K "led_over") fd P_led_over (sp_led K) ∧ PySem.W.keepIn K (.ref (He.ga K "led_over")) = true := by
  obtain ⟨fd, F⟩ := F_led_over T
  exact ⟨fd, (F.bindsN fun _ _ _ _ _ _ us hl => match us, hl with | [_, _], _ => rfl), fd_led_over T  F, F.kp⟩
theorem G_led_over {P : Program} {w : World} {K : PySem.W.Frag} {mg : Str → Option Value} {base : Heap} (T : LC K mg) : GFn P w K mg base "led_over" 1 P_led_over (sp_led K) := by
  obtain ⟨fd, b, F, kp⟩ := fk_led_over (P := P) (w := w) (base := base) T 
  exact ⟨_, fd, g_led_over T, kp, b, F⟩

def sp_join (K : PySem.W.Frag) : Sp := fun vs H Q _ => ∃ (F : Hp) (v w : V) (later earlier : List (List Int)), vs = [v, w] ∧ Xt F H ∧ Rp K F v later ∧ Rp K F w earlier ∧ (∀ row ∈ later, row.length = later.length) ∧ (∀ row ∈ earlier, row.length = later.length) ∧ earlier.length = later.length ∧ 0 < later.length ∧ later.length ≤ 60 ∧
  ∀ u F' H', Gr [] F H F' H' → Ld K F' u (joinT later earlier) → Q u H'
theorem fd_joined_tables {P : Program} {w : World} {K : PySem.W.Frag} {mg : Str → Option Value} {base : Heap} (T : LC K mg) {fd : FuncData} (F : FunD K "joined_tables" "joined_tables" (defArgs s_joined_tables) (defBody s_joined_tables) (defScope s_joined_tables) [] [] (He.ga K "joined_tables") fd) : FnOk P w K mg base (L2.CX P w) 1 (He.ga K "joined_tables") fd P_joined_tables (sp_join K) := by
  refine F.ok sc_joined_tables (fun vs H Q E h => by repeat' (first | (obtain ⟨rfl, _⟩ := h; rfl) | (obtain ⟨_, h⟩ := h))) fun cdv A outer s H vs Q E hr h => ?_
  refine ⟨_, (pss_cons (ps_set (i := 2) sc_joined_tables.nd rfl (Or.inr rfl) (pe_callB (kLen K) (by rfl) (f_len T) PySem.boot_len (pa_cons (pv 0) pa_nil)))
      (pss_cons (ps_set (i := 3) sc_joined_tables.nd rfl (Or.inl rfl) (pe_lst pa_nil))
      (pss_cons (ps_for (passes_of rfl) rfl (kiList K (pv 0)) (pg_name (i := 4) sc_joined_tables.nd rfl (Or.inr rfl)) (pss_one (ps_expr (kBm K PySem.F.plainAttrs_list PySem.F.slot_list_append PySem.F.type_list_append mt_append (pv 3) (pa_cons (pe_lc (own := [("other", 5)]) rfl sc_joined_tables.nd (pi_range1 rfl (f_range T) (pa_cons (pv 2) pa_nil)) (blkOk_r (by rfl)) (fun _ _ _ _ _ => (pg_name (i := 5) sc_joined_tables.nd rfl (Or.inr rfl))) (fun _ _ _ _ _ => pts_nil) (fun _ _ _ _ _ => (pe_callB (kMin K rfl) (by rfl) (f_min T) (by decide +kernel) (pa_cons (pe_lc (own := [("place", 6)]) rfl sc_joined_tables.nd (pi_range1 rfl (f_range T) (pa_cons (pv 2) pa_nil)) (blkOk_r (by rfl)) (fun _ _ _ _ _ => (pg_name (i := 6) sc_joined_tables.nd rfl (Or.inl rfl))) (fun _ _ _ _ _ => pts_nil) (fun _ _ _ _ _ => (pe_op (kAdd K) (pe_ix (kIx K) (pv 4) (pv 6) (fun _ _ => rfl)) (pe_ix (kIx K) (pe_ix (kIx K) (pv 1) (pv 6) (fun _ _ => rfl)) (pv 5) (fun _ _ => rfl))))) pa_nil)))) pa_nil)))))
      (pss_one (ps_ret (pv 3)))))), ?_⟩
  obtain ⟨F, v, w', later, earlier, rfl, e0, hv, hw, hrow, hrow2, hlen, hpos, hm, hQ⟩ := h
  walk_at "rd"
  refine q_newM (by walk_at "xt") fun p H1 n1 g1 f1 h1 => ?_
  have m1 : Mu K F H1 p ([] : List (List Int)) := ⟨f1, [], h1, .nil⟩
  walk_at "rd"
  refine q_iL (F := F) (by walk_at "rp") (by walk_at "xt") fun a fd => ?_
  let f : List Int → List Int := fun row => (rng 0 later.length).map fun o => lmin ((rng 0 later.length).map fun k => iat row k + iat (earlier.getD k.toNat []) o)
  refine for_feed fd (fun i σ F' H' => Gr [] F H F' H' ∧ Mu K F' H' p ((later.take i).map f) ∧ ∃ r o q, σ = [some v, some w', some (.int later.length), some (.ref p), r, o, q]) ⟨by walk_at "gr", by simpa using m1, _, _, _, rfl⟩ (fun i σ F' H' hi h => ⟨h.1.ff, h.1.fh⟩) (fun i hi x σ F1 H1 F2 H2 hN g2 rx => ?_) (fun σ F' H' hN => ?_)
  · obtain ⟨gg, mm, r, o, q, rfl⟩ := hN
    have hr := hrow _ (List.getElem_mem hi)
    have e1 : Xt F F1 := gg.ff
    walk_at "rd"
    refine q_i1 (by omega) (by omega) ?_
    intro D hD
    refine lc_map (K := K) (F := F2) feed_rng (fun o => lmin ((rng 0 later.length).map fun k => iat later[i] k + iat (earlier.getD k.toNat []) o)) (by walk_at "xt") hD (by rw [rng_length, sizeLine_eq]; omega) (fun o F4 H4 y F5 H5 T2 ho g4 g5 ry k2 N2 => ?_) (fun F4 H4 g4 l => ?_)
    · obtain rfl := ry.int
      obtain ⟨ho1, ho2⟩ := rng_mem.mp ho
      walk_at "rd"
      refine q_i1 (by omega) (by omega) ?_
      intro D2 hD2
      refine lc_map (K := K) (F := F5) feed_rng (fun k => iat later[i] k + iat (earlier.getD k.toNat []) o) (by walk_at "xt") hD2 (by rw [rng_length, sizeLine_eq]; omega) (fun k F6 H6 y F7 H7 T3 hk g6 g7 ry k3 N3 => ?_) (fun F6 H6 g6 l => ?_)
      · obtain rfl := ry.int
        obtain ⟨hk1, hk2⟩ := rng_mem.mp hk
        walk_at "rd"
        refine q_ix (xs := earlier) (by walk_at "sees") (by omega) (by omega) fun u ru => ?_
        have hu := hrow2 _ (List.getElem_mem (show k.toNat < earlier.length by omega))
        have eu : earlier.getD k.toNat [] = earlier[k.toNat]'(by omega) := by simp [List.getD, show k.toNat < earlier.length by omega]
        walk_at "rd"
        rw [← eu]
        exact k3 _ _ _ (by walk_at "gr") (by walk_at "rp")
      · walk_at "rd"
        rw [Int.toNat_natCast] at l
        exact q_minL (by walk_at "sees") (map_rng_ne hpos) (k2 _ _ _ (by walk_at "gr") (by walk_at "rp"))
    · walk_at "rd"
      rw [Int.toNat_natCast] at l
      refine q_app (by walk_at "mu") (by walk_at "xt") (by walk_at "rp") (by rw [sizeLine_eq]; simp; omega) fun H5 g5 m5 => ?_
      refine ⟨F4, by walk_at "gr", ?_, _, _, _, rfl⟩
      rw [List.take_add_one, List.getElem?_eq_getElem hi, List.map_append]
      exact m5
  · obtain ⟨gg, mm, r, o, q, rfl⟩ := hN
    rw [List.take_length] at mm
    obtain ⟨F5, e5, x5, l5, k5, _⟩ := mm.frz gg.fh
    walk_at "rd"
    exact hQ _ F5 H' (k5 _ _ _ gg n1) l5
theorem fk_joined_tables {P : Program} {w : World} {K : PySem.W.Frag} {mg : Str → Option Value} {base : Heap} (T : LC K mg) : ∃ fd, Binds K fd P_joined_tables [] ∧ FnOk P w K mg base (L2.CX P w) 1 (He.ga K "joined_tables") fd P_joined_tables (sp_join K) ∧ PySem.W.keepIn K (.ref (He.ga K "joined_tables")) = true := by
  obtain ⟨fd, F⟩ := F_joined_tables T
  exact ⟨fd, (F.bindsN fun _ _ _ _ _ _ us hl => match us, hl with | [_, _], _ => rfl), fd_joined_tables T  F, F.kp⟩
theorem G_joined_tables {P : Program} {w : World} {K : PySem.W.Frag} {mg : Str → Option Value} {base : Heap} (T : LC K mg) : GFn P w K mg base "joined_tables" 1 P_joined_tables (sp_join K) := by
  obtain ⟨fd, b, F, kp⟩ := fk_joined_tables (P := P) (w := w) (base := base) T 
  exact ⟨_, fd, g_joined_tables T, kp, b, F⟩

def sp_kept (K : PySem.W.Frag) : Sp := fun vs H Q _ => ∃ (F : Hp) (v : V) (p weeks : Int) (run : List Int) (rest : Int), vs = [v, .int p, .int weeks] ∧ Xt F H ∧ IsWeek K F v run rest ∧ 0 ≤ rest ∧ rest ≤ 50 ∧ run.length ≤ 60 ∧ 0 ≤ p ∧ p ≤ 1000000 ∧ 0 ≤ weeks ∧ weeks ≤ 1000000000000000000 ∧
  ∀ F' H', Gr [] F H F' H' → Q (.int (iat (itN (led (weekTab run rest p)) weeks.toNat (List.replicate (rest.toNat + 1) 0)) 0)) H'
theorem fd_kept_after {P : Program} {w : World} {K : PySem.W.Frag} {mg : Str → Option Value} {base : Heap} (T : LC K mg) (G_week_table : GFn P w K mg base "week_table" 3 P_week_table (sp_wtab K)) (G_led_over : GFn P w K mg base "led_over" 1 P_led_over (sp_led K)) (G_joined_tables : GFn P w K mg base "joined_tables" 1 P_joined_tables (sp_join K)) {fd : FuncData} (F : FunD K "kept_after" "kept_after" (defArgs s_kept_after) (defBody s_kept_after) (defScope s_kept_after) [] [] (He.ga K "kept_after") fd) : FnOk P w K mg base (L2.CX P w) 4 (He.ga K "kept_after") fd P_kept_after (sp_kept K) := by
  refine F.ok sc_kept_after (fun vs H Q E h => by repeat' (first | (obtain ⟨rfl, _⟩ := h; rfl) | (obtain ⟨_, h⟩ := h))) fun cdv A outer s H vs Q E hr h => ?_
  refine ⟨_, (pss_cons (ps_if (pt_not (pt_chain op_le op_le pe_int (pv 1) (pe_gi (c_MOST_PEOPLE T)))) (pss_one ps_never) pss_nil)
      (pss_cons (ps_if (pt_not (pt_chain op_le op_le pe_int (pv 2) (pe_gi (c_MOST_WEEKS T)))) (pss_one ps_never) pss_nil)
      (pss_cons (ps_set (i := 3) sc_kept_after.nd rfl (Or.inl rfl) (pe_op (kMul K) (pe_lst (pa_cons pe_int pa_nil)) (pe_op (kAdd K) (kFld K (pv 0) rfl) pe_int)))
      (pss_cons (ps_set (i := 4) sc_kept_after.nd rfl (Or.inl rfl) (pe_g G_week_table (hr.mono (by decide)) (takes_of rfl rfl rfl rfl) (pa_cons (pv 0) (pa_cons (pv 1) pa_nil))))
      (pss_cons (ps_set (i := 5) sc_kept_after.nd rfl (Or.inl rfl) (pv 2))
      (pss_cons (ps_while (passes_of rfl) (pt_cmpR op_gt (pv 5) pe_int (nomark _)) (pss_cons (ps_if (pt_cmpR (kEq K (hu65 hr)) (pe_op op_modZ (pv 5) pe_int) pe_int (nomark _)) (pss_one (ps_set (i := 3) sc_kept_after.nd rfl (Or.inl rfl) (pe_g G_led_over (hr.mono (by decide)) (takes_of rfl rfl rfl rfl) (pa_cons (pv 4) (pa_cons (pv 3) pa_nil))))) pss_nil)
      (pss_cons (ps_set (i := 5) sc_kept_after.nd rfl (Or.inl rfl) (pe_op op_divZ (pv 5) pe_int))
      (pss_one (ps_if (pt_cmpR op_gt (pv 5) pe_int (nomark _)) (pss_one (ps_set (i := 4) sc_kept_after.nd rfl (Or.inl rfl) (pe_g G_joined_tables (hr.mono (by decide)) (takes_of rfl rfl rfl rfl) (pa_cons (pv 4) (pa_cons (pv 4) pa_nil))))) pss_nil)))))
      (pss_one (ps_ret (pe_ix (kIx K) (pv 3) pe_int (fun _ _ => rfl)))))))))), ?_⟩
  obtain ⟨F, v, pp, weeks, run, rest, rfl, e0, hw0, h0, h1, hl, hp0, hp1, hwk0, hwk1, hQ⟩ := h
  obtain ⟨a, dx, r, rfl, ha, hr'⟩ := id hw0
  have cW := cl_Week T
  have nR := na_Week_rest T
  let n := rest.toNat + 1
  have hn : (rest + 1).toNat = n := by omega
  have hn0 : 0 < n := Nat.succ_pos _
  let L := led (weekTab run rest pp)
  let z := List.replicate n (0 : Int)
  walk_at "rd"
  refine q_newF (F := F) (by walk_at "xt") fun p1 F1 H1 n1 g1 f1 => ?_
  walk_at "rd"
  refine q_rep1 (F := F1) f1 (rp_int 0) (by walk_at "xt") (by omega) (by omega) fun p2 F2 H2 n2 g2 l2 => ?_
  rw [hn] at l2
  walk_at "rd"
  refine ⟨F2, _, pp, run, rest, rfl, by walk_at "xt", hw0.ext (by walk_at "xt"), h0, h1, hl, fun u F3 H3 g3 l3 => ?_⟩
  walk_at "rd"
  obtain ⟨W, hW⟩ : ∃ W : Nat → Rn.St → Hp → Prop, W = fun (left : Nat) (σ : Rn.St) (H' : Hp) => ∃ (F' : Hp) (mo tb : V) (c a' : Nat) (t : List (List Int)), Gr [] F3 H3 F' H' ∧ σ = [some (.ref a), some (.int pp), some (.int weeks), some mo, some tb, some (.int left)] ∧ Ld K F' mo (itN L a' z) ∧ left * c + a' = weeks.toNat ∧ (0 < left → Ld K F' tb t ∧ Sq n t ∧ ∀ x, x.length = n → led t x = itN L c x) := ⟨_, rfl⟩
  have hzl : z.length = n := List.length_replicate ..
  have hTl : (weekTab run rest pp).length = n := weekTab_sq.1
  have hil : ∀ k, (itN L k z).length = n := fun k => itN_led_length hTl hzl k
  have done : ∀ (left c a' : Nat) (F5 H5 : Hp) (mo tb : V) (t : List (List Int)), 0 < left → Gr [] F3 H3 F5 H5 → Ld K F5 mo (itN L a' z) → (left / 2) * (2 * c) + a' = weeks.toNat → Ld K F5 tb t → Sq n t → (∀ x, x.length = n → led t x = itN L c x) → ∀ D : Ends, (∀ σ' H', (∃ m', m' < left ∧ W m' σ' H') → D.nx σ' H') →
      (tSeq (tAsg (tOp rDivZ (tVar 5) (tC (V.int 2))) (gName 5)) (tIfS (tTest (tOp (rI0 fun i j => V.bl (decide (j < i))) (tVar 5) (tC (V.int 0)))) (tAsg (tG (sp_join K) (fun cls d x H => E cls d H) (tCons (tVar 4) (tCons (tVar 4) tNil))) (gName 4)) tNext)) D [some (.ref a), some (.int pp), some (.int weeks), some mo, some tb, some (.int left)] H5 := by
    intro left c a' F5 H5 mo tb t hp gg lm hs lt sq lx D hD
    have e2 : (left : Int) / 2 = ((left / 2 : Nat) : Int) := by omega
    walk_at "rd"
    rw [e2]
    refine iteD (fun c2 => ?_) (fun c2 => ?_)
    · walk_at "rd"
      refine ⟨F5, _, _, t, t, rfl, by walk_at "xt", by walk_at "rp", by walk_at "rp", by rw [sq.1]; exact sq.2, by rw [sq.1]; exact sq.2, rfl, by rw [sq.1]; omega, by rw [sq.1]; omega, fun u F6 H6 g6 l6 => ?_⟩
      walk_at "rd"
      refine hD _ _ ⟨left / 2, by omega, ?_⟩
      rw [hW]
      refine ⟨F6, mo, u, 2 * c, a', joinT t t, gg.tr0 g6, rfl, lm.ext g6.ff, hs, fun _ => ⟨l6, joinT_sq sq, fun x hx => ?_⟩⟩
      rw [led_join hn0 sq sq hx, lx x hx, lx _ (itN_led_length hTl hx c), Nat.two_mul, itN_add]
    · walk_at "rd"
      refine hD _ _ ⟨left / 2, by omega, ?_⟩
      rw [hW]
      exact ⟨F5, mo, tb, 2 * c, a', t, gg, rfl, lm, hs, fun h => absurd h (by omega)⟩
  refine rd_while W ?_ ?_
  · refine ⟨weeks.toNat, ?_⟩
    rw [hW]
    refine ⟨F3, _, _, 1, 0, weekTab run rest pp, Gr.refl g3.fh, ?_, l2.ext g3.ff, by omega, fun _ => ⟨l3, weekTab_sq, fun x hx => rfl⟩⟩
    rw [show ((weeks.toNat : Nat) : Int) = weeks by omega]
    rfl
  · intro left σ H4 hw
    rw [hW] at hw
    obtain ⟨F4, mo, tb, c, a', t, g4, rfl, lm, hs, ht⟩ := hw
    have hdm := Nat.div_add_mod left 2
    walk_at "rd"
    refine iteD (fun c1 => ?_) (fun c1 => ?_)
    · obtain ⟨lt, sq, lx⟩ := ht (by omega)
      refine ⟨_, fun _ _ h => h, ?_⟩
      walk_at "rd"
      refine iteD (fun c2 => ?_) (fun c2 => ?_)
      · walk_at "rd"
        refine ⟨F4, _, _, t, itN L a' z, rfl, by walk_at "xt", by walk_at "rp", by walk_at "rp", by rw [hil]; exact sq.2, ?_, by rw [hil]; omega, by rw [sq.1]; omega, fun u F5 H5 g5 l5 => ?_⟩
        · intro e
          have q := hil a'
          rw [e] at q
          simp at q
        · rw [lx _ (hil a'), ← itN_add] at l5
          walk_at "rdc"
          refine done left c (c + a') F5 H5 u tb t (by omega) (g4.tr0 g5) l5 ?_ (lt.ext g5.ff) sq lx _ fun _ _ h => h
          have hm : left % 2 = 1 := by omega
          have hh := half_mul left c
          rw [hm] at hh
          omega
      · walk_at "rdc"
        refine done left c a' F4 H4 mo tb t (by omega) g4 lm ?_ lt sq lx _ fun _ _ h => h
        have hm : left % 2 = 0 := by omega
        have hh := half_mul left c
        rw [hm] at hh
        omega
    · have hz : left = 0 := by omega
      subst hz
      have ea : a' = weeks.toNat := by omega
      subst ea
      have hpos := hil weeks.toNat
      walk_at "rd"
      exact hQ F4 H4 (by walk_at "gr")
theorem fk_kept_after {P : Program} {w : World} {K : PySem.W.Frag} {mg : Str → Option Value} {base : Heap} (T : LC K mg) (G_week_table : GFn P w K mg base "week_table" 3 P_week_table (sp_wtab K)) (G_led_over : GFn P w K mg base "led_over" 1 P_led_over (sp_led K)) (G_joined_tables : GFn P w K mg base "joined_tables" 1 P_joined_tables (sp_join K)) : ∃ fd, Binds K fd P_kept_after [] ∧ FnOk P w K mg base (L2.CX P w) 4 (He.ga K "kept_after") fd P_kept_after (sp_kept K) ∧ PySem.W.keepIn K (.ref (He.ga K "kept_after")) = true := by
  obtain ⟨fd, F⟩ := F_kept_after T
  exact ⟨fd, (F.bindsN fun _ _ _ _ _ _ us hl => match us, hl with | [_, _, _], _ => rfl), fd_kept_after T G_week_table G_led_over G_joined_tables F, F.kp⟩
theorem G_kept_after {P : Program} {w : World} {K : PySem.W.Frag} {mg : Str → Option Value} {base : Heap} (T : LC K mg) (G_week_table : GFn P w K mg base "week_table" 3 P_week_table (sp_wtab K)) (G_led_over : GFn P w K mg base "led_over" 1 P_led_over (sp_led K)) (G_joined_tables : GFn P w K mg base "joined_tables" 1 P_joined_tables (sp_join K)) : GFn P w K mg base "kept_after" 4 P_kept_after (sp_kept K) := by
  obtain ⟨fd, b, F, kp⟩ := fk_kept_after (P := P) (w := w) (base := base) T G_week_table G_led_over G_joined_tables
  exact ⟨_, fd, g_kept_after T, kp, b, F⟩

def sp_winit (K : PySem.W.Frag) : Sp := fun vs H Q _ => ∃ (F : Hp) (x dx : Addr) (v : V) (ns : List Int), vs = [.ref x, v] ∧ Xt F H ∧ F x = none ∧ H x = some (.ins (He.ga K "Wants") dx []) ∧ Rp K F v ns ∧ ns.length ≤ 60 ∧ (∀ n ∈ ns, 0 ≤ n ∧ n ≤ 30) ∧
  ∀ F' H' t, Gr [x] F H F' H' → F' x = none → H' x = some (.ins (He.ga K "Wants") dx [("numbers", t)]) → Rp K F' t (Tup.mk ns) → Q .non H'
theorem fd_WantsU_initU {P : Program} {w : World} {K : PySem.W.Frag} {mg : Str → Option Value} {base : Heap} (T : LC K mg) {fd : FuncData} (F : FunD K "__init__" "Wants.__init__" (defArgs s_WantsU_initU) (defBody s_WantsU_initU) (defScope s_WantsU_initU) [] [] (He.ma K (He.ga K "Wants") "__init__") fd) : FnOk P w K mg base (L2.CX P w) 1 (He.ma K (He.ga K "Wants") "__init__") fd P_WantsU_initU (sp_winit K) := by
  refine F.ok sc_WantsU_initU (fun vs H Q E h => by repeat' (first | (obtain ⟨rfl, _⟩ := h; rfl) | (obtain ⟨_, h⟩ := h))) fun cdv A outer s H vs Q E hr h => ?_
  refine ⟨_, (pss_cons (ps_if (pt_cmpR op_gt (pe_callB (kLen K) (by rfl) (f_len T) PySem.boot_len (pa_cons (pv 1) pa_nil)) (pe_cv (k_Wants_MOST T)) (nomark _)) (pss_one ps_never) pss_nil)
      (pss_cons (ps_for (passes_of rfl) rfl (kiEnum K rfl (f_enumerate T) (pa_cons (pv 1) pa_nil)) (kgTup (n := 2) K rfl (pgs_cons (pg_name (i := 2) sc_WantsU_initU.nd rfl (Or.inl rfl)) (pgs_cons (pg_name (i := 3) sc_WantsU_initU.nd rfl (Or.inl rfl)) pgs_nil))) (pss_one (ps_if (pt_not (pt_chain op_le op_le pe_int (pv 3) (pe_cv (k_Wants_GREATEST T)))) (pss_one ps_never) pss_nil)))
      (pss_one (ksFld K (pv 0) (pe_callTy (kTuple K) (by rfl) (f_tuple T) (by decide +kernel) (pa_cons (pv 1) pa_nil)) rfl)))), ?_⟩
  obtain ⟨F, x, dx, v, ns, rfl, e0, nx, hx, hv, hl, hb, hQ⟩ := h
  have cW := cl_Wants T
  have nW := na_Wants_numbers T
  walk_at "rd"
  refine q_iE hv (by walk_at "xt") fun a fd => ?_
  refine for_feed fd (fun i σ F' H' => Gr [] F H F' H' ∧ ∃ r o, σ = [some (.ref x), some v, r, o]) ⟨Gr.refl e0, _, _, rfl⟩ (fun i σ F' H' hi h => ⟨h.1.ff, h.1.fh⟩) (fun i hi y σ F1 H1 F2 H2 hN g2 ry => ?_) (fun σ F' H' hN => ?_)
  · obtain ⟨gg, r, o, rfl⟩ := hN
    have hin : i < ns.length := by rw [← enum_length]; exact hi
    have hz : (enum ns)[i] = ((i : Int), ns[i]) := Option.some.inj ((List.getElem?_eq_getElem hi).symm.trans (enum_at (List.getElem?_eq_getElem hin)))
    rw [hz] at ry
    have hbi := hb _ (List.getElem_mem hin)
    refine q_g2 ry (by walk_at "xt") fun u w' ru rw' => ?_
    obtain rfl := rw'.int
    walk_at "rd"
    exact ⟨F2, by walk_at "gr", _, _, rfl⟩
  · obtain ⟨gg, r, o, rfl⟩ := hN
    walk_at "rd"
    refine q_tuple (F := F') (by walk_at "sees") (by walk_at "xt") (by walk_at "xt") fun t F3 H3 g3 rt => ?_
    have hx3 : H3 x = some (.ins (He.ga K "Wants") dx []) := g3.at0 (gg.at0 hx)
    have nx3 : F3 x = none := g3.no (gg.no nx (by rw [hx]; exact nofun)) (by rw [gg.at0 hx]; exact nofun)
    have gc : Gr [x] F3 H3 F3 (upd H3 x (.ins (He.ga K "Wants") dx (putF "numbers" t []))) := Gr.chg g3.fh nx3 (by rw [hx3]; exact nofun)
    walk_at "rd"
    exact hQ F3 _ t (by walk_at "gr") nx3 upd_same rt
theorem fk_WantsU_initU {P : Program} {w : World} {K : PySem.W.Frag} {mg : Str → Option Value} {base : Heap} (T : LC K mg) : ∃ fd, Binds K fd P_WantsU_initU [] ∧ FnOk P w K mg base (L2.CX P w) 1 (He.ma K (He.ga K "Wants") "__init__") fd P_WantsU_initU (sp_winit K) ∧ PySem.W.keepIn K (.ref (He.ma K (He.ga K "Wants") "__init__")) = true := by
  obtain ⟨fd, F⟩ := F_WantsU_initU T
  exact ⟨fd, (F.bindsN fun _ _ _ _ _ _ us hl => match us, hl with | [_, _], _ => rfl), fd_WantsU_initU T  F, F.kp⟩
theorem MK_Wants {P : Program} {w : World} {K : PySem.W.Frag} {mg : Str → Option Value} {base : Heap} (T : LC K mg) : MkC P w K mg base "Wants" (He.ga K "Wants") 1 (sp_winit K) := by
  obtain ⟨fd, b, F, kp⟩ := fk_WantsU_initU (P := P) (w := w) (base := base) T 
  exact ⟨_, fd, _, g_Wants T, mk_Wants T, b, F⟩

theorem fd_WantsU_lenU {P : Program} {w : World} {K : PySem.W.Frag} {mg : Str → Option Value} {base : Heap} (T : LC K mg) {fd : FuncData} (F : FunD K "__len__" "Wants.__len__" (defArgs s_WantsU_lenU) (defBody s_WantsU_lenU) (defScope s_WantsU_lenU) [] [] (He.ma K (He.ga K "Wants") "__len__") fd) : FnOk P w K mg base (L2.CX P w) 1 (He.ma K (He.ga K "Wants") "__len__") fd P_WantsU_lenU (sp_wlen K) := by
  refine F.ok sc_WantsU_lenU (fun vs H Q E h => by repeat' (first | (obtain ⟨rfl, _⟩ := h; rfl) | (obtain ⟨_, h⟩ := h))) fun cdv A outer s H vs Q E hr h => ?_
  refine ⟨_, (pss_one (ps_ret (pe_callB (kLen K) (by rfl) (f_len T) PySem.boot_len (pa_cons (kFld K (pv 0) rfl) pa_nil)))), ?_⟩
  obtain ⟨F, v, ns, rfl, e0, ⟨a, dx, t, rfl, ha, ht⟩, hQ⟩ := h
  have cW := cl_Wants T
  have nW := na_Wants_numbers T
  walk_at "rd"
  exact hQ
theorem fk_WantsU_lenU {P : Program} {w : World} {K : PySem.W.Frag} {mg : Str → Option Value} {base : Heap} (T : LC K mg) : ∃ fd, Binds K fd P_WantsU_lenU [] ∧ FnOk P w K mg base (L2.CX P w) 1 (He.ma K (He.ga K "Wants") "__len__") fd P_WantsU_lenU (sp_wlen K) ∧ PySem.W.keepIn K (.ref (He.ma K (He.ga K "Wants") "__len__")) = true := by
  obtain ⟨fd, F⟩ := F_WantsU_lenU T
  exact ⟨fd, (F.bindsN fun _ _ _ _ _ _ us hl => match us, hl with | [_], _ => rfl), fd_WantsU_lenU T  F, F.kp⟩

theorem len_Wants {P : Program} {w : World} {K : PySem.W.Frag} {mg : Str → Option Value} {base : Heap} (T : LC K mg) : LenC P w K mg base (He.ga K "Wants") 1 (sp_wlen K) := by
  obtain ⟨fd, b, F, kp⟩ := fk_WantsU_lenU (P := P) (w := w) (base := base) T
  exact ⟨_, fd, _, (me_WantsU_lenU T).at_, (me_WantsU_lenU T).fn, b, F⟩
def sp_weekinit (K : PySem.W.Frag) : Sp := fun vs H Q _ => ∃ (F : Hp) (x dx : Addr) (v : V) (ns : List Int) (rest : Int), vs = [.ref x, v, .int rest] ∧ Xt F H ∧ F x = none ∧ H x = some (.ins (He.ga K "Week") dx []) ∧ IsWants K F v ns ∧ 0 < ns.length ∧ ns.length ≤ 14 ∧ 0 ≤ rest ∧ rest ≤ 4 ∧
  ∀ H', Gc [x] F H H' → H' x = some (.ins (He.ga K "Week") dx [("run", v), ("rest", .int rest)]) → Q .non H'
theorem fd_WeekU_initU {P : Program} {w : World} {K : PySem.W.Frag} {mg : Str → Option Value} {base : Heap} (T : LC K mg) {fd : FuncData} (F : FunD K "__init__" "Week.__init__" (defArgs s_WeekU_initU) (defBody s_WeekU_initU) (defScope s_WeekU_initU) [] [] (He.ma K (He.ga K "Week") "__init__") fd) : FnOk P w K mg base (L2.CX P w) 3 (He.ma K (He.ga K "Week") "__init__") fd P_WeekU_initU (sp_weekinit K) := by
  refine F.ok sc_WeekU_initU (fun vs H Q E h => by repeat' (first | (obtain ⟨rfl, _⟩ := h; rfl) | (obtain ⟨_, h⟩ := h))) fun cdv A outer s H vs Q E hr h => ?_
  refine ⟨_, (pss_cons (ps_if (pt_cmpR (kEq K (hu65 hr)) (pe_callB (call_lenO (len_Wants T) (hr.mono (by decide))) (by rfl) (f_len T) PySem.boot_len (pa_cons (pv 1) pa_nil)) pe_int (nomark _)) (pss_one ps_never) pss_nil)
      (pss_cons (ps_if (pt_cmpR op_gt (pe_callB (call_lenO (len_Wants T) (hr.mono (by decide))) (by rfl) (f_len T) PySem.boot_len (pa_cons (pv 1) pa_nil)) (pe_gi (c_MOST_NIGHTS T)) (nomark _)) (pss_one ps_never) pss_nil)
      (pss_cons (ps_if (pt_not (pt_chain op_le op_le pe_int (pv 2) (pe_gi (c_MOST_REST T)))) (pss_one ps_never) pss_nil)
      (pss_cons (ksFld K (pv 0) (pv 1) rfl)
      (pss_one (ksFld K (pv 0) (pv 2) rfl)))))), ?_⟩
  obtain ⟨F, x, dx, v, ns, rest, rfl, e0, nx, hx, hv, hl0, hl, hr0, hr1, hQ⟩ := h
  have cW := cl_Week T
  have nW := na_Week_run T
  have nR := na_Week_rest T
  walk_at "rd"
  refine q_wlen hv (by walk_at "xt") (by omega) ?_
  walk_at "rd"
  refine q_wlen hv (by walk_at "xt") (by omega) ?_
  walk_at "rd"
  rw [upd_upd]
  exact hQ _ ⟨Gr.chg e0 nx (by rw [hx]; exact nofun)⟩ upd_same
theorem fk_WeekU_initU {P : Program} {w : World} {K : PySem.W.Frag} {mg : Str → Option Value} {base : Heap} (T : LC K mg) : ∃ fd, Binds K fd P_WeekU_initU [] ∧ FnOk P w K mg base (L2.CX P w) 3 (He.ma K (He.ga K "Week") "__init__") fd P_WeekU_initU (sp_weekinit K) ∧ PySem.W.keepIn K (.ref (He.ma K (He.ga K "Week") "__init__")) = true := by
  obtain ⟨fd, F⟩ := F_WeekU_initU T
  exact ⟨fd, (F.bindsN fun _ _ _ _ _ _ us hl => match us, hl with | [_, _, _], _ => rfl), fd_WeekU_initU T  F, F.kp⟩
theorem MK_Week {P : Program} {w : World} {K : PySem.W.Frag} {mg : Str → Option Value} {base : Heap} (T : LC K mg) : MkC P w K mg base "Week" (He.ga K "Week") 3 (sp_weekinit K) := by
  obtain ⟨fd, b, F, kp⟩ := fk_WeekU_initU (P := P) (w := w) (base := base) T 
  exact ⟨_, fd, _, g_Week T, mk_Week T, b, F⟩

def sp_law (K : PySem.W.Frag) : Sp := fun vs H Q _ => ∃ (a : Addr) (ns : List Int), vs = [.ref a] ∧ SqL K H a (ns.map V.int) ∧ ∀ H', Q (.bl true) H'
theorem fd_law {P : Program} {w : World} {K : PySem.W.Frag} {mg : Str → Option Value} {base : Heap} (T : LC K mg) (G__law_pool : GFn P w K mg base "_law_pool" 1 P__law_pool (sp_pool K)) (G__law_draw : GFn P w K mg base "_law_draw" 1 P__law_draw (sp_draw)) (G__law_wants : GFn P w K mg base "_law_wants" 2 P__law_wants (sp_wants K)) (G__law_weeks : GFn P w K mg base "_law_weeks" 2 P__law_weeks (sp_weeks)) (G__law_int : GFn P w K mg base "_law_int" 1 P__law_int (sp_int)) (G__law_rounds : GFn P w K mg base "_law_rounds" 2 P__law_rounds (sp_rounds K)) (G__law_kept : GFn P w K mg base "_law_kept" 1 P__law_kept (sp_lkept K)) (G_kept_after : GFn P w K mg base "kept_after" 4 P_kept_after (sp_kept K)) (MK_Wants : MkC P w K mg base "Wants" (He.ga K "Wants") 1 (sp_winit K)) (MK_Week : MkC P w K mg base "Week" (He.ga K "Week") 3 (sp_weekinit K)) {fd : FuncData} (F : FunD K "law" "law" (defArgs s_law) (defBody s_law) (defScope s_law) [] [] (He.ga K "law") fd) : FnOk P w K mg base (L2.CX P w) 6 (He.ga K "law") fd P_law (sp_law K) := by
  refine F.ok sc_law (fun vs H Q E h => by repeat' (first | (obtain ⟨rfl, _⟩ := h; rfl) | (obtain ⟨_, h⟩ := h))) fun cdv A outer s H vs Q E hr h => ?_
  refine ⟨_, (pss_cons (ps_set (i := 1) sc_law.nd rfl (Or.inr rfl) (pe_g G__law_pool (hr.mono (by decide)) (takes_of rfl rfl rfl rfl) (pa_cons (pv 0) (pa_cons pe_int pa_nil))))
      (pss_cons (ps_set (i := 2) sc_law.nd rfl (Or.inl rfl) (pe_op (kAdd K) pe_int (pe_g G__law_draw (hr.mono (by decide)) (takes_of rfl rfl rfl rfl) (pa_cons (pv 1) (pa_cons pe_int pa_nil)))))
      (pss_cons (ps_if (pt_cmpR (kEq K (hu65 hr)) (pe_g G__law_draw (hr.mono (by decide)) (takes_of rfl rfl rfl rfl) (pa_cons (pv 1) (pa_cons pe_int pa_nil))) pe_int (nomark _)) (pss_one (ps_set (i := 2) sc_law.nd rfl (Or.inl rfl) (pe_op (kAdd K) pe_int (pe_g G__law_draw (hr.mono (by decide)) (takes_of rfl rfl rfl rfl) (pa_cons (pv 1) (pa_cons pe_int pa_nil)))))) pss_nil)
      (pss_cons (ps_set (i := 3) sc_law.nd rfl (Or.inl rfl) (pe_g G__law_wants (hr.mono (by decide)) (takes_of rfl rfl rfl rfl) (pa_cons (pv 1) (pa_cons (pv 2) (pa_cons pe_int pa_nil)))))
      (pss_cons (ps_set (i := 4) sc_law.nd rfl (Or.inl rfl) (pe_g G__law_draw (hr.mono (by decide)) (takes_of rfl rfl rfl rfl) (pa_cons (pv 1) (pa_cons pe_int pa_nil))))
      (pss_cons (ps_set (i := 5) sc_law.nd rfl (Or.inl rfl) (pe_g G__law_draw (hr.mono (by decide)) (takes_of rfl rfl rfl rfl) (pa_cons (pv 1) (pa_cons pe_int pa_nil))))
      (pss_cons (ps_if (pt_cmpR (kEq K (hu65 hr)) (pe_g G__law_draw (hr.mono (by decide)) (takes_of rfl rfl rfl rfl) (pa_cons (pv 1) (pa_cons pe_int pa_nil))) pe_int (nomark _)) (pss_one (ps_set (i := 5) sc_law.nd rfl (Or.inl rfl) (pe_g G__law_draw (hr.mono (by decide)) (takes_of rfl rfl rfl rfl) (pa_cons (pv 1) (pa_cons (pe_op (kAdd K) (pe_op op_pow pe_int pe_int) pe_int) pa_nil))))) pss_nil)
      (pss_cons (ps_set (i := 6) sc_law.nd rfl (Or.inl rfl) (pe_g G__law_weeks (hr.mono (by decide)) (takes_of rfl rfl rfl rfl) (pa_cons (pv 1) pa_nil)))
      (pss_cons (ps_set (i := 7) sc_law.nd rfl (Or.inl rfl) (pe_g G__law_weeks (hr.mono (by decide)) (takes_of rfl rfl rfl rfl) (pa_cons (pv 1) pa_nil)))
      (pss_cons (ps_if (pt_cmpR (kEq K (hu65 hr)) (pe_g G__law_draw (hr.mono (by decide)) (takes_of rfl rfl rfl rfl) (pa_cons (pv 1) (pa_cons pe_int pa_nil))) pe_int (nomark _)) (pss_cons (ps_set (i := 4) sc_law.nd rfl (Or.inl rfl) (pe_callB (cy_min2 rfl) (by rfl) (f_min T) (by decide +kernel) (pa_cons pe_int (pa_cons (pv 4) pa_nil))))
      (pss_one (ps_setLc (i := 3) (own := [("want", 15)]) rfl sc_law.nd rfl rfl (sw_true rfl rfl rfl (by decide +kernel)) (kiList K (pv 3)) (blkOk_r (by rfl)) (fun _ _ _ _ _ => (pg_name (i := 15) sc_law.nd rfl (Or.inl rfl))) (fun _ _ _ _ _ => pts_nil) (fun _ _ _ _ _ => (pe_callB (cy_min2 rfl) (by rfl) (f_min T) (by decide +kernel) (pa_cons pe_int (pa_cons (pe_op (kAdd K) (pe_op (kMul K) pe_int (pv 15)) (pe_g G__law_draw (hr.mono (by decide)) takes0 (pa_cons (pv 1) (pa_cons pe_int pa_nil)))) pa_nil))))))) pss_nil)
      (pss_cons (ps_set (i := 8) sc_law.nd rfl (Or.inl rfl) (pe_mk MK_Week (hr.mono (by decide)) (takes_of rfl rfl rfl rfl) (pa_cons (pe_mk MK_Wants (hr.mono (by decide)) (takes_of rfl rfl rfl rfl) (pa_cons (pe_callTy (kList K) (by rfl) (f_list T) (by decide +kernel) (pa_cons (pv 3) pa_nil)) pa_nil)) (pa_cons (pv 4) pa_nil))))
      (pss_cons (ps_set (i := 9) sc_law.nd rfl (Or.inl rfl) (pe_g G__law_rounds (hr.mono (by decide)) (takes_of rfl rfl rfl rfl) (pa_cons (pv 3) (pa_cons (pv 4) (pa_cons (pv 5) pa_nil)))))
      (pss_cons (ps_set (i := 10) sc_law.nd rfl (Or.inl rfl) (pe_lst (pa_cons (pv 6) (pa_cons (pv 7) (pa_cons pe_int pa_nil)))))
      (pss_cons (ps_if (pt_cmpR op_le (pe_op (kAdd K) (pv 6) (pv 7)) (pe_op op_pow pe_int pe_int) (nomark _)) (pss_one (ps_expr (kBm K PySem.F.plainAttrs_list PySem.F.slot_list_append PySem.F.type_list_append mt_append (pv 10) (pa_cons (pe_op (kAdd K) (pv 6) (pv 7)) pa_nil)))) pss_nil)
      (pss_cons (ps_set (i := 11) sc_law.nd rfl (Or.inl rfl) (pe_lst pa_nil))
      (pss_cons (ps_for (passes_of rfl) rfl (kiList K (pv 10)) (pg_name (i := 12) sc_law.nd rfl (Or.inl rfl)) (pss_cons (ps_expr (kBm K PySem.F.plainAttrs_list PySem.F.slot_list_append PySem.F.type_list_append mt_append (pv 11) (pa_cons (pe_g G_kept_after (hr.mono (by decide)) (takes_of rfl rfl rfl rfl) (pa_cons (pv 8) (pa_cons (pv 5) (pa_cons (pv 12) pa_nil)))) pa_nil)))
      (pss_one (ps_if (PW.pt (pw_or (pt_not (pt_val (pe_g G__law_int (hr.mono (by decide)) (takes_of rfl rfl rfl rfl) (pa_cons (pe_ix (kIx K) (pv 11) (pe_un un_neg pe_int) (fun _ _ => rfl)) pa_nil)))) (pw_or1 (pt_cmpR (kNe K (hu65 hr)) (pe_ix (kIx K) (pv 11) (pe_un un_neg pe_int) (fun _ _ => rfl)) (pe_g G__law_kept (hr.mono (by decide)) (takes_of rfl rfl rfl rfl) (pa_cons (pv 9) (pa_cons (pv 12) pa_nil))) (nomark _))))) (pss_one (ps_ret pe_bl)) pss_nil))))
      (pss_cons (ps_if (PW.pt (pw_and (pt_cmpR (kEq K (hu65 hr)) (pe_callB (kLen K) (by rfl) (f_len T) PySem.boot_len (pa_cons (pv 11) pa_nil)) pe_int (nomark _)) (pw_and1 (PW.pt (pw_or (pt_cmpR op_gt (pe_ix (kIx K) (pv 11) pe_int (fun _ _ => rfl)) (pe_op (kAdd K) (pe_ix (kIx K) (pv 11) pe_int (fun _ _ => rfl)) (pe_ix (kIx K) (pv 11) pe_int (fun _ _ => rfl))) (nomark _)) (pw_or (pt_cmpR op_lt (pe_ix (kIx K) (pv 11) pe_int (fun _ _ => rfl)) (pe_ix (kIx K) (pv 11) pe_int (fun _ _ => rfl)) (nomark _)) (pw_or1 (pt_cmpR op_lt (pe_ix (kIx K) (pv 11) pe_int (fun _ _ => rfl)) (pe_ix (kIx K) (pv 11) pe_int (fun _ _ => rfl)) (nomark _))))))))) (pss_one (ps_ret pe_bl)) pss_nil)
      (pss_cons (ps_if (pt_cmpR op_lt (pv 5) (pe_op op_pow pe_int pe_int) (nomark _)) (pss_cons (ps_set (i := 13) sc_law.nd rfl (Or.inl rfl) (pe_g G_kept_after (hr.mono (by decide)) (takes_of rfl rfl rfl rfl) (pa_cons (pv 8) (pa_cons (pe_op (kAdd K) (pv 5) pe_int) (pa_cons (pv 6) pa_nil)))))
      (pss_one (ps_if (PW.pt (pw_or (pt_not (pt_val (pe_g G__law_int (hr.mono (by decide)) (takes_of rfl rfl rfl rfl) (pa_cons (pv 13) pa_nil)))) (pw_or1 (pt_cmpR (kNe K (hu65 hr)) (pv 13) (pe_g G__law_kept (hr.mono (by decide)) (takes_of rfl rfl rfl rfl) (pa_cons (pe_g G__law_rounds (hr.mono (by decide)) (takes_of rfl rfl rfl rfl) (pa_cons (pv 3) (pa_cons (pv 4) (pa_cons (pe_op (kAdd K) (pv 5) pe_int) pa_nil)))) (pa_cons (pv 6) pa_nil))) (nomark _))))) (pss_one (ps_ret pe_bl)) pss_nil))) pss_nil)
      (pss_cons (ps_set (i := 14) sc_law.nd rfl (Or.inl rfl) (pe_g G_kept_after (hr.mono (by decide)) (takes_of rfl rfl rfl rfl) (pa_cons (pv 8) (pa_cons (pv 5) (pa_cons (pv 7) pa_nil)))))
      (pss_one (ps_ret (pe_and (pe_g G__law_int (hr.mono (by decide)) (takes_of rfl rfl rfl rfl) (pa_cons (pv 14) pa_nil)) (pe_one (pe_cmpR (kEq K (hu65 hr)) (pv 14) (pe_ix (kIx K) (pv 11) pe_int (fun _ _ => rfl)) (nomark _))))))))))))))))))))))))), ?_⟩
  obtain ⟨a, ns, rfl, hs, hQ⟩ := h
  have e0 : Xt H H := Xt.refl _
  walk_at "rdq"
  refine ⟨H, a, ns, 0, rfl, hs, by omega, e0, fun p H1 n1 g1 f1 hp1 => ?_⟩
  walk_at "rdq"
  refine ⟨H, p, 6, rfl, by walk_at "xt", f1, by walk_at "pool", by omega, by omega, fun v2 H2 a2 b2 g2 hp2 => ?_⟩
  walk_at "rdq"
  refine rd_cut (fun σ H' => ∃ nights : Int, Xt H H' ∧ PoolAt H' p ∧ 1 ≤ nights ∧ nights ≤ 14 ∧ σ = [some (.ref a), some (.ref p), some (.int nights), none, none, none, none, none, none, none, none, none, none, none, none, none]) (fun N hN => ?_) ?_
  · walk_at "rd"
    refine ⟨H, p, 8, rfl, by walk_at "xt", f1, by walk_at "pool", by omega, by omega, fun v3 H3 a3 b3 g3 hp3 => ?_⟩
    walk_at "rd"
    refine iteD (fun c => ?_) (fun c => ?_)
    · walk_at "rd"
      refine ⟨H, p, 8, rfl, by walk_at "xt", f1, by walk_at "pool", by omega, by omega, fun v4 H4 a4 b4 g4 hp4 => ?_⟩
      walk_at "rd"
      exact hN _ _ ⟨7 + v4, by walk_at "xt", hp4, by omega, by omega, rfl⟩
    · walk_at "rd"
      exact hN _ _ ⟨1 + v2, by walk_at "xt", hp3, by omega, by omega, rfl⟩
  rintro σ H5 ⟨nights, e5, hp5, hn0, hn1, rfl⟩
  walk_at "rdq"
  refine ⟨H, p, nights, 4, rfl, e5, f1, hp5, by omega, by omega, by omega, by omega, fun rv F6 H6 run g6 hp6 f6 lr hlen hb => ?_⟩
  walk_at "rdq"
  refine ⟨F6, p, 5, rfl, by walk_at "xt", f6, by walk_at "pool", by omega, by omega, fun gap H7 a7 b7 g7 hp7 => ?_⟩
  walk_at "rdq"
  refine ⟨F6, p, 9, rfl, by walk_at "xt", f6, by walk_at "pool", by omega, by omega, fun pe H8 a8 b8 g8 hp8 => ?_⟩
  walk_at "rdq"
  refine rd_cut (fun σ H' => ∃ pe : Int, Xt F6 H' ∧ PoolAt H' p ∧ 0 ≤ pe ∧ pe ≤ 1000000 ∧ σ = [some (.ref a), some (.ref p), some (.int nights), some rv, some (.int gap), some (.int pe), none, none, none, none, none, none, none, none, none, none]) (fun N hN => ?_) ?_
  · walk_at "rd"
    refine ⟨F6, p, 8, rfl, by walk_at "xt", f6, by walk_at "pool", by omega, by omega, fun v3 H3 a3 b3 g3 hp3 => ?_⟩
    walk_at "rd"
    refine iteD (fun c => ?_) (fun c => ?_)
    · walk_at "rd"
      refine ⟨F6, p, _, rfl, by walk_at "xt", f6, by walk_at "pool", by omega, by omega, fun v4 H4 a4 b4 g4 hp4 => ?_⟩
      walk_at "rd"
      exact hN _ _ ⟨v4, by walk_at "xt", hp4, by omega, by omega, rfl⟩
    · walk_at "rd"
      exact hN _ _ ⟨pe, by walk_at "xt", hp3, by omega, by omega, rfl⟩
  clear g8 hp8 a8 b8 H8
  rintro σ H9 ⟨pe, e9, hp9, hpe0, hpe1, rfl⟩
  walk_at "rdq"
  refine ⟨F6, p, rfl, e9, f6, hp9, fun one H10 a10 b10 g10 hp10 => ?_⟩
  walk_at "rdq"
  refine ⟨F6, p, rfl, by walk_at "xt", f6, hp10, fun two H11 a11 b11 g11 hp11 => ?_⟩
  walk_at "rdq"
  refine rd_cut (fun σ H' => ∃ (F : Hp) (rv : V) (run : List Int) (gap m : Int) (x15 : Option V), Xt F H' ∧ Ld K F rv run ∧ 1 ≤ run.length ∧ run.length ≤ 14 ∧ 0 ≤ gap ∧ gap ≤ 4 ∧ 0 ≤ m ∧ m ≤ 30 ∧ (∀ x ∈ run, 0 ≤ x ∧ x ≤ m) ∧ (m.toNat + 1) ^ gap.toNat ≤ 625 ∧ σ = [some (.ref a), some (.ref p), some (.int nights), some rv, some (.int gap), some (.int pe), some (.int one), some (.int two), none, none, none, none, none, none, none, x15]) (fun N hN => ?_) ?_
  · walk_at "rd"
    refine ⟨F6, p, 8, rfl, by walk_at "xt", f6, by walk_at "pool", by omega, by omega, fun v3 H3 a3 b3 g3 hp3 => ?_⟩
    walk_at "rd"
    refine iteD (fun c => ?_) (fun c => ?_)
    · walk_at "rd"
      refine q_iL (F := F6) (by walk_at "rp") (by walk_at "xt") fun al fd => ?_
      intro D hD
      have hpD : p ≠ D := fun e => hp3.some (by rw [e]; exact hD)
      refine lc_feed (S := [p]) (F := F6) (β := Int) fd (fun i ys F' H' => PoolAt H' p ∧ F' p = none ∧ ys.length = i ∧ ∀ x ∈ ys, 0 ≤ x ∧ x ≤ 30) (by walk_at "xt") hD (fun q hq => by rw [List.mem_singleton.mp hq]; exact hp3.some) (by rw [sizeLine_eq]; omega)
        (fun H' g => ⟨by walk_at "pool", f6, rfl, fun _ h => nomatch h⟩) (fun i hi ys F1 H1 x F2 H2 T1 N g1 mm hI g2 rx k1 k2 => ?_) (fun ys F1 F2 H2 g1 hI e1 nn g2 l => ?_)
      · obtain ⟨hp1, hf1, hl, hb1⟩ := hI
        obtain rfl := rx.int
        have hbi := hb _ (List.getElem_mem hi)
        walk_at "rd"
        refine ⟨F2, p, 7, rfl, by walk_at "xt", by walk_at "fn", by walk_at "pool", by omega, by omega, fun v H3 h0 h1 g3 hp3 => ?_⟩
        walk_at "rd"
        refine k1 _ F2 H3 _ g3.gr (rp_int _) fun H4 g4 => ⟨hp3.gr g4.gr (by walk_at "nm"), by walk_at "fn", by simp [hl], fun y hy => ?_⟩
        rcases List.mem_append.mp hy with e | e
        · exact hb1 y e
        · rw [List.mem_singleton.mp e]; omega
      · obtain ⟨hp1, hf1, hl, hb1⟩ := hI
        walk_at "rd"
        refine hN _ _ ⟨F2, _, ys, min 1 gap, 30, _, g2.fh, l, by omega, by omega, by omega, by omega, by omega, by omega, hb1, ?_, rfl⟩
        have : (min 1 gap).toNat = 0 ∨ (min 1 gap).toNat = 1 := by omega
        rcases this with e | e <;> rw [e] <;> decide
    · walk_at "rd"
      refine hN _ _ ⟨F6, _, run, gap, 4, _, by walk_at "xt", lr, by omega, by omega, by omega, by omega, by omega, by omega, hb, ?_, rfl⟩
      have : gap.toNat = 0 ∨ gap.toNat = 1 ∨ gap.toNat = 2 ∨ gap.toNat = 3 ∨ gap.toNat = 4 := by omega
      rcases this with e | e | e | e | e <;> rw [e] <;> decide
  clear lr hlen hb g6 hp6 f6 g7 hp7 a7 b7 g10 hp10 g11 hp11 H10 H11 H7
  rintro σ H12 ⟨F7, rv', run', gap', m, x15, e12, lr, hl0, hl1, hg0, hg1, hm0, hm1, hb, hsm, rfl⟩
  walk_at "rdq"
  refine q_list (F := F7) (by walk_at "sees") (Xt.refl _) (by walk_at "xt") fun p13 F13 H13 n13 g13 l13 => ?_
  walk_at "rdq"
  refine q_mk (F := F13) (by walk_at "xt") fun x1 dx1 H14 n14 g14 nx14 hx14 => ?_
  refine ⟨F13, x1, dx1, _, run', rfl, by walk_at "xt", nx14, hx14, l13.rp, by omega, fun y hy => by have := hb y hy; omega, fun F15 H15 t g15 nx15 hx15 rt => ⟨rfl, ?_⟩⟩
  obtain ⟨F16, e16, x16, h16, k16, _⟩ := obj_frz g15.fh nx15 hx15
  have w16 : IsWants K F16 (.ref x1) run' := ⟨x1, dx1, t, rfl, h16, rt.ext x16⟩
  walk_at "rdq"
  refine q_mk (F := F16) e16 fun x2 dx2 H17 n17 g17 nx17 hx17 => ?_
  refine ⟨F16, x2, dx2, _, run', gap', rfl, g17.fh, nx17, hx17, w16, by omega, by omega, hg0, hg1, fun H18 g18 hx18 => ⟨rfl, ?_⟩⟩
  obtain ⟨F19, e19, x19, h19, k19, _⟩ := obj_frz g18.fh nx17 hx18
  have wk : IsWeek K F19 (.ref x2) run' gap' := ⟨x2, dx2, _, rfl, h19, w16.ext x19⟩
  have lr19 : Ld K F19 rv' run' := lr.ext (g13.ff.trans (g15.ff.trans (x16.trans x19)))
  clear k16 k19 hs
  have hpF : pe ≤ FARI := by unfold FARI; omega
  have hk : ∀ (q : Int), 0 ≤ q → q ≤ 1000001 → ∀ w : Int, 0 ≤ w → iat (itN (led (weekTab run' gap' q)) w.toNat (List.replicate (gap'.toNat + 1) 0)) 0 = (fcAt run' gap'.toNat q w.toNat).1 := fun q h0 h1 w _ => by
    rw [tables_at hg0 h0 (by unfold FARI; omega) hm0 hb, vec_head]
  walk_at "rdq"
  refine ⟨F19, _, gap', pe, m, run', rfl, e19, lr19.rp, by omega, hg0, by omega, hpe0, hm0, hb, hsm, fun u F20 H20 r w20 f sums g20 hu h20 l20 hR => ?_⟩
  subst hu
  obtain ⟨hf1, hf2, hf3⟩ := rounds_facts hR hpe0 hm0 hm1 hl1 hb
  walk_at "rdq"
  refine q_newM (F := F20) (by walk_at "xt") fun q21 H21 n21 g21 f21 h21 => ?_
  have m21 : Mu K F20 H21 q21 [one, two, 0] := ⟨f21, _, h21, RpA.ints (ns := [one, two, 0])⟩
  walk_at "rdq"
  refine rd_cut (fun σ H' => ∃ xs : List Int, Mu K F20 H' q21 xs ∧ Xt F20 H' ∧ (xs = [one, two, 0] ∨ one + two ≤ 1000000000000000000 ∧ xs = [one, two, 0, one + two]) ∧ σ = [some (.ref a), some (.ref p), some (.int nights), some rv', some (.int gap'), some (.int pe), some (.int one), some (.int two), some (.ref x2), some (.ref r), some (.ref q21), none, none, none, none, x15]) (fun N hN => ?_) ?_
  · walk_at "rd"
    refine iteD (fun c => ?_) (fun c => ?_)
    · walk_at "rd"
      refine q_app m21 (by walk_at "xt") (by walk_at "rp") (by rw [sizeLine_eq]; simp) fun H22 g22 m22 => ?_
      walk_at "rd"
      exact hN _ _ ⟨_, m22, by walk_at "xt", .inr ⟨c, rfl⟩, rfl⟩
    · walk_at "rd"
      exact hN _ _ ⟨_, m21, by walk_at "xt", .inl rfl, rfl⟩
  clear m21
  rintro σ H22 ⟨xs, m22, e22, hxs, rfl⟩
  walk_at "rdq"
  refine q_newM (F := F20) e22 fun q23 H23 n23 g23 f23 h23 => ?_
  have hqq : q23 ≠ q21 := fun e => by
    obtain ⟨_, ws, h, _⟩ := m22
    rw [e] at n23
    rw [n23] at h
    cases h
  obtain ⟨F24, e24, x24, l24, _, n24⟩ := (m22.gr0 g23.gr).frz g23.fh
  have m23 : Mu K F24 H23 q23 ([] : List Int) := ⟨n24 _ hqq f23, [], h23, .nil⟩
  have wk24 : IsWeek K F24 (.ref x2) run' gap' := wk.ext (g20.ff.trans x24)
  have h24 : F24 r = some (.lst [.int f, w20]) := x24 _ _ h20
  have l24' : Ld K F24 w20 sums := l20.ext x24
  have lr24 : Ld K F24 rv' run' := lr19.ext (g20.ff.trans x24)
  have hxb : ∀ x ∈ xs, 0 ≤ x ∧ x ≤ 1000000000000000000 := fun x hx => by
    rcases hxs with e | ⟨c, e⟩ <;> rw [e] at hx <;> simp at hx <;> omega
  have hxl : xs.length ≤ 4 := by rcases hxs with e | ⟨c, e⟩ <;> rw [e] <;> simp
  clear x16 x19 x24 e16 e19 e12 g13 g14 g15 g17 g18 g20 g21 g23
  have e24' := e24
  let Sv : Int → Int := fun w => (fcAt run' gap'.toNat pe w.toNat).1
  walk_at "rdq"
  obtain ⟨W, hW⟩ : ∃ W : Nat → Rn.St → Hp → Hp → Prop, W = fun (i : Nat) (σ : Rn.St) (F' H' : Hp) => ∃ (x12 : Option V), Xt F24 F' ∧ Xt F' H' ∧ Mu K F' H' q23 ((xs.take i).map Sv) ∧ σ = [some (.ref a), some (.ref p), some (.int nights), some rv', some (.int gap'), some (.int pe), some (.int one), some (.int two), some (.ref x2), some (.ref r), some (.ref q21), some (.ref q23), x12, none, none, x15] := ⟨_, rfl⟩
  have tail : ∀ (σ : Rn.St) (F' H' : Hp), W xs.length σ F' H' → (∃ x12, Xt F24 F' ∧ Xt F' H' ∧ Mu K F' H' q23 (xs.map Sv) ∧ σ = [some (.ref a), some (.ref p), some (.int nights), some rv', some (.int gap'), some (.int pe), some (.int one), some (.int two), some (.ref x2), some (.ref r), some (.ref q21), some (.ref q23), x12, none, none, x15]) := fun σ F' H' h => by
    rw [hW] at h
    obtain ⟨x12, h1, h2, h3, h4⟩ := h
    rw [List.take_length] at h3
    exact ⟨x12, h1, h2, h3, h4⟩
  refine rd_cut (fun σ H' => ∃ F', W xs.length σ F' H') (fun N hN => ?_) ?_
  · walk_at "rd"
    refine q_iL (F := F24) l24.rp e24 fun al fd => ?_
    refine for_feed fd W (F0 := F24) (by rw [hW]; exact ⟨none, Xt.refl _, e24, m23, rfl⟩) (fun i σ F' H' hi h => by rw [hW] at h; obtain ⟨_, h1, h2, _⟩ := h; exact ⟨h1, h2⟩) (fun i hi x σ F2 H2 F3 H3 hw g3 rx => ?_) (fun σ F' H' h => hN _ _ ⟨F', h⟩)
    rw [hW] at hw
    obtain ⟨x12, y1, y2, mm, rfl⟩ := hw
    obtain rfl := rx.int
    obtain ⟨hx0, hx1⟩ := hxb _ (List.getElem_mem hi)
    have mm3 := mm.gr0 g3
    have z3 : Xt F24 F3 := y1.trans g3.ff
    walk_at "rd"
    refine ⟨F3, _, pe, xs[i], run', gap', rfl, g3.fh, wk24.ext z3, hg0, by omega, by omega, hpe0, hpe1, hx0, hx1, fun F5 H5 g5 => ?_⟩
    rw [hk pe hpe0 (by omega) _ hx0]
    have mm5 := mm3.gr0 g5
    walk_at "rd"
    refine q_app mm5 g5.fh (rp_int _) (by rw [sizeLine_eq]; simp; omega) fun H6 g6 m6 => ?_
    walk_at "rd"
    refine q_lastS (by walk_at "sees") ?_
    walk_at "rd"
    refine ⟨_, rfl, ?_⟩
    walk_at "rd"
    refine q_lastS (by walk_at "sees") ?_
    walk_at "rd"
    refine ⟨F5, r, w20, xs[i], f, sums, rfl, g6.fh, g5.ff _ _ (z3 _ _ h24), (l24'.ext (z3.trans g5.ff)).rp, hf1, hf2, hx0, hx1, hf3, ?_⟩
    rw [lawKept_eq hR hx0]
    walk_at "rd"
    refine ⟨F5, ?_⟩
    rw [hW]
    refine ⟨some (.int xs[i]), z3.trans g5.ff, g6.fh, ?_, rfl⟩
    rw [List.take_add_one, List.getElem?_eq_getElem hi, List.map_append]
    exact m6
  rintro σ H25 ⟨F25, h25⟩
  obtain ⟨x12, y1, y2, mm, rfl⟩ := tail _ _ _ h25
  clear tail h25 hW
  have add1 : one + two ≤ 1000000000000000000 → Sv (one + two) ≤ Sv one + Sv two ∧ Sv one ≤ Sv (one + two) ∧ Sv two ≤ Sv (one + two) := fun _ => by
    have e : (one + two).toNat = one.toNat + two.toNat := by omega
    have h1 := fcAt_add hg0 hpe0 hpF hm0 hb one.toNat two.toNat
    have h2 := fcAt_mono (gap := gap'.toNat) hpe0 hm0 hb one.toNat two.toNat
    have h3 := fcAt_mono (gap := gap'.toNat) hpe0 hm0 hb two.toNat one.toNat
    rw [Nat.add_comm] at h3
    show (fcAt run' gap'.toNat pe (one + two).toNat).1 ≤ _ ∧ _ ≤ (fcAt run' gap'.toNat pe (one + two).toNat).1 ∧ _ ≤ (fcAt run' gap'.toNat pe (one + two).toNat).1
    rw [e]
    exact ⟨h1, h2, h3⟩
  have itwo : iat (xs.map Sv) 1 = Sv two := by rcases hxs with e | ⟨c, e⟩ <;> rw [e] <;> rfl
  have hl2 : 3 ≤ (xs.map Sv).length := by rcases hxs with e | ⟨c, e⟩ <;> rw [e] <;> simp
  walk_at "rdq"
  refine rd_cut (fun σ H' => H' = H25 ∧ σ = [some (.ref a), some (.ref p), some (.int nights), some rv', some (.int gap'), some (.int pe), some (.int one), some (.int two), some (.ref x2), some (.ref r), some (.ref q21), some (.ref q23), x12, none, none, x15]) (fun N hN => ?_) ?_
  · walk_at "rd"
    refine iteD (fun c => ?_) (fun c => ?_)
    · rcases hxs with e | ⟨c0, e⟩
      · rw [e] at c
        simp at c
      · obtain ⟨h1, h2, h3⟩ := add1 c0
        have i0 : iat (xs.map Sv) 0 = Sv one := by rw [e]; rfl
        have i3 : iat (xs.map Sv) 3 = Sv (one + two) := by rw [e]; rfl
        have hl4 : (xs.map Sv).length = 4 := by rw [e]; rfl
        generalize Sv one = s1 at *
        generalize Sv two = s2 at *
        generalize Sv (one + two) = s3 at *
        walk_at "rd"
        exact hN _ _ ⟨rfl, rfl⟩
    · walk_at "rd"
      exact hN _ _ ⟨rfl, rfl⟩
  rintro σ H' ⟨rfl, rfl⟩
  refine rd_cut (fun σ H2 => ∃ (F2 : Hp) (x13 : Option V), Xt F24 F2 ∧ Xt F2 H2 ∧ Mu K F2 H2 q23 (xs.map Sv) ∧ σ = [some (.ref a), some (.ref p), some (.int nights), some rv', some (.int gap'), some (.int pe), some (.int one), some (.int two), some (.ref x2), some (.ref r), some (.ref q21), some (.ref q23), x12, x13, none, x15]) (fun N hN => ?_) ?_
  · walk_at "rd"
    refine iteD (fun c => ?_) (fun c => ?_)
    · walk_at "rd"
      refine ⟨F25, _, pe + 1, one, run', gap', rfl, y2, wk24.ext y1, hg0, by omega, by omega, by omega, by omega, a10, b10, fun F5 H5 g5 => ?_⟩
      rw [hk (pe + 1) (by omega) (by omega) _ a10]
      walk_at "rd"
      refine ⟨_, rfl, ?_⟩
      walk_at "rd"
      refine ⟨F5, _, gap', pe + 1, m, run', rfl, g5.fh, (lr24.ext (y1.trans g5.ff)).rp, by omega, hg0, by omega, by omega, hm0, hb, hsm, fun u F6 H6 r6 w6 f6 s6 g6 hu h6 l6 hR6 => ?_⟩
      subst hu
      obtain ⟨hf4, hf5, hf6⟩ := rounds_facts hR6 (by omega) hm0 hm1 hl1 hb
      walk_at "rd"
      refine ⟨F6, r6, w6, one, f6, s6, rfl, g6.fh, h6, l6.rp, hf4, hf5, a10, b10, hf6, ?_⟩
      rw [lawKept_eq hR6 a10]
      walk_at "rd"
      exact hN _ _ ⟨F6, _, y1.trans (g5.ff.trans g6.ff), g6.fh, (mm.gr0 g5).gr0 g6, rfl⟩
    · walk_at "rd"
      exact hN _ _ ⟨F25, _, y1, y2, mm, rfl⟩
  rintro σ H27 ⟨F27, x13, z1, z2, m27, rfl⟩
  walk_at "rd"
  refine ⟨F27, _, pe, two, run', gap', rfl, z2, wk24.ext z1, hg0, by omega, by omega, hpe0, hpe1, a11, b11, fun F5 H5 g5 => ?_⟩
  rw [hk pe hpe0 (by omega) _ a11]
  have m5 := m27.gr0 g5
  walk_at "rd"
  refine ⟨_, rfl, ?_⟩
  walk_at "rd"
  rw [itwo]
  walk_at "rd"
  show Q (.bl (decide (Sv two = Sv two))) H5
  rw [decide_eq_true rfl]
  exact hQ _
theorem fk_law {P : Program} {w : World} {K : PySem.W.Frag} {mg : Str → Option Value} {base : Heap} (T : LC K mg) (G__law_pool : GFn P w K mg base "_law_pool" 1 P__law_pool (sp_pool K)) (G__law_draw : GFn P w K mg base "_law_draw" 1 P__law_draw (sp_draw)) (G__law_wants : GFn P w K mg base "_law_wants" 2 P__law_wants (sp_wants K)) (G__law_weeks : GFn P w K mg base "_law_weeks" 2 P__law_weeks (sp_weeks)) (G__law_int : GFn P w K mg base "_law_int" 1 P__law_int (sp_int)) (G__law_rounds : GFn P w K mg base "_law_rounds" 2 P__law_rounds (sp_rounds K)) (G__law_kept : GFn P w K mg base "_law_kept" 1 P__law_kept (sp_lkept K)) (G_kept_after : GFn P w K mg base "kept_after" 4 P_kept_after (sp_kept K)) (MK_Wants : MkC P w K mg base "Wants" (He.ga K "Wants") 1 (sp_winit K)) (MK_Week : MkC P w K mg base "Week" (He.ga K "Week") 3 (sp_weekinit K)) : ∃ fd, Binds K fd P_law [] ∧ FnOk P w K mg base (L2.CX P w) 6 (He.ga K "law") fd P_law (sp_law K) ∧ PySem.W.keepIn K (.ref (He.ga K "law")) = true := by
  obtain ⟨fd, F⟩ := F_law T
  exact ⟨fd, (F.bindsN fun _ _ _ _ _ _ us hl => match us, hl with | [_], _ => rfl), fd_law T G__law_pool G__law_draw G__law_wants G__law_weeks G__law_int G__law_rounds G__law_kept G_kept_after MK_Wants MK_Week F, F.kp⟩
theorem G_law {P : Program} {w : World} {K : PySem.W.Frag} {mg : Str → Option Value} {base : Heap} (T : LC K mg) (G__law_pool : GFn P w K mg base "_law_pool" 1 P__law_pool (sp_pool K)) (G__law_draw : GFn P w K mg base "_law_draw" 1 P__law_draw (sp_draw)) (G__law_wants : GFn P w K mg base "_law_wants" 2 P__law_wants (sp_wants K)) (G__law_weeks : GFn P w K mg base "_law_weeks" 2 P__law_weeks (sp_weeks)) (G__law_int : GFn P w K mg base "_law_int" 1 P__law_int (sp_int)) (G__law_rounds : GFn P w K mg base "_law_rounds" 2 P__law_rounds (sp_rounds K)) (G__law_kept : GFn P w K mg base "_law_kept" 1 P__law_kept (sp_lkept K)) (G_kept_after : GFn P w K mg base "kept_after" 4 P_kept_after (sp_kept K)) (MK_Wants : MkC P w K mg base "Wants" (He.ga K "Wants") 1 (sp_winit K)) (MK_Week : MkC P w K mg base "Week" (He.ga K "Week") 3 (sp_weekinit K)) : GFn P w K mg base "law" 6 P_law (sp_law K) := by
  obtain ⟨fd, b, F, kp⟩ := fk_law (P := P) (w := w) (base := base) T G__law_pool G__law_draw G__law_wants G__law_weeks G__law_int G__law_rounds G__law_kept G_kept_after MK_Wants MK_Week
  exact ⟨_, fd, g_law T, kp, b, F⟩
theorem laws (P : Program) {w : World} {K : PySem.W.Frag} {mg : Str → Option Value} {h : Heap} (X : K.In h) (G : h.Ns mainGlobals mg) (c : SaysY fa fn lk K) {f : Addr} (hfa : mg ("law" : Str) = some (.ref f)) :
    ∃ fd : FuncData, (∀ (s : Shared) (v : Value), BindsTo s fd ⟨[v], []⟩ [("script", v)]) ∧ ∀ base : Heap, FnOk P w K mg base (CXe P) 6 f fd ["script"] (sp_law K) := by
  have T : LC K mg := ⟨h, X, G, c⟩
  obtain ⟨fd, F⟩ := F_law T
  have e := hfa.symm.trans (g_law T)
  cases e
  have b := FunD.bindsA (ps := ["script"]) F fun _ _ _ _ _ _ us hl => match us, hl with | [_], _ => rfl
  refine ⟨fd, fun s v => b s [v] rfl, fun base => fnOk_e ?_⟩
  have x_G__law_pool := G__law_pool (P := P) (w := w) (base := base) T
  have x_G__law_draw := G__law_draw (P := P) (w := w) (base := base) T
  have x_G__law_wants := G__law_wants (P := P) (w := w) (base := base) T x_G__law_draw
  have x_G__law_weeks := G__law_weeks (P := P) (w := w) (base := base) T x_G__law_draw
  have x_G__law_int := G__law_int (P := P) (w := w) (base := base) T
  have x_G__law_one_week := G__law_one_week (P := P) (w := w) (base := base) T
  have x_G__law_rounds := G__law_rounds (P := P) (w := w) (base := base) T x_G__law_one_week
  have x_G__law_kept := G__law_kept (P := P) (w := w) (base := base) T
  have x_G_week_table := G_week_table (P := P) (w := w) (base := base) T
  have x_G_led_over := G_led_over (P := P) (w := w) (base := base) T
  have x_G_joined_tables := G_joined_tables (P := P) (w := w) (base := base) T
  have x_G_kept_after := G_kept_after (P := P) (w := w) (base := base) T x_G_week_table x_G_led_over x_G_joined_tables
  have x_MK_Wants := MK_Wants (P := P) (w := w) (base := base) T
  have x_MK_Week := MK_Week (P := P) (w := w) (base := base) T
  exact fd_law (P := P) (w := w) (base := base) T x_G__law_pool x_G__law_draw x_G__law_wants x_G__law_weeks x_G__law_int x_G__law_rounds x_G__law_kept x_G_kept_after x_MK_Wants x_MK_Week F
end K58
open PySem PySem.W PySem.Calls PyProof.Rows
theorem PySem.Challenge.cw_restnights_k58_kept_after_whole_many_wee_holds : PySem.Challenge.rw_restnights_k58_kept_after_whole_many_wee.Holds := by
  w_on; o_law
  refine HandSHeadRun.head_any (r := OpenLaw.row PySem.Challenge.rw_restnights_k58_kept_after_whole_many_wee) (q := view (OpenLaw.row PySem.Challenge.rw_restnights_k58_kept_after_whole_many_wee).prog [30]) (H := K58.hk) (ob := K58.ob) (M := 100000) (loose := K58.loose) (d := HandSHeadRun.topDef (OpenLaw.row PySem.Challenge.rw_restnights_k58_kept_after_whole_many_wee).prog 30) (kwd := []) K58.ob_eq
    (by kernel_rfl) (fun s => by kernel_rfl) K58.run (by kernel_rfl) (by kernel_rfl) (by kernel_rfl) (by rfl) (by first | assumption | decide +kernel) (by decide +kernel) ⟨rfl, rfl, rfl, rfl, rfl, by decide +kernel⟩ ?hw ?hc
  case hw => w_witness2
  case hc =>
    refine L2.walk_ofE (l := PySem.Challenge.rw_restnights_k58_kept_after_whole_many_wee) (n := 63) (k := 6) (x := "script") (CX := Rn.CXe (PySem.Challenge.rw_restnights_k58_kept_after_whole_many_wee).prog) rfl (by decide) (by kernel_rfl) ⟨rfl, by decide, by decide⟩ ?F (fun _ _ _ _ z => Rn.cxe_no z)
    intro w mg fa h Y G hmg0
    obtain ⟨K, KX, c⟩ := Y
    have hmg : mg ("law" : PySem.Str) = some (.ref fa) := by
      have e : (HandSHeadRun.topDef (OpenLaw.row PySem.Challenge.rw_restnights_k58_kept_after_whole_many_wee).prog 30).name = ("law" : PySem.Str) := by kernel_rfl
      rw [← e]
      exact hmg0
    obtain ⟨fd, hb, hF⟩ := K58.laws (PySem.Challenge.rw_restnights_k58_kept_after_whole_many_wee).prog (w := w) KX G c hmg
    exact ⟨K, fd, K58.sp_law K, KX, hb, fun H a ns hl _ hS => ⟨a, ns, rfl, hS, fun _ => rfl⟩, fun base _ _ => hF base⟩
