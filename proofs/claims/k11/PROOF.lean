import PyProof.Rows.All
import Wide.All
import OpenK.AllK
import Wide.FinOn
import HandS.Call
import HandS.Exc
import HandS.ExcInit
import HandS.Nested
import KE.KExcSuper
import HandS.TryMany
import HandS.ExcField
import HandS.Lambda
import HandS.List
import PyProof.ReprRoads
import HandS.EndTab
import HandS.HeadWalk
import HandS.Words
import HandS.HeadHook1
import HandS.HeadHook2
import HandS.ForMost
import HandS.ForExc
import HandS.Deep
import HandS.IsInst
import HandS.Conv
import HandS.TupSets
import HandS.TupAny
import PyProof.ListStr
import HandS.Text
import HandS.TupLen
import HandS.CallSlots
import HandS.Walk
import HandS.Zip
import HandS.Flow
import HandS.Strs
import HandS.SetFor
import HandS.More
import KE.GoesEnum
import HandS.TryOnly
import HandS.Style
import HandS.Defaults
import HandS.HeadHook4
import HandS.Head0
import HandS.Head1
import HandS.Head2
import HandS.EndBits
import HandS.NestedK
import HandS.Codes
import PySem.Challenge.RW_loopproof_k11_whole_terms
set_option Elab.async false
set_option linter.all false
set_option maxRecDepth 100000
set_option maxHeartbeats 4000000
/-! super().__init__(..) in an own exception's __init__, over the hand layer. -/
namespace PX
open PySem PySem.Spec PyProof.Rows L2 NdefX
/-- what super() asks of the running method -/
structure SupF (X : Cx) (f cc cda D : Addr) (fd : FuncData) (ar : Arg) : Prop where
  func : X.env.func = some f
  code : X.env.code = .ref cda
  fobj : ∃ oc od osl, X.K.lookup f = some ⟨oc, od, .func fd, osl⟩
  par : (fd.params.posonlyargs ++ fd.params.args).head? = some ar
  file : ∃ ccl cdd vs ccs file tf, X.K.lookup cda = some ⟨ccl, cdd, .fields vs, ccs⟩ ∧ vs[2]? = some (.str file tf) ∧ ((X.prog.main.file : Str) == file) = true
  cells : X.env.cells.lookup ("__class__" : Str) = some cc
  cell : ∃ cl cld csl, X.K.lookup cc = some ⟨cl, cld, .cell (some (.ref D)), csl⟩
  isC : ∃ cd, PySem.W.clsIn X.K D = some cd
  sup : X.env.scope.names.lookup ("super" : Str) = some NameKind.globalImplicit
  cls : X.env.scope.names.lookup ("__class__" : Str) = some NameKind.free
  self : X.env.scope.names.lookup ar.arg = some .local
  gS : X.mg "super" = none
  top : (X.prog.main.scope.names.lookup ("super" : Str)).isSome = false
section
variable {X : Cx} {pins : List (Addr × Obj)} {σ : L2.St} {H : Hp} {s : Shared} {f cc cda D a C : Addr} {fd : FuncData} {ar : Arg} {E : Value → Shared → Prop}
theorem sup_base {body : List Stmt} {p0 p1 : Pos} {attr : Str} {whole : Sem Value} {Q : Value → Shared → Prop} (F : SupF X f cc cda D fd ar) (I : Inv X pins σ H s) (h0 : X.N[0]? = some ar.arg) (hσ : σ[0]? = some (some (.ref a))) (ea : H a = some (exo a C none))
    (hsub : PySem.W.mroIn X.K C (.ref D) = some true) (hat : (attr == ("__class__" : Str)) = false)
    (h : ∀ so h', h'.get? so = some (PySem.W.ks_superObj D a C) → (∀ b o, s.heap.get? b = some o → h'.get? b = some o) → s.heap.objs.size ≤ so → Q (.ref so) { s with heap := h' }) :
    _root_.PySem.wpAt (model X.prog X.w) X.A (.func body X.env) (attributeBase (.Call (.Name "super" p0) [] [] p1) attr X.env whole) Q E s := by
  obtain ⟨oc, od, osl, hf⟩ := F.fobj
  obtain ⟨ccl, cdd, vs, ccs, file, tf, hcode, hvs, hfile⟩ := F.file
  obtain ⟨cl, cld, csl, hcell⟩ := F.cell
  obtain ⟨cdD, hD⟩ := F.isC
  have KX := I.kIn
  have hk := I.ok.kind
  obtain ⟨oD, hD1, hD2⟩ : ∃ oD, s.heap.get? D = some oD ∧ oD.data = .cls cdD := by
    unfold PySem.W.clsIn at hD
    split at hD
    · rename_i c d cd' sl ho
      cases hD
      exact ⟨_, KX _ _ ho, rfl⟩
    · cases hD
  obtain ⟨t1, hx⟩ := exo_at I.hok ea
  refine ks_wpAt_super_base (env := X.env) F.sup F.cls hat F.func (KX _ _ hf) rfl F.par F.code (KX _ _ hcode) rfl hvs hfile F.top ?_
  obtain ⟨mb, h1, h2⟩ := I.mod.blt
  refine PySem.W.ks_loadName_global hk F.sup (Calls.loadGlobal_builtin (by rw [I.ok.glob]; exact I.mod.glob.keeps I.bk) F.gS (by rw [I.ok.blt]; exact h1.keeps I.bk) ((h2 "super" (by decide)).trans PyProof.Rows.Boot.«super») ⟨rfl, ?_⟩)
  refine wpAny_loadName_free hk F.cls F.cells ⟨_, KX _ _ hcell, rfl⟩ ?_
  obtain ⟨m, hn, hl⟩ := I.loc
  obtain ⟨u, ru, lk⟩ := hl 0 ar.arg _ h0 hσ (.inl F.self)
  obtain rfl : u = Value.ref a := ru
  have hm : m ar.arg = some (.ref a) := by
    rcases lk with ⟨_, q⟩ | ⟨k, _⟩
    · exact q
    · have hs : X.env.scope.names.lookup ar.arg = some .local := F.self
      rcases k with k | k <;> rw [show X.env.scope.names.lookup ar.arg = _ from k] at hs <;> cases hs
  refine wpAny_loadName_local hk F.self hn hm ?_
  obtain ⟨hh, g, d, t, os⟩ := s
  refine ks_wpAny_isType_cls hD1 hD2 ⟨rfl, ?_⟩
  refine ks_wpAny_call_super hD1 hD2 hx rfl (fun c e => nomatch e) (PySem.W.looks_mroIn KX hsub) (fun h' e k => ?_)
  exact h _ h' e k (Nat.le_refl _)
/-- the bound __init__ is called -/
theorem call_mw {u : Addr} {us : List Value} {Q : Value → Shared → Prop} (T : OexC X.K C) (I : Inv X pins σ H s) (e : H a = some (exo a C none)) (hu : s.heap.get? u = some (PySem.W.kxs_mw "ValueError.__init__" a)) (hl : us.length ≤ sizeLine) (h : ∀ s', Inv X pins σ H s' → Q .none s') :
    wpAny (model X.prog X.w) X.A (call (.ref u) us) Q E s := by
  obtain ⟨nm, q, N, bs, bm, sn, sub, ab, col, dd, k0, k1, k2, k3, k5, hC, hbm⟩ := T.cls
  obtain ⟨t1, ho⟩ := exo_at I.hok e
  have hCh := I.kIn _ _ hC
  obtain ⟨hp, g, d, t, os⟩ := s
  refine wpAny_call (codeAny_of_tree ?_)
  show wpAny _ X.A.in1 (callAny (.ref u) ⟨us, []⟩) _ _ _
  simp only [callAny]
  refine wpAny_bind (wpAny_load hu ?_)
  simp only [PySem.W.kxs_mw, show (Value.type "method-wrapper" == Value.type "method" || Value.type "method-wrapper" == Value.type "builtin_function_or_method" || Value.type "method-wrapper" == Value.type "method-wrapper") = true by decide, if_true]
  refine PySem.W.KFB.if_so (by decide) ?_
  refine wpAny_bind (PySem.W.check_bound_init F.excBase_ValueError.toExcCallFacts hCh ho rfl ?_)
  refine wpAny_bind (wpAny_pure (wpAny_pure ?_))
  refine ⟨plainId_quiet F.excBase_ValueError.init.plain _, codeAny_builtin F.excBase_ValueError.initEntry ?_⟩
  refine PySem.W.exc_init_tree (cls := .ref C) (t0 := t1) (dv := none) (c2 := .none) (c3 := .none) (b4 := .bool false) ho hl fun h' k hx _ => ?_
  have J := I.write (t' := t) (x := a) (e := a) (o := exo a C none) (by rw [e]; exact True.intro) (.inl rfl) k ⟨_, hx⟩ (exo_ok hx)
  have eu : upd H a (exo a C none) = H := by
    funext b
    by_cases hb : b = a
    · rw [hb, upd_same, e]
    · rw [upd_ne hb]
  rw [eu] at J
  exact h _ J
/-- super().__init__(e, ..) -/
theorem sup_init {body : List Stmt} {p0 p1 p2 p3 : Pos} {e : Expr} {es : List Expr} {ta : TA} {Q : Value → Shared → Prop} (T : OexC X.K C) (F : SupF X f cc cda D fd ar) (I : Inv X pins σ H s) (h0 : X.N[0]? = some ar.arg) (hσ : σ[0]? = some (some (.ref a))) (ea : H a = some (exo a C none))
    (hsub : PySem.W.mroIn X.K C (.ref D) = some true) (hm : PySem.W.ks_superIn X.K C D "__init__" = some (some (.builtin "ValueError.__init__"))) (hany : PySem.W.nsIn X.K cStatics "thirdparty.any" = some none) (hVE : PySem.W.subIn X.K (.ref C) (.type "ValueError") = some true)
    (ha : PA X (e :: es) ta) (h : ta σ H fun ws H1 => ws.length ≤ 1000 ∧ H1 a = some (exo a C none) ∧ ∀ s', Inv X pins σ H1 s' → Q .none s') {pl : Sem Bool}
    (he : eval (.Call (.Attribute (.Call (.Name "super" p0) [] [] p1) "__init__" p2) (e :: es) [] p3) X.env = (do
      let ov ← attributeBase (.Call (.Name "super" p0) [] [] p1) "__init__" X.env (eval (.Call (.Name "super" p0) [] [] p1) X.env)
      standAt p2.atName
      let (f, first) ← holding [ov] (getMethod ov "__init__" pl)
      callWith p3 f first (backTo p3 (starEach (e :: es) X.env)) []) := by rfl)
    (hst : starEach (e :: es) X.env = (false, eval e X.env) :: starEach es X.env := by rfl) (hpl : (backTo p3 (starEach es X.env)).any (·.1) = false := by rfl) :
    _root_.PySem.wpAt (model X.prog X.w) X.A (.func body X.env) (eval (.Call (.Attribute (.Call (.Name "super" p0) [] [] p1) "__init__" p2) (e :: es) [] p3) X.env) Q X.xe s := by
  refine ks_wpAt_MethodCall (pl := pl) ?_ he
  refine sup_base F I h0 hσ ea hsub (by decide) fun so h1 hso k1 hge => ?_
  have I1 : Inv X pins σ H { s with heap := h1 } := I.kept (t' := s.toks) k1
  obtain ⟨t1, ho1⟩ := exo_at I1.hok ea
  obtain ⟨cdD, hD⟩ := F.isC
  have hcC : ∃ cd, PySem.W.clsIn X.K C = some cd := by
    unfold PySem.W.ks_superIn at hm
    cases hc : PySem.W.clsIn X.K C with
    | none => rw [hc] at hm; cases hm
    | some cd => exact ⟨cd, rfl⟩
  obtain ⟨cd, hc⟩ := hcC
  unfold PySem.W.ks_superIn at hm
  rw [hc] at hm
  have IA : PySem.W.InstAt h1 a _ C none := ⟨ho1, rfl, rfl, trivial⟩
  have hI : PySem.W.Looks (model X.prog X.w) h1 (isInstance (.ref a) (.type "ValueError")) true := IA.type.andThen (PySem.W.looks_subIn I1.kIn hVE)
  refine PySem.W.kxs_getMethod PySem.W.kxs_ValueError hso (PySem.W.looks_opaque I1.kIn hany) (l₀ := cd.mro) (fun A Q E s k q => wpAny_bind ((PySem.W.looks_clsIn I1.kIn hc) A _ E s k (wpAny_pure q))) rfl I1.kIn hm hI (PySem.W.ks_ne I1.kIn IA hc) (by decide) ?_
  have hsz : s.heap.objs.size ≤ h1.objs.size := Nat.le_trans hge (Nat.le_of_lt (Heap.lt_size hso))
  have I2 : Inv X pins σ H ⟨h1.push (PySem.W.kxs_mw "ValueError.__init__" a), s.gens, s.drawn, s.toks + 1, s.os⟩ := I1.kept (t' := s.toks + 1) fun b o e => Heap.get?_push_of_some _ e
  have hu : (h1.push (PySem.W.kxs_mw "ValueError.__init__" a)).get? h1.objs.size = some (PySem.W.kxs_mw "ValueError.__init__" a) := Heap.get?_push_size _ rfl
  have nu : H h1.objs.size = none := I1.hok.fresh (Nat.le_refl _)
  have I3 : Inv X ((h1.objs.size, PySem.W.kxs_mw "ValueError.__init__" a) :: pins) σ H ⟨h1.push (PySem.W.kxs_mw "ValueError.__init__" a), s.gens, s.drawn, s.toks + 1, s.os⟩ := I2.pins_of fun p hp => by
    rcases List.mem_cons.mp hp with rfl | hp
    · exact ⟨hu, nu, Nat.ne_of_gt I1.lt, I1.nofs (Nat.le_refl _), fun v z => nomatch z⟩
    · exact I2.pin p (List.mem_append_right _ hp)
  show wpAny _ _ (callWith p3 (.ref h1.objs.size) [] (backTo p3 (starEach (e :: es) X.env)) []) _ _ _
  have run := ha.run p3 _ _ σ H _ I3 h
  rw [hst] at run ⊢
  refine PySem.W.kxs_callWith (i := "ValueError.__init__") (x := a) (by show (false || (backTo p3 (starEach es X.env)).any (·.1)) = false; rw [hpl]; rfl) (Calls.evalArgs_plain (thn run fun us s1 ⟨ws, H1, I4, r1, hl, ea1, q⟩ => ?_))
  have hpu := (I4.pin (h1.objs.size, PySem.W.kxs_mw "ValueError.__init__" a) (List.mem_append_right _ List.mem_cons_self)).1
  refine ⟨hpu, ?_⟩
  have I5 : Inv X pins σ H1 s1 := I4.pins_of fun p hp => I4.pin p (List.mem_append_right _ (List.mem_cons_of_mem _ hp))
  exact call_mw T I5 ea1 hpu (by show us.length ≤ _; rw [← Paired.length r1, sizeLine_eq]; omega) q
end
section
variable {P : Program} {w : World} {K : PySem.W.Frag} {mg : Str → Option Value} {base : Heap} {CX : CXT} {k : Nat} {f D : Addr} {F : NF} {N ps : List Str} {sp : Sp}
/-- what stands of an __init__ that says super().__init__ first -/
structure InitF (P : Program) (K : PySem.W.Frag) (mg : Str → Option Value) (f D : Addr) (F : NF) (cc : Addr) (ar : Arg) : Prop where
  lk : ∃ oc od osl doc pm ctv, K.lookup f = some ⟨oc, od, .func (F.fd doc pm ctv), osl⟩
  cd : PySem.W.codeIn K (.ref F.c) F.qual = true
  par : (F.params.posonlyargs ++ F.params.args).head? = some ar
  file : ∃ ccl cdd vs ccs file tf, K.lookup F.c = some ⟨ccl, cdd, .fields vs, ccs⟩ ∧ vs[2]? = some (.str file tf) ∧ ((P.main.file : Str) == file) = true
  cl : F.cl = [(("__class__" : Str), cc)]
  cell : ∃ cl cld csl, K.lookup cc = some ⟨cl, cld, .cell (some (.ref D)), csl⟩
  isC : ∃ cd, PySem.W.clsIn K D = some cd
  sup : F.scope.names.lookup ("super" : Str) = some NameKind.globalImplicit
  self : F.scope.names.lookup ar.arg = some .local
  gS : mg "super" = none
  top : (P.main.scope.names.lookup ("super" : Str)).isSome = false
  oex : OexC K D
  sub : PySem.W.mroIn K D (.ref D) = some true
  sin : PySem.W.ks_superIn K D D "__init__" = some (some (.builtin "ValueError.__init__"))
  any : PySem.W.nsIn K cStatics "thirdparty.any" = some none
  ve : PySem.W.subIn K (.ref D) (.type "ValueError") = some true
theorem init_ok {cc : Addr} {ar : Arg} {p0 p1 p2 p3 p4 : Pos} {e : Expr} {es : List Expr} {rest : List Stmt} (S : NScope N ps ["__class__"] F.scope) (Fi : InitF P K mg f D F cc ar) (h0 : ps[0]? = some ar.arg)
    (hb : F.body = .Expr (.Call (.Attribute (.Call (.Name "super" p0) [] [] p1) "__init__" p2) (e :: es) [] p3) p4 :: rest)
    (len : ∀ vs H Q E, sp vs H Q E → vs.length = ps.length) (hsp : ∀ vs H Q E, sp vs H Q E → ∃ a ws, vs = .ref a :: ws ∧ H a = some (exo a D none))
    (hbody : ∀ (A : Around) (outer : List Env) (s : Shared) (H : Hp) (vs : List V) (Q : VK) (E : XK), sp vs H Q E →
      ∃ ta t, PA (ncx CX P w K mg base N F f A outer s H E) (e :: es) ta ∧ PSs (ncx CX P w K mg base N F f A outer s H E) rest t ∧
        ∀ R : List V → Hp → Prop, (∀ ws H1, ws.length ≤ 1000 → (∀ a, H a = some (exo a D none) → H1 a = some (exo a D none)) → t { nx := fun _ H' => Q .non H', rt := Q } (startF N vs [some (.ref D)]) H1 → R ws H1) → ta (startF N vs [some (.ref D)]) H R)
    (hev : ∀ env : Env, ∃ pl : Sem Bool, eval (.Call (.Attribute (.Call (.Name "super" p0) [] [] p1) "__init__" p2) (e :: es) [] p3) env = (do
      let ov ← attributeBase (.Call (.Name "super" p0) [] [] p1) "__init__" env (eval (.Call (.Name "super" p0) [] [] p1) env)
      standAt p2.atName
      let (f, first) ← holding [ov] (getMethod ov "__init__" pl)
      callWith p3 f first (backTo p3 (starEach (e :: es) env)) []))
    (hst : ∀ env : Env, starEach (e :: es) env = (false, eval e env) :: starEach es env) (hpl : ∀ env : Env, (backTo p3 (starEach es env)).any (·.1) = false)
    (hsw : ∀ env : Env, swapsWith (.Call (.Attribute (.Call (.Name "super" p0) [] [] p1) "__init__" p2) (e :: es) [] p3) none p4.line env = pure false) :
    ∃ fd, (∃ doc pm ctv, fd = F.fd doc pm ctv) ∧ FnOk P w K mg base CX (k + 1) f fd ps sp := by
  obtain ⟨oc, od, osl, doc, pm, ctv, lk⟩ := Fi.lk
  refine ⟨_, ⟨doc, pm, ctv, rfl⟩, len, fun A outer s H args us vs Q E hr e0 hbd r hq => ?_⟩
  have hl := len _ _ _ _ hq
  have KX : K.In s.heap := e0.mod.kin.keeps fun b o e => (e0.bs b o e).1
  have lim : s.heap.NoLimit := e0.mod.nolimit.keeps fun b o e => (e0.bs b o e).1
  obtain ⟨clc, cld, csl, hcell⟩ := Fi.cell
  have C : CellsAt F.cl ["__class__"] [some (.ref D)] s.heap H := by
    rw [Fi.cl]
    refine ⟨rfl, fun y c hy => ?_, fun x y c hx hy => ?_, fun i y hi => ?_⟩
    · have hc : c = cc := by
        simp only [List.lookup_cons, List.lookup_nil] at hy
        split at hy
        · exact (Option.some.inj hy).symm
        · cases hy
      subst hc
      exact ⟨(e0.bs c _ (e0.mod.kin _ _ hcell)).2, _, _, KX _ _ hcell, rfl⟩
    · simp only [List.lookup_cons, List.lookup_nil] at hx hy
      split at hx
      · rename_i q1
        split at hy
        · rename_i q2
          rw [beq_iff_eq.mp q1, beq_iff_eq.mp q2]
        · cases hy
      · cases hx
    · match i, hi with
      | 0, hi =>
        cases hi
        refine ⟨cc, by simp, fun v hv => ?_⟩
        cases hv
        exact ⟨.ref D, rfl, _, KX _ _ hcell, rfl⟩
  refine ks_codeAny_call_defAt (fd := F.fd doc pm ctv) (body := F.body) (binds := ps.zip us) hr.depth (KX _ _ lk) rfl lim (PySem.W.codeRec_of KX Fi.cd) rfl hbd S.nocell (fun ⟨n, _⟩ hy => S.par n (List.of_mem_zip hy).1) (fun h₁ hns hk₁ => ?_) S.co S.gen S.kind
  have I : Inv (ncx CX P w K mg base N F f A outer s H E) [] (startF N vs [some (.ref D)]) H { s with heap := h₁, toks := s.toks + (ps.zip us).length } := inv_startN S hr.hd e0 hl r C hns hk₁
  show _root_.PySem.wpAt (model P w) (A.deeper (envF F f s.heap.objs.size)) (.func F.body (envF F f s.heap.objs.size)) (execs F.body (envF F f s.heap.objs.size)) _ _ _
  generalize hF : F.body = bd
  rw [hb] at hF
  subst hF
  obtain ⟨ta, t, pa, pss, q1⟩ := hbody A outer s H vs Q E hq
  obtain ⟨a, ws, rfl, ea⟩ := hsp _ _ _ _ hq
  obtain ⟨pl, hev'⟩ := hev (envF F f s.heap.objs.size)
  have sf : SupF (ncx CX P w K mg base N F f A outer s H E) f cc F.c D (F.fd doc pm ctv) ar :=
    ⟨rfl, rfl, ⟨_, _, _, lk⟩, Fi.par, Fi.file, by show F.cl.lookup _ = _; rw [Fi.cl]; simp, Fi.cell, Fi.isC, Fi.sup, S.frk _ (by simp), Fi.self, Fi.gS, Fi.top⟩
  have hpre : N[0]? = some ar.arg := by
    have h1 : (ps ++ [("__class__" : Str)])[0]? = some ar.arg := by
      cases ps with
      | nil => cases h0
      | cons x xs => exact h0
    rw [← S.pre, List.getElem?_take_of_lt (by
      simp)] at h1
    exact h1
  have fin : ∀ (σ' : L2.St) (H' : Hp) (v : V) (u : Value) (s' : Shared), Inv (ncx CX P w K mg base N F f A outer s H E) [] σ' H' s' → L2.RelV v u → Q v H' → CE outer P w H s Q u s' :=
    fun σ' H' v u s' J rv q => ⟨v, H', J.os, J.bare, J.base, J.hok, rv, q⟩
  refine ks_wpAt_execs_cons (ks_wpAt_Expr_any ?_ I.quiet (hsw _))
  refine PX.sup_init (X := ncx CX P w K mg base N F f A outer s H E) (pl := pl) Fi.oex sf I hpre rfl ea Fi.sub Fi.sin Fi.any Fi.ve pa (q1 _ fun ws' H1 hl1 hk1 ht => ⟨hl1, hk1 a ea, fun s1 J => ?_⟩) hev' (hst _) (hpl _)
  refine wpAt_of_wpAny (wpAny_mono (pss.run [] s1 _ H1 _ J ht) (fun fl s' hs => ?_) fun e s' hs => hs)
  cases fl with
  | ret u =>
    obtain ⟨v, σ', H', J', rv, q⟩ := hs
    exact fin _ _ v _ _ J' rv q
  | next =>
    obtain ⟨σ', H', J', q⟩ := hs
    exact fin _ _ V.non Value.none _ J' rfl q
  | brk =>
    obtain ⟨_, _, _, q⟩ := hs
    exact False.elim q
  | cont =>
    obtain ⟨_, _, _, q⟩ := hs
    exact False.elim q
end
end PX

set_option Elab.async false
set_option linter.all false
set_option maxRecDepth 100000
set_option maxHeartbeats 4000000
/-! several except clauses, each with a name or without. -/
namespace PX
open PySem PySem.Spec PyProof.Rows L2
/-- the ends of a suite whose name is in slot i: the name goes -/
def cleared (D : Ends) : Option Nat → Ends
  | none => D
  | some i => { nx := fun σ H => D.nx (σ.set i none) H, rt := D.rt, bk := fun σ H => D.bk (σ.set i none) H, ct := fun σ H => D.ct (σ.set i none) H }
def named (a : Addr) : Option Nat → L2.St → L2.St
  | none, σ => σ
  | some i, σ => σ.set i (some (.ref a))
/-- a clause: its class, the slot of its name, its suite's reading -/
structure Cl where
  c : Value
  i : Option Nat
  ts : Addr → Value → Option Addr → TS
def wAll (K : PySem.W.Frag) (n : Nat) (Wout : WX) (D : Ends) : List Cl → WX
  | [] => Wout
  | k :: r => fun cls d σ H => ∃ b, PySem.W.exmOne K cls k.c = some b ∧ (b = true → ∀ a, H a = none → σ.length = n → k.ts a cls d (cleared D k.i) (named a k.i σ) H) ∧ (b = false → wAll K n Wout D r cls d σ H)
/-- the name of a clause is the slot's -/
def nameAt (X : Cx) : Option Str → Option Nat → Prop
  | none, none => True
  | some n, some i => X.N[i]? = some n ∧ X.env.kindOf n = some .local
  | _, _ => False
inductive Hds (X : Cx) : List ExceptHandler → List Cl → Prop
  | nil : Hds X [] []
  | cons {x : Str} {k : Cl} {nm : Option Str} {b₀ : Stmt} {suite : List Stmt} {np hp : Pos} {hds : List ExceptHandler} {l : List Cl} (hc : Names X x k.c) (hn : nameAt X nm k.i)
      (hsu : ∀ (a : Addr) (oe : Obj) (cls : Value) (d : Option Addr) (pn : List (Addr × Obj)), Zc cls d oe → (∃ vs, oe.data = .fields vs) → PSs (X.suite a ((a, oe) :: pn)) (b₀ :: suite) (k.ts a cls d)) (r : Hds X hds l) :
      Hds X (.ExceptHandler (some (.Name x np)) nm (b₀ :: suite) hp :: hds) (k :: l)
section
variable {X : Cx} {D : Ends} {Wout : WX} {pins pinsE : List (Addr × Obj)} {σ : L2.St} {H : Hp} {sI s' : Shared} {B h3 : Heap} {a : Addr} {cls : Value} {d : Option Addr}
/-- an exception that a try has caught, ahead of its clauses -/
structure At (X : Cx) (pins : List (Addr × Obj)) (σ : L2.St) (H : Hp) (sI s' : Shared) (B h3 : Heap) (a : Addr) (cls : Value) (d : Option Addr) : Prop where
  stk : X.stack = X.env :: X.outer
  frm : X.env.frame = some X.env.locals
  J : Inv X pins σ H sI
  nb : ∀ b o, sI.heap.get? b = some o → b ∉ frs X.stack → B.get? b = some o
  up : sI.heap.UpToSlots h3
  fl : HandSPX.FlyingZ B (X.env :: X.outer) a (Zc cls d) h3
  na : H a = none
  os : s'.os = sI.os
  ag : AllBare s'.gens
  nL : a ≠ X.env.locals
  nF : a ∉ X.fs
theorem At.land (c : At X pins σ H sI s' B h3 a cls d) {h4 : Heap} (f : HandSPX.FlyingZ B (X.env :: X.outer) a (Zc cls d) h4) (u : h3.UpToSlots h4) : At X pins σ H sI s' B h4 a cls d :=
  { c with up := c.up.trans u, fl := f }
theorem At.inv (c : At X pins σ H sI s' B h3 a cls d) : Inv X pins σ H { s' with heap := h3 } := c.J.landed c.nb c.fl.1 c.up c.os c.ag
theorem At.suite (c : At X pins σ H sI s' B h3 a cls d) : ∃ oe vs, h3.get? a = some oe ∧ Zc cls d oe ∧ oe.data = .fields vs ∧ Inv (X.suite a ((a, oe) :: (X.pn ++ pins))) [] σ H { s' with heap := h3 } := by
  obtain ⟨oe, vs, h1, h2, h5⟩ := c.fl.there
  exact ⟨oe, vs, h1, h2, h5, c.inv.suite h1 h5 c.na c.nL c.nF⟩
/-- the clauses, one after the other -/
theorem clauses (hN : X.N.Nodup) (tk : Takes X Wout) (c : At X pins σ H sI s' B h3 a cls d) : ∀ {hds : List ExceptHandler} {l : List Cl}, Hds X hds l → wAll X.K X.N.length Wout D l cls d σ H →
    wpAny (model X.prog X.w) X.A (handleBy (.ref a) X.env hds) (SP X pins D) X.xe { s' with heap := h3 } := by
  intro hds l hk
  induction hk with
  | nil =>
    intro w
    refine wpAny_handleBy_nil ?_
    obtain ⟨_, _, _, oe, vs, T, oT, ts', e1, _, e2, e3, _⟩ := id c.fl
    unfold PySem.passOn
    refine wpAny_bind (wpAny_field e1 e2 e3 ?_)
    rw [if_neg (show ¬ ((Value.ref T == Value.none) = true) from by simp)]
    have go : wpAny (model X.prog X.w) X.A (setFlight (.ref a) X.env.frame) (fun _ s4 => wpAny (model X.prog X.w) X.A (throw (.ref a) : Sem Flow) (SP X pins D) X.xe s4) X.xe { s' with heap := h3 } := by
      rw [c.frm]
      refine HandSPX.setFlight_upZ c.fl fun h4 g u => wpAny_throw (tk _ _ ?_)
      exact ⟨a, B, sI, pins, σ, H, cls, d, rfl, c.J, c.nb, c.up.trans u, .inr (.inr (by rw [c.stk]; exact g)), c.na, c.os, c.ag, w⟩
    first
      | exact wpAny_bind (wpAny_pure (wpAny_bind go))
      | exact wpAny_bind go
  | @cons x k nm b₀ suite np hp hds l hc hn hsu r ih =>
    intro w
    obtain ⟨b, e1, yes, no⟩ := w
    obtain ⟨oe, vs, g1, g2, g3, SI⟩ := c.suite
    refine wpAny_handleBy_cons (codeAny_handlers_test ?_) (by intro q; cases q)
    have ty : PySem.W.Looks (model X.prog X.w) h3 (typeOf (.ref a)) cls := fun A Q E s k q => wpAny_typeOf_ref (k _ _ g1) (by rw [g2.1]; exact q)
    have ms := PySem.W.exm_one (M := model X.prog X.w) c.inv.kIn ty e1
    have load : ∀ {Q : Value → Shared → Prop} {E : Value → Shared → Prop}, Q k.c { s' with heap := h3 } → wpAny (model X.prog X.w) (X.A.mark (some (.ref a))) (eval (.Name x np) X.env) Q E { s' with heap := h3 } := fun {Q E} q => by
      obtain ⟨gl, db, m1 | ⟨m1, m2, m3⟩⟩ := hc
      · exact ld_glob (X := X.suite a ((a, oe) :: (X.pn ++ pins))) SI gl m1 q db
      · exact ld_blt (X := X.suite a ((a, oe) :: (X.pn ++ pins))) SI gl m1 m2 q m3 db
    refine load (ms.here ?_)
    cases b with
    | false =>
      show wpAny _ X.A (handleBy (.ref a) X.env hds) _ _ _
      exact ih (no rfl)
    | true =>
      have rd := yes rfl a c.na c.J.len
      obtain ⟨kc, ki, kts⟩ := k
      cases nm with
      | none =>
        cases ki with
        | some i => exact hn.elim
        | none =>
          refine codeAny_handlers_suite ?_
          refine HandSPX.lands_againZ c.fl fun h4 f4 u4 => ?_
          obtain ⟨oe4, vs4, p1, p2, p3, S4⟩ := (c.land f4 u4).suite
          refine wpAny_mono ((hsu a oe4 cls d (X.pn ++ pins) p2 ⟨_, p3⟩).run [] _ _ H _ S4 rd) (fun f s6 q => ?_) (fun _ _ z => False.elim z)
          cases f with
          | next => exact let ⟨_, _, S6, q6⟩ := q; ⟨_, _, S6.unsuite c.J.ok, q6⟩
          | brk => exact let ⟨_, _, S6, q6⟩ := q; ⟨_, _, S6.unsuite c.J.ok, q6⟩
          | cont => exact let ⟨_, _, S6, q6⟩ := q; ⟨_, _, S6.unsuite c.J.ok, q6⟩
          | ret u => exact let ⟨_, _, _, S6, r6, q6⟩ := q; ⟨_, _, _, S6.unsuite c.J.ok, r6, q6⟩
      | some n =>
        cases ki with
        | none => exact hn.elim
        | some i =>
          obtain ⟨hi, hln⟩ := hn
          refine codeAny_handlers_suite_as ?_
          refine HandSPX.lands_againZ c.fl fun h4 f4 u4 => ?_
          obtain ⟨oe4, vs4, p1, p2, p3, S4⟩ := (c.land f4 u4).suite
          refine store_ok (X := X.suite a ((a, oe4) :: (X.pn ++ pins))) (v := .ref a) S4 hN hi (.inl hln) rfl (fun s5 S5 => ?_) (.inr hln)
          refine wpAny_mono ((hsu a oe4 cls d (X.pn ++ pins) p2 ⟨_, p3⟩).run [] s5 _ H _ S5 rd) (fun f s6 q => ?_) (fun _ _ z => False.elim z)
          cases f with
          | next => exact let ⟨_, _, S6, q6⟩ := q; gone_ok (S6.unsuite c.J.ok) hN hi hln fun s7 J7 => ⟨_, _, J7, q6⟩
          | brk => exact let ⟨_, _, S6, q6⟩ := q; gone_ok (S6.unsuite c.J.ok) hN hi hln fun s7 J7 => ⟨_, _, J7, q6⟩
          | cont => exact let ⟨_, _, S6, q6⟩ := q; gone_ok (S6.unsuite c.J.ok) hN hi hln fun s7 J7 => ⟨_, _, J7, q6⟩
          | ret u => exact let ⟨_, _, _, S6, r6, q6⟩ := q; gone_ok (S6.unsuite c.J.ok) hN hi hln fun s7 J7 => ⟨_, _, _, J7, r6, q6⟩
/-- try: .. except C as e: .. except D: .. -/
theorem ps_try {body : List Stmt} {h₀ : ExceptHandler} {hds : List ExceptHandler} {l : List Cl} {pos : Pos} {tb : WX → TS} (hN : X.N.Nodup) (hs : X.stack = X.env :: X.outer) (hf : X.env.frame = some X.env.locals) (tk : Takes X Wout)
    (hb : ∀ (W : WX) (pn : List (Addr × Obj)) (xe : Value → Shared → Prop), Takes (X.tr pn xe) W → PassesOwn (model X.prog X.w) X.A X.env xe → PSs (X.tr pn xe) body (tb W))
    (hh : Hds X (h₀ :: hds) l) : PS X (.Try body (h₀ :: hds) [] [] pos) (fun D σ H => tb (wAll X.K X.N.length Wout D l) D σ H) := by
  refine ⟨fun pins s σ H D I h => ?_⟩
  have ok := I.ok
  have fr : X.A.frames = some (X.env :: X.outer) := by rw [ok.frames, hs]
  refine wpAny_Try_except ?_
  refine wpAny_mono ((hb (wAll X.K X.N.length Wout D l) (X.pn ++ pins) (fun e s₁ => wpAny (model X.prog X.w) X.A (noteFrame e X.env) (fun _ s₂ => wpAny (model X.prog X.w) X.A (setFlight e none) (fun _ s₃ =>
    wpAny (model X.prog X.w) X.A (handleBy e X.env (h₀ :: hds)) (SP X pins D) X.xe s₃) X.xe s₂) X.xe s₁) (fun u s' xx => ?_) PassesOwn.looking).run [] s σ H D (I.toTry _) h) (fun f s1 q => ?_) (fun e s1 z => z)
  · obtain ⟨a, B, sI, _, σ', H', cls, d, rfl, J', nb, up, sky, na, os, ag, w⟩ := xx
    have J : Inv X pins σ' H' sI := J'.ofTry ok
    have sky' : Sky B (X.env :: X.outer) a (Zc cls d) X.env.locals s'.heap := by rw [← hs]; exact sky
    show wpAny (model X.prog X.w) X.A (noteFrame (.ref a) X.env) _ _ _
    refine Sky.land Zc.steady fr hf sky' fun h3 f3 u3 => ?_
    obtain ⟨oe, vs, g1, g2, g3⟩ := f3.there
    have away : a ∉ frs (X.env :: X.outer) := fun hm => by
      obtain ⟨_, o', e', hnf⟩ := f3.2.2.1.mem hm
      rw [g1] at e'
      cases e'
      exact hnf _ g3
    have nL : a ≠ X.env.locals := fun z => away (List.mem_filterMap.mpr ⟨X.env, List.mem_cons_self, by rw [hf, z]⟩)
    have nF : a ∉ X.fs := fun hm => by
      obtain ⟨e, he, q⟩ := List.mem_filterMap.mp hm
      exact away (List.mem_filterMap.mpr ⟨e, List.mem_cons_of_mem _ he, q⟩)
    exact clauses hN tk ⟨hs, hf, J, nb, up.trans u3, f3, na, os, ag, nL, nF⟩ hh w
  · cases f with
    | next => exact let ⟨σ', H', J', q'⟩ := q; wpAny_execs_nil ⟨σ', H', J'.ofTry ok, q'⟩
    | brk => exact let ⟨σ', H', J', q'⟩ := q; ⟨σ', H', J'.ofTry ok, q'⟩
    | cont => exact let ⟨σ', H', J', q'⟩ := q; ⟨σ', H', J'.ofTry ok, q'⟩
    | ret u => exact let ⟨v, σ', H', J', r, q'⟩ := q; ⟨v, σ', H', J'.ofTry ok, r, q'⟩
end
/-- what such an __init__ promises: its arguments are the fields -/
def spI (C : Addr) (fs : List Str) : Sp := fun vs H Q _ => ∃ a ws, vs = .ref a :: ws ∧ ws.length = fs.length ∧ H a = some (exo a C none) ∧
  ∀ d H', H d = none → d ≠ a → H' a = some (exo a C (some d)) → H' d = some (exd d (fs.zip ws).reverse) → (∀ b, b ≠ a → b ≠ d → H' b = H b) → Q .non H'
end PX

set_option Elab.async false
set_option linter.all false
set_option maxRecDepth 100000
set_option maxHeartbeats 4000000
/-! a lambda handed to a def: what its making does to the heap, told in full. -/
namespace PX
open PySem PySem.Spec PyProof.Rows L2 LamX
/-- the making of a lambda: its code object was there, or is new and stands in the table -/
def LamStep (H : Hp) (P : Addr) (q : Str) (H1 : Hp) : Prop := H1 = H ∨ ∃ (ps more : Array Value) (c : Addr), H P = some (.tbl ps) ∧ H c = none ∧ H1 = upd (upd H P (.tbl (ps ++ more))) c (CodeO c q) ∧
  ∀ (pos : Pos) (cv : Value), codeAmong pos (ps ++ more).toList = some cv → codeAmong pos ps.toList = some cv ∨ cv = .ref c
section
variable {X : Cx} {pins : List (Addr × Obj)} {σ : L2.St} {H : Hp} {s : Shared}
theorem lam_made {c P : Addr} {params : Arguments} {body : Expr} {scope : Scope} {pos : Pos} {E : Value → Shared → Prop} {Q : Value → Shared → Prop} (I : Inv X pins σ H s) (TB : TabB X.base X.mg c P) (hcode : X.env.code = .ref c)
    (hT : TabS H P (X.env.qual ++ "<lambda>")) (hdef : defaultsOf params X.env = ([], [])) (hfree : ∀ y ∈ scope.names, y.2 = .free → ∃ c, X.env.cells.lookup y.1 = some c)
    (h : ∀ (f c' : Addr) (pm ctv : Value) (H1 : Hp) (s' : Shared), Inv X pins σ H1 s' → LamStep H P (X.env.qual ++ "<lambda>") H1 → TabS H1 P (X.env.qual ++ "<lambda>") →
      s'.heap.get? f = some (PySem.W.kla_obj "<lambda>" (X.env.qual ++ "<lambda>") params body scope (cloFrom X.env.cells scope.names []) pm c' ctv) → H1 f = none → f ∉ frs X.stack → H1 c' = some (CodeO c' (X.env.qual ++ "<lambda>")) → Q (.ref f) s') :
    wpAny (model X.prog X.w) X.A (eval (.Lambda params body scope pos) X.env) Q E s := by
  obtain ⟨ps, hP, ht, ha⟩ := hT
  refine PySem.W.kla_eval hdef ?_
  have bm : s.heap.BuiltinsAt X.mg P := TB.bm.keeps I.bk
  have oP : s.heap.get? P = some { cls := .none, data := .fields ps } := I.hok P _ hP
  have away : ∀ f, s.heap.objs.size ≤ f → f ∉ frs X.stack := fun f hf z => by
    rcases List.mem_cons.mp (I.stkSub _ z) with e | e
    · have l := I.lt
      rw [← e] at l
      exact absurd l (Nat.not_lt.mpr hf)
    · exact I.nofs hf e
  cases hc : codeAmong pos ps.toList with
  | some cv =>
    obtain ⟨c', rfl, hco⟩ := ha pos cv hc
    refine PySem.W.kla_makeFunctionHit (mg := X.mg) (c := c) (P := P) (ps := ps) (closure_ok hfree) I.ok.glob (I.mod.glob.keeps I.bk) hcode (TB.code.keeps I.bk) oP ht hc bm fun ctv h' tk hx hsz => ?_
    have I1 : Inv X pins σ H { s with heap := h'.push (PySem.W.kla_obj "<lambda>" (X.env.qual ++ "<lambda>") params body scope (cloFrom X.env.cells scope.names []) ((X.mg "__name__").getD .none) c' ctv), toks := tk } := I.kept fun b o e => Heap.get?_push_of_some _ (hx b o e)
    exact h h'.objs.size c' ((X.mg "__name__").getD .none) ctv H _ I1 (.inl rfl) ⟨ps, hP, ht, ha⟩ (Heap.get?_push_size _ rfl) (I.hok.fresh hsz) (away _ hsz) hco
  | none =>
    refine PySem.W.kla_makeFunction (mg := X.mg) (c := c) (P := P) (ps := ps) (closure_ok hfree) I.ok.glob (I.mod.glob.keeps I.bk) hcode (TB.code.keeps I.bk) oP ht hc TB.gP bm fun c' ctv h' tk hx hge hlt hrec htb => ?_
    obtain ⟨c2, oc, vs, t, e2, hoc, hd, hv⟩ := hrec
    cases e2
    have hsz : s.heap.objs.size ≤ h'.objs.size := by omega
    have nC : H c' = none := I.hok.fresh hge
    have PC : P ≠ c' := ne_of_none hP nC
    have I1 := inv_table (t' := tk) (more := #[rawInt pos.line, rawInt pos.col, .ref c']) (h' := h'.push (PySem.W.kla_obj "<lambda>" (X.env.qual ++ "<lambda>") params body scope (cloFrom X.env.cells scope.names []) ((X.mg "__name__").getD .none) c' ctv)) I hP
      (fun b o hb e => Heap.get?_push_of_some _ (hx b o hb e)) (Heap.get?_push_of_some _ htb) hge ⟨oc, vs, t, Heap.get?_push_of_some _ hoc, hd, hv⟩
    have tl : (ps ++ #[rawInt pos.line, rawInt pos.col, .ref c']).toList = ps.toList ++ [rawInt pos.line, rawInt pos.col, .ref c'] := by simp
    refine h h'.objs.size c' ((X.mg "__name__").getD .none) ctv _ _ I1 (.inr ⟨ps, _, c', hP, nC, rfl, fun p' cv hcv => by rw [tl] at hcv; exact among_app _ ht hcv⟩) ⟨_, by rw [upd_ne PC, upd_same], by rw [tl]; exact PySem.TriplesOk_snoc _ _ _ _ ht, fun p' cv hcv => ?_⟩ (Heap.get?_push_size _ rfl) ?_ (away _ hsz) upd_same
    · rw [tl] at hcv
      rcases among_app _ ht hcv with z | z
      · obtain ⟨c0, e1, e2⟩ := ha p' cv z
        have n0 : c0 ≠ c' := ne_of_none e2 nC
        have n1 : c0 ≠ P := fun z => by rw [z, hP] at e2; exact codeO_ne _ (Option.some.inj e2).symm
        exact ⟨c0, e1, by rw [upd_ne n0, upd_ne n1]; exact e2⟩
      · exact ⟨c', z, upd_same⟩
    · have n1 : h'.objs.size ≠ c' := by omega
      have n2 : h'.objs.size ≠ P := Nat.ne_of_gt (Nat.lt_of_lt_of_le (Heap.lt_size oP) hsz)
      rw [upd_ne n1, upd_ne n2]
      exact I.hok.fresh hsz
end
/-- what it reads: the table is the maker's -/
def tLamb (P : Addr) (q : Str) (TT : (XK → Hp → VK → Prop) → Hp → VK → Prop) (t : XK → TE) : TE := fun σ H Q => TabS H P q ∧ ∀ H1, LamStep H P q H1 → TabS H1 P q → TT (fun E H' Q' => t E σ H' Q') H1 Q
section
variable {X : Cx}
/-- x(lambda: body) -/
theorem pe_lamb {TT : (XK → Hp → VK → Prop) → Hp → VK → Prop} {x a : Str} {g c P : Addr} {k : Nat} {pg : Arguments} {bg : List Stmt} {sg : Scope} {dV kV doc pm cdv ct oc : Value} {an od : Option Addr} {osl : Array (Option Value)} {Ng : List Str}
    {params : Arguments} {body : Expr} {scope : Scope} {t : XK → TE} {p lpos pos : Pos} (hg : Gl X x) (hm : X.mg x = some (.ref g)) (hk : PySem.W.keepIn X.K (.ref g) = true)
    (lk : X.K.lookup g = some ⟨oc, od, .func (PySem.W.fnOf x x pg bg sg dV kV doc pm an cdv ct), osl⟩) (hcg : PySem.W.codeIn X.K cdv x = true) (hb : L2.Binds X.K (PySem.W.fnOf x x pg bg sg dV kV doc pm an cdv ct) [a] []) (Sg : FnScope Ng [a] sg) (hNg : Ng[0]? = some a) (hva : Vis sg a)
    (hG : GivesTo X Ng x sg g cdv bg a (X.env.qual ++ "<lambda>") TT)
    (TB : TabB X.base X.mg c P) (hcode : X.env.code = .ref c) (hr : Room (k + 2) X.A) (L : LamS X.env.scope scope) (hdef : defaultsOf params X.env = ([], []))
    (hbind : ∀ (q : Str) (cl : List (Str × Addr)) (pm cv ctv : Value), bindArgs (PySem.W.kla_fn "<lambda>" q params body scope cl pm cv ctv) ⟨[], []⟩ = pure [])
    (hbody : ∀ (A : Around) (outer : List Env) (s : Shared) (H : Hp) (E : XK) (f c' : Addr), Room k (A.deeper (lamEnv X scope s.heap.objs.size f c')) → PE (lamCx X A outer s H E scope f c') body (t E))
    (hdb : (x == ("__debug__" : Str)) = false) (hd : (a == ("__debug__" : Str)) = false) (hcd : (a == ("__classdict__" : Str)) = false) :
    PE X (.Call (.Name x p) [.Lambda params body scope lpos] [] pos) (tLamb P (X.env.qual ++ "<lambda>") TT t) := by
  refine ⟨fun pins s σ H Q I h => ?_⟩
  obtain ⟨hT, h⟩ := h
  refine wpAny_Call_Name_kw (ld_glob I hg hm ?_ hdb)
  refine PySem.W.callWith_K (h₀ := X.base) I.ok.mod.kin hk ?_ (by rfl) (by rfl)
  show wpAny _ _ (spliced ((false, eval (.Lambda params body scope lpos) X.env) :: backTo pos (starEach [] X.env))) _ _ s
  refine Calls.spliced_cons (lam_made I TB hcode hT hdef (L.has I.ok) fun f c' pm' ctv H1 s' I1 st T1 hf hfn hfr hco => ?_)
  refine Calls.spliced_nil ⟨I1.kIn, ?_⟩
  have run : codeAny (model X.prog X.w) X.A (.call (.ref g) ⟨[.ref f], []⟩) (CR C8.CX0 X.stack X.prog X.w H1 s' Q C8.E0) s' :=
    run_ofS (N := Ng) (ps := [a]) (us := [.ref f]) (vs := [.ref f]) lk hcg Sg hr I1.env0 (hb s' [.ref f] I1.kIn rfl) (.cons rfl .nil) rfl fun hr' => by
      obtain ⟨t', ht', hq'⟩ := hG f c' s' H1 Q (fun E H' Q' => t E σ H' Q') (fun W pn xe E p1 p2 tk hW => pe_act (i := 0) I1 L hf hfn hfr (hbind _ _ _ _ _) tk hW hr' (fun A outer s H hr2 => hbody A outer s H E f c' hr2) hNg hva hd hcd) hco (h H1 st T1)
      exact ⟨t', ht'.nox, hq'⟩
  refine wpAny_call (codeAny_mono run fun r s2 hq => ?_)
  cases r with
  | error e => exact (show False from hq).elim
  | ok fl =>
    cases fl with
    | ret u => exact I1.after hq
    | next => exact False.elim hq
    | brk => exact False.elim hq
    | cont => exact False.elim hq
end
end PX

set_option Elab.async false
set_option linter.all false
set_option maxRecDepth 100000
set_option maxHeartbeats 4000000
/-! repr of plain data. -/
namespace PX
open PySem PySem.Spec PyProof.Rows L2
section
variable {X : Cx}
theorem call_repr (hg : X.A.guards = some []) (hu : X.A.units + 190 < cLine) : CallR X (.builtin "repr") (fun xs H Q => ∃ x d, xs = [x] ∧ Dp X.K H x d ∧ d.showable = true ∧ d.hasDict = false ∧ d.depth ≤ 150 ∧ d.shown.length ≤ sizeLine ∧ Q (.str d.shown) H) := by
  intro pins s σ H xs us Q I r ⟨x, d, hx, dp, hs, hd, hp, hz, q⟩
  subst hx
  obtain ⟨u, rfl, ru⟩ := vals1 r
  obtain ⟨as, rd⟩ := Dp.reads I d x u dp ru
  cases rd with
  | none => exact P.repr_of_none ⟨.str _, H, I.tok _, ⟨_, rfl⟩, by simpa only [PyData.shown] using q⟩
  | bool b =>
    refine P.repr_of_bool ⟨.str _, H, I.tok _, ⟨_, rfl⟩, ?_⟩
    simp only [PyData.shown] at q
    cases b <;> exact q
  | int i t =>
    simp only [PyData.showable, decide_eq_true_eq] at hs
    exact P.repr_of_int hs ⟨.str _, H, I.tok _, ⟨_, rfl⟩, by simpa only [PyData.shown] using q⟩
  | str y t =>
    simp only [PyData.shown] at hz q
    exact P.repr_of_str ⟨.str _, H, I.tok _, ⟨_, rfl⟩, q⟩ hz
  | list h1 h2 h3 h4 => exact repr_of_reads' (.list h1 h2 h3 h4) hs (PyData.noDict_hsm hd) hg (by omega) (fun _ _ z => z) (fun h' u tk k => ⟨.str _, H, I.kept k, ⟨_, rfl⟩, q⟩) hz
  | tuple h1 h2 h3 h4 => exact repr_of_reads' (.tuple h1 h2 h3 h4) hs (PyData.noDict_hsm hd) hg (by omega) (fun _ _ z => z) (fun h' u tk k => ⟨.str _, H, I.kept k, ⟨_, rfl⟩, q⟩) hz
  | dict _ _ _ _ _ => simp [PyData.hasDict] at hd
end
end PX

set_option Elab.async false
set_option linter.all false
set_option maxRecDepth 100000
set_option maxHeartbeats 4000000
/-! the call of a law that makes lambdas: its body is entered from the claim's caller, of which all is known. -/
namespace PX
open PySem PySem.Spec PyProof.Rows L2
section
variable {P : Program} {w : World} {K : PySem.W.Frag} {mg mb : Str → Option Value} {fa a c T : Addr} {s₁ : Shared} {vs : List Value} {ns : List Int}
/-- the heap as the law finds it: its table of code objects, and the script where K does not have it -/
def H0 (K : PySem.W.Frag) (T a : Addr) (vs : List Value) (ns : List Int) : Hp := fun b => if b = T then some (.tbl #[]) else if b = a ∧ K.lookup a = none then some (.frz { cls := .type "list", data := .seq vs.toArray } (.lst (ns.map V.int))) else none
theorem H0_cases {b : Addr} {u : HO} (h : H0 K T a vs ns b = some u) : (b = T ∧ u = .tbl #[]) ∨ (b = a ∧ K.lookup a = none ∧ u = .frz { cls := .type "list", data := .seq vs.toArray } (.lst (ns.map V.int))) := by
  unfold H0 at h
  split at h
  · rename_i q; exact .inl ⟨q, (Option.some.inj h).symm⟩
  · split at h
    · rename_i q; exact .inr ⟨q.1, q.2, (Option.some.inj h).symm⟩
    · cases h
theorem law_callA (KX : K.In s₁.heap) (hns : s₁.heap.Ns mainGlobals mg) (hb : s₁.heap.Ns builtinsNs mb) (hbb : ∀ x : Str, x ≠ "__name__" → mb x = bootBuiltins x) (hlim : s₁.heap.NoLimit) (hg : s₁.gens = #[])
    (hT : s₁.heap.get? T = some { cls := .none, data := .fields #[] }) (nT : K.lookup T = none) (C : PySem.W.CodeHd s₁.heap c T)
    (hbm : ∃ (bm : Addr) (ob : Obj), mg "__builtins__" = some (.ref bm) ∧ bm ≠ builtinsNs ∧ s₁.heap.get? bm = some ob ∧ ob.cls = .type "module" ∧ ob.dict = some builtinsNs ∧ ob.data = .plain)
    (ha : s₁.heap.get? a = some { cls := .type "list", data := .seq vs.toArray }) (hi : IntsAre vs ns) (hl : ns.length ≤ sizeLine)
    (F : ∀ (base : Heap) (H : Hp), K.In base → base.Ns mainGlobals mg → LamX.TabB base mg c T → H T = some (.tbl #[]) → SqL K H a (ns.map V.int) → Env0 P w K mg base callerA [] s₁ H →
      codeAny (model P w) callerA (.call (.ref fa) ⟨[.ref a], []⟩) (CR (L2.CX P w) [] P w H s₁ (fun v _ => v = .bl true) fun _ _ _ => False) s₁) :
    codeAny (model P w) callerA (.call (.ref fa) ⟨[.ref a], []⟩) (fun r s' => r = .ok (.ret (.bool true)) ∧ OldK s₁.heap s'.heap ∧ s'.os = s₁.os ∧ AllBare s'.gens) s₁ := by
  have rv := vals_ints hi
  have lenV := hi.length
  have aT : a ≠ T := fun z => by
    rw [z, hT] at ha
    have z' := congrArg Obj.data (Option.some.inj ha)
    cases z'
  generalize hH : H0 K T a vs ns = H
  have hc : ∀ {b : Addr} {u : HO}, H b = some u → (b = T ∧ u = .tbl #[]) ∨ (b = a ∧ K.lookup a = none ∧ u = .frz { cls := .type "list", data := .seq vs.toArray } (.lst (ns.map V.int))) := fun {b u} h => H0_cases (by rw [hH]; exact h)
  have hHT : H T = some (.tbl #[]) := by rw [← hH]; exact if_pos rfl
  have hS : SqL K H a (ns.map V.int) := by
    cases hk : K.lookup a with
    | some o =>
      have e := KX a o hk
      rw [ha] at e
      cases e
      exact .inr ⟨_, vs.toArray, _, hk, rfl, rfl, rfl, by rw [List.size_toArray, lenV]; exact hl, by simpa using rv⟩
    | none =>
      refine .inl (.inr ⟨{ cls := .type "list", data := .seq vs.toArray }, ?_⟩)
      rw [← hH]
      unfold H0
      rw [if_neg aT, if_pos ⟨rfl, hk⟩]
  have hok : HOk P w H s₁.heap := fun b u z => by
    rcases hc z with ⟨rfl, rfl⟩ | ⟨rfl, _, rfl⟩
    · exact hT
    · exact ⟨ha, by rw [List.length_map]; exact hl, vs, _, rv, ha⟩
  have free : ∀ {b : Addr} {o : Obj}, s₁.heap.get? b = some o → (∀ vs n, o.data ≠ .seq vs n) → o.data ≠ .fields #[] → H b = none := fun {b o} e h1 h2 => by
    cases q : H b with
    | none => rfl
    | some u =>
      rcases hc q with ⟨rfl, _⟩ | ⟨rfl, _, _⟩
      · rw [hT] at e; cases e; exact (h2 rfl).elim
      · rw [ha] at e; cases e; exact (h1 _ _ rfl).elim
  have based : ∀ {b : Addr} {o : Obj}, s₁.heap.get? b = some o → H b = none → (hidT s₁.heap H).get? b = some o := fun e n => hidT_get e n
  have nsK : ∀ {b : Addr} {m : Str → Option Value}, s₁.heap.Ns b m → (hidT s₁.heap H).Ns b m := fun {b m} ⟨o, es, ep, e, d, r⟩ => ⟨o, es, ep, based e (free e (fun _ _ z => by rw [d] at z; cases z) fun z => by rw [d] at z; cases z), d, r⟩
  have hKb : K.In (hidT s₁.heap H) := fun b o e => based (KX b o e) (by
    cases q : H b with
    | none => rfl
    | some u =>
      rcases hc q with ⟨rfl, _⟩ | ⟨rfl, hk, _⟩
      · rw [nT] at e; cases e
      · rw [hk] at e; cases e)
  have hM : L2.Mod K mg (hidT s₁.heap H) := ⟨hKb, nsK hns, ⟨mb, nsK hb, hbb⟩, let ⟨mc, h1, h2⟩ := hlim; ⟨mc, nsK h1, h2⟩⟩
  have TB : LamX.TabB (hidT s₁.heap H) mg c T := by
    refine ⟨?_, ?_, fun z => ?_⟩
    · obtain ⟨o, us, file, tf, flags, tg, inF, text, tt, e1, r1, r2, r3, r4, r5, r6, r7, r8, hne⟩ := C
      refine ⟨o, us, file, tf, flags, tg, inF, text, tt, based e1 (free e1 (fun vs n z => ?_) fun z => ?_), r1, r2, r3, r4, r5, r6, r7, r8, hne⟩
      · rw [r2] at z; cases z
      · rw [r2] at z; cases z; simp at r3
    · obtain ⟨bm, ob, b1, b2, b3, b4, b5, b6⟩ := hbm
      have nG : bm ≠ mainGlobals := fun q => by
        obtain ⟨o, es, ep, e, hd, _⟩ := hns
        rw [q, e] at b3
        cases b3
        rw [hd] at b6
        cases b6
      have nP : bm ≠ T := fun q => by
        rw [q, hT] at b3
        cases b3
        cases b6
      exact ⟨bm, ob, b1, b2, nG, nP, based b3 (free b3 (fun _ _ z => by rw [b6] at z; cases z) fun z => by rw [b6] at z; cases z), b4, b5, b6⟩
    · obtain ⟨o, es, ep, e, hd, _⟩ := hns
      rw [z, hT] at e
      cases e
      cases hd
  have e0 : Env0 P w K mg (hidT s₁.heap H) callerA [] s₁ H := ⟨rfl, hM, fun b o e => of_hidT e, Nat.le_of_eq (hidT_size _ _), trivial, fun b hb => absurd (show b ∈ ([] : List Addr) from hb) (by simp), hok, .of_eq hg⟩
  refine codeAny_mono (F _ H hKb (nsK hns) TB hHT hS e0) fun r s' h => ?_
  cases r with
  | error e =>
    obtain ⟨_, _, _, _, _, _, _, _, _, _, _, _, hx⟩ := h
    exact hx.elim
  | ok fl =>
    cases fl with
    | next => exact False.elim h
    | brk => exact False.elim h
    | cont => exact False.elim h
    | ret u =>
      obtain ⟨v, H', os, bare, un, hok', r', q⟩ := h
      have q' : v = .bl true := q
      subst q'
      obtain rfl : u = Value.bool true := r'
      have key : ∀ b o, b ≠ T → s₁.heap.get? b = some o → s'.heap.get? b = some o := fun b o nb e => by
        cases q : H b with
        | none => exact un.keep b o e q (by intro z; exact absurd (show b ∈ ([] : List Addr) from z) (by simp)) (by simp)
        | some u =>
          rcases hc q with ⟨z, _⟩ | ⟨_, _, rfl⟩
          · exact absurd z nb
          · have z2 := un.frzs b _ _ q
            obtain ⟨e1, _⟩ := hok b _ q
            obtain ⟨e2, _⟩ := hok' b _ z2
            rw [e] at e1; cases e1
            exact e2
      obtain ⟨more, z⟩ := un.tbls T #[] hHT
      have grown := hok' T _ z
      refine ⟨rfl, ⟨fun b o e => ?_, fun b o e => ?_⟩, os, bare⟩
      · by_cases hb : b = T
        · subst hb
          rw [hT] at e
          cases e
          exact .inr (.inl ⟨(C.tab hT).isCodeTable, rfl, #[], #[] ++ more, rfl, by rw [Array.empty_append]; exact grown⟩)
        · exact .inl (key b o hb e)
      · by_cases hb : b = T
        · subst hb
          exact ⟨_, grown⟩
        · exact ⟨o, key b o hb e⟩
end
end PX

set_option Elab.async false
set_option linter.all false
set_option maxRecDepth 100000
set_option maxHeartbeats 4000000
/-! own exception classes whose __init__ says super().__init__(p, ..) and sets the fields p, ..: what a hook tells of them. -/
namespace PX
open PySem PySem.Spec PyProof.Rows L2 NdefX
/-- one such class: its name, its fields, the def of its __init__ -/
structure ExD where
  name : Str
  fs : List Str
  st : Stmt
def ExD.qual (d : ExD) : Str := d.name ++ ".__init__"
def initName (e : Expr) : Option Str := match e with
  | .Name x _ => some x
  | _ => none
def setB (p : Str) : Stmt → Bool
  | .Assign [.Attribute (.Name s _) f _] (.Name x _) _ => decide (s = "self") && decide (f = p) && decide (x = p)
  | _ => false
def setsB : List Str → List Stmt → Bool
  | [], [] => true
  | p :: ps, s :: ss => setB p s && setsB ps ss
  | _, _ => false
def argsB : List Str → List Expr → Bool
  | [], [] => true
  | p :: ps, .Name x _ :: es => decide (x = p) && argsB ps es
  | _, _ => false
def okName (x : Str) : Bool := (x != ("__debug__" : Str)) && (x != ("__classdict__" : Str))
abbrev psOf (fs : List Str) : List Str := ("self" : Str) :: fs
abbrev NOf (fs : List Str) : List Str := ("self" : Str) :: (fs ++ [("__class__" : Str)])
/-- what the text must be -/
def ExD.synB (d : ExD) : Bool := (match defBody d.st with
  | .Expr (.Call (.Attribute (.Call (.Name s _) [] [] _) i p2) es [] p3) _ :: rest => (p2.endLine == p3.line) && decide (s = "super") && decide (i = "__init__") && argsB d.fs es && setsB d.fs rest
  | _ => false) && decide (((defArgs d.st).args.map (·.arg)) = psOf d.fs) && (defArgs d.st).posonlyargs.isEmpty && nscB (NOf d.fs) (psOf d.fs) ["__class__"] (defScope d.st) && decide ((defScope d.st).names.lookup ("super" : Str) = some .globalImplicit) && d.fs.all okName && (d.fs.length == 1 || d.fs.length == 2)
/-! ### what the heap says -/
def oexB (K : PySem.W.Frag) (C : Addr) : Bool := (match K.lookup C with
  | some ⟨.type t, _, .cls cd, sl⟩ => (match cd.mro, sl.toList with
    | .ref C' :: bm, [_, _, _, _, some (.builtin n), _] => decide (t = "type") && C' == C && n == "ValueError.__new__" && !cd.hasDel && cd.hasDict && PySem.HandSPX.refsVE bm
    | _, _ => false)
  | _ => false) && decide (PySem.W.findIn K (.ref C) "__setattr__" = some (some (.builtin "object.__setattr__"))) && decide (PySem.W.subIn K (.ref C) (.type "BaseException") = some true) && decide (PySem.W.typeIn K (.ref C) = some (.type "type")) && PySem.W.keepIn K (.ref C)
theorem oexB_ok {K : PySem.W.Frag} {C : Addr} (h : oexB K C = true) : OexC K C := by
  unfold oexB at h
  simp only [Bool.and_eq_true, decide_eq_true_eq] at h
  obtain ⟨⟨⟨⟨h, h1⟩, h2⟩, h3⟩, h4⟩ := h
  refine ⟨?_, h1, h2, h3, h4⟩
  split at h
  · rename_i t dd cd sl ho
    split at h
    · rename_i C' bm k0 k1 k2 k3 n k5 hm hs
      simp only [Bool.and_eq_true, beq_iff_eq, Bool.not_eq_true', decide_eq_true_eq] at h
      obtain ⟨⟨⟨⟨⟨rfl, rfl⟩, rfl⟩, hdel⟩, hdict⟩, hb⟩ := h
      obtain ⟨nm, bs, mro, ns, qn, hd, sn, sub, ab, col, del⟩ := cd
      dsimp only at hm hdel hdict
      subst hm hdel hdict
      have hsl : sl = #[k0, k1, k2, k3, some (.builtin "ValueError.__new__"), k5] := by
        obtain ⟨l⟩ := sl
        simp only at hs
        rw [hs]
      subst hsl
      exact ⟨nm, qn, ns, bs, bm, sn, sub, ab, col, dd, k0, k1, k2, k3, k5, ho, hb⟩
    · cases h
  · cases h
abbrev exF (K : PySem.W.Frag) (d : ExD) : Addr := He.ma K (He.ga K d.name) "__init__"
abbrev ExV : Type := Option (Str × Str × Arguments × FuncBody × Scope × Addr × List Str × Value × Value × Option Addr × Addr)
def exV (K : PySem.W.Frag) (d : ExD) : ExV := match K.lookup (exF K d) with
  | some ⟨_, _, .func fd, _⟩ => some (fd.name, fd.qualname, fd.params, fd.body, fd.scope, fd.globals, fd.closure.map (·.1), fd.defaults, fd.kwdefaults, fd.annotations, fd.builtins)
  | _ => none
def ExD.val (d : ExD) : ExV := some ("__init__", d.qual, defArgs d.st, .stmts (defBody d.st), defScope d.st, mainGlobals, ["__class__"], .none, .none, none, builtinsNs)
def fileB (K : PySem.W.Frag) (file : Str) (c : Addr) : Bool := match K.lookup c with
  | some ⟨_, _, .fields vs, _⟩ => (match vs[2]? with
    | some (Value.str f _) => (file == f)
    | _ => false)
  | _ => false
def cellB (K : PySem.W.Frag) (c D : Addr) : Bool := match K.lookup c with
  | some ⟨_, _, .cell (some (.ref D')), _⟩ => D' == D
  | _ => false
def ExD.ok (K : PySem.W.Frag) (file : Str) (d : ExD) : Bool := (match K.lookup (exF K d) with
  | some ⟨_, _, .func fd, _⟩ => (match fd.code with
    | .ref c => PySem.W.codeIn K (.ref c) d.qual && fileB K file c
    | _ => false) && (match fd.closure with
    | [(_, cc)] => cellB K cc (He.ga K d.name)
    | _ => false)
  | _ => false) && oexB K (He.ga K d.name) && decide (PySem.W.findIn K (.ref (He.ga K d.name)) "__init__" = some (some (.ref (exF K d)))) && decide (PySem.W.typeIn K (.ref (exF K d)) = some (.type "function"))
  && decide (PySem.W.mroIn K (He.ga K d.name) (.ref (He.ga K d.name)) = some true) && decide (PySem.W.ks_superIn K (He.ga K d.name) (He.ga K d.name) "__init__" = some (some (.builtin "ValueError.__init__")))
  && decide (PySem.W.nsIn K cStatics "thirdparty.any" = some none) && decide (PySem.W.subIn K (.ref (He.ga K d.name)) (.type "ValueError") = some true) && (d.fs.all fun f => decide (PySem.W.findIn K (.ref (He.ga K d.name)) f = some none)) && xfB K (He.ga K d.name)
/-- what is known of it -/
structure ExK (P : Program) (K : PySem.W.Frag) (mg : Str → Option Value) (d : ExD) : Prop where
  F : ∃ (F : NF) (cc : Addr) (ar : Arg), F.params = defArgs d.st ∧ F.body = defBody d.st ∧ F.scope = defScope d.st ∧ F.name = "__init__" ∧ F.qual = d.qual ∧ InitF P K mg (exF K d) (He.ga K d.name) F cc ar ∧ ar.arg = "self"
  oex : OexC K (He.ga K d.name)
  find : PySem.W.findIn K (.ref (He.ga K d.name)) "__init__" = some (some (.ref (exF K d)))
  ty : PySem.W.typeIn K (.ref (exF K d)) = some (.type "function")
  no : ∀ f ∈ d.fs, PySem.W.findIn K (.ref (He.ga K d.name)) f = some none
  xf : XfC K (He.ga K d.name)
theorem exK_of {P : Program} {K : PySem.W.Frag} {mg : Str → Option Value} {d : ExD} (hv : exV K d = d.val) (hk : d.ok K P.main.file = true) (hs : d.synB = true) (gS : mg "super" = none) (top : (P.main.scope.names.lookup ("super" : Str)).isSome = false) : ExK P K mg d := by
  unfold ExD.ok at hk
  simp only [Bool.and_eq_true, decide_eq_true_eq, List.all_eq_true] at hk
  obtain ⟨⟨⟨⟨⟨⟨⟨⟨⟨k0, k1⟩, k2⟩, k3⟩, k4⟩, k5⟩, k6⟩, k7⟩, k8⟩, k9⟩ := hk
  refine ⟨?_, oexB_ok k1, k2, k3, k8, xfB_ok k9⟩
  unfold ExD.synB at hs
  simp only [Bool.and_eq_true, decide_eq_true_eq, List.isEmpty_iff] at hs
  obtain ⟨⟨⟨⟨⟨⟨s1, s2⟩, s3⟩, s4⟩, s5⟩, s6⟩, s7⟩ := hs
  unfold exV at hv
  split at k0
  case h_2 => cases k0
  rename_i oc od fd osl lk
  rw [lk] at hv
  simp only [Bool.and_eq_true] at k0
  obtain ⟨c1, c2⟩ := k0
  split at c1
  case h_2 => cases c1
  rename_i c hcode
  split at c2
  case h_2 => cases c2
  rename_i n cc hcl
  simp only [Bool.and_eq_true] at c1
  obtain ⟨c1, c3⟩ := c1
  unfold fileB at c3
  split at c3
  case h_2 => cases c3
  rename_i ccl cdd vs ccs lkc
  split at c3
  case h_2 => cases c3
  rename_i file tf hv2
  unfold cellB at c2
  split at c2
  case h_2 => cases c2
  rename_i cl cld D' csl lkcc
  have c2 := beq_iff_eq.mp c2
  subst c2
  obtain ⟨n1, n2, n3, n4, n5, n6, n7, n8, n9, n10, n11, n12, n13, n14, n15⟩ := fd
  simp only at hcode hcl
  subst hcode hcl
  unfold ExD.val at hv
  simp only [Option.some.injEq, Prod.mk.injEq, List.map_cons, List.map_nil, List.cons.injEq, and_true] at hv
  obtain ⟨e1, e2, e3, e4, e5, e6, e7, e8, e9, e10, e11⟩ := hv
  subst e1 e2 e3 e4 e5 e6 e7 e8 e9 e10 e11
  obtain ⟨ar, har, harn⟩ : ∃ ar, (defArgs d.st).args.head? = some ar ∧ ar.arg = "self" := by
    cases q : (defArgs d.st).args with
    | nil => rw [q] at s2; simp at s2
    | cons a r =>
      rw [q] at s2
      simp only [List.map_cons, List.cons.injEq] at s2
      exact ⟨a, rfl, s2.1⟩
  have nsc := nscope_by s4
  refine ⟨⟨"__init__", d.qual, defArgs d.st, defBody d.st, defScope d.st, [("__class__", cc)], c⟩, cc, ar, rfl, rfl, rfl, rfl, rfl, ⟨⟨oc, od, osl, n10, n11, n14, lk⟩, c1, ?_, ⟨ccl, cdd, vs, ccs, file, tf, lkc, hv2, c3⟩, rfl, ⟨_, _, _, lkcc⟩, ?_, s5, ?_, gS, top, oexB_ok k1, k4, k5, k6, k7⟩, harn⟩
  · rw [s3, List.nil_append]
    exact har
  · have := k4
    unfold PySem.W.mroIn at this
    obtain ⟨cd, a, _⟩ := Option.bind_eq_some_iff.mp this
    exact ⟨cd, a⟩
  · rw [harn]
    exact nsc.par _ (by simp)
/-! ### its promise -/
section
variable {P : Program} {w : World} {K : PySem.W.Frag} {mg : Str → Option Value} {base : Heap} {d : ExD}
theorem okName_and {x : Str} (h : okName x = true) : (x == ("__debug__" : Str)) = false ∧ (x == ("__classdict__" : Str)) = false := by
  unfold okName at h
  simpa [bne] using h
theorem hev_of {p0 p1 p2 p3 : Pos} {es : List Expr} (hl : (p2.endLine == p3.line) = true) (env : Env) {n : Nat} (hn : n = es.length + 0 + 0 := by rfl) (hm : methodCallForm n (backTo p3 (starEach es env)) [] = true)
    (he : ∀ e : Expr, eval (.Call (.Attribute e "__init__" p2) es [] p3) env = (attributeBase e "__init__" env (eval e env) >>= fun ov => standAt p2.atName >>= fun _ => methodCall e "__init__" p2 p3 env ov n (backTo p3 (starEach es env)) [])) : ∃ pl : Sem Bool, eval (.Call (.Attribute (.Call (.Name "super" p0) [] [] p1) "__init__" p2) es [] p3) env = (do
      let ov ← attributeBase (.Call (.Name "super" p0) [] [] p1) "__init__" env (eval (.Call (.Name "super" p0) [] [] p1) env)
      standAt p2.atName
      let (f, first) ← holding [ov] (getMethod ov "__init__" pl)
      callWith p3 f first (backTo p3 (starEach es env)) []) := by
  refine ⟨plainOf (.Call (.Name "super" p0) [] [] p1) env, ?_⟩
  rw [he]
  congr 1
  funext ov
  congr 1
  funext _
  exact mcall_line hm hl
theorem setB_ok {p : Str} {s : Stmt} (h : setB p s = true) : ∃ a b c e, s = .Assign [.Attribute (.Name "self" a) p b] (.Name p c) e := by
  unfold setB at h
  split at h
  · simp only [Bool.and_eq_true, decide_eq_true_eq] at h
    obtain ⟨⟨rfl, rfl⟩, rfl⟩ := h
    exact ⟨_, _, _, _, rfl⟩
  · cases h
theorem init_prom (x : ExK P K mg d) (hs : d.synB = true) : ∃ fd, (∃ cl c doc pm ctv, fd = PySem.W.fnX "__init__" d.qual (defArgs d.st) (defBody d.st) (defScope d.st) cl .none .none doc pm none (.ref c) ctv) ∧ FnOk P w K mg base C8.CX0 1 (exF K d) fd (psOf d.fs) (spI (He.ga K d.name) d.fs) := by
  obtain ⟨⟨nm, ql, pr, bd, sc, cl, c⟩, cc, ar, e1, e2, e3, e4, e5, Fi, har⟩ := x.F
  simp only at e1 e2 e3 e4 e5
  subst e1 e2 e3 e4 e5
  unfold ExD.synB at hs
  simp only [Bool.and_eq_true, decide_eq_true_eq, List.isEmpty_iff, List.all_eq_true] at hs
  obtain ⟨⟨⟨⟨⟨⟨s1, s2⟩, s3⟩, s4⟩, s5⟩, s6⟩, s7⟩ := hs
  split at s1
  case h_2 => cases s1
  rename_i s p0 p1 i p2 es p3 p4 rest hbody
  simp only [Bool.and_eq_true, decide_eq_true_eq] at s1
  obtain ⟨⟨⟨⟨hline, rfl⟩, rfl⟩, hargs⟩, hsets⟩ := s1
  have nsc := nscope_by s4
  have key : ∀ {e : Expr} {es' : List Expr}, es = e :: es' →
      (∀ env : Env, ∃ pl : Sem Bool, eval (.Call (.Attribute (.Call (.Name "super" p0) [] [] p1) "__init__" p2) (e :: es') [] p3) env = (do
      let ov ← attributeBase (.Call (.Name "super" p0) [] [] p1) "__init__" env (eval (.Call (.Name "super" p0) [] [] p1) env)
      standAt p2.atName
      let (f, first) ← holding [ov] (getMethod ov "__init__" pl)
      callWith p3 f first (backTo p3 (starEach (e :: es') env)) [])) →
      (∀ env : Env, starEach (e :: es') env = (false, eval e env) :: starEach es' env) → (∀ env : Env, (backTo p3 (starEach es' env)).any (·.1) = false) →
      (∀ env : Env, swapsWith (.Call (.Attribute (.Call (.Name "super" p0) [] [] p1) "__init__" p2) (e :: es') [] p3) none p4.line env = pure false) →
      (∀ (A : Around) (outer : List Env) (s : Shared) (H : Hp) (vs : List V) (Q : VK) (E : XK), spI (He.ga K d.name) d.fs vs H Q E →
      ∃ ta t, PA (ncx C8.CX0 P w K mg base (NOf d.fs) ⟨"__init__", d.qual, defArgs d.st, defBody d.st, defScope d.st, cl, c⟩ (exF K d) A outer s H E) (e :: es') ta ∧ PSs (ncx C8.CX0 P w K mg base (NOf d.fs) ⟨"__init__", d.qual, defArgs d.st, defBody d.st, defScope d.st, cl, c⟩ (exF K d) A outer s H E) rest t ∧
        ∀ R : List V → Hp → Prop, (∀ ws H1, ws.length ≤ 1000 → (∀ a, H a = some (exo a (He.ga K d.name) none) → H1 a = some (exo a (He.ga K d.name) none)) → t { nx := fun _ H' => Q .non H', rt := Q } (startF (NOf d.fs) vs [some (.ref (He.ga K d.name))]) H1 → R ws H1) → ta (startF (NOf d.fs) vs [some (.ref (He.ga K d.name))]) H R) →
      ∃ fd, (∃ cl c doc pm ctv, fd = PySem.W.fnX "__init__" d.qual (defArgs d.st) (defBody d.st) (defScope d.st) cl .none .none doc pm none (.ref c) ctv) ∧ FnOk P w K mg base C8.CX0 1 (exF K d) fd (psOf d.fs) (spI (He.ga K d.name) d.fs) := by
    intro e es' he h1 h2 h3 h4 hbd
    subst he
    obtain ⟨fd, ⟨doc, pm, ctv, e⟩, ok⟩ := init_ok (k := 0) (CX := C8.CX0) (w := w) (base := base) (F := ⟨"__init__", d.qual, defArgs d.st, defBody d.st, defScope d.st, cl, c⟩) (N := NOf d.fs) (ps := psOf d.fs) (sp := spI (He.ga K d.name) d.fs) nsc Fi (by rw [har]; rfl) hbody
      (fun vs H Q E h => by obtain ⟨a, ws, rfl, h1, _⟩ := h; simp [h1]) (fun vs H Q E h => by obtain ⟨a, ws, rfl, h1, h2, _⟩ := h; exact ⟨a, ws, rfl, h2⟩) hbd h1 h2 h3 h4
    exact ⟨fd, ⟨cl, c, doc, pm, ctv, e⟩, ok⟩
  have selfN : ∀ (A : Around) (outer : List Env) (s : Shared) (H : Hp) (E : XK) (q : Pos), PE (ncx C8.CX0 P w K mg base (NOf d.fs) ⟨"__init__", d.qual, defArgs d.st, defBody d.st, defScope d.st, cl, c⟩ (exF K d) A outer s H E) (.Name "self" q) (tVar 0) := fun A outer s H E q =>
    pe_var (X := ncx C8.CX0 P w K mg base (NOf d.fs) ⟨"__init__", d.qual, defArgs d.st, defBody d.st, defScope d.st, cl, c⟩ (exF K d) A outer s H E) (i := 0) rfl (.inl (nsc.par _ (by simp)))
  have parN : ∀ (i : Nat) (y : Str), d.fs[i]? = some y → ∀ (A : Around) (outer : List Env) (s : Shared) (H : Hp) (E : XK) (q : Pos), PE (ncx C8.CX0 P w K mg base (NOf d.fs) ⟨"__init__", d.qual, defArgs d.st, defBody d.st, defScope d.st, cl, c⟩ (exF K d) A outer s H E) (.Name y q) (tVar (i + 1)) := fun i y hi A outer s H E q =>
    pe_var (X := ncx C8.CX0 P w K mg base (NOf d.fs) ⟨"__init__", d.qual, defArgs d.st, defBody d.st, defScope d.st, cl, c⟩ (exF K d) A outer s H E) (i := i + 1) (by
      show (NOf d.fs)[i + 1]? = some y
      rw [List.getElem?_cons_succ, List.getElem?_append_left (List.getElem?_eq_some_iff.mp hi).1]
      exact hi) (.inl (nsc.par _ (by simp [List.mem_of_getElem? hi]))) (okName_and (s6 y (List.mem_of_getElem? hi))).1 (okName_and (s6 y (List.mem_of_getElem? hi))).2
  cases hfs : d.fs with
  | nil => rw [hfs] at s7; simp at s7
  | cons f1 fr =>
    cases fr with
    | nil =>
      rw [hfs] at hargs hsets
      cases es with
      | nil => cases hargs
      | cons e1 er =>
        cases e1 with
        | Name y q =>
          simp only [argsB, Bool.and_eq_true, decide_eq_true_eq] at hargs
          obtain ⟨rfl, hargs⟩ := hargs
          cases er with
          | cons _ _ => cases hargs
          | nil =>
            cases rest with
            | nil => cases hsets
            | cons st1 sr =>
              simp only [setsB, Bool.and_eq_true] at hsets
              obtain ⟨hs1, hs2⟩ := hsets
              cases sr with
              | cons _ _ => cases hs2
              | nil =>
                obtain ⟨a1, a2, a3, a4, rfl⟩ := setB_ok hs1
                rw [← hfs]
                refine key rfl (fun env => hev_of hline env rfl rfl (fun _ => rfl)) (fun _ => rfl) (fun _ => rfl) (fun _ => rfl) fun A outer s H vs Q E h => ?_
                refine ⟨_, _, pa_cons (parN 0 y (by rw [hfs]; rfl) A outer s H E q) pa_nil, pss_one (ps_ost (selfN A outer s H E a1) (parN 0 y (by rw [hfs]; rfl) A outer s H E a3)), fun R hR => ?_⟩
                obtain ⟨a, ws, rfl, hl, ha, hq⟩ := h
                rw [hfs] at hl
                match ws, hl with
                | [w1], _ =>
                  have g0 : (startF (NOf d.fs) [.ref a, w1] [some (.ref (He.ga K d.name))])[0]? = some (some (V.ref a)) := rfl
                  have g1 : (startF (NOf d.fs) [.ref a, w1] [some (.ref (He.ga K d.name))])[1]? = some (some w1) := rfl
                  refine ⟨w1, g1, hR _ _ (by simp) (fun _ z => z) ?_⟩
                  refine ⟨w1, g1, .ref a, g0, a, _, rfl, x.oex, x.no y (by rw [hfs]; simp), .inl ⟨ha, fun dx hn hne => ?_⟩⟩
                  refine hq dx _ hn hne upd_same ?_ fun b h1 h2 => ?_
                  · rw [upd_ne hne, upd_same, hfs]; rfl
                  · rw [upd_ne h1, upd_ne h2]
        | _ => cases hargs
    | cons f2 fr2 =>
      cases fr2 with
      | cons _ _ => rw [hfs] at s7; simp at s7
      | nil =>
        rw [hfs] at hargs hsets
        cases es with
        | nil => cases hargs
        | cons e1 er =>
          cases e1 with
          | Name y q =>
            simp only [argsB, Bool.and_eq_true, decide_eq_true_eq] at hargs
            obtain ⟨rfl, hargs⟩ := hargs
            cases er with
            | nil => cases hargs
            | cons e2 er2 =>
              cases e2 with
              | Name y2 q2 =>
                simp only [argsB, Bool.and_eq_true, decide_eq_true_eq] at hargs
                obtain ⟨rfl, hargs⟩ := hargs
                cases er2 with
                | cons _ _ => cases hargs
                | nil =>
                  cases rest with
                  | nil => cases hsets
                  | cons st1 sr =>
                    simp only [setsB, Bool.and_eq_true] at hsets
                    obtain ⟨hs1, hs2⟩ := hsets
                    cases sr with
                    | nil => cases hs2
                    | cons st2 sr2 =>
                      simp only [setsB, Bool.and_eq_true] at hs2
                      obtain ⟨hs2, hs3⟩ := hs2
                      cases sr2 with
                      | cons _ _ => cases hs3
                      | nil =>
                        obtain ⟨a1, a2, a3, a4, rfl⟩ := setB_ok hs1
                        obtain ⟨b1, b2, b3, b4, rfl⟩ := setB_ok hs2
                        rw [← hfs]
                        refine key rfl (fun env => hev_of hline env rfl rfl (fun _ => rfl)) (fun _ => rfl) (fun _ => rfl) (fun _ => rfl) fun A outer s H vs Q E h => ?_
                        refine ⟨_, _, pa_cons (parN 0 y (by rw [hfs]; rfl) A outer s H E q) (pa_cons (parN 1 y2 (by rw [hfs]; rfl) A outer s H E q2) pa_nil), pss_cons (ps_ost (selfN A outer s H E a1) (parN 0 y (by rw [hfs]; rfl) A outer s H E a3)) (pss_one (ps_ost (selfN A outer s H E b1) (parN 1 y2 (by rw [hfs]; rfl) A outer s H E b3))), fun R hR => ?_⟩
                        obtain ⟨a, ws, rfl, hl, ha, hq⟩ := h
                        rw [hfs] at hl
                        match ws, hl with
                        | [w1, w2], _ =>
                          have g0 : (startF (NOf d.fs) [.ref a, w1, w2] [some (.ref (He.ga K d.name))])[0]? = some (some (V.ref a)) := rfl
                          have g1 : (startF (NOf d.fs) [.ref a, w1, w2] [some (.ref (He.ga K d.name))])[1]? = some (some w1) := rfl
                          have g2 : (startF (NOf d.fs) [.ref a, w1, w2] [some (.ref (He.ga K d.name))])[2]? = some (some w2) := rfl
                          refine ⟨w1, g1, w2, g2, hR _ _ (by simp) (fun _ z => z) ?_⟩
                          refine ⟨w1, g1, .ref a, g0, a, _, rfl, x.oex, x.no y (by rw [hfs]; simp), .inl ⟨ha, fun dx hn hne => ?_⟩⟩
                          refine ⟨w2, g2, .ref a, g0, a, _, rfl, x.oex, x.no y2 (by rw [hfs]; simp), .inr ⟨dx, [(y, w1)], upd_same, by rw [upd_ne hne, upd_same], by simp, ?_⟩⟩
                          refine hq dx _ hn hne (by rw [upd_ne (Ne.symm hne), upd_same]) ?_ fun b h1 h2 => ?_
                          · rw [upd_same, hfs]; rfl
                          · rw [upd_ne h2, upd_ne h1, upd_ne h2]
              | _ => cases hargs
          | _ => cases hargs
end
end PX

set_option Elab.async false
set_option linter.all false
set_option maxRecDepth 100000
set_option maxHeartbeats 4000000
/-! PY, part a: values D without a heap, what they stand for (Rep), the store of mutable cells, growth of the heap. -/
namespace PY
open PySem PySem.Spec PyProof.Rows L2

/-! ### strings -/
theorem char_inj {a b : Char} (h : a.toNat = b.toNat) : a = b := Char.ext (UInt32.toNat.inj h)
theorem map_char_inj : ∀ {l m : List Char}, l.map Char.toNat = m.map Char.toNat → l = m
  | [], [], _ => rfl
  | [], _ :: _, h => by simp at h
  | _ :: _, [], h => by simp at h
  | a :: l, b :: m, h => by
    simp only [List.map_cons, List.cons.injEq] at h
    rw [char_inj h.1, map_char_inj h.2]
theorem ofString_inj {s t : String} (h : Str.ofString s = Str.ofString t) : s = t := by
  rw [Str.ofString_eq_toList, Str.ofString_eq_toList] at h
  injection h with h
  have h2 : s.toList.map Char.toNat = t.toList.map Char.toNat := by simpa using congrArg Array.toList h
  exact String.toList_inj.mp (map_char_inj h2)
theorem ofString_iff {s t : String} : Str.ofString s = Str.ofString t ↔ s = t := ⟨ofString_inj, fun h => by rw [h]⟩
theorem ofString_beq (s t : String) : (Str.ofString s == Str.ofString t) = (s == t) := by
  by_cases h : s = t
  · subst h; simp
  · have h' : Str.ofString s ≠ Str.ofString t := fun q => h (ofString_inj q)
    rw [beq_eq_false_iff_ne.mpr h, beq_eq_false_iff_ne.mpr h']
theorem ofString_cps (s : String) : (Str.ofString s).cps = (s.toList.map Char.toNat).toArray := by rw [Str.ofString_eq_toList]
theorem ofString_length (s : String) : (Str.ofString s).length = s.toList.length := by
  unfold Str.length
  rw [ofString_cps]
  simp
theorem ofString_append (s t : String) : Str.ofString s ++ Str.ofString t = Str.ofString (s ++ t) := by
  show Str.append _ _ = _
  unfold Str.append
  rw [ofString_cps, ofString_cps, Str.ofString_eq_toList, String.toList_append]
  simp
theorem ofString_ok (s : String) : PyData.strOk (Str.ofString s) = true := by
  unfold PyData.strOk
  rw [ofString_cps, Array.all_eq_true]
  intro i hi
  simp only [List.getElem_toArray, List.getElem_map]
  have := (s.toList[i]'(by simpa using hi)).valid
  have h2 : (s.toList[i]'(by simpa using hi)).toNat < 1114112 := by
    have h := (s.toList[i]'(by simpa using hi)).valid
    simp only [UInt32.isValidChar, Nat.isValidChar] at h
    show (s.toList[i]'(by simpa using hi)).val.toNat < 1114112
    omega
  exact decide_eq_true h2

/-! ### values -/
inductive D where
  | non | bl (b : Bool) | int (i : Int) | str (s : String)
  | tup (xs : List D) | lst (xs : List D)
  | ins (c : Nat) (xs : List D)
  | ref (i : Nat)
  | scr (ns : List Int)
deriving Inhabited

/-- a mutable cell -/
inductive Cell where
  | lst (xs : List D)
  | dct (t : Bool) (kvs : List (D × D))
  | ins (c : Nat) (xs : List D)
  | tbl (i : Nat)
deriving Inhabited
abbrev Store := List Cell

/-- the ground: the written part, where each class stands and its fields -/
structure Gd where
  K : PySem.W.Frag
  cA : Nat → Addr
  cF : Nat → List Str
  tA : Nat → Addr := fun _ => 0
  tq : Nat → Str := fun _ => default

/-- a tuple, a list of the written part -/
def KT (K : PySem.W.Frag) (a : Addr) (xs : List V) : Prop :=
  ∃ (o : Obj) (its : Array Value) (n : Nat), K.lookup a = some o ∧ o.cls = .type "tuple" ∧ o.data = .seq its n ∧ its.size ≤ sizeLine ∧ Vals xs its.toList

/-- a list of ints of the written part -/
def KL (K : PySem.W.Frag) (a : Addr) (ns : List Int) : Prop :=
  ∃ (o : Obj) (its : Array Value) (n : Nat), K.lookup a = some o ∧ o.cls = .type "list" ∧ o.dict = none ∧ o.data = .seq its n ∧ its.size ≤ sizeLine ∧ Vals (ns.map V.int) its.toList
/-- what stands at a, and is not to be written: neither a cell nor a list in the making -/
structure Fz (Z φ : List Addr) (H : Hp) (a : Addr) (o : HO) : Prop where
  rd : Rd H a o
  nf : a ∉ φ
  nz : a ∉ Z

mutual
/-- v in the heap H stands for d; φ: where the cells are; Z: lists in the making -/
inductive Rep (G : Gd) (Z φ : List Addr) (H : Hp) : V → D → Prop
  | non : Rep G Z φ H .non .non
  | bl (b : Bool) : Rep G Z φ H (.bl b) (.bl b)
  | int (i : Int) : Rep G Z φ H (.int i) (.int i)
  | str (s : String) : Rep G Z φ H (.str (Str.ofString s)) (.str s)
  | tup {a : Addr} {vs : List V} {ds : List D} : Fz Z φ H a (.tup vs) ∨ KT G.K a vs → Reps G Z φ H vs ds → Rep G Z φ H (.ref a) (.tup ds)
  | lst {a : Addr} {vs : List V} {ds : List D} : Fz Z φ H a (.lst vs) → Reps G Z φ H vs ds → Rep G Z φ H (.ref a) (.lst ds)
  | ins {a dx : Addr} {c : Nat} {vs : List V} {ds : List D} : Fz Z φ H a (.ins (G.cA c) dx ((G.cF c).zip vs)) → (G.cF c).length = vs.length → Reps G Z φ H vs ds → Rep G Z φ H (.ref a) (.ins c ds)
  | ref {i : Nat} {a : Addr} : φ[i]? = some a → Rep G Z φ H (.ref a) (.ref i)
  | scr {a : Addr} {ns : List Int} : KL G.K a ns → Rep G Z φ H (.ref a) (.scr ns)
inductive Reps (G : Gd) (Z φ : List Addr) (H : Hp) : List V → List D → Prop
  | nil : Reps G Z φ H [] []
  | cons {v : V} {vs : List V} {d : D} {ds : List D} : Rep G Z φ H v d → Reps G Z φ H vs ds → Reps G Z φ H (v :: vs) (d :: ds)
end

/-- a key of a dict -/
inductive KeyRep : Key → D → Prop
  | int (i : Int) : KeyRep (.inl i) (.int i)
  | str (s : String) : KeyRep (.inr (Str.ofString s)) (.str s)
inductive KeyReps : List Key → List D → Prop
  | nil : KeyReps [] []
  | cons {k : Key} {ks : List Key} {d : D} {ds : List D} : KeyRep k d → KeyReps ks ds → KeyReps (k :: ks) (d :: ds)
inductive KVRep (G : Gd) (Z φ : List Addr) (H : Hp) : List (Key × V) → List (D × D) → Prop
  | nil : KVRep G Z φ H [] []
  | cons {k : Key} {v : V} {kvs : List (Key × V)} {kd d : D} {ds : List (D × D)} : KeyRep k kd → Rep G Z φ H v d → KVRep G Z φ H kvs ds → KVRep G Z φ H ((k, v) :: kvs) ((kd, d) :: ds)
inductive TVRep (G : Gd) (Z φ : List Addr) (H : Hp) : List (List Key × V) → List (D × D) → Prop
  | nil : TVRep G Z φ H [] []
  | cons {k : List Key} {v : V} {kvs : List (List Key × V)} {kds : List D} {d : D} {ds : List (D × D)} : KeyReps k kds → Rep G Z φ H v d → TVRep G Z φ H kvs ds → TVRep G Z φ H ((k, v) :: kvs) ((.tup kds, d) :: ds)

/-- at a: a table of code objects, all of the name q -/
def TabC (Z φ : List Addr) (H : Hp) (a : Addr) (q : Str) : Prop := ∃ ps : Array Value, H a = some (.tbl ps) ∧ TriplesOk ps.toList ∧ ∀ (pos : Pos) (cv : Value), codeAmong pos ps.toList = some cv → ∃ c, cv = .ref c ∧ H c = some (LamX.CodeO c q) ∧ c ∉ φ ∧ c ∉ Z
inductive CellRep (G : Gd) (Z φ : List Addr) (H : Hp) (a : Addr) : Cell → Prop
  | lst {vs : List V} {ds : List D} : H a = some (.lst vs) → Reps G Z φ H vs ds → CellRep G Z φ H a (.lst ds)
  | dK {kvs : List (Key × V)} {ds : List (D × D)} : H a = some (.dK kvs) → KVRep G Z φ H kvs ds → CellRep G Z φ H a (.dct false ds)
  | dT {kvs : List (List Key × V)} {ds : List (D × D)} : H a = some (.dT kvs) → TVRep G Z φ H kvs ds → CellRep G Z φ H a (.dct true ds)
  | ins {dx : Addr} {c : Nat} {vs : List V} {ds : List D} : H a = some (.ins (G.cA c) dx ((G.cF c).zip vs)) → (G.cF c).length = vs.length → Reps G Z φ H vs ds → CellRep G Z φ H a (.ins c ds)
  | tbl {i : Nat} : a = G.tA i → TabC Z φ H a (G.tq i) → CellRep G Z φ H a (.tbl i)

/-- the store of cells -/
structure CRel (G : Gd) (Z φ : List Addr) (H : Hp) (μ : Store) : Prop where
  len : φ.length = μ.length
  nd : φ.Nodup
  nz : ∀ a ∈ φ, a ∉ Z
  zt : ∀ a ∈ Z, H a ≠ none
  cell : ∀ (i : Nat) c, μ[i]? = some c → ∃ a, φ[i]? = some a ∧ CellRep G Z φ H a c

/-- the slots -/
abbrev Sl := List (Option D)
structure ERel (G : Gd) (Z φ : List Addr) (H : Hp) (σ : L2.St) (ρ : Sl) : Prop where
  len : σ.length = ρ.length
  at_ : ∀ (i : Nat) d, ρ[i]? = some (some d) → ∃ v, σ[i]? = some (some v) ∧ Rep G Z φ H v d

/-- from one state to a later one: what is no cell stays; new cells are new -/
structure Grow (φ : List Addr) (H : Hp) (φ' : List Addr) (H' : Hp) : Prop where
  keep : ∀ a o, H a = some o → a ∉ φ → H' a = some o
  new : ∀ a, a ∈ φ' → a ∈ φ ∨ H a = none
  pre : ∀ (i : Nat) a, φ[i]? = some a → φ'[i]? = some a

section
variable {G : Gd} {Z φ φ' φ1 φ2 : List Addr} {H H' H1 H2 : Hp}
theorem Grow.refl (φ : List Addr) (H : Hp) : Grow φ H φ H := ⟨fun _ _ h _ => h, fun _ h => .inl h, fun _ _ h => h⟩
theorem Grow.trans (x : Grow φ H φ1 H1) (y : Grow φ1 H1 φ2 H2) : Grow φ H φ2 H2 := by
  refine ⟨fun a o h n => ?_, fun a h => ?_, fun i a h => y.pre i a (x.pre i a h)⟩
  · refine y.keep a o (x.keep a o h n) fun z => ?_
    rcases x.new a z with q | q
    · exact n q
    · rw [h] at q; cases q
  · rcases y.new a h with z | z
    · exact x.new a z
    · by_cases n : a ∈ φ
      · exact .inl n
      · cases q : H a with
        | none => exact .inr rfl
        | some o =>
          rw [x.keep a o q n] at z; cases z
theorem Grow.mem (g : Grow φ H φ' H') {a : Addr} (h : a ∈ φ) : a ∈ φ' := by
  obtain ⟨i, hi, e⟩ := List.mem_iff_getElem.mp h
  have : φ[i]? = some a := by rw [List.getElem?_eq_getElem hi, e]
  exact List.mem_of_getElem? (g.pre i a this)
/-- a new object, no cell -/
theorem Grow.upd {a : Addr} {o : HO} (h : H a = none) : Grow φ H φ (upd H a o) :=
  ⟨fun b u e _ => by rw [upd_ne (ne_of_none e h)]; exact e, fun _ h => .inl h, fun _ _ h => h⟩
/-- a cell is written -/
theorem Grow.write {a : Addr} {o : HO} (h : a ∈ φ) : Grow φ H φ (L2.upd H a o) :=
  ⟨fun b u e n => by rw [upd_ne (fun q => n (by rw [q]; exact h))]; exact e, fun _ h => .inl h, fun _ _ h => h⟩
/-- a new cell -/
theorem Grow.cell {a : Addr} {o : HO} (h : H a = none) : Grow φ H (φ ++ [a]) (L2.upd H a o) :=
  ⟨fun b u e _ => by rw [upd_ne (ne_of_none e h)]; exact e, fun b hb => by
    rcases List.mem_append.mp hb with z | z
    · exact .inl z
    · rw [List.mem_singleton.mp z]; exact .inr h, fun i b e => by
    rw [List.getElem?_append_left (List.getElem?_eq_some_iff.mp e).1]; exact e⟩
/-- cells are forgotten -/
theorem Grow.forget (g : Grow φ H φ' H') (h : ∀ a ∈ φ1, a ∈ φ') (hp : ∀ (i : Nat) a, φ[i]? = some a → φ1[i]? = some a) : Grow φ H φ1 H' :=
  ⟨g.keep, fun a ha => g.new a (h a ha), hp⟩

theorem rd_grow {a : Addr} {o : HO} (g : Grow φ H φ' H') (r : Rd H a o) (n : a ∉ φ) : Rd H' a o := by
  rcases r with r | ⟨u, r⟩
  · exact .inl (g.keep a _ r n)
  · exact .inr ⟨u, g.keep a _ r n⟩
theorem rd_ne {a : Addr} {o : HO} (r : Rd H a o) : H a ≠ none := by
  rcases r with r | ⟨u, r⟩ <;> rw [r] <;> simp
theorem Fz.grow {a : Addr} {o : HO} (g : Grow φ H φ' H') (f : Fz Z φ H a o) : Fz Z φ' H' a o :=
  ⟨rd_grow g f.rd f.nf, fun z => (g.new a z).elim f.nf fun q => rd_ne f.rd q, f.nz⟩
mutual
theorem Rep.grow (g : Grow φ H φ' H') : ∀ {v : V} {d : D}, Rep G Z φ H v d → Rep G Z φ' H' v d
  | _, _, .non => .non
  | _, _, .bl b => .bl b
  | _, _, .int i => .int i
  | _, _, .str s => .str s
  | _, _, .tup h r => .tup (h.imp (fun f => f.grow g) id) (Reps.grow g r)
  | _, _, .lst h r => .lst (h.grow g) (Reps.grow g r)
  | _, _, .ins h e r => .ins (h.grow g) e (Reps.grow g r)
  | _, _, .ref h => .ref (g.pre _ _ h)
  | _, _, .scr h => .scr h
theorem Reps.grow (g : Grow φ H φ' H') : ∀ {vs : List V} {ds : List D}, Reps G Z φ H vs ds → Reps G Z φ' H' vs ds
  | _, _, .nil => .nil
  | _, _, .cons r s => .cons (Rep.grow g r) (Reps.grow g s)
end
theorem ERel.grow {σ : L2.St} {ρ : Sl} (g : Grow φ H φ' H') (r : ERel G Z φ H σ ρ) : ERel G Z φ' H' σ ρ :=
  ⟨r.len, fun i d h => let ⟨v, e, q⟩ := r.at_ i d h; ⟨v, e, q.grow g⟩⟩
theorem KVRep.grow (g : Grow φ H φ' H') : ∀ {kvs : List (Key × V)} {ds : List (D × D)}, KVRep G Z φ H kvs ds → KVRep G Z φ' H' kvs ds
  | _, _, .nil => .nil
  | _, _, .cons k r s => .cons k (r.grow g) (KVRep.grow g s)
theorem TVRep.grow (g : Grow φ H φ' H') : ∀ {kvs : List (List Key × V)} {ds : List (D × D)}, TVRep G Z φ H kvs ds → TVRep G Z φ' H' kvs ds
  | _, _, .nil => .nil
  | _, _, .cons k r s => .cons k (r.grow g) (TVRep.grow g s)
theorem Reps.length : ∀ {vs : List V} {ds : List D}, Reps G Z φ H vs ds → vs.length = ds.length
  | _, _, .nil => rfl
  | _, _, .cons _ s => by rw [List.length_cons, List.length_cons, Reps.length s]
theorem Reps.append : ∀ {vs ws : List V} {ds es : List D}, Reps G Z φ H vs ds → Reps G Z φ H ws es → Reps G Z φ H (vs ++ ws) (ds ++ es)
  | _, _, _, _, .nil, s => s
  | _, _, _, _, .cons r t, s => .cons r (Reps.append t s)
theorem Reps.get : ∀ {vs : List V} {ds : List D} {i : Nat} {d : D}, Reps G Z φ H vs ds → ds[i]? = some d → ∃ v, vs[i]? = some v ∧ Rep G Z φ H v d
  | _, _, _, _, .nil, e => by simp at e
  | _, _, 0, _, .cons r _, e => by
    simp at e; subst e; exact ⟨_, rfl, r⟩
  | _, _, i + 1, _, .cons _ s, e => by
    obtain ⟨v, h1, h2⟩ := Reps.get (i := i) s (by simpa using e)
    exact ⟨v, by simpa using h1, h2⟩
theorem Reps.get' : ∀ {vs : List V} {ds : List D} {i : Nat} {v : V}, Reps G Z φ H vs ds → vs[i]? = some v → ∃ d, ds[i]? = some d ∧ Rep G Z φ H v d
  | _, _, _, _, .nil, e => by simp at e
  | _, _, 0, _, .cons r _, e => by
    simp at e; subst e; exact ⟨_, rfl, r⟩
  | _, _, i + 1, _, .cons _ s, e => by
    obtain ⟨v, h1, h2⟩ := Reps.get' (i := i) s (by simpa using e)
    exact ⟨v, by simpa using h1, h2⟩
theorem Reps.take : ∀ (n : Nat) {vs : List V} {ds : List D}, Reps G Z φ H vs ds → Reps G Z φ H (vs.take n) (ds.take n)
  | 0, _, _, _ => .nil
  | _ + 1, _, _, .nil => .nil
  | n + 1, _, _, .cons r s => .cons r (Reps.take n s)
theorem Reps.drop : ∀ (n : Nat) {vs : List V} {ds : List D}, Reps G Z φ H vs ds → Reps G Z φ H (vs.drop n) (ds.drop n)
  | 0, _, _, r => r
  | _ + 1, _, _, .nil => .nil
  | n + 1, _, _, .cons _ s => Reps.drop n s
theorem Reps.set {v : V} {d : D} (r : Rep G Z φ H v d) : ∀ (n : Nat) {vs : List V} {ds : List D}, Reps G Z φ H vs ds → Reps G Z φ H (vs.set n v) (ds.set n d)
  | _, _, _, .nil => .nil
  | 0, _, _, .cons _ s => .cons r s
  | n + 1, _, _, .cons q s => .cons q (Reps.set r n s)
theorem Reps.replicate {v : V} {d : D} (r : Rep G Z φ H v d) : ∀ (n : Nat), Reps G Z φ H (List.replicate n v) (List.replicate n d)
  | 0 => .nil
  | n + 1 => .cons r (Reps.replicate r n)
theorem Reps.reverse : ∀ {vs : List V} {ds : List D}, Reps G Z φ H vs ds → Reps G Z φ H vs.reverse ds.reverse
  | _, _, .nil => .nil
  | _, _, .cons r s => by
    rw [List.reverse_cons, List.reverse_cons]
    exact (Reps.reverse s).append (.cons r .nil)
theorem Reps.dropLast {vs : List V} {ds : List D} (r : Reps G Z φ H vs ds) : Reps G Z φ H vs.dropLast ds.dropLast := by
  rw [List.dropLast_eq_take, List.dropLast_eq_take, r.length]
  exact r.take _
/-- the cells' own objects -/
theorem CellRep.tracked {a : Addr} {c : Cell} (h : CellRep G Z φ H a c) : H a ≠ none := by
  cases h with
  | lst h _ => rw [h]; simp
  | dK h _ => rw [h]; simp
  | dT h _ => rw [h]; simp
  | ins h _ _ => rw [h]; simp
  | tbl _ h => obtain ⟨ps, h, _⟩ := h; rw [h]; simp
theorem CRel.tracked {μ : Store} (r : CRel G Z φ H μ) {a : Addr} (h : a ∈ φ) : H a ≠ none := by
  obtain ⟨i, hi, e⟩ := List.mem_iff_getElem.mp h
  have hm : i < μ.length := by rw [← r.len]; exact hi
  obtain ⟨b, hb, q⟩ := r.cell i (μ[i]'hm) (List.getElem?_eq_getElem hm)
  rw [List.getElem?_eq_getElem hi, e] at hb
  cases hb
  exact q.tracked
theorem CRel.fresh {μ : Store} (r : CRel G Z φ H μ) {a : Addr} (h : H a = none) : a ∉ φ ∧ a ∉ Z := ⟨fun z => r.tracked z h, fun z => r.zt a z h⟩
theorem TabC.keepG {a : Addr} {q : Str} (g : Grow φ H φ' H') (e : H' a = H a) (h : TabC Z φ H a q) : TabC Z φ' H' a q := by
  obtain ⟨ps, h1, h2, h3⟩ := h
  refine ⟨ps, e.trans h1, h2, fun pos cv hc => ?_⟩
  obtain ⟨c, e1, e2, e3, e4⟩ := h3 pos cv hc
  exact ⟨c, e1, g.keep c _ e2 e3, (fun z => (g.new c z).elim e3 (fun n => by rw [e2] at n; exact nomatch n)), e4⟩
theorem CellRep.keepG {a : Addr} {c : Cell} (g : Grow φ H φ' H') (e : H' a = H a) (h : CellRep G Z φ H a c) : CellRep G Z φ' H' a c := by
  cases h with
  | lst h r => exact .lst (e.trans h) (r.grow g)
  | dK h r => exact .dK (e.trans h) (r.grow g)
  | dT h r => exact .dT (e.trans h) (r.grow g)
  | ins h q r => exact .ins (e.trans h) q (r.grow g)
  | tbl ha h => exact .tbl ha (h.keepG g e)
/-- a new object that is no cell -/
theorem CRel.upd {μ : Store} {a : Addr} {o : HO} (r : CRel G Z φ H μ) (h : H a = none) : CRel G Z φ (upd H a o) μ := by
  refine ⟨r.len, r.nd, r.nz, fun b hb => ?_, fun i c e => ?_⟩
  · have := r.zt b hb
    rw [upd_ne (fun q => this (by rw [q]; exact h))]; exact this
  · obtain ⟨b, hb, q⟩ := r.cell i c e
    exact ⟨b, hb, q.keepG (Grow.upd h) (upd_ne fun z => q.tracked (z ▸ h))⟩
/-- a cell is written -/
theorem CRel.write {μ : Store} {i : Nat} {a : Addr} {o : HO} {c : Cell} (r : CRel G Z φ H μ) (h : φ[i]? = some a) (n : CellRep G Z φ (L2.upd H a o) a c) : CRel G Z φ (L2.upd H a o) (μ.set i c) := by
  have hm : a ∈ φ := List.mem_of_getElem? h
  refine ⟨by rw [List.length_set]; exact r.len, r.nd, r.nz, fun b hb => ?_, fun j c' e => ?_⟩
  · rw [upd_ne (fun q => r.nz a hm (by rw [← q]; exact hb))]; exact r.zt b hb
  · by_cases hj : j = i
    · subst hj
      have hl : j < μ.length := by rw [← r.len]; exact (List.getElem?_eq_some_iff.mp h).1
      rw [List.getElem?_set_self hl] at e
      cases e
      exact ⟨a, h, n⟩
    · rw [List.getElem?_set_ne (Ne.symm hj)] at e
      obtain ⟨b, hb, q⟩ := r.cell j c' e
      have hne : b ≠ a := fun z => hj (by
        subst z
        have h1 := List.getElem?_eq_some_iff.mp hb
        have h2 := List.getElem?_eq_some_iff.mp h
        obtain ⟨l1, e1⟩ := h1
        obtain ⟨l2, e2⟩ := h2
        exact (List.getElem_inj r.nd).mp (e1.trans e2.symm))
      exact ⟨b, hb, q.keepG (Grow.write hm) (upd_ne hne)⟩
/-- a new cell -/
theorem CRel.push {μ : Store} {a : Addr} {o : HO} {c : Cell} (r : CRel G Z φ H μ) (h : H a = none) (n : CellRep G Z (φ ++ [a]) (L2.upd H a o) a c) : CRel G Z (φ ++ [a]) (L2.upd H a o) (μ ++ [c]) := by
  obtain ⟨n1, n2⟩ := r.fresh h
  refine ⟨by rw [List.length_append, List.length_append, r.len]; rfl, ?_, fun b hb => ?_, fun b hb => ?_, fun j c' e => ?_⟩
  · rw [List.nodup_append]
    exact ⟨r.nd, by simp, fun x hx y hy e => n1 (by rw [← List.mem_singleton.mp hy, ← e]; exact hx)⟩
  · rcases List.mem_append.mp hb with z | z
    · exact r.nz b z
    · rw [List.mem_singleton.mp z]; exact n2
  · rw [upd_ne (fun q => n2 (by rw [← q]; exact hb))]; exact r.zt b hb
  · by_cases hj : j < μ.length
    · rw [List.getElem?_append_left hj] at e
      obtain ⟨b, hb, q⟩ := r.cell j c' e
      exact ⟨b, by rw [List.getElem?_append_left (by rw [r.len]; exact hj)]; exact hb, q.keepG (Grow.cell h) (upd_ne fun z => q.tracked (z ▸ h))⟩
    · rw [List.getElem?_append_right (by omega)] at e
      have hz : j - μ.length = 0 := by
        have := (List.getElem?_eq_some_iff.mp e).1
        simp at this; omega
      rw [hz] at e
      simp at e
      subst e
      refine ⟨a, ?_, n⟩
      rw [List.getElem?_append_right (by rw [r.len]; omega), r.len, hz]
      rfl

/-! ### more, or less, that is in the making -/
/-- from Z to Z1: what is new in it was free -/
def ZUp (Z : List Addr) (H : Hp) (Z1 : List Addr) : Prop := ∀ a ∈ Z1, a ∈ Z ∨ H a = none
theorem ZUp.refl {Z : List Addr} {H : Hp} : ZUp Z H Z := fun _ h => .inl h
theorem ZUp.cons {Z : List Addr} {H : Hp} {p : Addr} (h : H p = none) : ZUp Z H (p :: Z) := fun a ha => by
  rcases List.mem_cons.mp ha with e | e
  · rw [e]; exact .inr h
  · exact .inl e
theorem Fz.lift {Z1 : List Addr} {a : Addr} {o : HO} (z : ZUp Z H Z1) (g : Grow φ H φ' H') (f : Fz Z φ H a o) : Fz Z1 φ' H' a o :=
  ⟨rd_grow g f.rd f.nf, fun z => (g.new a z).elim f.nf fun q => rd_ne f.rd q, fun q => (z a q).elim f.nz fun e => rd_ne f.rd e⟩
mutual
theorem Rep.lift {Z1 : List Addr} (z : ZUp Z H Z1) (g : Grow φ H φ' H') : ∀ {v : V} {d : D}, Rep G Z φ H v d → Rep G Z1 φ' H' v d
  | _, _, .non => .non
  | _, _, .bl b => .bl b
  | _, _, .int i => .int i
  | _, _, .str s => .str s
  | _, _, .tup h r => .tup (h.imp (fun f => f.lift z g) id) (Reps.lift z g r)
  | _, _, .lst h r => .lst (h.lift z g) (Reps.lift z g r)
  | _, _, .ins h e r => .ins (h.lift z g) e (Reps.lift z g r)
  | _, _, .ref h => .ref (g.pre _ _ h)
  | _, _, .scr h => .scr h
theorem Reps.lift {Z1 : List Addr} (z : ZUp Z H Z1) (g : Grow φ H φ' H') : ∀ {vs : List V} {ds : List D}, Reps G Z φ H vs ds → Reps G Z1 φ' H' vs ds
  | _, _, .nil => .nil
  | _, _, .cons r s => .cons (Rep.lift z g r) (Reps.lift z g s)
end
theorem KVRep.lift {Z1 : List Addr} (z : ZUp Z H Z1) (g : Grow φ H φ' H') : ∀ {kvs : List (Key × V)} {ds : List (D × D)}, KVRep G Z φ H kvs ds → KVRep G Z1 φ' H' kvs ds
  | _, _, .nil => .nil
  | _, _, .cons k r s => .cons k (r.lift z g) (KVRep.lift z g s)
theorem TVRep.lift {Z1 : List Addr} (z : ZUp Z H Z1) (g : Grow φ H φ' H') : ∀ {kvs : List (List Key × V)} {ds : List (D × D)}, TVRep G Z φ H kvs ds → TVRep G Z1 φ' H' kvs ds
  | _, _, .nil => .nil
  | _, _, .cons k r s => .cons k (r.lift z g) (TVRep.lift z g s)
theorem ERel.lift {Z1 : List Addr} {σ : L2.St} {ρ : Sl} (z : ZUp Z H Z1) (g : Grow φ H φ' H') (r : ERel G Z φ H σ ρ) : ERel G Z1 φ' H' σ ρ :=
  ⟨r.len, fun i d h => let ⟨v, e, q⟩ := r.at_ i d h; ⟨v, e, q.lift z g⟩⟩
/-- a new object in the making -/
theorem CRel.making {μ : Store} {p : Addr} {o : HO} (r : CRel G Z φ H μ) (h : H p = none) : CRel G (p :: Z) φ (L2.upd H p o) μ := by
  have n := r.fresh h
  refine ⟨r.len, r.nd, fun a ha => ?_, fun b hb => ?_, fun i c e => ?_⟩
  · intro q
    rcases List.mem_cons.mp q with e | e
    · exact n.1 (by rw [← e]; exact ha)
    · exact r.nz a ha e
  · rcases List.mem_cons.mp hb with e | e
    · rw [e, upd_same]; simp
    · rw [upd_ne (fun q => r.zt b e (by rw [q]; exact h))]; exact r.zt b e
  · obtain ⟨b, hb, q⟩ := r.cell i c e
    have hne : b ≠ p := fun z => q.tracked (by rw [z]; exact h)
    refine ⟨b, hb, ?_⟩
    have g : Grow φ H φ (L2.upd H p o) := Grow.upd h
    cases q with
    | lst h1 r1 => exact .lst (by rw [upd_ne hne]; exact h1) (r1.lift (.cons h) g)
    | dK h1 r1 => exact .dK (by rw [upd_ne hne]; exact h1) (r1.lift (.cons h) g)
    | dT h1 r1 => exact .dT (by rw [upd_ne hne]; exact h1) (r1.lift (.cons h) g)
    | ins h1 e1 r1 => exact .ins (by rw [upd_ne hne]; exact h1) e1 (r1.lift (.cons h) g)
    | tbl ha h1 =>
      obtain ⟨ps, q1, q2, q3⟩ := h1
      refine .tbl ha ⟨ps, by rw [upd_ne hne]; exact q1, q2, fun pos cv hc => ?_⟩
      obtain ⟨c, e1, e2, e3, e4⟩ := q3 pos cv hc
      have ncp : c ≠ p := fun z => by rw [z, h] at e2; cases e2
      refine ⟨c, e1, by rw [upd_ne ncp]; exact e2, e3, fun z => ?_⟩
      rcases List.mem_cons.mp z with z | z
      · exact ncp z
      · exact e4 z
/-- what is in the making is written: all else stands -/
structure Mk (p : Addr) (Z φ : List Addr) (H : Hp) (Z1 φ1 : List Addr) (H1 : Hp) : Prop where
  keep : ∀ a o, a ≠ p → H a = some o → H1 a = some o
  phi : ∀ a, a ≠ p → a ∉ φ → a ∉ φ1
  zed : ∀ a, a ≠ p → a ∉ Z → a ∉ Z1
  pre : ∀ (i : Nat) a, φ[i]? = some a → φ1[i]? = some a
theorem Fz.made {Z1 φ1 : List Addr} {p a : Addr} {o : HO} (hp : p ∈ Z) (m : Mk p Z φ H Z1 φ1 H1) (f : Fz Z φ H a o) : Fz Z1 φ1 H1 a o := by
  have hne : a ≠ p := fun z => f.nz (by rw [z]; exact hp)
  refine ⟨?_, m.phi a hne f.nf, m.zed a hne f.nz⟩
  rcases f.rd with r | ⟨u, r⟩
  · exact .inl (m.keep a _ hne r)
  · exact .inr ⟨u, m.keep a _ hne r⟩
mutual
theorem Rep.made {Z1 φ1 : List Addr} {p : Addr} (hp : p ∈ Z) (m : Mk p Z φ H Z1 φ1 H1) : ∀ {v : V} {d : D}, Rep G Z φ H v d → Rep G Z1 φ1 H1 v d
  | _, _, .non => .non
  | _, _, .bl b => .bl b
  | _, _, .int i => .int i
  | _, _, .str s => .str s
  | _, _, .tup h r => .tup (h.imp (fun f => f.made hp m) id) (Reps.made hp m r)
  | _, _, .lst h r => .lst (h.made hp m) (Reps.made hp m r)
  | _, _, .ins h e r => .ins (h.made hp m) e (Reps.made hp m r)
  | _, _, .ref h => .ref (m.pre _ _ h)
  | _, _, .scr h => .scr h
theorem Reps.made {Z1 φ1 : List Addr} {p : Addr} (hp : p ∈ Z) (m : Mk p Z φ H Z1 φ1 H1) : ∀ {vs : List V} {ds : List D}, Reps G Z φ H vs ds → Reps G Z1 φ1 H1 vs ds
  | _, _, .nil => .nil
  | _, _, .cons r s => .cons (Rep.made hp m r) (Reps.made hp m s)
end
theorem KVRep.made {Z1 φ1 : List Addr} {p : Addr} (hp : p ∈ Z) (m : Mk p Z φ H Z1 φ1 H1) : ∀ {kvs : List (Key × V)} {ds : List (D × D)}, KVRep G Z φ H kvs ds → KVRep G Z1 φ1 H1 kvs ds
  | _, _, .nil => .nil
  | _, _, .cons k r s => .cons k (r.made hp m) (KVRep.made hp m s)
theorem TVRep.made {Z1 φ1 : List Addr} {p : Addr} (hp : p ∈ Z) (m : Mk p Z φ H Z1 φ1 H1) : ∀ {kvs : List (List Key × V)} {ds : List (D × D)}, TVRep G Z φ H kvs ds → TVRep G Z1 φ1 H1 kvs ds
  | _, _, .nil => .nil
  | _, _, .cons k r s => .cons k (r.made hp m) (TVRep.made hp m s)
theorem CellRep.made {Z1 φ1 : List Addr} {p a : Addr} {c : Cell} (hp : p ∈ Z) (m : Mk p Z φ H Z1 φ1 H1) (hne : a ≠ p) (q : CellRep G Z φ H a c) : CellRep G Z1 φ1 H1 a c := by
  cases q with
  | lst h1 r1 => exact .lst (m.keep a _ hne h1) (r1.made hp m)
  | dK h1 r1 => exact .dK (m.keep a _ hne h1) (r1.made hp m)
  | dT h1 r1 => exact .dT (m.keep a _ hne h1) (r1.made hp m)
  | ins h1 e1 r1 => exact .ins (m.keep a _ hne h1) e1 (r1.made hp m)
  | tbl ha h1 =>
    obtain ⟨ps, q1, q2, q3⟩ := h1
    refine .tbl ha ⟨ps, m.keep a _ hne q1, q2, fun pos cv hc => ?_⟩
    obtain ⟨c, e1, e2, e3, e4⟩ := q3 pos cv hc
    have ncp : c ≠ p := fun z => e4 (by rw [z]; exact hp)
    exact ⟨c, e1, m.keep c _ ncp e2, m.phi c ncp e3, m.zed c ncp e4⟩
/-- it is written, still in the making -/
theorem Mk.write {p : Addr} {o : HO} : Mk p Z φ H Z φ (L2.upd H p o) := ⟨fun a u n e => by rw [upd_ne n]; exact e, fun _ _ h => h, fun _ _ h => h, fun _ _ h => h⟩
/-- it is a frozen object from now on -/
theorem Mk.done {p : Addr} {o : HO} : Mk p (p :: Z) φ H Z φ (L2.upd H p o) := ⟨fun a u n e => by rw [upd_ne n]; exact e, fun _ _ h => h, fun a _ h q => h (List.mem_cons_of_mem _ q), fun _ _ h => h⟩
/-- it is a cell from now on -/
theorem Mk.cell {p : Addr} {o : HO} : Mk p (p :: Z) φ H Z (φ ++ [p]) (L2.upd H p o) := ⟨fun a u n e => by rw [upd_ne n]; exact e, fun a n h q => by
  rcases List.mem_append.mp q with z | z
  · exact h z
  · exact n (List.mem_singleton.mp z), fun a _ h q => h (List.mem_cons_of_mem _ q), fun i a h => by rw [List.getElem?_append_left (List.getElem?_eq_some_iff.mp h).1]; exact h⟩
theorem CRel.mkWrite {μ : Store} {p : Addr} {o : HO} (hp : p ∈ Z) (r : CRel G Z φ H μ) : CRel G Z φ (L2.upd H p o) μ := by
  refine ⟨r.len, r.nd, r.nz, fun b hb => ?_, fun i c e => ?_⟩
  · by_cases q : b = p
    · rw [q, upd_same]; simp
    · rw [upd_ne q]; exact r.zt b hb
  · obtain ⟨b, hb, q⟩ := r.cell i c e
    exact ⟨b, hb, q.made hp Mk.write fun z => r.nz b (List.mem_of_getElem? hb) (by rw [z]; exact hp)⟩
theorem CRel.mkDone {μ : Store} {p : Addr} {o : HO} (r : CRel G (p :: Z) φ H μ) : CRel G Z φ (L2.upd H p o) μ := by
  refine ⟨r.len, r.nd, fun a ha q => r.nz a ha (List.mem_cons_of_mem _ q), fun b hb => ?_, fun i c e => ?_⟩
  · by_cases q : b = p
    · rw [q, upd_same]; simp
    · rw [upd_ne q]; exact r.zt b (List.mem_cons_of_mem _ hb)
  · obtain ⟨b, hb, q⟩ := r.cell i c e
    exact ⟨b, hb, q.made List.mem_cons_self Mk.done fun z => r.nz b (List.mem_of_getElem? hb) (by rw [z]; exact List.mem_cons_self)⟩
theorem CRel.mkCell {μ : Store} {p : Addr} {o : HO} {k : Cell} (r : CRel G (p :: Z) φ H μ) (hp : p ∉ Z) (n : CellRep G Z (φ ++ [p]) (L2.upd H p o) p k) : CRel G Z (φ ++ [p]) (L2.upd H p o) (μ ++ [k]) := by
  have nphi : p ∉ φ := fun z => r.nz p z List.mem_cons_self
  refine ⟨by rw [List.length_append, List.length_append, r.len]; rfl, ?_, fun b hb q => ?_, fun b hb => ?_, fun j c' e => ?_⟩
  · rw [List.nodup_append]
    exact ⟨r.nd, by simp, fun x hx y hy e => nphi (by rw [← List.mem_singleton.mp hy, ← e]; exact hx)⟩
  · rcases List.mem_append.mp hb with z | z
    · exact r.nz b z (List.mem_cons_of_mem _ q)
    · rw [List.mem_singleton.mp z] at q; exact hp q
  · rw [upd_ne (fun q => hp (by rw [← q]; exact hb))]; exact r.zt b (List.mem_cons_of_mem _ hb)
  · by_cases hj : j < μ.length
    · rw [List.getElem?_append_left hj] at e
      obtain ⟨b, hb, q⟩ := r.cell j c' e
      exact ⟨b, by rw [List.getElem?_append_left (by rw [r.len]; exact hj)]; exact hb, q.made List.mem_cons_self Mk.cell fun z => nphi (by rw [← z]; exact List.mem_of_getElem? hb)⟩
    · rw [List.getElem?_append_right (by omega)] at e
      have hz : j - μ.length = 0 := by
        have := (List.getElem?_eq_some_iff.mp e).1
        simp at this; omega
      rw [hz] at e
      simp at e
      subst e
      refine ⟨p, ?_, n⟩
      rw [List.getElem?_append_right (by rw [r.len]; omega), r.len, hz]
      rfl
end
end PY

set_option Elab.async false
set_option linter.all false
set_option maxRecDepth 100000
set_option maxHeartbeats 4000000
/-! PY, part b: the small language and its meaning over D. -/
namespace PY
open PySem PySem.Spec PyProof.Rows L2

/-- the longest list, text -/
abbrev Sz : Nat := 16777216

/-! ### what a value is -/
mutual
def eqv : D → D → Bool
  | .non, .non => true
  | .bl a, .bl b => a == b
  | .bl a, .int j => (if a then 1 else 0) == j
  | .int i, .bl b => i == (if b then 1 else 0)
  | .int i, .int j => i == j
  | .str s, .str t => s == t
  | .lst xs, .lst ys => eqvs xs ys
  | .tup xs, .tup ys => eqvs xs ys
  | _, _ => false
def eqvs : List D → List D → Bool
  | [], [] => true
  | x :: xs, y :: ys => eqv x y && eqvs xs ys
  | [], _ :: _ => false
  | _ :: _, [] => false
end
mutual
/-- plain data: no cell, no instance within -/
def plain : D → Bool
  | .non | .bl _ | .int _ | .str _ => true
  | .tup xs | .lst xs => plains xs
  | .ins .. | .ref _ | .scr _ => false
def plains : List D → Bool
  | [] => true
  | x :: xs => plain x && plains xs
end
mutual
def depth : D → Nat
  | .non | .bl _ | .int _ | .str _ | .ref _ | .scr _ => 0
  | .tup xs | .lst xs | .ins _ xs => depths xs + 1
def depths : List D → Nat
  | [] => 0
  | x :: xs => max (depth x) (depths xs)
end
mutual
/-- all cells within are below n -/
def below (n : Nat) : D → Bool
  | .non | .bl _ | .int _ | .str _ | .scr _ => true
  | .tup xs | .lst xs | .ins _ xs => belows n xs
  | .ref i => decide (i < n)
def belows (n : Nat) : List D → Bool
  | [] => true
  | x :: xs => below n x && belows n xs
end
/-- the list that a cell holds, as a value -/
def deref (μ : Store) : D → D
  | .ref i => match μ[i]? with
    | some (.lst xs) => .lst xs
    | _ => .ref i
  | d => d
/-- the items of a list or tuple -/
def seqOf (μ : Store) : D → Option (List D)
  | .scr ns => some (ns.map .int)
  | .tup xs => some xs
  | .lst xs => some xs
  | .ref i => match μ[i]? with
    | some (.lst xs) => some xs
    | _ => none
  | _ => none
/-- the items of a list -/
def lstOf (μ : Store) : D → Option (List D)
  | .lst xs => some xs
  | .ref i => match μ[i]? with
    | some (.lst xs) => some xs
    | _ => none
  | _ => none
def truthD (μ : Store) : D → Option Bool
  | .non => some false
  | .bl b => some b
  | .int i => some (i != 0)
  | .str s => if s.toList.length ≤ Sz then some (!s.toList.isEmpty) else none
  | .tup xs => some (!xs.isEmpty)
  | .lst xs => some (!xs.isEmpty)
  | .ref i => match μ[i]? with
    | some (.lst xs) => some (!xs.isEmpty)
    | some (.dct false kvs) => some (!kvs.isEmpty)
    | _ => none
  | _ => none
def boolsOf : List D → Option (List Bool)
  | [] => some []
  | .bl b :: r => (boolsOf r).map (b :: ·)
  | _ => none
def look (kvs : List (D × D)) (k : D) : Option D := (kvs.find? fun p => eqv p.1 k).map (·.2)
def put (kvs : List (D × D)) (k v : D) : List (D × D) :=
  if (kvs.any fun p => eqv p.1 k) = true then kvs.map (fun p => if eqv p.1 k = true then (p.1, v) else p) else kvs ++ [(k, v)]
/-- a key that is an int or a text -/
def flatKey : D → Bool
  | .int _ | .str _ => true
  | _ => false
/-- a key of a dict; t: of one whose keys are tuples -/
def keyOf (t : Bool) (k : D) : Bool := !t && flatKey k
def atD {α : Type} (xs : List α) (i : Int) : Option α :=
  if 0 ≤ i then xs[i.toNat]? else if -(xs.length : Int) ≤ i then xs[(i + xs.length).toNat]? else none
def ixD (μ : Store) : D → D → Option D
  | .tup xs, .int i => atD xs i
  | .lst xs, .int i => atD xs i
  | .str s, .int i => if s.toList.length ≤ Sz then (atD s.toList i).map fun c => .str (String.singleton c) else none
  | .ref r, k => match μ[r]? with
    | some (.lst xs) => match k with
      | .int i => atD xs i
      | _ => none
    | some (.dct t kvs) => if keyOf t k then look kvs k else none
    | _ => none
  | _, _ => none
/-- a slice -/
def cut {α : Type} (xs : List α) (lo hi : Option Int) : List α :=
  (xs.drop (HT.sIx xs.length 0 lo)).take (HT.sIx xs.length xs.length hi - HT.sIx xs.length 0 lo)
def slD (μ : Store) (lo hi : Option Int) : D → Option D
  | .tup xs => some (.tup (cut xs lo hi))
  | .lst xs => some (.lst (cut xs lo hi))
  | .str s => if s.toList.length ≤ Sz then some (.str (String.ofList (cut s.toList lo hi))) else none
  | .ref r => match μ[r]? with
    | some (.lst xs) => some (.lst (cut xs lo hi))
    | _ => none
  | _ => none
def canEq (a b : D) : Bool := plain a && plain b && decide (min (depth a) (depth b) ≤ 150)
def eqD (μ : Store) (a b : D) : Option Bool := if canEq (deref μ a) (deref μ b) then some (eqv (deref μ a) (deref μ b)) else none
def inD (μ : Store) (x c : D) : Option Bool :=
  match deref μ c with
  | .tup xs => if plain x && plains xs && decide (min (depths xs) (depth x) ≤ 150) then some (xs.any fun y => eqv y x) else none
  | .lst xs => if plain x && plains xs && decide (min (depths xs) (depth x) ≤ 150) then some (xs.any fun y => eqv y x) else none
  | .str t => match x with
    | .str s => match s.toList with
      | [c] => some (t.toList.contains c)
      | _ => none
    | _ => none
  | .ref r => match μ[r]? with
    | some (.dct t kvs) => if keyOf t x then some (look kvs x).isSome else none
    | _ => none
  | _ => none
def lenD (μ : Store) : D → Option Nat
  | .tup xs => some xs.length
  | .lst xs => some xs.length
  | .str s => if s.toList.length ≤ Sz then some s.toList.length else none
  | .ref r => match μ[r]? with
    | some (.lst xs) => some xs.length
    | some (.dct _ kvs) => some kvs.length
    | _ => none
  | _ => none

/-! ### operators -/
inductive Op where
  | add | sub | mul | fdiv | mod | pow | shl | shr | band | bor | bxor
deriving DecidableEq, Inhabited
def intOp : Op → Int → Int → Option Int
  | .add, i, j => some (i + j)
  | .sub, i, j => some (i - j)
  | .mul, i, j => if i.natAbs < 18446744073709551616 ∨ j.natAbs < 18446744073709551616 then some (i * j) else none
  | .fdiv, i, j => if j ≠ 0 ∧ j.natAbs < 1073741824 then some (i.fdiv j) else none
  | .mod, i, j => if j ≠ 0 then some (i.fmod j) else none
  | .pow, i, j => if 0 ≤ j ∧ j ≤ 1000000 ∧ i.natAbs < 18446744073709551616 then some (i ^ j.toNat) else none
  | .shl, i, j => if 0 ≤ j ∧ j ≤ 1000000 ∧ i.natAbs < 18446744073709551616 then some (i * 2 ^ j.toNat) else none
  | .shr, i, j => if 0 ≤ j then some (i / 2 ^ j.toNat) else none
  | .band, i, j => some (Builtin.bitAnd i j)
  | .bor, i, j => some (Builtin.bitOr i j)
  | .bxor, i, j => some (Builtin.bitXor i j)
def binD (μ : Store) : Op → D → D → Option D
  | o, .int i, .int j => (intOp o i j).map .int
  | .add, .str s, .str t => if s.toList.length + t.toList.length ≤ Sz then some (.str (s ++ t)) else none
  | .add, .tup xs, .tup ys => if xs.length + ys.length ≤ Sz then some (.tup (xs ++ ys)) else none
  | .add, .lst xs, .lst ys => if xs.length + ys.length ≤ Sz then some (.lst (xs ++ ys)) else none
  | .add, .ref i, y => match μ[i]?, lstOf μ y with
    | some (.lst xs), some ys => if xs.length + ys.length ≤ Sz then some (.lst (xs ++ ys)) else none
    | _, _ => none
  | .add, .lst xs, .ref j => match μ[j]? with
    | some (.lst ys) => if xs.length + ys.length ≤ Sz then some (.lst (xs ++ ys)) else none
    | _ => none
  | .mul, .lst xs, .int k => if k.natAbs < 9223372036854775808 ∧ xs.length * k.toNat ≤ Sz then some (.lst (List.replicate k.toNat xs).flatten) else none
  | _, _, _ => none
inductive Cm where
  | eq | ne | lt | le | gt | ge | isin | notin
deriving DecidableEq, Inhabited
def cmD (μ : Store) : Cm → D → D → Option Bool
  | .eq, x, y => eqD μ x y
  | .ne, x, y => (eqD μ x y).map (!·)
  | .lt, .int i, .int j => some (decide (i < j))
  | .le, .int i, .int j => some (decide (i ≤ j))
  | .gt, .int i, .int j => some (decide (j < i))
  | .ge, .int i, .int j => some (decide (j ≤ i))
  | .isin, x, y => inD μ x y
  | .notin, x, y => (inD μ x y).map (!·)
  | _, _, _ => none
/-- the built-in types that isinstance asks for -/
inductive Ty where
  | int | bool | str | tuple | list | dict
deriving DecidableEq, Inhabited
/-- the built-in type of a value -/
inductive Vt where
  | non | bool | int | str | tuple | list | dict
deriving DecidableEq, Inhabited
def vtOf (μ : Store) : D → Option Vt
  | .non => some .non
  | .bl _ => some .bool
  | .int _ => some .int
  | .str _ => some .str
  | .tup _ => some .tuple
  | .lst _ => some .list
  | .ins _ _ => none
  | .scr _ => none
  | .ref i => match μ[i]? with
    | some (.lst _) => some .list
    | some (.dct _ _) => some .dict
    | _ => none
def vtIs : Vt → Ty → Bool
  | .bool, .int | .bool, .bool | .int, .int | .str, .str | .tuple, .tuple | .list, .list | .dict, .dict => true
  | _, _ => false
def isTys (μ : Store) (d : D) (ts : List Ty) : Option Bool := (vtOf μ d).map fun v => ts.any (vtIs v)

/-! ### plain data as the library's data; repr, sorted -/
mutual
def toPy : D → PyData
  | .non => .none
  | .bl b => .bool b
  | .int i => .int i
  | .str s => .str (Str.ofString s)
  | .tup xs => .tuple (toPys xs)
  | .lst xs => .list (toPys xs)
  | .ins _ _ => .none
  | .ref _ => .none
  | .scr _ => .none
def toPys : List D → List PyData
  | [] => []
  | x :: xs => toPy x :: toPys xs
end
/-- a text of the model as a text -/
def strOf (t : Str) : Option String := let s := String.ofList (t.cps.toList.map Char.ofNat); if Str.ofString s = t then some s else none
theorem strOf_ok {t : Str} {s : String} (h : strOf t = some s) : Str.ofString s = t := by
  unfold strOf at h
  simp only at h
  split at h
  · rename_i e; cases h; exact e
  · cases h
def reprD (d : D) : Option String := if (plain d && (toPy d).showable && decide (depth d ≤ 150) && decide ((toPy d).shown.length ≤ Sz)) = true then strOf (toPy d).shown else none
def intsOf : List D → Option (List Int)
  | [] => some []
  | .int i :: r => (intsOf r).map (i :: ·)
  | _ => none
def rowOf : D → Option (List Int)
  | .tup xs => intsOf xs
  | _ => none
def rowsOf : List D → Option (List (List Int))
  | [] => some []
  | x :: r => (rowOf x).bind fun a => (rowsOf r).map (a :: ·)
/-- one more than all entries -/
def maxB (rows : List (List Int)) : Int := rows.flatten.foldl max 0 + 1
def sortRows (rows : List (List Int)) : List (List Int) := rows.mergeSort fun a b => decide (TS.code (maxB rows) a ≤ TS.code (maxB rows) b)
def evenRows (rows : List (List Int)) : Bool := match rows with
  | [] => true
  | r :: rs => decide (1 ≤ r.length) && rs.all fun q => decide (q.length = r.length)
def sortD (xs : List D) : Option (List D) := if xs.length ≤ 1 then some xs else (rowsOf xs).bind fun rows => if (decide (rows.length < 64) && evenRows rows && rows.all fun r => r.all fun z => decide (0 ≤ z)) = true then some ((sortRows rows).map fun r => .tup (r.map .int)) else none

/-! ### what a built-in does with its arguments -/
inductive Prim where
  | tup | lst (m : Bool)                 -- displays; m: a cell
  | dct (t : Bool)                        -- {k: v, ..}; t: {}, to have tuples as keys
  | bin (o : Op) | neg
  | cm (c : Cm) | isN | notN
  | ix | sl (lo hi : Bool)
  | len | lenset | all | any | int1 | tuple1 | list1 (m : Bool)
  | isi (ts : List Ty)
  | append | pop | extend | setix
  | repr | sorted
  | split | join | str1 | listS
  | sortset | sortdict
deriving DecidableEq, Inhabited
def pairsOf : List D → Option (List (D × D))
  | [] => some []
  | k :: v :: r => (pairsOf r).map ((k, v) :: ·)
  | _ => none
def putAll : List (D × D) → List (D × D) → List (D × D)
  | acc, [] => acc
  | acc, (k, v) :: r => putAll (put acc k v) r
def newL (m : Bool) (xs : List D) (μ : Store) : D × Store := if m then (.ref μ.length, μ ++ [.lst xs]) else (.lst xs, μ)
def isNonD : D → Bool
  | .non => true
  | _ => false
def ilD : D → Option Int
  | .int i => some i
  | _ => none
def strsOf : List D → Option (List String)
  | [] => some []
  | .str s :: r => (strsOf r).map (s :: ·)
  | _ => none
/-- how many different texts -/
def distD : List String → Nat
  | [] => 0
  | x :: r => distD r + (if r.any (· == x) then 0 else 1)
/-- texts: split, joined, sign by sign -/
def strsB : List Str → Option (List String)
  | [] => some []
  | x :: r => (strOf x).bind fun s => (strsB r).map (s :: ·)
def splitS (s t : String) : Option (List String) := if t.toList.isEmpty || decide (Sz < s.toList.length + 2) then none else strsB (Txt.split (Str.ofString s) (Str.ofString t))
def joinC (a : List Char) : List (List Char) → List Char
  | [] => []
  | [p] => p
  | p :: q :: r => p ++ (a ++ joinC a (q :: r))
def joinS (s : String) (ss : List String) : String := String.ofList (joinC s.toList (ss.map fun t => t.toList))
/-- texts in order, each once -/
def strLe (a b : String) : Bool := !decide (b.toList.map Char.toNat < a.toList.map Char.toNat)
def sortS (ss : List String) : List String := ss.mergeSort strLe
def nubS : List String → List String
  | [] => []
  | x :: r => if r.contains x then nubS r else x :: nubS r
/-- what a list is extended with -/
def extOf (μ : Store) : D → Option (List D)
  | .tup xs => some xs
  | d => lstOf μ d
def chrsD (s : String) : List D := s.toList.map fun c => .str (String.singleton c)
def primD (f : Prim) (ds : List D) (μ : Store) : Option (D × Store) :=
  match f, ds with
  | .tup, ds => if ds.length ≤ Sz then some (.tup ds, μ) else none
  | .lst m, ds => if ds.length ≤ Sz then some (newL m ds μ) else none
  | .dct t, [] => some (.ref μ.length, μ ++ [.dct t []])
  | .dct false, k :: v :: ds => (pairsOf (k :: v :: ds)).bind fun kvs => if kvs.length ≤ 15 ∧ kvs.all (fun p => flatKey p.1) then some (.ref μ.length, μ ++ [.dct false (putAll [] kvs)]) else none
  | .bin o, [x, y] => (binD μ o x y).map (·, μ)
  | .neg, [.int i] => some (.int (-i), μ)
  | .cm c, [x, y] => (cmD μ c x y).map fun b => (.bl b, μ)
  | .isN, [x] => some (.bl (isNonD x), μ)
  | .notN, [x] => some (.bl (!isNonD x), μ)
  | .ix, [x, i] => (ixD μ x i).map (·, μ)
  | .sl false false, [x] => (slD μ none none x).map (·, μ)
  | .sl true false, [x, .int i] => (slD μ (some i) none x).map (·, μ)
  | .sl false true, [x, .int j] => (slD μ none (some j) x).map (·, μ)
  | .len, [x] => (lenD μ x).map fun (n : Nat) => (D.int (n : Int), μ)
  | .lenset, [x] => ((seqOf μ x).bind strsOf).bind fun ss => if ss.length < 4000 then some (.int (distD ss : Nat), μ) else none
  | .all, [x] => ((lstOf μ x).bind boolsOf).map fun bs => (.bl (bs.all id), μ)
  | .any, [x] => ((lstOf μ x).bind boolsOf).map fun bs => (.bl (bs.any id), μ)
  | .int1, [.int i] => some (.int i, μ)
  | .int1, [.bl b] => some (.int (if b then 1 else 0), μ)
  | .int1, [.str s] => if s.toList.length ≤ 640 then (PySem.intText? (Str.ofString s)).map fun n => (.int n, μ) else none
  | .str1, [.int i] => if i.natAbs.log2 < 1920 then some (.str (toString i), μ) else none
  | .split, [.str s, .str t] => (splitS s t).map fun ss => (.lst (ss.map .str), μ)
  | .join, [.str s, x] => ((seqOf μ x).bind strsOf).bind fun ss => if (ss.map fun t => t.toList.length).sum + ss.length * s.toList.length ≤ Sz then some (.str (joinS s ss), μ) else none
  | .listS, [.str s] => if s.toList.length ≤ Sz then some (.lst (chrsD s), μ) else none
  | .sortset, [x] => ((seqOf μ x).bind strsOf).bind fun ss => if ss.length < 4000 ∧ (nubS ss).length < 64 then some (.lst ((sortS (nubS ss)).map .str), μ) else none
  | .sortdict, [.ref i] => match μ[i]? with
    | some (.dct false kvs) => (strsOf (kvs.map (·.1))).bind fun ss => if ss.length < 64 then some (.lst ((sortS ss).map .str), μ) else none
    | _ => none
  | .tuple1, [x] => (seqOf μ x).map fun xs => (.tup xs, μ)
  | .list1 m, [x] => (seqOf μ x).map fun xs => newL m xs μ
  | .isi ts, [x] => (isTys μ x ts).map fun b => (.bl b, μ)
  | .append, [.ref i, x] => match μ[i]? with
    | some (.lst xs) => if xs.length < Sz then some (.non, μ.set i (.lst (xs ++ [x]))) else none
    | _ => none
  | .pop, [.ref i] => match μ[i]? with
    | some (.lst xs) => match xs.getLast? with
      | some y => some (y, μ.set i (.lst xs.dropLast))
      | none => none
    | _ => none
  | .extend, [.ref i, y] => match μ[i]?, extOf μ y with
    | some (.lst xs), some ys => if xs.length + ys.length ≤ Sz then some (.non, μ.set i (.lst (xs ++ ys))) else none
    | _, _ => none
  | .setix, [.ref i, k, v] => match μ[i]? with
    | some (.dct t kvs) => if keyOf t k && decide (kvs.length < Sz) then some (.non, μ.set i (.dct t (put kvs k v))) else none
    | _ => none
  | .repr, [x] => (reprD x).map fun s => (.str s, μ)
  | .sorted, [x] => ((lstOf μ x).bind sortD).map fun xs => (.lst xs, μ)
  | _, _ => none

/-- what a method's receiver must be -/
def recvD (f : Prim) (μ : Store) (x : D) : Option Unit :=
  match f, x with
  | .append, .ref i | .extend, .ref i | .pop, .ref i => match μ[i]? with
    | some (.lst _) => some ()
    | _ => none
  | .split, .str _ | .join, .str _ => some ()
  | _, _ => none

/-! ### the language -/
inductive Tg where
  | name (i : Nat)
  | tup (ts : List Tg)
deriving Inhabited
mutual
def bindT : Tg → D → Sl → Option Sl
  | .name i, d, ρ => some (ρ.set i (some d))
  | .tup ts, d, ρ => match d with
    | .tup ds => bindTs ts ds ρ
    | .lst ds => bindTs ts ds ρ
    | _ => none
def bindTs : List Tg → List D → Sl → Option Sl
  | [], [], ρ => some ρ
  | t :: ts, d :: ds, ρ => (bindT t d ρ).bind fun ρ' => bindTs ts ds ρ'
  | _, _, _ => none
end
mutual
inductive Ex where
  | var (i : Nat)
  | con (c : Const)
  | str (s : String)
  | glo (j : Nat)
  | prim (f : Prim) (es : Exs)
  | and_ (es : Exs) | or_ (es : Exs) | not_ (a : Ex) | ife (c a b : Ex)
  | chain (f g : Cm) (a b c : Ex)
  | sl3 (a l h : Ex)
  | meth (f : Prim) (o : Ex) (es : Exs)
  | call (f : Nat) (es : Exs) (k : Nat)
  | comp (m : Bool) (elt : Ex) (tg : Tg) (it : Itx) (cond : Exs) (own : List Nat)
  | catch (h i : Nat) (e : Ex)
inductive Exs where
  | nil
  | cons (e : Ex) (es : Exs)
inductive Itx where
  | val (e : Ex)
  | rng (es : Exs)
  | enum (e : Ex)
  | zip (a b : Ex)
end
mutual
inductive St where
  | asg (t : Tg) (e : Ex)
  | par (i j : Nat) (a b : Ex)
  | par3 (i j k : Nat) (a b c : Ex)
  | setix (o i e : Ex)
  | aug (i : Nat) (e : Ex)
  | expr (e : Ex)
  | ite (c : Ex) (a b : Sts)
  | whl (c : Ex) (b : Sts)
  | forr (t : Tg) (it : Itx) (b : Sts)
  | ret (e : Ex) | retN
  | raise (c : Nat) (es : Exs)
  | pass | brk | cnt
inductive Sts where
  | nil
  | cons (s : St) (r : Sts)
end

/-! ### the meaning -/
structure XD where
  c : Nat
  args : List D
/-- what each def promises -/
abbrev Calls := Nat → List D → Store → (D → Store → Prop) → (XD → Store → Prop) → Prop
structure Sg where
  call : Calls
  con : Nat → D
  /-- the defaults of each def -/
  dfl : Nat → List D
  /-- the defs that call what they get: the tag of a result, what an exception gives -/
  hnd : Nat → String × (XD → Option D) := fun _ => ("", fun _ => none)
def opt {α : Type} (o : Option α) (Q : α → Prop) : Prop := match o with
  | some a => Q a
  | none => False
@[simp] theorem opt_some {α : Type} (a : α) (Q : α → Prop) : opt (some a) Q = Q a := propext ⟨fun h => h, fun h => h⟩
@[simp] theorem opt_none {α : Type} (Q : α → Prop) : opt none Q = False := rfl
theorem opt_iff {α : Type} {o : Option α} {Q : α → Prop} : opt o Q ↔ ∃ a, o = some a ∧ Q a := by
  cases o <;> simp [opt]
def conD : Const → Option D
  | .none => some .non
  | .bool b => some (.bl b)
  | .int i => some (.int i)
  | _ => none
/-- what a loop or comprehension walks: the items, and what must stay so -/
structure Plan where
  items : List D
  guard : Store → Prop
/-- the items of the list x, walked in place -/
def valPlan (μ : Store) : D → Option Plan
  | .scr ns => some ⟨ns.map .int, fun _ => True⟩
  | .tup xs => some ⟨xs, fun _ => True⟩
  | .lst xs => some ⟨xs, fun _ => True⟩
  | .str s => some ⟨s.toList.map fun c => .str (String.singleton c), fun _ => True⟩
  | .ref i => match μ[i]? with
    | some (.lst xs) => some ⟨xs, fun μ' => μ'[i]? = some (.lst xs)⟩
    | _ => none
  | _ => none
def rngItems (lo : Int) (n : Nat) : List D := (List.range n).map fun (k : Nat) => D.int (lo + (k : Int))
def rngItemsC (lo c : Int) (n : Nat) : List D := (List.range n).map fun (k : Nat) => D.int (lo + (k : Int) * c)
def small62 (i : Int) : Bool := decide (-4611686018427387904 ≤ i) && decide (i < 4611686018427387904)
def rngPlan : List D → Option Plan
  | [.int j] => if small62 j then some ⟨rngItems 0 j.toNat, fun _ => True⟩ else none
  | [.int i, .int j] => if small62 i && small62 j then some ⟨rngItems i (j - i).toNat, fun _ => True⟩ else none
  | [.int i, .int j, .int c] => if c ≠ 0 ∧ c.natAbs < 1073741824 ∧ Builtin.Range.small i j c = true ∧ Builtin.Range.rangeSize i j c = ((Builtin.Range.rangeSize i j c).toNat : Int) then some ⟨rngItemsC i c (Builtin.Range.rangeSize i j c).toNat, fun _ => True⟩ else none
  | _ => none
def enumFrom : Nat → List D → List D
  | _, [] => []
  | k, x :: xs => .tup [.int k, x] :: enumFrom (k + 1) xs
def enumPlan (p : Plan) : Plan := ⟨enumFrom 0 p.items, p.guard⟩
def isTupD : D → Bool
  | .tup _ => true
  | _ => false
def seqPlan (μ : Store) (d : D) : Option Plan := match d with
  | .str _ => none
  | d => valPlan μ d
def zipPlan (p q : Plan) : Plan := ⟨(p.items.zip q.items).map fun z => .tup [z.1, z.2], fun μ => p.guard μ ∧ q.guard μ⟩
def zipD (μ : Store) (d d' : D) : Option Plan := (seqPlan μ d).bind fun p => (seqPlan μ d').bind fun q => if isTupD d = isTupD d' then some (zipPlan p q) else none
def wipeD (ρ : Sl) : List Nat → Sl
  | [] => ρ
  | v :: vs => (wipeD ρ vs).set v none
/-- the turns of a comprehension: turn i with its item, the store, what is made so far -/
def compTurns (turn : D → Store → (Option D → Store → Prop) → Prop) (guard : Store → Prop) : List D → Store → List D → (List D → Store → Prop) → Prop
  | [], μ, acc, Q => guard μ ∧ Q acc μ
  | d :: ds, μ, acc, Q => guard μ ∧ turn d μ fun o μ' => match o with
    | some x => acc.length < Sz ∧ compTurns turn guard ds μ' (acc ++ [x]) Q
    | none => compTurns turn guard ds μ' acc Q
section
variable (S : Sg)
mutual
def wpE (E : XD → Store → Prop) : Ex → Sl → Store → (D → Store → Prop) → Prop
  | .var i, ρ, μ, Q => match ρ[i]? with
    | some (some d) => Q d μ
    | _ => False
  | .con c, _, μ, Q => opt (conD c) fun d => Q d μ
  | .str s, _, μ, Q => Q (.str s) μ
  | .glo j, _, μ, Q => Q (S.con j) μ
  | .prim f es, ρ, μ, Q => wpEs E es ρ μ fun ds μ' => opt (primD f ds μ') fun r => Q r.1 r.2
  | .and_ es, ρ, μ, Q => wpAnd E es ρ μ Q
  | .or_ es, ρ, μ, Q => wpOr E es ρ μ Q
  | .not_ a, ρ, μ, Q => wpE E a ρ μ fun d μ' => opt (truthD μ' d) fun b => Q (.bl (!b)) μ'
  | .ife c a b, ρ, μ, Q => wpT E c ρ μ fun t μ' => if t = true then wpE E a ρ μ' Q else wpE E b ρ μ' Q
  | .chain f g a b c, ρ, μ, Q => wpE E a ρ μ fun x μ1 => wpE E b ρ μ1 fun y μ2 => opt (cmD μ2 f x y) fun t =>
      if t = true then wpE E c ρ μ2 fun z μ3 => opt (cmD μ3 g y z) fun t' => Q (.bl t') μ3 else Q (.bl false) μ2
  | .sl3 a l h, ρ, μ, Q => wpE E a ρ μ fun x μ1 => wpE E l ρ μ1 fun i μ2 => opt (ilD i) fun lo => wpE E h ρ μ2 fun j μ3 => opt (ilD j) fun hi => opt (slD μ3 (some lo) (some hi) x) fun d => Q d μ3
  | .meth f o es, ρ, μ, Q => wpE E o ρ μ fun x μ1 => opt (recvD f μ1 x) fun _ => wpEs E es ρ μ1 fun ds μ2 => opt (primD f (x :: ds) μ2) fun r => Q r.1 r.2
  | .call f es k, ρ, μ, Q => wpEs E es ρ μ fun ds μ' => S.call f (ds ++ (S.dfl f).drop k) μ' Q E
  | .comp m elt tg it cond own, ρ, μ, Q => wpI E it ρ μ fun p μ1 =>
      compTurns (fun d μ' R => opt (bindT tg d (wipeD ρ own)) fun ρ' => wpC cond ρ' μ' fun t μ'' => if t = true then wpE (fun _ _ => False) elt ρ' μ'' fun x => R (some x) else R none μ'') p.guard p.items μ1 [] fun xs μ2 =>
        Q (newL m xs μ2).1 (newL m xs μ2).2
  | .catch h i e, ρ, μ, Q => (∃ j : Nat, μ[j]? = some (Cell.tbl i)) ∧ wpE (fun x μ' => opt ((S.hnd h).2 x) fun d => Q d μ') e ρ μ fun d μ' => Q (.tup [.str (S.hnd h).1, d]) μ'
termination_by structural a _ _ _ => a
def wpEs (E : XD → Store → Prop) : Exs → Sl → Store → (List D → Store → Prop) → Prop
  | .nil, _, μ, Q => Q [] μ
  | .cons e es, ρ, μ, Q => wpE E e ρ μ fun d μ1 => wpEs E es ρ μ1 fun ds μ2 => Q (d :: ds) μ2
termination_by structural a _ _ _ => a
/-- a comprehension's tests: none or one -/
def wpC : Exs → Sl → Store → (Bool → Store → Prop) → Prop
  | .nil, _, μ, Q => Q true μ
  | .cons e .nil, ρ, μ, Q => wpT (fun _ _ => False) e ρ μ Q
  | .cons _ (.cons _ _), _, _, _ => False
termination_by structural a _ _ _ => a
def wpAnd (E : XD → Store → Prop) : Exs → Sl → Store → (D → Store → Prop) → Prop
  | .nil, _, _, _ => False
  | .cons e .nil, ρ, μ, Q => wpE E e ρ μ Q
  | .cons e (.cons e' es), ρ, μ, Q => wpE E e ρ μ fun d μ1 => opt (truthD μ1 d) fun b => if b = true then wpAnd E (.cons e' es) ρ μ1 Q else Q d μ1
termination_by structural a _ _ _ => a
def wpOr (E : XD → Store → Prop) : Exs → Sl → Store → (D → Store → Prop) → Prop
  | .nil, _, _, _ => False
  | .cons e .nil, ρ, μ, Q => wpE E e ρ μ Q
  | .cons e (.cons e' es), ρ, μ, Q => wpE E e ρ μ fun d μ1 => opt (truthD μ1 d) fun b => if b = true then Q d μ1 else wpOr E (.cons e' es) ρ μ1 Q
termination_by structural a _ _ _ => a
def wpT (E : XD → Store → Prop) : Ex → Sl → Store → (Bool → Store → Prop) → Prop
  | .and_ es, ρ, μ, Q => wpTAnd E es ρ μ Q
  | .or_ es, ρ, μ, Q => wpTOr E es ρ μ Q
  | .not_ a, ρ, μ, Q => wpT E a ρ μ fun b μ' => Q (!b) μ'
  | .ife c a b, ρ, μ, Q => wpT E c ρ μ fun t μ' => if t = true then wpT E a ρ μ' Q else wpT E b ρ μ' Q
  | .var i, ρ, μ, Q => match ρ[i]? with
    | some (some d) => opt (truthD μ d) fun b => Q b μ
    | _ => False
  | .con c, _, μ, Q => opt (conD c) fun d => opt (truthD μ d) fun b => Q b μ
  | .str s, _, μ, Q => opt (truthD μ (.str s)) fun b => Q b μ
  | .glo j, _, μ, Q => opt (truthD μ (S.con j)) fun b => Q b μ
  | .prim f es, ρ, μ, Q => wpEs E es ρ μ fun ds μ' => opt (primD f ds μ') fun r => opt (truthD r.2 r.1) fun b => Q b r.2
  | .chain f g a b c, ρ, μ, Q => wpE E a ρ μ fun x μ1 => wpE E b ρ μ1 fun y μ2 => opt (cmD μ2 f x y) fun t =>
      if t = true then wpE E c ρ μ2 fun z μ3 => opt (cmD μ3 g y z) fun t' => Q t' μ3 else Q false μ2
  | .call f es k, ρ, μ, Q => wpEs E es ρ μ fun ds μ' => S.call f (ds ++ (S.dfl f).drop k) μ' (fun d μ'' => opt (truthD μ'' d) fun b => Q b μ'') E
  | .sl3 .., _, _, _ => False
  | .meth f o es, ρ, μ, Q => wpE E o ρ μ fun x μ1 => opt (recvD f μ1 x) fun _ => wpEs E es ρ μ1 fun ds μ2 => opt (primD f (x :: ds) μ2) fun r => opt (truthD r.2 r.1) fun b => Q b r.2
  | .comp .., _, _, _ => False
  | .catch .., _, _, _ => False
termination_by structural a _ _ _ => a
def wpTAnd (E : XD → Store → Prop) : Exs → Sl → Store → (Bool → Store → Prop) → Prop
  | .nil, _, _, _ => False
  | .cons e .nil, ρ, μ, Q => wpT E e ρ μ Q
  | .cons e (.cons e' es), ρ, μ, Q => wpT E e ρ μ fun b μ1 => if b = true then wpTAnd E (.cons e' es) ρ μ1 Q else Q false μ1
termination_by structural a _ _ _ => a
def wpTOr (E : XD → Store → Prop) : Exs → Sl → Store → (Bool → Store → Prop) → Prop
  | .nil, _, _, _ => False
  | .cons e .nil, ρ, μ, Q => wpT E e ρ μ Q
  | .cons e (.cons e' es), ρ, μ, Q => wpT E e ρ μ fun b μ1 => if b = true then Q true μ1 else wpTOr E (.cons e' es) ρ μ1 Q
termination_by structural a _ _ _ => a
def wpI (E : XD → Store → Prop) : Itx → Sl → Store → (Plan → Store → Prop) → Prop
  | .val e, ρ, μ, Q => wpE E e ρ μ fun d μ' => opt (valPlan μ' d) fun p => Q p μ'
  | .rng es, ρ, μ, Q => wpEs E es ρ μ fun ds μ' => opt (rngPlan ds) fun p => Q p μ'
  | .enum e, ρ, μ, Q => wpE E e ρ μ fun d μ' => opt (seqPlan μ' d) fun p => Q (enumPlan p) μ'
  | .zip a b, ρ, μ, Q => wpE E a ρ μ fun d μ1 => wpE E b ρ μ1 fun d' μ2 => opt (zipD μ2 d d') fun p => Q p μ2
termination_by structural a _ _ _ => a
end
end

def exsLen : Exs → Nat
  | .nil => 0
  | .cons _ r => exsLen r + 1
structure PEnds where
  nx : Sl → Store → Prop
  rt : D → Store → Prop
  bk : Sl → Store → Prop := fun _ _ => False
  ct : Sl → Store → Prop := fun _ _ => False
def whileN (test : Sl → Store → (Bool → Store → Prop) → Prop) (body : Sl → Store → (Sl → Store → Prop) → Prop) (nx : Sl → Store → Prop) : Nat → Sl → Store → Prop
  | 0, _, _ => False
  | n + 1, ρ, μ => test ρ μ fun b μ' => if b = true then body ρ μ' (whileN test body nx n) else nx ρ μ'
def forN (tg : Tg) (guard : Store → Prop) (body : Sl → Store → (Sl → Store → Prop) → Prop) (nx : Sl → Store → Prop) : List D → Sl → Store → Prop
  | [], ρ, μ => guard μ ∧ nx ρ μ
  | d :: ds, ρ, μ => guard μ ∧ opt (bindT tg d ρ) fun ρ' => body ρ' μ (forN tg guard body nx ds)
/-- x += y -/
def augD : D → D → Option D
  | .int i, .int j => some (.int (i + j))
  | .str s, .str t => if s.toList.length + t.toList.length ≤ Sz then some (.str (s ++ t)) else none
  | _, _ => none
section
variable (S : Sg)
mutual
def wpS (E : Sl → XD → Store → Prop) : St → Sl → Store → PEnds → Prop
  | .asg t e, ρ, μ, D => wpE S (E ρ) e ρ μ fun d μ' => opt (bindT t d ρ) fun ρ' => D.nx ρ' μ'
  | .par i j a b, ρ, μ, D => wpE S (E ρ) a ρ μ fun x μ1 => wpE S (E ρ) b ρ μ1 fun y μ2 => D.nx ((ρ.set i (some x)).set j (some y)) μ2
  | .par3 i j k a b c, ρ, μ, D => wpE S (E ρ) a ρ μ fun x μ1 => wpE S (E ρ) b ρ μ1 fun y μ2 => wpE S (E ρ) c ρ μ2 fun z μ3 => D.nx (((ρ.set i (some x)).set j (some y)).set k (some z)) μ3
  | .setix o i e, ρ, μ, D => wpE S (E ρ) e ρ μ fun v μ1 => wpE S (E ρ) o ρ μ1 fun x μ2 => wpE S (E ρ) i ρ μ2 fun k μ3 => opt (primD .setix [x, k, v] μ3) fun r => D.nx ρ r.2
  | .aug i e, ρ, μ, D => match ρ[i]? with
    | some (some x) => wpE S (E ρ) e ρ μ fun y μ' => opt (augD x y) fun z => D.nx (ρ.set i (some z)) μ'
    | _ => False
  | .expr e, ρ, μ, D => wpE S (E ρ) e ρ μ fun _ μ' => D.nx ρ μ'
  | .ite c a b, ρ, μ, D => wpT S (E ρ) c ρ μ fun t μ' => if t = true then wpSs E a ρ μ' D else wpSs E b ρ μ' D
  | .whl c b, ρ, μ, D => ∃ n, whileN (fun ρ μ Q => wpT S (E ρ) c ρ μ Q) (fun ρ μ N => wpSs E b ρ μ { nx := N, rt := D.rt, bk := D.nx, ct := N }) D.nx n ρ μ
  | .forr t it b, ρ, μ, D => wpI S (E ρ) it ρ μ fun p μ' => forN t p.guard (fun ρ μ N => wpSs E b ρ μ { nx := N, rt := D.rt, bk := D.nx, ct := N }) D.nx p.items ρ μ'
  | .ret e, ρ, μ, D => wpE S (E ρ) e ρ μ D.rt
  | .retN, _, μ, D => D.rt .non μ
  | .raise c es, ρ, μ, _ => wpEs S (E ρ) es ρ μ fun ds μ' => ds.length = exsLen es ∧ E ρ ⟨c, ds⟩ μ'
  | .pass, ρ, μ, D => D.nx ρ μ
  | .brk, ρ, μ, D => D.bk ρ μ
  | .cnt, ρ, μ, D => D.ct ρ μ
termination_by structural a _ _ _ => a
def wpSs (E : Sl → XD → Store → Prop) : Sts → Sl → Store → PEnds → Prop
  | .nil, ρ, μ, D => D.nx ρ μ
  | .cons s .nil, ρ, μ, D => wpS E s ρ μ D
  | .cons s (.cons s' r), ρ, μ, D => wpS E s ρ μ { D with nx := fun ρ' μ' => wpSs E (.cons s' r) ρ' μ' D }
termination_by structural a _ _ _ => a
end
end
end PY

set_option Elab.async false
set_option linter.all false
set_option maxRecDepth 100000
set_option maxHeartbeats 4000000
/-! PY, part c: what the built-ins do, by values. -/
namespace PY
open PySem PySem.Spec PyProof.Rows L2

section
variable {X : Cx} {G : Gd} {Z φ : List Addr} {H : Hp} {μ : Store}
theorem sz_eq : (Sz : Nat) = sizeLine := by rw [sizeLine_eq]
/-! ### what stands for a value, from the value -/
theorem Rep.of_non {x : V} (r : Rep G Z φ H x .non) : x = .non := by cases r; rfl
theorem Rep.of_bl {x : V} {b : Bool} (r : Rep G Z φ H x (.bl b)) : x = .bl b := by cases r; rfl
theorem Rep.of_int {x : V} {i : Int} (r : Rep G Z φ H x (.int i)) : x = .int i := by cases r; rfl
theorem Rep.of_str {x : V} {s : String} (r : Rep G Z φ H x (.str s)) : x = .str (Str.ofString s) := by cases r; rfl
theorem Fz.seq {K : PySem.W.Frag} {a : Addr} {vs : List V} (f : Fz Z φ H a (.lst vs)) : SqL K H a vs := .inl f.rd
theorem sqT {K : PySem.W.Frag} {a : Addr} {vs : List V} (f : Fz Z φ H a (.tup vs) ∨ KT K a vs) : SqT K H a vs := by
  rcases f with f | f
  · exact .inl f.rd
  · exact .inr f
theorem Rep.of_tup {x : V} {ds : List D} (r : Rep G Z φ H x (.tup ds)) : ∃ a vs, x = .ref a ∧ SqT G.K H a vs ∧ Reps G Z φ H vs ds := by
  cases r with
  | tup h r => exact ⟨_, _, rfl, sqT h, r⟩
theorem Rep.of_lst {x : V} {ds : List D} (r : Rep G Z φ H x (.lst ds)) : ∃ a vs, x = .ref a ∧ Rd H a (.lst vs) ∧ Reps G Z φ H vs ds := by
  cases r with
  | lst h r => exact ⟨_, _, rfl, h.rd, r⟩
theorem Rep.of_ref {x : V} {i : Nat} (r : Rep G Z φ H x (.ref i)) : ∃ a, x = .ref a ∧ φ[i]? = some a := by
  cases r with
  | ref h => exact ⟨_, rfl, h⟩
theorem ints_rep (ns : List Int) : Reps G Z φ H (ns.map V.int) (ns.map D.int) := by
  induction ns with
  | nil => exact .nil
  | cons n ns ih => exact .cons (.int n) ih
theorem Rep.of_scr {x : V} {ns : List Int} (r : Rep G Z φ H x (.scr ns)) : ∃ a, x = .ref a ∧ SqL G.K H a (ns.map V.int) := by
  cases r with
  | scr h => exact ⟨_, rfl, .inr h⟩
/-- the cell at i -/
theorem CRel.at (c : CRel G Z φ H μ) {i : Nat} {a : Addr} {k : Cell} (h : φ[i]? = some a) (e : μ[i]? = some k) : CellRep G Z φ H a k := by
  obtain ⟨b, hb, q⟩ := c.cell i k e
  rw [h] at hb
  cases hb
  exact q
theorem CRel.lst (c : CRel G Z φ H μ) {i : Nat} {a : Addr} {ds : List D} (h : φ[i]? = some a) (e : μ[i]? = some (.lst ds)) : ∃ vs, H a = some (.lst vs) ∧ Reps G Z φ H vs ds := by
  cases c.at h e with
  | lst h r => exact ⟨_, h, r⟩
/-- a sequence -/
theorem Rep.seq (c : CRel G Z φ H μ) {x : V} {d : D} {ds : List D} (r : Rep G Z φ H x d) (e : seqOf μ d = some ds) :
    ∃ a vs, x = .ref a ∧ (SqL G.K H a vs ∨ SqT G.K H a vs) ∧ Reps G Z φ H vs ds := by
  cases d with
  | scr ns =>
    simp only [seqOf, Option.some.injEq] at e
    subst e
    obtain ⟨a, rfl, h⟩ := r.of_scr
    exact ⟨a, _, rfl, .inl h, ints_rep ns⟩
  | tup xs =>
    simp only [seqOf, Option.some.injEq] at e
    subst e
    obtain ⟨a, vs, rfl, h, r⟩ := r.of_tup
    exact ⟨a, vs, rfl, .inr h, r⟩
  | lst xs =>
    simp only [seqOf, Option.some.injEq] at e
    subst e
    obtain ⟨a, vs, rfl, h, r⟩ := r.of_lst
    exact ⟨a, vs, rfl, .inl (.inl h), r⟩
  | ref i =>
    obtain ⟨a, rfl, h⟩ := r.of_ref
    cases q : μ[i]? with
    | none => rw [seqOf, q] at e; cases e
    | some k =>
      cases k with
      | lst xs =>
        rw [seqOf, q] at e
        simp only [Option.some.injEq] at e
        subst e
        obtain ⟨vs, h1, r⟩ := c.lst h q
        exact ⟨a, vs, rfl, .inl (.inl (.inl h1)), r⟩
      | dct _ _ => rw [seqOf, q] at e; cases e
      | ins _ _ => rw [seqOf, q] at e; cases e
      | tbl _ => rw [seqOf, q] at e; cases e
  | _ => simp [seqOf] at e
theorem Rep.list (c : CRel G Z φ H μ) {x : V} {d : D} {ds : List D} (r : Rep G Z φ H x d) (e : lstOf μ d = some ds) :
    ∃ a vs, x = .ref a ∧ Rd H a (.lst vs) ∧ Reps G Z φ H vs ds := by
  cases d with
  | lst xs =>
    simp only [lstOf, Option.some.injEq] at e
    subst e
    exact r.of_lst
  | ref i =>
    obtain ⟨a, rfl, h⟩ := r.of_ref
    cases q : μ[i]? with
    | none => rw [lstOf, q] at e; cases e
    | some k =>
      cases k with
      | lst xs =>
        rw [lstOf, q] at e
        simp only [Option.some.injEq] at e
        subst e
        obtain ⟨vs, h1, r⟩ := c.lst h q
        exact ⟨a, vs, rfl, .inl h1, r⟩
      | dct _ _ => rw [lstOf, q] at e; cases e
      | ins _ _ => rw [lstOf, q] at e; cases e
      | tbl _ => rw [lstOf, q] at e; cases e
  | _ => simp [lstOf] at e

/-! ### new objects -/
theorem Reps.upd {a : Addr} {o : HO} {vs : List V} {ds : List D} (h : H a = none) (r : Reps G Z φ H vs ds) : Reps G Z φ (upd H a o) vs ds := r.grow (Grow.upd h)
theorem new_tup (c : CRel G Z φ H μ) {p : Addr} {vs : List V} {ds : List D} (h : H p = none) (r : Reps G Z φ H vs ds) : Rep G Z φ (upd H p (.tup vs)) (.ref p) (.tup ds) :=
  .tup (.inl ⟨.inl upd_same, (c.fresh h).1, (c.fresh h).2⟩) (r.upd h)
theorem new_lst (c : CRel G Z φ H μ) {p : Addr} {vs : List V} {ds : List D} (h : H p = none) (r : Reps G Z φ H vs ds) : Rep G Z φ (upd H p (.lst vs)) (.ref p) (.lst ds) :=
  .lst ⟨.inl upd_same, (c.fresh h).1, (c.fresh h).2⟩ (r.upd h)
theorem new_cell (c : CRel G Z φ H μ) {p : Addr} {vs : List V} {ds : List D} (h : H p = none) (r : Reps G Z φ H vs ds) :
    CRel G Z (φ ++ [p]) (upd H p (.lst vs)) (μ ++ [.lst ds]) ∧ Rep G Z (φ ++ [p]) (upd H p (.lst vs)) (.ref p) (.ref μ.length) := by
  refine ⟨c.push h (.lst upd_same (r.grow (Grow.cell h))), .ref ?_⟩
  rw [← c.len, List.getElem?_append_right (Nat.le_refl _), Nat.sub_self]
  rfl
/-- what is wanted of the value d behind a step that leaves the store μ' -/
def Done (G : Gd) (Z φ : List Addr) (H : Hp) (d : D) (μ' : Store) (Q : VK) : Prop := ∀ v φ' H', Rep G Z φ' H' v d → CRel G Z φ' H' μ' → Grow φ H φ' H' → Q v H'
theorem Done.now {Q : VK} {v : V} {d : D} (c : CRel G Z φ H μ) (r : Rep G Z φ H v d) (q : Done G Z φ H d μ Q) : Q v H := q v φ H r c (Grow.refl _ _)
theorem Done.tup {Q : VK} {p : Addr} {vs : List V} {ds : List D} (c : CRel G Z φ H μ) (h : H p = none) (r : Reps G Z φ H vs ds) (q : Done G Z φ H (.tup ds) μ Q) : Q (.ref p) (upd H p (.tup vs)) :=
  q _ _ _ (new_tup c h r) (c.upd h) (Grow.upd h)
theorem Done.lst {Q : VK} {p : Addr} {vs : List V} {ds : List D} (c : CRel G Z φ H μ) (h : H p = none) (r : Reps G Z φ H vs ds) (q : Done G Z φ H (.lst ds) μ Q) : Q (.ref p) (upd H p (.lst vs)) :=
  q _ _ _ (new_lst c h r) (c.upd h) (Grow.upd h)
theorem Done.newL {Q : VK} {p : Addr} {vs : List V} {ds : List D} {m : Bool} (c : CRel G Z φ H μ) (h : H p = none) (r : Reps G Z φ H vs ds) (q : Done G Z φ H (newL m ds μ).1 (newL m ds μ).2 Q) : Q (.ref p) (upd H p (.lst vs)) := by
  cases m with
  | false => exact Done.lst c h r q
  | true =>
    obtain ⟨c', r'⟩ := new_cell c h r
    exact q _ _ _ r' c' (Grow.cell h)

/-! ### readings by D -/
def R1D (G : Gd) (g : Store → D → Option (D × Store)) : V → Hp → VK → Prop := fun x H Q => ∃ Z φ μ dx d μ', CRel G Z φ H μ ∧ Rep G Z φ H x dx ∧ g μ dx = some (d, μ') ∧ Done G Z φ H d μ' Q
def R2D (G : Gd) (g : Store → D → D → Option D) : R2 := fun x y H Q => ∃ Z φ μ dx dy d, CRel G Z φ H μ ∧ Rep G Z φ H x dx ∧ Rep G Z φ H y dy ∧ g μ dx dy = some d ∧ Done G Z φ H d μ Q
def RND (G : Gd) (g : Store → List D → Option (D × Store)) : List V → Hp → VK → Prop := fun xs H Q => ∃ Z φ μ ds d μ', CRel G Z φ H μ ∧ Reps G Z φ H xs ds ∧ g μ ds = some (d, μ') ∧ Done G Z φ H d μ' Q

/-! ### list + list, whatever is read -/
theorem rd_lst {pins : List (Addr × Obj)} {σ : L2.St} {s : Shared} {l : Addr} {xs : List V} (I : Inv X pins σ H s) (hH : Rd H l (.lst xs)) :
    xs.length ≤ sizeLine ∧ ∃ (its : List Value) (n : Nat), Vals xs its ∧ xs.length = its.length ∧ s.heap.get? l = some { cls := .type "list", data := .seq its.toArray n } := by
  obtain ⟨z, its, n, r, e⟩ := hH.ok I.hok
  exact ⟨z, its, n, r, r.length, e⟩
def rCatR : R2 := fun x y H Q => ∃ l b xs zs, x = .ref l ∧ y = .ref b ∧ Rd H l (.lst xs) ∧ Rd H b (.lst zs) ∧ xs.length + zs.length ≤ sizeLine ∧ ∀ p, H p = none → Q (.ref p) (upd H p (.lst (xs ++ zs)))
theorem op_catR : OpR X (binaryOp .Add) rCatR := by
  intro pins s σ H x y v u Q I rx ry h
  obtain ⟨l, b, xs, zs, rfl, rfl, hH, hB, hz, q⟩ := h
  cases rx
  cases ry
  obtain ⟨z, its, n, r, hl, e⟩ := rd_lst I hH
  obtain ⟨z2, its2, n2, r2, hl2, e2⟩ := rd_lst I hB
  refine PySem.P.add_list e e2 ?_ (by rw [List.size_toArray, List.size_toArray]; omega)
  have ea : its.toArray ++ its2.toArray = (its ++ its2).toArray := by simp
  rw [ea]
  exact ⟨.ref _, _, I.lnew (t' := s.toks) (r.append r2) (by rw [List.length_append]; omega), rfl, q _ I.fresh⟩
def rRepR : R2 := fun x y H Q => ∃ l k xs, x = .ref l ∧ y = .int k ∧ Rd H l (.lst xs) ∧ -(2 ^ 63) ≤ k ∧ k < 2 ^ 63 ∧ xs.length * k.toNat ≤ sizeLine ∧
  ∀ p, H p = none → Q (.ref p) (upd H p (.lst (List.replicate k.toNat xs).flatten))
theorem op_repR : OpR X (binaryOp .Mult) rRepR := by
  intro pins s σ H x y v u Q I rx ry h
  obtain ⟨l, k, xs, rfl, rfl, hH, h1, h2, hz, q⟩ := h
  cases rx
  obtain ⟨t, rfl⟩ := ry
  obtain ⟨z, its, n, r, hl, e⟩ := rd_lst I hH
  have hlen : its.toArray.size * k.toNat ≤ sizeLine := by rw [List.size_toArray, ← hl]; exact hz
  have hcap : ¬ its.toArray.size * k.toNat > (2 ^ 63 - 1) / 8 := by
    have : (sizeLine : Nat) ≤ (2 ^ 63 - 1) / 8 := by decide
    omega
  have hfit : ¬ (!Builtin.List.listFitsIndex k) = true := by
    rw [fitsIndex_both h1 h2]
    exact Bool.false_ne_true
  have hlong : ¬ Builtin.List.listTooLong (its.toArray.size * k.toNat) = true := by
    rw [notLongL hlen]
    exact Bool.false_ne_true
  have hnew : List.foldl (fun x1 x2 => x1 ++ x2) #[] (List.replicate (if its.toArray.isEmpty = true then 0 else k.toNat) its.toArray) = (List.replicate k.toNat its).flatten.toArray := by
    have f0 : ∀ m : Nat, List.foldl (fun x1 x2 => x1 ++ x2) #[] (List.replicate m its.toArray) = (List.replicate m its).flatten.toArray := fun m => by
      have := foldl_rep its m []
      rw [List.nil_append] at this
      exact this
    rw [f0]
    cases its with
    | nil => simp
    | cons a r' => rw [if_neg (by simp)]
  refine wpAny_binaryOp_repeat_ref (T := "list") (U := "int") (by decide) ⟨_, e, rfl⟩ (fun s' => typeIs_int s' k t) noFill_list_mul F.fills_int_mul F.slot_int_rmul repeat_list F.slot_int_index.lookup
    (call_meets F.slot_int_rmul (typeIs_int s k t) F.entry_int_rmul (F.args_int_rmul_2 _ _) (int___rmul___int_list k t l its.toArray n)
      ⟨e, rfl, ⟨_, e, rfl⟩, call_meets F.slot_list_mul ⟨_, e, rfl⟩ F.entry_list_mul (F.args_list_mul_2 _ _) (AutoListH.list___mul___list_int_3 l its.toArray n k t hfit hcap hlong) ⟨e, ?_⟩⟩)
  rw [hnew]
  exact ⟨.ref _, _, I.lnew (t' := s.toks) (r.rep k.toNat) (by rw [PyProof.Rows.lm_len_rep_flat, Nat.mul_comm]; exact hz), rfl, q _ I.fresh⟩
theorem Reps.repl {vs : List V} {ds : List D} (r : Reps G Z φ H vs ds) : ∀ n : Nat, Reps G Z φ H (List.replicate n vs).flatten (List.replicate n ds).flatten
  | 0 => .nil
  | n + 1 => by
    rw [List.replicate_succ, List.replicate_succ, List.flatten_cons, List.flatten_cons]
    exact r.append (Reps.repl r n)

/-! ### operators -/
def opOf : Op → Operator
  | .add => .Add | .sub => .Sub | .mul => .Mult | .fdiv => .FloorDiv | .mod => .Mod | .pow => .Pow | .shl => .LShift | .shr => .RShift | .band => .BitAnd | .bor => .BitOr | .bxor => .BitXor
theorem cmul_of {i j : Int} (h : i.natAbs < 18446744073709551616 ∨ j.natAbs < 18446744073709551616) : CMul i j := by
  unfold CMul
  omega
theorem op_int {o : Op} {i j k : Int} (e : intOp o i j = some k) {pins : List (Addr × Obj)} {s : Shared} {σ : L2.St} {v u : Value} {Q : VK} (I : Inv X pins σ H s) (rx : RelV (.int i) v) (ry : RelV (.int j) u) (q : Q (.int k) H) :
    wpAny (model X.prog X.w) X.A (binaryOp (opOf o) v u) (EP X pins σ Q) X.xe s := by
  cases o with
  | add => cases e; exact op_add pins s σ H _ _ v u Q I rx ry ⟨_, _, rfl, rfl, q⟩
  | sub => cases e; exact op_sub pins s σ H _ _ v u Q I rx ry ⟨_, _, rfl, rfl, q⟩
  | mul =>
    simp only [intOp, Option.ite_none_right_eq_some, Option.some.injEq] at e
    obtain ⟨h, rfl⟩ := e
    exact op_mul pins s σ H _ _ v u Q I rx ry ⟨_, _, rfl, rfl, cmul_of h, q⟩
  | fdiv =>
    simp only [intOp, Option.ite_none_right_eq_some, Option.some.injEq] at e
    obtain ⟨h, rfl⟩ := e
    exact op_fdivN pins s σ H _ _ v u Q I rx ry ⟨_, _, rfl, rfl, h, q⟩
  | mod =>
    simp only [intOp, Option.ite_none_right_eq_some, Option.some.injEq] at e
    obtain ⟨h, rfl⟩ := e
    exact op_modN pins s σ H _ _ v u Q I rx ry ⟨_, _, rfl, rfl, h, q⟩
  | pow =>
    simp only [intOp, Option.ite_none_right_eq_some, Option.some.injEq] at e
    obtain ⟨h, rfl⟩ := e
    exact op_pow pins s σ H _ _ v u Q I rx ry ⟨_, _, rfl, rfl, ⟨h.1, h.2.1, by have := h.2.2; omega⟩, q⟩
  | shl =>
    simp only [intOp, Option.ite_none_right_eq_some, Option.some.injEq] at e
    obtain ⟨h, rfl⟩ := e
    exact op_shl pins s σ H _ _ v u Q I rx ry ⟨_, _, rfl, rfl, ⟨h.1, h.2.1, by have := h.2.2; omega⟩, q⟩
  | shr =>
    simp only [intOp, Option.ite_none_right_eq_some, Option.some.injEq] at e
    obtain ⟨h, rfl⟩ := e
    exact op_shr pins s σ H _ _ v u Q I rx ry ⟨_, _, rfl, rfl, h, q⟩
  | band => cases e; exact op_and pins s σ H _ _ v u Q I rx ry ⟨_, _, rfl, rfl, q⟩
  | bor => cases e; exact op_or pins s σ H _ _ v u Q I rx ry ⟨_, _, rfl, rfl, q⟩
  | bxor => cases e; exact op_xor pins s σ H _ _ v u Q I rx ry ⟨_, _, rfl, rfl, q⟩
/-- how a sum of lists is parted -/
theorem binD_lists {μ : Store} {x y d : D} {xs ys : List D} (hx : lstOf μ x = some xs) (hy : lstOf μ y = some ys) (e : binD μ .add x y = some d) : xs.length + ys.length ≤ Sz ∧ d = .lst (xs ++ ys) := by
  cases x with
  | lst xs' =>
    simp only [lstOf, Option.some.injEq] at hx
    subst hx
    cases y with
    | lst ys' =>
      simp only [lstOf, Option.some.injEq] at hy
      subst hy
      simp only [binD, Option.ite_none_right_eq_some, Option.some.injEq] at e
      exact ⟨e.1, e.2.symm⟩
    | ref j =>
      cases q : μ[j]? with
      | none => rw [lstOf, q] at hy; cases hy
      | some k =>
        cases k with
        | lst zs =>
          rw [lstOf, q] at hy
          simp only [Option.some.injEq] at hy
          subst hy
          simp only [binD, q, Option.ite_none_right_eq_some, Option.some.injEq] at e
          exact ⟨e.1, e.2.symm⟩
        | dct _ _ => rw [lstOf, q] at hy; cases hy
        | ins _ _ => rw [lstOf, q] at hy; cases hy
        | tbl _ => rw [lstOf, q] at hy; cases hy
    | _ => simp [lstOf] at hy
  | ref i =>
    cases q : μ[i]? with
    | none => rw [lstOf, q] at hx; cases hx
    | some k =>
      cases k with
      | lst zs =>
        rw [lstOf, q] at hx
        simp only [Option.some.injEq] at hx
        subst hx
        have e' : (if zs.length + ys.length ≤ Sz then some (D.lst (zs ++ ys)) else none) = some d := by
          cases y <;> simpa [binD, q, hy] using e
        simp only [Option.ite_none_right_eq_some, Option.some.injEq] at e'
        exact ⟨e'.1, e'.2.symm⟩
      | dct _ _ => rw [lstOf, q] at hx; cases hx
      | ins _ _ => rw [lstOf, q] at hx; cases hx
      | tbl _ => rw [lstOf, q] at hx; cases hx
  | _ => simp [lstOf] at hx
theorem op_lists {d dx dy : D} {xs ys : List D} (hx : lstOf μ dx = some xs) (hy : lstOf μ dy = some ys) (e : binD μ .add dx dy = some d) {pins : List (Addr × Obj)} {s : Shared} {σ : L2.St} {x y : V} {v u : Value} {Q : VK} (I : Inv X pins σ H s)
    (c : CRel G Z φ H μ) (rx : Rep G Z φ H x dx) (ry : Rep G Z φ H y dy) (vx : RelV x v) (vy : RelV y u) (q : Done G Z φ H d μ Q) :
    wpAny (model X.prog X.w) X.A (binaryOp .Add v u) (EP X pins σ Q) X.xe s := by
  obtain ⟨hz, rfl⟩ := binD_lists hx hy e
  obtain ⟨a, vs, rfl, h1, r1⟩ := rx.list c hx
  obtain ⟨b, ws, rfl, h2, r2⟩ := ry.list c hy
  exact op_catR pins s σ H _ _ v u Q I vx vy ⟨a, b, vs, ws, rfl, rfl, h1, h2, by rw [r1.length, r2.length, ← sz_eq]; exact hz, fun p hp => q.lst c hp (r1.append r2)⟩
theorem op_bin (hK : G.K = X.K) (o : Op) : OpR X (binaryOp (opOf o)) (R2D G fun μ x y => binD μ o x y) := by
  intro pins s σ H x y v u Q I vx vy h
  obtain ⟨Z, φ, μ, dx, dy, d, c, rx, ry, e, q⟩ := h
  have viaInt : ∀ {i j : Int}, dx = .int i → dy = .int j → wpAny (model X.prog X.w) X.A (binaryOp (opOf o) v u) (EP X pins σ Q) X.xe s := fun {i j} h1 h2 => by
    subst h1 h2
    obtain rfl := rx.of_int
    obtain rfl := ry.of_int
    have e' : (intOp o i j).map D.int = some d := by cases o <;> simpa [binD] using e
    obtain ⟨k, ek, rfl⟩ := Option.map_eq_some_iff.mp e'
    exact op_int ek I vx vy (q.now c (.int k))
  cases o with
  | add =>
    cases dx with
    | int i =>
      cases dy with
      | int j => exact viaInt rfl rfl
      | _ => simp [binD] at e
    | str a =>
      cases dy with
      | str b =>
        simp only [binD, Option.ite_none_right_eq_some, Option.some.injEq] at e
        obtain ⟨hz, rfl⟩ := e
        obtain rfl := rx.of_str
        obtain rfl := ry.of_str
        refine op_add_str pins s σ H _ _ v u Q I vx vy ⟨_, _, rfl, rfl, by rw [ofString_length, ofString_length, ← sz_eq]; exact hz, ?_⟩
        rw [ofString_append]
        exact q.now c (.str _)
      | _ => simp [binD] at e
    | tup xs =>
      cases dy with
      | tup ys =>
        simp only [binD, Option.ite_none_right_eq_some, Option.some.injEq] at e
        obtain ⟨hz, rfl⟩ := e
        obtain ⟨a, vs, rfl, h1, r1⟩ := rx.of_tup
        obtain ⟨b, ws, rfl, h2, r2⟩ := ry.of_tup
        rw [hK] at h1 h2
        refine op_catA pins s σ H _ _ v u Q I vx vy ⟨a, b, vs, ws, rfl, rfl, h1, h2, by rw [r1.length, r2.length, ← sz_eq]; exact hz, fun z => ?_, fun _ z => ?_, fun _ _ p hp => q.tup c hp (r1.append r2)⟩
        · subst z
          cases r1
          exact q.now c ry
        · subst z
          cases r2
          rw [List.append_nil] at q
          exact q.now c rx
      | _ => simp [binD] at e
    | lst xs =>
      cases dy with
      | lst ys => exact op_lists rfl rfl e I c rx ry vx vy q
      | ref j =>
        cases k : lstOf μ (.ref j) with
        | none =>
          exfalso
          cases z : μ[j]? with
          | none => simp [binD, z] at e
          | some w => cases w <;> simp [binD, z, lstOf] at e k
        | some ys => exact op_lists rfl k e I c rx ry vx vy q
      | _ => simp [binD] at e
    | ref i =>
      cases k1 : lstOf μ (.ref i) with
      | none =>
        exfalso
        cases z : μ[i]? with
        | none => cases dy <;> simp [binD, z] at e
        | some w => cases w <;> cases dy <;> simp [binD, z, lstOf] at e k1
      | some xs =>
        cases k2 : lstOf μ dy with
        | none =>
          exfalso
          cases z : μ[i]? with
          | none => simp [lstOf, z] at k1
          | some w => cases w <;> cases dy <;> simp_all [binD, lstOf]
        | some ys => exact op_lists k1 k2 e I c rx ry vx vy q
    | _ => simp [binD] at e
  | mul =>
    cases dx with
    | int i =>
      cases dy with
      | int j => exact viaInt rfl rfl
      | _ => simp [binD] at e
    | lst xs =>
      cases dy with
      | int k =>
        simp only [binD, Option.ite_none_right_eq_some, Option.some.injEq] at e
        obtain ⟨⟨hk, hz⟩, rfl⟩ := e
        obtain ⟨a, vs, rfl, h1, r1⟩ := rx.of_lst
        obtain rfl := ry.of_int
        exact op_repR pins s σ H _ _ v u Q I vx vy ⟨a, k, vs, rfl, rfl, h1, by omega, by omega, by rw [r1.length, ← sz_eq]; exact hz, fun p hp => q.lst c hp (r1.repl _)⟩
      | _ => simp [binD] at e
    | _ => simp [binD] at e
  | _ =>
    cases dx with
    | int i =>
      cases dy with
      | int j => exact viaInt rfl rfl
      | _ => simp [binD] at e
    | _ => simp [binD] at e
end
end PY

set_option Elab.async false
set_option linter.all false
set_option maxRecDepth 100000
set_option maxHeartbeats 4000000
/-! PY, part d: comparisons, items, slices, the built-in functions and methods, by values. -/
namespace PY
open PySem PySem.Spec PyProof.Rows L2

/-! ### plain data as the library's data -/
mutual
theorem toPy_lay : ∀ d : D, (toPy d).canLay0 = true
  | .non => by simp [toPy, PyData.canLay0]
  | .bl _ => by simp [toPy, PyData.canLay0]
  | .int _ => by simp [toPy, PyData.canLay0]
  | .str s => by simp [toPy, PyData.canLay0, ofString_ok]
  | .tup xs => by simp only [toPy, PyData.canLay0]; exact toPys_lay xs
  | .lst xs => by simp only [toPy, PyData.canLay0]; exact toPys_lay xs
  | .ins _ _ => by simp [toPy, PyData.canLay0]
  | .ref _ => by simp [toPy, PyData.canLay0]
  | .scr _ => by simp [toPy, PyData.canLay0]
theorem toPys_lay : ∀ ds : List D, PyData.canLayAll0 (toPys ds) = true
  | [] => by simp [toPys, PyData.canLayAll0]
  | x :: xs => by simp [toPys, PyData.canLayAll0, toPy_lay x, toPys_lay xs]
end
mutual
theorem toPy_depth : ∀ d : D, plain d = true → (toPy d).depth = depth d
  | .non, _ => by simp [toPy, PyData.depth, depth]
  | .bl _, _ => by simp [toPy, PyData.depth, depth]
  | .int _, _ => by simp [toPy, PyData.depth, depth]
  | .str s, _ => by simp [toPy, PyData.depth, depth]
  | .tup xs, h => by
    simp only [toPy, PyData.depth, depth]
    rw [toPys_depth xs (by simpa [plain] using h)]
  | .lst xs, h => by
    simp only [toPy, PyData.depth, depth]
    rw [toPys_depth xs (by simpa [plain] using h)]
  | .ins _ _, h => by simp [plain] at h
  | .ref _, h => by simp [plain] at h
  | .scr _, h => by simp [plain] at h
theorem toPys_depth : ∀ ds : List D, plains ds = true → PyData.depthAll (toPys ds) = depths ds
  | [], _ => by simp [toPys, PyData.depthAll, depths]
  | x :: xs, h => by
    simp only [plains, Bool.and_eq_true] at h
    simp only [toPys, PyData.depthAll, depths]
    rw [toPy_depth x h.1, toPys_depth xs h.2]
end
mutual
theorem toPy_eqv : ∀ a b : D, plain a = true → plain b = true → PyData.eqv (toPy a) (toPy b) = eqv a b
  | .tup xs, .tup ys, h1, h2 => by
    simp only [toPy, PyData.eqv, eqv]
    exact toPys_eqv xs ys (by simpa [plain] using h1) (by simpa [plain] using h2)
  | .lst xs, .lst ys, h1, h2 => by
    simp only [toPy, PyData.eqv, eqv]
    exact toPys_eqv xs ys (by simpa [plain] using h1) (by simpa [plain] using h2)
  | .str s, .str t, _, _ => by simp only [toPy, PyData.eqv, eqv]; exact ofString_beq s t
  | .ins _ _, _, h, _ => by simp [plain] at h
  | .ref _, _, h, _ => by simp [plain] at h
  | .scr _, _, h, _ => by simp [plain] at h
  | .non, .scr _, _, h => by simp [plain] at h
  | .bl _, .scr _, _, h => by simp [plain] at h
  | .int _, .scr _, _, h => by simp [plain] at h
  | .str _, .scr _, _, h => by simp [plain] at h
  | .tup _, .scr _, _, h => by simp [plain] at h
  | .lst _, .scr _, _, h => by simp [plain] at h
  | .non, .ins _ _, _, h => by simp [plain] at h
  | .non, .ref _, _, h => by simp [plain] at h
  | .bl _, .ins _ _, _, h => by simp [plain] at h
  | .bl _, .ref _, _, h => by simp [plain] at h
  | .int _, .ins _ _, _, h => by simp [plain] at h
  | .int _, .ref _, _, h => by simp [plain] at h
  | .str _, .ins _ _, _, h => by simp [plain] at h
  | .str _, .ref _, _, h => by simp [plain] at h
  | .tup _, .ins _ _, _, h => by simp [plain] at h
  | .tup _, .ref _, _, h => by simp [plain] at h
  | .lst _, .ins _ _, _, h => by simp [plain] at h
  | .lst _, .ref _, _, h => by simp [plain] at h
  | .non, .non, _, _ | .non, .bl _, _, _ | .non, .int _, _, _ | .non, .str _, _, _ | .non, .tup _, _, _ | .non, .lst _, _, _ => by simp [toPy, PyData.eqv, eqv]
  | .bl _, .non, _, _ | .bl _, .bl _, _, _ | .bl _, .int _, _, _ | .bl _, .str _, _, _ | .bl _, .tup _, _, _ | .bl _, .lst _, _, _ => by simp [toPy, PyData.eqv, eqv]
  | .int _, .non, _, _ | .int _, .bl _, _, _ | .int _, .int _, _, _ | .int _, .str _, _, _ | .int _, .tup _, _, _ | .int _, .lst _, _, _ => by simp [toPy, PyData.eqv, eqv]
  | .str _, .non, _, _ | .str _, .bl _, _, _ | .str _, .int _, _, _ | .str _, .tup _, _, _ | .str _, .lst _, _, _ => by simp [toPy, PyData.eqv, eqv]
  | .tup _, .non, _, _ | .tup _, .bl _, _, _ | .tup _, .int _, _, _ | .tup _, .str _, _, _ | .tup _, .lst _, _, _ => by simp [toPy, PyData.eqv, eqv]
  | .lst _, .non, _, _ | .lst _, .bl _, _, _ | .lst _, .int _, _, _ | .lst _, .str _, _, _ | .lst _, .tup _, _, _ => by simp [toPy, PyData.eqv, eqv]
theorem toPys_eqv : ∀ xs ys : List D, plains xs = true → plains ys = true → PyData.eqvAll (toPys xs) (toPys ys) = eqvs xs ys
  | [], [], _, _ => by simp [toPys, PyData.eqvAll, eqvs]
  | [], _ :: _, _, _ => by simp [toPys, PyData.eqvAll, eqvs]
  | _ :: _, [], _, _ => by simp [toPys, PyData.eqvAll, eqvs]
  | x :: xs, y :: ys, h1, h2 => by
    simp only [plains, Bool.and_eq_true] at h1 h2
    simp only [toPys, PyData.eqvAll, eqvs]
    rw [toPy_eqv x y h1.1 h2.1, toPys_eqv xs ys h1.2 h2.2]
end
theorem toPys_any (d : D) (hd : plain d = true) : ∀ xs : List D, plains xs = true → ((toPys xs).any fun y => PyData.eqv y (toPy d)) = xs.any fun y => eqv y d
  | [], _ => rfl
  | x :: xs, h => by
    simp only [plains, Bool.and_eq_true] at h
    simp only [toPys, List.any_cons]
    rw [toPy_eqv x d h.1 hd, toPys_any d hd xs h.2]

section
variable {X : Cx} {G : Gd} {Z φ : List Addr} {H : Hp} {μ : Store}
mutual
theorem Rep.dp : ∀ {d : D} {x : V}, plain d = true → Rep G Z φ H x d → Dp G.K H x (toPy d)
  | _, _, _, .non => by simp only [toPy]; exact .non
  | _, _, _, .bl b => by simp only [toPy]; exact .bl b
  | _, _, _, .int i => by simp only [toPy]; exact .int i
  | _, _, _, .str s => by simp only [toPy]; exact .str _
  | _, _, h, .tup hs r => by
    simp only [toPy]
    exact .tup (sqT hs) (Reps.dp (by simpa [plain] using h) r)
  | _, _, h, .lst hs r => by
    simp only [toPy]
    exact .lst hs.seq (Reps.dp (by simpa [plain] using h) r)
  | _, _, h, .ins _ _ _ => by simp [plain] at h
  | _, _, h, .ref _ => by simp [plain] at h
  | _, _, h, .scr _ => by simp [plain] at h
theorem Reps.dp : ∀ {ds : List D} {xs : List V}, plains ds = true → Reps G Z φ H xs ds → DpAll G.K H xs (toPys ds)
  | _, _, _, .nil => by simp only [toPys]; exact .nil
  | _, _, h, .cons r s => by
    simp only [plains, Bool.and_eq_true] at h
    simp only [toPys]
    exact .cons (Rep.dp h.1 r) (Reps.dp h.2 s)
end
/-- .. a cell's list, too -/
theorem Rep.dpr (c : CRel G Z φ H μ) {d : D} {x : V} (h : plain (deref μ d) = true) (r : Rep G Z φ H x d) : Dp G.K H x (toPy (deref μ d)) := by
  cases d with
  | ref i =>
    obtain ⟨a, rfl, ha⟩ := r.of_ref
    cases q : μ[i]? with
    | none => rw [deref, q] at h; simp [plain] at h
    | some k =>
      cases k with
      | lst xs =>
        rw [deref, q] at h ⊢
        obtain ⟨vs, h1, r1⟩ := c.lst ha q
        simp only [toPy]
        exact .lst (.inl (.inl h1)) (r1.dp (by simpa [plain] using h))
      | dct _ _ => rw [deref, q] at h; simp [plain] at h
      | ins _ _ => rw [deref, q] at h; simp [plain] at h
      | tbl _ => rw [deref, q] at h; simp [plain] at h
  | _ => exact r.dp h
theorem canEq_and {a b : D} (h : canEq a b = true) : plain a = true ∧ plain b = true ∧ min (depth a) (depth b) ≤ 150 := by
  simp only [canEq, Bool.and_eq_true, decide_eq_true_eq] at h
  exact ⟨h.1.1, h.1.2, h.2⟩
theorem op_eqD' (hK : G.K = X.K) (hu : X.A.units + 160 < cLine) : OpR X (compareOp .Eq) (R2D G fun μ x y => (eqD μ x y).map .bl) := by
  intro pins s σ H x y v u Q I vx vy h
  obtain ⟨Z, φ, μ, dx, dy, d, c, rx, ry, e, q⟩ := h
  dsimp only at e
  obtain ⟨b, e1, rfl⟩ := Option.map_eq_some_iff.mp e
  clear e
  have e := e1
  clear e1
  simp only [eqD, Option.ite_none_right_eq_some, Option.some.injEq] at e
  obtain ⟨h, rfl⟩ := e
  obtain ⟨h1, h2, h3⟩ := canEq_and h
  obtain ⟨as, ra⟩ := Dp.reads I _ x v (hK ▸ rx.dpr c h1) vx
  obtain ⟨bs, rb⟩ := Dp.reads I _ y u (hK ▸ ry.dpr c h2) vy
  refine SeqAt.compareEq_reads ra rb (toPy_lay _) (toPy_lay _) (by rw [toPy_depth _ h1, toPy_depth _ h2]; omega) ⟨.bl _, H, I, rfl, ?_⟩
  rw [toPy_eqv _ _ h1 h2]
  exact q.now c (.bl _)
theorem op_neD' (hK : G.K = X.K) (hu : X.A.units + 160 < cLine) : OpR X (compareOp .NotEq) (R2D G fun μ x y => ((eqD μ x y).map (!·)).map .bl) := by
  intro pins s σ H x y v u Q I vx vy h
  obtain ⟨Z, φ, μ, dx, dy, d, c, rx, ry, e, q⟩ := h
  dsimp only at e
  obtain ⟨b, e1, rfl⟩ := Option.map_eq_some_iff.mp e
  clear e
  obtain ⟨b', e, rfl⟩ := Option.map_eq_some_iff.mp e1
  clear e1
  simp only [eqD, Option.ite_none_right_eq_some, Option.some.injEq] at e
  obtain ⟨h, rfl⟩ := e
  obtain ⟨h1, h2, h3⟩ := canEq_and h
  obtain ⟨as, ra⟩ := Dp.reads I _ x v (hK ▸ rx.dpr c h1) vx
  obtain ⟨bs, rb⟩ := Dp.reads I _ y u (hK ▸ ry.dpr c h2) vy
  refine SeqAt.compareNe_reads ra rb (toPy_lay _) (toPy_lay _) (by rw [toPy_depth _ h1, toPy_depth _ h2]; omega) ⟨.bl _, H, I, rfl, ?_⟩
  rw [toPy_eqv _ _ h1 h2]
  exact q.now c (.bl _)

/-! ### keys -/
theorem KeyRep.of_flat {x : V} {d : D} (h : flatKey d = true) (r : Rep G Z φ H x d) : ∃ k, KeyRep k d ∧ x = kV k := by
  cases d with
  | int i => obtain rfl := r.of_int; exact ⟨.inl i, .int i, rfl⟩
  | str s => obtain rfl := r.of_str; exact ⟨.inr _, .str s, rfl⟩
  | _ => simp [flatKey] at h
theorem KeyRep.eqv {k k' : Key} {d d' : D} (h : KeyRep k d) (h' : KeyRep k' d') : decide (k = k') = PY.eqv d d' := by
  cases h with
  | int i =>
    cases h' with
    | int j => rw [key_ll]; simp [PY.eqv]
    | str t => rw [key_lr]; simp [PY.eqv]
  | str s =>
    cases h' with
    | int j => rw [key_rl]; simp [PY.eqv]
    | str t =>
      rw [key_rr]
      simp only [PY.eqv]
      by_cases e : s = t
      · subst e; simp
      · rw [decide_eq_false (fun q => e (ofString_inj q))]
        exact (beq_eq_false_iff_ne.mpr e).symm
theorem KVRep.look {k : Key} {kd : D} (hk : KeyRep k kd) : ∀ {kvs : List (Key × V)} {ds : List (D × D)}, KVRep G Z φ H kvs ds →
    (PY.look ds kd = none ∧ valV kvs k = none) ∨ ∃ d v, PY.look ds kd = some d ∧ valV kvs k = some v ∧ Rep G Z φ H v d
  | _, _, .nil => .inl ⟨rfl, rfl⟩
  | _, _, .cons (k := k') (kd := kd') (v := v) (d := d) hk' r s => by
    have e := hk'.eqv hk
    by_cases q : k' = k
    · rw [decide_eq_true q] at e
      exact .inr ⟨d, v, by simp [PY.look, List.find?_cons, ← e], valV_pos q, r⟩
    · rw [decide_eq_false q] at e
      rcases KVRep.look hk s with ⟨h1, h2⟩ | ⟨d', v', h1, h2, h3⟩
      · exact .inl ⟨by simpa [PY.look, List.find?_cons, ← e] using h1, by rw [valV_neg q]; exact h2⟩
      · exact .inr ⟨d', v', by simpa [PY.look, List.find?_cons, ← e] using h1, by rw [valV_neg q]; exact h2, h3⟩
theorem KVRep.any {k : Key} {kd : D} (hk : KeyRep k kd) : ∀ {kvs : List (Key × V)} {ds : List (D × D)}, KVRep G Z φ H kvs ds →
    (kvs.any fun kv => decide (kv.1 = k)) = ds.any fun p => PY.eqv p.1 kd
  | _, _, .nil => rfl
  | _, _, .cons hk' r s => by rw [List.any_cons, List.any_cons, hk'.eqv hk, KVRep.any hk s]
theorem KVRep.mapPut {k : Key} {kd : D} (hk : KeyRep k kd) {v : V} {d : D} (r : Rep G Z φ H v d) : ∀ {kvs : List (Key × V)} {ds : List (D × D)}, KVRep G Z φ H kvs ds →
    KVRep G Z φ H (kvs.map fun kv => if kv.1 = k then (kv.1, v) else kv) (ds.map fun p => if PY.eqv p.1 kd = true then (p.1, d) else p)
  | _, _, .nil => .nil
  | _, _, .cons (k := k') hk' r' s => by
    have e := hk'.eqv hk
    rw [List.map_cons, List.map_cons]
    by_cases q : k' = k
    · rw [decide_eq_true q] at e
      rw [if_pos q, if_pos e.symm]
      exact .cons hk' r (KVRep.mapPut hk r s)
    · rw [decide_eq_false q] at e
      rw [if_neg q, if_neg (by rw [← e]; simp)]
      exact .cons hk' r' (KVRep.mapPut hk r s)
theorem KVRep.append : ∀ {kvs kvs' : List (Key × V)} {ds ds' : List (D × D)}, KVRep G Z φ H kvs ds → KVRep G Z φ H kvs' ds' → KVRep G Z φ H (kvs ++ kvs') (ds ++ ds')
  | _, _, _, _, .nil, s => s
  | _, _, _, _, .cons a b c, s => .cons a b (KVRep.append c s)
theorem KVRep.put {k : Key} {kd : D} (hk : KeyRep k kd) {v : V} {d : D} (r : Rep G Z φ H v d) {kvs : List (Key × V)} {ds : List (D × D)} (s : KVRep G Z φ H kvs ds) : KVRep G Z φ H (putK kvs k v) (PY.put ds kd d) := by
  unfold putK PY.put
  rw [s.any hk]
  split
  · exact s.mapPut hk r
  · exact s.append (.cons hk r .nil)
theorem KVRep.length : ∀ {kvs : List (Key × V)} {ds : List (D × D)}, KVRep G Z φ H kvs ds → kvs.length = ds.length
  | _, _, .nil => rfl
  | _, _, .cons _ _ s => by rw [List.length_cons, List.length_cons, KVRep.length s]
theorem TVRep.length : ∀ {kvs : List (List Key × V)} {ds : List (D × D)}, TVRep G Z φ H kvs ds → kvs.length = ds.length
  | _, _, .nil => rfl
  | _, _, .cons _ _ s => by rw [List.length_cons, List.length_cons, TVRep.length s]
theorem CRel.dk (c : CRel G Z φ H μ) {i : Nat} {a : Addr} {ds : List (D × D)} (h : φ[i]? = some a) (e : μ[i]? = some (.dct false ds)) : ∃ kvs, H a = some (.dK kvs) ∧ KVRep G Z φ H kvs ds := by
  cases c.at h e with
  | dK h r => exact ⟨_, h, r⟩

/-! ### in -/
theorem ofSing (c : Char) : Str.ofString (String.singleton c) = ⟨#[c.toNat]⟩ := by
  rw [Str.ofString_eq_toList]
  simp
theorem str_one {s : String} {c : Char} (h : s.toList = [c]) : Str.ofString s = ⟨#[c.toNat]⟩ := by
  rw [Str.ofString_eq_toList, h]
  rfl
theorem mem_cps (t : String) (c : Char) : decide (c.toNat ∈ (Str.ofString t).cps.toList) = t.toList.contains c := by
  rw [ofString_cps]
  simp only [List.mem_map]
  by_cases h : c ∈ t.toList
  · rw [decide_eq_true ⟨c, h, rfl⟩]
    exact (List.contains_iff_mem.mpr h).symm
  · rw [decide_eq_false (fun ⟨a, h1, h2⟩ => h (by rw [← char_inj h2]; exact h1))]
    symm
    rw [Bool.eq_false_iff]
    exact fun q => h (List.contains_iff_mem.mp q)
/-- what inD is by cases, for the two operators -/
theorem op_inD' (hK : G.K = X.K) (hu : X.A.units + 160 < cLine) (neg : Bool) : OpR X (compareOp (if neg then .NotIn else .In)) (R2D G fun μ x y => ((inD μ x y).map (if neg then (!·) else id)).map .bl) := by
  intro pins s σ H x y v u Q I vx vy h
  obtain ⟨Z, φ, μ, dx, dy, d, c, rx, ry, e, q⟩ := h
  dsimp only at e
  obtain ⟨b, e1, rfl⟩ := Option.map_eq_some_iff.mp e
  clear e
  obtain ⟨b', e, rfl⟩ := Option.map_eq_some_iff.mp e1
  clear e1
  have fin : ∀ {s' : Shared}, Inv X pins σ H s' → EP X pins σ Q (.bool ((if neg then (!·) else id) b')) s' := fun I' => ⟨.bl _, H, I', rfl, q.now c (.bl _)⟩
  have seq : ∀ {ds : List D}, ((plain dx && plains ds && decide (min (depths ds) (depth dx) ≤ 150)) = true) → b' = ds.any (fun y => eqv y dx) →
      (Dp G.K H y (.list (toPys ds)) ∨ Dp G.K H y (.tuple (toPys ds))) → wpAny (model X.prog X.w) X.A (compareOp (if neg then .NotIn else .In) v u) (EP X pins σ Q) X.xe s := by
    intro ds h hb hd
    simp only [Bool.and_eq_true, decide_eq_true_eq] at h
    obtain ⟨⟨h1, h2⟩, h3⟩ := h
    obtain ⟨bs, rb⟩ := Dp.reads I _ x v (hK ▸ rx.dp h1) vx
    have hr : X.A.units + 1 + min (PyData.depthAll (toPys ds)) (toPy dx).depth < cLine := by rw [toPys_depth ds h2, toPy_depth dx h1]; omega
    have hb' : ((toPys ds).any fun y => PyData.eqv y (toPy dx)) = b' := by rw [toPys_any dx h1 ds h2, hb]
    rcases hd with hd | hd
    · obtain ⟨as, ra⟩ := Dp.reads I _ y u (hK ▸ hd) vy
      cases neg with
      | false => exact SeqAt.in_list_reads ra rb (toPys_lay _) (toPy_lay _) hr (by rw [hb']; exact fin I)
      | true => exact SeqAt.notIn_list_reads ra rb (toPys_lay _) (toPy_lay _) hr (by rw [hb']; exact fin I)
    · obtain ⟨as, ra⟩ := Dp.reads I _ y u (hK ▸ hd) vy
      cases neg with
      | false => exact SeqAt.in_tuple_reads ra rb (toPys_lay _) (toPy_lay _) hr (by rw [hb']; exact fin I)
      | true => exact SeqAt.notIn_tuple_reads ra rb (toPys_lay _) (toPy_lay _) hr (by rw [hb']; exact fin I)
  cases hy : deref μ dy with
  | tup ds =>
    simp only [inD, hy, Option.ite_none_right_eq_some, Option.some.injEq] at e
    have hp : plain (deref μ dy) = true := by
      have := e.1
      simp only [Bool.and_eq_true] at this
      rw [hy]; simpa [plain] using this.1.2
    refine seq e.1 e.2.symm (.inr ?_)
    have := ry.dpr c hp
    rw [hy] at this
    simpa only [toPy] using this
  | lst ds =>
    simp only [inD, hy, Option.ite_none_right_eq_some, Option.some.injEq] at e
    have hp : plain (deref μ dy) = true := by
      have := e.1
      simp only [Bool.and_eq_true] at this
      rw [hy]; simpa [plain] using this.1.2
    refine seq e.1 e.2.symm (.inl ?_)
    have := ry.dpr c hp
    rw [hy] at this
    simpa only [toPy] using this
  | str t =>
    have hd : dy = .str t := by
      cases dy with
      | ref i =>
        exfalso
        rw [deref] at hy
        split at hy <;> simp at hy
      | _ => exact hy
    subst hd
    cases dx with
    | str z =>
      cases hz : z.toList with
      | nil => simp [inD, deref, hz] at e
      | cons a r =>
        cases r with
        | cons _ _ => simp [inD, deref, hz] at e
        | nil =>
          simp only [inD, deref, hz, Option.some.injEq] at e
          subst e
          obtain rfl := rx.of_str
          obtain rfl := ry.of_str
          obtain ⟨t1, rfl⟩ := vx
          obtain ⟨t2, rfl⟩ := vy
          have hs := str_one hz
          cases neg with
          | false =>
            refine op_in_sign pins s σ H (.str (Str.ofString z)) (.str (Str.ofString t)) _ _ Q I ⟨_, rfl⟩ ⟨_, rfl⟩ ⟨a.toNat, Str.ofString t, by rw [hs], rfl, ?_⟩
            rw [mem_cps]
            exact q.now c (.bl _)
          | true =>
            refine op_notIn_sign pins s σ H (.str (Str.ofString z)) (.str (Str.ofString t)) _ _ Q I ⟨_, rfl⟩ ⟨_, rfl⟩ ⟨a.toNat, Str.ofString t, by rw [hs], rfl, ?_⟩
            rw [mem_cps]
            exact q.now c (.bl _)
    | _ => simp [inD, deref] at e
  | ref i =>
    have hd : dy = .ref i := by
      cases dy with
      | ref j =>
        rw [deref] at hy
        split at hy
        · simp at hy
        · exact hy
      | _ => exact hy
    subst hd
    cases z : μ[i]? with
    | none => simp [inD, hy, z] at e
    | some k =>
      cases k with
      | lst _ => simp [inD, hy, z] at e
      | ins _ _ => simp [inD, hy, z] at e
      | tbl _ => simp [inD, hy, z] at e
      | dct t kvs =>
        simp only [inD, hy, z, Option.ite_none_right_eq_some, Option.some.injEq] at e
        obtain ⟨hk, rfl⟩ := e
        obtain ⟨a, rfl, ha⟩ := ry.of_ref
        obtain rfl : u = Value.ref a := vy
        cases t with
        | false =>
          obtain ⟨ws, h1, r1⟩ := c.dk ha z
          obtain ⟨k, kr, rfl⟩ := KeyRep.of_flat (by simpa [keyOf] using hk) rx
          have hs : (valV ws k).isSome = (look kvs dx).isSome := by
            rcases r1.look kr with ⟨h2, h3⟩ | ⟨d', v', h2, h3, _⟩ <;> rw [h2, h3] <;> rfl
          cases neg with
          | false => exact d_in (by omega) I (DGet.k (k := k) h1) vx fun s' I' => by rw [hs]; exact fin I'
          | true => exact d_notIn (by omega) I (DGet.k (k := k) h1) vx fun s' I' => by rw [hs]; exact fin I'
        | true => simp [keyOf] at hk
  | _ => simp [inD, hy] at e

/-! ### the comparisons -/
def cmOf : Cm → CmpOp
  | .eq => .Eq | .ne => .NotEq | .lt => .Lt | .le => .LtE | .gt => .Gt | .ge => .GtE | .isin => .In | .notin => .NotIn
theorem op_cm (hK : G.K = X.K) (hu : X.A.units + 160 < cLine) (o : Cm) : OpR X (compareOp (cmOf o)) (R2D G fun μ x y => (cmD μ o x y).map .bl) := by
  have rel : ∀ (p : CmpOp) (f : Int → Int → Bool), OpR X (compareOp p) (rI0 fun i j => .bl (f i j)) → ∀ (g : Store → D → D → Option Bool), (∀ μ i j, g μ (.int i) (.int j) = some (f i j)) → (∀ μ x y b, g μ x y = some b → ∃ i j, x = .int i ∧ y = .int j) →
      OpR X (compareOp p) (R2D G fun μ x y => (g μ x y).map .bl) := by
    intro p f ho g h1 h2 pins s σ H x y v u Q I vx vy h
    obtain ⟨Z, φ, μ, dx, dy, d, c, rx, ry, e, q⟩ := h
    dsimp only at e
    obtain ⟨b, e1, rfl⟩ := Option.map_eq_some_iff.mp e
    obtain ⟨i, j, rfl, rfl⟩ := h2 _ _ _ _ e1
    rw [h1] at e1
    simp only [Option.some.injEq] at e1
    subst e1
    obtain rfl := rx.of_int
    obtain rfl := ry.of_int
    exact ho pins s σ H _ _ v u Q I vx vy ⟨_, _, rfl, rfl, q.now c (.bl _)⟩
  cases o with
  | eq => exact op_eqD' hK hu
  | ne => exact op_neD' hK hu
  | isin =>
    have h := op_inD' hK hu false
    simp only [Bool.false_eq_true, if_false, Option.map_id, id] at h
    exact h
  | notin => exact op_inD' hK hu true
  | lt => exact rel .Lt _ op_lt (fun μ x y => cmD μ .lt x y) (fun _ _ _ => rfl) (fun μ x y b h => by cases x <;> cases y <;> simp [cmD] at h ⊢)
  | le => exact rel .LtE _ op_le (fun μ x y => cmD μ .le x y) (fun _ _ _ => rfl) (fun μ x y b h => by cases x <;> cases y <;> simp [cmD] at h ⊢)
  | gt => exact rel .Gt _ op_gt (fun μ x y => cmD μ .gt x y) (fun _ _ _ => rfl) (fun μ x y b h => by cases x <;> cases y <;> simp [cmD] at h ⊢)
  | ge => exact rel .GtE _ op_ge (fun μ x y => cmD μ .ge x y) (fun _ _ _ => rfl) (fun μ x y b h => by cases x <;> cases y <;> simp [cmD] at h ⊢)

/-! ### items -/
theorem atI_atD {α : Type} (xs : List α) (i : Int) : L2.atI xs i = atD xs i := by
  unfold L2.atI L2.ixN atD
  by_cases h : 0 ≤ i
  · rw [if_pos h, if_pos h]
    by_cases h2 : i < xs.length
    · rw [if_pos h2]; rfl
    · rw [if_neg h2]
      symm
      show xs[i.toNat]? = none
      rw [List.getElem?_eq_none_iff]; omega
  · rw [if_neg h, if_neg h]
    by_cases h2 : -(xs.length : Int) ≤ i
    · rw [if_pos h2, if_pos h2]; rfl
    · rw [if_neg h2, if_neg h2]; rfl
theorem atD_map {α β : Type} (f : α → β) (xs : List α) (i : Int) : atD (xs.map f) i = (atD xs i).map f := by
  unfold atD
  rw [List.length_map]
  split
  · rw [List.getElem?_map]
  · split
    · rw [List.getElem?_map]
    · rfl
theorem Reps.at {vs : List V} {ds : List D} {i : Int} {d : D} (r : Reps G Z φ H vs ds) (e : atD ds i = some d) : ∃ v, L2.atI vs i = some v ∧ Rep G Z φ H v d := by
  rw [atI_atD]
  unfold atD at e ⊢
  rw [r.length]
  split at e
  · rename_i h
    rw [if_pos h]; exact r.get e
  · rename_i h
    rw [if_neg h]
    split at e
    · rename_i h2
      rw [if_pos h2]; exact r.get e
    · cases e
/-- d[k] as an item -/
theorem ix_dk (hu : X.A.units + 1 < cLine) : IxR X (fun x y H Q => ∃ a v, x = .ref a ∧ DGet H a y (some v) ∧ Q v H) := by
  intro value slice pins s σ H x y v u Q I rx ry h hs
  obtain ⟨a, w, rfl, g, q⟩ := h
  obtain rfl : v = Value.ref a := rx
  exact tail_any (dict_typeIs I g) PySem.F.slot_dict_getitem.lookup (d_getItem hu I g ry fun w' s3 I3 rw' => ⟨w, H, I3, rw', q⟩) hs
theorem ix_D (hK : G.K = X.K) (hu : X.A.units + 1 < cLine) : IxR X (R2D G fun μ x y => ixD μ x y) := by
  intro value slice pins s σ H x y v u Q I vx vy h hs
  obtain ⟨Z, φ, μ, dx, dy, d, c, rx, ry, e, q⟩ := h
  dsimp only at e
  cases dx with
  | tup xs =>
    cases dy with
    | int i =>
      obtain ⟨a, vs, rfl, h1, r1⟩ := rx.of_tup
      obtain rfl := ry.of_int
      obtain ⟨w, hw, rw'⟩ := r1.at e
      rw [hK] at h1
      exact ix_tup value slice pins s σ H _ _ v u Q I vx vy ⟨a, vs, i, w, rfl, rfl, h1, hw, q.now c rw'⟩ hs
    | _ => simp [ixD] at e
  | lst xs =>
    cases dy with
    | int i =>
      obtain ⟨a, vs, rfl, h1, r1⟩ := rx.of_lst
      obtain rfl := ry.of_int
      obtain ⟨w, hw, rw'⟩ := r1.at e
      exact ix_list value slice pins s σ H _ _ v u Q I vx vy ⟨a, vs, i, w, rfl, rfl, .inl h1, hw, q.now c rw'⟩ hs
    | _ => simp [ixD] at e
  | str z =>
    cases dy with
    | int i =>
      simp only [ixD, Option.ite_none_right_eq_some] at e
      obtain ⟨hz, e⟩ := e
      obtain ⟨ch, hc, rfl⟩ := Option.map_eq_some_iff.mp e
      obtain rfl := rx.of_str
      obtain rfl := ry.of_int
      refine ix_str value slice pins s σ H _ _ v u Q I vx vy ⟨_, i, ch.toNat, rfl, rfl, by rw [ofString_length, ← sz_eq]; exact hz, ?_, ?_⟩ hs
      · rw [atI_atD, ofString_cps]
        show atD (z.toList.map Char.toNat) i = _
        rw [atD_map, hc]; rfl
      · rw [← ofSing]
        exact q.now c (.str _)
    | _ => simp [ixD] at e
  | ref r =>
    obtain ⟨a, rfl, ha⟩ := rx.of_ref
    cases z : μ[r]? with
    | none => simp [ixD, z] at e
    | some k =>
      cases k with
      | lst xs =>
        cases dy with
        | int i =>
          simp only [ixD, z] at e
          obtain ⟨vs, h1, r1⟩ := c.lst ha z
          obtain rfl := ry.of_int
          obtain ⟨w, hw, rw'⟩ := r1.at e
          exact ix_list value slice pins s σ H _ _ v u Q I vx vy ⟨a, vs, i, w, rfl, rfl, .inl (.inl h1), hw, q.now c rw'⟩ hs
        | _ => simp [ixD, z] at e
      | dct t kvs =>
        simp only [ixD, z, Option.ite_none_right_eq_some] at e
        obtain ⟨hk, e⟩ := e
        cases t with
        | true => simp [keyOf] at hk
        | false =>
          obtain ⟨ws, h1, r1⟩ := c.dk ha z
          obtain ⟨k, kr, rfl⟩ := KeyRep.of_flat (by simpa [keyOf] using hk) ry
          rcases r1.look kr with ⟨h2, h3⟩ | ⟨d', v', h2, h3, h4⟩
          · rw [h2] at e; cases e
          · rw [h2] at e
            cases e
            exact ix_dk hu value slice pins s σ H _ _ v u Q I vx vy ⟨a, v', rfl, by have := DGet.k (k := k) h1; rw [h3] at this; exact this, q.now c h4⟩ hs
      | ins _ _ => simp [ixD, z] at e
      | tbl _ => simp [ixD, z] at e
  | _ => simp [ixD] at e

/-! ### slices -/
theorem cutV_cut (vs : List V) (lo hi : Option Int) : cutV vs lo hi = cut vs lo hi := rfl
theorem Reps.cut {vs : List V} {ds : List D} (r : Reps G Z φ H vs ds) (lo hi : Option Int) : Reps G Z φ H (cut vs lo hi) (cut ds lo hi) := by
  unfold PY.cut
  rw [r.length]
  exact (r.drop _).take _
theorem cut_whole {α : Type} (xs : List α) {lo hi : Option Int} (h : HT.sIx xs.length 0 lo = 0 ∧ HT.sIx xs.length xs.length hi = xs.length) : cut xs lo hi = xs := by
  unfold PY.cut
  rw [h.1, h.2, List.drop_zero, Nat.sub_zero, List.take_length]
theorem cut_map {α β : Type} (f : α → β) (xs : List α) (lo hi : Option Int) : cut (xs.map f) lo hi = (cut xs lo hi).map f := by
  unfold PY.cut
  rw [List.length_map, List.map_take, List.map_drop]
theorem cutS_str (s : String) (lo hi : Option Int) : cutS (Str.ofString s) lo hi = Str.ofString (String.ofList (cut s.toList lo hi)) := by
  unfold cutS
  rw [ofString_cps, ofString_length, Str.ofString_eq_toList]
  simp only [String.toList_ofList]
  rw [← cut_map]
  unfold PY.cut
  rw [List.length_map]
def RSlD (G : Gd) : V → Option Int → Option Int → Hp → VK → Prop := fun x lo hi H Q => ∃ Z φ μ dx d, CRel G Z φ H μ ∧ Rep G Z φ H x dx ∧ slD μ lo hi dx = some d ∧ Done G Z φ H d μ Q
theorem sl_D (hK : G.K = X.K) : SlR X (RSlD G) := by
  intro pins s σ H x v vl vu lo hi sl Q I rx hs pl pu h
  obtain ⟨Z, φ, μ, dx, d, c, rd, e, q⟩ := h
  cases dx with
  | tup xs =>
    simp only [slD, Option.some.injEq] at e
    subst e
    obtain ⟨a, vs, rfl, h1, r1⟩ := rd.of_tup
    rw [hK] at h1
    refine sl_tupA pins s σ H _ v vl vu lo hi sl Q I rx hs pl pu ⟨a, vs, rfl, h1, fun hw => ?_, fun hw p hp => q.tup c hp (r1.cut lo hi)⟩
    rw [r1.length] at hw
    rw [cut_whole xs hw] at q
    exact q.now c rd
  | lst xs =>
    simp only [slD, Option.some.injEq] at e
    subst e
    obtain ⟨a, vs, rfl, h1, r1⟩ := rd.of_lst
    exact sl_list pins s σ H _ v vl vu lo hi sl Q I rx hs pl pu ⟨a, vs, rfl, .inl h1, fun p hp => q.lst c hp (r1.cut lo hi)⟩
  | str z =>
    simp only [slD, Option.ite_none_right_eq_some, Option.some.injEq] at e
    obtain ⟨hz, rfl⟩ := e
    obtain rfl := rd.of_str
    refine sl_str pins s σ H _ v vl vu lo hi sl Q I rx hs pl pu ⟨_, rfl, by rw [ofString_length, ← sz_eq]; exact hz, ?_⟩
    rw [cutS_str]
    exact q.now c (.str _)
  | ref r =>
    obtain ⟨a, rfl, ha⟩ := rd.of_ref
    cases z : μ[r]? with
    | none => simp [slD, z] at e
    | some k =>
      cases k with
      | lst xs =>
        simp only [slD, z, Option.some.injEq] at e
        subst e
        obtain ⟨vs, h1, r1⟩ := c.lst ha z
        exact sl_list pins s σ H _ v vl vu lo hi sl Q I rx hs pl pu ⟨a, vs, rfl, .inl (.inl h1), fun p hp => q.lst c hp (r1.cut lo hi)⟩
      | dct _ _ => simp [slD, z] at e
      | ins _ _ => simp [slD, z] at e
      | tbl _ => simp [slD, z] at e
  | _ => simp [slD] at e

/-! ### the built-in functions -/
theorem RND.one {g : Store → D → Option (D × Store)} {xs : List V} {H : Hp} {Q : VK} (h : RND G (fun μ ds => match ds with | [x] => g μ x | _ => none) xs H Q) : ∃ x, xs = [x] ∧ R1D G g x H Q := by
  obtain ⟨Z, φ, μ, ds, d, μ', c, r, e, q⟩ := h
  cases r with
  | nil => simp at e
  | cons r s =>
    cases s with
    | nil => exact ⟨_, rfl, Z, φ, μ, _, d, μ', c, r, e, q⟩
    | cons _ _ => simp at e
theorem c_len (hK : G.K = X.K) : CallR X (.builtin "len") (RND G fun μ ds => primD .len ds μ) := by
  intro pins s σ H xs us Q I r h
  obtain ⟨Z, φ, μ, ds, d, μ', c, rs, e, q⟩ := h
  cases rs with
  | nil => simp [primD] at e
  | @cons x _ dx _ rx rt =>
    cases rt with
    | cons _ _ => simp [primD] at e
    | nil =>
      simp only [primD] at e
      obtain ⟨n, e1, z⟩ := Option.map_eq_some_iff.mp e
      clear e
      have e := e1
      clear e1
      simp only [Prod.mk.injEq] at z
      obtain ⟨rfl, rfl⟩ := z
      have fin : Q (.int n) H := q.now c (.int _)
      cases dx with
      | tup ys =>
        simp only [lenD, Option.some.injEq] at e
        obtain ⟨a, vs, rfl, h1, r1⟩ := rx.of_tup
        rw [hK] at h1
        exact call_len_seq pins s σ H _ us Q I r ⟨a, vs, rfl, .inr h1, by rw [r1.length, e]; exact fin⟩
      | lst ys =>
        simp only [lenD, Option.some.injEq] at e
        obtain ⟨a, vs, rfl, h1, r1⟩ := rx.of_lst
        exact call_len_seq pins s σ H _ us Q I r ⟨a, vs, rfl, .inl (.inl h1), by rw [r1.length, e]; exact fin⟩
      | str z =>
        simp only [lenD, Option.ite_none_right_eq_some, Option.some.injEq] at e
        obtain rfl := rx.of_str
        exact call_len_str pins s σ H _ us Q I r ⟨_, rfl, by rw [ofString_length, ← sz_eq]; exact e.1, by rw [ofString_length, e.2]; exact fin⟩
      | ref i =>
        obtain ⟨a, rfl, ha⟩ := rx.of_ref
        cases z : μ[i]? with
        | none => simp [lenD, z] at e
        | some k =>
          cases k with
          | lst ys =>
            simp only [lenD, z, Option.some.injEq] at e
            obtain ⟨vs, h1, r1⟩ := c.lst ha z
            exact call_len_seq pins s σ H _ us Q I r ⟨a, vs, rfl, .inl (.inl (.inl h1)), by rw [r1.length, e]; exact fin⟩
          | dct t kvs =>
            simp only [lenD, z, Option.some.injEq] at e
            cases t with
            | false =>
              obtain ⟨ws, h1, r1⟩ := c.dk ha z
              exact call_lenD pins s σ H _ us Q I r ⟨a, ws, rfl, h1, by rw [r1.length, e]; exact fin⟩
            | true =>
              cases c.at ha z with
              | dT h1 r1 => exact call_len_dT pins s σ H _ us Q I r ⟨a, _, rfl, h1, by rw [r1.length, e]; exact fin⟩
          | ins _ _ => simp [lenD, z] at e
          | tbl _ => simp [lenD, z] at e
      | _ => simp [lenD] at e
theorem Reps.bools : ∀ {ds : List D} {xs : List V} {bs : List Bool}, Reps G Z φ H xs ds → boolsOf ds = some bs → xs = bs.map V.bl
  | _, _, _, .nil, e => by simp [boolsOf] at e; subst e; rfl
  | _, _, _, .cons (d := d) r s, e => by
    cases d with
    | bl b =>
      simp only [boolsOf] at e
      obtain ⟨bs, e1, rfl⟩ := Option.map_eq_some_iff.mp e
      clear e
      have e := e1
      clear e1
      obtain rfl := r.of_bl
      rw [Reps.bools s e]; rfl
    | _ => simp [boolsOf] at e
theorem c_all (hc : X.calm = true) : CallR X (.builtin "all") (RND G fun μ ds => primD .all ds μ) := by
  intro pins s σ H xs us Q I r h
  obtain ⟨Z, φ, μ, ds, d, μ', c, rs, e, q⟩ := h
  cases rs with
  | nil => simp [primD] at e
  | @cons x _ dx _ rx rt =>
    cases rt with
    | cons _ _ => simp [primD] at e
    | nil =>
      simp only [primD] at e
      obtain ⟨bs, e1, z⟩ := Option.map_eq_some_iff.mp e
      clear e
      have e := e1
      clear e1
      simp only [Prod.mk.injEq] at z
      obtain ⟨rfl, rfl⟩ := z
      obtain ⟨ys, e1, e2⟩ := Option.bind_eq_some_iff.mp e
      obtain ⟨a, vs, rfl, h1, r1⟩ := rx.list c e1
      have hv := r1.bools e2
      subst hv
      exact cr_all hc pins s σ H _ us Q I r ⟨a, bs, rfl, .inl h1, q.now c (.bl _)⟩
theorem c_any (hc : X.calm = true) : CallR X (.builtin "any") (RND G fun μ ds => primD .any ds μ) := by
  intro pins s σ H xs us Q I r h
  obtain ⟨Z, φ, μ, ds, d, μ', c, rs, e, q⟩ := h
  cases rs with
  | nil => simp [primD] at e
  | @cons x _ dx _ rx rt =>
    cases rt with
    | cons _ _ => simp [primD] at e
    | nil =>
      simp only [primD] at e
      obtain ⟨bs, e1, z⟩ := Option.map_eq_some_iff.mp e
      clear e
      have e := e1
      clear e1
      simp only [Prod.mk.injEq] at z
      obtain ⟨rfl, rfl⟩ := z
      obtain ⟨ys, e1, e2⟩ := Option.bind_eq_some_iff.mp e
      obtain ⟨a, vs, rfl, h1, r1⟩ := rx.list c e1
      have hv := r1.bools e2
      subst hv
      exact cr_any hc pins s σ H _ us Q I r ⟨a, bs, rfl, .inl h1, q.now c (.bl _)⟩
theorem c_int : CallR X (.type "int") (RND G fun μ ds => primD .int1 ds μ) := by
  intro pins s σ H xs us Q I r h
  obtain ⟨Z, φ, μ, ds, d, μ', c, rs, e, q⟩ := h
  cases rs with
  | nil => simp [primD] at e
  | @cons x _ dx _ rx rt =>
    cases rt with
    | cons _ _ => simp [primD] at e
    | nil =>
      cases dx with
      | int i =>
        simp only [primD, Option.some.injEq, Prod.mk.injEq] at e
        obtain ⟨rfl, rfl⟩ := e
        obtain rfl := rx.of_int
        exact call_int1 pins s σ H _ us Q I r (.inl ⟨i, rfl, q.now c (.int _)⟩)
      | bl b =>
        simp only [primD, Option.some.injEq, Prod.mk.injEq] at e
        obtain ⟨rfl, rfl⟩ := e
        obtain rfl := rx.of_bl
        exact call_int1 pins s σ H _ us Q I r (.inr ⟨b, rfl, q.now c (.int _)⟩)
      | str t =>
        simp only [primD, Option.ite_none_right_eq_some] at e
        obtain ⟨hl, e⟩ := e
        obtain ⟨n, e1, e2⟩ := Option.map_eq_some_iff.mp e
        simp only [Prod.mk.injEq] at e2
        obtain ⟨rfl, rfl⟩ := e2
        cases rx
        exact call_int_str pins s σ H _ us Q I r ⟨_, n, rfl, e1, by rw [ofString_length]; exact hl, q.now c (.int _)⟩
      | _ => simp [primD] at e
theorem c_tuple (hK : G.K = X.K) : CallR X (.type "tuple") (RND G fun μ ds => primD .tuple1 ds μ) := by
  intro pins s σ H xs us Q I r h
  obtain ⟨Z, φ, μ, ds, d, μ', c, rs, e, q⟩ := h
  cases rs with
  | nil => simp [primD] at e
  | @cons x _ dx _ rx rt =>
    cases rt with
    | cons _ _ => simp [primD] at e
    | nil =>
      simp only [primD] at e
      obtain ⟨ys, e1, z⟩ := Option.map_eq_some_iff.mp e
      clear e
      have e := e1
      clear e1
      simp only [Prod.mk.injEq] at z
      obtain ⟨rfl, rfl⟩ := z
      cases dx with
      | tup zs =>
        simp only [seqOf, Option.some.injEq] at e
        subst e
        obtain ⟨a, vs, rfl, h1, r1⟩ := rx.of_tup
        rw [hK] at h1
        exact call_tuple_of pins s σ H _ us Q I r ⟨a, vs, rfl, .inr ⟨h1, q.now c rx⟩⟩
      | lst zs =>
        simp only [seqOf, Option.some.injEq] at e
        subst e
        obtain ⟨a, vs, rfl, h1, r1⟩ := rx.of_lst
        exact call_tuple_of pins s σ H _ us Q I r ⟨a, vs, rfl, .inl ⟨.inl h1, fun p hp => q.tup c hp r1⟩⟩
      | ref i =>
        obtain ⟨a, rfl, ha⟩ := rx.of_ref
        cases z : μ[i]? with
        | none => simp [seqOf, z] at e
        | some k =>
          cases k with
          | lst zs =>
            simp only [seqOf, z, Option.some.injEq] at e
            subst e
            obtain ⟨vs, h1, r1⟩ := c.lst ha z
            exact call_tuple_of pins s σ H _ us Q I r ⟨a, vs, rfl, .inl ⟨.inl (.inl h1), fun p hp => q.tup c hp r1⟩⟩
          | dct _ _ => simp [seqOf, z] at e
          | ins _ _ => simp [seqOf, z] at e
          | tbl _ => simp [seqOf, z] at e
      | scr ns =>
        simp only [seqOf, Option.some.injEq] at e
        subst e
        obtain ⟨a, rfl, h1⟩ := rx.of_scr
        rw [hK] at h1
        exact call_tuple_of pins s σ H _ us Q I r ⟨a, _, rfl, .inl ⟨h1, fun p hp => q.tup c hp (ints_rep ns)⟩⟩
      | _ => simp [seqOf] at e
theorem c_list (hK : G.K = X.K) (m : Bool) : CallR X (.type "list") (RND G fun μ ds => primD (.list1 m) ds μ) := by
  intro pins s σ H xs us Q I r h
  obtain ⟨Z, φ, μ, ds, d, μ', c, rs, e, q⟩ := h
  cases rs with
  | nil => simp [primD] at e
  | @cons x _ dx _ rx rt =>
    cases rt with
    | cons _ _ => simp [primD] at e
    | nil =>
      simp only [primD] at e
      obtain ⟨ys, e1, z⟩ := Option.map_eq_some_iff.mp e
      clear e
      have e := e1
      clear e1
      obtain ⟨a, vs, rfl, h1, r1⟩ := rx.seq c e
      have hz : d = (newL m ys μ).1 ∧ μ' = (newL m ys μ).2 := by
        rw [z]; exact ⟨rfl, rfl⟩
      obtain ⟨rfl, rfl⟩ := hz
      rw [hK] at h1
      exact call_list_of pins s σ H _ us Q I r ⟨a, vs, rfl, h1, fun p hp => q.newL c hp r1⟩

/-! ### isinstance -/
def tyName : Ty → String
  | .int => "int" | .bool => "bool" | .str => "str" | .tuple => "tuple" | .list => "list" | .dict => "dict"
def vtName : Vt → String
  | .non => "NoneType" | .bool => "bool" | .int => "int" | .str => "str" | .tuple => "tuple" | .list => "list" | .dict => "dict"
theorem kit_all : ∀ (v : Vt) (t : Ty), kitB (vtName v) (tyName t) = some (vtIs v t)
  | .non, .int => by decide +kernel
  | .non, .bool => by decide +kernel
  | .non, .str => by decide +kernel
  | .non, .tuple => by decide +kernel
  | .non, .list => by decide +kernel
  | .non, .dict => by decide +kernel
  | .bool, .int => by decide +kernel
  | .bool, .bool => by decide +kernel
  | .bool, .str => by decide +kernel
  | .bool, .tuple => by decide +kernel
  | .bool, .list => by decide +kernel
  | .bool, .dict => by decide +kernel
  | .int, .int => by decide +kernel
  | .int, .bool => by decide +kernel
  | .int, .str => by decide +kernel
  | .int, .tuple => by decide +kernel
  | .int, .list => by decide +kernel
  | .int, .dict => by decide +kernel
  | .str, .int => by decide +kernel
  | .str, .bool => by decide +kernel
  | .str, .str => by decide +kernel
  | .str, .tuple => by decide +kernel
  | .str, .list => by decide +kernel
  | .str, .dict => by decide +kernel
  | .tuple, .int => by decide +kernel
  | .tuple, .bool => by decide +kernel
  | .tuple, .str => by decide +kernel
  | .tuple, .tuple => by decide +kernel
  | .tuple, .list => by decide +kernel
  | .tuple, .dict => by decide +kernel
  | .list, .int => by decide +kernel
  | .list, .bool => by decide +kernel
  | .list, .str => by decide +kernel
  | .list, .tuple => by decide +kernel
  | .list, .list => by decide +kernel
  | .list, .dict => by decide +kernel
  | .dict, .int => by decide +kernel
  | .dict, .bool => by decide +kernel
  | .dict, .str => by decide +kernel
  | .dict, .tuple => by decide +kernel
  | .dict, .list => by decide +kernel
  | .dict, .dict => by decide +kernel
theorem kit_any (K : PySem.W.Frag) (v : Vt) : ∀ ts : List Ty, PySem.W.kitAny K (.type (vtName v)) (ts.map fun t => .type (tyName t)) = some (ts.any (vtIs v))
  | [] => rfl
  | t :: ts => by
    rw [List.map_cons, List.any_cons]
    refine kitAny_cons (kit_ty (kit_all v t)) (fun h => ?_) (fun h => by rw [h, Bool.true_or])
    rw [h, Bool.false_or]
    exact kit_any K v ts
theorem Rep.ty (hK : G.K = X.K) (c : CRel G Z φ H μ) {x : V} {d : D} {v : Vt} (r : Rep G Z φ H x d) (e : vtOf μ d = some v) : TyX X.K H x (.type (vtName v)) := by
  cases d with
  | non => cases e; cases r; exact .base .non
  | bl b => cases e; cases r; exact .base (.bl b)
  | int i => cases e; cases r; exact .base (.int i)
  | str s => cases e; cases r; exact .base (.str _)
  | tup xs =>
    cases e
    cases r with
    | tup h _ =>
      rcases h with ⟨h | ⟨o, h⟩, _, _⟩ | ⟨o, its, n, h, hc, _⟩
      · exact .base (.tup h)
      · exact .fTuple h
      · exact .kTuple (hK ▸ h) hc
  | scr _ => simp [vtOf] at e
  | lst xs =>
    cases e
    cases r with
    | lst h _ =>
      obtain ⟨h | ⟨o, h⟩, _, _⟩ := h
      · exact .base (.lst h)
      · exact .base (.frz h)
  | ins _ _ => simp [vtOf] at e
  | ref i =>
    obtain ⟨a, rfl, ha⟩ := r.of_ref
    cases z : μ[i]? with
    | none => simp [vtOf, z] at e
    | some k =>
      cases k with
      | lst xs =>
        simp only [vtOf, z, Option.some.injEq] at e
        subst e
        obtain ⟨vs, h1, _⟩ := c.lst ha z
        exact .base (.lst h1)
      | dct t kvs =>
        simp only [vtOf, z, Option.some.injEq] at e
        subst e
        cases c.at ha z with
        | dK h1 _ => exact .base (.dK h1)
        | dT h1 _ => exact .base (.dT h1)
      | ins _ _ => simp [vtOf, z] at e
      | tbl _ => simp [vtOf, z] at e

/-! ### methods and stores that change a cell -/
def rExtendR : V → List V → Hp → VK → Prop := fun x vs H Q => ∃ l b xs zs, x = .ref l ∧ vs = [.ref b] ∧ H l = some (.lst xs) ∧ Rd H b (.lst zs) ∧ xs.length + zs.length ≤ sizeLine ∧ Q .non (upd H l (.lst (xs ++ zs)))
theorem mt_extendR : MtM X "list.extend" rExtendR := by
  intro pins s σ H x vs v us Q I rx rv h
  obtain ⟨l, b, xs, zs, rfl, rfl, hH, hB, hz, q⟩ := h
  cases rx
  obtain ⟨u, rfl, ru⟩ := rv.one
  cases ru
  obtain ⟨z, its, n, r, hl, e⟩ := I.lstM hH
  obtain ⟨z2, its2, n2, r2, hl2, e2⟩ := rd_lst I hB
  have hsz : its.toArray.size + its2.toArray.size ≤ sizeLine := by rw [List.size_toArray, List.size_toArray]; omega
  have hlong : ¬ (!its.toArray.isEmpty && Builtin.List.listTooLong (its.toArray.size + its2.toArray.size)) = true := by
    rw [notLongL hsz, Bool.and_false]
    exact Bool.false_ne_true
  refine call_meets F.slot_list_extend ⟨_, e, rfl⟩ F.entry_list_extend (F.args_list_extend_2 _ _)
    (AutoSeq1.list_extend_list_list_0 l its.toArray n b its2.toArray n2 hlong (by rw [List.size_toArray]; omega) (by omega)) ⟨e, e2, ?_⟩
  refine ⟨.non, _, I.lset (its' := its ++ its2) hH e (by simp) (r.append r2) ?_, rfl, q⟩
  rw [List.length_append]
  omega
theorem ext_tup (l : Addr) (items : Array Value) (n : Nat) (b : Addr) (items2 : Array Value) (n2 : Nat) (dd : Option Addr) (sl : Array (Option Value)) (hs0 : ¬(!items.isEmpty && Builtin.List.listTooLong (items.size + items2.size)) = true) (hs1 : items.size ≤ sizeLine) (hs2 : items.size + items2.size ≤ sizeLine + 1) :
    Meets (Builtin.«list.extend» ⟨[.ref l, .ref b], []⟩) (fun _ R s => s.heap.get? l = some { cls := .type "list", dict := none, data := .seq items n, slots := #[] } ∧ s.heap.get? b = some { cls := .type "tuple", dict := dd, data := .seq items2 n2, slots := sl } ∧ R (.ok (.ret Value.none)) { s with heap := s.heap.update l (Obj.mapSeq fun x => x ++ items2), toks := s.toks }) :=
  .of_wp fun prog w A R s h => by
    obtain ⟨hp, g, d, tk, os⟩ := s; obtain ⟨hl, hb, h⟩ := h; have f1 := AutoSeq1.idx_int; have f2 := AutoSeq1.sub_tuple_tuple; have f3 := AutoSeq1.sub_list_list; have f4 := AutoSeq1.sub_tuple_list; have f5 := AutoSeq1.sub_list_tuple;
    have hz' : (items ++ items2).size ≤ sizeLine + 1 := by rw [Array.size_append]; exact hs2
    wp_walk using (wpAny_updateSeq hl rfl (hz := hs1) (_hz' := hz')), AutoSeq1.wpAny_loadPart' hl, AutoSeq1.wpAny_loadPart' hb; exact ⟨_, rfl, h⟩
def rExtendT (K : PySem.W.Frag) : V → List V → Hp → VK → Prop := fun x vs H Q => ∃ l b xs zs, x = .ref l ∧ vs = [.ref b] ∧ H l = some (.lst xs) ∧ SqT K H b zs ∧ xs.length + zs.length ≤ sizeLine ∧ Q .non (upd H l (.lst (xs ++ zs)))
theorem mt_extendT : MtM X "list.extend" (rExtendT X.K) := by
  intro pins s σ H x vs v us Q I rx rv h
  obtain ⟨l, b, xs, zs, rfl, rfl, hH, hB, hz, q⟩ := h
  cases rx
  obtain ⟨u, rfl, ru⟩ := rv.one
  cases ru
  obtain ⟨z, its, n, r, hl, e⟩ := I.lstM hH
  obtain ⟨its2, r2, ⟨⟨cls2, dd, data, sl⟩, e2, hc2, n2, hd2⟩, hl2'⟩ := I.tuple hB
  simp only at hc2 hd2
  subst hc2 hd2
  have hl2 := r2.length
  have hsz : its.toArray.size + its2.toArray.size ≤ sizeLine := by rw [List.size_toArray, List.size_toArray]; omega
  have hlong : ¬ (!its.toArray.isEmpty && Builtin.List.listTooLong (its.toArray.size + its2.toArray.size)) = true := by
    rw [notLongL hsz, Bool.and_false]
    exact Bool.false_ne_true
  refine call_meets F.slot_list_extend ⟨_, e, rfl⟩ F.entry_list_extend (F.args_list_extend_2 _ _)
    (ext_tup l its.toArray n b its2.toArray n2 dd sl hlong (by rw [List.size_toArray]; omega) (by omega)) ⟨e, e2, ?_⟩
  refine ⟨.non, _, I.lset (its' := its ++ its2) hH e (by simp) (r.append r2) ?_, rfl, q⟩
  rw [List.length_append]
  omega
def RMD (G : Gd) (f : Prim) : V → List V → Hp → VK → Prop := fun x xs H Q => RND G (fun μ ds => primD f ds μ) (x :: xs) H Q
theorem Done.write {Q : VK} {v : V} {d : D} {i : Nat} {a : Addr} {o : HO} {k : Cell} (c : CRel G Z φ H μ) (ha : φ[i]? = some a) (hk : CellRep G Z φ (upd H a o) a k) (r : Rep G Z φ H v d) (q : Done G Z φ H d (μ.set i k) Q) : Q v (upd H a o) :=
  q v φ _ (r.grow (Grow.write (List.mem_of_getElem? ha))) (c.write ha hk) (Grow.write (List.mem_of_getElem? ha))
theorem Reps.write {i : Nat} {a : Addr} {o : HO} (ha : φ[i]? = some a) {vs : List V} {ds : List D} (r : Reps G Z φ H vs ds) : Reps G Z φ (L2.upd H a o) vs ds := r.grow (Grow.write (List.mem_of_getElem? ha))
theorem Rep.write {i : Nat} {a : Addr} {o : HO} (ha : φ[i]? = some a) {v : V} {d : D} (r : Rep G Z φ H v d) : Rep G Z φ (upd H a o) v d := r.grow (Grow.write (List.mem_of_getElem? ha))
theorem m_append : MtR X "list.append" (RMD G .append) := by
  intro pins s σ H x xs v us Q I rx rxs h
  obtain ⟨Z, φ, μ, ds, d, μ', c, rs, e, q⟩ := h
  cases rs with
  | @cons x _ dx _ r1 rt =>
    cases rt with
    | nil => cases dx <;> simp [primD] at e
    | @cons y _ dy _ r2 rt =>
      cases rt with
      | cons _ _ => cases dx <;> simp [primD] at e
      | nil =>
        cases dx with
        | ref i =>
          cases z : μ[i]? with
          | none => simp [primD, z] at e
          | some k =>
            cases k with
            | lst ys =>
              simp only [primD, z, Option.ite_none_right_eq_some, Option.some.injEq, Prod.mk.injEq] at e
              obtain ⟨hz, rfl, rfl⟩ := e
              obtain ⟨a, rfl, ha⟩ := r1.of_ref
              obtain ⟨vs, h1, rv⟩ := c.lst ha z
              exact mt_append pins s σ H _ _ v us Q I rx rxs ⟨a, vs, y, rfl, rfl, h1, by rw [rv.length, ← sz_eq]; exact hz, q.write c ha (.lst upd_same ((rv.append (.cons r2 .nil)).write ha)) .non⟩
            | dct _ _ => simp [primD, z] at e
            | ins _ _ => simp [primD, z] at e
            | tbl _ => simp [primD, z] at e
        | _ => simp [primD] at e
theorem m_extend (hK : G.K = X.K) : MtR X "list.extend" (RMD G .extend) := by
  intro pins s σ H x xs v us Q I rx rxs h
  obtain ⟨Z, φ, μ, ds, d, μ', c, rs, e, q⟩ := h
  cases rs with
  | @cons x _ dx _ r1 rt =>
    cases rt with
    | nil => cases dx <;> simp [primD] at e
    | @cons y _ dy _ r2 rt =>
      cases rt with
      | cons _ _ => cases dx <;> simp [primD] at e
      | nil =>
        cases dx with
        | ref i =>
          cases z : μ[i]? with
          | none => simp [primD, z] at e
          | some k =>
            cases k with
            | lst ys =>
              cases z2 : extOf μ dy with
              | none => simp [primD, z, z2] at e
              | some ws =>
                simp only [primD, z, z2, Option.ite_none_right_eq_some, Option.some.injEq, Prod.mk.injEq] at e
                obtain ⟨hz, rfl, rfl⟩ := e
                obtain ⟨a, rfl, ha⟩ := r1.of_ref
                obtain ⟨vs, h1, rv⟩ := c.lst ha z
                by_cases ht : ∃ zs, dy = .tup zs
                · obtain ⟨zs, rfl⟩ := ht
                  cases z2
                  obtain ⟨b, zs, rfl, h2, rw'⟩ := r2.of_tup
                  rw [hK] at h2
                  exact mt_extendT pins s σ H _ _ v us Q I rx rxs ⟨a, b, vs, zs, rfl, rfl, h1, h2, by rw [rv.length, rw'.length, ← sz_eq]; exact hz, q.write c ha (.lst upd_same ((rv.append rw').write ha)) .non⟩
                have z2 : lstOf μ dy = some ws := by
                  cases dy <;> first | exact z2 | exact absurd ⟨_, rfl⟩ ht
                obtain ⟨b, zs, rfl, h2, rw'⟩ := r2.list c z2
                refine mt_extendR pins s σ H _ _ v us Q I rx rxs ⟨a, b, vs, zs, rfl, rfl, h1, h2, by rw [rv.length, rw'.length, ← sz_eq]; exact hz, q.write c ha (.lst upd_same ((rv.append rw').write ha)) .non⟩
            | dct _ _ => simp [primD, z] at e
            | ins _ _ => simp [primD, z] at e
            | tbl _ => simp [primD, z] at e
        | _ => simp [primD] at e
theorem m_pop : MtR X "list.pop" (RMD G .pop) := by
  intro pins s σ H x xs v us Q I rx rxs h
  obtain ⟨Z, φ, μ, ds, d, μ', c, rs, e, q⟩ := h
  cases rs with
  | @cons x _ dx _ r1 rt =>
    cases rt with
    | cons _ _ => cases dx <;> simp [primD] at e
    | nil =>
      cases dx with
      | ref i =>
        cases z : μ[i]? with
        | none => simp [primD, z] at e
        | some k =>
          cases k with
          | lst ys =>
            cases z2 : ys.getLast? with
            | none => simp [primD, z, z2] at e
            | some y =>
              simp only [primD, z, z2, Option.some.injEq, Prod.mk.injEq] at e
              obtain ⟨rfl, rfl⟩ := e
              obtain ⟨a, rfl, ha⟩ := r1.of_ref
              obtain ⟨vs, h1, rv⟩ := c.lst ha z
              rw [List.getLast?_eq_getElem?, ← rv.length] at z2
              obtain ⟨w, hw, rw'⟩ := rv.get z2
              exact mt_pop pins s σ H _ _ v us Q I rx rxs ⟨a, vs, w, rfl, rfl, h1, hw, q.write c ha (.lst upd_same (rv.dropLast.write ha)) rw'⟩
          | dct _ _ => simp [primD, z] at e
          | ins _ _ => simp [primD, z] at e
          | tbl _ => simp [primD, z] at e
      | _ => simp [primD] at e
def RSetD (G : Gd) : V → V → V → Hp → (Hp → Prop) → Prop := fun o i v H Q => ∃ Z φ μ dx di dv d μ', CRel G Z φ H μ ∧ Rep G Z φ H o dx ∧ Rep G Z φ H i di ∧ Rep G Z φ H v dv ∧ primD .setix [dx, di, dv] μ = some (d, μ') ∧
  ∀ φ' H', CRel G Z φ' H' μ' → Grow φ H φ' H' → Q H'
theorem s_setix (hu : X.A.units + 1 < cLine) : PSet X (RSetD G) := by
  intro pins s σ H o i v ov iv u Q I ro ri rv h
  obtain ⟨Z, φ, μ, dx, di, dv, d, μ', c, r1, r2, r3, e, q⟩ := h
  cases dx with
  | ref j =>
    cases z : μ[j]? with
    | none => simp [primD, z] at e
    | some k =>
      cases k with
      | lst ys => simp [primD, z] at e
      | dct t kvs =>
        simp only [primD, z, Bool.and_eq_true, decide_eq_true_eq, Option.ite_none_right_eq_some, Option.some.injEq, Prod.mk.injEq] at e
        obtain ⟨⟨hk, hl⟩, rfl, rfl⟩ := e
        obtain ⟨a, rfl, ha⟩ := r1.of_ref
        obtain rfl : ov = Value.ref a := ro
        cases t with
        | true => simp [keyOf] at hk
        | false =>
          obtain ⟨ws, h1, rw'⟩ := c.dk ha z
          obtain ⟨k, kr, rfl⟩ := KeyRep.of_flat (by simpa [keyOf] using hk) r2
          have hl' : ws.length < sizeLine := by rw [rw'.length, ← sz_eq]; exact hl
          refine d_setItem hu I (DPut.k (k := k) (v := v) h1 hl') ri rv fun s' I' => ⟨_, I', ?_⟩
          exact q φ _ (c.write ha (.dK upd_same ((rw'.put kr r3).grow (Grow.write (List.mem_of_getElem? ha))))) (Grow.write (List.mem_of_getElem? ha))
      | ins _ _ => simp [primD, z] at e
      | tbl _ => simp [primD, z] at e
  | _ => simp [primD] at e
/-! ### texts -/
theorem strsB_ok : ∀ {l : List Str} {ss : List String}, strsB l = some ss → ss.map Str.ofString = l
  | [], ss, h => by cases h; rfl
  | x :: r, ss, h => by
    unfold strsB at h
    obtain ⟨s, e1, h⟩ := Option.bind_eq_some_iff.mp h
    obtain ⟨ts, e2, rfl⟩ := Option.map_eq_some_iff.mp h
    rw [List.map_cons, strOf_ok e1, strsB_ok e2]
theorem reps_strB {G : Gd} {Z φ : List Addr} {H : Hp} : ∀ ss : List String, Reps G Z φ H ((ss.map Str.ofString).map V.str) (ss.map D.str)
  | [] => .nil
  | s :: ss => .cons (.str s) (reps_strB ss)
theorem reps_strs_inv {G : Gd} {Z φ : List Addr} {H : Hp} : ∀ {ss : List String} {vs : List V} {ds : List D}, Reps G Z φ H vs ds → strsOf ds = some ss → vs = (ss.map Str.ofString).map V.str
  | ss, _, [], .nil, h => by cases h; rfl
  | ss, _, d :: ds, .cons r rs, h => by
    cases d with
    | str s =>
      unfold strsOf at h
      obtain ⟨ts, e, rfl⟩ := Option.map_eq_some_iff.mp h
      cases r
      rw [reps_strs_inv rs e]; rfl
    | _ => simp [strsOf] at h
theorem joinC_map : ∀ (a : List Char) (ps : List (List Char)), (joinC a ps).map Char.toNat = TL.joinL (a.map Char.toNat) (ps.map (·.map Char.toNat))
  | _, [] => rfl
  | _, [_] => rfl
  | a, p :: q :: r => by
    show (p ++ (a ++ joinC a (q :: r))).map Char.toNat = p.map Char.toNat ++ (a.map Char.toNat ++ TL.joinL (a.map Char.toNat) ((q :: r).map (·.map Char.toNat)))
    rw [List.map_append, List.map_append, joinC_map a (q :: r)]
theorem joinS_ok (s : String) (ss : List String) : Str.ofString (joinS s ss) = Txt.join (Str.ofString s) (ss.map Str.ofString) := by
  refine TL.ext_tl ?_
  rw [TL.join_eq, TL.tl_join, TL.tl_ofString, TL.tl_ofString]
  unfold joinS
  rw [String.toList_ofList, joinC_map, List.map_map, List.map_map]
  congr 1
  exact List.map_congr_left fun t _ => (TL.tl_ofString t).symm
theorem m_split : MtR X "str.split" (RMD G .split) := by
  intro pins s σ H x xs v us Q I rx rxs h
  obtain ⟨Z, φ, μ, ds, d, μ', c, rs, e, q⟩ := h
  cases rs with
  | @cons x _ dx _ r1 rt =>
    cases rt with
    | nil => cases dx <;> simp [primD] at e
    | @cons y _ dy _ r2 rt =>
      cases rt with
      | cons _ _ => cases dx <;> simp [primD] at e
      | nil =>
        cases dx with
        | str a =>
          cases dy with
          | str b =>
            simp only [primD] at e
            obtain ⟨ss, e1, e2⟩ := Option.map_eq_some_iff.mp e
            simp only [Prod.mk.injEq] at e2
            obtain ⟨rfl, rfl⟩ := e2
            unfold splitS at e1
            split at e1
            · cases e1
            · rename_i hb
              simp only [Bool.or_eq_true, List.isEmpty_iff, decide_eq_true_eq, not_or] at hb
              cases r1
              cases r2
              refine mt_split pins s σ H _ _ v us Q I rx rxs ⟨_, _, rfl, rfl, ?_, ?_, ?_⟩
              · rw [ofString_length]
                cases hh : b.toList with
                | nil => exact absurd hh hb.1
                | cons _ _ => rfl
              · rw [ofString_length, ← sz_eq]; omega
              · intro p hp
                have := q.newL (m := false) c hp (reps_strB (G := G) (Z := Z) (φ := φ) (H := H) ss)
                rw [strsB_ok e1] at this
                exact this
          | _ => simp [primD] at e
        | _ => simp [primD] at e
theorem m_join (hK : G.K = X.K) : MtR X "str.join" (RMD G .join) := by
  intro pins s σ H x xs v us Q I rx rxs h
  obtain ⟨Z, φ, μ, ds, d, μ', c, rs, e, q⟩ := h
  cases rs with
  | @cons x _ dx _ r1 rt =>
    cases rt with
    | nil => cases dx <;> simp [primD] at e
    | @cons y _ dy _ r2 rt =>
      cases rt with
      | cons _ _ => cases dx <;> simp [primD] at e
      | nil =>
        cases dx with
        | str a =>
          simp only [primD] at e
          obtain ⟨ss, e1, e2⟩ := Option.bind_eq_some_iff.mp e
          obtain ⟨ys, e3, e4⟩ := Option.bind_eq_some_iff.mp e1
          split at e2
          case isFalse => cases e2
          rename_i hz
          simp only [Option.some.injEq, Prod.mk.injEq] at e2
          obtain ⟨rfl, rfl⟩ := e2
          obtain ⟨b, vs, rfl, h1, r3⟩ := r2.seq c e3
          rw [hK] at h1
          have hv := reps_strs_inv r3 e4
          subst hv
          cases r1
          refine mt_join pins s σ H _ _ v us Q I rx rxs ⟨_, b, ss.map Str.ofString, rfl, rfl, h1, ?_, ?_⟩
          · rw [List.map_map, List.length_map, ofString_length]
            have : (ss.map ((fun z : Str => z.length) ∘ Str.ofString)) = ss.map fun t => t.toList.length := List.map_congr_left fun t _ => ofString_length t
            rw [this]; exact hz
          · rw [← joinS_ok]
            exact q.now c (.str _)
        | _ => simp [primD] at e
theorem c_str : CallR X (.type "str") (RND G fun μ ds => primD .str1 ds μ) := by
  intro pins s σ H xs us Q I r h
  obtain ⟨Z, φ, μ, ds, d, μ', c, rs, e, q⟩ := h
  cases rs with
  | nil => simp [primD] at e
  | @cons x _ dx _ rx rt =>
    cases rt with
    | cons _ _ => cases dx <;> simp [primD] at e
    | nil =>
      cases dx with
      | int i =>
        simp only [primD, Option.ite_none_right_eq_some, Option.some.injEq, Prod.mk.injEq] at e
        obtain ⟨hl, rfl, rfl⟩ := e
        obtain rfl := rx.of_int
        exact call_str_int pins s σ H _ us Q I r ⟨i, rfl, hl, q.now c (.str _)⟩
      | _ => simp [primD] at e
theorem call_list_chrs (hc : X.calm = true) : CallR X (.type "list") (fun xs H Q => ∃ z : Str, xs = [.str z] ∧ z.length ≤ sizeLine ∧ ∀ l, H l = none → Q (.ref l) (upd H l (.lst (z.cps.toList.map fun c => V.str ⟨#[c]⟩)))) := by
  intro pins s σ H xs us Q I r h
  obtain ⟨z, rfl, hz, q⟩ := h
  obtain ⟨u, rfl, t, rfl⟩ := vals1 r
  refine PySem.call_list_str (I.ok.hd hc) z t (fun h' tk acc' c' hk e hi => ?_) hz
  refine ⟨.ref s.heap.objs.size, upd H s.heap.objs.size (.lst (z.cps.toList.map fun c => V.str ⟨#[c]⟩)), I.laid hk (Nat.le_refl _) (show ObjOk X.prog X.w _ _ _ (.lst (z.cps.toList.map fun c => V.str ⟨#[c]⟩)) from ⟨?_, acc'.toList, c', ?_, ?_⟩), rfl, q _ (I.hok.fresh (Nat.le_refl _))⟩
  · rw [List.length_map, Array.length_toList]; exact hz
  · refine vals_of_at (by rw [List.length_map, Array.length_toList, Array.length_toList]; exact hi.1.symm) fun j x w h1 h2 => ?_
    obtain ⟨ch, u, hc1, rfl⟩ := hi.2 j w (by rw [← Array.getElem?_toList]; exact h2)
    rw [List.getElem?_map, Array.getElem?_toList, hc1] at h1
    cases h1
    exact ⟨u, rfl⟩
  · rw [Array.toArray_toList]; exact e
theorem reps_chrs {G : Gd} {Z φ : List Addr} {H : Hp} : ∀ cs : List Char, Reps G Z φ H ((cs.map Char.toNat).map fun c => V.str ⟨#[c]⟩) (cs.map fun c => D.str (String.singleton c))
  | [] => .nil
  | c :: cs => by
    refine .cons ?_ (reps_chrs cs)
    have e : Str.ofString (String.singleton c) = ⟨#[c.toNat]⟩ := by
      refine TL.ext_tl ?_
      rw [TL.tl_ofString]
      simp [TL.tl]
    show Rep G Z φ H (V.str ⟨#[c.toNat]⟩) (D.str (String.singleton c))
    rw [← e]
    exact .str _
theorem c_listS (hc : X.calm = true) : CallR X (.type "list") (RND G fun μ ds => primD .listS ds μ) := by
  intro pins s σ H xs us Q I r h
  obtain ⟨Z, φ, μ, ds, d, μ', c, rs, e, q⟩ := h
  cases rs with
  | nil => simp [primD] at e
  | @cons x _ dx _ rx rt =>
    cases rt with
    | cons _ _ => cases dx <;> simp [primD] at e
    | nil =>
      cases dx with
      | str t =>
        simp only [primD, Option.ite_none_right_eq_some, Option.some.injEq, Prod.mk.injEq] at e
        obtain ⟨hl, rfl, rfl⟩ := e
        cases rx
        refine call_list_chrs hc pins s σ H _ us Q I r ⟨_, rfl, by rw [ofString_length, ← sz_eq]; exact hl, fun l hl => ?_⟩
        have := q.newL (m := false) c hl (reps_chrs (G := G) (Z := Z) (φ := φ) (H := H) t.toList)
        have e2 : (Str.ofString t).cps.toList = t.toList.map Char.toNat := TL.tl_ofString t
        rw [e2]
        exact this
      | _ => simp [primD] at e
end
end PY

set_option Elab.async false
set_option linter.all false
set_option maxRecDepth 100000
set_option maxHeartbeats 4000000
/-! PY, part v: repr, sorted. -/
namespace PY
open PySem PySem.Spec PyProof.Rows L2
section
variable {G : Gd} {X : Cx} {Z φ : List Addr} {H : Hp} {μ : Store}
theorem c_repr (hK : G.K = X.K) (hg : X.A.guards = some []) (hu : X.A.units + 190 < cLine) : CallR X (.builtin "repr") (RND G fun μ ds => primD .repr ds μ) := by
  intro pins s σ H xs us Q I r h
  obtain ⟨Z, φ, μ, ds, d, μ', c, rs, e, q⟩ := h
  cases rs with
  | nil => simp [primD] at e
  | @cons x _ dx _ rx rt =>
    cases rt with
    | cons _ _ => simp [primD] at e
    | nil =>
      simp only [primD] at e
      obtain ⟨t, e1, z⟩ := Option.map_eq_some_iff.mp e
      simp only [Prod.mk.injEq] at z
      obtain ⟨rfl, rfl⟩ := z
      unfold reprD at e1
      split at e1
      case isFalse => cases e1
      rename_i hb
      simp only [Bool.and_eq_true, decide_eq_true_eq] at hb
      obtain ⟨⟨⟨p1, p2⟩, p3⟩, p4⟩ := hb
      refine PX.call_repr hg hu pins s σ H _ us Q I r ⟨x, toPy dx, rfl, hK ▸ Rep.dp p1 rx, p2, PyData.hasDict_of_canLay _ (toPy_lay dx), by rw [toPy_depth dx p1]; exact p3, by rw [← sz_eq]; exact p4, ?_⟩
      rw [← strOf_ok e1]
      exact q.now c (.str t)
/-- sorted of at most one item -/
theorem cr_sorted1 : CallR X (.builtin "sorted") (fun vs H Q => ∃ (a : Addr) (xs : List V), vs = [V.ref a] ∧ SqL X.K H a xs ∧ xs.length ≤ 1 ∧ ∀ p, H p = none → Q (.ref p) (upd H p (.lst xs))) := by
  intro pins s σ H vs us Q I r h
  obtain ⟨a, xs, rfl, hs, h1, q⟩ := h
  obtain ⟨its, rv, hl, hz⟩ := I.list hs
  rw [Vals.ref1 r]
  have hlen := rv.length
  refine Srt.sorted_any hl.isList (by rw [← hlen]; omega) (fun h2 => absurd h2 (by rw [← hlen]; omega)) fun out hp => ?_
  have ho : out = its := by
    cases its with
    | nil => exact List.perm_nil.mp hp
    | cons y r =>
      cases r with
      | nil => exact List.perm_singleton.mp hp
      | cons _ _ => simp at hlen; omega
  subst ho
  obtain ⟨ep, he'⟩ := PyProof.Rows.sortedAll_at s.heap out out.toArray
  exact ⟨.ref _, upd H (s.heap.objs.size + 1) (.lst xs), I.laid (t' := s.toks) (fun _ _ => PyProof.Rows.sortedAll_old) (Nat.le_succ _) ⟨by rw [sizeLine_eq]; omega, out, ep, rv, by simpa using he'⟩, rfl, q _ (I.hok.fresh (Nat.le_succ _))⟩
theorem Reps.perm : ∀ {xs ys : List V} {ds : List D}, xs.Perm ys → Reps G Z φ H xs ds → ∃ es, ds.Perm es ∧ Reps G Z φ H ys es
  | _, _, _, .nil, r => ⟨_, .refl _, r⟩
  | _, _, _, .cons x p, .cons r s => by
    obtain ⟨es, h1, h2⟩ := Reps.perm p s
    exact ⟨_, h1.cons _, .cons r h2⟩
  | _, _, _, .swap x y l, .cons r (.cons r' s) => ⟨_, .swap _ _ _, .cons r' (.cons r s)⟩
  | _, _, _, .trans p q, r => by
    obtain ⟨es, h1, h2⟩ := Reps.perm p r
    obtain ⟨fs, h3, h4⟩ := Reps.perm q h2
    exact ⟨fs, h1.trans h3, h4⟩
theorem intsOf_eq : ∀ {ds : List D} {ns : List Int}, intsOf ds = some ns → ds = ns.map .int
  | [], ns, h => by cases h; rfl
  | d :: ds, ns, h => by
    cases d with
    | int i =>
      obtain ⟨r, h1, rfl⟩ := Option.map_eq_some_iff.mp (show (intsOf ds).map (i :: ·) = some ns from h)
      rw [intsOf_eq h1]; rfl
    | _ => cases h
theorem rowOf_eq {d : D} {ns : List Int} (h : rowOf d = some ns) : d = .tup (ns.map .int) := by
  cases d with
  | tup xs => rw [intsOf_eq (show intsOf xs = some ns from h)]
  | _ => cases h
theorem rowsOf_eq : ∀ {ds : List D} {rs : List (List Int)}, rowsOf ds = some rs → ds = rs.map fun r => .tup (r.map .int)
  | [], rs, h => by cases h; rfl
  | d :: ds, rs, h => by
    obtain ⟨a, h1, h2⟩ := Option.bind_eq_some_iff.mp (show (rowOf d).bind _ = some rs from h)
    obtain ⟨r, h3, rfl⟩ := Option.map_eq_some_iff.mp h2
    rw [rowOf_eq h1, rowsOf_eq h3]; rfl
theorem foldl_max_le : ∀ (l : List Int) (a : Int), a ≤ l.foldl max a ∧ ∀ x ∈ l, x ≤ l.foldl max a
  | [], a => ⟨Int.le_refl _, fun _ h => by simp at h⟩
  | x :: l, a => by
    obtain ⟨h1, h2⟩ := foldl_max_le l (max a x)
    simp only [List.foldl_cons]
    refine ⟨by omega, fun y hy => ?_⟩
    rcases List.mem_cons.mp hy with rfl | hy
    · omega
    · exact h2 y hy
theorem bd_maxB {rows : List (List Int)} (h : (rows.all fun r => r.all fun z => decide (0 ≤ z)) = true) {r : List Int} (hr : r ∈ rows) : TS.Bd (maxB rows) r := fun m hm => by
  simp only [List.all_eq_true, decide_eq_true_eq] at h
  refine ⟨h r hr m hm, ?_⟩
  have := (foldl_max_le rows.flatten 0).2 m (List.mem_flatten.mpr ⟨r, hr, hm⟩)
  unfold maxB
  omega
theorem code_inj {B : Int} : ∀ {a b : List Int}, TS.Bd B a → TS.Bd B b → a.length = b.length → TS.code B a = TS.code B b → a = b
  | [], [], _, _, _, _ => rfl
  | [], _ :: _, _, _, h, _ => by cases h
  | _ :: _, [], _, _, h, _ => by cases h
  | x :: a, y :: b, ha, hb, hl, h => by
    have hl' : a.length = b.length := by simpa using hl
    have ta : TS.Bd B a := fun m hm => ha m (List.mem_cons_of_mem _ hm)
    have tb : TS.Bd B b := fun m hm => hb m (List.mem_cons_of_mem _ hm)
    rcases Int.lt_trichotomy x y with q | q | q
    · have := TS.code_lt hl' ta tb q
      omega
    · subst q
      have e : TS.code B a = TS.code B b := by
        have h' : x * B ^ a.length + TS.code B a = x * B ^ b.length + TS.code B b := h
        rw [hl'] at h'
        omega
      rw [code_inj ta tb hl' e]
    · have := TS.code_lt hl'.symm tb ta q
      omega
theorem rows_uniq {rows qs : List (List Int)} (hb : ∀ r ∈ rows, TS.Bd (maxB rows) r) {n : Nat} (hn : ∀ r ∈ rows, r.length = n) (hp : qs.Perm rows) (hs : qs.Pairwise fun a b => TS.code (maxB rows) a ≤ TS.code (maxB rows) b) : qs = sortRows rows := by
  have h2 : (sortRows rows).Perm rows := List.mergeSort_perm _ _
  refine List.Perm.eq_of_pairwise (le := fun a b => TS.code (maxB rows) a ≤ TS.code (maxB rows) b) (fun a b ha hb' h1 h3 => ?_) hs ?_ (hp.trans h2.symm)
  · have ma := hp.mem_iff.mp ha
    have mb := h2.mem_iff.mp hb'
    exact code_inj (hb a ma) (hb b mb) (by rw [hn a ma, hn b mb]) (by omega)
  · have := List.pairwise_mergeSort (le := fun a b => decide (TS.code (maxB rows) a ≤ TS.code (maxB rows) b)) (fun a b c h1 h2 => by
      simp only [decide_eq_true_eq] at h1 h2 ⊢
      omega) (fun a b => by
      simp only [Bool.or_eq_true, decide_eq_true_eq]
      omega) rows
    exact this.imp fun h => by simpa using h
theorem rep_row {v : V} {r : List Int} (h : Rep G Z φ H v (.tup (r.map .int))) : TupI G.K H v r := by
  obtain ⟨a, vs, rfl, hs, rs⟩ := h.of_tup
  refine ⟨a, rfl, ?_⟩
  have : vs = r.map V.int := by
    clear hs h
    induction r generalizing vs with
    | nil => cases rs; rfl
    | cons n r ih =>
      cases rs with
      | cons x s =>
        rw [ih _ s, x.of_int]; rfl
  rw [← this]
  exact hs
theorem reps_rows : ∀ {vs : List V} {rs : List (List Int)}, Reps G Z φ H vs (rs.map fun r => .tup (r.map .int)) → ∀ v ∈ vs, ∃ r ∈ rs, TupI G.K H v r
  | [], _, _, _, h => by simp at h
  | v :: vs, [], r, _, _ => by cases r
  | v :: vs, r :: rs, .cons x s, w, h => by
    rcases List.mem_cons.mp h with rfl | h
    · exact ⟨r, by simp, rep_row x⟩
    · obtain ⟨q, h1, h2⟩ := reps_rows s w h
      exact ⟨q, by simp [h1], h2⟩
theorem pair_rows {R : V → V → Prop} {R' : List Int → List Int → Prop} (hR : ∀ v w a b, R v w → TupI G.K H v a → TupI G.K H w b → R' a b) : ∀ {vs : List V} {rs : List (List Int)}, Reps G Z φ H vs (rs.map fun r => .tup (r.map .int)) → vs.Pairwise R → rs.Pairwise R'
  | [], [], _, _ => .nil
  | _ :: _, [], r, _ => by cases r
  | [], _ :: _, r, _ => by cases r
  | v :: vs, r :: rs, .cons x s, h => by
    obtain ⟨h1, h2⟩ := List.pairwise_cons.mp h
    refine List.pairwise_cons.mpr ⟨fun q hq => ?_, pair_rows hR s h2⟩
    have : ∃ w ∈ vs, TupI G.K H w q := by
      clear h1 h2 h
      induction vs generalizing rs with
      | nil => cases rs with
        | nil => simp at hq
        | cons _ _ => cases s
      | cons w vs ih =>
        cases rs with
        | nil => simp at hq
        | cons q' rs =>
          cases s with
          | cons y s' =>
            rcases List.mem_cons.mp hq with rfl | hq
            · exact ⟨w, by simp, rep_row y⟩
            · obtain ⟨w', h1, h2⟩ := ih _ s' hq
              exact ⟨w', by simp [h1], h2⟩
    obtain ⟨w, hw, hq2⟩ := this
    exact hR v w r q (h1 w hw) (rep_row x) hq2
theorem perm_rows : ∀ {es : List D} {rows : List (List Int)}, (rows.map fun r => D.tup (r.map .int)).Perm es → ∃ qs : List (List Int), es = qs.map (fun r => D.tup (r.map D.int)) ∧ qs.Perm rows := by
  intro es rows h
  have hr : rowsOf (rows.map fun r => D.tup (r.map .int)) = some rows := by
    clear h
    have hi : ∀ r : List Int, intsOf (r.map .int) = some r := fun r => by
      induction r with
      | nil => rfl
      | cons n r ih => simp [intsOf, ih]
    induction rows with
    | nil => rfl
    | cons r rs ih => simp [rowsOf, rowOf, hi, ih]
  have key : ∀ {ds es : List D}, ds.Perm es → ∀ {rows}, rowsOf ds = some rows → ∃ qs, rowsOf es = some qs ∧ qs.Perm rows := by
    intro ds es hp
    induction hp with
    | nil => intro rows h; exact ⟨rows, h, .refl _⟩
    | cons x p ih =>
      intro rows h
      obtain ⟨a, h1, h2⟩ := Option.bind_eq_some_iff.mp (show (rowOf _).bind _ = some rows from h)
      obtain ⟨r, h3, rfl⟩ := Option.map_eq_some_iff.mp h2
      obtain ⟨qs, h4, h5⟩ := ih h3
      exact ⟨a :: qs, by simp [rowsOf, h1, h4], h5.cons _⟩
    | swap x y l =>
      intro rows h
      obtain ⟨a, h1, h2⟩ := Option.bind_eq_some_iff.mp (show (rowOf _).bind _ = some rows from h)
      obtain ⟨r, h3, rfl⟩ := Option.map_eq_some_iff.mp h2
      obtain ⟨b, h4, h5⟩ := Option.bind_eq_some_iff.mp (show (rowOf _).bind _ = some r from h3)
      obtain ⟨r', h6, rfl⟩ := Option.map_eq_some_iff.mp h5
      exact ⟨b :: a :: r', by simp [rowsOf, h1, h4, h6], .swap _ _ _⟩
    | trans p q ih1 ih2 =>
      intro rows h
      obtain ⟨q1, h1, h2⟩ := ih1 h
      obtain ⟨q2, h3, h4⟩ := ih2 h1
      exact ⟨q2, h3, h4.trans h2⟩
  obtain ⟨qs, h1, h2⟩ := key h hr
  exact ⟨qs, rowsOf_eq h1, h2⟩
theorem c_sorted (hK : G.K = X.K) : CallR X (.builtin "sorted") (RND G fun μ ds => primD .sorted ds μ) := by
  intro pins s σ H xs us Q I r h
  obtain ⟨Z, φ, μ, ds, d, μ', c, rs, e, q⟩ := h
  cases rs with
  | nil => simp [primD] at e
  | @cons x _ dx _ rx rt =>
    cases rt with
    | cons _ _ => simp [primD] at e
    | nil =>
      simp only [primD] at e
      obtain ⟨zs, e1, z⟩ := Option.map_eq_some_iff.mp e
      simp only [Prod.mk.injEq] at z
      obtain ⟨rfl, rfl⟩ := z
      obtain ⟨ys, e2, e3⟩ := Option.bind_eq_some_iff.mp e1
      obtain ⟨a, vs, rfl, h1, r1⟩ := rx.list c e2
      have h1 : SqL X.K H a vs := .inl h1
      unfold sortD at e3
      split at e3
      · rename_i h2
        cases e3
        exact cr_sorted1 pins s σ H _ us Q I r ⟨a, vs, rfl, h1, by rw [r1.length]; exact h2, fun p hp => q.lst c hp r1⟩
      · obtain ⟨rows, e4, e5⟩ := Option.bind_eq_some_iff.mp e3
        simp only [Option.ite_none_right_eq_some, Option.some.injEq, Bool.and_eq_true, decide_eq_true_eq] at e5
        obtain ⟨⟨⟨k1, k2⟩, k3⟩, rfl⟩ := e5
        have hy := rowsOf_eq e4
        subst hy
        have hn : ∃ n, 1 ≤ n ∧ ∀ r ∈ rows, r.length = n := by
          cases rows with
          | nil => exact ⟨1, Nat.le_refl _, fun _ h => by simp at h⟩
          | cons r0 rs =>
            simp only [evenRows, Bool.and_eq_true, decide_eq_true_eq, List.all_eq_true] at k2
            exact ⟨r0.length, k2.1, fun r hr => by
              rcases List.mem_cons.mp hr with rfl | hr
              · rfl
              · exact k2.2 r hr⟩
        obtain ⟨n, n1, n2⟩ := hn
        have bd : ∀ r ∈ rows, TS.Bd (maxB rows) r := fun r hr => bd_maxB k3 hr
        refine cr_sortT (d := n) (B := maxB rows) n1 pins s σ H _ us Q I r ⟨a, vs, rfl, h1, by rw [r1.length, List.length_map]; exact k1, fun x hx => ?_, fun ys p hp hpw hpn => ?_⟩
        · obtain ⟨r, hr, hti⟩ := reps_rows r1 x hx
          exact ⟨r, hK ▸ hti, n2 r hr, bd r hr⟩
        · obtain ⟨es, hes, res⟩ := r1.perm hp.symm
          obtain ⟨qs, rfl, hq⟩ := perm_rows hes
          have hpw2 : qs.Pairwise fun a b => TS.code (maxB rows) a ≤ TS.code (maxB rows) b := pair_rows (fun v w a b h ha hb => h a b (hK ▸ ha) (hK ▸ hb)) res hpw
          rw [rows_uniq bd n2 hq hpw2] at res
          exact q.lst c hpn res
end
end PY

set_option Elab.async false
set_option linter.all false
set_option maxRecDepth 100000
set_option maxHeartbeats 4000000
/-! PY, part e: the small language against the model's syntax; what is known where code runs. -/
namespace PY
open PySem PySem.Spec PyProof.Rows L2

/-! ### what is known of the names -/
structure Cxt where
  N : List Str
  vis : List Str
  loc : List Str
  lcl : List Str
  cap : List Str
  gl : List Str
  deep : Bool := false
structure FunE where
  id : Nat
  name : Str
  n : Nat
  nd : Nat
structure ExcE where
  c : Nat
  name : Str
  n : Nat
structure PCtx where
  funs : List FunE
  con : List Str
  blt : List Str
  exc : List ExcE := []
  hnd : List FunE := []
  /-- the table of code objects of the running def -/
  lam : Option Nat := none
  room : Nat := 0
def kindsOf (sc : Scope) (p : NameKind → Bool) : List Str := (sc.names.filter fun y => p y.2).map (·.1)
def isVis : NameKind → Bool
  | .local | .cell | .free => true
  | _ => false
def isOwn : NameKind → Bool
  | .local | .cell => true
  | _ => false
def isLcl : NameKind → Bool
  | .local => true
  | _ => false
def isCap : NameKind → Bool
  | .cell | .free => true
  | _ => false
def isGl : NameKind → Bool
  | .globalImplicit => true
  | _ => false
def cxtOf (N : List Str) (sc : Scope) : Cxt := ⟨N, kindsOf sc isVis, kindsOf sc isOwn, kindsOf sc isLcl, kindsOf sc isCap, kindsOf sc isGl, false⟩
/-- within a comprehension, a lambda -/
def cxtIn (N : List Str) (sc : Scope) : Cxt := ⟨N, kindsOf sc isVis, kindsOf sc isOwn, kindsOf sc isLcl, kindsOf sc isCap, kindsOf sc isGl, true⟩
/-- each name once -/
def uniqB (sc : Scope) : Bool := sc.names.all fun y => decide (sc.names.lookup y.1 = some y.2)
def noSpec (x : Str) : Bool := (x != ("__debug__" : Str)) && (x != ("__classdict__" : Str))
def isB (P : PCtx) (Γ : Cxt) (x : Str) : Bool := P.blt.contains x && Γ.gl.contains x
/-- o is no super() -/
def noSuper : Expr → Bool
  | .Call (.Name _ _) [] [] _ => false
  | _ => true
def lineOk (a c : Pos) : Bool := a.endLine == c.line
def opEq (a b : Operator) : Bool := decide (a = b)
def cmEq (a b : CmpOp) : Bool := decide (a = b)
def noSet : Expr → Bool
  | .Set .. => false
  | _ => true
def tyOf : String → Option Ty
  | "int" => some .int | "bool" => some .bool | "str" => some .str | "tuple" => some .tuple | "list" => some .list | "dict" => some .dict
  | _ => none
def tyNm (P : PCtx) (Γ : Cxt) (t : Ty) : Expr → Bool
  | .Name x _ => decide (x = Str.ofString (tyName t)) && isB P Γ x
  | _ => false
def tyNms (P : PCtx) (Γ : Cxt) : List Ty → List Expr → Bool
  | [], [] => true
  | t :: ts, e :: es => tyNm P Γ t e && tyNms P Γ ts es
  | _, _ => false
def lenNot0 : Exs → Bool
  | .nil => false
  | _ => true
def chkTg (Γ : Cxt) : Tg → Expr → Bool
  | .name i, .Name x _ => decide (Γ.N[i]? = some x) && Γ.loc.contains x
  | .tup ts, .Tuple es _ _ => chkTgs ts es
  | _, _ => false
where chkTgs : List Tg → List Expr → Bool
  | [], [] => true
  | t :: ts, e :: es => chkTg Γ t e && chkTgs ts es
  | _, _ => false
def ownOk (Γ : Cxt) (scope : Scope) (own : List Nat) : Bool :=
  (match scope.kind with | .function => true | _ => false) && uniqB scope &&
    (scope.names.all fun y => match y.2 with
      | .free => Γ.cap.contains y.1
      | .local | .cell => (own.any fun i => decide (Γ.N[i]? = some y.1)) || !Γ.N.contains y.1
      | _ => true) && own.all fun i => (Γ.N[i]?).isSome
mutual
def tgN : Tg → List Nat
  | .name i => [i]
  | .tup ts => tgNs ts
def tgNs : List Tg → List Nat
  | [] => []
  | t :: ts => tgN t ++ tgNs ts
end
def inter : List (Option Expr) → List Expr → Option (List Expr)
  | [], [] => some []
  | some k :: ks, v :: vs => (inter ks vs).map fun r => k :: v :: r
  | _, _ => none
section
variable (P : PCtx)
/-- the parts of a piece of syntax that is to be f of them -/
def argsOf (Γ : Cxt) : Prim → Expr → Option (List Expr)
  | .tup, .Tuple xs _ _ => some xs
  | .lst _, .List xs _ => some xs
  | .dct t, .Dict ks vs _ => if (if ks.isEmpty then vs.isEmpty else !t && decide (ks.length ≤ 15)) = true then inter ks vs else none
  | .bin o, .BinOp a o' b _ => if opEq o' (opOf o) = true then some [a, b] else none
  | .neg, .UnaryOp .USub a _ => some [a]
  | .cm c, .Compare a [o] [b] _ => if (cmEq o (cmOf c) && noSet b) = true then some [a, b] else none
  | .isN, .Compare a [.Is] [.Constant .none _ _] _ => some [a]
  | .notN, .Compare a [.IsNot] [.Constant .none _ _] _ => some [a]
  | .sl false false, .Subscript a (.Slice none none none _) _ => some [a]
  | .sl true false, .Subscript a (.Slice (some l) none none _) _ => some [a, l]
  | .sl false true, .Subscript a (.Slice none (some h) none _) _ => some [a, h]
  | .ix, .Subscript a b _ => some [a, b]
  | .len, .Call (.Name x _) [a] [] _ => if (decide (x = ("len" : Str)) && isB P Γ x) = true then some [a] else none
  | .lenset, .Call (.Name x _) [.Call (.Name y _) [a] [] _] [] _ => if (decide (x = ("len" : Str)) && isB P Γ x && decide (y = ("set" : Str)) && isB P Γ y) = true then some [a] else none
  | .all, .Call (.Name x _) [a] [] _ => if (decide (x = ("all" : Str)) && isB P Γ x) = true then some [a] else none
  | .any, .Call (.Name x _) [a] [] _ => if (decide (x = ("any" : Str)) && isB P Γ x) = true then some [a] else none
  | .int1, .Call (.Name x _) [a] [] _ => if (decide (x = ("int" : Str)) && isB P Γ x) = true then some [a] else none
  | .tuple1, .Call (.Name x _) [a] [] _ => if (decide (x = ("tuple" : Str)) && isB P Γ x) = true then some [a] else none
  | .list1 _, .Call (.Name x _) [a] [] _ => if (decide (x = ("list" : Str)) && isB P Γ x) = true then some [a] else none
  | .repr, .Call (.Name x _) [a] [] _ => if (decide (x = ("repr" : Str)) && isB P Γ x && P.lam.isSome && !Γ.deep) = true then some [a] else none
  | .sortset, .Call (.Name x _) [.Call (.Name y _) [a] [] _] [] _ => if (decide (x = ("sorted" : Str)) && isB P Γ x && decide (y = ("set" : Str)) && isB P Γ y) = true then some [a] else none
  | .sortdict, .Call (.Name x _) [a] [] _ => if (decide (x = ("sorted" : Str)) && isB P Γ x) = true then some [a] else none
  | .str1, .Call (.Name x _) [a] [] _ => if (decide (x = ("str" : Str)) && isB P Γ x) = true then some [a] else none
  | .listS, .Call (.Name x _) [a] [] _ => if (decide (x = ("list" : Str)) && isB P Γ x) = true then some [a] else none
  | .sorted, .Call (.Name x _) [a] [] _ => if (decide (x = ("sorted" : Str)) && isB P Γ x) = true then some [a] else none
  | .isi ts, .Call (.Name x _) [a, .Tuple us _ _] [] _ => if (decide (x = ("isinstance" : Str)) && isB P Γ x && tyNms P Γ ts us && decide (ts.length ≤ 100)) = true then some [a] else none
  | .isi [t], .Call (.Name x _) [a, .Name u p] [] _ => if (decide (x = ("isinstance" : Str)) && isB P Γ x && tyNm P Γ t (.Name u p)) = true then some [a] else none
  | _, _ => none
/-- a lambda without parameters: captured names and globals -/
def noPar : Arguments → Bool
  | ⟨[], [], none, [], [], none, []⟩ => true
  | _ => false
def lamOk (Γ : Cxt) (params : Arguments) (scope : Scope) : Bool := noPar params && (match scope.kind with | .function => true | _ => false) && !scope.isCoroutine && !scope.isGenerator && uniqB scope && scope.names.all fun y => match y.2 with
  | .free => Γ.cap.contains y.1
  | .local | .cell => false
  | _ => true
/-- the name of a method -/
def methNm : Prim → Option String
  | .append => some "append" | .extend => some "extend" | .pop => some "pop" | .split => some "split" | .join => some "join"
  | _ => none
def methIs (f : Prim) (m : Str) : Bool := match methNm f with
  | some n => decide (m = Str.ofString n)
  | none => false
mutual
def chkE : Cxt → Ex → Expr → Bool
  | Γ, .var i, y => match y with
    | .Name x _ => decide (Γ.N[i]? = some x) && Γ.vis.contains x && noSpec x
    | _ => false
  | _, .con c, y => match y with
    | .Constant c' _ _ => decide (c = c') && (conD c).isSome
    | _ => false
  | _, .str s, y => match y with
    | .Constant (.str s') _ _ => decide (Str.ofString s = s')
    | _ => false
  | Γ, .glo j, y => match y with
    | .Name x _ => decide (P.con[j]? = some x) && Γ.gl.contains x && noSpec x
    | _ => false
  | Γ, .prim f es, y => match argsOf P Γ f y with
    | some xs => chkEs Γ es xs
    | none => false
  | Γ, .and_ es, y => match y with
    | .BoolOp .And vs _ => chkEs Γ es vs && lenNot0 es
    | _ => false
  | Γ, .or_ es, y => match y with
    | .BoolOp .Or vs _ => chkEs Γ es vs && lenNot0 es
    | _ => false
  | Γ, .not_ a, y => match y with
    | .UnaryOp .Not x _ => chkE Γ a x
    | _ => false
  | Γ, .ife c a b, y => match y with
    | .IfExp x y z _ => chkE Γ c x && chkE Γ a y && chkE Γ b z
    | _ => false
  | Γ, .chain f g a b c, y => match y with
    | .Compare x [o1, o2] [y, z] _ => cmEq o1 (cmOf f) && cmEq o2 (cmOf g) && noSet z && chkE Γ a x && chkE Γ b y && chkE Γ c z
    | _ => false
  | Γ, .sl3 a l h, y => match y with
    | .Subscript x (.Slice (some y) (some z) none _) _ => chkE Γ a x && chkE Γ l y && chkE Γ h z
    | _ => false
  | Γ, .meth f o es, y => match y with
    | .Call (.Attribute o' m ap) as [] cp => methIs f m && noSuper o' && lineOk ap cp && decide (as.length < 20) && chkE Γ o o' && chkEs Γ es as
    | _ => false
  | Γ, .call f es k, y => match y with
    | .Call (.Name x _) as [] _ => (P.funs.any fun d => d.id == f && decide (d.name = x) && decide (exsLen es + (d.nd - k) = d.n) && decide (k ≤ d.nd))
      && Γ.gl.contains x && noSpec x && chkEs Γ es as
    | _ => false
  | Γ, .comp _ elt tg it cond own, y => match y with
    | .ListComp elt' [⟨tg', iter, ifs, 0⟩] scope _ =>
      chkI Γ it iter tg' && noSet iter && ownOk Γ scope own && chkTg (cxtIn Γ.N scope) tg tg' && ((tgN tg).all fun i => own.contains i) && chkC (cxtIn Γ.N scope) cond ifs && chkE (cxtIn Γ.N scope) elt elt'
    | _ => false
  | Γ, .catch h i e, y => match y with
    | .Call (.Name x _) [.Lambda params body scope _] [] _ => !Γ.deep && decide (P.lam = some i) && (P.hnd.any fun d => d.id == h && decide (d.name = x)) && Γ.gl.contains x && noSpec x && lamOk Γ params scope && chkE (cxtIn Γ.N scope) e body
    | _ => false
termination_by structural _ e => e
def chkEs : Cxt → Exs → List Expr → Bool
  | _, .nil, ys => ys.isEmpty
  | Γ, .cons e es, ys => match ys with
    | x :: xs => chkE Γ e x && chkEs Γ es xs
    | [] => false
termination_by structural _ e => e
def chkC : Cxt → Exs → List Expr → Bool
  | _, .nil, ys => ys.isEmpty
  | Γ, .cons e es, ys => match es, ys with
    | .nil, [x] => chkE Γ e x
    | _, _ => false
termination_by structural _ e => e
def chkI : Cxt → Itx → Expr → Expr → Bool
  | Γ, .val e, x, _ => chkE Γ e x
  | Γ, .rng es, y, _ => match y with
    | .Call (.Name x _) as [] _ => decide (x = ("range" : Str)) && isB P Γ x && (as.length == 1 || as.length == 2 || as.length == 3) && chkEs Γ es as
    | _ => false
  | Γ, .enum e, y, t => match y, t with
    | .Call (.Name x _) [a] [] _, .Tuple .. => decide (x = ("enumerate" : Str)) && isB P Γ x && chkE Γ e a
    | _, _ => false
  | Γ, .zip e f, y, t => match y, t with
    | .Call (.Name x _) [a, b] [] _, .Tuple .. => decide (x = ("zip" : Str)) && isB P Γ x && chkE Γ e a && chkE Γ f b
    | _, _ => false
termination_by structural _ e => e
end
end

/-! ### exceptions -/
/-- a slot-wise wish about exceptions: WX -/
def XRep (G : Gd) (Z φ : List Addr) (H : Hp) (cls : Value) (dd : Option Addr) (x : XD) : Prop :=
  cls = .ref (G.cA x.c) ∧ ∃ d vs, dd = some d ∧ H d = some (.xd ((G.cF x.c).zip vs).reverse) ∧ (G.cF x.c).length = vs.length ∧ Reps G Z φ H vs x.args
def Lk (G : Gd) (Z : List Addr) (W : WX) (E : XD → Store → Prop) (σ : L2.St) (φ : List Addr) (H : Hp) : Prop :=
  ∀ x μ', E x μ' → ∀ cls dd φ' H', XRep G Z φ' H' cls dd x → CRel G Z φ' H' μ' → Grow φ H φ' H' → W cls dd σ H'
theorem Lk.grow {G : Gd} {Z φ φ1 : List Addr} {H H1 : Hp} {W : WX} {E : XD → Store → Prop} {σ : L2.St} (l : Lk G Z W E σ φ H) (g : Grow φ H φ1 H1) : Lk G Z W E σ φ1 H1 :=
  fun x μ' e cls dd φ' H' xr c g' => l x μ' e cls dd φ' H' xr c (g.trans g')

/-! ### what is known where code runs -/
/-- a def's promise by S -/
def SpOf (G : Gd) (f : List D → Store → (D → Store → Prop) → (XD → Store → Prop) → Prop) (n : Nat) : Sp := fun vs H Q E => vs.length = n ∧
  ∃ Z φ μ ds Qd Ed, Reps G Z φ H vs ds ∧ CRel G Z φ H μ ∧ f ds μ Qd Ed ∧ (∀ d μ', Qd d μ' → Done G Z φ H d μ' Q) ∧
    ∀ x μ', Ed x μ' → ∀ cls dd φ' H', XRep G Z φ' H' cls dd x → CRel G Z φ' H' μ' → Grow φ H φ' H' → E cls dd H'
structure FunOk (G : Gd) (S : Sg) (X : Cx) (d : FunE) : Prop where
  len : ∀ ds μ Q E, S.call d.id ds μ Q E → ds.length = d.n
  ex : ∃ f fd ps ds dvs k, X.mg d.name = some (.ref f) ∧ PySem.W.keepIn X.K (.ref f) = true ∧ Room k X.A ∧ FnOk X.prog X.w X.K X.mg X.base (L2.CX X.prog X.w) k f fd ps (SpOf G (S.call d.id) d.n) ∧
    Vals dvs ds ∧ (∀ Z φ H, Reps G Z φ H dvs (S.dfl d.id)) ∧ ∀ m, m ≤ d.nd → Binds X.K fd ps (ds.drop m)
/-- an own exception class that can be made here -/
structure ExcOk (G : Gd) (X : Cx) (e : ExcE) : Prop where
  ex : ∃ f fd ps k, X.mg e.name = some (.ref (G.cA e.c)) ∧ OexC X.K (G.cA e.c) ∧ PySem.W.findIn X.K (.ref (G.cA e.c)) "__init__" = some (some (.ref f)) ∧ PySem.W.typeIn X.K (.ref f) = some (.type "function") ∧
    FnOk X.prog X.w X.K X.mg X.base C8.CX0 k f fd ps (PX.spI (G.cA e.c) (G.cF e.c)) ∧ Room (k + 1) X.A ∧ Binds X.K fd ps [] ∧ (G.cF e.c).length = e.n
/-- a def at a level -/
structure FunAt (G : Gd) (S : Sg) (X : Cx) (k : Nat) (d : FunE) : Prop where
  len : ∀ ds μ Q E, S.call d.id ds μ Q E → ds.length = d.n
  ex : ∃ f fd ps ds dvs, X.mg d.name = some (.ref f) ∧ PySem.W.keepIn X.K (.ref f) = true ∧ FnOk X.prog X.w X.K X.mg X.base (L2.CX X.prog X.w) k f fd ps (SpOf G (S.call d.id) d.n) ∧
    Vals dvs ds ∧ (∀ Z φ H, Reps G Z φ H dvs (S.dfl d.id)) ∧ ∀ m, m ≤ d.nd → Binds X.K fd ps (ds.drop m)
/-- what a def that calls what it gets makes of it -/
def TTh (G : Gd) (hd : String × (XD → Option D)) : (XK → Hp → VK → Prop) → Hp → VK → Prop := fun tl H Q =>
  tl (fun cls dd H' => ∃ Z φ' μ' x d, XRep G Z φ' H' cls dd x ∧ CRel G Z φ' H' μ' ∧ hd.2 x = some d ∧ Done G Z φ' H' d μ' Q) H fun v H' => [V.str (Str.ofString hd.1), v].length ≤ sizeLine ∧ ∀ p, H' p = none → Q (.ref p) (upd H' p (.tup [.str (Str.ofString hd.1), v]))
structure HndOk (G : Gd) (S : Sg) (X : Cx) (d : FunE) : Prop where
  ex : ∃ g pg bg sg dV kV doc pm cdv ct oc an od osl Ng a, X.mg d.name = some (.ref g) ∧ PySem.W.keepIn X.K (.ref g) = true ∧ X.K.lookup g = some ⟨oc, od, .func (PySem.W.fnOf d.name d.name pg bg sg dV kV doc pm an cdv ct), osl⟩ ∧ PySem.W.codeIn X.K cdv d.name = true ∧
    L2.Binds X.K (PySem.W.fnOf d.name d.name pg bg sg dV kV doc pm an cdv ct) [a] [] ∧ FnScope Ng [a] sg ∧ Ng[0]? = some a ∧ Vis sg a ∧ noSpec a = true ∧ LamX.GivesTo X Ng d.name sg g cdv bg a (X.env.qual ++ "<lambda>") (TTh G (S.hnd d.id))
structure LamOk (P : PCtx) (G : Gd) (S : Sg) (X : Cx) (i : Nat) : Prop where
  code : ∃ c, X.env.code = .ref c ∧ LamX.TabB X.base X.mg c (G.tA i)
  name : G.tq i = X.env.qual ++ "<lambda>"
  fn : ∃ k, 1 ≤ k ∧ Room (k + 2) X.A ∧ ∀ d ∈ P.funs, FunAt G S X k d
  hnd : ∀ d ∈ P.hnd, HndOk G S X d
  grd : X.A.guards = some []
  un : X.A.units + 200 < cLine
structure XOk (P : PCtx) (G : Gd) (S : Sg) (Γ : Cxt) (X : Cx) (W : WX) : Prop where
  hK : G.K = X.K
  N : X.N = Γ.N
  nd : X.N.Nodup
  vis : ∀ x ∈ Γ.vis, Vis X.env.scope x
  loc : ∀ x ∈ Γ.loc, Loc X.env.scope x ∧ (X.fn x = true ∨ X.env.scope.names.lookup x = some .local)
  lcl : ∀ x ∈ Γ.lcl, X.env.scope.names.lookup x = some .local
  cap : ∀ x ∈ Γ.cap, X.env.scope.names.lookup x = some .cell ∨ X.env.scope.names.lookup x = some .free
  gl : ∀ x ∈ Γ.gl, Gl X x
  kind : X.env.scope.kind = .function
  calm : X.calm = true
  room : Room 1 X.A
  tk : Takes X W
  pass : PassesOwn (model X.prog X.w) X.A X.env X.xe
  blt : ∀ x ∈ P.blt, X.mg x = none
  con : ∀ (j : Nat) x, P.con[j]? = some x → ∃ u v, X.mg x = some u ∧ RelV v u ∧ ∀ Z φ H, Rep G Z φ H v (S.con j)
  fn : ∀ d ∈ P.funs, FunOk G S X d
  exc : Γ.deep = false → ∀ e ∈ P.exc, ExcOk G X e
  lam : Γ.deep = false → ∀ i, P.lam = some i → LamOk P G S X i

theorem kindsOf_mem {sc : Scope} {p : NameKind → Bool} {x : Str} (h : x ∈ kindsOf sc p) : ∃ k, (x, k) ∈ sc.names ∧ p k = true := by
  unfold kindsOf at h
  obtain ⟨y, hy, rfl⟩ := List.mem_map.mp h
  obtain ⟨h1, h2⟩ := List.mem_filter.mp hy
  exact ⟨y.2, h1, h2⟩
theorem uniq_of {sc : Scope} (h : uniqB sc = true) {x : Str} {k : NameKind} (hm : (x, k) ∈ sc.names) : sc.names.lookup x = some k := by
  have := List.all_eq_true.mp h (x, k) hm
  exact of_decide_eq_true this
/-- a name's kind in a comprehension's block -/
theorem lookup_relabel {env : Env} : ∀ {names : List (Str × NameKind)} {x : Str} {k : NameKind}, names.lookup x = some k →
    (names.map fun (n, k) => if (k == NameKind.free && env.scope.kind == .function && env.kindOf n == some .cell) then (n, NameKind.cell) else (n, k)).lookup x = some k ∨
    (k = .free ∧ (names.map fun (n, k) => if (k == NameKind.free && env.scope.kind == .function && env.kindOf n == some .cell) then (n, NameKind.cell) else (n, k)).lookup x = some .cell)
  | [], _, _, h => by simp at h
  | (n, k₀) :: r, x, k, h => by
    have ih := @lookup_relabel env r x k
    cases hx : x == n with
    | true =>
      simp only [List.lookup_cons, hx] at h
      obtain rfl := Option.some.inj h
      simp only [List.map_cons]
      by_cases hc : (k₀ == NameKind.free && env.scope.kind == .function && env.kindOf n == some .cell) = true
      · right
        simp only [Bool.and_eq_true, beq_iff_eq] at hc
        refine ⟨hc.1.1, ?_⟩
        rw [if_pos (by simp [hc.1.1, hc.1.2, hc.2])]
        simp only [List.lookup_cons, hx]
      · left
        rw [if_neg hc]
        simp only [List.lookup_cons, hx]
    | false =>
      simp only [List.lookup_cons, hx] at h
      have ih := ih h
      simp only [List.map_cons]
      by_cases hc : (k₀ == NameKind.free && env.scope.kind == .function && env.kindOf n == some .cell) = true
      · rw [if_pos hc]; simp only [List.lookup_cons, hx]; exact ih
      · rw [if_neg hc]; simp only [List.lookup_cons, hx]; exact ih
section
variable {P : PCtx} {G : Gd} {S : Sg} {Γ : Cxt} {X : Cx} {W : WX}
theorem ownOk_and {scope : Scope} {own : List Nat} (h : ownOk Γ scope own = true) : scope.kind = .function ∧ uniqB scope = true ∧
    (∀ y ∈ scope.names, y.2 = .free → y.1 ∈ Γ.cap) ∧ (∀ y ∈ scope.names, y.2 = .local ∨ y.2 = .cell → (∃ i ∈ own, Γ.N[i]? = some y.1) ∨ y.1 ∉ Γ.N) ∧ ∀ i ∈ own, (Γ.N[i]?).isSome = true := by
  unfold ownOk at h
  simp only [Bool.and_eq_true, List.all_eq_true] at h
  obtain ⟨⟨⟨h1, h2⟩, h3⟩, h4⟩ := h
  refine ⟨?_, h2, fun y hy e => ?_, fun y hy e => ?_, h4⟩
  · split at h1
    · assumption
    · cases h1
  · have q := h3 y hy
    rw [e] at q
    exact List.contains_iff_mem.mp q
  · have q := h3 y hy
    rcases e with e | e <;>
    · rw [e] at q
      simp only [Bool.or_eq_true, List.any_eq_true, decide_eq_true_eq, Bool.not_eq_true', List.contains_eq_mem, decide_eq_false_iff_not] at q
      exact q
/-- .. as the layer's own word -/
theorem ownOk_blk {scope : Scope} {own : List Nat} (h : ownOk Γ scope own = true) (x : XOk P G S Γ X W) :
    ∃ ow : List (Str × Nat), ow.map (·.2) = own ∧ BlkOk X.N X.env.scope scope ow := by
  obtain ⟨h1, h2, h3, h4, h5⟩ := ownOk_and h
  refine ⟨own.map fun i => ((Γ.N[i]?).getD default, i), by simp [Function.comp_def], ⟨h1, fun y hy => ?_, fun p hp => ?_, fun y hy e => ?_, fun y hy e => ?_⟩⟩
  · exact uniq_of h2 hy
  · obtain ⟨i, hi, rfl⟩ := List.mem_map.mp hp
    rw [x.N]
    obtain ⟨n, hn⟩ := Option.isSome_iff_exists.mp (h5 i hi)
    simp [hn]
  · exact x.cap _ (h3 y hy e)
  · rcases h4 y hy e with ⟨i, hi, hn⟩ | hn
    · left
      exact List.mem_map.mpr ⟨(y.1, i), List.mem_map.mpr ⟨i, hi, by rw [hn]; rfl⟩, rfl⟩
    · right
      rw [x.N]; exact hn
theorem XOk.blk {scope : Scope} {own : List Nat} (x : XOk P G S Γ X W) (h : ownOk Γ scope own = true) (s : Shared) (H : Hp) (C : Addr) (cl : List (Str × Addr)) (fp : List Addr) :
    XOk P G S (cxtIn Γ.N scope) (X.blk s H scope (compEnvC scope cl C X.env) fp) (fun _ _ _ _ => False) := by
  obtain ⟨h1, h2, h3, h4, h5⟩ := ownOk_and h
  have lk : ∀ {n : Str} {k : NameKind}, (n, k) ∈ scope.names → (relabel scope X.env).names.lookup n = some k ∨ (k = .free ∧ (relabel scope X.env).names.lookup n = some .cell) := fun {n k} hm =>
    lookup_relabel (uniq_of h2 hm)
  refine ⟨x.hK, x.N, x.nd, fun n hn => ?_, fun n hn => ?_, fun n hn => ?_, fun n hn => ?_, fun n hn => ?_, h1, x.calm, x.room, takes0, PassesOwn.never, x.blt, x.con, fun d hd => ⟨(x.fn d hd).len, (x.fn d hd).ex⟩, (fun z => by cases z), (fun z => by cases z)⟩
  · obtain ⟨k, hm, hk⟩ := kindsOf_mem hn
    show Vis (relabel scope X.env) n
    rcases lk hm with e | ⟨_, e⟩
    · cases k with
      | «local» => exact .inl e
      | cell => exact .inr (.inl e)
      | free => exact .inr (.inr e)
      | globalExplicit => cases hk
      | globalImplicit => cases hk
    · exact .inr (.inl e)
  · obtain ⟨k, hm, hk⟩ := kindsOf_mem hn
    show Loc (relabel scope X.env) n ∧ ((scope.names.lookup n == some NameKind.cell) = true ∨ (relabel scope X.env).names.lookup n = some .local)
    rcases lk hm with e | ⟨z, _⟩
    · cases k with
      | «local» => exact ⟨.inl e, .inr e⟩
      | cell => exact ⟨.inr e, .inl (by rw [uniq_of h2 hm]; rfl)⟩
      | free => cases hk
      | globalExplicit => cases hk
      | globalImplicit => cases hk
    · subst z; cases hk
  · obtain ⟨k, hm, hk⟩ := kindsOf_mem hn
    show (relabel scope X.env).names.lookup n = some .local
    rcases lk hm with e | ⟨z, _⟩
    · cases k <;> first | exact e | cases hk
    · subst z; cases hk
  · obtain ⟨k, hm, hk⟩ := kindsOf_mem hn
    show (relabel scope X.env).names.lookup n = some .cell ∨ (relabel scope X.env).names.lookup n = some .free
    rcases lk hm with e | ⟨_, e⟩
    · cases k with
      | cell => exact .inl e
      | free => exact .inr e
      | «local» => cases hk
      | globalExplicit => cases hk
      | globalImplicit => cases hk
    · exact .inl e
  · obtain ⟨k, hm, hk⟩ := kindsOf_mem hn
    show (relabel scope X.env).names.lookup n = some .globalImplicit
    rcases lk hm with e | ⟨z, _⟩
    · cases k <;> first | exact e | cases hk
    · subst z; cases hk
end
end PY

set_option Elab.async false
set_option linter.all false
set_option maxRecDepth 100000
set_option maxHeartbeats 4000000
/-! PY, part f: readings of the layer from the meaning over D; expressions. -/
namespace PY
open PySem PySem.Spec PyProof.Rows L2

/-! ### readings -/
/-- where an expression begins -/
structure At (G : Gd) (Z : List Addr) (W : WX) (E : XD → Store → Prop) (σ : L2.St) (φ : List Addr) (H : Hp) (ρ : Sl) (μ : Store) : Prop where
  er : ERel G Z φ H σ ρ
  cr : CRel G Z φ H μ
  lk : Lk G Z W E σ φ H
theorem At.step {G : Gd} {Z φ φ1 : List Addr} {W : WX} {E : XD → Store → Prop} {σ : L2.St} {H H1 : Hp} {ρ : Sl} {μ μ1 : Store} (a : At G Z W E σ φ H ρ μ) (c : CRel G Z φ1 H1 μ1) (g : Grow φ H φ1 H1) : At G Z W E σ φ1 H1 ρ μ1 :=
  ⟨a.er.grow g, c, a.lk.grow g⟩
def RE (G : Gd) (W : WX) (wp : (XD → Store → Prop) → Sl → Store → (D → Store → Prop) → Prop) : TE := fun σ H Q => ∃ Z φ ρ μ E Qd, At G Z W E σ φ H ρ μ ∧ wp E ρ μ Qd ∧ ∀ d μ', Qd d μ' → Done G Z φ H d μ' Q
def RT (G : Gd) (W : WX) (wp : (XD → Store → Prop) → Sl → Store → (Bool → Store → Prop) → Prop) : TT := fun σ H Q => ∃ Z φ ρ μ E Qd, At G Z W E σ φ H ρ μ ∧ wp E ρ μ Qd ∧ ∀ b μ', Qd b μ' → ∀ φ' H', CRel G Z φ' H' μ' → Grow φ H φ' H' → Q b H'
def RA (G : Gd) (W : WX) (wp : (XD → Store → Prop) → Sl → Store → (List D → Store → Prop) → Prop) : TA := fun σ H Q => ∃ Z φ ρ μ E Qd, At G Z W E σ φ H ρ μ ∧ wp E ρ μ Qd ∧ ∀ ds μ', Qd ds μ' → ∀ vs φ' H', Reps G Z φ' H' vs ds → CRel G Z φ' H' μ' → Grow φ H φ' H' → Q vs H'
section
variable {X : Cx}
theorem pe_imp {e : Expr} {t t' : TE} (h : PE X e t) (i : ∀ σ H Q, t' σ H Q → t σ H Q) : PE X e t' := ⟨fun pins s σ H Q I q => h.run pins s σ H Q I (i σ H Q q)⟩
theorem pt_imp {e : Expr} {t t' : TT} (h : PT X e t) (i : ∀ σ H Q, t' σ H Q → t σ H Q) : PT X e t' := ⟨fun pins s σ H Q I q => h.run pins s σ H Q I (i σ H Q q)⟩
theorem pw_imp {e : Expr} {t t' : TT} (h : PW X e t) (i : ∀ σ H Q, t' σ H Q → t σ H Q) : PW X e t' := ⟨fun w pins s σ H Q I q => h.run w pins s σ H Q I (i σ H Q q)⟩
theorem pa_imp {es : List Expr} {t t' : TA} (h : PA X es t) (i : ∀ σ H Q, t' σ H Q → t σ H Q) : PA X es t' := ⟨fun pos pins s σ H Q I q => h.run pos pins s σ H Q I (i σ H Q q)⟩
end

/-! ### small facts of the syntax -/
def noStar : Expr → Bool
  | .Starred .. => false
  | _ => true
theorem star_cons {e : Expr} {es : List Expr} {env : Env} (h : noStar e = true) : starEach (e :: es) env = (false, eval e env) :: starEach es env := by
  cases e <;> first | rfl | simp [noStar] at h
theorem star_plain {env : Env} {pos : Pos} : ∀ {es : List Expr}, es.all noStar = true → (backTo pos (starEach es env)).any (·.1) = false
  | [], _ => rfl
  | e :: es, h => by
    simp only [List.all_cons, Bool.and_eq_true] at h
    rw [star_cons h.1]
    have ih := star_plain (env := env) (pos := pos) h.2
    unfold backTo at ih ⊢
    rw [List.map_cons, List.any_cons, ih]
    rfl
theorem base_of {o : Expr} {m : Str} {env : Env} {w : Sem Value} (h : noSuper o = true) : attributeBase o m env w = w := by
  unfold attributeBase
  cases o with
  | Call f as ks p =>
    cases f with
    | Name x q =>
      cases as with
      | nil =>
        cases ks with
        | nil => simp [noSuper] at h
        | cons _ _ => rfl
      | cons _ _ => rfl
    | _ => rfl
  | _ => rfl
theorem plainIx_of {b : Expr} (h : (match b with | .Slice .. => false | _ => true) = true) : PlainIx b := by
  intro o i
  cases b <;> first | rfl | simp at h
def noSlice : Expr → Bool
  | .Slice .. => false
  | _ => true
theorem mark_of {op : CmpOp} {b : Expr} (h : noSet b = true) : behindInMarks op b = false := by
  cases b <;> first | rfl | simp [noSet] at h
theorem fold_of {b : Expr} {env : Env} (h : noSet b = true) (x : Value) : foldedSetIterable b env x = pure x := by
  cases b <;> first | rfl | simp [noSet] at h
/-- a test that is its value's truth -/
def plainT : Expr → Bool
  | .UnaryOp .Not _ _ | .BoolOp .. | .IfExp .. | .Compare .. => false
  | _ => true
theorem plainT_of {e : Expr} {env : Env} (h : plainT e = true) (w : Sem Value) : isTrue e env w = (do let v ← w; standAt e.pos; holding [v] (truthy v)) := by
  cases e with
  | UnaryOp op x p => cases op <;> first | rfl | simp [plainT] at h
  | BoolOp _ _ _ => simp [plainT] at h
  | IfExp _ _ _ _ => simp [plainT] at h
  | Compare _ _ _ _ => simp [plainT] at h
  | _ => rfl
theorem noSpec_and {x : Str} (h : noSpec x = true) : (x == ("__debug__" : Str)) = false ∧ (x == ("__classdict__" : Str)) = false := by
  unfold noSpec at h
  simp only [Bool.and_eq_true, bne, Bool.not_eq_true'] at h
  exact h

section
variable {P : PCtx} {G : Gd} {S : Sg} {Γ : Cxt} {X : Cx} {W : WX}
theorem XOk.hu (x : XOk P G S Γ X W) : X.A.units + 200 < cLine := by have := x.room.un; omega
/-- a name of a built-in -/
theorem XOk.bi (x : XOk P G S Γ X W) {n : Str} (h : isB P Γ n = true) : X.mg n = none ∧ Gl X n := by
  unfold isB at h
  simp only [Bool.and_eq_true, List.contains_iff_mem] at h
  exact ⟨x.blt n h.1, x.gl n h.2⟩
/-- truth, by D -/
theorem tru_of (hK : G.K = X.K) {Z φ : List Addr} {H : Hp} {μ : Store} {x : V} {d : D} {b : Bool} (c : CRel G Z φ H μ) (r : Rep G Z φ H x d) (e : truthD μ d = some b) : TruV X.K x H b := by
  cases d with
  | non => cases e; cases r; rfl
  | bl k => cases e; cases r; rfl
  | int i => cases e; cases r; rfl
  | str s =>
    simp only [truthD, Option.ite_none_right_eq_some, Option.some.injEq] at e
    obtain ⟨h, rfl⟩ := e
    cases r
    refine ⟨by rw [ofString_length, ← sz_eq]; exact h, ?_⟩
    rw [ofString_length]
    cases s.toList with
    | nil => rfl
    | cons _ _ =>
      symm
      simp only [List.length_cons, bne_iff_ne, ne_eq, List.isEmpty_cons, Bool.not_false]
      omega
  | tup xs =>
    cases e
    obtain ⟨a, vs, rfl, h1, r1⟩ := r.of_tup
    rw [hK] at h1
    exact .inr (.inl ⟨vs, h1, by cases r1 <;> rfl⟩)
  | lst xs =>
    cases e
    obtain ⟨a, vs, rfl, h1, r1⟩ := r.of_lst
    exact .inl ⟨vs, .inl h1, by cases r1 <;> rfl⟩
  | ref i =>
    obtain ⟨a, rfl, ha⟩ := r.of_ref
    cases z : μ[i]? with
    | none => simp [truthD, z] at e
    | some k =>
      cases k with
      | lst xs =>
        simp only [truthD, z, Option.some.injEq] at e
        subst e
        obtain ⟨vs, h1, r1⟩ := c.lst ha z
        exact .inl ⟨vs, .inl (.inl h1), by cases r1 <;> rfl⟩
      | dct t kvs =>
        cases t with
        | true => simp [truthD, z] at e
        | false =>
          simp only [truthD, z, Option.some.injEq] at e
          subst e
          obtain ⟨ws, h1, r1⟩ := c.dk ha z
          exact .inr (.inr ⟨ws, h1, by cases r1 <;> rfl⟩)
      | ins _ _ => simp [truthD, z] at e
      | tbl _ => simp [truthD, z] at e
  | ins _ _ => simp [truthD] at e
  | scr _ => simp [truthD] at e

/-- the parts of an application -/
def PEs (G : Gd) (S : Sg) (X : Cx) (W : WX) : Exs → List Expr → Prop
  | .nil, [] => True
  | .cons e es, x :: xs => PE X x (RE G W fun E => wpE S E e) ∧ PEs G S X W es xs
  | _, _ => False
theorem PEs.pa (x : XOk P G S Γ X W) : ∀ {es : Exs} {xs : List Expr}, PEs G S X W es xs → xs.all noStar = true → PA X xs (RA G W fun E => wpEs S E es)
  | .nil, [], _, _ => pa_imp pa_nil fun σ H Q ⟨Z, φ, ρ, μ, E, Qd, a, w, k⟩ => k [] μ w [] φ H .nil a.cr (Grow.refl _ _)
  | .cons e es, y :: ys, h, hs => by
    simp only [List.all_cons, Bool.and_eq_true] at hs
    refine pa_imp (pa_cons h.1 (PEs.pa x h.2 hs.2) (star_cons hs.1)) fun σ H Q ⟨Z, φ, ρ, μ, E, Qd, a, w, k⟩ => ?_
    refine ⟨Z, φ, ρ, μ, E, _, a, w, fun d μ1 w1 v φ1 H1 r1 c1 g1 => ?_⟩
    exact ⟨Z, φ1, ρ, μ1, E, _, a.step c1 g1, w1, fun ds μ2 w2 vs φ2 H2 r2 c2 g2 => k _ _ w2 _ φ2 H2 (.cons (r1.grow g2) r2) c2 (g1.trans g2)⟩
  | .nil, _ :: _, h, _ => h.elim
  | .cons _ _, [], h, _ => h.elim
theorem PEs.one {es : Exs} {a : Expr} (h : PEs G S X W es [a]) : ∃ p, es = .cons p .nil ∧ PE X a (RE G W fun E => wpE S E p) := by
  cases es with
  | nil => exact h.elim
  | cons p r =>
    cases r with
    | nil => exact ⟨p, rfl, h.1⟩
    | cons _ _ => exact h.2.elim
theorem PEs.two {es : Exs} {a b : Expr} (h : PEs G S X W es [a, b]) : ∃ p q, es = .cons p (.cons q .nil) ∧ PE X a (RE G W fun E => wpE S E p) ∧ PE X b (RE G W fun E => wpE S E q) := by
  cases es with
  | nil => exact h.elim
  | cons p r =>
    obtain ⟨q, rfl, h2⟩ := PEs.one h.2
    exact ⟨p, q, rfl, h.1, h2⟩
theorem PEs.three {es : Exs} {a b c : Expr} (h : PEs G S X W es [a, b, c]) : ∃ p q r, es = .cons p (.cons q (.cons r .nil)) ∧ PE X a (RE G W fun E => wpE S E p) ∧ PE X b (RE G W fun E => wpE S E q) ∧ PE X c (RE G W fun E => wpE S E r) := by
  cases es with
  | nil => exact h.elim
  | cons p r =>
    obtain ⟨q, r, rfl, h2, h3⟩ := PEs.two h.2
    exact ⟨p, q, r, rfl, h.1, h2, h3⟩
/-- two operands, an operator by values -/
theorem pe_2 {f : Prim} {g : Store → D → D → Option D} (hf : ∀ μ x y, primD f [x, y] μ = (g μ x y).map (·, μ)) {a b : Expr} {pa pb : Ex} {e : Expr} (ha : PE X a (RE G W fun E => wpE S E pa)) (hb : PE X b (RE G W fun E => wpE S E pb))
    (hp : ∀ ta tb, PE X a ta → PE X b tb → PE X e (tOp (R2D G g) ta tb)) : PE X e (RE G W fun E => wpE S E (.prim f (.cons pa (.cons pb .nil)))) := by
  refine pe_imp (hp _ _ ha hb) fun σ H Q ⟨Z, φ, ρ, μ, E, Qd, at_, w, k⟩ => ?_
  simp only [wpE, wpEs] at w
  refine ⟨Z, φ, ρ, μ, E, _, at_, w, fun d1 μ1 w1 v φ1 H1 r1 c1 g1 => ?_⟩
  refine ⟨Z, φ1, ρ, μ1, E, _, at_.step c1 g1, w1, fun d2 μ2 w2 u φ2 H2 r2 c2 g2 => ?_⟩
  obtain ⟨z, e, q⟩ := opt_iff.mp w2
  rw [hf] at e
  obtain ⟨d, e2, rfl⟩ := Option.map_eq_some_iff.mp e
  exact ⟨Z, φ2, μ2, d1, d2, d, c2, r1.grow g2, r2, e2, fun v' φ' H' r c g => k d μ2 q v' φ' H' r c (g1.trans (g2.trans g))⟩
/-- .. as a test -/
theorem pt_2 {f : Prim} {g : Store → D → D → Option Bool} (hf : ∀ μ x y, primD f [x, y] μ = (g μ x y).map fun b => (.bl b, μ)) {a b : Expr} {pa pb : Ex} {e : Expr} (ha : PE X a (RE G W fun E => wpE S E pa)) (hb : PE X b (RE G W fun E => wpE S E pb))
    (hp : ∀ ta tb, PE X a ta → PE X b tb → PT X e (tTest (tOp (R2D G fun μ x y => (g μ x y).map .bl) ta tb))) : PT X e (RT G W fun E => wpT S E (.prim f (.cons pa (.cons pb .nil)))) := by
  refine pt_imp (hp _ _ ha hb) fun σ H Q ⟨Z, φ, ρ, μ, E, Qd, at_, w, k⟩ => ?_
  simp only [wpT, wpEs] at w
  refine ⟨Z, φ, ρ, μ, E, _, at_, w, fun d1 μ1 w1 v φ1 H1 r1 c1 g1 => ?_⟩
  refine ⟨Z, φ1, ρ, μ1, E, _, at_.step c1 g1, w1, fun d2 μ2 w2 u φ2 H2 r2 c2 g2 => ?_⟩
  obtain ⟨z, e, q⟩ := opt_iff.mp w2
  rw [hf] at e
  obtain ⟨t, e2, rfl⟩ := Option.map_eq_some_iff.mp e
  simp only [truthD, opt_some] at q
  refine ⟨Z, φ2, μ2, d1, d2, .bl t, c2, r1.grow g2, r2, by show Option.map D.bl (g μ2 d1 d2) = _; rw [e2]; rfl, fun v' φ' H' r c g => ?_⟩
  exact ⟨t, r.of_bl, k t μ2 q φ' H' c (g1.trans (g2.trans g))⟩
/-- one operand -/
theorem pe_1 {f : Prim} {g : Store → D → Option (D × Store)} (hf : ∀ μ x, primD f [x] μ = g μ x) {a : Expr} {pa : Ex} {e : Expr} (ha : PE X a (RE G W fun E => wpE S E pa))
    (hp : ∀ ta, PE X a ta → PE X e (tUn (R1D G g) ta)) : PE X e (RE G W fun E => wpE S E (.prim f (.cons pa .nil))) := by
  refine pe_imp (hp _ ha) fun σ H Q ⟨Z, φ, ρ, μ, E, Qd, at_, w, k⟩ => ?_
  simp only [wpE, wpEs] at w
  refine ⟨Z, φ, ρ, μ, E, _, at_, w, fun d1 μ1 w1 v φ1 H1 r1 c1 g1 => ?_⟩
  obtain ⟨z, e, q⟩ := opt_iff.mp w1
  rw [hf] at e
  obtain ⟨d, μ'⟩ := z
  exact ⟨Z, φ1, μ1, d1, d, μ', c1, r1, e, fun v' φ' H' r c g => k d μ' q v' φ' H' r c (g1.trans g)⟩
/-- an application by the arguments' values -/
theorem pe_n {f : Prim} {es : Exs} {xs : List Expr} {e : Expr} (x : XOk P G S Γ X W) (h : PEs G S X W es xs) (hs : xs.all noStar = true)
    (hp : ∀ t, PA X xs t → PE X e (tCB (RND G fun μ ds => primD f ds μ) t)) : PE X e (RE G W fun E => wpE S E (.prim f es)) := by
  refine pe_imp (hp _ (h.pa x hs)) fun σ H Q ⟨Z, φ, ρ, μ, E, Qd, at_, w, k⟩ => ?_
  simp only [wpE] at w
  refine ⟨Z, φ, ρ, μ, E, _, at_, w, fun ds μ1 w1 vs φ1 H1 r1 c1 g1 => ?_⟩
  obtain ⟨⟨d, μ'⟩, e, q⟩ := opt_iff.mp w1
  exact ⟨Z, φ1, μ1, ds, d, μ', c1, r1, e, fun v' φ' H' r c g => k d μ' q v' φ' H' r c (g1.trans g)⟩
end
end PY

set_option Elab.async false
set_option linter.all false
set_option maxRecDepth 100000
set_option maxHeartbeats 4000000
/-! PY, part u: a def that calls what it gets, and tells what comes: try: return (tag, call()) / except C as e: return (tag, e.f, repr(e.g), ..). -/
namespace PY
open PySem PySem.Spec PyProof.Rows L2
/-! ### repr -/
/-! ### its own syntax -/
structure CompD where
  f : Str
  rep : Bool
structure ClauseD where
  cls : Str
  id : Nat
  nm : Option Str
  tag : String
  comps : List CompD
structure HndD where
  tag : String
  par : Str
  clauses : List ClauseD
section
variable (rp : Str) (par : Str)
def chkComp (k : CompD) (nm : Str) (e : Expr) : Bool := if k.rep = true then (match e with
    | .Call (.Name r _) [.Attribute (.Name y _) g _] [] _ => decide (r = "repr") && decide (y = nm) && decide (g = k.f)
    | _ => false) else (match e with
    | .Attribute (.Name y _) g _ => decide (y = nm) && decide (g = k.f)
    | _ => false)
def chkComps (nm : Str) : List CompD → List Expr → Bool
  | [], [] => true
  | k :: ks, e :: es => chkComp k nm e && chkComps nm ks es
  | _, _ => false
def chkClause (c : ClauseD) : ExceptHandler → Bool
  | .ExceptHandler (some (.Name x _)) nm [.Return (some (.Tuple (.Constant (.str t) _ _ :: es) _ _)) _] _ => decide (x = c.cls) && decide (nm = c.nm) && decide (t = Str.ofString c.tag) && (match c.nm with
    | some n => chkComps n c.comps es
    | none => c.comps.isEmpty && es.isEmpty)
  | _ => false
def chkClauses : List ClauseD → List ExceptHandler → Bool
  | [], [] => true
  | c :: cs, h :: hs => chkClause c h && chkClauses cs hs
  | _, _ => false
def chkHnd (h : HndD) : List Stmt → Bool
  | [.Try [.Return (some (.Tuple [.Constant (.str t) _ _, .Call (.Name a _) [] [] _] _ _)) _] hs [] [] _] => decide (t = Str.ofString h.tag) && decide (a = h.par) && chkClauses h.clauses hs && !hs.isEmpty
  | _ => false
end
/-! ### what it means -/
def compOf (G : Gd) (x : XD) (k : CompD) : Option D := (((G.cF x.c).zip x.args).lookup k.f).bind fun d => if k.rep = true then (reprD d).map .str else some d
def compsOf (G : Gd) (x : XD) : List CompD → Option (List D)
  | [] => some []
  | k :: ks => (compOf G x k).bind fun d => (compsOf G x ks).map (d :: ·)
/-- the first clause that takes it; m: does the class take it -/
def clauseOf (G : Gd) (m : Nat → Nat → Option Bool) (x : XD) : List ClauseD → Option D
  | [] => none
  | c :: cs => (m x.c c.id).bind fun b => if b = true then (if x.c = c.id ∨ c.comps = [] then (compsOf G x c.comps).map fun ds => .tup (.str c.tag :: ds) else none) else clauseOf G m x cs
def hdOf (G : Gd) (m : Nat → Nat → Option Bool) (h : HndD) : String × (XD → Option D) := (h.tag, fun x => clauseOf G m x h.clauses)
section
variable {G : Gd} {Z φ : List Addr} {H : Hp} {X : Cx}
/-- a field of a caught exception -/
theorem lookup_zip : ∀ {fs : List Str} {vs : List V} {ds : List D} {f : Str} {d : D}, Reps G Z φ H vs ds → (fs.zip ds).lookup f = some d → ∃ v, (fs.zip vs).lookup f = some v ∧ Rep G Z φ H v d
  | [], _, _, _, _, _, h => by simp at h
  | _ :: _, [], _, _, _, r, h => by cases r; simp at h
  | g :: fs, v :: vs, _, f, d, .cons r rs, h => by
    simp only [List.zip_cons_cons, List.lookup_cons] at h ⊢
    split at h
    · cases h; exact ⟨v, rfl, r⟩
    · exact lookup_zip rs h
theorem lookup_rev {α : Type} : ∀ {l : List (Str × α)} {f : Str} {v : α}, (l.map (·.1)).Nodup → l.lookup f = some v → l.reverse.lookup f = some v
  | [], _, _, _, h => by simp at h
  | (g, u) :: l, f, v, nd, h => by
    simp only [List.map_cons, List.nodup_cons] at nd
    rw [List.reverse_cons, List.lookup_append]
    simp only [List.lookup_cons] at h
    split at h
    · rename_i e
      have e := beq_iff_eq.mp e
      subst e
      cases h
      have hn : l.reverse.lookup f = none := by
        cases q : l.reverse.lookup f with
        | none => rfl
        | some w =>
          have hm := PySem.mem_of_lookup q
          exact absurd (List.mem_map.mpr ⟨_, List.mem_reverse.mp hm, rfl⟩) nd.1
      rw [hn]
      simp
    · rw [lookup_rev nd.2 h]; rfl
/-- the class of a clause, read -/
structure ClsR (G : Gd) (X : Cx) (c : ClauseD) : Prop where
  nm : X.mg c.cls = some (.ref (G.cA c.id))
  gl : Gl X c.cls
  db : noSpec c.cls = true
  xf : c.comps ≠ [] → XfC X.K (G.cA c.id)
  no : ∀ k ∈ c.comps, PySem.W.findIn X.K (.ref (G.cA c.id)) k.f = some none
def rComp (a : Addr) (cls : Value) (dd : Option Addr) (K : PySem.W.Frag) (C : Addr) (k : CompD) : TE := if k.rep = true then tCB (fun xs H Q => ∃ x d, xs = [x] ∧ Dp K H x d ∧ d.showable = true ∧ d.hasDict = false ∧ d.depth ≤ 150 ∧ d.shown.length ≤ sizeLine ∧ Q (.str d.shown) H) (tCons (tXf a cls dd C k.f (tVar 1)) tNil) else tXf a cls dd C k.f (tVar 1)
def rComps (a : Addr) (cls : Value) (dd : Option Addr) (K : PySem.W.Frag) (C : Addr) : List CompD → TA
  | [] => tNil
  | k :: ks => tCons (rComp a cls dd K C k) (rComps a cls dd K C ks)
variable {x : XD} {σ : L2.St} {Q : VK} {a : Addr} {cls : Value} {dd : Option Addr} {vs : List V} {da : Addr}
theorem xf_get {f : Str} {d : D} (hσ : σ[1]? = some (some (.ref a))) (hc : cls = .ref (G.cA x.c)) (hd : dd = some da) (hH : H da = some (.xd ((G.cF x.c).zip vs).reverse)) (hl : (G.cF x.c).length = vs.length) (r : Reps G Z φ H vs x.args) (nd : (G.cF x.c).Nodup)
    (h : ((G.cF x.c).zip x.args).lookup f = some d) {R : VK} (k : ∀ v, Rep G Z φ H v d → R v H) : tXf a cls dd (G.cA x.c) f (tVar 1) σ H R := by
  obtain ⟨v, h1, h2⟩ := lookup_zip r h
  refine ⟨_, hσ, rfl, hc, da, _, v, hd, hH, lookup_rev ?_ h1, k v h2⟩
  rw [List.map_fst_zip (by omega)]
  exact nd
theorem comp_get {k : CompD} {d : D} (hσ : σ[1]? = some (some (.ref a))) (hc : cls = .ref (G.cA x.c)) (hd : dd = some da) (hH : H da = some (.xd ((G.cF x.c).zip vs).reverse)) (hl : (G.cF x.c).length = vs.length) (r : Reps G Z φ H vs x.args) (nd : (G.cF x.c).Nodup)
    (h : compOf G x k = some d) {R : VK} (q : ∀ v, Rep G Z φ H v d → R v H) : rComp a cls dd G.K (G.cA x.c) k σ H R := by
  unfold compOf at h
  obtain ⟨d0, h1, h2⟩ := Option.bind_eq_some_iff.mp h
  unfold rComp
  by_cases hr : k.rep = true
  · rw [if_pos hr] at h2 ⊢
    obtain ⟨s, h3, rfl⟩ := Option.map_eq_some_iff.mp h2
    unfold reprD at h3
    split at h3
    case isFalse => cases h3
    rename_i hb
    simp only [Bool.and_eq_true, decide_eq_true_eq] at hb
    obtain ⟨⟨⟨p1, p2⟩, p3⟩, p4⟩ := hb
    refine xf_get hσ hc hd hH hl r nd h1 fun v rv => ⟨v, toPy d0, rfl, Rep.dp p1 rv, p2, PyData.hasDict_of_canLay _ (toPy_lay d0), by rw [toPy_depth d0 p1]; exact p3, by rw [← sz_eq]; exact p4, ?_⟩
    rw [← strOf_ok h3]
    exact q _ (.str s)
  · rw [if_neg hr] at h2 ⊢
    cases h2
    exact xf_get hσ hc hd hH hl r nd h1 q
theorem comps_get : ∀ {ks : List CompD} {ds : List D}, σ[1]? = some (some (.ref a)) → cls = .ref (G.cA x.c) → dd = some da → H da = some (.xd ((G.cF x.c).zip vs).reverse) → (G.cF x.c).length = vs.length → Reps G Z φ H vs x.args → (G.cF x.c).Nodup →
    compsOf G x ks = some ds → ∀ {R : List V → Hp → Prop}, (∀ vs, Reps G Z φ H vs ds → R vs H) → rComps a cls dd G.K (G.cA x.c) ks σ H R
  | [], ds, _, _, _, _, _, _, _, h, R, q => by
    cases h
    exact q [] .nil
  | k :: ks, ds, h1, h2, h3, h4, h5, h6, h7, h, R, q => by
    obtain ⟨d, e1, e2⟩ := Option.bind_eq_some_iff.mp (show (compOf G x k).bind _ = _ from h)
    obtain ⟨ds', e3, rfl⟩ := Option.map_eq_some_iff.mp e2
    refine comp_get h1 h2 h3 h4 h5 h6 h7 e1 fun v rv => ?_
    exact comps_get h1 h2 h3 h4 h5 h6 h7 e3 fun vs rvs => q _ (.cons rv rvs)
end
section
variable {G : Gd} {X : Cx}
/-- what the def knows of its names -/
structure HndX (rp : Bool) (X : Cx) (nm : Str) : Prop where
  N : X.N[1]? = some nm
  vis : X.env.scope.names.lookup nm = some .local
  sp : noSpec nm = true
  rg : rp = true → Gl X "repr"
  rm : X.mg "repr" = none
  grd : X.A.guards = some []
  un : X.A.units + 190 < cLine
theorem pe_comp {rp : Bool} {nm : Str} {k : CompD} {e : Expr} {a : Addr} {oe : Obj} {cls : Value} {d : Option Addr} {pn : List (Addr × Obj)} {C : Addr} (h : chkComp k nm e = true) (hx : HndX rp X nm) (hrp : k.rep = true → rp = true) (T : XfC X.K C) (no : PySem.W.findIn X.K (.ref C) k.f = some none) (hz : Zc cls d oe) (hf : ∃ vs, oe.data = .fields vs) :
    PE (X.suite a ((a, oe) :: pn)) e (rComp a cls d X.K C k) ∧ noStar e = true := by
  have pv : ∀ p, PE (X.suite a ((a, oe) :: pn)) (.Name nm p) (tVar 1) := fun p => pe_var (X := X.suite a ((a, oe) :: pn)) hx.N (.inl hx.vis) (noSpec_and hx.sp).1 (noSpec_and hx.sp).2
  unfold chkComp at h
  unfold rComp
  by_cases hr : k.rep = true
  · rw [if_pos hr] at h ⊢
    split at h
    case h_2 => cases h
    simp only [Bool.and_eq_true, decide_eq_true_eq] at h
    obtain ⟨⟨rfl, rfl⟩, rfl⟩ := h
    refine ⟨pe_callB (X := X.suite a ((a, oe) :: pn)) (PX.call_repr (X := X.suite a ((a, oe) :: pn)) hx.grd hx.un) (hx.rg (hrp hr)) hx.rm PyProof.Rows.Boot.«repr» (pa_cons (pe_xf T no hz hf (pv _)) pa_nil), rfl⟩
  · rw [if_neg hr] at h ⊢
    split at h
    case h_2 => cases h
    simp only [Bool.and_eq_true, decide_eq_true_eq] at h
    obtain ⟨rfl, rfl⟩ := h
    exact ⟨pe_xf T no hz hf (pv _), rfl⟩
theorem pa_comps {rp : Bool} {nm : Str} {a : Addr} {oe : Obj} {cls : Value} {d : Option Addr} {pn : List (Addr × Obj)} {C : Addr} (hx : HndX rp X nm) (hz : Zc cls d oe) (hf : ∃ vs, oe.data = .fields vs) : ∀ {ks : List CompD} {es : List Expr}, (ks ≠ [] → XfC X.K C) → (∀ k ∈ ks, k.rep = true → rp = true) → chkComps nm ks es = true → (∀ k ∈ ks, PySem.W.findIn X.K (.ref C) k.f = some none) →
    PA (X.suite a ((a, oe) :: pn)) es (rComps a cls d X.K C ks)
  | [], [], _, _, _, _ => pa_nil
  | k :: ks, e :: es, T, hrp, h, no => by
    simp only [chkComps, Bool.and_eq_true] at h
    have T' := T (by simp)
    obtain ⟨h1, h2⟩ := pe_comp (a := a) (pn := pn) h.1 hx (hrp k (by simp)) T' (no k (by simp)) hz hf
    exact pa_cons h1 (pa_comps hx hz hf (fun _ => T') (fun k hk => hrp k (by simp [hk])) h.2 fun k hk => no k (by simp [hk])) (star_cons h2)
  | [], _ :: _, _, _, h, _ => by cases h
  | _ :: _, [], _, _, h, _ => by cases h
/-- a clause as the layer has it -/
def clOf (G : Gd) (K : PySem.W.Frag) (c : ClauseD) : PX.Cl := ⟨.ref (G.cA c.id), c.nm.map fun _ => 1, fun a cls d => tRet (tTup (tCons (tC (.str (Str.ofString c.tag))) (rComps a cls d K (G.cA c.id) c.comps)))⟩
theorem hds_ok {rp : Bool} : ∀ {cs : List ClauseD} {hs : List ExceptHandler}, chkClauses cs hs = true → (∀ c ∈ cs, ClsR G X c) → (∀ c ∈ cs, ∀ n, c.nm = some n → HndX rp X n) → (∀ c ∈ cs, ∀ k ∈ c.comps, k.rep = true → rp = true) → PX.Hds X hs (cs.map (clOf G X.K))
  | [], [], _, _, _, _ => .nil
  | c :: cs, h :: hs, hc, hr, hx, hrp => by
    simp only [chkClauses, Bool.and_eq_true] at hc
    obtain ⟨h1, h2⟩ := hc
    have r := hr c (by simp)
    have ih := hds_ok h2 (fun c' hc' => hr c' (by simp [hc'])) (fun c' hc' => hx c' (by simp [hc'])) fun c' hc' => hrp c' (by simp [hc'])
    unfold chkClause at h1
    split at h1
    case h_2 => cases h1
    simp only [Bool.and_eq_true, decide_eq_true_eq] at h1
    obtain ⟨⟨⟨rfl, hn⟩, ht⟩, h3⟩ := h1
    rw [List.map_cons]
    refine .cons (k := clOf G X.K c) ⟨r.gl, (noSpec_and r.db).1, .inl r.nm⟩ ?_ (fun a oe cls d pn hz hf => ?_) ih
    · show PX.nameAt X _ (c.nm.map fun _ => 1)
      rw [hn]
      cases hnm : c.nm with
      | none => trivial
      | some n => exact ⟨(hx c (by simp) n hnm).N, (hx c (by simp) n hnm).vis⟩
    · show PSs _ _ (tRet (tTup (tCons (tC (.str (Str.ofString c.tag))) (rComps a cls d X.K (G.cA c.id) c.comps))))
      rw [ht]
      refine pss_one (ps_ret (pe_tup (pa_cons pe_str ?_)))
      cases hnm : c.nm with
      | none =>
        rw [hnm] at h3
        simp only [Bool.and_eq_true, List.isEmpty_iff] at h3
        rw [h3.1, h3.2]
        exact pa_nil
      | some n =>
        rw [hnm] at h3
        exact pa_comps (hx c (by simp) n hnm) hz hf r.xf (hrp c (by simp)) h3 r.no
  | [], _ :: _, h, _, _, _ => by cases h
  | _ :: _, [], h, _, _, _ => by cases h
theorem compsOf_len {x : XD} : ∀ {ks : List CompD} {ds : List D}, compsOf G x ks = some ds → ds.length = ks.length
  | [], ds, h => by cases h; rfl
  | k :: ks, ds, h => by
    obtain ⟨d, e1, e2⟩ := Option.bind_eq_some_iff.mp (show (compOf G x k).bind _ = _ from h)
    obtain ⟨ds', e3, rfl⟩ := Option.map_eq_some_iff.mp e2
    simp [compsOf_len e3]
/-- what the clauses make of an exception -/
theorem clauses_wish {m : Nat → Nat → Option Bool} {K : PySem.W.Frag} (hK : G.K = K) {Z φ : List Addr} {H : Hp} {μ : Store} {cls : Value} {dd : Option Addr} {x : XD} {d : D} {D' : Ends} {n : Nat} {Wout : WX} {σ : L2.St} (hn : 1 < n) (xr : XRep G Z φ H cls dd x) (nd : (G.cF x.c).Nodup) (cr : CRel G Z φ H μ) (q : Done G Z φ H d μ D'.rt) :
    ∀ {cs : List ClauseD}, clauseOf G m x cs = some d → (∀ c ∈ cs, ∀ b, m x.c c.id = some b → PySem.W.exmOne K (.ref (G.cA x.c)) (.ref (G.cA c.id)) = some b) → (∀ c ∈ cs, c.comps.length ≤ 100) → (∀ c ∈ cs, c.nm = none → c.comps = []) → PX.wAll K n Wout D' (cs.map (clOf G K)) cls dd σ H
  | [], h, _, _, _ => by cases h
  | c :: cs, h, hm, hl, hz => by
    obtain ⟨b, e1, e2⟩ := Option.bind_eq_some_iff.mp (show (m x.c c.id).bind _ = _ from h)
    rw [List.map_cons]
    obtain ⟨hc, da, vs, hd, hH, hlen, r⟩ := xr
    refine ⟨b, by rw [hc]; exact hm c (by simp) b e1, fun hb a na hs => ?_, fun hb => ?_⟩
    · rw [if_pos hb] at e2
      split at e2
      case isFalse => cases e2
      rename_i hx
      obtain ⟨ds, e3, rfl⟩ := Option.map_eq_some_iff.mp e2
      have key : ∀ σ' : L2.St, (c.comps ≠ [] → σ'[1]? = some (some (V.ref a))) → ∀ D2 : Ends, D2.rt = D'.rt → (clOf G K c).ts a cls dd D2 σ' H := by
        intro σ' hσ D2 hD
        show tTup (tCons (tC (.str (Str.ofString c.tag))) (rComps a cls dd K (G.cA c.id) c.comps)) σ' H D2.rt
        rw [hD]
        have fin : ∀ ws, Reps G Z φ H ws ds → (V.str (Str.ofString c.tag) :: ws).length ≤ sizeLine ∧ ∀ p, H p = none → D'.rt (.ref p) (upd H p (.tup (V.str (Str.ofString c.tag) :: ws))) := fun ws rw' => by
          refine ⟨?_, fun p hp => Done.tup cr hp (.cons (.str _) rw') q⟩
          have := hl c (by simp)
          rw [List.length_cons, rw'.length, compsOf_len e3, sizeLine_eq]
          omega
        by_cases he : c.comps = []
        · rw [he] at e3 ⊢
          cases e3
          exact fin [] .nil
        · have hxc : x.c = c.id := hx.resolve_right he
          rw [← hK, ← hxc]
          exact comps_get (hσ he) hc hd hH hlen r nd e3 fin
      cases hnm : c.nm with
      | none =>
        have hi : (clOf G K c).i = none := by show c.nm.map _ = none; rw [hnm]; rfl
        rw [hi]
        exact key σ (fun hne => absurd (hz c (by simp) hnm) hne) D' rfl
      | some nn =>
        have hi : (clOf G K c).i = some 1 := by show c.nm.map _ = some 1; rw [hnm]; rfl
        rw [hi]
        exact key (σ.set 1 (some (.ref a))) (fun _ => List.getElem?_set_self (by omega)) _ rfl
    · rw [if_neg (by rw [hb]; simp)] at e2
      exact clauses_wish hK hn ⟨hc, da, vs, hd, hH, hlen, r⟩ nd cr q e2 (fun c' hc' => hm c' (by simp [hc'])) (fun c' hc' => hl c' (by simp [hc'])) fun c' hc' => hz c' (by simp [hc'])
/-- what the text of the def must be -/
def hndB (Ng : List Str) (sg : Scope) (rp : Bool) (h : HndD) (bg : List Stmt) : Bool :=
  chkHnd h bg && decide (Ng[0]? = some h.par) && decide (Ng.Nodup) && decide (1 < Ng.length) && (!rp || decide (sg.names.lookup ("repr" : Str) = some .globalImplicit)) && h.clauses.all fun c => decide (sg.names.lookup c.cls = some .globalImplicit) && noSpec c.cls && decide (c.comps.length ≤ 100) && (c.comps.all fun k => !k.rep || rp) && match c.nm with
    | none => c.comps.isEmpty
    | some n => decide (Ng[1]? = some n) && decide (sg.names.lookup n = some .local) && noSpec n
/-- what is known of the classes -/
structure ClsF (G : Gd) (mg : Str → Option Value) (m : Nat → Nat → Option Bool) (cs : List ClauseD) : Prop where
  nm : ∀ c ∈ cs, mg c.cls = some (.ref (G.cA c.id))
  xf : ∀ c ∈ cs, c.comps ≠ [] → XfC G.K (G.cA c.id)
  no : ∀ c ∈ cs, ∀ k ∈ c.comps, PySem.W.findIn G.K (.ref (G.cA c.id)) k.f = some none
  ex : ∀ c ∈ cs, ∀ x b, m x c.id = some b → PySem.W.exmOne G.K (.ref (G.cA x)) (.ref (G.cA c.id)) = some b
  nd : ∀ x, (G.cF x).Nodup
theorem hnd_gives {m : Nat → Nat → Option Bool} {rp : Bool} {h : HndD} {Ng : List Str} {x a q : Str} {sg : Scope} {g : Addr} {cdg : Value} {bg : List Stmt} (hb : hndB Ng sg rp h bg = true) (ha : a = h.par) (hK : G.K = X.K) (F : ClsF G X.mg m h.clauses)
    (hrm : X.mg "repr" = none) (grd : X.A.guards = some []) (un : X.A.units + 200 < cLine) :
    LamX.GivesTo X Ng x sg g cdg bg a q (TTh G (hdOf G m h)) := by
  unfold hndB at hb
  simp only [Bool.and_eq_true, decide_eq_true_eq, List.all_eq_true, Bool.or_eq_true, Bool.not_eq_true'] at hb
  obtain ⟨⟨⟨⟨⟨hb, hp⟩, nd⟩, h1⟩, hrp⟩, hcl⟩ := hb
  subst ha
  unfold chkHnd at hb
  split at hb
  case h_2 => cases hb
  rename_i t c1 p0 y p1 p2 p3 p4 hs p5
  simp only [Bool.and_eq_true, decide_eq_true_eq] at hb
  obtain ⟨⟨⟨rfl, rfl⟩, hch⟩, hne⟩ := hb
  intro f c' s H Q tl act hc hT
  cases hs with
  | nil => cases hne
  | cons h0 hs =>
  have hcs : ∀ c ∈ h.clauses, c.nm = none → c.comps = [] := fun c hc hn => by
    have := (hcl c hc).2
    rw [hn] at this
    exact List.isEmpty_iff.mp this
  have hH : PX.Hds (cxOf C8.CX0 X.prog X.w X.K X.mg X.base Ng x sg g cdg X.A X.stack s H C8.E0).nox (h0 :: hs) (h.clauses.map (clOf G X.K)) := by
    refine hds_ok (G := G) (X := (cxOf C8.CX0 X.prog X.w X.K X.mg X.base Ng x sg g cdg X.A X.stack s H C8.E0).nox) (rp := rp) hch (fun c hc => ⟨F.nm c hc, (hcl c hc).1.1.1.1, (hcl c hc).1.1.1.2, fun z => ?_, fun k hk => ?_⟩) (fun c hc n hn => ?_) (fun c hc k hk hr => ?_)
    · have := F.xf c hc z
      rw [hK] at this
      exact this
    · have := F.no c hc k hk
      rw [hK] at this
      exact this
    · have := (hcl c hc).2
      rw [hn] at this
      simp only [Bool.and_eq_true, decide_eq_true_eq] at this
      exact ⟨this.1.1, this.1.2, this.2, fun hr => hrp.resolve_left (by rw [hr]; simp), hrm, grd, show X.A.units + 3 + 190 < cLine from by omega⟩
    · exact ((hcl c hc).1.2 k hk).resolve_left (by rw [hr]; simp)
  refine ⟨_, pss_one (PX.ps_try (X := (cxOf C8.CX0 X.prog X.w X.K X.mg X.base Ng x sg g cdg X.A X.stack s H C8.E0).nox) (l := h.clauses.map (clOf G X.K)) (Wout := fun _ _ _ _ => False)
      (tb := fun W D σ H => ∃ Ech : XK, (∀ cls d σ' H', Ech cls d H' → W cls d σ' H') ∧ σ[0]? = some (some (.ref f)) ∧ H c' = some (LamX.CodeO c' q) ∧ tl Ech H fun v H' => [V.str (Str.ofString h.tag), v].length ≤ sizeLine ∧ ∀ p, H' p = none → D.rt (.ref p) (upd H' p (.tup [.str (Str.ofString h.tag), v])))
      nd rfl rfl LamX.takes0 (fun W pn xe tk _ => ?_) hH), ?_⟩
  · refine ⟨fun pins s' σ H' D I h' => ?_⟩
    obtain ⟨Ech, hW, h2, h3, h4⟩ := h'
    have hp := act W pn xe Ech y p1 tk hW
    have hq := pss_one (ps_ret (pos := p4) (pe_tup (x1 := p2) (pos := p3) (pa_cons (pe_str (x := Str.ofString h.tag) (j := t) (pos := c1)) (pa_cons hp pa_nil))))
    exact hq.run pins s' σ H' D I ⟨h2, h3, h4⟩
  · unfold TTh at hT
    refine ⟨fun cls d H' => ∃ Z φ' μ' x d', XRep G Z φ' H' cls d x ∧ CRel G Z φ' H' μ' ∧ (hdOf G m h).2 x = some d' ∧ Done G Z φ' H' d' μ' Q, fun cls d σ' H' e => ?_, rfl, hc, hT⟩
    obtain ⟨Z, φ', μ', x, d', xr, cr, hx, dn⟩ := e
    exact clauses_wish (G := G) (m := m) hK h1 xr (F.nd _) cr dn hx (fun c hc b hb => hK ▸ F.ex c hc _ b hb) (fun c hc => (hcl c hc).1.1.2) hcs
end
end PY

set_option Elab.async false
set_option linter.all false
set_option maxRecDepth 100000
set_option maxHeartbeats 4000000
/-! PY, part g: applications of built-ins. -/
namespace PY
open PySem PySem.Spec PyProof.Rows L2
section
variable {G : Gd} {Z φ : List Addr} {H : Hp}
theorem Mk.drop {p : Addr} : Mk p (p :: Z) φ H Z φ H := ⟨fun _ _ _ e => e, fun _ _ h => h, fun a _ h q => h (List.mem_cons_of_mem _ q), fun _ _ h => h⟩
theorem CRel.drop {μ : Store} {p : Addr} (r : CRel G (p :: Z) φ H μ) : CRel G Z φ H μ := by
  refine ⟨r.len, r.nd, fun a ha q => r.nz a ha (List.mem_cons_of_mem _ q), fun b hb => r.zt b (List.mem_cons_of_mem _ hb), fun i c e => ?_⟩
  obtain ⟨b, hb, q⟩ := r.cell i c e
  exact ⟨b, hb, q.made List.mem_cons_self Mk.drop fun z => r.nz b (List.mem_of_getElem? hb) (by rw [z]; exact List.mem_cons_self)⟩
theorem XRep.drop {p : Addr} {cls : Value} {dd : Option Addr} {x : XD} (r : XRep G (p :: Z) φ H cls dd x) : XRep G Z φ H cls dd x := by
  obtain ⟨h, d, vs, h1, h2, h3, h4⟩ := r
  exact ⟨h, d, vs, h1, h2, h3, h4.made List.mem_cons_self Mk.drop⟩
theorem Lk.making {W : WX} {E : XD → Store → Prop} {σ : L2.St} {p : Addr} {o : HO} (l : Lk G Z W E σ φ H) (h : H p = none) : Lk G (p :: Z) W E σ φ (L2.upd H p o) :=
  fun x μ' e cls dd φ' H' xr c g => l x μ' e cls dd φ' H' xr.drop c.drop ((Grow.upd h).trans g)
theorem At.making {W : WX} {E : XD → Store → Prop} {σ : L2.St} {ρ : Sl} {μ : Store} {p : Addr} {o : HO} (a : At G Z W E σ φ H ρ μ) (h : H p = none) : At G (p :: Z) W E σ φ (L2.upd H p o) ρ μ :=
  ⟨a.er.lift (.cons h) (Grow.upd h), a.cr.making h, a.lk.making h⟩
end

section
variable {P : PCtx} {G : Gd} {S : Sg} {Γ : Cxt} {X : Cx} {W : WX}
theorem sn_tup (x : XOk P G S Γ X W) {es : Exs} {xs : List Expr} {k : Nat} {p : Pos} (h : PEs G S X W es xs) (hs : xs.all noStar = true) : PE X (.Tuple xs k p) (RE G W fun E => wpE S E (.prim .tup es)) := by
  refine pe_imp (pe_tup (h.pa x hs)) fun σ H Q ⟨Z, φ, ρ, μ, E, Qd, at_, w, kk⟩ => ?_
  simp only [wpE] at w
  refine ⟨Z, φ, ρ, μ, E, _, at_, w, fun ds μ1 w1 vs φ1 H1 r1 c1 g1 => ?_⟩
  obtain ⟨⟨d, μ'⟩, e, q⟩ := opt_iff.mp w1
  simp only [primD, Option.ite_none_right_eq_some, Option.some.injEq, Prod.mk.injEq] at e
  obtain ⟨hz, rfl, rfl⟩ := e
  exact ⟨by rw [r1.length, ← sz_eq]; exact hz, fun p hp => Done.tup c1 hp r1 fun v' φ' H' r c g => kk _ _ q v' φ' H' r c (g1.trans g)⟩
theorem sn_lst (x : XOk P G S Γ X W) {m : Bool} {es : Exs} {xs : List Expr} {p : Pos} (h : PEs G S X W es xs) (hs : xs.all noStar = true) : PE X (.List xs p) (RE G W fun E => wpE S E (.prim (.lst m) es)) := by
  refine pe_imp (pe_lst (h.pa x hs)) fun σ H Q ⟨Z, φ, ρ, μ, E, Qd, at_, w, kk⟩ => ?_
  simp only [wpE] at w
  refine ⟨Z, φ, ρ, μ, E, _, at_, w, fun ds μ1 w1 vs φ1 H1 r1 c1 g1 => ?_⟩
  obtain ⟨⟨d, μ'⟩, e, q⟩ := opt_iff.mp w1
  simp only [primD, Option.ite_none_right_eq_some, Option.some.injEq] at e
  obtain ⟨hz, e⟩ := e
  have hd : d = (newL m ds μ1).1 ∧ μ' = (newL m ds μ1).2 := by rw [e]; exact ⟨rfl, rfl⟩
  obtain ⟨rfl, rfl⟩ := hd
  exact ⟨by rw [r1.length, ← sz_eq]; exact hz, fun p hp => Done.newL (m := m) c1 hp r1 fun v' φ' H' r c g => kk _ _ q v' φ' H' r c (g1.trans g)⟩
/-- the pairs of a display -/
theorem PEs.pairs (x : XOk P G S Γ X W) {pos : Pos} : ∀ {ks : List (Option Expr)} {vs : List Expr} {es : Exs} {xs : List Expr}, inter ks vs = some xs → PEs G S X W es xs →
    ∃ trs, PPs X pos ks vs trs ∧ ks.all (·.isSome) = true ∧ ks.length = vs.length ∧ (∀ {Z φ : List Addr} {σ : L2.St} {H : Hp} {ρ : Sl} {μ : Store} {E : XD → Store → Prop} {Qd : List D → Store → Prop} {Q : List (V × V) → Hp → Prop}, At G Z W E σ φ H ρ μ → wpEs S E es ρ μ Qd →
      (∀ ds μ', Qd ds μ' → ∀ ps φ' H', (∃ kvs : List (D × D), pairsOf ds = some kvs ∧ kvs.length = ks.length ∧ (∀ (n : Nat) (p : V × V) , ps[n]? = some p → ∃ q : D × D, kvs[n]? = some q ∧ Rep G Z φ' H' p.1 q.1 ∧ Rep G Z φ' H' p.2 q.2) ∧ ps.length = kvs.length) → CRel G Z φ' H' μ' → Grow φ H φ' H' → Q ps H') → tPairs trs σ H Q)
  | [], [], es, xs, h, hp => by
    simp only [inter, Option.some.injEq] at h
    subst h
    cases es with
    | cons _ _ => exact hp.elim
    | nil => exact ⟨[], pps_nil, rfl, rfl, fun a w k => k [] _ w [] _ _ ⟨[], rfl, rfl, by simp, rfl⟩ a.cr (Grow.refl _ _)⟩
  | some k :: ks, v :: vs, es, xs, h, hp => by
    simp only [inter] at h
    obtain ⟨r, h2, rfl⟩ := Option.map_eq_some_iff.mp h
    cases es with
    | nil => exact hp.elim
    | cons e1 es =>
      cases es with
      | nil => exact hp.2.elim
      | cons e2 es =>
        obtain ⟨hk, hv, hr⟩ := hp
        obtain ⟨trs, h3, h4, h5, h6⟩ := PEs.pairs x (pos := pos) h2 hr
        refine ⟨_, pps_cons hk hv h3, by simp [h4], by simp [h5], fun {Z φ σ H ρ μ E Qd Q} a w kk => ?_⟩
        simp only [wpEs] at w
        refine ⟨Z, φ, ρ, μ, E, _, a, w, fun d1 μ1 w1 u φ1 H1 r1 c1 g1 => ?_⟩
        have a1 := a.step c1 g1
        refine ⟨Z, φ1, ρ, μ1, E, _, a1, w1, fun d2 μ2 w2 u2 φ2 H2 r2 c2 g2 => ?_⟩
        refine h6 (a1.step c2 g2) w2 fun ds μ3 w3 ps φ3 H3 hps c3 g3 => ?_
        obtain ⟨kvs, q1, q2, q3, q4⟩ := hps
        refine kk _ μ3 w3 ((u, u2) :: ps) φ3 H3 ⟨(d1, d2) :: kvs, by simp [pairsOf, q1], by simp [q2], fun n p hn => ?_, by simp [q4]⟩ c3 (g1.trans (g2.trans g3))
        cases n with
        | zero =>
          simp only [List.getElem?_cons_zero, Option.some.injEq] at hn
          subst hn
          exact ⟨(d1, d2), rfl, r1.grow (g2.trans g3), r2.grow g3⟩
        | succ n =>
          simp only [List.getElem?_cons_succ] at hn ⊢
          exact q3 n p hn
  | [], _ :: _, _, _, h, _ => by simp [inter] at h
  | none :: _, _, _, _, h, _ => by simp [inter] at h
  | some _ :: _, [], _, _, h, _ => by simp [inter] at h
/-- pairs whose keys are ints and texts -/
theorem kv_of {Z φ : List Addr} {H : Hp} : ∀ {ps : List (V × V)} {kvs : List (D × D)}, ps.length = kvs.length → (∀ (n : Nat) (p : V × V), ps[n]? = some p → ∃ q : D × D, kvs[n]? = some q ∧ Rep G Z φ H p.1 q.1 ∧ Rep G Z φ H p.2 q.2) → kvs.all (fun p => flatKey p.1) = true →
    ∃ ws : List (Key × V), ps = ws.map (fun kv => (kV kv.1, kv.2)) ∧ KVRep G Z φ H ws kvs
  | [], [], _, _, _ => ⟨[], rfl, .nil⟩
  | p :: ps, q :: kvs, hl, h, hk => by
    simp only [List.all_cons, Bool.and_eq_true] at hk
    obtain ⟨q', e, r1, r2⟩ := h 0 p rfl
    simp only [List.getElem?_cons_zero, Option.some.injEq] at e
    subst e
    obtain ⟨k, kr, ek⟩ := KeyRep.of_flat hk.1 r1
    obtain ⟨ws, e2, r3⟩ := kv_of (ps := ps) (kvs := kvs) (by simpa using hl) (fun n p' hn => h (n + 1) p' (by simpa using hn)) hk.2
    obtain ⟨p1, p2⟩ := p
    simp only at ek r2
    subst ek
    exact ⟨(k, p2) :: ws, by rw [List.map_cons, ← e2], .cons kr r2 r3⟩
  | [], _ :: _, h, _, _ => by simp at h
  | _ :: _, [], h, _, _ => by simp at h
theorem merge_rep {Z φ : List Addr} {H : Hp} : ∀ {ws acc : List (Key × V)} {kvs dacc : List (D × D)}, KVRep G Z φ H ws kvs → KVRep G Z φ H acc dacc → KVRep G Z φ H (mergeK acc ws) (putAll dacc kvs)
  | _, _, _, _, .nil, a => a
  | _, _, _, _, .cons k r s, a => by
    show KVRep G Z φ H (mergeK (putK _ _ _) _) (putAll (PY.put _ _ _) _)
    exact merge_rep s (a.put k r)
theorem sn_dct (x : XOk P G S Γ X W) {t : Bool} {ks : List (Option Expr)} {vs : List Expr} {es : Exs} {xs : List Expr} {p : Pos} (hc : (if ks.isEmpty then vs.isEmpty else !t && decide (ks.length ≤ 15)) = true) (hi : inter ks vs = some xs) (h : PEs G S X W es xs) :
    PE X (.Dict ks vs p) (RE G W fun E => wpE S E (.prim (.dct t) es)) := by
  cases ks with
  | nil =>
    have hv : vs = [] := by simpa using hc
    subst hv
    simp only [inter, Option.some.injEq] at hi
    subst hi
    cases es with
    | cons _ _ => exact h.elim
    | nil =>
      cases t with
      | false =>
        refine pe_imp pe_dnewK fun σ H Q ⟨Z, φ, ρ, μ, E, Qd, at_, w, kk⟩ => ?_
        simp only [wpE, wpEs, primD, opt_some] at w
        intro p hp
        refine kk _ _ w _ _ _ (.ref ?_) (at_.cr.push hp (.dK upd_same .nil)) (Grow.cell hp)
        rw [← at_.cr.len, List.getElem?_append_right (Nat.le_refl _), Nat.sub_self]
        rfl
      | true =>
        refine pe_imp pe_dnewT fun σ H Q ⟨Z, φ, ρ, μ, E, Qd, at_, w, kk⟩ => ?_
        simp only [wpE, wpEs, primD, opt_some] at w
        intro p hp
        refine kk _ _ w _ _ _ (.ref ?_) (at_.cr.push hp (.dT upd_same .nil)) (Grow.cell hp)
        rw [← at_.cr.len, List.getElem?_append_right (Nat.le_refl _), Nat.sub_self]
        rfl
  | cons k0 ks' =>
    simp only [List.isEmpty_cons, Bool.false_eq_true, if_false, Bool.and_eq_true, Bool.not_eq_true', decide_eq_true_eq] at hc
    obtain ⟨rfl, h15⟩ := hc
    obtain ⟨trs, h1, h2, h3, h4⟩ := PEs.pairs x (pos := p) hi h
    refine pe_imp (pe_disp h1 h2 h3 (by simp) h15) fun σ H Q ⟨Z, φ, ρ, μ, E, Qd, at_, w, kk⟩ => ?_
    simp only [wpE] at w
    intro p hp
    refine h4 (at_.making hp) w fun ds μ2 w2 ps φ2 H2 hps c2 g2 => ?_
    obtain ⟨kvs, q1, q2, q3, q4⟩ := hps
    have nz : p ∉ Z := (at_.cr.fresh hp).2
    have hH2 : H2 p = some (.dK []) := g2.keep p _ upd_same (at_.cr.fresh hp).1
    refine ⟨hH2, ?_⟩
    obtain ⟨⟨d, μ'⟩, e, q⟩ := opt_iff.mp w2
    have hl : kvs.length = ks'.length + 1 := by simpa using q2
    cases ds with
    | nil =>
      simp only [pairsOf, Option.some.injEq] at q1
      subst q1
      simp at hl
    | cons d1 ds =>
      cases ds with
      | nil => simp [pairsOf] at q1
      | cons d2 ds =>
        simp only [primD, q1, Option.bind_some, Option.ite_none_right_eq_some, Option.some.injEq, Prod.mk.injEq] at e
        obtain ⟨⟨e1, e2⟩, rfl, rfl⟩ := e
        obtain ⟨ws, rfl, r⟩ := kv_of q4 q3 e2
        refine ⟨ws, rfl, by rw [r.length]; exact e1, ?_⟩
        have rr : KVRep G Z (φ2 ++ [p]) (upd H2 p (.dK (mergeK [] ws))) (mergeK [] ws) (putAll [] kvs) := (merge_rep r .nil).made List.mem_cons_self Mk.cell
        refine kk _ _ q _ (φ2 ++ [p]) _ (.ref ?_) (c2.mkCell nz (.dK upd_same rr)) ?_
        · rw [← c2.len, List.getElem?_append_right (Nat.le_refl _), Nat.sub_self]
          rfl
        · refine ⟨fun a o e n => ?_, fun a ha => ?_, fun i a e => ?_⟩
          · have hne := ne_of_none e hp
            rw [upd_ne hne]
            exact g2.keep a o (by rw [upd_ne hne]; exact e) n
          · rcases List.mem_append.mp ha with z | z
            · by_cases q : a = p
              · rw [q]; exact .inr hp
              · rcases g2.new a z with z | z
                · exact .inl z
                · rw [upd_ne q] at z; exact .inr z
            · rw [List.mem_singleton.mp z]; exact .inr hp
          · have := g2.pre i a e
            rw [List.getElem?_append_left (List.getElem?_eq_some_iff.mp this).1]; exact this
end
end PY

set_option Elab.async false
set_option linter.all false
set_option maxRecDepth 100000
set_option maxHeartbeats 4000000
/-! PY, part h: all applications of built-ins. -/
namespace PY
open PySem PySem.Spec PyProof.Rows L2
section
variable {P : PCtx} {G : Gd} {S : Sg} {Γ : Cxt} {X : Cx} {W : WX}
theorem un_negD : UnR X (unaryOp .USub) (R1D G fun μ x => primD .neg [x] μ) := by
  intro pins s σ H x v Q I rx h
  obtain ⟨Z, φ, μ, dx, d, μ', c, r, e, q⟩ := h
  cases dx with
  | int i =>
    simp only [primD, Option.some.injEq, Prod.mk.injEq] at e
    obtain ⟨rfl, rfl⟩ := e
    obtain rfl := r.of_int
    exact un_neg pins s σ H _ v Q I rx ⟨i, rfl, q.now c (.int _)⟩
  | _ => simp [primD] at e
theorem isN_rep {Z φ : List Addr} {H : Hp} {x : V} {d : D} (r : Rep G Z φ H x d) : decide (x = .non) = isNonD d := by
  cases r <;> rfl
theorem sn_isN {a : Expr} {pa : Ex} {j : Nat} {p p' : Pos} (ha : PE X a (RE G W fun E => wpE S E pa)) : PE X (.Compare a [.Is] [.Constant .none j p'] p) (RE G W fun E => wpE S E (.prim .isN (.cons pa .nil))) := by
  refine pe_imp (pe_cmp (pc_isN ha) rfl) fun σ H Q ⟨Z, φ, ρ, μ, E, Qd, at_, w, kk⟩ => ?_
  simp only [wpE, wpEs] at w
  refine ⟨Z, φ, ρ, μ, E, _, at_, w, fun d1 μ1 w1 v φ1 H1 r1 c1 g1 => ?_⟩
  simp only [primD, opt_some] at w1
  try dsimp only
  rw [isN_rep r1]
  exact kk _ _ w1 _ φ1 H1 (.bl _) c1 g1
theorem st_isN {a : Expr} {pa : Ex} {j : Nat} {p p' : Pos} (ha : PE X a (RE G W fun E => wpE S E pa)) : PT X (.Compare a [.Is] [.Constant .none j p'] p) (RT G W fun E => wpT S E (.prim .isN (.cons pa .nil))) := by
  refine pt_imp (pt_cmp (pc_isN ha) rfl) fun σ H Q ⟨Z, φ, ρ, μ, E, Qd, at_, w, kk⟩ => ?_
  simp only [wpT, wpEs] at w
  refine ⟨Z, φ, ρ, μ, E, _, at_, w, fun d1 μ1 w1 v φ1 H1 r1 c1 g1 => ?_⟩
  simp only [primD, opt_some, truthD] at w1
  try dsimp only
  rw [isN_rep r1]
  exact ⟨_, rfl, kk _ _ w1 φ1 H1 c1 g1⟩
theorem sn_notN {a : Expr} {pa : Ex} {j : Nat} {p p' : Pos} (ha : PE X a (RE G W fun E => wpE S E pa)) : PE X (.Compare a [.IsNot] [.Constant .none j p'] p) (RE G W fun E => wpE S E (.prim .notN (.cons pa .nil))) := by
  refine pe_imp (pe_cmp (pc_notN ha) rfl) fun σ H Q ⟨Z, φ, ρ, μ, E, Qd, at_, w, kk⟩ => ?_
  simp only [wpE, wpEs] at w
  refine ⟨Z, φ, ρ, μ, E, _, at_, w, fun d1 μ1 w1 v φ1 H1 r1 c1 g1 => ?_⟩
  simp only [primD, opt_some] at w1
  try dsimp only
  rw [isN_rep r1]
  exact kk _ _ w1 _ φ1 H1 (.bl _) c1 g1
theorem st_notN {a : Expr} {pa : Ex} {j : Nat} {p p' : Pos} (ha : PE X a (RE G W fun E => wpE S E pa)) : PT X (.Compare a [.IsNot] [.Constant .none j p'] p) (RT G W fun E => wpT S E (.prim .notN (.cons pa .nil))) := by
  refine pt_imp (pt_cmp (pc_notN ha) rfl) fun σ H Q ⟨Z, φ, ρ, μ, E, Qd, at_, w, kk⟩ => ?_
  simp only [wpT, wpEs] at w
  refine ⟨Z, φ, ρ, μ, E, _, at_, w, fun d1 μ1 w1 v φ1 H1 r1 c1 g1 => ?_⟩
  simp only [primD, opt_some, truthD] at w1
  try dsimp only
  rw [isN_rep r1]
  exact ⟨_, rfl, kk _ _ w1 φ1 H1 c1 g1⟩
/-- slices -/
theorem sn_sl0 (x : XOk P G S Γ X W) {a : Expr} {pa : Ex} {p p2 : Pos} (ha : PE X a (RE G W fun E => wpE S E pa)) : PE X (.Subscript a (.Slice none none none p2) p) (RE G W fun E => wpE S E (.prim (.sl false false) (.cons pa .nil))) := by
  refine pe_imp (pe_slice (sl_D x.hK) ha po_none po_none) fun σ H Q ⟨Z, φ, ρ, μ, E, Qd, at_, w, kk⟩ => ?_
  simp only [wpE, wpEs] at w
  refine ⟨Z, φ, ρ, μ, E, _, at_, w, fun d1 μ1 w1 v φ1 H1 r1 c1 g1 => ?_⟩
  simp only [primD] at w1
  obtain ⟨z, e, q⟩ := opt_iff.mp w1
  obtain ⟨d, e2, rfl⟩ := Option.map_eq_some_iff.mp e
  exact ⟨Z, φ1, μ1, d1, d, c1, r1, e2, fun v' φ' H' r c g => kk _ _ q v' φ' H' r c (g1.trans g)⟩
theorem sn_sl1 (x : XOk P G S Γ X W) {a l : Expr} {pa pl : Ex} {p p2 : Pos} (ha : PE X a (RE G W fun E => wpE S E pa)) (hl : PE X l (RE G W fun E => wpE S E pl)) :
    PE X (.Subscript a (.Slice (some l) none none p2) p) (RE G W fun E => wpE S E (.prim (.sl true false) (.cons pa (.cons pl .nil)))) := by
  refine pe_imp (pe_slice (sl_D x.hK) ha (po_some hl) po_none) fun σ H Q ⟨Z, φ, ρ, μ, E, Qd, at_, w, kk⟩ => ?_
  simp only [wpE, wpEs] at w
  refine ⟨Z, φ, ρ, μ, E, _, at_, w, fun d1 μ1 w1 v φ1 H1 r1 c1 g1 => ?_⟩
  refine ⟨Z, φ1, ρ, μ1, E, _, at_.step c1 g1, w1, fun d2 μ2 w2 u φ2 H2 r2 c2 g2 => ?_⟩
  cases d2 with
  | int i =>
    simp only [primD] at w2
    obtain ⟨z, e, q⟩ := opt_iff.mp w2
    obtain ⟨d, e2, rfl⟩ := Option.map_eq_some_iff.mp e
    exact ⟨i, r2.of_int, Z, φ2, μ2, d1, d, c2, r1.grow g2, e2, fun v' φ' H' r c g => kk _ _ q v' φ' H' r c (g1.trans (g2.trans g))⟩
  | _ => simp [primD] at w2
theorem sn_sl2 (x : XOk P G S Γ X W) {a h : Expr} {pa ph : Ex} {p p2 : Pos} (ha : PE X a (RE G W fun E => wpE S E pa)) (hh : PE X h (RE G W fun E => wpE S E ph)) :
    PE X (.Subscript a (.Slice none (some h) none p2) p) (RE G W fun E => wpE S E (.prim (.sl false true) (.cons pa (.cons ph .nil)))) := by
  refine pe_imp (pe_slice (sl_D x.hK) ha po_none (po_some hh)) fun σ H Q ⟨Z, φ, ρ, μ, E, Qd, at_, w, kk⟩ => ?_
  simp only [wpE, wpEs] at w
  refine ⟨Z, φ, ρ, μ, E, _, at_, w, fun d1 μ1 w1 v φ1 H1 r1 c1 g1 => ?_⟩
  refine ⟨Z, φ1, ρ, μ1, E, _, at_.step c1 g1, w1, fun d2 μ2 w2 u φ2 H2 r2 c2 g2 => ?_⟩
  cases d2 with
  | int i =>
    simp only [primD] at w2
    obtain ⟨z, e, q⟩ := opt_iff.mp w2
    obtain ⟨d, e2, rfl⟩ := Option.map_eq_some_iff.mp e
    exact ⟨i, r2.of_int, Z, φ2, μ2, d1, d, c2, r1.grow g2, e2, fun v' φ' H' r c g => kk _ _ q v' φ' H' r c (g1.trans (g2.trans g))⟩
  | _ => simp [primD] at w2
theorem sn_sl3 (x : XOk P G S Γ X W) {a l h : Expr} {pa pl ph : Ex} {p p2 : Pos} (ha : PE X a (RE G W fun E => wpE S E pa)) (hl : PE X l (RE G W fun E => wpE S E pl)) (hh : PE X h (RE G W fun E => wpE S E ph)) :
    PE X (.Subscript a (.Slice (some l) (some h) none p2) p) (RE G W fun E => wpE S E (.sl3 pa pl ph)) := by
  refine pe_imp (pe_slice (sl_D x.hK) ha (po_some hl) (po_some hh)) fun σ H Q ⟨Z, φ, ρ, μ, E, Qd, at_, w, kk⟩ => ?_
  simp only [wpE] at w
  refine ⟨Z, φ, ρ, μ, E, _, at_, w, fun d1 μ1 w1 v φ1 H1 r1 c1 g1 => ?_⟩
  have a1 := at_.step c1 g1
  refine ⟨Z, φ1, ρ, μ1, E, _, a1, w1, fun d2 μ2 w2 u φ2 H2 r2 c2 g2 => ?_⟩
  cases d2 with
  | int i =>
    simp only [ilD, opt_some] at w2
    refine ⟨i, r2.of_int, Z, φ2, ρ, μ2, E, _, a1.step c2 g2, w2, fun d3 μ3 w3 u3 φ3 H3 r3 c3 g3 => ?_⟩
    cases d3 with
    | int j =>
      simp only [ilD, opt_some] at w3
      obtain ⟨d, e2, q⟩ := opt_iff.mp w3
      exact ⟨j, r3.of_int, Z, φ3, μ3, d1, d, c3, r1.grow (g2.trans g3), e2, fun v' φ' H' r c g => kk _ _ q v' φ' H' r c (g1.trans (g2.trans (g3.trans g)))⟩
    | _ => simp [ilD] at w3
  | _ => simp [ilD] at w2
/-- T(a) of a built-in class, f(a) of a built-in function -/
theorem sn_fn (x : XOk P G S Γ X W) {f : Prim} {n : Str} {id : String} {es : Exs} {a : Expr} {p pos : Pos} (hc : CallR X (.builtin id) (RND G fun μ ds => primD f ds μ)) (hb : isB P Γ n = true) (hv : bootBuiltins n = some (.builtin id)) (hn : n ≠ "__name__") (hd : (n == ("__debug__" : Str)) = false)
    (h : PEs G S X W es [a]) (hs : [a].all noStar = true) : PE X (.Call (.Name n p) [a] [] pos) (RE G W fun E => wpE S E (.prim f es)) := by
  have hs' := hs
  simp only [List.all_cons, List.all_nil, Bool.and_true] at hs
  exact pe_n x h hs' fun t ht => pe_callB hc (x.bi hb).2 (x.bi hb).1 hv ht hn hd (star_cons hs) rfl
theorem sn_ty (x : XOk P G S Γ X W) {f : Prim} {n : Str} {T : String} {es : Exs} {a : Expr} {p pos : Pos} (hc : CallR X (.type T) (RND G fun μ ds => primD f ds μ)) (hb : isB P Γ n = true) (hv : bootBuiltins n = some (.type T)) (hn : n ≠ "__name__") (hd : (n == ("__debug__" : Str)) = false)
    (h : PEs G S X W es [a]) (hs : [a].all noStar = true) : PE X (.Call (.Name n p) [a] [] pos) (RE G W fun E => wpE S E (.prim f es)) := by
  have hs' := hs
  simp only [List.all_cons, List.all_nil, Bool.and_true] at hs
  exact pe_n x h hs' fun t ht => pe_callTy hc (x.bi hb).2 (x.bi hb).1 hv ht hn hd (star_cons hs) rfl
end
end PY


set_option Elab.async false
set_option linter.all false
set_option maxRecDepth 100000
set_option maxHeartbeats 4000000
/-! PY, part t: set(xs) of texts, any number of them. -/
namespace PySem
open PySem PySem.Spec PyProof.Rows
/-- how many different texts -/
def dist : List Str → Nat
  | [] => 0
  | x :: r => dist r + (if r.any (· == x) then 0 else 1)
theorem dist_le : ∀ xs : List Str, dist xs ≤ xs.length
  | [] => Nat.le_refl _
  | x :: r => by
    have := dist_le r
    unfold dist
    split <;> simp only [List.length_cons] <;> omega
theorem any_append (xs : List Str) (x k : Str) : (xs ++ [x]).any (· == k) = (xs.any (· == k) || (x == k)) := by simp
theorem dist_snoc : ∀ (xs : List Str) (x : Str), dist (xs ++ [x]) = (if xs.any (· == x) = true then dist xs else dist xs + 1)
  | [], x => by simp [dist]
  | y :: r, x => by
    rw [List.cons_append]
    unfold dist
    rw [dist_snoc r x, any_append, List.any_cons]
    by_cases e : y = x
    · subst e
      have h1 : (y == y) = true := beq_self_eq_true y
      simp only [h1, Bool.or_true, Bool.true_or, if_true]
      by_cases h : (r.any (· == y)) = true
      · simp [h]
      · simp [h]
    · have h1 : (y == x) = false := beq_eq_false_iff_ne.mpr e
      have h2 : (x == y) = false := beq_eq_false_iff_ne.mpr (Ne.symm e)
      simp only [h1, h2, Bool.or_false, Bool.false_or]
      by_cases h : (r.any (· == x)) = true
      · simp [h]
      · simp [h]; split <;> omega
section
variable {prog : Program} {w : World} {A : Around} {R : Result → Shared → Prop} {I : Addr} {fp wr : List Addr} {G : Array GenState → Array GenState → Prop} {n : Nat} {P : Nat → Value → Prop} {St : Nat → Shared → Prop}
theorem loopStrN (W : WalksS prog w A.in1 I fp wr G n P St) (S : Addr) (hSf : S ∉ fp) (xs : List Str) (hsz : xs.length = n) (hb : xs.length + 1 < scanBound)
    (hval : ∀ i v, P i v → ∃ t, v = .str (xs.getD i Str.empty) t) :
    ∀ (k i : Nat) (s : Shared), n - i = k → i ≤ n → St i s →
      s.heap.SetOf (PySem.strKind prog w) S (fun k' => (xs.take i).any (· == k')) (dist (xs.take i)) →
      (∀ s', Moved (S :: wr) G s s' → s'.heap.SetOf (PySem.strKind prog w) S (fun k' => (xs.take n).any (· == k')) (dist (xs.take n)) → R (.ok (.ret .none)) s') →
      codeAny (model prog w) A (.builtin "set.update.loop" ⟨[.ref S, .ref I], []⟩) R s := by
  have hSw : S ∉ wr := fun h => hSf (W.sub _ h)
  have hsub : ∀ b ∈ wr, b ∈ S :: wr := fun b hb => List.mem_cons_of_mem _ hb
  intro k
  induction k with
  | zero =>
    intro i s hk hi hst hS hR
    have hin : i = n := by omega
    subst hin
    refine codeAny_builtin PyProof.Rows.F.entry_set_update_loop ?_
    rw [Around.under_plainId PyProof.Rows.F.plain_set_update_loop _]
    show wpAny _ A.in1 (pyNext (.ref I) >>= _) _ _ s
    refine wpAny_bind (W.done s _ _ hst fun s' hm => ?_)
    show wpAny _ A.in1 (ret Value.none) _ _ s'
    exact wpAny_pure (hR s' (hm.mono hsub) (by
      obtain ⟨o, es, ep, t, ho, rest⟩ := hS
      exact ⟨o, es, ep, t, hm.heap S _ hSw ho, rest⟩))
  | succ k ih =>
    intro i s hk hi hst hS hR
    have hlt : i < n := by omega
    refine codeAny_builtin PyProof.Rows.F.entry_set_update_loop ?_
    rw [Around.under_plainId PyProof.Rows.F.plain_set_update_loop _]
    show wpAny _ A.in1 (pyNext (.ref I) >>= _) _ _ s
    refine wpAny_bind (W.item i s _ _ hlt hst fun v s' hP hst' hm => ?_)
    obtain ⟨t, rfl⟩ := hval i v hP
    have hS' : s'.heap.SetOf (PySem.strKind prog w) S (fun k' => (xs.take i).any (· == k')) (dist (xs.take i)) := by
      obtain ⟨o, es, ep, tb, ho, rest⟩ := hS
      exact ⟨o, es, ep, tb, hm.heap S _ hSw ho, rest⟩
    show wpAny _ A.in1 (holding [Value.str (xs.getD i Str.empty) t] (setAdd S (.str (xs.getD i Str.empty) t)) >>= _) _ _ s'
    refine wpAny_bind (wpAny_holding ?_)
    unfold setAdd
    refine wpAny_holding ?_
    refine wpAny_bind ((PySem.strKind prog w).pyHash (k := xs.getD i Str.empty) (strKind_is _ _ _ _) ?_)
    have room : dist (xs.take i) + 1 < scanBound := by
      have h1 := dist_le (xs.take i)
      rw [List.length_take] at h1
      omega
    refine wpAny_setAddHashed_of (knd := PySem.strKind prog w) (s := { s' with toks := s'.toks + 1 }) (strKind_is _ _ _ _) rfl hS' room fun h' hsb hS2 => ?_
    have hSi : h'.SetOf (PySem.strKind prog w) S (fun k' => (xs.take (i + 1)).any (· == k')) (dist (xs.take (i + 1))) := by
      have hx : xs[i]? = some (xs.getD i Str.empty) := by
        rw [List.getD_eq_getElem?_getD, List.getElem?_eq_getElem (by omega)]; rfl
      have e1 : xs.take (i + 1) = xs.take i ++ [xs.getD i Str.empty] := by
        rw [List.take_add_one, hx]; rfl
      rw [e1, dist_snoc]
      refine SetOf_congr hS2 (fun k' => ?_) rfl
      rw [any_append]
      congr 1
      by_cases e : k' = xs.getD i Str.empty
      · subst e; simp
      · have hb : (xs.getD i Str.empty == k') = false := beq_eq_false_iff_ne.mpr fun h' => e h'.symm
        rw [hb]
        exact decide_eq_false e
    refine wpAny_pure ⟨plainId_quiet PyProof.Rows.F.plain_set_update_loop _, ih (i + 1) _ (by omega) hlt (W.frame _ s' _ _ hst' (Nat.le_succ _) fun b hb o e => ?_) hSi fun s'' hm'' hS'' => ?_⟩
    · rw [hsb.2 b (fun h : b = S => hSf (by rw [← h]; exact hb))]; exact e
    · refine hR s'' (Moved.trans W.gtrans ((hm.mono hsub).then_heap (Nat.le_succ _) fun b o hb e => ?_) hm'') hS''
      rw [hsb.2 b (fun h : b = S => hb (by rw [h]; exact List.mem_cons_self))]; exact e
end
section
variable {prog : Program} {w : World} {A : Around} {E : Value → Shared → Prop} {s : Shared}
set_option maxHeartbeats 3200000 in
theorem call_set_listN {l : Addr} {items : Array Value} {xs : List Str} {Q : Value → Shared → Prop}
    (hh : A.handled = none) (hl : s.heap.IsList l items) (hi : PyProof.Rows.StrsAre items.toList xs) (hn1 : xs.length + 1 < scanBound)
    (h : ∀ (h' : Heap) (tk : Nat), h'.SetOf (PySem.strKind prog w) s.heap.objs.size (fun k' => (xs.take items.size).any (· == k')) (dist (xs.take items.size)) →
      (∀ b o, b < s.heap.objs.size → s.heap.get? b = some o → h'.get? b = some o) → Q (.ref s.heap.objs.size) { s with heap := h', toks := tk }) :
    wpAny (model prog w) A (call (.type "set") [.ref l]) Q E s := by
  obtain ⟨c, tl, hmro⟩ := PySem.F.called_set.mro
  have hmade := PySem.F.called_set.made
  have hsub := PySem.F.called_set.sub
  refine wpAny_call (codeAny_of_tree ?_)
  show wpAny _ _ (callAny (.type "set") _) _ _ _
  refine wpAny_pure ⟨Code.quiet_builtin _ (by decide +kernel), codeAny_builtin PySem.F.entry_type_call ?_⟩
  rw [Around.under_plain (weight_type_call_type "set" [.ref l] []) rfl]
  have h1 := PySem.F.called_set.notType
  have h2 := PySem.F.called_set.canCreate
  have hct := PySem.F.typeCall_set_1 (.ref l)
  repeat (any_goals (first | assumption | wp_step))

  refine codeAny_mono (code_set_new_1 (.ref l) (E := E) (Q₁ := fun obj s₁ => ∃ led : Bool, obj = .ref s.heap.objs.size ∧ s₁ = { s with heap := s.heap.push { cls := .type "set", dict := none, data := .set #[] 0 (.fresh 0 0 led) } }) fun led => ⟨led, rfl, rfl⟩) fun r s₁ hr => ?_
  cases r with
  | error e => exact hr
  | ok fl =>
    cases fl with
    | ret obj =>
      obtain ⟨led, rfl, rfl⟩ := hr
      have hS : (s.heap.push { cls := .type "set", dict := none, data := .set #[] 0 (.fresh 0 0 led) }).get? s.heap.objs.size = some { cls := .type "set", dict := none, data := .set #[] 0 (.fresh 0 0 led) } := Heap.get?_push_size _ rfl
      have hT : Shared.TypeIs { s with heap := s.heap.push { cls := .type "set", dict := none, data := .set #[] 0 (.fresh 0 0 led) } } (.ref s.heap.objs.size) "set" := ⟨_, hS, rfl⟩
      have hli := PySem.F.called_set.init.lookup
      have hbi := PySem.F.called_set.init.bind (.ref s.heap.objs.size)
      repeat (any_goals (first | assumption | wp_step))

      refine codeAny_mono (codeAny_call_builtin (R := wants (fun r s₂ => r = .none ∧ ∃ h' tk, s₂ = { s with heap := h', toks := tk } ∧
          h'.SetOf (PySem.strKind prog w) s.heap.objs.size (fun k' => (xs.take items.size).any (· == k')) (dist (xs.take items.size)) ∧
          (∀ b o, b < s.heap.objs.size → s.heap.get? b = some o → h'.get? b = some o)) E) PySem.F.called_set.init.plain PySem.F.entry_set_init (check_set_init_1 hT ?_)) fun r₂ s₂ hr₂ => ?_
      · obtain ⟨ol, hol, hcl, nl, hdl⟩ := hl
        obtain ⟨ocls, odict, odata, oslots⟩ := ol
        simp only at hcl hdl
        subst hcl; subst hdl
        have hol' : (s.heap.push { cls := .type "set", dict := none, data := .set #[] 0 (.fresh 0 0 led) }).get? l = some { cls := .type "list", dict := odict, data := .seq items nl, slots := oslots } := Heap.get?_push_of_some _ hol
        have hsls := PySem.F.sub_list_set
        have hslf := PySem.F.sub_list_frozenset
        have hne : (Value.type "list" == Value.type "dict") = false := by decide
        have hl1 : (s.heap.push { cls := .type "set", dict := none, data := .set #[] 0 (.fresh 0 0 led) }).IsList l items := ⟨_, hol', rfl, nl, rfl⟩
        unfold Builtin.«set.__init__» noKeywords Builtin.Frozenset.updateFrom
        generalize hPI : pyIter = PI
        wp_walk
        subst hPI

        refine wpAny_pyIter_list hl1 ?_
        refine wpAny_bind (wpAny_runValue ?_)
        have hlS : l < s.heap.objs.size := Heap.lt_size hol
        have hh3 : A.in1.in1.in1.handled = none := by simp [hh]
        have hneI : l ≠ (s.heap.push { cls := .type "set", dict := none, data := .set #[] 0 (.fresh 0 0 led) }).objs.size := by
          rw [Heap.size_push]; exact Nat.ne_of_lt (Nat.lt_succ_of_lt hlS)
        have hSf : s.heap.objs.size ∉ [(s.heap.push { cls := .type "set", dict := none, data := .set #[] 0 (.fresh 0 0 led) }).objs.size, l] := by
          rw [Heap.size_push]; simp only [List.mem_cons, List.mem_singleton, List.not_mem_nil, or_false, not_or]
          exact ⟨Nat.ne_of_lt (Nat.lt_succ_self _), Nat.ne_of_gt hlS⟩
        have hsz : xs.length = items.size := by rw [← StrsAre.len_eq hi, Array.length_toList]
        have hval : ∀ (i : Nat) (v : Value), items[i]? = some v → ∃ t, v = .str (xs.getD i Str.empty) t := fun i v hv => SS.strs_at hi i v (by rw [Array.getElem?_toList]; exact hv)
        refine loopStrN ((Walks.list hh3 _ l hneI items).toS) s.heap.objs.size
          hSf xs hsz hn1 hval (items.size - 0) 0 _ (by omega) (Nat.zero_le _)
          ⟨⟨_, Heap.get?_push_size _ rfl, rfl, rfl⟩, (hl1.push _)⟩ ?hS0 ?hR
        case hS0 =>
          have hget : ((s.heap.push { cls := .type "set", dict := none, data := .set #[] 0 (.fresh 0 0 led) }).push { cls := .type "list_iterator", data := .fields #[.ref l, .int 0 0] }).get? s.heap.objs.size
              = some { cls := .type "set", dict := none, data := .set #[] 0 (.fresh 0 0 led) } := Heap.get?_push_of_some _ hS
          exact PyProof.Rows.SetOf_congr ((PyProof.Rows.setObjOf_fresh (knd := PySem.strKind prog w) led).setOf hget (by unfold scanBound; omega)) (fun _ => rfl) rfl
        case hR =>
          intro s' hm hS'
          obtain ⟨h', g', d', tk', os'⟩ := s'
          have eg : g' = s.gens := hm.gens
          have ed : d' = s.drawn := hm.drawn
          have eo : os' = s.os := hm.os
          subst eg; subst ed; subst eo
          show wpAny _ _ _ _ _ _
          refine wpAny_pure ?_
          show wpAny _ _ (ret Value.none) _ _ _
          refine wpAny_pure ⟨rfl, h', tk', rfl, hS', fun b o hb e => ?_⟩
          have hb1 : b ≠ s.heap.objs.size := Nat.ne_of_lt hb
          have hb2 : b ≠ (s.heap.push { cls := .type "set", dict := none, data := .set #[] 0 (.fresh 0 0 led) }).objs.size := by
            rw [Heap.size_push]; exact Nat.ne_of_lt (Nat.lt_succ_of_lt hb)
          exact hm.heap b o (by simp only [List.mem_cons, List.mem_singleton, List.not_mem_nil, or_false, not_or]; exact ⟨hb1, hb2⟩) (Heap.get?_push_of_some _ (Heap.get?_push_of_some _ e))

      · cases r₂ with
        | error e => exact hr₂
        | ok fl₂ =>
          cases fl₂ with
          | ret r =>
            obtain ⟨rfl, h', tk, rfl, hS', hk'⟩ := hr₂
            repeat (any_goals (first | assumption | wp_step))
            exact h _ _ hS' hk'
          | _ => exact hr₂.elim
    | _ => exact hr.elim

set_option maxHeartbeats 3200000 in
theorem call_set_tupN {l : Addr} {items : Array Value} {xs : List Str} {Q : Value → Shared → Prop}
    (hh : A.handled = none) (hl : s.heap.IsTuple l items) (hi : PyProof.Rows.StrsAre items.toList xs) (hn1 : xs.length + 1 < scanBound)
    (h : ∀ (h' : Heap) (tk : Nat), h'.SetOf (PySem.strKind prog w) s.heap.objs.size (fun k' => (xs.take items.size).any (· == k')) (dist (xs.take items.size)) →
      (∀ b o, b < s.heap.objs.size → s.heap.get? b = some o → h'.get? b = some o) → Q (.ref s.heap.objs.size) { s with heap := h', toks := tk }) :
    wpAny (model prog w) A (call (.type "set") [.ref l]) Q E s := by
  obtain ⟨c, tl, hmro⟩ := PySem.F.called_set.mro
  have hmade := PySem.F.called_set.made
  have hsub := PySem.F.called_set.sub
  refine wpAny_call (codeAny_of_tree ?_)
  show wpAny _ _ (callAny (.type "set") _) _ _ _
  refine wpAny_pure ⟨Code.quiet_builtin _ (by decide +kernel), codeAny_builtin PySem.F.entry_type_call ?_⟩
  rw [Around.under_plain (weight_type_call_type "set" [.ref l] []) rfl]
  have h1 := PySem.F.called_set.notType
  have h2 := PySem.F.called_set.canCreate
  have hct := PySem.F.typeCall_set_1 (.ref l)
  repeat (any_goals (first | assumption | wp_step))

  refine codeAny_mono (code_set_new_1 (.ref l) (E := E) (Q₁ := fun obj s₁ => ∃ led : Bool, obj = .ref s.heap.objs.size ∧ s₁ = { s with heap := s.heap.push { cls := .type "set", dict := none, data := .set #[] 0 (.fresh 0 0 led) } }) fun led => ⟨led, rfl, rfl⟩) fun r s₁ hr => ?_
  cases r with
  | error e => exact hr
  | ok fl =>
    cases fl with
    | ret obj =>
      obtain ⟨led, rfl, rfl⟩ := hr
      have hS : (s.heap.push { cls := .type "set", dict := none, data := .set #[] 0 (.fresh 0 0 led) }).get? s.heap.objs.size = some { cls := .type "set", dict := none, data := .set #[] 0 (.fresh 0 0 led) } := Heap.get?_push_size _ rfl
      have hT : Shared.TypeIs { s with heap := s.heap.push { cls := .type "set", dict := none, data := .set #[] 0 (.fresh 0 0 led) } } (.ref s.heap.objs.size) "set" := ⟨_, hS, rfl⟩
      have hli := PySem.F.called_set.init.lookup
      have hbi := PySem.F.called_set.init.bind (.ref s.heap.objs.size)
      repeat (any_goals (first | assumption | wp_step))

      refine codeAny_mono (codeAny_call_builtin (R := wants (fun r s₂ => r = .none ∧ ∃ h' tk, s₂ = { s with heap := h', toks := tk } ∧
          h'.SetOf (PySem.strKind prog w) s.heap.objs.size (fun k' => (xs.take items.size).any (· == k')) (dist (xs.take items.size)) ∧
          (∀ b o, b < s.heap.objs.size → s.heap.get? b = some o → h'.get? b = some o)) E) PySem.F.called_set.init.plain PySem.F.entry_set_init (check_set_init_1 hT ?_)) fun r₂ s₂ hr₂ => ?_
      · obtain ⟨ol, hol, hcl, nl, hdl⟩ := hl
        obtain ⟨ocls, odict, odata, oslots⟩ := ol
        simp only at hcl hdl
        subst hcl; subst hdl
        have hol' : (s.heap.push { cls := .type "set", dict := none, data := .set #[] 0 (.fresh 0 0 led) }).get? l = some { cls := .type "tuple", dict := odict, data := .seq items nl, slots := oslots } := Heap.get?_push_of_some _ hol
        have hsls := PySem.F.sub_tuple_set
        have hslf := PySem.F.sub_tuple_frozenset
        have hne : (Value.type "tuple" == Value.type "dict") = false := by decide
        have hl1 : (s.heap.push { cls := .type "set", dict := none, data := .set #[] 0 (.fresh 0 0 led) }).IsTuple l items := ⟨_, hol', rfl, nl, rfl⟩
        unfold Builtin.«set.__init__» noKeywords Builtin.Frozenset.updateFrom
        generalize hPI : pyIter = PI
        wp_walk
        subst hPI

        refine wpAny_pyIter_tuple hl1 ?_
        refine wpAny_bind (wpAny_runValue ?_)
        have hlS : l < s.heap.objs.size := Heap.lt_size hol
        have hh3 : A.in1.in1.in1.handled = none := by simp [hh]
        have hneI : l ≠ (s.heap.push { cls := .type "set", dict := none, data := .set #[] 0 (.fresh 0 0 led) }).objs.size := by
          rw [Heap.size_push]; exact Nat.ne_of_lt (Nat.lt_succ_of_lt hlS)
        have hSf : s.heap.objs.size ∉ [(s.heap.push { cls := .type "set", dict := none, data := .set #[] 0 (.fresh 0 0 led) }).objs.size, l] := by
          rw [Heap.size_push]; simp only [List.mem_cons, List.mem_singleton, List.not_mem_nil, or_false, not_or]
          exact ⟨Nat.ne_of_lt (Nat.lt_succ_self _), Nat.ne_of_gt hlS⟩
        have hsz : xs.length = items.size := by rw [← StrsAre.len_eq hi, Array.length_toList]
        have hval : ∀ (i : Nat) (v : Value), items[i]? = some v → ∃ t, v = .str (xs.getD i Str.empty) t := fun i v hv => SS.strs_at hi i v (by rw [Array.getElem?_toList]; exact hv)
        refine loopStrN ((Walks.tuple hh3 _ l hneI items).toS) s.heap.objs.size
          hSf xs hsz hn1 hval (items.size - 0) 0 _ (by omega) (Nat.zero_le _)
          ⟨⟨_, Heap.get?_push_size _ rfl, rfl, rfl⟩, (hl1.push _)⟩ ?hS0 ?hR
        case hS0 =>
          have hget : ((s.heap.push { cls := .type "set", dict := none, data := .set #[] 0 (.fresh 0 0 led) }).push { cls := .type "tuple_iterator", data := .fields #[.ref l, .int 0 0] }).get? s.heap.objs.size
              = some { cls := .type "set", dict := none, data := .set #[] 0 (.fresh 0 0 led) } := Heap.get?_push_of_some _ hS
          exact PyProof.Rows.SetOf_congr ((PyProof.Rows.setObjOf_fresh (knd := PySem.strKind prog w) led).setOf hget (by unfold scanBound; omega)) (fun _ => rfl) rfl
        case hR =>
          intro s' hm hS'
          obtain ⟨h', g', d', tk', os'⟩ := s'
          have eg : g' = s.gens := hm.gens
          have ed : d' = s.drawn := hm.drawn
          have eo : os' = s.os := hm.os
          subst eg; subst ed; subst eo
          show wpAny _ _ _ _ _ _
          refine wpAny_pure ?_
          show wpAny _ _ (ret Value.none) _ _ _
          refine wpAny_pure ⟨rfl, h', tk', rfl, hS', fun b o hb e => ?_⟩
          have hb1 : b ≠ s.heap.objs.size := Nat.ne_of_lt hb
          have hb2 : b ≠ (s.heap.push { cls := .type "set", dict := none, data := .set #[] 0 (.fresh 0 0 led) }).objs.size := by
            rw [Heap.size_push]; exact Nat.ne_of_lt (Nat.lt_succ_of_lt hb)
          exact hm.heap b o (by simp only [List.mem_cons, List.mem_singleton, List.not_mem_nil, or_false, not_or]; exact ⟨hb1, hb2⟩) (Heap.get?_push_of_some _ (Heap.get?_push_of_some _ e))

      · cases r₂ with
        | error e => exact hr₂
        | ok fl₂ =>
          cases fl₂ with
          | ret r =>
            obtain ⟨rfl, h', tk, rfl, hS', hk'⟩ := hr₂
            repeat (any_goals (first | assumption | wp_step))
            exact h _ _ hS' hk'
          | _ => exact hr₂.elim
    | _ => exact hr.elim

end
end PySem

set_option Elab.async false
set_option linter.all false
set_option maxRecDepth 100000
set_option maxHeartbeats 4000000
/-! PY, part t2: sets of texts that can be walked; sorted of them. -/
namespace L2
open PySem PySem.Spec PyProof.Rows
def rawZ : Value → Str
  | .str k _ => k
  | _ => Str.empty
def keyOfZ (e : Int × Value) : Str := rawZ e.2
def GoodZ (w : World) (e : Int × Value) : Prop := ∃ k tk, e.2 = Value.str k tk ∧ e.1 = hashStr w k

/-- the set of ints at a: S its members, n their number; its table rises and can be walked -/
def SetRZ (w : World) (h : Heap) (a : Addr) (S : Str → Bool) (n : Nat) : Prop :=
  ∃ o es ep t, h.get? a = some o ∧ o.ExactSet ∧ o.data = .set es ep t ∧ (∀ e ∈ es.toList, GoodZ w e) ∧ (es.toList.map keyOfZ).Nodup ∧ (∀ k, S k = true ↔ k ∈ es.toList.map keyOfZ) ∧
    es.size < scanBound ∧ t.fits es.size = true ∧ es.size = n ∧ Ris t.place.toList ∧ (w.params.followText "set-order" = true ∨ t.led = true)

section
variable {P : Program} {w : World} {h h' : Heap} {a : Addr} {S : Str → Bool} {n : Nat}

theorem SetRZ.at (R : SetRZ w h a S n) (k : ∀ o, h.get? a = some o → h'.get? a = some o) : SetRZ w h' a S n := by
  obtain ⟨o, es, ep, t, ho, r⟩ := R
  exact ⟨o, es, ep, t, k o ho, r⟩
theorem SetRZ.lt (R : SetRZ w h a S n) : a < h.objs.size := by
  obtain ⟨o, es, ep, t, ho, r⟩ := R
  exact Heap.lt_size ho
theorem SetRZ.congr {S' : Str → Bool} (R : SetRZ w h a S n) (e : ∀ k, S' k = S k) : SetRZ w h a S' n := by
  have q : S' = S := funext e
  rw [q]; exact R
theorem goodZ_elems {l : List (Int × Value)} (g : ∀ e ∈ l, GoodZ w e) : ElemsOf (PySem.strKind P w) l := fun e he => by
  obtain ⟨k, tk, h1, h2⟩ := g e he
  exact ⟨⟨k, by rw [h1]; exact strKind_is P w k tk, h2⟩, by rw [h1] <;> rfl⟩
theorem goodZ_is {e : Int × Value} (g : GoodZ w e) (k : Str) : (PySem.strKind P w).is k e.2 = true ↔ keyOfZ e = k := by
  obtain ⟨k0, tk, h1, _⟩ := g
  unfold keyOfZ
  rw [h1]
  show (Value.isStrOf k (.str k0 tk) = true) ↔ k0 = k
  simp [Value.isStrOf]
theorem goodZ_mem {l : List (Int × Value)} (g : ∀ e ∈ l, GoodZ w e) (k : Str) : k ∈ l.map keyOfZ ↔ ∃ e ∈ l, (PySem.strKind P w).is k e.2 = true := by
  rw [List.mem_map]
  constructor
  · rintro ⟨e, he, q⟩
    exact ⟨e, he, (goodZ_is (g e he) k).2 q⟩
  · rintro ⟨e, he, q⟩
    exact ⟨e, he, (goodZ_is (g e he) k).1 q⟩
end
section
variable {P : Program} {w : World} {A : Around} {E : Value → Shared → Prop} {s : Shared} {a : Addr} {S : Str → Bool} {n : Nat}
theorem setRZ_add_tail {g : Bool → Sem Unit} (hg : ∀ (b : Bool) (s₁ : Shared) (Q' : Unit → Shared → Prop), Q' () s₁ → wpAny (model P w) A (g b) Q' E s₁)
    {o : Obj} {es : Array (Int × Value)} {ep : Nat} {t : SetTable} (ho : s.heap.get? a = some o) (hex : o.ExactSet) (hd : o.data = .set es ep t)
    {es1 : Array (Int × Value)} {t2 : SetTable} {S' : Str → Bool} (g1 : ∀ e ∈ es1.toList, GoodZ w e) (nd1 : (es1.toList.map keyOfZ).Nodup) (m1 : ∀ k, S' k = true ↔ k ∈ es1.toList.map keyOfZ)
    (hb1 : es1.size < scanBound) (hf2 : t2.fits es1.size = true) (hr : Ris t2.place.toList) (hl : w.params.followText "set-order" = true ∨ t2.led = true) {wasDummy : Bool} {R : Option Bool → Shared → Prop}
    (hR : ∀ h', Heap.SameBut a s.heap h' → SetRZ w h' a S' es1.size → R (some true) { s with heap := h' }) :
    wpAny (model P w) A (do
        storeSet a es1 t2
        if (!wasDummy && t2.tooFull) = true then do
            g (relayAll t2 es1 (SetTable.grown es1.size)).2.2
            storeSet a (relayAll t2 es1 (SetTable.grown es1.size)).1 (relayAll t2 es1 (SetTable.grown es1.size)).2.1
            pure (some true)
          else pure (some true)) R E s := by
  refine wpAny_bind (wpAny_storeSet_of ho hd ?_ (fits_of_scanBound hb1))
  have ho1 := store_at (es' := es1) (t' := t2) ho hd
  have sb1 := Heap.SameBut.update s.heap a (Obj.putSet es1 t2)
  split
  · have pm := relayAll_perm t2 es1 (SetTable.grown es1.size)
    have hf3 := relayAll_fits t2 es1 (SetTable.grown es1.size)
    have hr3 := relayAll_ris t2 es1 (SetTable.grown es1.size)
    have hl3 := relayAll_led t2 es1 (SetTable.grown es1.size)
    generalize relayAll t2 es1 (SetTable.grown es1.size) = Z at pm hf3 hr3 hl3 ⊢
    obtain ⟨es2, t3, gave⟩ := Z
    dsimp only at pm hf3 hr3 hl3 ⊢
    have hsz : es2.size = es1.size := by rw [← Array.length_toList, pm.length_eq, Array.length_toList]
    have hb2 : es2.size < scanBound := by rw [hsz]; exact hb1
    refine wpAny_bind (hg _ _ _ ?_)
    refine wpAny_bind (wpAny_storeSet_of ho1 rfl ?_ (fits_of_scanBound hb2))
    have ho2 := store_at (es' := es2) (t' := t3) ho1 rfl
    refine wpAny_pure (hR _ (sb1.trans (Heap.SameBut.update _ a _)) ?_)
    exact ⟨_, es2, _, t3, ho2, hex, rfl, fun e he => g1 e (pm.mem_iff.mp he), (pm.map keyOfZ).nodup_iff.mpr nd1, fun k => (m1 k).trans (pm.map keyOfZ).mem_iff.symm, hb2, hf3, hsz, hr3,
      hl.imp id fun z => by rw [hl3]; exact z⟩
  · exact wpAny_pure (hR _ sb1 ⟨_, es1, _, t2, ho1, hex, rfl, g1, nd1, m1, hb1, hf2, rfl, hr, hl⟩)

theorem setRZ_add_hashed {k : Str} {tk : Tok} {Q : Bool → Shared → Prop} (R : SetRZ w s.heap a S n) (room : n + 1 < scanBound)
    (hQ : ∀ h', Heap.SameBut a s.heap h' → SetRZ w h' a (fun j => S j || decide (j = k)) (if S k = true then n else n + 1) → Q (!S k) { s with heap := h' }) :
    wpAny (model P w) A (setAddHashed a (.str k tk) ((PySem.strKind P w).hash k)) Q E s := by
  obtain ⟨o, es, ep, t, ho, hex, hd, g, nd, hm, hb, hf, hn, hr, hl⟩ := R
  have hkey : (PySem.strKind P w).is k (.str k tk) = true := strKind_is P w k tk
  have hsc : (Value.str k tk).scannable = true := rfl
  have hel : ElemsOf (PySem.strKind P w) es.toList := goodZ_elems g
  unfold setAddHashed setAddHashedIn
  refine wpAny_holding (wpAny_bind (wpAny_setState_of ho hd hf ?_))
  dsimp only
  rw [byScan_of hsc hb hel]
  simp only [↓reduceIte]
  unfold setAddByScan
  refine wpAny_bind ?_
  refine wpAny_bind (wpAny_rule ?_)
  refine wpAny_bind (wpAny_setScan_of hkey ho hd hf hel ?_)
  cases hfi : List.findIdx? (fun e => (PySem.strKind P w).is k e.2) es.toList with
  | some j =>
    dsimp only
    obtain ⟨hj, pj, _⟩ := List.findIdx?_eq_some_iff_getElem.mp hfi
    have hSk : S k = true := (hm k).2 ((goodZ_mem (P := P) (w := w) g k).2 ⟨es.toList[j], List.getElem_mem hj, pj⟩)
    refine wpAny_pure (wpAny_pure ?_)
    have q := hQ s.heap (Heap.SameBut.refl a s.heap) ⟨o, es, ep, t, ho, hex, hd, g, nd, fun i => by
      rw [Bool.or_eq_true, decide_eq_true_eq, ← hm i]
      exact ⟨fun z => z.elim id (fun e => e ▸ hSk), .inl⟩, hb, hf, by rw [if_pos hSk]; exact hn, hr, hl⟩
    rw [hSk] at q
    exact q
  | none =>
    dsimp only
    have hnk : k ∉ es.toList.map keyOfZ := fun z => by
      obtain ⟨e, he, q⟩ := (goodZ_mem (P := P) (w := w) g k).1 z
      have c := List.findIdx?_eq_none_iff.mp hfi e he
      rw [q] at c
      cases c
    have hSk : S k = false := by
      cases q : S k with
      | false => rfl
      | true => exact absurd ((hm k).1 q) hnk
    have hgw : ∀ (b : Bool) {s₁ : Shared} {Q' : Unit → Shared → Prop}, Q' () s₁ → wpAny (model P w) A (match b with | true => rule "set.scan.the-table-gave-way" | false => pure ()) Q' E s₁ :=
      fun b s₁ Q' q => by cases b <;> first | exact wpAny_pure q | exact wpAny_rule q
    have pm := layNew_perm t es ((PySem.strKind P w).hash k) (.str k tk)
    have hf1 := layNew_fits t es ((PySem.strKind P w).hash k) (.str k tk)
    have hr1 := layNew_ris t es ((PySem.strKind P w).hash k) (.str k tk) hr
    have hl1 := layNew_led t es ((PySem.strKind P w).hash k) (.str k tk)
    generalize layNew t es ((PySem.strKind P w).hash k) (.str k tk) = Z at pm hf1 hr1 hl1 ⊢
    obtain ⟨es1, t1, wasDummy, gave⟩ := Z
    dsimp only at pm hf1 hr1 hl1 ⊢
    rw [Array.toList_push] at pm
    have pc : es1.toList.Perm (((PySem.strKind P w).hash k, Value.str k tk) :: es.toList) := pm.trans (List.perm_append_singleton _ _)
    have pk : (es1.toList.map keyOfZ).Perm (k :: es.toList.map keyOfZ) := pc.map keyOfZ
    have g1 : ∀ e ∈ es1.toList, GoodZ w e := fun e he => by
      rcases List.mem_cons.mp (pc.mem_iff.mp he) with z | z
      · rw [z]; exact ⟨k, tk, rfl, rfl⟩
      · exact g e z
    have nd1 : (es1.toList.map keyOfZ).Nodup := pk.nodup_iff.mpr (List.nodup_cons.mpr ⟨hnk, nd⟩)
    have m1 : ∀ i, (S i || decide (i = k)) = true ↔ i ∈ es1.toList.map keyOfZ := fun i => by
      rw [Bool.or_eq_true, decide_eq_true_eq, hm i, pk.mem_iff, List.mem_cons]
      exact Or.comm
    have hsz : es1.size = n + 1 := by rw [← Array.length_toList, pc.length_eq, List.length_cons, Array.length_toList, hn]
    have hb1 : es1.size < scanBound := by rw [hsz]; exact room
    have hled : w.params.followText "set-order" = true ∨ t1.led = true := hl.imp id fun z => by rw [hl1]; exact z
    have fin : ∀ h', Heap.SameBut a s.heap h' → SetRZ w h' a (fun j => S j || decide (j = k)) es1.size → Q true { s with heap := h' } := fun h' sb r => by
      have q := hQ h' sb
      rw [hSk] at q
      rw [hsz] at r
      exact q r
    refine wpAny_bind (hgw _ ?_)
    split
    · refine wpAny_bind ?_
      rw [hashByValue_scannable 8 hsc]
      refine wpAny_pure ?_
      refine setRZ_add_tail ?_ ho hex hd g1 nd1 m1 hb1 ?_ ?_ ?_ ?_
      · intro b s₁ Q' q; cases b <;> first | exact wpAny_pure q | exact wpAny_rule q
      · first | (split <;> first | exact hf1 | exact SetTable.fits_plain_off hf1) | exact hf1
      · first | (split <;> exact hr1) | exact hr1
      · first | (split <;> exact hled) | exact hled
      · intro h' sb r; dsimp only; exact wpAny_pure (fin h' sb r)
    · refine wpAny_bind (wpAny_pure ?_)
      simp only [↓reduceIte]
      refine setRZ_add_tail ?_ ho hex hd g1 nd1 m1 hb1 hf1 hr1 hled ?_
      · intro b s₁ Q' q; cases b <;> first | exact wpAny_pure q | exact wpAny_rule q
      · intro h' sb r; dsimp only; exact wpAny_pure (fin h' sb r)

theorem setRZ_new_at {w : World} {h : Heap} {a : Addr} {ns : List Str} (ho : h.get? a = some { cls := .type "set", dict := none, data := .set #[] 0 (.fresh 0 0 (!w.params.followText "set-order")) }) : SetRZ w h a (fun j => decide (j ∈ ns.take 0)) 0 :=
  ⟨_, #[], 0, _, ho, ⟨rfl, rfl, rfl⟩, rfl, (fun e he => by simp at he), (by simp), (fun k => by simp), (by decide), (by rfl), rfl, List.Pairwise.nil, by
    show _ ∨ (!w.params.followText "set-order") = true
    cases w.params.followText "set-order"
    · exact .inr rfl
    · exact .inl rfl⟩
end
section
variable {P : Program} {w : World} {A : Around} {E : Value → Shared → Prop} {s : Shared}
theorem set_update_strs {I : Addr} {fp wr : List Addr} {G : Array GenState → Array GenState → Prop} {n : Nat} {Pv : Nat → Value → Prop} {St : Nat → Shared → Prop} {R : Result → Shared → Prop}
    (W : WalksS P w A.in1 I fp wr G n Pv St) (S : Addr) (hSf : S ∉ fp) (ns : List Str) (hn : n = ns.length) (hb : ns.length + 1 < scanBound) (hval : ∀ i v, Pv i v → ∃ k t, ns[i]? = some k ∧ v = .str k t) :
    ∀ (k i : Nat) (s : Shared), n - i = k → i ≤ n → St i s → (∃ c, c ≤ i ∧ SetRZ w s.heap S (fun j => decide (j ∈ ns.take i)) c) →
      (∀ s' c, Moved (S :: wr) G s s' → c ≤ n → SetRZ w s'.heap S (fun j => decide (j ∈ ns)) c → R (.ok (.ret .none)) s') →
      codeAny (model P w) A (.builtin "set.update.loop" ⟨[.ref S, .ref I], []⟩) R s := by
  have hSw : S ∉ wr := fun h => hSf (W.sub _ h)
  have hsub : ∀ b ∈ wr, b ∈ S :: wr := fun b hb => List.mem_cons_of_mem _ hb
  intro k
  induction k with
  | zero =>
    intro i s hk' hi hst ⟨c, hc, hS⟩ hR
    have hin : i = n := by omega
    subst hin
    refine codeAny_builtin F.entry_set_update_loop ?_
    rw [Around.under_plainId F.plain_set_update_loop _]
    show wpAny _ A.in1 (pyNext (.ref I) >>= _) _ _ s
    refine wpAny_bind (W.done s _ _ hst fun s' hm => ?_)
    show wpAny _ A.in1 (ret Value.none) _ _ s'
    have e : ns.take i = ns := List.take_of_length_le (by omega)
    rw [e] at hS
    exact wpAny_pure (hR s' c (hm.mono hsub) hc (hS.at fun o e => hm.heap S o hSw e))
  | succ k ih =>
    intro i s hk' hi hst ⟨c, hc, hS⟩ hR
    have hlt : i < n := by omega
    refine codeAny_builtin F.entry_set_update_loop ?_
    rw [Around.under_plainId F.plain_set_update_loop _]
    show wpAny _ A.in1 (pyNext (.ref I) >>= _) _ _ s
    refine wpAny_bind (W.item i s _ _ hlt hst fun v s' hP hst' hm => ?_)
    obtain ⟨z, t, hz, rfl⟩ := hval i v hP
    have hS' : SetRZ w s'.heap S (fun j => decide (j ∈ ns.take i)) c := hS.at fun o e => hm.heap S o hSw e
    show wpAny _ A.in1 (holding [Value.str z t] (setAdd S (.str z t)) >>= _) _ _ s'
    refine wpAny_bind (wpAny_holding ?_)
    unfold setAdd
    refine wpAny_holding ?_
    refine wpAny_bind ((PySem.strKind P w).pyHash (k := z) (strKind_is _ _ _ _) ?_)
    refine setRZ_add_hashed (s := { s' with toks := s'.toks + 1 }) hS' (by omega) fun h' hsb hS2 => ?_
    have hS3 : SetRZ w h' S (fun j => decide (j ∈ ns.take (i + 1))) (if decide (z ∈ ns.take i) = true then c else c + 1) := hS2.congr fun j => by
      rw [List.take_add_one, hz]
      simp [List.mem_append]
    have hc3 : (if decide (z ∈ ns.take i) = true then c else c + 1) ≤ i + 1 := by
      split <;> omega
    refine wpAny_pure ⟨plainId_quiet F.plain_set_update_loop _, ih (i + 1) _ (by omega) hlt (W.frame _ s' _ _ hst' (Nat.le_succ _) fun b hb o e => ?_) ⟨_, hc3, hS3⟩ fun s'' c2 hm'' hc'' hS'' => ?_⟩
    · rw [hsb.2 b (fun h : b = S => hSf (by rw [← h]; exact hb))]; exact e
    · refine hR s'' c2 (Moved.trans W.gtrans ((hm.mono hsub).then_heap (Nat.le_succ _) fun b o hb e => ?_) hm'') hc'' hS''
      rw [hsb.2 b (fun h : b = S => hb (by rw [h]; exact List.mem_cons_self))]; exact e

set_option maxRecDepth 100000 in
set_option maxHeartbeats 3200000 in
theorem call_set_tupZ {l : Addr} {items : Array Value} (ns : List Str) {Q : Value → Shared → Prop} (hh : A.handled = none) (hl : s.heap.IsTuple l items) (hit : StrsAre items.toList ns) (hb : ns.length + 1 < scanBound)
    (h : ∀ (h' : Heap) (tk c : Nat), SetRZ w h' s.heap.objs.size (fun j => decide (j ∈ ns)) c → c ≤ ns.length → (∀ b o, s.heap.get? b = some o → h'.get? b = some o) → Q (.ref s.heap.objs.size) { s with heap := h', toks := tk }) :
    wpAny (model P w) A (call (.type "set") [.ref l]) Q E s := by
  have hisz : items.size = ns.length := by
    rw [← PyProof.Rows.StrsAre.len_eq hit, Array.length_toList]
  obtain ⟨c, tl, hmro⟩ := F.called_set.mro
  have hmade := F.called_set.made
  have hsub := F.called_set.sub
  refine wpAny_call (codeAny_of_tree ?_)
  show wpAny _ _ (callAny (.type "set") _) _ _ _
  refine wpAny_pure ⟨Code.quiet_builtin _ (by decide +kernel), codeAny_builtin F.entry_type_call ?_⟩
  rw [Around.under_plain (weight_type_call_type "set" [.ref l] []) rfl]
  have h1 := F.called_set.notType
  have h2 := F.called_set.canCreate
  have hct := F.typeCall_set_1 (.ref l)
  repeat (any_goals (first | assumption | wp_step))

  refine codeAny_mono (code_set_led1 (.ref l) (E := E) (Q₁ := fun obj s₁ => obj = .ref s.heap.objs.size ∧ s₁ = { s with heap := s.heap.push { cls := .type "set", dict := none, data := .set #[] 0 (.fresh 0 0 (!w.params.followText "set-order")) } }) ⟨rfl, rfl⟩) fun r s₁ hr => ?_
  cases r with
  | error e => exact hr
  | ok fl =>
    cases fl with
    | ret obj =>
      obtain ⟨rfl, rfl⟩ := hr
      have hS : (s.heap.push { cls := .type "set", dict := none, data := .set #[] 0 (.fresh 0 0 (!w.params.followText "set-order")) }).get? s.heap.objs.size = some { cls := .type "set", dict := none, data := .set #[] 0 (.fresh 0 0 (!w.params.followText "set-order")) } := Heap.get?_push_size _ rfl
      have hT : Shared.TypeIs { s with heap := s.heap.push { cls := .type "set", dict := none, data := .set #[] 0 (.fresh 0 0 (!w.params.followText "set-order")) } } (.ref s.heap.objs.size) "set" := ⟨_, hS, rfl⟩
      have hli := F.called_set.init.lookup
      have hbi := F.called_set.init.bind (.ref s.heap.objs.size)
      repeat (any_goals (first | assumption | wp_step))

      refine codeAny_mono (codeAny_call_builtin (R := wants (fun r s₂ => r = .none ∧ ∃ h' tk c, s₂ = { s with heap := h', toks := tk } ∧ SetRZ w h' s.heap.objs.size (fun j => decide (j ∈ ns)) c ∧ c ≤ ns.length ∧
          (∀ b o, s.heap.get? b = some o → h'.get? b = some o)) E) F.called_set.init.plain F.entry_set_init (check_set_init_1 hT ?_)) fun r₂ s₂ hr₂ => ?_
      · obtain ⟨ol, hol, hcl, nl, hdl⟩ := hl
        obtain ⟨ocls, odict, odata, oslots⟩ := ol
        simp only at hcl hdl
        subst hcl; subst hdl
        have hol' : (s.heap.push { cls := .type "set", dict := none, data := .set #[] 0 (.fresh 0 0 (!w.params.followText "set-order")) }).get? l = some { cls := .type "tuple", dict := odict, data := .seq items nl, slots := oslots } := Heap.get?_push_of_some _ hol
        have hsls := F.sub_tuple_set
        have hslf := F.sub_tuple_frozenset
        have hne : (Value.type "tuple" == Value.type "dict") = false := by decide
        have hl1 : (s.heap.push { cls := .type "set", dict := none, data := .set #[] 0 (.fresh 0 0 (!w.params.followText "set-order")) }).IsTuple l items := ⟨_, hol', rfl, nl, rfl⟩
        unfold Builtin.«set.__init__» noKeywords Builtin.Frozenset.updateFrom
        generalize hPI : pyIter = PI
        wp_walk
        subst hPI

        refine wpAny_pyIter_tuple hl1 ?_
        refine wpAny_bind (wpAny_runValue ?_)
        have hlS : l < s.heap.objs.size := Heap.lt_size hol
        have hh3 : A.in1.in1.in1.handled = none := by simp [hh]
        have hz1 : (s.heap.push { cls := .type "set", dict := none, data := .set #[] 0 (.fresh 0 0 (!w.params.followText "set-order")) }).objs.size = s.heap.objs.size + 1 := Heap.size_push ..
        have hneI : l ≠ (s.heap.push { cls := .type "set", dict := none, data := .set #[] 0 (.fresh 0 0 (!w.params.followText "set-order")) }).objs.size := by
          rw [Heap.size_push]; exact Nat.ne_of_lt (Nat.lt_succ_of_lt hlS)
        have hSf : s.heap.objs.size ∉ [(s.heap.push { cls := .type "set", dict := none, data := .set #[] 0 (.fresh 0 0 (!w.params.followText "set-order")) }).objs.size, l] := by
          rw [Heap.size_push]; simp only [List.mem_cons, List.mem_singleton, List.not_mem_nil, or_false, not_or]
          exact ⟨Nat.ne_of_lt (Nat.lt_succ_self _), Nat.ne_of_gt hlS⟩
        have hval : ∀ (i : Nat) (v : Value), items[i]? = some v → ∃ k t, ns[i]? = some k ∧ v = .str k t := fun i v hv => by
          have hi : i < ns.length := by rw [← hisz]; exact (Array.getElem?_eq_some_iff.mp hv).1
          obtain ⟨t, e⟩ := SS.strs_at hit i v (by rw [Array.getElem?_toList]; exact hv)
          refine ⟨ns[i], t, List.getElem?_eq_getElem hi, ?_⟩
          rw [e, List.getD_eq_getElem?_getD, List.getElem?_eq_getElem hi] <;> rfl
        refine set_update_strs ((Walks.tuple hh3 _ l hneI items).toS) s.heap.objs.size
          hSf ns hisz hb hval (items.size - 0) 0 _ (by omega) (Nat.zero_le _)
          ⟨⟨_, Heap.get?_push_size _ rfl, rfl, rfl⟩, (hl1.push _)⟩ ?hS0 ?hR
        case hS0 =>
          have hget : ((s.heap.push { cls := .type "set", dict := none, data := .set #[] 0 (.fresh 0 0 (!w.params.followText "set-order")) }).push { cls := .type "tuple_iterator", data := .fields #[.ref l, .int 0 0] }).get? s.heap.objs.size
              = some { cls := .type "set", dict := none, data := .set #[] 0 (.fresh 0 0 (!w.params.followText "set-order")) } := Heap.get?_push_of_some _ hS
          exact ⟨0, Nat.le_refl 0, setRZ_new_at hget⟩
        case hR =>
          intro s' c' hm hc' hS'
          obtain ⟨h', g2, d', tk', os'⟩ := s'
          have eg : g2 = s.gens := hm.gens
          have ed : d' = s.drawn := hm.drawn
          have eo : os' = s.os := hm.os
          subst eg; subst ed; subst eo
          show wpAny _ _ _ _ _ _
          refine wpAny_pure ?_
          show wpAny _ _ (ret Value.none) _ _ _
          rw [hisz] at hc'
          refine wpAny_pure ⟨rfl, h', tk', c', rfl, hS', hc', fun b o e => ?_⟩
          have hb0 : b < s.heap.objs.size := Heap.lt_size e
          have hb1 : b ≠ s.heap.objs.size := Nat.ne_of_lt hb0
          have hb2 : b ≠ (s.heap.push { cls := .type "set", dict := none, data := .set #[] 0 (.fresh 0 0 (!w.params.followText "set-order")) }).objs.size := by
            rw [Heap.size_push]; exact Nat.ne_of_lt (Nat.lt_succ_of_lt hb0)
          exact hm.heap b o (by simp only [List.mem_cons, List.mem_singleton, List.not_mem_nil, or_false, not_or]; exact ⟨hb1, hb2⟩) (Heap.get?_push_of_some _ (Heap.get?_push_of_some _ e))

      · cases r₂ with
        | error e => exact hr₂
        | ok fl₂ =>
          cases fl₂ with
          | ret r =>
            obtain ⟨rfl, h', tk, c', rfl, hS', hc', hk'⟩ := hr₂
            repeat (any_goals (first | assumption | wp_step))
            exact h _ _ _ hS' hc' hk'
          | _ => exact hr₂.elim
    | _ => exact hr.elim


set_option maxRecDepth 100000 in
set_option maxHeartbeats 3200000 in
theorem call_set_listZ {l : Addr} {items : Array Value} (ns : List Str) {Q : Value → Shared → Prop} (hh : A.handled = none) (hl : s.heap.IsList l items) (hit : StrsAre items.toList ns) (hb : ns.length + 1 < scanBound)
    (h : ∀ (h' : Heap) (tk c : Nat), SetRZ w h' s.heap.objs.size (fun j => decide (j ∈ ns)) c → c ≤ ns.length → (∀ b o, s.heap.get? b = some o → h'.get? b = some o) → Q (.ref s.heap.objs.size) { s with heap := h', toks := tk }) :
    wpAny (model P w) A (call (.type "set") [.ref l]) Q E s := by
  have hisz : items.size = ns.length := by
    rw [← PyProof.Rows.StrsAre.len_eq hit, Array.length_toList]
  obtain ⟨c, tl, hmro⟩ := F.called_set.mro
  have hmade := F.called_set.made
  have hsub := F.called_set.sub
  refine wpAny_call (codeAny_of_tree ?_)
  show wpAny _ _ (callAny (.type "set") _) _ _ _
  refine wpAny_pure ⟨Code.quiet_builtin _ (by decide +kernel), codeAny_builtin F.entry_type_call ?_⟩
  rw [Around.under_plain (weight_type_call_type "set" [.ref l] []) rfl]
  have h1 := F.called_set.notType
  have h2 := F.called_set.canCreate
  have hct := F.typeCall_set_1 (.ref l)
  repeat (any_goals (first | assumption | wp_step))

  refine codeAny_mono (code_set_led1 (.ref l) (E := E) (Q₁ := fun obj s₁ => obj = .ref s.heap.objs.size ∧ s₁ = { s with heap := s.heap.push { cls := .type "set", dict := none, data := .set #[] 0 (.fresh 0 0 (!w.params.followText "set-order")) } }) ⟨rfl, rfl⟩) fun r s₁ hr => ?_
  cases r with
  | error e => exact hr
  | ok fl =>
    cases fl with
    | ret obj =>
      obtain ⟨rfl, rfl⟩ := hr
      have hS : (s.heap.push { cls := .type "set", dict := none, data := .set #[] 0 (.fresh 0 0 (!w.params.followText "set-order")) }).get? s.heap.objs.size = some { cls := .type "set", dict := none, data := .set #[] 0 (.fresh 0 0 (!w.params.followText "set-order")) } := Heap.get?_push_size _ rfl
      have hT : Shared.TypeIs { s with heap := s.heap.push { cls := .type "set", dict := none, data := .set #[] 0 (.fresh 0 0 (!w.params.followText "set-order")) } } (.ref s.heap.objs.size) "set" := ⟨_, hS, rfl⟩
      have hli := F.called_set.init.lookup
      have hbi := F.called_set.init.bind (.ref s.heap.objs.size)
      repeat (any_goals (first | assumption | wp_step))

      refine codeAny_mono (codeAny_call_builtin (R := wants (fun r s₂ => r = .none ∧ ∃ h' tk c, s₂ = { s with heap := h', toks := tk } ∧ SetRZ w h' s.heap.objs.size (fun j => decide (j ∈ ns)) c ∧ c ≤ ns.length ∧
          (∀ b o, s.heap.get? b = some o → h'.get? b = some o)) E) F.called_set.init.plain F.entry_set_init (check_set_init_1 hT ?_)) fun r₂ s₂ hr₂ => ?_
      · obtain ⟨ol, hol, hcl, nl, hdl⟩ := hl
        obtain ⟨ocls, odict, odata, oslots⟩ := ol
        simp only at hcl hdl
        subst hcl; subst hdl
        have hol' : (s.heap.push { cls := .type "set", dict := none, data := .set #[] 0 (.fresh 0 0 (!w.params.followText "set-order")) }).get? l = some { cls := .type "list", dict := odict, data := .seq items nl, slots := oslots } := Heap.get?_push_of_some _ hol
        have hsls := F.sub_list_set
        have hslf := F.sub_list_frozenset
        have hne : (Value.type "list" == Value.type "dict") = false := by decide
        have hl1 : (s.heap.push { cls := .type "set", dict := none, data := .set #[] 0 (.fresh 0 0 (!w.params.followText "set-order")) }).IsList l items := ⟨_, hol', rfl, nl, rfl⟩
        unfold Builtin.«set.__init__» noKeywords Builtin.Frozenset.updateFrom
        generalize hPI : pyIter = PI
        wp_walk
        subst hPI

        refine wpAny_pyIter_list hl1 ?_
        refine wpAny_bind (wpAny_runValue ?_)
        have hlS : l < s.heap.objs.size := Heap.lt_size hol
        have hh3 : A.in1.in1.in1.handled = none := by simp [hh]
        have hz1 : (s.heap.push { cls := .type "set", dict := none, data := .set #[] 0 (.fresh 0 0 (!w.params.followText "set-order")) }).objs.size = s.heap.objs.size + 1 := Heap.size_push ..
        have hneI : l ≠ (s.heap.push { cls := .type "set", dict := none, data := .set #[] 0 (.fresh 0 0 (!w.params.followText "set-order")) }).objs.size := by
          rw [Heap.size_push]; exact Nat.ne_of_lt (Nat.lt_succ_of_lt hlS)
        have hSf : s.heap.objs.size ∉ [(s.heap.push { cls := .type "set", dict := none, data := .set #[] 0 (.fresh 0 0 (!w.params.followText "set-order")) }).objs.size, l] := by
          rw [Heap.size_push]; simp only [List.mem_cons, List.mem_singleton, List.not_mem_nil, or_false, not_or]
          exact ⟨Nat.ne_of_lt (Nat.lt_succ_self _), Nat.ne_of_gt hlS⟩
        have hval : ∀ (i : Nat) (v : Value), items[i]? = some v → ∃ k t, ns[i]? = some k ∧ v = .str k t := fun i v hv => by
          have hi : i < ns.length := by rw [← hisz]; exact (Array.getElem?_eq_some_iff.mp hv).1
          obtain ⟨t, e⟩ := SS.strs_at hit i v (by rw [Array.getElem?_toList]; exact hv)
          refine ⟨ns[i], t, List.getElem?_eq_getElem hi, ?_⟩
          rw [e, List.getD_eq_getElem?_getD, List.getElem?_eq_getElem hi] <;> rfl
        refine set_update_strs ((Walks.list hh3 _ l hneI items).toS) s.heap.objs.size
          hSf ns hisz hb hval (items.size - 0) 0 _ (by omega) (Nat.zero_le _)
          ⟨⟨_, Heap.get?_push_size _ rfl, rfl, rfl⟩, (hl1.push _)⟩ ?hS0 ?hR
        case hS0 =>
          have hget : ((s.heap.push { cls := .type "set", dict := none, data := .set #[] 0 (.fresh 0 0 (!w.params.followText "set-order")) }).push { cls := .type "list_iterator", data := .fields #[.ref l, .int 0 0] }).get? s.heap.objs.size
              = some { cls := .type "set", dict := none, data := .set #[] 0 (.fresh 0 0 (!w.params.followText "set-order")) } := Heap.get?_push_of_some _ hS
          exact ⟨0, Nat.le_refl 0, setRZ_new_at hget⟩
        case hR =>
          intro s' c' hm hc' hS'
          obtain ⟨h', g2, d', tk', os'⟩ := s'
          have eg : g2 = s.gens := hm.gens
          have ed : d' = s.drawn := hm.drawn
          have eo : os' = s.os := hm.os
          subst eg; subst ed; subst eo
          show wpAny _ _ _ _ _ _
          refine wpAny_pure ?_
          show wpAny _ _ (ret Value.none) _ _ _
          rw [hisz] at hc'
          refine wpAny_pure ⟨rfl, h', tk', c', rfl, hS', hc', fun b o e => ?_⟩
          have hb0 : b < s.heap.objs.size := Heap.lt_size e
          have hb1 : b ≠ s.heap.objs.size := Nat.ne_of_lt hb0
          have hb2 : b ≠ (s.heap.push { cls := .type "set", dict := none, data := .set #[] 0 (.fresh 0 0 (!w.params.followText "set-order")) }).objs.size := by
            rw [Heap.size_push]; exact Nat.ne_of_lt (Nat.lt_succ_of_lt hb0)
          exact hm.heap b o (by simp only [List.mem_cons, List.mem_singleton, List.not_mem_nil, or_false, not_or]; exact ⟨hb1, hb2⟩) (Heap.get?_push_of_some _ (Heap.get?_push_of_some _ e))

      · cases r₂ with
        | error e => exact hr₂
        | ok fl₂ =>
          cases fl₂ with
          | ret r =>
            obtain ⟨rfl, h', tk, c', rfl, hS', hc', hk'⟩ := hr₂
            repeat (any_goals (first | assumption | wp_step))
            exact h _ _ _ hS' hc' hk'
          | _ => exact hr₂.elim
    | _ => exact hr.elim


end
section
variable {P : Program} {w : World} {A : Around} {E : Value → Shared → Prop} {s : Shared} {a : Addr}
theorem strsZ_of : ∀ (l : List Value), (∀ v ∈ l, ∃ k tk, v = Value.str k tk) → PyProof.Rows.StrsAre l (l.map rawZ)
  | [], _ => .nil
  | v :: l, h => by
    obtain ⟨k, tk, rfl⟩ := h v List.mem_cons_self
    exact .cons k tk (strsZ_of l fun u hu => h u (List.mem_cons_of_mem _ hu))
theorem list_sort_strZ {vs : List Value} {ns : List Str} {n : Nat} {F : PySem.Fin → Shared → Prop} (ho : s.heap.get? a = some (seqObj "list" vs.toArray n)) (hI : PyProof.Rows.StrsAre vs ns) (h64 : vs.length < 64)
    (h : ∀ (out : Array Value) (ns' : List Str), PyProof.Rows.StrsAre out.toList ns' → ns'.Perm ns → PyProof.Rows.sortedS ns' = true → F (.done (.ret .none)) { s with heap := sortedHeap s.heap a vs out }) :
    wpAny (model P w) A (Builtin.«list.sort» ⟨[.ref a], []⟩) F E s :=
  list_sort_treeK strKind_oneLt ho hI.keysOf (fun v₁ v₂ rest e => keyKind_strs (by rw [← e]; exact hI)) h64 fun st' hp hs => by
    obtain ⟨ss', h1, h2, h3⟩ := sorted_out_str hI hp hs
    exact h _ ss' h1 h2 h3
theorem sorted_setZ {S : Str → Bool} {n : Nat} {Q : Value → Shared → Prop} (R : SetRZ w s.heap a S n) (hh : A.handled = none) (h64 : n < 64)
    (hQ : ∀ s' p (out : Array Value) (c : Nat) (ns : List Str), (∀ b o, s.heap.get? b = some o → s'.heap.get? b = some o) → s'.gens = s.gens → s'.os = s.os → s.heap.objs.size ≤ p →
      s'.heap.get? p = some (seqObj "list" out c) → PyProof.Rows.StrsAre out.toList ns → PyProof.Rows.sortedS ns = true → ns.Nodup → (∀ k, k ∈ ns ↔ S k = true) → ns.length = n → Q (.ref p) s') :
    wpAny (model P w) A (call (.builtin "sorted") [.ref a]) Q E s := by
  obtain ⟨o, es, ep, t, ho, hex, hd, g, nd, hm, hb, hf, hn, hr, hl⟩ := R
  refine Calls.call_function_entry kind_sorted plain_sorted entry_sorted (args_sorted1 _) ?_
  unfold Builtin.«sorted»
  refine wpAny_bind (m := checkCount "sorted" 1 1 _) (wpAny_pure ?_)
  refine wpAny_bind (collect_set (A := A.in1) hh ⟨o, ho, hex.1, hd⟩ hf hb hr hl fun s1 vs k1 hz g1 o1 pm => ?_)
  have hvl : vs.length = n := by rw [pm.length_eq, List.length_map, Array.length_toList]; exact hn
  have hI : PyProof.Rows.StrsAre vs (vs.map rawZ) := strsZ_of vs fun v hv => by
    obtain ⟨e, he, q⟩ := List.mem_map.mp (pm.mem_iff.mp hv)
    obtain ⟨k, tk, h1, _⟩ := g e he
    exact ⟨k, tk, by rw [← q]; exact h1⟩
  have pk : (vs.map rawZ).Perm (es.toList.map keyOfZ) := by
    have q := pm.map rawZ
    rw [List.map_map] at q
    exact q
  refine wpAny_bind (wpAny_newList ?_ (by rw [hvl, sizeLine_eq]; omega))
  have hoL : (s1.heap.push (seqObj "list" vs.toArray 0)).get? s1.heap.objs.size = some (seqObj "list" vs.toArray 0) := Heap.get?_push_size _ rfl
  refine wpAny_bind (wpAny_holding (wpAny_call_entry slot_list_sort ⟨_, hoL, rfl⟩ entry_list_sort (list_sort_strZ hoL hI (by rw [hvl]; exact h64) fun out ns' a1 a2 a3 => ⟨_, rfl, ?_⟩) (args_list_sort _)))
  obtain ⟨c, hc⟩ := sortedHeap_at (vs := vs) (out := out) hoL
  have pn : ns'.Perm (es.toList.map keyOfZ) := a2.trans pk
  refine wpAny_pure ⟨_, rfl, hQ _ s1.heap.objs.size out c ns' (fun b u e => ?_) g1 o1 hz hc a1 a3 (pn.nodup_iff.mpr nd) (fun k => by rw [pn.mem_iff, ← hm k]) ?_⟩
  · have q := k1 b u e
    have hlt := Heap.lt_size q
    show (sortedHeap (s1.heap.push (seqObj "list" vs.toArray 0)) s1.heap.objs.size vs out).get? b = some u
    rw [sortedHeap_old (Nat.ne_of_lt hlt) (by rw [size_push']; exact Nat.lt_succ_of_lt hlt)]
    exact Heap.get?_push_of_some _ q
  · rw [pn.length_eq, List.length_map, Array.length_toList]; exact hn
end
end L2

set_option Elab.async false
set_option linter.all false
set_option maxRecDepth 100000
set_option maxHeartbeats 8000000
/-! PY, part i: isinstance, methods; every application. -/
namespace PY
open PySem PySem.Spec PyProof.Rows L2
section
variable {P : PCtx} {G : Gd} {S : Sg} {Γ : Cxt} {X : Cx} {W : WX}
/-! ### isinstance -/
theorem boot_ty : ∀ t : Ty, bootBuiltins (Str.ofString (tyName t)) = some (.type (tyName t))
  | .int => by decide +kernel
  | .bool => by decide +kernel
  | .str => by decide +kernel
  | .tuple => by decide +kernel
  | .list => by decide +kernel
  | .dict => by decide +kernel
theorem ty_nn (t : Ty) : Str.ofString (tyName t) ≠ "__name__" ∧ (Str.ofString (tyName t) == ("__debug__" : Str)) = false := by
  cases t <;> exact ⟨by decide +kernel, by decide +kernel⟩
theorem tyNm_pe (x : XOk P G S Γ X W) {t : Ty} {e : Expr} (h : tyNm P Γ t e = true) : PE X e (tC (.ty (tyName t))) ∧ noStar e = true := by
  cases e with
  | Name n p =>
    simp only [tyNm, Bool.and_eq_true, decide_eq_true_eq] at h
    obtain ⟨rfl, hb⟩ := h
    exact ⟨pe_bltn (x.bi hb).2 (x.bi hb).1 (boot_ty t) rfl (ty_nn t).1 (ty_nn t).2, rfl⟩
  | _ => simp [tyNm] at h
theorem tyNms_pa (x : XOk P G S Γ X W) : ∀ {ts : List Ty} {es : List Expr}, tyNms P Γ ts es = true → PA X es (fun _ H Q => Q (ts.map fun t => V.ty (tyName t)) H) ∧ es.all noStar = true
  | [], [], _ => ⟨pa_nil, rfl⟩
  | t :: ts, e :: es, h => by
    simp only [tyNms, Bool.and_eq_true] at h
    obtain ⟨h1, h2⟩ := tyNm_pe x h.1
    obtain ⟨h3, h4⟩ := tyNms_pa x h.2
    exact ⟨pa_imp (pa_cons h1 h3 (star_cons h2)) fun _ _ _ q => q, by simp [h2, h4]⟩
  | [], _ :: _, h => by simp [tyNms] at h
  | _ :: _, [], h => by simp [tyNms] at h
theorem clsv_all : ∀ ts : List Ty, Paired ClsV (ts.map fun t => V.ty (tyName t)) (ts.map fun t => Value.type (tyName t))
  | [] => .nil
  | t :: ts => .cons (.ty _) (clsv_all ts)
theorem sn_isi1 (x : XOk P G S Γ X W) {t : Ty} {a u : Expr} {pa : Ex} {p pos : Pos} (hb : isB P Γ ("isinstance" : Str) = true) (ht : tyNm P Γ t u = true) (ha : PE X a (RE G W fun E => wpE S E pa)) (hs : noStar a = true) :
    PE X (.Call (.Name "isinstance" p) [a, u] [] pos) (RE G W fun E => wpE S E (.prim (.isi [t]) (.cons pa .nil))) := by
  obtain ⟨h1, h2⟩ := tyNm_pe x ht
  refine pe_imp (pe_callB call_isi (x.bi hb).2 (x.bi hb).1 (by decide +kernel) (pa_cons ha (pa_cons h1 pa_nil (star_cons h2)) (star_cons hs)) (by decide) (by decide) (star_cons hs) (star_plain (by simp [h2]))) fun σ H Q ⟨Z, φ, ρ, μ, E, Qd, at_, w, kk⟩ => ?_
  simp only [wpE, wpEs] at w
  refine ⟨Z, φ, ρ, μ, E, _, at_, w, fun d1 μ1 w1 v φ1 H1 r1 c1 g1 => ?_⟩
  simp only [primD] at w1
  obtain ⟨z, e, q⟩ := opt_iff.mp w1
  obtain ⟨b, e2, rfl⟩ := Option.map_eq_some_iff.mp e
  obtain ⟨vt, e3, rfl⟩ := Option.map_eq_some_iff.mp e2
  refine ⟨v, .ty (tyName t), .type (vtName vt), .type (tyName t), _, rfl, .ty _, r1.ty x.hK c1 e3, kit_ty (kit_all vt t), ?_⟩
  have : ([t].any (vtIs vt)) = vtIs vt t := by simp
  rw [this] at q
  exact kk _ _ q _ φ1 H1 (.bl _) c1 g1
theorem sn_isiT (x : XOk P G S Γ X W) {ts : List Ty} {us : List Expr} {a : Expr} {pa : Ex} {k : Nat} {p pt pos : Pos} (hb : isB P Γ ("isinstance" : Str) = true) (ht : tyNms P Γ ts us = true) (hl : ts.length ≤ 100) (ha : PE X a (RE G W fun E => wpE S E pa)) (hs : noStar a = true) :
    PE X (.Call (.Name "isinstance" p) [a, .Tuple us k pt] [] pos) (RE G W fun E => wpE S E (.prim (.isi ts) (.cons pa .nil))) := by
  obtain ⟨h1, h2⟩ := tyNms_pa x ht
  refine pe_imp (pe_callB call_isiT (x.bi hb).2 (x.bi hb).1 (by decide +kernel) (pa_cons ha (pa_cons (pe_tup h1) pa_nil rfl) (star_cons hs)) (by decide) (by decide) (star_cons hs) rfl) fun σ H Q ⟨Z, φ, ρ, μ, E, Qd, at_, w, kk⟩ => ?_
  simp only [wpE, wpEs] at w
  refine ⟨Z, φ, ρ, μ, E, _, at_, w, fun d1 μ1 w1 v φ1 H1 r1 c1 g1 => ?_⟩
  simp only [primD] at w1
  obtain ⟨z, e, q⟩ := opt_iff.mp w1
  obtain ⟨b, e2, rfl⟩ := Option.map_eq_some_iff.mp e
  obtain ⟨vt, e3, rfl⟩ := Option.map_eq_some_iff.mp e2
  refine ⟨by rw [List.length_map, ← sz_eq]; show ts.length ≤ 16777216; omega, fun tp hp => ?_⟩
  have g2 : Grow φ1 H1 φ1 (upd H1 tp (.tup (ts.map fun t => V.ty (tyName t)))) := Grow.upd hp
  refine ⟨v, tp, _, .type (vtName vt), _, _, rfl, upd_same, clsv_all ts, (r1.grow g2).ty x.hK (c1.upd hp) e3, kit_any _ vt ts, ?_⟩
  exact kk _ _ q _ φ1 _ (.bl _) (c1.upd hp) (g1.trans g2)

/-! ### methods -/
theorem ty_list {Z φ : List Addr} {H : Hp} {K : PySem.W.Frag} {μ : Store} {x : V} {i : Nat} {ys : List D} (c : CRel G Z φ H μ) (r : Rep G Z φ H x (.ref i)) (e : μ[i]? = some (.lst ys)) : tyV K "list" x H := by
  obtain ⟨a, rfl, ha⟩ := r.of_ref
  obtain ⟨vs, h1, _⟩ := c.lst ha e
  exact .inl ⟨rfl, vs, .inl (.inl h1)⟩
theorem recv_list {f : Prim} (hf : f = .append ∨ f = .extend ∨ f = .pop) {μ : Store} {x : D} {u : Unit} (h : recvD f μ x = some u) : ∃ i ys, x = .ref i ∧ μ[i]? = some (.lst ys) := by
  cases x with
  | ref i =>
    cases z : μ[i]? with
    | none => rcases hf with rfl | rfl | rfl <;> simp [recvD, z] at h
    | some k =>
      cases k with
      | lst ys => exact ⟨i, ys, rfl, z⟩
      | _ => rcases hf with rfl | rfl | rfl <;> simp [recvD, z] at h
  | _ => rcases hf with rfl | rfl | rfl <;> simp [recvD] at h
/-- what is known of a method of a built-in type -/
structure MethOk (X : Cx) (G : Gd) (f : Prim) (name : Str) : Prop where
  ex : ∃ T id, PlainAttrs T ∧ Slot T name id ∧ typeOf (.builtin id) = pure (.type "method_descriptor") ∧ MtR X id (RMD G f) ∧
    ∀ {Z φ : List Addr} {H : Hp} {μ : Store} {x : V} {d : D} {u : Unit}, CRel G Z φ H μ → Rep G Z φ H x d → recvD f μ d = some u → tyV X.K T x H
theorem recv_str {f : Prim} (hf : f = .split ∨ f = .join) {μ : Store} {x : D} {u : Unit} (h : recvD f μ x = some u) : ∃ s, x = .str s := by
  cases x with
  | str s => exact ⟨s, rfl⟩
  | _ => rcases hf with rfl | rfl <;> simp [recvD] at h
theorem meth_ok (hK : G.K = X.K) {f : Prim} {m : Str} (h : methIs f m = true) : MethOk X G f m := by
  unfold methIs at h
  cases f with
  | append =>
    obtain rfl := of_decide_eq_true h
    exact ⟨"list", _, PySem.F.plainAttrs_list, PySem.F.slot_list_append, PySem.F.type_list_append, m_append, fun c r e => by
      obtain ⟨i, ys, rfl, h2⟩ := recv_list (.inl rfl) e
      exact ty_list c r h2⟩
  | extend =>
    obtain rfl := of_decide_eq_true h
    exact ⟨"list", _, PySem.F.plainAttrs_list, PySem.F.slot_list_extend, PySem.F.type_list_extend, m_extend hK, fun c r e => by
      obtain ⟨i, ys, rfl, h2⟩ := recv_list (.inr (.inl rfl)) e
      exact ty_list c r h2⟩
  | pop =>
    obtain rfl := of_decide_eq_true h
    exact ⟨"list", _, PySem.F.plainAttrs_list, PySem.F.slot_list_pop, PySem.F.type_list_pop, m_pop, fun c r e => by
      obtain ⟨i, ys, rfl, h2⟩ := recv_list (.inr (.inr rfl)) e
      exact ty_list c r h2⟩
  | split =>
    obtain rfl := of_decide_eq_true h
    exact ⟨"str", _, PySem.F.plainAttrs_str, PySem.F.slot_str_split, PySem.F.type_str_split, m_split, fun c r e => by
      obtain ⟨s, rfl⟩ := recv_str (.inl rfl) e
      cases r; rfl⟩
  | join =>
    obtain rfl := of_decide_eq_true h
    exact ⟨"str", _, PySem.F.plainAttrs_str, PySem.F.slot_str_join, PySem.F.type_str_join, m_join hK, fun c r e => by
      obtain ⟨s, rfl⟩ := recv_str (.inr rfl) e
      cases r; rfl⟩
  | _ => simp [methNm] at h
theorem star_all {env : Env} {pos : Pos} : ∀ {es : List Expr}, es.all noStar = true → (backTo pos (starEach es env)).all (fun x => !x.1) = true
  | [], _ => rfl
  | e :: es, h => by
    simp only [List.all_cons, Bool.and_eq_true] at h
    rw [star_cons h.1]
    have ih := star_all (env := env) (pos := pos) h.2
    unfold backTo at ih ⊢
    rw [List.map_cons, List.all_cons, ih]
    rfl
theorem sn_meth (x : XOk P G S Γ X W) {f : Prim} {m : Str} {o : Expr} {as : List Expr} {po : Ex} {es : Exs} {ap cp : Pos} (hm : methIs f m = true) (hb : noSuper o = true) (hl : lineOk ap cp = true) (hn : as.length < 20) (ho : PE X o (RE G W fun E => wpE S E po))
    (h : PEs G S X W es as) (hs : as.all noStar = true) : PE X (.Call (.Attribute o m ap) as [] cp) (RE G W fun E => wpE S E (.meth f po es)) := by
  obtain ⟨T, id, h1, h2, h3, h4, h5⟩ := (meth_ok (X := X) (G := G) x.hK hm).ex
  cases as with
  | nil =>
    cases es with
    | cons _ _ => exact h.elim
    | nil =>
      refine pe_imp (pe_bm0 h1 h2 h3 h4 ho (base_of hb) hl) fun σ H Q ⟨Z, φ, ρ, μ, E, Qd, at_, w, kk⟩ => ?_
      simp only [wpE, wpEs] at w
      refine ⟨Z, φ, ρ, μ, E, _, at_, w, fun d1 μ1 w1 v φ1 H1 r1 c1 g1 => ?_⟩
      obtain ⟨u, e1, w2⟩ := opt_iff.mp w1
      obtain ⟨⟨d, μ'⟩, e, q⟩ := opt_iff.mp w2
      exact ⟨h5 c1 r1 e1, Z, φ1, μ1, [d1], d, μ', c1, .cons r1 .nil, e, fun v' φ' H' r c g => kk _ _ q v' φ' H' r c (g1.trans g)⟩
  | cons a as =>
    have hs' := hs
    simp only [List.all_cons, Bool.and_eq_true] at hs
    refine pe_imp (pe_bm h1 h2 h3 h4 ho (h.pa x hs') (base_of hb) ?_ hl (star_cons hs.1) (star_plain hs.2)) fun σ H Q ⟨Z, φ, ρ, μ, E, Qd, at_, w, kk⟩ => ?_
    · rw [star_all hs']
      have : decide ((a :: as).length + ([] : List Keyword).length + (if ([] : List Keyword).isEmpty then 0 else 1) < 30) = true := by
        simp only [List.isEmpty_nil, if_true, List.length_nil, decide_eq_true_eq]; omega
      rw [this]; rfl
    simp only [wpE] at w
    refine ⟨Z, φ, ρ, μ, E, _, at_, w, fun d1 μ1 w1 v φ1 H1 r1 c1 g1 => ?_⟩
    obtain ⟨u, e1, w2⟩ := opt_iff.mp w1
    refine ⟨h5 c1 r1 e1, Z, φ1, ρ, μ1, E, _, at_.step c1 g1, w2, fun ds μ2 w3 us φ2 H2 r2 c2 g2 => ?_⟩
    obtain ⟨⟨d, μ'⟩, e, q⟩ := opt_iff.mp w3
    exact ⟨Z, φ2, μ2, d1 :: ds, d, μ', c2, .cons (r1.grow g2) r2, e, fun v' φ' H' r c g => kk _ _ q v' φ' H' r c (g1.trans (g2.trans g))⟩
theorem strs_rep {Z φ : List Addr} {H : Hp} : ∀ {vs : List V} {ds : List D} {ss : List String}, Reps G Z φ H vs ds → strsOf ds = some ss → vs = (ss.map Str.ofString).map V.str
  | _, _, ss, .nil, e => by cases e; rfl
  | _, _, ss, .cons (d := d) r rs, e => by
    cases d with
    | str s =>
      obtain ⟨t, h1, rfl⟩ := Option.map_eq_some_iff.mp (show (strsOf _).map (s :: ·) = some ss from e)
      rw [r.of_str, strs_rep rs h1]; rfl
    | _ => cases e
theorem distD_eq : ∀ ss : List String, PySem.dist (ss.map Str.ofString) = distD ss
  | [] => rfl
  | s :: r => by
    rw [List.map_cons, PySem.dist, distD, distD_eq r]
    have : (r.map Str.ofString).any (· == Str.ofString s) = r.any (· == s) := by
      rw [List.any_map]
      congr 1
      funext t
      exact ofString_beq t s
    rw [this]
theorem sn_lenset (x : XOk P G S Γ X W) {e : Ex} {a : Expr} {p p2 q pos : Pos} (hb : isB P Γ ("len" : Str) = true) (hb2 : isB P Γ ("set" : Str) = true) (ha : PE X a (RE G W fun E => wpE S E e)) (hs : noStar a = true) :
    PE X (.Call (.Name "len" p) [.Call (.Name "set" p2) [a] [] q] [] pos) (RE G W fun E => wpE S E (.prim .lenset (.cons e .nil))) := by
  obtain ⟨hm, hg⟩ := x.bi hb
  obtain ⟨hm2, hg2⟩ := x.bi hb2
  refine ⟨fun pins s σ H Q I ⟨Z, φ, ρ, μ, E, Qd, at_, w, k⟩ => ?_⟩
  simp only [wpE, wpEs] at w
  refine Call_ (ld_blt I hg hm boot_len ?_)
  refine PyProof.Rows.callWith_builtin1 (PyProof.Rows.args_cons ?_ rfl) rfl rfl
  refine Call_ (ld_blt I hg2 hm2 boot_set ?_)
  have run := ha.run pins s σ H (fun v H1 => ∃ d φ1 μ1, Rep G Z φ1 H1 v d ∧ CRel G Z φ1 H1 μ1 ∧ Grow φ H φ1 H1 ∧ opt (primD .lenset [d] μ1) fun r => Qd r.1 r.2) I ⟨Z, φ, ρ, μ, E, _, at_, w, fun d μ1 w1 v φ1 H1 r1 c1 g1 => ⟨d, φ1, μ1, r1, c1, g1, w1⟩⟩
  refine PyProof.Rows.callWith_type1 (PyProof.Rows.args_cons (thn run fun v s1 ⟨y, H1, I1, r1, q1⟩ => PyProof.Rows.args_nil ?_) (star_cons hs)) (star_cons hs) rfl
  obtain ⟨d, φ1, μ1, rd, c1, g1, q1⟩ := q1
  obtain ⟨⟨d2, μ2⟩, e1, q2⟩ := opt_iff.mp q1
  obtain ⟨ss, e2, e3⟩ := Option.bind_eq_some_iff.mp (show ((seqOf μ1 d).bind strsOf).bind _ = _ from e1)
  obtain ⟨ds, e4, e5⟩ := Option.bind_eq_some_iff.mp e2
  simp only [Option.ite_none_right_eq_some, Option.some.injEq, Prod.mk.injEq] at e3
  obtain ⟨hl, rfl, rfl⟩ := e3
  obtain ⟨l, vs, rfl, hq, rs⟩ := rd.seq c1 e4
  have hv := strs_rep rs e5
  subst hv
  cases r1
  rw [x.hK] at hq
  have hd : PySem.dist (ss.map Str.ofString) = distD ss := distD_eq ss
  have hle : distD ss ≤ ss.length := by rw [← hd]; have := PySem.dist_le (ss.map Str.ofString); simpa using this
  have fin : ∀ (its : List Value), Vals ((ss.map Str.ofString).map V.str) its → ∀ (h' : Heap) (tk : Nat), h'.SetOf (PySem.strKind X.prog X.w) s1.heap.objs.size (fun k' => ((ss.map Str.ofString).take its.toArray.size).any (· == k')) (PySem.dist ((ss.map Str.ofString).take its.toArray.size)) →
      (∀ b o, b < s1.heap.objs.size → s1.heap.get? b = some o → h'.get? b = some o) →
      wpAny (model X.prog X.w) X.A (spliced (backTo pos (starEach [] X.env))) (fun vs s₂ => wpAny (model X.prog X.w) X.A (call (.builtin "len") (Value.ref s1.heap.objs.size :: vs)) (EP X pins σ Q) X.xe s₂) X.xe { s1 with heap := h', toks := tk } := fun its r h' tk hS hk => by
    refine PyProof.Rows.args_nil ?_
    have hl2 : its.toArray.size = (ss.map Str.ofString).length := by rw [List.size_toArray, ← r.length, List.length_map]
    rw [hl2, List.take_length, hd] at hS
    obtain ⟨o, es, ep, t, ho, hex, hdt, _, _, _, hf, hn⟩ := hS
    have I2 : Inv X pins σ H1 { s1 with heap := h', toks := tk } := I1.kept fun b o e => hk b o (Heap.lt_size e) e
    exact call_len_set ho hex hdt hf (by rw [hn] <;> omega) ⟨.int (distD ss : Nat), H1, I2.tok _, ⟨_, by rw [hn]⟩, k _ _ q2 _ φ1 H1 (.int _) c1 g1⟩
  have hb3 : (ss.map Str.ofString).length + 1 < scanBound := by rw [List.length_map]; unfold scanBound; omega
  rcases hq with hq | hq
  · obtain ⟨its, r, pl, hz⟩ := I1.list hq
    exact PySem.call_set_listN (I1.ok.hd x.calm) pl.isList (by simpa using strsAre_of r) hb3 fun h' tk hS hk => fin its r h' tk hS hk
  · obtain ⟨its, r, pl, hz⟩ := I1.tuple hq
    exact PySem.call_set_tupN (I1.ok.hd x.calm) pl (by simpa using strsAre_of r) hb3 fun h' tk hS hk => fin its r h' tk hS hk
/-! ### texts in order -/
theorem strLe_iff (a b : String) : strLe a b = true ↔ a.toList.map Char.toNat ≤ b.toList.map Char.toNat := by
  unfold strLe
  rw [Bool.not_eq_true', decide_eq_false_iff_not]
  exact Iff.rfl
def leZ (a b : Str) : Prop := TL.tl a ≤ TL.tl b
theorem risingS_pw : ∀ (p : Str) (l : List Str), PyProof.Rows.risingS p l = true → (p :: l).Pairwise leZ
  | p, [], _ => List.pairwise_singleton _ _
  | p, x :: r, h => by
    have h' : (!ltCps x.cps.toList p.cps.toList && PyProof.Rows.risingS x r) = true := h
    rw [Bool.and_eq_true, Bool.not_eq_true', PyProof.Rows.ltCps_eq, decide_eq_false_iff_not] at h'
    have ih := risingS_pw x r h'.2
    have h1 : leZ p x := h'.1
    refine List.pairwise_cons.mpr ⟨fun y hy => ?_, ih⟩
    rcases List.mem_cons.mp hy with e | e
    · rw [e]; exact h1
    · exact List.le_trans h1 ((List.pairwise_cons.mp ih).1 y e)
theorem sortedS_pw {l : List Str} (h : PyProof.Rows.sortedS l = true) : l.Pairwise leZ := by
  cases l with
  | nil => exact List.Pairwise.nil
  | cons x r => exact risingS_pw x r h
theorem sort_uniq {ys : List Str} {ss : List String} (hp : ys.Perm (ss.map Str.ofString)) (hs : PyProof.Rows.sortedS ys = true) : ys = (sortS ss).map Str.ofString := by
  have h2 : (sortS ss).Perm ss := List.mergeSort_perm _ _
  have h3 : ((sortS ss).map Str.ofString).Pairwise leZ := by
    rw [List.pairwise_map]
    have := List.pairwise_mergeSort (le := strLe) (fun a b c h1 h2 => by
      rw [strLe_iff] at h1 h2 ⊢
      exact List.le_trans h1 h2) (fun a b => by
      rw [Bool.or_eq_true, strLe_iff, strLe_iff]
      exact List.le_total _ _) ss
    refine this.imp fun {a b} h => ?_
    show TL.tl (Str.ofString a) ≤ TL.tl (Str.ofString b)
    rw [TL.tl_ofString, TL.tl_ofString]
    exact (strLe_iff a b).mp h
  exact List.Perm.eq_of_pairwise (le := leZ) (fun a b _ _ h1 h2 => TL.ext_tl (List.le_antisymm h1 h2)) (sortedS_pw hs) h3 (hp.trans (h2.map _).symm)
theorem nubS_mem {x : String} : ∀ {ss : List String}, x ∈ nubS ss ↔ x ∈ ss
  | [] => Iff.rfl
  | y :: r => by
    unfold nubS
    split
    · rename_i h
      rw [nubS_mem, List.mem_cons]
      constructor
      · exact .inr
      · rintro (e | e)
        · rw [e]; exact List.contains_iff_mem.mp h
        · exact e
    · rw [List.mem_cons, List.mem_cons, nubS_mem]
theorem nubS_nodup : ∀ ss : List String, (nubS ss).Nodup
  | [] => List.nodup_nil
  | y :: r => by
    unfold nubS
    split
    · exact nubS_nodup r
    · rename_i h
      refine List.nodup_cons.mpr ⟨fun e => h (List.contains_iff_mem.mpr (nubS_mem.mp e)), nubS_nodup r⟩
theorem map_nodup {ss : List String} (h : ss.Nodup) : (ss.map Str.ofString).Nodup := by
  rw [List.nodup_iff_pairwise_ne, List.pairwise_map]
  exact (List.nodup_iff_pairwise_ne.mp h).imp fun hne e => hne (ofString_inj e)
theorem nub_perm {ns : List Str} {ss : List String} (hd : ns.Nodup) (hm : ∀ k, k ∈ ns ↔ k ∈ ss.map Str.ofString) : ns.Perm ((nubS ss).map Str.ofString) :=
  (List.perm_ext_iff_of_nodup hd (map_nodup (nubS_nodup ss))).mpr fun k => (hm k).trans (by
    simp only [List.mem_map, nubS_mem])
theorem strsOf_keys {G : Gd} {Z φ : List Addr} {H : Hp} : ∀ {kvs : List (Key × V)} {ds : List (D × D)} {ss : List String}, KVRep G Z φ H kvs ds → strsOf (ds.map (·.1)) = some ss → kvs.map (·.1) = (ss.map Str.ofString).map Sum.inr
  | _, _, ss, .nil, h => by cases h; rfl
  | _, _, ss, .cons (kd := kd) k r s, h => by
    rw [List.map_cons] at h
    cases kd with
    | str t =>
      obtain ⟨ts, e, rfl⟩ := Option.map_eq_some_iff.mp (show (strsOf _).map (t :: ·) = some ss from h)
      cases k
      rw [List.map_cons, strsOf_keys s e]; rfl
    | _ => cases h
theorem c_sortdict (hc : X.calm = true) : CallR X (.builtin "sorted") (RND G fun μ ds => primD .sortdict ds μ) := by
  intro pins s σ H xs us Q I r h
  obtain ⟨Z, φ, μ, ds, d, μ', c, rs, e, q⟩ := h
  cases rs with
  | nil => simp [primD] at e
  | @cons x _ dx _ rx rt =>
    cases rt with
    | cons _ _ => cases dx <;> simp [primD] at e
    | nil =>
      cases dx with
      | ref i =>
        cases z : μ[i]? with
        | none => simp [primD, z] at e
        | some k =>
          cases k with
          | dct t kvs =>
            cases t with
            | true => simp [primD, z] at e
            | false =>
              simp only [primD, z] at e
              obtain ⟨ss, e1, e2⟩ := Option.bind_eq_some_iff.mp e
              simp only [Option.ite_none_right_eq_some, Option.some.injEq, Prod.mk.injEq] at e2
              obtain ⟨hl, rfl, rfl⟩ := e2
              obtain ⟨a, rfl, ha⟩ := rx.of_ref
              obtain ⟨ws, h1, r1⟩ := c.dk ha z
              refine call_sortedD hc pins s σ H _ us Q I r ⟨a, ws, ss.map Str.ofString, rfl, .inl h1, strsOf_keys r1 e1, by rw [List.length_map]; exact hl, fun ys p hp hs hn => ?_⟩
              rw [sort_uniq hp hs]
              exact q.lst c hn (reps_strB (sortS ss))
          | _ => simp [primD, z] at e
      | _ => simp [primD] at e
theorem boot_sortedB : bootBuiltins ("sorted" : Str) = some (.builtin "sorted") := by decide +kernel
theorem sn_sortset (x : XOk P G S Γ X W) {e : Ex} {a : Expr} {p p2 q pos : Pos} (hb : isB P Γ ("sorted" : Str) = true) (hb2 : isB P Γ ("set" : Str) = true) (ha : PE X a (RE G W fun E => wpE S E e)) (hs : noStar a = true) :
    PE X (.Call (.Name "sorted" p) [.Call (.Name "set" p2) [a] [] q] [] pos) (RE G W fun E => wpE S E (.prim .sortset (.cons e .nil))) := by
  obtain ⟨hm, hg⟩ := x.bi hb
  obtain ⟨hm2, hg2⟩ := x.bi hb2
  refine ⟨fun pins s σ H Q I ⟨Z, φ, ρ, μ, E, Qd, at_, w, k⟩ => ?_⟩
  simp only [wpE, wpEs] at w
  refine Call_ (ld_blt I hg hm boot_sortedB ?_)
  refine PyProof.Rows.callWith_builtin1 (PyProof.Rows.args_cons ?_ rfl) rfl rfl
  refine Call_ (ld_blt I hg2 hm2 boot_set ?_)
  have run := ha.run pins s σ H (fun v H1 => ∃ d φ1 μ1, Rep G Z φ1 H1 v d ∧ CRel G Z φ1 H1 μ1 ∧ Grow φ H φ1 H1 ∧ opt (primD .sortset [d] μ1) fun r => Qd r.1 r.2) I ⟨Z, φ, ρ, μ, E, _, at_, w, fun d μ1 w1 v φ1 H1 r1 c1 g1 => ⟨d, φ1, μ1, r1, c1, g1, w1⟩⟩
  refine PyProof.Rows.callWith_type1 (PyProof.Rows.args_cons (thn run fun v s1 ⟨y, H1, I1, r1, q1⟩ => PyProof.Rows.args_nil ?_) (star_cons hs)) (star_cons hs) rfl
  obtain ⟨d, φ1, μ1, rd, c1, g1, q1⟩ := q1
  obtain ⟨⟨d2, μ2⟩, e1, q2⟩ := opt_iff.mp q1
  obtain ⟨ss, e2, e3⟩ := Option.bind_eq_some_iff.mp (show ((seqOf μ1 d).bind strsOf).bind _ = _ from e1)
  obtain ⟨ds, e4, e5⟩ := Option.bind_eq_some_iff.mp e2
  simp only [Option.ite_none_right_eq_some, Option.some.injEq, Prod.mk.injEq] at e3
  obtain ⟨⟨hl, h64⟩, rfl, rfl⟩ := e3
  obtain ⟨l, vs, rfl, hq, rs⟩ := rd.seq c1 e4
  have hv := strs_rep rs e5
  subst hv
  cases r1
  rw [x.hK] at hq
  have qd : Done G Z φ1 H1 (.lst ((sortS (nubS ss)).map .str)) μ1 Q := fun v φ' H' r c g => k _ _ q2 v φ' H' r c (g1.trans g)
  have fin : ∀ (h' : Heap) (tk c : Nat), SetRZ X.w h' s1.heap.objs.size (fun j => decide (j ∈ ss.map Str.ofString)) c →
      (∀ b o, s1.heap.get? b = some o → h'.get? b = some o) →
      wpAny (model X.prog X.w) X.A (spliced (backTo pos (starEach [] X.env))) (fun vs s₂ => wpAny (model X.prog X.w) X.A (call (.builtin "sorted") (Value.ref s1.heap.objs.size :: vs)) (EP X pins σ Q) X.xe s₂) X.xe { s1 with heap := h', toks := tk } := fun h' tk c hS hk => by
    refine PyProof.Rows.args_nil ?_
    have hc : c = (nubS ss).length := by
      obtain ⟨o, es, ep, t, _, _, _, _, nd, hm', _, _, hn, _⟩ := hS
      have hp := nub_perm (ss := ss) nd fun k => by rw [← hm' k, decide_eq_true_eq]
      have := hp.length_eq
      rw [List.length_map, List.length_map, Array.length_toList] at this
      omega
    have I2 : Inv X pins σ H1 { s1 with heap := h', toks := tk } := I1.kept fun b o e => hk b o e
    refine sorted_setZ (s := { s1 with heap := h', toks := tk }) hS (I2.ok.hd x.calm) (by omega) fun s' p out cc ns k' g o hp hg' hi hs' hnd hm' hl' => ?_
    have hperm := nub_perm (ss := ss) hnd fun k => by rw [hm' k, decide_eq_true_eq]
    have hns := sort_uniq hperm hs'
    have hlen : (ns.map V.str).length ≤ sizeLine := by rw [List.length_map, hl', sizeLine_eq]; omega
    have hn : H1 p = none := I2.hok.fresh hp
    have J : Inv X pins σ (upd H1 p (.lst (ns.map V.str))) { ({ s1 with heap := h', toks := tk } : Shared) with heap := s'.heap, gens := s'.gens, drawn := s'.drawn, toks := s'.toks } :=
      I2.call (ch := []) (Un.laid k' hp hn) (I2.hok.laid k' hp ⟨hlen, out.toList, cc, vals_of_strs hi, hg'⟩) (by rw [g]; exact I2.bare) (fun _ z => nomatch z)
    have e : s' = { s1 with heap := s'.heap, gens := s'.gens, drawn := s'.drawn, toks := s'.toks } := by
      cases s'
      cases s1
      cases o
      rfl
    rw [e]
    refine ⟨.ref p, _, J, rfl, ?_⟩
    rw [hns]
    exact qd.lst c1 hn (reps_strB (sortS (nubS ss)))
  have hb3 : (ss.map Str.ofString).length + 1 < scanBound := by rw [List.length_map]; unfold scanBound; omega
  rcases hq with hq | hq
  · obtain ⟨its, r, pl, hz⟩ := I1.list hq
    exact call_set_listZ (ss.map Str.ofString) (I1.ok.hd x.calm) pl.isList (by simpa using strsAre_of r) hb3 fun h' tk c hS _ hk => fin h' tk c hS hk
  · obtain ⟨its, r, pl, hz⟩ := I1.tuple hq
    exact call_set_tupZ (ss.map Str.ofString) (I1.ok.hd x.calm) pl (by simpa using strsAre_of r) hb3 fun h' tk c hS _ hk => fin h' tk c hS hk
/-- every application -/
theorem sn_prim (x : XOk P G S Γ X W) {f : Prim} {e : Expr} {es : Exs} {xs : List Expr} (h : argsOf P Γ f e = some xs) (hp : PEs G S X W es xs) (hs : xs.all noStar = true) (hl : xs.all noSlice = true) : PE X e (RE G W fun E => wpE S E (.prim f es)) := by
  have hu := x.hu
  unfold argsOf at h
  split at h
  · cases h; exact sn_tup x hp hs
  · cases h; exact sn_lst x hp hs
  · simp only [Option.ite_none_right_eq_some] at h
    exact sn_dct x h.1 h.2 hp
  · simp only [Option.ite_none_right_eq_some, Option.some.injEq] at h
    obtain ⟨h1, rfl⟩ := h
    obtain ⟨p, q, rfl, ha, hb⟩ := PEs.two hp
    obtain rfl := of_decide_eq_true h1
    exact pe_2 (g := fun μ x y => binD μ _ x y) (fun _ _ _ => rfl) ha hb fun ta tb a b => pe_op (op_bin x.hK _) a b
  · cases h
    obtain ⟨p, rfl, ha⟩ := PEs.one hp
    exact pe_1 (g := fun μ x => primD .neg [x] μ) (fun _ _ => rfl) ha fun ta a => pe_un un_negD a
  · simp only [Option.ite_none_right_eq_some, Option.some.injEq, Bool.and_eq_true] at h
    obtain ⟨⟨h1, h2⟩, rfl⟩ := h
    obtain ⟨p, q, rfl, ha, hb⟩ := PEs.two hp
    obtain rfl := of_decide_eq_true h1
    exact pe_2 (g := fun μ x y => (cmD μ _ x y).map .bl) (fun μ x y => by simp [primD]; rfl) ha hb fun ta tb a b => pe_cmpR (op_cm x.hK (by omega) _) a b (mark_of h2)
  · cases h
    obtain ⟨p, rfl, ha⟩ := PEs.one hp
    exact sn_isN ha
  · cases h
    obtain ⟨p, rfl, ha⟩ := PEs.one hp
    exact sn_notN ha
  · cases h
    obtain ⟨p, rfl, ha⟩ := PEs.one hp
    exact sn_sl0 x ha
  · cases h
    obtain ⟨p, q, rfl, ha, hb⟩ := PEs.two hp
    exact sn_sl1 x ha hb
  · cases h
    obtain ⟨p, q, rfl, ha, hb⟩ := PEs.two hp
    exact sn_sl2 x ha hb
  · cases h
    obtain ⟨p, q, rfl, ha, hb⟩ := PEs.two hp
    simp only [List.all_cons, List.all_nil, Bool.and_true, Bool.and_eq_true] at hl
    exact pe_2 (g := fun μ x y => ixD μ x y) (fun _ _ _ => rfl) ha hb fun ta tb a b => pe_ix (ix_D x.hK (by omega)) a b (plainIx_of (by have := hl.2; unfold noSlice at this; exact this))
  · simp only [Option.ite_none_right_eq_some, Option.some.injEq, Bool.and_eq_true, decide_eq_true_eq] at h
    obtain ⟨⟨rfl, h2⟩, rfl⟩ := h
    exact sn_fn x (c_len x.hK) h2 PySem.boot_len (by decide) (by decide) hp hs
  · simp only [Option.ite_none_right_eq_some, Option.some.injEq, Bool.and_eq_true, decide_eq_true_eq] at h
    obtain ⟨⟨⟨⟨rfl, h2⟩, rfl⟩, h3⟩, rfl⟩ := h
    obtain ⟨p, rfl, ha⟩ := PEs.one hp
    simp only [List.all_cons, List.all_nil, Bool.and_true] at hs
    exact sn_lenset x h2 h3 ha hs
  · simp only [Option.ite_none_right_eq_some, Option.some.injEq, Bool.and_eq_true, decide_eq_true_eq] at h
    obtain ⟨⟨rfl, h2⟩, rfl⟩ := h
    exact sn_fn x (c_all x.calm) h2 (by decide +kernel) (by decide) (by decide) hp hs
  · simp only [Option.ite_none_right_eq_some, Option.some.injEq, Bool.and_eq_true, decide_eq_true_eq] at h
    obtain ⟨⟨rfl, h2⟩, rfl⟩ := h
    exact sn_fn x (c_any x.calm) h2 (by decide +kernel) (by decide) (by decide) hp hs
  · simp only [Option.ite_none_right_eq_some, Option.some.injEq, Bool.and_eq_true, decide_eq_true_eq] at h
    obtain ⟨⟨rfl, h2⟩, rfl⟩ := h
    exact sn_ty x c_int h2 (by decide +kernel) (by decide) (by decide) hp hs
  · simp only [Option.ite_none_right_eq_some, Option.some.injEq, Bool.and_eq_true, decide_eq_true_eq] at h
    obtain ⟨⟨rfl, h2⟩, rfl⟩ := h
    exact sn_ty x (c_tuple x.hK) h2 (by decide +kernel) (by decide) (by decide) hp hs
  · simp only [Option.ite_none_right_eq_some, Option.some.injEq, Bool.and_eq_true, decide_eq_true_eq] at h
    obtain ⟨⟨rfl, h2⟩, rfl⟩ := h
    exact sn_ty x (c_list x.hK _) h2 (by decide +kernel) (by decide) (by decide) hp hs
  · simp only [Option.ite_none_right_eq_some, Option.some.injEq, Bool.and_eq_true, decide_eq_true_eq, Bool.not_eq_true'] at h
    obtain ⟨⟨⟨⟨rfl, h2⟩, h3⟩, h4⟩, rfl⟩ := h
    obtain ⟨i, hi⟩ := Option.isSome_iff_exists.mp h3
    have L := x.lam h4 i hi
    exact sn_fn x (c_repr x.hK L.grd (by have := L.un; omega)) h2 (by decide +kernel) (by decide) (by decide) hp hs
  · simp only [Option.ite_none_right_eq_some, Option.some.injEq, Bool.and_eq_true, decide_eq_true_eq] at h
    obtain ⟨⟨⟨⟨rfl, h2⟩, rfl⟩, h3⟩, rfl⟩ := h
    obtain ⟨p, rfl, ha⟩ := PEs.one hp
    simp only [List.all_cons, List.all_nil, Bool.and_true] at hs
    exact sn_sortset x h2 h3 ha hs
  · simp only [Option.ite_none_right_eq_some, Option.some.injEq, Bool.and_eq_true, decide_eq_true_eq] at h
    obtain ⟨⟨rfl, h2⟩, rfl⟩ := h
    exact sn_fn x (c_sortdict x.calm) h2 (by decide +kernel) (by decide) (by decide) hp hs
  · simp only [Option.ite_none_right_eq_some, Option.some.injEq, Bool.and_eq_true, decide_eq_true_eq] at h
    obtain ⟨⟨rfl, h2⟩, rfl⟩ := h
    exact sn_ty x c_str h2 (by decide +kernel) (by decide) (by decide) hp hs
  · simp only [Option.ite_none_right_eq_some, Option.some.injEq, Bool.and_eq_true, decide_eq_true_eq] at h
    obtain ⟨⟨rfl, h2⟩, rfl⟩ := h
    exact sn_ty x (c_listS x.calm) h2 (by decide +kernel) (by decide) (by decide) hp hs
  · simp only [Option.ite_none_right_eq_some, Option.some.injEq, Bool.and_eq_true, decide_eq_true_eq] at h
    obtain ⟨⟨rfl, h2⟩, rfl⟩ := h
    exact sn_fn x (c_sorted x.hK) h2 (by decide +kernel) (by decide) (by decide) hp hs
  · simp only [Option.ite_none_right_eq_some, Option.some.injEq, Bool.and_eq_true, decide_eq_true_eq] at h
    obtain ⟨⟨⟨⟨rfl, h2⟩, h3⟩, h4⟩, rfl⟩ := h
    obtain ⟨p, rfl, ha⟩ := PEs.one hp
    simp only [List.all_cons, List.all_nil, Bool.and_true] at hs
    exact sn_isiT x h2 h3 h4 ha hs
  · simp only [Option.ite_none_right_eq_some, Option.some.injEq, Bool.and_eq_true, decide_eq_true_eq] at h
    obtain ⟨⟨⟨rfl, h2⟩, h3⟩, rfl⟩ := h
    obtain ⟨p, rfl, ha⟩ := PEs.one hp
    simp only [List.all_cons, List.all_nil, Bool.and_true] at hs
    exact sn_isi1 x h2 h3 ha hs
  · cases h
end
end PY

set_option Elab.async false
set_option linter.all false
set_option maxRecDepth 100000
set_option maxHeartbeats 8000000
/-! PY, part j: enumerate of a tuple; what is walked. -/
namespace PySem
open Sem (wp)
open AutoSeq1 (wpAny_loadPart')
theorem meets_enumerate_newT (l : Addr) (items : Array Value) (n : Nat) (dct : Option Addr) (sl : Array (Option Value)) :
    Meets (Builtin.«enumerate.__new__» ⟨[.type "enumerate", .ref l], []⟩) (fun _ R s => s.heap.get? l = some { cls := .type "tuple", dict := dct, data := .seq items n, slots := sl } ∧
      R (.ok (.ret (.ref (s.heap.push { cls := .type "tuple_iterator", data := .fields #[.ref l, .int 0 0] }).objs.size)))
        { s with heap := (s.heap.push { cls := .type "tuple_iterator", data := .fields #[.ref l, .int 0 0] }).push { cls := .type "enumerate", data := .fields #[.none, .bool false, .ref s.heap.objs.size, rawInt 0, .none, .none] } }) :=
  .of_wp fun prog w A R s h => by
    obtain ⟨hp, g, d, tk, os⟩ := s; obtain ⟨hl, h⟩ := h
    have hsub := sub_enumerate
    have hL : Heap.IsTuple (Shared.heap ⟨hp, g, d, tk, os⟩) l items := ⟨_, hl, rfl, n, rfl⟩
    wp_walk using wpAny_loadPart' hl
    refine wpAny_stack_any fun st => wpAny_pure ?_
    split
    · rename_i c _ _ _ _ _
      cases (c == Value.type "enumerate")
      · wp_walk using wpAny_loadPart' hl, wpAny_pyIter_tuple hL
        exact ⟨_, rfl, h⟩
      · wp_walk using wpAny_loadPart' hl, wpAny_pyIter_tuple hL
        exact ⟨_, rfl, h⟩
    · wp_walk using wpAny_loadPart' hl, wpAny_pyIter_tuple hL
      exact ⟨_, rfl, h⟩
section
variable {prog : Program} {w : World} {A : Around} {E : Value → Shared → Prop} {s : Shared}
theorem call_enumerate_tuple {l : Addr} {items : Array Value} {Q : Value → Shared → Prop} (hL : s.heap.IsTuple l items)
    (h : ∀ h', IsEnum h' (s.heap.objs.size + 1) s.heap.objs.size 0 .none → h'.IsTupleIter s.heap.objs.size l 0 → h'.objs.size = s.heap.objs.size + 2 →
      (∀ b o, s.heap.get? b = some o → h'.get? b = some o) → Q (.ref (s.heap.objs.size + 1)) { s with heap := h' }) :
    wpAny (model prog w) A (call (.type "enumerate") [.ref l]) Q E s := by
  obtain ⟨⟨c, dct, dt, sl⟩, hl, hc, n, hd⟩ := hL
  replace hc : c = .type "tuple" := hc
  replace hd : dt = .seq items n := hd
  subst hc hd
  refine callType_new F.called_enumerate (by decide) (F.typeCall_enumerate_1 _) (F.newCall_enumerate_1 _) (fun obj => F.args_object_init_2 obj _) F.entry_enumerate_new
    (meets_enumerate_newT l items n dct sl) ⟨hl, ?_⟩
  have hz : (s.heap.push { cls := .type "tuple_iterator", data := .fields #[.ref l, .int 0 0] }).objs.size = s.heap.objs.size + 1 := Heap.size_push ..
  show _ ∧ _
  rw [hz]
  have he : IsEnum ((s.heap.push { cls := .type "tuple_iterator", data := .fields #[.ref l, .int 0 0] }).push
      { cls := .type "enumerate", data := .fields #[.none, .bool false, .ref s.heap.objs.size, rawInt 0, .none, .none] }) (s.heap.objs.size + 1) s.heap.objs.size 0 .none := by
    have := Heap.get?_push_size (s.heap.push { cls := .type "tuple_iterator", data := .fields #[.ref l, .int 0 0] })
      (o := { cls := .type "enumerate", data := .fields #[.none, .bool false, .ref s.heap.objs.size, rawInt 0, .none, .none] }) rfl
    rw [hz] at this; exact this
  refine ⟨⟨_, he, rfl⟩, h _ he ⟨_, Heap.get?_push_of_some _ (Heap.get?_push_size _ rfl), rfl, rfl⟩ (by rw [Heap.size_push, hz]) fun b o x => Heap.get?_push_of_some _ (Heap.get?_push_of_some _ x)⟩
theorem enum_endT {e it l : Addr} {i : Nat} {items : Array Value} {old : Value} {Q : Option Value → Shared → Prop} (hh : A.in1.handled = none)
    (he : IsEnum s.heap e it i old) (hit : s.heap.IsTupleIter it l i) (hl : s.heap.IsTuple l items) (hx : items[i]? = none)
    (hQ : ∀ h', Heap.ExtBut it s.heap h' → Q none { s with heap := h' }) : wpAny (model prog w) A (pyNext (.ref e)) Q E s := by
  have hT : s.TypeIs (.ref e) "enumerate" := ⟨_, he, rfl⟩
  unfold pyNext
  refine wpAny_bind (wpAny_attempt (wpAny_callSpecial?_slot (name := Str.ofString "__next__") hT F.slot_enumerate_next
    (wpAny_call_entry F.slot_enumerate_next hT F.entry_enumerate_next ?_ (F.args_enumerate_next_1 _))))
  show wpAny _ _ (field (.ref e) 2 >>= _) _ _ _
  refine wpAny_bind (wpAny_field he rfl (x := .ref it) rfl ?_)
  refine wpAny_bind (wpAny_nextOf_tuple_end hh hit hl hx fun h' x he' hx' => ?_)
  obtain ⟨o, ho, hc⟩ := hx'
  refine wpAny_bind (wpAny_isInstance (T := "StopIteration") (b := true) ⟨o, ho, hc⟩ isSubtype_stop ?_)
  exact wpAny_pure (hQ _ he')
end
end PySem
namespace PY
open PySem PySem.Spec PyProof.Rows L2
/-- the tuple at a as it stands at each turn, each item in a new pair -/
def IteT (K : PySem.W.Frag) (a : Addr) : It :=
  ⟨fun i H => ∃ (xs : List V) (x : V), SqT K H a xs ∧ xs[i]? = some x, fun i H v H' => ∃ T x, v = .ref T ∧ H T = none ∧ H' = upd H T (.tup [.int (i : Nat), x]) ∧ ∀ xs, SqT K H a xs → xs[i]? = some x, fun i H => ∃ xs : List V, SqT K H a xs ∧ xs.length ≤ i⟩
theorem turn_enumT {P : Program} {w : World} {K : PySem.W.Frag} {elts : List Expr} {kk : Nat} {tpos : Pos} (a e it : Addr) :
    Turn P w K (.Tuple elts kk tpos) (IteT K a) [e, it] e (fun i h => (∃ old, IsEnum h e it ((i : Nat) : Int) old) ∧ h.IsTupleIter it a i ∧ e ≠ it) where
  mem := by simp
  obj := fun i h st b hb => by
    obtain ⟨⟨old, he⟩, ⟨o, ho, hc, hd⟩, _⟩ := st
    have e' : b = e ∨ b = it := by simpa using hb
    rcases e' with z | z
    · rw [z]; exact ⟨_, he, fun v q => nomatch q⟩
    · rw [z]; exact ⟨o, ho, fun v q => by rw [hd] at q; cases q⟩
  keep := fun i h h' st k => let ⟨⟨old, he⟩, hi, hne⟩ := st; ⟨⟨old, k e (by simp) _ he⟩, hi.at fun o q => k it (by simp) o q, hne⟩
  item := by
    intro X hP hw hK hc i pins s σ H E I hf st hg
    subst hP hw hK
    obtain ⟨⟨old, he⟩, hit, hne⟩ := st
    obtain ⟨xs, x, hq, hx⟩ := hg
    obtain ⟨its, rv, p, hz⟩ := I.tuple hq
    have p' : s.heap.IsTuple a its.toArray := p
    obtain ⟨u, hu, ru⟩ := rv.get hx
    have hel : e < s.heap.objs.size := Heap.lt_size he
    have hil : it < s.heap.objs.size := by obtain ⟨_, q, _⟩ := hit; exact Heap.lt_size q
    have nai : a ≠ it := fun z => by
      obtain ⟨o1, h1, h2, _⟩ := id p'
      obtain ⟨o2, h3, h4, _⟩ := id hit
      rw [z, h3] at h1; cases h1
      rw [h4] at h2; revert h2; decide
    have nea : e ≠ a := fun z => by
      obtain ⟨o1, h1, h2, _⟩ := id p'
      rw [← z, he] at h1; cases h1
      have h2' : Value.type "enumerate" = Value.type "tuple" := h2
      revert h2'; decide
    have hh : X.A.in1.handled = none := I.ok.hd hc
    have hlt : i < its.toArray.size := by
      have := (List.getElem?_eq_some_iff.mp hu).1
      simpa using this
    refine wpAny_pyNext_enum_itemD (Draws.tuple hh it a nai its.toArray) he ⟨hit, p'⟩ hlt hne (by simp [hne, nea]) fun x' h' tk hP ho hst hT hsz hk => ?_
    have ex : x' = u := by
      have h1 : its.toArray[i]? = some u := by simpa using hu
      have h2 : its.toArray[i]? = some x' := hP
      rw [h1] at h2; exact (Option.some.inj h2).symm
    subst ex
    obtain ⟨hit', _⟩ := hst
    refine ⟨_, rfl, wpAny_letOwnedTupleGo_enum (s := { s with heap := h', toks := tk + 1 }) ho fun h'' he' sb => ?_⟩
    have hT2 : h''.get? s.heap.objs.size = some { cls := .type "tuple", data := .seq #[.int i tk, x'] } := (sb.2 _ (Nat.ne_of_gt hel)).trans hT
    have new : ObjOk X.prog X.w (upd H s.heap.objs.size (.tup [.int (i : Nat), x])) h'' s.heap.objs.size (.tup [.int (i : Nat), x]) :=
      ⟨by show 2 ≤ sizeLine; decide, [.int i tk, x'], .cons ⟨_, rfl⟩ (.cons ru .nil), ⟨_, hT2, rfl, _, rfl⟩⟩
    have I1 : Inv X pins σ (upd H s.heap.objs.size (.tup [.int (i : Nat), x])) { s with heap := h'', toks := tk + 1 } :=
      I.turnedNew (ch := [e, it]) (fun b ob hb q => (sb.2 b (fun z => hb (by simp [z]))).trans (hk b ob (fun z => hb (by simp [z])) (fun z => hb (by simp [z])) q)) hf (Nat.le_refl _) new
    refine ⟨.ref s.heap.objs.size, _, I1, rfl, ⟨_, x, rfl, I.hok.fresh (Nat.le_refl _), rfl, fun ys hy => by rw [I.tuple_inj hy hq]; exact hx⟩, ⟨⟨x', ?_⟩, hit'.at fun o q => (sb.2 it (Ne.symm hne)).trans q, hne⟩, fun b hb => ?_⟩
    · have e1 : ((i + 1 : Nat) : Int) = (i : Int) + 1 := by omega
      rw [e1]; exact he'
    · have hb' : b < s.heap.objs.size := by
        have e' : b = e ∨ b = it := by simpa using hb
        rcases e' with z | z
        · rw [z]; exact hel
        · rw [z]; exact hil
      rw [upd_ne (Nat.ne_of_lt hb')]
      exact (hf b hb).1
  done := by
    intro X hP hw hK hc i pins s σ H E I hf st hg
    subst hP hw hK
    obtain ⟨⟨old, he⟩, hit, hne⟩ := st
    obtain ⟨xs, hq, hx⟩ := hg
    obtain ⟨its, rv, p, hz⟩ := I.tuple hq
    have p' : s.heap.IsTuple a its.toArray := p
    obtain ⟨f0, f1, f2, f3, f4, f5⟩ := hf it (by simp)
    have hl := rv.length
    have nai : a ≠ it := fun z => by
      obtain ⟨o1, h1, h2, _⟩ := id p'
      obtain ⟨o2, h3, h4, _⟩ := id hit
      rw [z, h3] at h1; cases h1
      rw [h4] at h2; revert h2; decide
    have hh : X.A.in1.handled = none := I.ok.hd hc
    exact enum_endT hh he hit p' (by simp; omega) fun h' eb => ⟨rfl, I.turned (t' := s.toks) (fun b o hb q => eb b o hb q) f0 f1 f3 f4 f5⟩
  self := fun A i s Q E st h => let ⟨⟨_, he⟩, _⟩ := st; wpAny_pyIter_enum he h
end PY

set_option Elab.async false
set_option linter.all false
set_option maxRecDepth 100000
set_option maxHeartbeats 4000000
/-! PY, part k: what is walked. -/
namespace PY
open PySem PySem.Spec PyProof.Rows L2

/-- the iterator J gives the items of p, from the state on -/
structure ItOk (G : Gd) (J : It) (p : Plan) (Z φ : List Addr) (H : Hp) : Prop where
  go : ∀ Z1 φ1 H1 μ1, ZUp Z H Z1 → Grow φ H φ1 H1 → CRel G Z1 φ1 H1 μ1 → p.guard μ1 → ∀ i, i < p.items.length → J.go i H1
  stop : ∀ Z1 φ1 H1 μ1, ZUp Z H Z1 → Grow φ H φ1 H1 → CRel G Z1 φ1 H1 μ1 → p.guard μ1 → J.stop p.items.length H1
  yld : ∀ Z1 φ1 H1 μ1, ZUp Z H Z1 → Grow φ H φ1 H1 → CRel G Z1 φ1 H1 μ1 → p.guard μ1 → ∀ (i : Nat) x H2, i < p.items.length → J.yld i H1 x H2 →
    ∃ d, p.items[i]? = some d ∧ Rep G Z1 φ1 H2 x d ∧ CRel G Z1 φ1 H2 μ1 ∧ Grow φ1 H1 φ1 H2
/-- a list at a that stands for ds while guard -/
def LSeq (G : Gd) (Z φ : List Addr) (H : Hp) (a : Addr) (guard : Store → Prop) (ds : List D) : Prop :=
  ∀ Z1 φ1 H1 μ1, ZUp Z H Z1 → Grow φ H φ1 H1 → CRel G Z1 φ1 H1 μ1 → guard μ1 → ∃ vs, SqL G.K H1 a vs ∧ Reps G Z1 φ1 H1 vs ds
def TSeq (G : Gd) (Z φ : List Addr) (H : Hp) (a : Addr) (guard : Store → Prop) (ds : List D) : Prop :=
  ∀ Z1 φ1 H1 μ1, ZUp Z H Z1 → Grow φ H φ1 H1 → CRel G Z1 φ1 H1 μ1 → guard μ1 → ∃ vs, SqT G.K H1 a vs ∧ Reps G Z1 φ1 H1 vs ds
section
variable {G : Gd} {Z φ : List Addr} {H : Hp} {a b : Addr} {gd gd' : Store → Prop} {ds es : List D} {μ : Store}
theorem LSeq.it (s : LSeq G Z φ H a gd ds) : ItOk G (Itl G.K a) ⟨ds, gd⟩ Z φ H := by
  refine ⟨fun Z1 φ1 H1 μ1 z g c h i hi => ?_, fun Z1 φ1 H1 μ1 z g c h => ?_, fun Z1 φ1 H1 μ1 z g c h i x H2 hi y => ?_⟩
  · obtain ⟨vs, q, r⟩ := s Z1 φ1 H1 μ1 z g c h
    have hl := r.length
    exact ⟨vs, vs[i]'(by rw [hl]; exact hi), q, by simp⟩
  · obtain ⟨vs, q, r⟩ := s Z1 φ1 H1 μ1 z g c h
    exact ⟨vs, q, Nat.le_of_eq r.length⟩
  · obtain ⟨vs, q, r⟩ := s Z1 φ1 H1 μ1 z g c h
    obtain ⟨rfl, y⟩ := y
    obtain ⟨d, e, rd⟩ := r.get' (y vs q)
    exact ⟨d, e, rd, c, Grow.refl _ _⟩
theorem TSeq.it (s : TSeq G Z φ H a gd ds) : ItOk G (Itt G.K a) ⟨ds, gd⟩ Z φ H := by
  refine ⟨fun Z1 φ1 H1 μ1 z g c h i hi => ?_, fun Z1 φ1 H1 μ1 z g c h => ?_, fun Z1 φ1 H1 μ1 z g c h i x H2 hi y => ?_⟩
  · obtain ⟨vs, q, r⟩ := s Z1 φ1 H1 μ1 z g c h
    have hl := r.length
    exact ⟨vs, vs[i]'(by rw [hl]; exact hi), q, by simp⟩
  · obtain ⟨vs, q, r⟩ := s Z1 φ1 H1 μ1 z g c h
    exact ⟨vs, q, Nat.le_of_eq r.length⟩
  · obtain ⟨vs, q, r⟩ := s Z1 φ1 H1 μ1 z g c h
    obtain ⟨rfl, y⟩ := y
    obtain ⟨d, e, rd⟩ := r.get' (y vs q)
    exact ⟨d, e, rd, c, Grow.refl _ _⟩
theorem enumFrom_length : ∀ (k : Nat) (xs : List D), (enumFrom k xs).length = xs.length
  | _, [] => rfl
  | k, _ :: xs => by rw [enumFrom, List.length_cons, List.length_cons, enumFrom_length]
theorem enumFrom_get : ∀ (k : Nat) (xs : List D) (i : Nat) (d : D), xs[i]? = some d → (enumFrom k xs)[i]? = some (.tup [.int ((k + i : Nat) : Int), d])
  | _, [], i, d, h => by simp at h
  | k, x :: xs, 0, d, h => by
    simp at h; subst h; rfl
  | k, x :: xs, i + 1, d, h => by
    rw [enumFrom]
    have := enumFrom_get (k + 1) xs i d (by simpa using h)
    rw [List.getElem?_cons_succ, this]
    congr 5
    omega
theorem pair_rep {T : Addr} {x y : V} {d e : D} (c : CRel G Z φ H μ) (h : H T = none) (r1 : Rep G Z φ H x d) (r2 : Rep G Z φ H y e) :
    Rep G Z φ (upd H T (.tup [x, y])) (.ref T) (.tup [d, e]) ∧ CRel G Z φ (upd H T (.tup [x, y])) μ ∧ Grow φ H φ (upd H T (.tup [x, y])) :=
  ⟨new_tup c h (.cons r1 (.cons r2 .nil)), c.upd h, Grow.upd h⟩
theorem LSeq.enum (s : LSeq G Z φ H a gd ds) : ItOk G (Ite G.K a) (enumPlan ⟨ds, gd⟩) Z φ H := by
  refine ⟨fun Z1 φ1 H1 μ1 z g c h i hi => ?_, fun Z1 φ1 H1 μ1 z g c h => ?_, fun Z1 φ1 H1 μ1 z g c h i v H2 hi y => ?_⟩
  · obtain ⟨vs, q, r⟩ := s Z1 φ1 H1 μ1 z g c h
    have hl := r.length
    exact ⟨vs, vs[i]'(by rw [hl, ← enumFrom_length 0 ds]; exact hi), q, by simp⟩
  · obtain ⟨vs, q, r⟩ := s Z1 φ1 H1 μ1 z g c h
    exact ⟨vs, q, Nat.le_of_eq (r.length.trans (enumFrom_length 0 ds).symm)⟩
  · obtain ⟨vs, q, r⟩ := s Z1 φ1 H1 μ1 z g c h
    obtain ⟨T, x, rfl, hT, rfl, y⟩ := y
    obtain ⟨d, e, rd⟩ := r.get' (y vs q)
    obtain ⟨r1, r2, r3⟩ := pair_rep c hT (.int (i : Nat)) rd
    exact ⟨_, by have := enumFrom_get 0 ds i d e; rw [Nat.zero_add] at this; exact this, r1, r2, r3⟩
theorem TSeq.enum (s : TSeq G Z φ H a gd ds) : ItOk G (IteT G.K a) (enumPlan ⟨ds, gd⟩) Z φ H := by
  refine ⟨fun Z1 φ1 H1 μ1 z g c h i hi => ?_, fun Z1 φ1 H1 μ1 z g c h => ?_, fun Z1 φ1 H1 μ1 z g c h i v H2 hi y => ?_⟩
  · obtain ⟨vs, q, r⟩ := s Z1 φ1 H1 μ1 z g c h
    have hl := r.length
    exact ⟨vs, vs[i]'(by rw [hl, ← enumFrom_length 0 ds]; exact hi), q, by simp⟩
  · obtain ⟨vs, q, r⟩ := s Z1 φ1 H1 μ1 z g c h
    exact ⟨vs, q, Nat.le_of_eq (r.length.trans (enumFrom_length 0 ds).symm)⟩
  · obtain ⟨vs, q, r⟩ := s Z1 φ1 H1 μ1 z g c h
    obtain ⟨T, x, rfl, hT, rfl, y⟩ := y
    obtain ⟨d, e, rd⟩ := r.get' (y vs q)
    obtain ⟨r1, r2, r3⟩ := pair_rep c hT (.int (i : Nat)) rd
    exact ⟨_, by have := enumFrom_get 0 ds i d e; rw [Nat.zero_add] at this; exact this, r1, r2, r3⟩
theorem zip_get {i : Nat} {d e : D} (h1 : ds[i]? = some d) (h2 : es[i]? = some e) : ((ds.zip es).map fun z => D.tup [z.1, z.2])[i]? = some (.tup [d, e]) := by
  rw [List.getElem?_map, List.getElem?_zip_eq_some.mpr (by exact ⟨h1, h2⟩ : ds[i]? = some (d, e).1 ∧ es[i]? = some (d, e).2)]
  rfl
theorem zip_len : ((ds.zip es).map fun z => D.tup [z.1, z.2]).length = min ds.length es.length := by simp
theorem LSeq.zip (s : LSeq G Z φ H a gd ds) (t : LSeq G Z φ H b gd' es) : ItOk G (Itz G.K a b) (zipPlan ⟨ds, gd⟩ ⟨es, gd'⟩) Z φ H := by
  refine ⟨fun Z1 φ1 H1 μ1 z g c h i hi => ?_, fun Z1 φ1 H1 μ1 z g c h => ?_, fun Z1 φ1 H1 μ1 z g c h i v H2 hi y => ?_⟩
  · obtain ⟨vs, q, r⟩ := s Z1 φ1 H1 μ1 z g c h.1
    obtain ⟨ws, q', r'⟩ := t Z1 φ1 H1 μ1 z g c h.2
    have hl := r.length
    have hl' := r'.length
    have hm : i < min ds.length es.length := by rw [← zip_len]; exact hi
    exact ⟨vs, ws, vs[i]'(by omega), ws[i]'(by omega), q, q', by simp, by simp⟩
  · obtain ⟨vs, q, r⟩ := s Z1 φ1 H1 μ1 z g c h.1
    obtain ⟨ws, q', r'⟩ := t Z1 φ1 H1 μ1 z g c h.2
    have hl := r.length
    have hl' := r'.length
    refine ⟨vs, ws, q, q', ?_⟩
    show vs.length ≤ ((ds.zip es).map fun z => D.tup [z.1, z.2]).length ∨ ws.length ≤ ((ds.zip es).map fun z => D.tup [z.1, z.2]).length
    rw [zip_len]
    omega
  · obtain ⟨vs, q, r⟩ := s Z1 φ1 H1 μ1 z g c h.1
    obtain ⟨ws, q', r'⟩ := t Z1 φ1 H1 μ1 z g c h.2
    obtain ⟨T, x, x', rfl, hT, rfl, y, y'⟩ := y
    obtain ⟨d, e, rd⟩ := r.get' (y vs q)
    obtain ⟨d', e', rd'⟩ := r'.get' (y' ws q')
    obtain ⟨r1, r2, r3⟩ := pair_rep c hT rd rd'
    exact ⟨_, zip_get e e', r1, r2, r3⟩
theorem TSeq.zip (s : TSeq G Z φ H a gd ds) (t : TSeq G Z φ H b gd' es) : ItOk G (RZ.ItzT G.K a b) (zipPlan ⟨ds, gd⟩ ⟨es, gd'⟩) Z φ H := by
  refine ⟨fun Z1 φ1 H1 μ1 z g c h i hi => ?_, fun Z1 φ1 H1 μ1 z g c h => ?_, fun Z1 φ1 H1 μ1 z g c h i v H2 hi y => ?_⟩
  · obtain ⟨vs, q, r⟩ := s Z1 φ1 H1 μ1 z g c h.1
    obtain ⟨ws, q', r'⟩ := t Z1 φ1 H1 μ1 z g c h.2
    have hl := r.length
    have hl' := r'.length
    have hm : i < min ds.length es.length := by rw [← zip_len]; exact hi
    exact ⟨vs, ws, vs[i]'(by omega), ws[i]'(by omega), q, q', by simp, by simp⟩
  · obtain ⟨vs, q, r⟩ := s Z1 φ1 H1 μ1 z g c h.1
    obtain ⟨ws, q', r'⟩ := t Z1 φ1 H1 μ1 z g c h.2
    have hl := r.length
    have hl' := r'.length
    refine ⟨vs, ws, q, q', ?_⟩
    show vs.length ≤ ((ds.zip es).map fun z => D.tup [z.1, z.2]).length ∨ ws.length ≤ ((ds.zip es).map fun z => D.tup [z.1, z.2]).length
    rw [zip_len]
    omega
  · obtain ⟨vs, q, r⟩ := s Z1 φ1 H1 μ1 z g c h.1
    obtain ⟨ws, q', r'⟩ := t Z1 φ1 H1 μ1 z g c h.2
    obtain ⟨T, x, x', rfl, hT, rfl, y, y'⟩ := y
    obtain ⟨d, e, rd⟩ := r.get' (y vs q)
    obtain ⟨d', e', rd'⟩ := r'.get' (y' ws q')
    obtain ⟨r1, r2, r3⟩ := pair_rep c hT rd rd'
    exact ⟨_, zip_get e e', r1, r2, r3⟩
/-- a range -/
theorem rng_it {lo : Int} {n : Nat} : ItOk G (Itr lo n) ⟨rngItems lo n, fun _ => True⟩ Z φ H := by
  have hl : (rngItems lo n).length = n := by simp [rngItems]
  refine ⟨fun Z1 φ1 H1 μ1 z g c h i hi => ?_, fun Z1 φ1 H1 μ1 z g c h => ?_, fun Z1 φ1 H1 μ1 z g c h i x H2 hi y => ?_⟩
  · rw [hl] at hi; exact hi
  · exact Nat.le_of_eq hl.symm
  · obtain ⟨rfl, rfl⟩ := y
    rw [hl] at hi
    refine ⟨.int (lo + (i : Nat)), ?_, .int _, c, Grow.refl _ _⟩
    show (rngItems lo n)[i]? = _
    unfold rngItems
    rw [List.getElem?_map, List.getElem?_range hi]
    rfl
theorem rngC_it {lo c : Int} {n : Nat} : ItOk G (Itc lo c n) ⟨rngItemsC lo c n, fun _ => True⟩ Z φ H := by
  have hl : (rngItemsC lo c n).length = n := by simp [rngItemsC]
  refine ⟨fun Z1 φ1 H1 μ1 z g c h i hi => ?_, fun Z1 φ1 H1 μ1 z g c h => ?_, fun Z1 φ1 H1 μ1 z g c' h i x H2 hi y => ?_⟩
  · rw [hl] at hi; exact hi
  · exact Nat.le_of_eq hl.symm
  · obtain ⟨rfl, rfl⟩ := y
    rw [hl] at hi
    refine ⟨.int (lo + (i : Nat) * c), ?_, .int _, c', Grow.refl _ _⟩
    show (rngItemsC lo c n)[i]? = _
    unfold rngItemsC
    rw [List.getElem?_map, List.getElem?_range hi]
    rfl
/-- a text -/
theorem str_it {t : String} : ItOk G (Its (Str.ofString t)) ⟨t.toList.map fun c => .str (String.singleton c), fun _ => True⟩ Z φ H := by
  have hl : (t.toList.map fun c => D.str (String.singleton c)).length = (Str.ofString t).cps.size := by
    rw [List.length_map]; exact (ofString_length t).symm
  refine ⟨fun Z1 φ1 H1 μ1 z g c h i hi => ?_, fun Z1 φ1 H1 μ1 z g c h => ?_, fun Z1 φ1 H1 μ1 z g c h i x H2 hi y => ?_⟩
  · show i < (Str.ofString t).cps.size
    rw [← hl]; exact hi
  · show (Str.ofString t).cps.size ≤ _
    exact Nat.le_of_eq hl.symm
  · obtain ⟨rfl, cc, h1, rfl⟩ := y
    have hi' : i < t.toList.length := by
      have : i < (t.toList.map fun c => D.str (String.singleton c)).length := hi
      rw [List.length_map] at this; exact this
    have hc := ofString_cps t
    refine ⟨.str (String.singleton t.toList[i]), by simp [List.getElem?_map, hi'], ?_, c, Grow.refl _ _⟩
    have e2 : (V.str ⟨#[cc]⟩) = V.str (Str.ofString (String.singleton t.toList[i])) := by
      congr 1
      rw [ofString_cps, List.getElem?_toArray, List.getElem?_map, List.getElem?_eq_getElem hi'] at h1
      have h2 : cc = (t.toList[i]).toNat := (Option.some.inj h1).symm
      subst h2
      have h3 := ofString_cps (String.singleton t.toList[i])
      cases h4 : Str.ofString (String.singleton t.toList[i]) with
      | mk cps =>
        rw [h4] at h3
        simp only at h3
        rw [h3]
        simp
    rw [e2]
    exact .str _
/-- a sequence, kept -/
theorem Rep.lseq (c : CRel G Z φ H μ) {x : V} {d : D} {p : Plan} (r : Rep G Z φ H x d) (e : seqPlan μ d = some p) :
    ∃ a, x = .ref a ∧ ((isTupD d = false ∧ LSeq G Z φ H a p.guard p.items) ∨ (isTupD d = true ∧ TSeq G Z φ H a p.guard p.items)) := by
  cases d with
  | scr ns =>
    simp only [seqPlan, valPlan, Option.some.injEq] at e
    subst e
    obtain ⟨a, rfl, h⟩ := r.of_scr
    refine ⟨a, rfl, .inl ⟨rfl, fun Z1 φ1 H1 μ1 z g c1 _ => ?_⟩⟩
    obtain ⟨a', e, h'⟩ := (r.lift z g).of_scr
    cases e
    exact ⟨_, h', ints_rep ns⟩
  | tup xs =>
    simp only [seqPlan, valPlan, Option.some.injEq] at e
    subst e
    obtain ⟨a, vs, rfl, _, _⟩ := r.of_tup
    refine ⟨a, rfl, .inr ⟨rfl, fun Z1 φ1 H1 μ1 z g c1 _ => ?_⟩⟩
    obtain ⟨a', vs', e, h, r'⟩ := (r.lift z g).of_tup
    cases e
    exact ⟨vs', h, r'⟩
  | lst xs =>
    simp only [seqPlan, valPlan, Option.some.injEq] at e
    subst e
    obtain ⟨a, vs, rfl, _, _⟩ := r.of_lst
    refine ⟨a, rfl, .inl ⟨rfl, fun Z1 φ1 H1 μ1 z g c1 _ => ?_⟩⟩
    obtain ⟨a', vs', e, h, r'⟩ := (r.lift z g).of_lst
    cases e
    exact ⟨vs', .inl h, r'⟩
  | ref i =>
    obtain ⟨a, rfl, ha⟩ := r.of_ref
    cases q : μ[i]? with
    | none => simp [seqPlan, valPlan, q] at e
    | some k =>
      cases k with
      | lst xs =>
        simp only [seqPlan, valPlan, q, Option.some.injEq] at e
        subst e
        refine ⟨a, rfl, .inl ⟨rfl, fun Z1 φ1 H1 μ1 z g c1 h => ?_⟩⟩
        obtain ⟨vs, h1, r1⟩ := c1.lst (g.pre i a ha) h
        exact ⟨vs, .inl (.inl h1), r1⟩
      | dct _ _ => simp [seqPlan, valPlan, q] at e
      | ins _ _ => simp [seqPlan, valPlan, q] at e
      | tbl _ => simp [seqPlan, valPlan, q] at e
  | _ => simp [seqPlan, valPlan] at e
end

/-! ### iterators come -/
def RI (G : Gd) (W : WX) (wp : (XD → Store → Prop) → Sl → Store → (Plan → Store → Prop) → Prop) : TI := fun σ H R => ∃ Z φ ρ μ E Qp, At G Z W E σ φ H ρ μ ∧ wp E ρ μ Qp ∧
  ∀ p μ', Qp p μ' → ∀ J φ' H', ItOk G J p Z φ' H' → CRel G Z φ' H' μ' → Grow φ H φ' H' → R J H'
def iDyn (K : PySem.W.Frag) (te : TE) : TI := fun σ H R => te σ H fun v H1 => (∃ a, v = .ref a ∧ (∃ xs, SqL K H1 a xs) ∧ R (Itl K a) H1) ∨ (∃ a, v = .ref a ∧ (∃ xs, SqT K H1 a xs) ∧ R (Itt K a) H1) ∨ ∃ x, v = .str x ∧ R (Its x) H1
def iEnumA (K : PySem.W.Frag) (ta : TA) : TI := fun σ H R => ta σ H fun vs H1 => ∃ a xs, vs = [.ref a] ∧ ((SqL K H1 a xs ∧ R (Ite K a) H1) ∨ (SqT K H1 a xs ∧ R (IteT K a) H1))
section
variable {X : Cx} {tg : Expr}
theorem pi_imp {e : Expr} {t t' : TI} (h : PI X tg e t) (i : ∀ σ H R, t' σ H R → t σ H R) : PI X tg e t' := ⟨fun pins s σ H R I q => h.run pins s σ H R I (i σ H R q)⟩
theorem pi_dyn {l : Expr} {tl : TE} (hl : PE X l tl) : PI X tg l (iDyn X.K tl) := by
  refine ⟨fun pins s σ H R I h => ?_⟩
  refine thn (hl.run pins s σ H _ I h) fun v s1 ⟨x, H1, I1, r1, q1⟩ => ?_
  rcases q1 with ⟨a, e, ⟨xs, hq⟩, q⟩ | ⟨a, e, ⟨xs, hq⟩, q⟩ | ⟨x, ex, q⟩
  · subst e
    cases r1
    obtain ⟨its, rv, p, hz⟩ := I1.list hq
    refine wpAny_pyIter_list p.isList ?_
    refine ⟨s1.heap.objs.size, [s1.heap.objs.size], _, _, H1, rfl, I1.kept (t' := s1.toks) fun b o e => Heap.get?_push_of_some _ e, turn_list a _, ⟨_, Heap.get?_push_size _ rfl, rfl, rfl⟩, fun b hb => ?_, q⟩
    have e : b = s1.heap.objs.size := by simpa using hb
    subst e
    exact I1.fpOk (Nat.le_refl _) (I1.hok.fresh (Nat.le_refl _))
  · subst e
    cases r1
    obtain ⟨its, rv, p, hz⟩ := I1.tuple hq
    refine wpAny_pyIter_tuple (show s1.heap.IsTuple a its.toArray from p) ?_
    refine ⟨s1.heap.objs.size, [s1.heap.objs.size], _, _, H1, rfl, I1.kept (t' := s1.toks) fun b o e => Heap.get?_push_of_some _ e, turn_tuple a _, ⟨_, Heap.get?_push_size _ rfl, rfl, rfl⟩, fun b hb => ?_, q⟩
    have e : b = s1.heap.objs.size := by simpa using hb
    subst e
    exact I1.fpOk (Nat.le_refl _) (I1.hok.fresh (Nat.le_refl _))
  · subst ex
    obtain ⟨t, rfl⟩ := r1
    cases ha : x.cps.all (· < 128)
    · exact wpAny_pyIter_wide ha (pi_one (tk := s1.toks) I1 _ (turn_str _ x t "str_iterator" (.inr rfl)) ⟨_, Heap.get?_push_size _ rfl, rfl, rfl⟩ q)
    · exact wpAny_pyIter_ascii ha (pi_one (tk := s1.toks) I1 _ (turn_str _ x t "str_ascii_iterator" (.inl rfl)) ⟨_, Heap.get?_push_size _ rfl, rfl, rfl⟩ q)
theorem pi_enumA {e : Expr} {ta : TA} {p pos tpos : Pos} {elts : List Expr} {kk : Nat} (hg : Gl X "enumerate") (hm : X.mg "enumerate" = none) (ha : PA X [e] ta) (hs : starEach [e] X.env = [(false, eval e X.env)]) :
    PI X (.Tuple elts kk tpos) (.Call (.Name "enumerate" p) [e] [] pos) (iEnumA X.K ta) := by
  refine ⟨fun pins s σ H R I h => ?_⟩
  refine Call_ (ld_blt I hg hm boot_enumerate (PyProof.Rows.callWith_type1 (thn (ha.run pos pins s σ H _ I h) fun us s1 ⟨vs, H1, I1, r1, q1⟩ => ?_) hs rfl))
  obtain ⟨a, xs, ex, q1⟩ := q1
  subst ex
  cases r1 with
  | cons r rr =>
    cases rr
    cases r
    have fp2 : ∀ b, b ∈ [s1.heap.objs.size + 1, s1.heap.objs.size] → FpOk X pins H1 b := fun b hb => by
      have e' : b = s1.heap.objs.size + 1 ∨ b = s1.heap.objs.size := by simpa using hb
      have hle : s1.heap.objs.size ≤ b := by
        rcases e' with z | z
        · rw [z]; exact Nat.le_add_right _ _
        · rw [z]; exact Nat.le_refl _
      exact I1.fpOk hle (I1.hok.fresh hle)
    rcases q1 with ⟨hq, q⟩ | ⟨hq, q⟩
    · obtain ⟨its, rv, p', hz⟩ := I1.list hq
      refine call_enumerate_list p'.isList fun h' he hit hsz hk => wpAny_pyIter_enum he ?_
      have I2 : Inv X pins σ H1 { s1 with heap := h' } := I1.kept (t' := s1.toks) hk
      exact ⟨s1.heap.objs.size + 1, [s1.heap.objs.size + 1, s1.heap.objs.size], _, _, H1, rfl, I2, turn_enum a (s1.heap.objs.size + 1) s1.heap.objs.size, ⟨⟨.none, he⟩, hit, Nat.succ_ne_self _⟩, fp2, q⟩
    · obtain ⟨its, rv, p', hz⟩ := I1.tuple hq
      refine call_enumerate_tuple (show s1.heap.IsTuple a its.toArray from p') fun h' he hit hsz hk => wpAny_pyIter_enum he ?_
      have I2 : Inv X pins σ H1 { s1 with heap := h' } := I1.kept (t' := s1.toks) hk
      exact ⟨s1.heap.objs.size + 1, [s1.heap.objs.size + 1, s1.heap.objs.size], _, _, H1, rfl, I2, turn_enumT a (s1.heap.objs.size + 1) s1.heap.objs.size, ⟨⟨.none, he⟩, hit, Nat.succ_ne_self _⟩, fp2, q⟩
end
end PY

set_option Elab.async false
set_option linter.all false
set_option maxRecDepth 100000
set_option maxHeartbeats 4000000
/-! PY, part l: targets; iterators by the syntax. -/
namespace PY
open PySem PySem.Spec PyProof.Rows L2

/-! ### targets -/
structure TgTo (G : Gd) (Z φ : List Addr) (H : Hp) (σ : L2.St) (ns : List Nat) (ρ' : Sl) (σ' : L2.St) : Prop where
  er : ERel G Z φ H σ' ρ'
  len : σ'.length = σ.length
  out : ∀ i, i ∉ ns → σ'[i]? = σ[i]?
def RG (G : Gd) (t : Tg) : TG := fun v σ H Q => ∃ Z φ ρ d ρ', ERel G Z φ H σ ρ ∧ Rep G Z φ H v d ∧ bindT t d ρ = some ρ' ∧ ∀ σ', TgTo G Z φ H σ (tgN t) ρ' σ' → Q σ' H
def RGs (G : Gd) (ts : List Tg) : TGs := fun vs σ H Q => ∃ Z φ ρ ds ρ', ERel G Z φ H σ ρ ∧ Reps G Z φ H vs ds ∧ bindTs ts ds ρ = some ρ' ∧ ∀ σ', TgTo G Z φ H σ (tgNs ts) ρ' σ' → Q σ' H
theorem ERel.set {G : Gd} {Z φ : List Addr} {H : Hp} {σ : L2.St} {ρ : Sl} {v : V} {d : D} (r : ERel G Z φ H σ ρ) (h : Rep G Z φ H v d) (i : Nat) : ERel G Z φ H (σ.set i (some v)) (ρ.set i (some d)) := by
  refine ⟨by rw [List.length_set, List.length_set]; exact r.len, fun j d' e => ?_⟩
  by_cases hj : j = i
  · subst hj
    by_cases hl : j < ρ.length
    · rw [List.getElem?_set_self hl] at e
      cases e
      exact ⟨v, List.getElem?_set_self (by rw [r.len]; exact hl), h⟩
    · rw [List.getElem?_eq_none (by simpa using hl)] at e; cases e
  · rw [List.getElem?_set_ne (Ne.symm hj)] at e
    obtain ⟨w, e1, r1⟩ := r.at_ j d' e
    exact ⟨w, by rw [List.getElem?_set_ne (Ne.symm hj)]; exact e1, r1⟩
theorem ERel.unset {G : Gd} {Z φ : List Addr} {H : Hp} {σ : L2.St} {ρ : Sl} (r : ERel G Z φ H σ ρ) (i : Nat) : ERel G Z φ H (σ.set i none) (ρ.set i none) := by
  refine ⟨by rw [List.length_set, List.length_set]; exact r.len, fun j d' e => ?_⟩
  by_cases hj : j = i
  · subst hj
    by_cases hl : j < ρ.length
    · rw [List.getElem?_set_self hl] at e; cases e
    · rw [List.getElem?_eq_none (by simpa using hl)] at e; cases e
  · rw [List.getElem?_set_ne (Ne.symm hj)] at e
    obtain ⟨w, e1, r1⟩ := r.at_ j d' e
    exact ⟨w, by rw [List.getElem?_set_ne (Ne.symm hj)]; exact e1, r1⟩
theorem ERel.wipe {G : Gd} {Z φ : List Addr} {H : Hp} {σ : L2.St} {ρ : Sl} (r : ERel G Z φ H σ ρ) : ∀ (vs : List Nat), ERel G Z φ H (wipe σ vs) (wipeD ρ vs)
  | [] => r
  | v :: vs => (ERel.wipe r vs).unset v
theorem wipe_in {σ : L2.St} {i : Nat} : ∀ {vs : List Nat}, i ∈ vs → i < σ.length → (wipe σ vs)[i]? = some none
  | [], h, _ => by simp at h
  | v :: vs, h, hl => by
    unfold wipe
    by_cases e : v = i
    · subst e
      rw [List.getElem?_set_self (by rw [wipe_length]; exact hl)]
    · rw [List.getElem?_set_ne e]
      refine wipe_in ?_ hl
      rcases List.mem_cons.mp h with z | z
      · exact absurd z.symm e
      · exact z
theorem wipe_same {σ τ : L2.St} {vs : List Nat} (hl : σ.length = τ.length) (h : ∀ i, i ∉ vs → σ[i]? = τ[i]?) : wipe σ vs = wipe τ vs := by
  apply List.ext_getElem?
  intro i
  by_cases hi : i ∈ vs
  · by_cases hb : i < σ.length
    · rw [wipe_in hi hb, wipe_in hi (by rw [← hl]; exact hb)]
    · rw [List.getElem?_eq_none (by rw [wipe_length]; omega), List.getElem?_eq_none (by rw [wipe_length]; omega)]
  · rw [wipe_out hi, wipe_out hi]; exact h i hi
theorem wipe_wipe {σ : L2.St} {vs : List Nat} : wipe (wipe σ vs) vs = wipe σ vs := wipe_same (wipe_length σ vs) fun i hi => wipe_out hi
section
variable {P : PCtx} {G : Gd} {S : Sg} {Γ : Cxt} {X : Cx} {W : WX}
mutual
theorem tg_ok (x : XOk P G S Γ X W) : ∀ {t : Tg} {e : Expr}, chkTg Γ t e = true → PG X e (RG G t) ∧ ∀ es, assignEach (e :: es) X.env = (false, assign e X.env) :: assignEach es X.env
  | .name i, .Name n p, h => by
    unfold chkTg at h
    simp only [Bool.and_eq_true, decide_eq_true_eq, List.contains_iff_mem] at h
    obtain ⟨h1, h2⟩ := x.loc n h.2
    refine ⟨⟨fun pins s σ H v u Q I r ⟨Z, φ, ρ, d, ρ', er, rv, e, k⟩ => ?_⟩, fun _ => rfl⟩
    refine (pg_name (i := i) (by rw [x.N]; exact x.N ▸ x.nd) (by rw [x.N]; exact h.1) h1 h2).run pins s σ H v u Q I r ?_
    simp only [bindT, Option.some.injEq] at e
    subst e
    exact k _ ⟨er.set rv i, by rw [List.length_set], fun j hj => List.getElem?_set_ne (fun z => hj (by simp [tgN, z]))⟩
  | .tup ts, .Tuple es n p, h => by
    unfold chkTg at h
    obtain ⟨h1, h2, h3⟩ := tgs_ok x h
    refine ⟨⟨fun pins s σ H v u Q I r ⟨Z, φ, ρ, d, ρ', er, rv, e, k⟩ => ?_⟩, fun _ => rfl⟩
    have bl : ∀ (ts : List Tg) (ds : List D) (ρ ρ' : Sl), bindTs ts ds ρ = some ρ' → ds.length = ts.length := by
      intro ts
      induction ts with
      | nil => intro ds ρ ρ' h; cases ds <;> simp [bindTs] at h ⊢
      | cons t ts ih =>
        intro ds ρ ρ' h
        cases ds with
        | nil => simp [bindTs] at h
        | cons d ds =>
          simp only [bindTs] at h
          obtain ⟨ρ1, _, h2⟩ := Option.bind_eq_some_iff.mp h
          simp [ih ds ρ1 ρ' h2]
    cases d with
    | tup ds =>
      simp only [bindT] at e
      refine (pg_tup x.calm h1 (n := ts.length) h2 h3).run pins s σ H v u Q I r ?_
      obtain ⟨a, vs, rfl, q, rs⟩ := rv.of_tup
      exact ⟨a, vs, rfl, by rw [← x.hK]; exact q, rs.length.trans (bl ts ds ρ ρ' e), Z, φ, ρ, ds, ρ', er, rs, e, fun σ' t' => k σ' t'⟩
    | lst ds =>
      simp only [bindT] at e
      refine (pg_lst x.calm h1 (n := ts.length) h2 h3).run pins s σ H v u Q I r ?_
      obtain ⟨a, vs, rfl, q, rs⟩ := rv.of_lst
      exact ⟨a, vs, rfl, .inl q, rs.length.trans (bl ts ds ρ ρ' e), Z, φ, ρ, ds, ρ', er, rs, e, fun σ' t' => k σ' t'⟩
    | _ => simp [bindT] at e
  | .name _, .Tuple .., h => by simp [chkTg] at h
  | .tup _, .Name .., h => by simp [chkTg] at h
  | .name _, .Constant .., h => by simp [chkTg] at h
theorem tgs_ok (x : XOk P G S Γ X W) : ∀ {ts : List Tg} {es : List Expr}, chkTg.chkTgs Γ ts es = true → PGs X es (RGs G ts) ∧ (assignEach es X.env).length = ts.length ∧ (assignEach es X.env).findIdx? (·.1) = none
  | [], [], _ => by
    refine ⟨⟨fun pins s σ H vs us Q I r ⟨Z, φ, ρ, ds, ρ', er, rv, e, k⟩ => ?_⟩, rfl, rfl⟩
    refine pgs_nil.run pins s σ H vs us Q I r ?_
    cases ds with
    | nil =>
      cases rv
      simp only [bindTs, Option.some.injEq] at e
      subst e
      exact ⟨rfl, k σ ⟨er, rfl, fun _ _ => rfl⟩⟩
    | cons _ _ => simp [bindTs] at e
  | t :: ts, e :: es, h => by
    unfold chkTg.chkTgs at h
    simp only [Bool.and_eq_true] at h
    obtain ⟨h1, h2⟩ := tg_ok x h.1
    obtain ⟨h3, h4, h5⟩ := tgs_ok x h.2
    have he := h2 es
    refine ⟨⟨fun pins s σ H vs us Q I r ⟨Z, φ, ρ, ds, ρ', er, rv, e, k⟩ => ?_⟩, by rw [he, List.length_cons, h4, List.length_cons], by rw [he, List.findIdx?_cons, h5]; rfl⟩
    refine (pgs_cons h1 h3 (by rw [he]; rfl)).run pins s σ H vs us Q I r ?_
    cases rv with
    | nil => simp [bindTs] at e
    | cons rv rvs =>
      simp only [bindTs] at e
      obtain ⟨ρ1, e1, e2⟩ := Option.bind_eq_some_iff.mp e
      refine ⟨_, _, rfl, Z, φ, ρ, _, ρ1, er, rv, e1, fun σ1 t1 => ⟨Z, φ, ρ1, _, ρ', t1.er, rvs, e2, fun σ2 t2 => k σ2 ⟨t2.er, t2.len.trans t1.len, fun i hi => ?_⟩⟩⟩
      have hi1 : i ∉ tgN t := fun z => hi (by rw [tgNs]; exact List.mem_append_left _ z)
      have hi2 : i ∉ tgNs ts := fun z => hi (by rw [tgNs]; exact List.mem_append_right _ z)
      exact (t2.out i hi2).trans (t1.out i hi1)
  | [], _ :: _, h => by simp [chkTg.chkTgs] at h
  | _ :: _, [], h => by simp [chkTg.chkTgs] at h
end
end
/-! ### iterators by the syntax -/
section
variable {P : PCtx} {G : Gd} {S : Sg} {Γ : Cxt} {X : Cx} {W : WX} {tg : Expr}
theorem si_val (x : XOk P G S Γ X W) {e : Ex} {l : Expr} (h : PE X l (RE G W fun E => wpE S E e)) : PI X tg l (RI G W fun E => wpI S E (.val e)) := by
  refine pi_imp (pi_dyn h) fun σ H R ⟨Z, φ, ρ, μ, E, Qp, at_, w, k⟩ => ?_
  simp only [wpI] at w
  refine ⟨Z, φ, ρ, μ, E, _, at_, w, fun d μ1 w1 v φ1 H1 r1 c1 g1 => ?_⟩
  obtain ⟨p, e, q⟩ := opt_iff.mp w1
  have seq : seqPlan μ1 d = some p → _ := fun e' => r1.lseq c1 e'
  have go : seqPlan μ1 d = some p → (∃ a, v = .ref a ∧ (∃ xs, SqL X.K H1 a xs) ∧ R (Itl X.K a) H1) ∨ (∃ a, v = .ref a ∧ (∃ xs, SqT X.K H1 a xs) ∧ R (Itt X.K a) H1) ∨ ∃ x, v = .str x ∧ R (Its x) H1 := fun e' => by
    have gd : p.guard μ1 := by
      cases d with
      | ref i =>
        cases z : μ1[i]? with
        | none => simp [valPlan, z] at e
        | some k =>
          cases k with
          | lst xs => simp only [valPlan, z, Option.some.injEq] at e; subst e; exact z
          | dct _ _ => simp [valPlan, z] at e
          | ins _ _ => simp [valPlan, z] at e
          | tbl _ => simp [valPlan, z] at e
      | tup xs => simp only [valPlan, Option.some.injEq] at e; subst e; trivial
      | lst xs => simp only [valPlan, Option.some.injEq] at e; subst e; trivial
      | scr xs => simp only [valPlan, Option.some.injEq] at e; subst e; trivial
      | _ => simp [seqPlan, valPlan] at e'
    obtain ⟨a, rfl, ⟨_, s⟩ | ⟨_, s⟩⟩ := r1.lseq c1 e'
    · obtain ⟨vs, hq, _⟩ := s Z φ1 H1 μ1 ZUp.refl (Grow.refl _ _) c1 gd
      rw [x.hK] at hq
      exact .inl ⟨a, rfl, ⟨vs, hq⟩, by rw [← x.hK]; exact k p μ1 q _ φ1 H1 s.it c1 g1⟩
    · obtain ⟨vs, hq, _⟩ := s Z φ1 H1 μ1 ZUp.refl (Grow.refl _ _) c1 gd
      rw [x.hK] at hq
      exact .inr (.inl ⟨a, rfl, ⟨vs, hq⟩, by rw [← x.hK]; exact k p μ1 q _ φ1 H1 s.it c1 g1⟩)
  cases d with
  | str t =>
    simp only [valPlan, Option.some.injEq] at e
    subst e
    exact .inr (.inr ⟨_, r1.of_str, k _ μ1 q _ φ1 H1 str_it c1 g1⟩)
  | tup xs => exact go e
  | lst xs => exact go e
  | scr xs => exact go e
  | ref i => exact go e
  | _ => simp [valPlan] at e
theorem guard_now {μ : Store} {d : D} {p : Plan} (e : seqPlan μ d = some p) : p.guard μ := by
  cases d with
  | ref i =>
    cases z : μ[i]? with
    | none => simp [seqPlan, valPlan, z] at e
    | some k =>
      cases k with
      | lst xs => simp only [seqPlan, valPlan, z, Option.some.injEq] at e; subst e; exact z
      | dct _ _ => simp [seqPlan, valPlan, z] at e
      | ins _ _ => simp [seqPlan, valPlan, z] at e
      | tbl _ => simp [seqPlan, valPlan, z] at e
  | tup xs => simp only [seqPlan, valPlan, Option.some.injEq] at e; subst e; trivial
  | lst xs => simp only [seqPlan, valPlan, Option.some.injEq] at e; subst e; trivial
  | scr xs => simp only [seqPlan, valPlan, Option.some.injEq] at e; subst e; trivial
  | _ => simp [seqPlan, valPlan] at e
theorem si_enum (x : XOk P G S Γ X W) {e : Ex} {a : Expr} {n : Str} {p q pos : Pos} {elts : List Expr} {kk : Nat} (hb : isB P Γ ("enumerate" : Str) = true) (hs : noStar a = true) (h : PE X a (RE G W fun E => wpE S E e)) :
    PI X (.Tuple elts kk q) (.Call (.Name "enumerate" p) [a] [] pos) (RI G W fun E => wpI S E (.enum e)) := by
  obtain ⟨hm, hg⟩ := x.bi hb
  refine pi_imp (pi_enumA hg hm (pa_cons h pa_nil (star_cons hs)) (star_cons hs)) fun σ H R ⟨Z, φ, ρ, μ, E, Qp, at_, w, k⟩ => ?_
  simp only [wpI] at w
  refine ⟨Z, φ, ρ, μ, E, _, at_, w, fun d μ1 w1 v φ1 H1 r1 c1 g1 => ?_⟩
  obtain ⟨p, e, q⟩ := opt_iff.mp w1
  have gd := guard_now e
  obtain ⟨a, rfl, ⟨_, s⟩ | ⟨_, s⟩⟩ := r1.lseq c1 e
  · obtain ⟨vs, hq, _⟩ := s Z φ1 H1 μ1 ZUp.refl (Grow.refl _ _) c1 gd
    rw [x.hK] at hq
    exact ⟨a, vs, rfl, .inl ⟨hq, by rw [← x.hK]; exact k _ μ1 q _ φ1 H1 s.enum c1 g1⟩⟩
  · obtain ⟨vs, hq, _⟩ := s Z φ1 H1 μ1 ZUp.refl (Grow.refl _ _) c1 gd
    rw [x.hK] at hq
    exact ⟨a, vs, rfl, .inr ⟨hq, by rw [← x.hK]; exact k _ μ1 q _ φ1 H1 s.enum c1 g1⟩⟩
theorem si_zip (x : XOk P G S Γ X W) {e f : Ex} {a b : Expr} {n : Str} {p q pos : Pos} {elts : List Expr} {kk : Nat} (hb : isB P Γ ("zip" : Str) = true) (hs : noStar a = true) (hs2 : noStar b = true) (h : PE X a (RE G W fun E => wpE S E e)) (h2 : PE X b (RE G W fun E => wpE S E f)) :
    PI X (.Tuple elts kk q) (.Call (.Name "zip" p) [a, b] [] pos) (RI G W fun E => wpI S E (.zip e f)) := by
  obtain ⟨hm, hg⟩ := x.bi hb
  refine pi_imp (RZ.pi_zipA hg hm (pa_cons h (pa_cons h2 pa_nil (star_cons hs2)) (star_cons hs)) (star_cons hs) (star_plain (by simp [hs2]))) fun σ H R ⟨Z, φ, ρ, μ, E, Qp, at_, w, k⟩ => ?_
  simp only [wpI] at w
  refine ⟨Z, φ, ρ, μ, E, _, at_, w, fun d μ1 w1 v φ1 H1 r1 c1 g1 => ?_⟩
  refine ⟨Z, φ1, ρ, μ1, E, _, at_.step c1 g1, w1, fun d' μ2 w2 v' φ2 H2 r2 c2 g2 => ?_⟩
  obtain ⟨pl, e, qq⟩ := opt_iff.mp w2
  unfold zipD at e
  obtain ⟨p1, e1, e⟩ := Option.bind_eq_some_iff.mp e
  obtain ⟨p2, e2, e⟩ := Option.bind_eq_some_iff.mp e
  rw [Option.ite_none_right_eq_some] at e
  obtain ⟨hk, e⟩ := e
  cases e
  have gd1 := guard_now e1
  have gd2 := guard_now e2
  obtain ⟨a1, rfl, s1⟩ := (r1.grow g2).lseq c2 e1
  obtain ⟨a2, rfl, s2⟩ := r2.lseq c2 e2
  rcases s1 with ⟨k1, s1⟩ | ⟨k1, s1⟩
  · rcases s2 with ⟨k2, s2⟩ | ⟨k2, s2⟩
    · obtain ⟨vs, hq, _⟩ := s1 Z φ2 H2 μ2 ZUp.refl (Grow.refl _ _) c2 gd1
      obtain ⟨ws, hq2, _⟩ := s2 Z φ2 H2 μ2 ZUp.refl (Grow.refl _ _) c2 gd2
      rw [x.hK] at hq hq2
      exact ⟨a1, a2, vs, ws, rfl, .inl ⟨hq, hq2, by rw [← x.hK]; exact k _ μ2 qq _ φ2 H2 (s1.zip s2) c2 (g1.trans g2)⟩⟩
    · rw [k1, k2] at hk; cases hk
  · rcases s2 with ⟨k2, s2⟩ | ⟨k2, s2⟩
    · rw [k1, k2] at hk; cases hk
    · obtain ⟨vs, hq, _⟩ := s1 Z φ2 H2 μ2 ZUp.refl (Grow.refl _ _) c2 gd1
      obtain ⟨ws, hq2, _⟩ := s2 Z φ2 H2 μ2 ZUp.refl (Grow.refl _ _) c2 gd2
      rw [x.hK] at hq hq2
      exact ⟨a1, a2, vs, ws, rfl, .inr ⟨hq, hq2, by rw [← x.hK]; exact k _ μ2 qq _ φ2 H2 (s1.zip s2) c2 (g1.trans g2)⟩⟩
theorem small62_and {i : Int} (h : small62 i = true) : -(2 ^ 62) ≤ i ∧ i < 2 ^ 62 := by
  unfold small62 at h
  simp only [Bool.and_eq_true, decide_eq_true_eq] at h
  omega
theorem si_rng (x : XOk P G S Γ X W) {es : Exs} {as : List Expr} {p pos : Pos} (hb : isB P Γ ("range" : Str) = true) (hl : (as.length == 1 || as.length == 2 || as.length == 3) = true) (hs : as.all noStar = true) (h : PEs G S X W es as) :
    PI X tg (.Call (.Name "range" p) as [] pos) (RI G W fun E => wpI S E (.rng es)) := by
  obtain ⟨hm, hg⟩ := x.bi hb
  match as, hl with
  | [a], _ =>
    simp only [List.all_cons, List.all_nil, Bool.and_true] at hs
    obtain ⟨e1, rfl, h1⟩ := PEs.one h
    refine pi_imp (pi_range1 hg hm (pa_cons h1 pa_nil (star_cons hs)) (star_cons hs)) fun σ H R ⟨Z, φ, ρ, μ, E, Qp, at_, w, k⟩ => ?_
    simp only [wpI, wpEs] at w
    refine ⟨Z, φ, ρ, μ, E, _, at_, w, fun d μ1 w1 v φ1 H1 r c1 g1 => ?_⟩
    obtain ⟨pl, e, q⟩ := opt_iff.mp w1
    cases d with
    | int j =>
      simp only [rngPlan, Option.ite_none_right_eq_some, Option.some.injEq] at e
      obtain ⟨hj, rfl⟩ := e
      obtain ⟨h1, h2⟩ := small62_and hj
      exact ⟨j, by rw [r.of_int], h1, h2, k _ μ1 q _ φ1 H1 rng_it c1 g1⟩
    | _ => simp [rngPlan] at e
  | [a, b], _ =>
    simp only [List.all_cons, List.all_nil, Bool.and_true, Bool.and_eq_true] at hs
    obtain ⟨e1, e2, rfl, h1, h2⟩ := PEs.two h
    refine pi_imp (pi_range2 hg hm (pa_cons h1 (pa_cons h2 pa_nil (star_cons hs.2)) (star_cons hs.1)) (by rw [star_cons hs.1, star_cons hs.2]; rfl) (star_cons hs.2)) fun σ H R ⟨Z, φ, ρ, μ, E, Qp, at_, w, k⟩ => ?_
    simp only [wpI, wpEs] at w
    refine ⟨Z, φ, ρ, μ, E, _, at_, w, fun d μ1 w1 v φ1 H1 r1 c1 g1 => ?_⟩
    refine ⟨Z, φ1, ρ, μ1, E, _, at_.step c1 g1, w1, fun d' μ2 w2 v' φ2 H2 r2 c2 g2 => ?_⟩
    obtain ⟨pl, e, q⟩ := opt_iff.mp w2
    cases d with
    | int i =>
      cases d' with
      | int j =>
        simp only [rngPlan, Option.ite_none_right_eq_some, Option.some.injEq, Bool.and_eq_true] at e
        obtain ⟨⟨hi, hj⟩, rfl⟩ := e
        obtain ⟨h1, h2⟩ := small62_and hj
        obtain ⟨h3, h4⟩ := small62_and hi
        exact ⟨i, j, by rw [r1.of_int, r2.of_int], ⟨h3, h4, h1, h2⟩, k _ μ2 q _ φ2 H2 rng_it c2 (g1.trans g2)⟩
      | _ => simp [rngPlan] at e
    | _ => simp [rngPlan] at e
  | [a, b, c], _ =>
    simp only [List.all_cons, List.all_nil, Bool.and_true, Bool.and_eq_true] at hs
    obtain ⟨e1, e2, e3, rfl, h1, h2, h3⟩ := PEs.three h
    refine pi_imp (pi_range3 hg hm (pa_cons h1 (pa_cons h2 (pa_cons h3 pa_nil (star_cons hs.2.2)) (star_cons hs.2.1)) (star_cons hs.1)) (by rw [star_cons hs.1]) (star_plain (by simp [hs.2.1, hs.2.2]))) fun σ H R ⟨Z, φ, ρ, μ, E, Qp, at_, w, k⟩ => ?_
    simp only [wpI, wpEs] at w
    refine ⟨Z, φ, ρ, μ, E, _, at_, w, fun d μ1 w1 v φ1 H1 r1 c1 g1 => ?_⟩
    refine ⟨Z, φ1, ρ, μ1, E, _, at_.step c1 g1, w1, fun d' μ2 w2 v' φ2 H2 r2 c2 g2 => ?_⟩
    refine ⟨Z, φ2, ρ, μ2, E, _, (at_.step c1 g1).step c2 g2, w2, fun d'' μ3 w3 v'' φ3 H3 r3 c3 g3 => ?_⟩
    obtain ⟨pl, e, q⟩ := opt_iff.mp w3
    cases d with
    | int i =>
      cases d' with
      | int j =>
        cases d'' with
        | int cc =>
          simp only [rngPlan, Option.ite_none_right_eq_some, Option.some.injEq] at e
          obtain ⟨⟨k1, k2, k3, k4⟩, rfl⟩ := e
          exact ⟨i, j, cc, _, by rw [r1.of_int, r2.of_int, r3.of_int], ⟨k1, k2, k3, k4⟩, k _ μ3 q _ φ3 H3 rngC_it c3 (g1.trans (g2.trans g3))⟩
        | _ => simp [rngPlan] at e
      | _ => simp [rngPlan] at e
    | _ => simp [rngPlan] at e
end
end PY

set_option Elab.async false
set_option linter.all false
set_option maxRecDepth 100000
set_option maxHeartbeats 4000000
/-! PY, part m: comprehensions. -/
namespace PY
open PySem PySem.Spec PyProof.Rows L2
theorem upd_self {H : Hp} {a : Addr} {o : HO} (h : H a = some o) : L2.upd H a o = H := by
  funext b
  by_cases e : b = a
  · subst e; rw [upd_same, h]
  · rw [upd_ne e]
section
variable {G : Gd} {Z φ φ' : List Addr} {H H' : Hp}
/-- what was free is written behind it -/
theorem Grow.mkW {p : Addr} {o : HO} (g : Grow φ H φ' H') (h : H p = none) : Grow φ H φ' (L2.upd H' p o) :=
  ⟨fun a u e n => by rw [upd_ne (ne_of_none e h)]; exact g.keep a u e n, g.new, g.pre⟩
theorem Grow.mkC {p : Addr} (g : Grow φ H φ' H') (h : H p = none) : Grow φ H (φ' ++ [p]) H' :=
  ⟨g.keep, fun a ha => by
    rcases List.mem_append.mp ha with z | z
    · exact g.new a z
    · rw [List.mem_singleton.mp z]; exact .inr h, fun i a e => by
    have := g.pre i a e
    rw [List.getElem?_append_left (List.getElem?_eq_some_iff.mp this).1]; exact this⟩
end
section
variable {P : PCtx} {G : Gd} {S : Sg} {Γ : Cxt} {X : Cx} {W : WX}
abbrev NoX : XD → Store → Prop := fun _ _ => False
abbrev NoW : WX := fun _ _ _ _ => False
theorem lk_no {Z : List Addr} {W : WX} {σ : L2.St} {φ : List Addr} {H : Hp} : Lk G Z W NoX σ φ H := fun _ _ h => h.elim
theorem tlc_of {it : Itx} {tg : Tg} {cond : Exs} {elt : Ex} {own : List Nat} {m : Bool} (ht : ∀ i ∈ tgN tg, i ∈ own) {σ : L2.St} {H : Hp} {Q : VK}
    (h : RE G W (fun E => wpE S E (.comp m elt tg it cond own)) σ H Q) :
    tLc (RI G W fun E => wpI S E it) (RG G tg) (RT G NoW fun _ => wpC S cond) (RE G NoW fun E => wpE S E elt) own σ H Q := by
  obtain ⟨Z, φ, ρ, μ, E, Qd, at_, w, k⟩ := h
  simp only [wpE] at w
  refine ⟨Z, φ, ρ, μ, E, _, at_, w, fun p μ1 w1 J φ1 H1 itk c1 g1 => ?_⟩
  intro D hD
  have fD := c1.fresh hD
  refine ⟨fun i m' H' => m' = p.items.length - i ∧ i ≤ p.items.length ∧ ∃ φ' μ' acc dacc, H' D = some (.lst acc) ∧ Reps G (D :: Z) φ' H' acc dacc ∧ CRel G (D :: Z) φ' H' μ' ∧ Grow φ1 H1 φ' H' ∧
      compTurns (fun d μ' R => opt (bindT tg d (wipeD ρ own)) fun ρ' => wpC S cond ρ' μ' fun t μ'' => if t = true then wpE S NoX elt ρ' μ'' fun x => R (some x) else R none μ'') p.guard (p.items.drop i) μ' dacc (fun xs μ2 => Qd (newL m xs μ2).1 (newL m xs μ2).2), ⟨_, rfl, Nat.zero_le _, φ1, μ1, [], [], upd_same, .nil, c1.making hD, (Grow.refl _ _).mkW hD, by rw [List.drop_zero]; exact w1⟩, ?_⟩
  rintro i m' H' ⟨rfl, hi, φ', μ', acc, dacc, hacc, racc, c', g', turn⟩
  have nD : D ∉ φ' := fun z => c'.nz D z List.mem_cons_self
  by_cases hlt : i < p.items.length
  · right
    rw [List.drop_eq_getElem_cons hlt] at turn
    obtain ⟨gd, turn⟩ := turn
    refine ⟨itk.go (D :: Z) φ' H' μ' (.cons hD) g' c' gd i hlt, fun H'' => i + 1 ≤ p.items.length ∧ ∃ φ' μ' acc dacc, H'' D = some (.lst acc) ∧ Reps G (D :: Z) φ' H'' acc dacc ∧ CRel G (D :: Z) φ' H'' μ' ∧ Grow φ1 H1 φ' H'' ∧ compTurns _ p.guard (p.items.drop (i + 1)) μ' dacc _, fun H'' q => ⟨p.items.length - (i + 1), by omega, rfl, q.1, q.2⟩, fun x H2 y => ?_⟩
    obtain ⟨d, ed, rd, c2, g2⟩ := itk.yld (D :: Z) φ' H' μ' (.cons hD) g' c' gd i x H2 hlt y
    have e2 : d = p.items[i] := by rw [List.getElem?_eq_getElem hlt] at ed; exact (Option.some.inj ed).symm
    subst e2
    obtain ⟨ρ', eb, turn⟩ := opt_iff.mp turn
    refine ⟨D :: Z, φ', wipeD ρ own, _, ρ', ((at_.er.grow g1).lift (.cons hD) (g'.trans g2)).wipe own, rd, eb, fun σ2 t2 => ⟨?_, ?_⟩⟩
    · exact (wipe_same (t2.len) fun j hj => t2.out j fun z => hj (ht j z)).trans wipe_wipe
    · refine ⟨D :: Z, φ', ρ', μ', NoX, _, ⟨t2.er, c2, lk_no⟩, turn, fun b μ3 wb φ3 H3 c3 g3 => ?_⟩
      cases b with
      | true =>
        rw [if_pos rfl]
        rw [if_pos rfl] at wb
        refine ⟨D :: Z, φ3, ρ', μ3, NoX, _, ⟨t2.er.grow g3, c3, lk_no⟩, wb, fun z μ4 wz v φ4 H4 r4 c4 g4 => ?_⟩
        have hz := (g2.trans (g3.trans g4)).keep D _ hacc nD
        have gall := g'.trans (g2.trans (g3.trans g4))
        have racc4 := racc.grow (g2.trans (g3.trans g4))
        refine ⟨acc, hz, ?_, ?_, φ4, μ4, acc ++ [v], dacc ++ [z], upd_same, ?_, c4.mkWrite List.mem_cons_self, gall.mkW hD, ?_⟩
        · rw [← sz_eq, racc.length]; exact wz.1
        · omega
        · exact (racc4.append (.cons r4 .nil)).made List.mem_cons_self Mk.write
        · exact wz.2
      | false =>
        rw [if_neg (by simp)]
        rw [if_neg (by simp)] at wb
        refine ⟨by omega, φ3, μ3, acc, dacc, (g2.trans g3).keep D _ hacc nD, racc.grow (g2.trans g3), c3, g'.trans (g2.trans g3), wb⟩
  · left
    have e : i = p.items.length := by omega
    subst e
    rw [List.drop_length] at turn
    obtain ⟨gd, turn⟩ := turn
    refine ⟨itk.stop (D :: Z) φ' H' μ' (.cons hD) g' c' gd, ?_⟩
    cases m with
    | false =>
      exact k _ _ turn _ φ' H' (.lst ⟨.inl hacc, nD, fD.2⟩ (racc.made List.mem_cons_self Mk.drop)) c'.drop (g1.trans g')
    | true =>
      have hs := upd_self hacc
      have c2 : CRel G Z (φ' ++ [D]) H' (μ' ++ [.lst dacc]) := by
        have q : CRel G Z (φ' ++ [D]) (L2.upd H' D (.lst acc)) (μ' ++ [.lst dacc]) := c'.mkCell fD.2 (.lst upd_same (racc.made List.mem_cons_self Mk.cell))
        rw [hs] at q; exact q
      refine k _ _ turn _ (φ' ++ [D]) H' (.ref ?_) c2 (g1.trans (g'.mkC hD))
      rw [← c'.len, List.getElem?_append_right (Nat.le_refl _), Nat.sub_self]
      rfl
end
end PY

set_option Elab.async false
set_option linter.all false
set_option maxRecDepth 100000
set_option maxHeartbeats 8000000
/-! PY, part n: expressions: chk is sound. -/
namespace PY
open PySem PySem.Spec PyProof.Rows L2
theorem argsOf_fit {P : PCtx} {Γ : Cxt} {f : Prim} {x : Expr} {xs : List Expr} (h : argsOf P Γ f x = some xs) : noStar x = true ∧ noSlice x = true := by
  unfold argsOf at h
  split at h <;> first | exact ⟨rfl, rfl⟩ | cases h
theorem chk_fit {P : PCtx} {Γ : Cxt} {e : Ex} {x : Expr} (h : chkE P Γ e x = true) : noStar x = true ∧ noSlice x = true := by
  cases e with
  | prim f es =>
    unfold chkE at h
    cases q : argsOf P Γ f x with
    | some xs => exact argsOf_fit q
    | none => rw [q] at h; cases h
  | _ =>
    unfold chkE at h
    split at h <;> first | exact ⟨rfl, rfl⟩ | cases h
theorem chks_fit {P : PCtx} {Γ : Cxt} : ∀ {es : Exs} {xs : List Expr}, chkEs P Γ es xs = true → xs.all noStar = true ∧ xs.all noSlice = true
  | .nil, xs, h => by
    unfold chkEs at h
    cases xs with
    | nil => exact ⟨rfl, rfl⟩
    | cons _ _ => cases h
  | .cons e es, xs, h => by
    unfold chkEs at h
    cases xs with
    | nil => cases h
    | cons x xs =>
      simp only [Bool.and_eq_true] at h
      obtain ⟨h1, h2⟩ := chk_fit h.1
      obtain ⟨h3, h4⟩ := chks_fit h.2
      exact ⟨by rw [List.all_cons, h1, h3]; rfl, by rw [List.all_cons, h2, h4]; rfl⟩
section
variable {P : PCtx} {G : Gd} {S : Sg} {Γ : Cxt} {X : Cx} {W : WX}
def PTss (G : Gd) (S : Sg) (X : Cx) (W : WX) : Exs → List Expr → Prop
  | .nil, [] => True
  | .cons e es, x :: xs => PT X x (RT G W fun E => wpT S E e) ∧ PTss G S X W es xs
  | _, _ => False
/-- a test by the value's truth -/
theorem pt_tru (x : XOk P G S Γ X W) {e : Ex} {a : Expr} (ha : PE X a (RE G W fun E => wpE S E e)) (hp : plainT a = true) {wt : (XD → Store → Prop) → Sl → Store → (Bool → Store → Prop) → Prop}
    (hw : ∀ E ρ μ Q, wt E ρ μ Q → wpE S E e ρ μ fun d μ' => opt (truthD μ' d) fun b => Q b μ') : PT X a (RT G W wt) := by
  refine pt_imp (pt_truth ha (plainT_of hp)) fun σ H Q ⟨Z, φ, ρ, μ, E, Qd, at_, w, k⟩ => ?_
  refine ⟨Z, φ, ρ, μ, E, _, at_, hw _ _ _ _ w, fun d μ1 w1 v φ1 H1 r1 c1 g1 => ?_⟩
  obtain ⟨b, e1, q⟩ := opt_iff.mp w1
  exact ⟨b, tru_of x.hK c1 r1 e1, k b μ1 q φ1 H1 c1 g1⟩
theorem and_ok (x : XOk P G S Γ X W) {pos : Pos} : ∀ {es : Exs} {xs : List Expr}, PEs G S X W es xs → lenNot0 es = true → PE X (.BoolOp .And xs pos) (RE G W fun E => wpAnd S E es)
  | .cons e .nil, [a], h, _ => pe_imp (pe_one h.1) fun σ H Q q => by simpa only [wpAnd] using q
  | .cons e (.cons e' es), a :: b :: r, h, _ => by
    refine pe_imp (pe_andT h.1 (and_ok x h.2 rfl)) fun σ H Q ⟨Z, φ, ρ, μ, E, Qd, at_, w, k⟩ => ?_
    simp only [wpAnd] at w
    refine ⟨Z, φ, ρ, μ, E, _, at_, w, fun d μ1 w1 v φ1 H1 r1 c1 g1 => ?_⟩
    obtain ⟨t, e1, q⟩ := opt_iff.mp w1
    refine ⟨t, tru_of x.hK c1 r1 e1, ?_⟩
    cases t with
    | true =>
      rw [if_pos rfl] at q ⊢
      exact ⟨Z, φ1, ρ, μ1, E, _, at_.step c1 g1, q, fun d2 μ2 q2 v2 φ2 H2 r2 c2 g2 => k d2 μ2 q2 v2 φ2 H2 r2 c2 (g1.trans g2)⟩
    | false =>
      rw [if_neg (by simp)] at q ⊢
      exact k d μ1 q v φ1 H1 r1 c1 g1
  | .nil, _, _, h => by cases h
  | .cons _ .nil, [], h, _ => h.elim
  | .cons _ .nil, _ :: _ :: _, h, _ => h.2.elim
  | .cons _ (.cons _ _), [], h, _ => h.elim
  | .cons _ (.cons _ _), [_], h, _ => h.2.elim
theorem or_ok (x : XOk P G S Γ X W) {pos : Pos} : ∀ {es : Exs} {xs : List Expr}, PEs G S X W es xs → lenNot0 es = true → PE X (.BoolOp .Or xs pos) (RE G W fun E => wpOr S E es)
  | .cons e .nil, [a], h, _ => pe_imp (pe_one h.1) fun σ H Q q => by simpa only [wpOr] using q
  | .cons e (.cons e' es), a :: b :: r, h, _ => by
    refine pe_imp (pe_orT h.1 (or_ok x h.2 rfl)) fun σ H Q ⟨Z, φ, ρ, μ, E, Qd, at_, w, k⟩ => ?_
    simp only [wpOr] at w
    refine ⟨Z, φ, ρ, μ, E, _, at_, w, fun d μ1 w1 v φ1 H1 r1 c1 g1 => ?_⟩
    obtain ⟨t, e1, q⟩ := opt_iff.mp w1
    refine ⟨t, tru_of x.hK c1 r1 e1, ?_⟩
    cases t with
    | true =>
      rw [if_pos rfl] at q ⊢
      exact k d μ1 q v φ1 H1 r1 c1 g1
    | false =>
      rw [if_neg (by simp)] at q ⊢
      exact ⟨Z, φ1, ρ, μ1, E, _, at_.step c1 g1, q, fun d2 μ2 q2 v2 φ2 H2 r2 c2 g2 => k d2 μ2 q2 v2 φ2 H2 r2 c2 (g1.trans g2)⟩
  | .nil, _, _, h => by cases h
  | .cons _ .nil, [], h, _ => h.elim
  | .cons _ .nil, _ :: _ :: _, h, _ => h.2.elim
  | .cons _ (.cons _ _), [], h, _ => h.elim
  | .cons _ (.cons _ _), [_], h, _ => h.2.elim
theorem tand_ok {pos : Pos} : ∀ {es : Exs} {xs : List Expr}, PTss G S X W es xs → lenNot0 es = true → PW X (.BoolOp .And xs pos) (RT G W fun E => wpTAnd S E es)
  | .cons e .nil, [a], h, _ => pw_imp (pw_and1 h.1) fun σ H Q q => by simpa only [wpTAnd] using q
  | .cons e (.cons e' es), a :: b :: r, h, _ => by
    refine pw_imp (pw_and h.1 (tand_ok h.2 rfl)) fun σ H Q ⟨Z, φ, ρ, μ, E, Qd, at_, w, k⟩ => ?_
    simp only [wpTAnd] at w
    refine ⟨Z, φ, ρ, μ, E, _, at_, w, fun t μ1 q φ1 H1 c1 g1 => ?_⟩
    cases t with
    | true =>
      rw [if_pos rfl] at q ⊢
      exact ⟨Z, φ1, ρ, μ1, E, _, at_.step c1 g1, q, fun d2 μ2 q2 φ2 H2 c2 g2 => k d2 μ2 q2 φ2 H2 c2 (g1.trans g2)⟩
    | false =>
      rw [if_neg (by simp)] at q ⊢
      exact k _ μ1 q φ1 H1 c1 g1
  | .nil, _, _, h => by cases h
  | .cons _ .nil, [], h, _ => h.elim
  | .cons _ .nil, _ :: _ :: _, h, _ => h.2.elim
  | .cons _ (.cons _ _), [], h, _ => h.elim
  | .cons _ (.cons _ _), [_], h, _ => h.2.elim
theorem tor_ok {pos : Pos} : ∀ {es : Exs} {xs : List Expr}, PTss G S X W es xs → lenNot0 es = true → PW X (.BoolOp .Or xs pos) (RT G W fun E => wpTOr S E es)
  | .cons e .nil, [a], h, _ => pw_imp (pw_or1 h.1) fun σ H Q q => by simpa only [wpTOr] using q
  | .cons e (.cons e' es), a :: b :: r, h, _ => by
    refine pw_imp (pw_or h.1 (tor_ok h.2 rfl)) fun σ H Q ⟨Z, φ, ρ, μ, E, Qd, at_, w, k⟩ => ?_
    simp only [wpTOr] at w
    refine ⟨Z, φ, ρ, μ, E, _, at_, w, fun t μ1 q φ1 H1 c1 g1 => ?_⟩
    cases t with
    | true =>
      rw [if_pos rfl] at q ⊢
      exact k _ μ1 q φ1 H1 c1 g1
    | false =>
      rw [if_neg (by simp)] at q ⊢
      exact ⟨Z, φ1, ρ, μ1, E, _, at_.step c1 g1, q, fun d2 μ2 q2 φ2 H2 c2 g2 => k d2 μ2 q2 φ2 H2 c2 (g1.trans g2)⟩
  | .nil, _, _, h => by cases h
  | .cons _ .nil, [], h, _ => h.elim
  | .cons _ .nil, _ :: _ :: _, h, _ => h.2.elim
  | .cons _ (.cons _ _), [], h, _ => h.elim
  | .cons _ (.cons _ _), [_], h, _ => h.2.elim
theorem last_of {o1 o2 : CmpOp} {y z : Expr} (h : noSet z = true) : lastMarks [o1, o2] [y, z] = false := mark_of h
theorem Vals.drop' {vs : List V} {us : List Value} (h : Vals vs us) : ∀ n, Vals (vs.drop n) (us.drop n) := by
  induction h with
  | nil => intro n; cases n <;> exact .nil
  | cons r rs ih => intro n; cases n with
    | zero => exact .cons r rs
    | succ n => exact ih n
/-- a call of a def -/
theorem sn_call (x : XOk P G S Γ X W) {f : Nat} {es : Exs} {k : Nat} {n : Str} {as : List Expr} {p pos : Pos} {d : FunE} (hd : d ∈ P.funs) (hf : d.id = f) (hn : d.name = n) (hk : k ≤ d.nd) (hg : n ∈ Γ.gl) (hsp : noSpec n = true)
    (h : PEs G S X W es as) (hs : as.all noStar = true) : PE X (.Call (.Name n p) as [] pos) (RE G W fun E => wpE S E (.call f es k)) := by
  obtain ⟨len, fa, fd, ps, ds, dvs, kk, h1, h2, h3, h4, h5, h6, h7⟩ := x.fn d hd
  subst hf hn
  have gl := x.gl _ hg
  have hdb := (noSpec_and hsp).1
  have conv : ∀ {σ : L2.St} {H : Hp} {Q : VK}, RE G W (fun E => wpE S E (.call d.id es k)) σ H Q → (RA G W fun E => wpEs S E es) σ H fun vs H1 => SpOf G (S.call d.id) d.n (vs ++ dvs.drop k) H1 Q (WE W σ) := by
    intro σ H Q ⟨Z, φ, ρ, μ, E, Qd, at_, w, kq⟩
    simp only [wpE] at w
    refine ⟨Z, φ, ρ, μ, E, _, at_, w, fun ds1 μ1 w1 vs φ1 H1 r1 c1 g1 => ?_⟩
    have rr : Reps G Z φ1 H1 (vs ++ dvs.drop k) (ds1 ++ (S.dfl d.id).drop k) := r1.append ((h6 Z φ1 H1).drop k)
    refine ⟨rr.length.trans (len _ _ _ _ w1), Z, φ1, μ1, _, Qd, E, rr, c1, w1, fun d' μ' q v φ' H' r c g => kq d' μ' q v φ' H' r c (g1.trans g), fun xx μ' e cls dd φ' H' xr c g => at_.lk xx μ' e cls dd φ' H' xr c (g1.trans g)⟩
  cases as with
  | nil =>
    refine ⟨fun pins s σ H Q I hw => ?_⟩
    refine wpAny_Call_Name_kw (ld_glob I gl h1 ?_ hdb)
    have hw' := conv hw
    cases es with
    | cons _ _ => exact h.elim
    | nil =>
      obtain ⟨Z, φ, ρ, μ, E, Qd, at_, w, kq⟩ := hw'
      simp only [wpEs] at w
      have q := kq _ _ w [] φ H .nil at_.cr (Grow.refl _ _)
      exact PySem.W.callWith_K0 I.kIn h2 (run_fnSD (us := []) (E := WE W) h4 h3 (h7 k hk) (Vals.drop' h5 k) (passAt x.tk σ) I .nil q)
  | cons a as =>
    have hs' := hs
    simp only [List.all_cons, Bool.and_eq_true] at hs
    exact pe_imp (pe_callSD (E := WE W) h4 h3 gl h1 h2 (h7 k hk) (Vals.drop' h5 k) (fun σ => passAt x.tk σ) (h.pa x hs') hdb (star_cons hs.1) (star_plain hs.2)) fun σ H Q q => conv q
end
end PY

set_option Elab.async false
set_option linter.all false
set_option maxRecDepth 100000
set_option maxHeartbeats 8000000
/-! PY, part n2: a lambda handed to a def. -/
namespace PY
open PySem PySem.Spec PyProof.Rows L2
section
variable {P : PCtx} {G : Gd} {S : Sg} {Γ : Cxt} {X : Cx} {W : WX}
theorem lamOk_and {params : Arguments} {scope : Scope} (h : lamOk Γ params scope = true) : noPar params = true ∧ scope.kind = .function ∧ scope.isCoroutine = false ∧ scope.isGenerator = false ∧ uniqB scope = true ∧
    ∀ y ∈ scope.names, y.2 ≠ .local ∧ y.2 ≠ .cell ∧ (y.2 = .free → y.1 ∈ Γ.cap) := by
  unfold lamOk at h
  simp only [Bool.and_eq_true, Bool.not_eq_true', List.all_eq_true] at h
  obtain ⟨⟨⟨⟨⟨h1, h2⟩, h3⟩, h4⟩, h5⟩, h6⟩ := h
  refine ⟨h1, ?_, h3, h4, h5, fun y hy => ?_⟩
  · split at h2
    · assumption
    · cases h2
  · have q := h6 y hy
    obtain ⟨n, k⟩ := y
    cases k with
    | free => exact ⟨by simp, by simp, fun _ => List.contains_iff_mem.mp q⟩
    | «local» => cases q
    | cell => cases q
    | globalExplicit => exact ⟨by simp, by simp, fun z => by cases z⟩
    | globalImplicit => exact ⟨by simp, by simp, fun z => by cases z⟩
theorem lamS_of {params : Arguments} {scope : Scope} (x : XOk P G S Γ X W) (h : lamOk Γ params scope = true) : LamX.LamS X.env.scope scope := by
  obtain ⟨h1, h2, h3, h4, h5, h6⟩ := lamOk_and h
  exact ⟨h2, h3, h4, fun y hy => ⟨(h6 y hy).1, (h6 y hy).2.1⟩, fun y hy e => x.cap _ ((h6 y hy).2.2 e)⟩
theorem noPar_eq {params : Arguments} (h : noPar params = true) : params = ⟨[], [], none, [], [], none, []⟩ := by
  unfold noPar at h
  split at h
  · rfl
  · cases h
theorem XOk.lamb {params : Arguments} {scope : Scope} (x : XOk P G S Γ X W) (h : lamOk Γ params scope = true) {A : Around} {outer : List Env} {s : Shared} {H : Hp} {E : XK} {f c' : Addr} {k : Nat} (hk : 1 ≤ k) (hr : Room k (A.deeper (LamX.lamEnv X scope s.heap.objs.size f c')))
    (fn : ∀ d ∈ P.funs, FunAt G S X k d) : XOk P G S (cxtIn Γ.N scope) (LamX.lamCx X A outer s H E scope f c') (fun cls d _ H => E cls d H) := by
  obtain ⟨h1, h2, h3, h4, h5, h6⟩ := lamOk_and h
  have lk : ∀ {n : Str} {p : NameKind → Bool}, n ∈ kindsOf scope p → ∃ kd, scope.names.lookup n = some kd ∧ p kd = true ∧ kd ≠ .local ∧ kd ≠ .cell := fun hn => by
    obtain ⟨kd, hm, hp⟩ := kindsOf_mem hn
    exact ⟨kd, uniq_of h5 hm, hp, (h6 _ hm).1, (h6 _ hm).2.1⟩
  refine ⟨x.hK, x.N, x.nd, fun n hn => ?_, fun n hn => ?_, fun n hn => ?_, fun n hn => ?_, fun n hn => ?_, h2, rfl, hr.mono hk, takes_of rfl rfl rfl rfl, passes_of rfl, x.blt, x.con, fun d hd => ?_, (fun z => by cases z), (fun z => by cases z)⟩
  · obtain ⟨kd, e, hp, n1, n2⟩ := lk hn
    cases kd <;> first | exact .inr (.inr e) | exact absurd rfl n1 | exact absurd rfl n2 | cases hp
  · obtain ⟨kd, e, hp, n1, n2⟩ := lk hn
    cases kd <;> first | exact absurd rfl n1 | exact absurd rfl n2 | cases hp
  · obtain ⟨kd, e, hp, n1, n2⟩ := lk hn
    cases kd <;> first | exact absurd rfl n1 | exact absurd rfl n2 | cases hp
  · obtain ⟨kd, e, hp, n1, n2⟩ := lk hn
    cases kd <;> first | exact .inr e | exact absurd rfl n1 | exact absurd rfl n2 | cases hp
  · obtain ⟨kd, e, hp, n1, n2⟩ := lk hn
    cases kd <;> first | exact e | exact absurd rfl n1 | exact absurd rfl n2 | cases hp
  · obtain ⟨len, fa, fd, ps, ds, dvs, g1, g2, g3, g4, g5, g6⟩ := fn d hd
    exact ⟨len, fa, fd, ps, ds, dvs, k, g1, g2, hr, g3, g4, g5, g6⟩
/-- the cells behind the making -/
theorem cr_lam {Z φ : List Addr} {H H1 : Hp} {μ : Store} {P' : Addr} {q : Str} {i j : Nat} (c : CRel G Z φ H μ) (hj : μ[j]? = some (.tbl i)) (hP : P' = G.tA i) (hq : q = G.tq i) (st : PX.LamStep H P' q H1) (hT : LamX.TabS H1 P' q) : CRel G Z φ H1 μ ∧ Grow φ H φ H1 := by
  obtain ⟨a, ha, ce⟩ := c.cell j _ hj
  rcases st with rfl | ⟨ps, more, c', e1, e2, rfl, e5⟩
  · exact ⟨c, Grow.refl _ _⟩
  · obtain ⟨rfl, tc⟩ : a = G.tA i ∧ TabC Z φ H a (G.tq i) := by
      cases ce with
      | tbl h1 h2 => exact ⟨h1, h2⟩
    subst hP hq
    have hm : G.tA i ∈ φ := List.mem_of_getElem? ha
    have nc : G.tA i ≠ c' := ne_of_none e1 e2
    have fr := c.fresh e2
    -- the object first, then the table
    have sw : upd (upd H (G.tA i) (.tbl (ps ++ more))) c' (LamX.CodeO c' (G.tq i)) = upd (upd H c' (LamX.CodeO c' (G.tq i))) (G.tA i) (.tbl (ps ++ more)) := by
      funext b
      by_cases h1 : b = c'
      · rw [h1, upd_same, upd_ne (Ne.symm nc), upd_same]
      · by_cases h2 : b = G.tA i
        · rw [h2, upd_ne nc, upd_same, upd_same]
        · rw [upd_ne h1, upd_ne h2, upd_ne h2, upd_ne h1]
    rw [sw] at hT ⊢
    have c1 := c.upd (o := LamX.CodeO c' (G.tq i)) e2
    have g1 : Grow φ H φ (upd H c' (LamX.CodeO c' (G.tq i))) := Grow.upd e2
    have g2 : Grow φ (upd H c' (LamX.CodeO c' (G.tq i))) φ (upd (upd H c' (LamX.CodeO c' (G.tq i))) (G.tA i) (.tbl (ps ++ more))) := Grow.write hm
    have set : μ.set j (.tbl i) = μ := by
      apply List.ext_getElem?
      intro k
      by_cases hk : k = j
      · subst hk; rw [List.getElem?_set_self (List.getElem?_eq_some_iff.mp hj).1]; exact hj.symm
      · rw [List.getElem?_set_ne (Ne.symm hk)]
    refine ⟨?_, g1.trans g2⟩
    have := c1.write (o := .tbl (ps ++ more)) (c := .tbl i) ha ?_
    · rw [set] at this; exact this
    · refine .tbl rfl ?_
      obtain ⟨ps2, t1, t2, t3⟩ := hT
      obtain ⟨ps0, u1, u2, u3⟩ := tc
      have pe : ps = ps0 := by rw [e1] at u1; exact HO.tbl.inj (Option.some.inj u1)
      have pe2 : ps2 = ps ++ more := by rw [upd_same] at t1; exact (HO.tbl.inj (Option.some.inj t1)).symm
      subst pe pe2
      refine ⟨_, t1, t2, fun pos cv hc => ?_⟩
      obtain ⟨c0, e3, e4⟩ := t3 pos cv hc
      rcases e5 pos cv hc with z | z
      · obtain ⟨c1', z1, _, z3, z4⟩ := u3 pos cv z
        rw [e3] at z1
        cases z1
        exact ⟨c0, e3, e4, z3, z4⟩
      · rw [e3] at z
        cases z
        exact ⟨c', e3, e4, fr.1, fr.2⟩
/-- h(lambda: e) -/
theorem sn_catch (x : XOk P G S Γ X W) {h i : Nat} {e : Ex} {n : Str} {params : Arguments} {body : Expr} {scope : Scope} {p lpos pos : Pos} {d : FunE} (hd : d ∈ P.hnd) (hf : d.id = h) (hn : d.name = n) (hdp : Γ.deep = false) (hl : P.lam = some i) (hg : n ∈ Γ.gl) (hsp : noSpec n = true) (ho : lamOk Γ params scope = true)
    (he : ∀ {X' : Cx} {W' : WX}, XOk P G S (cxtIn Γ.N scope) X' W' → PE X' body (RE G W' fun E => wpE S E e)) : PE X (.Call (.Name n p) [.Lambda params body scope lpos] [] pos) (RE G W fun E => wpE S E (.catch h i e)) := by
  subst hf hn
  obtain ⟨⟨c, hc, TB⟩, hq, ⟨k, hk, hr, fn⟩, hh, _, _⟩ := x.lam hdp i hl
  obtain ⟨g, pg, bg, sg, dV, kV, doc, pm, cdv, ct, oc, an, od, osl, Ng, a, h1, h2, h3, h4, h5, h6, h7, h8, h9, h10⟩ := (hh d hd).ex
  obtain rfl := noPar_eq (lamOk_and ho).1
  have hdb := (noSpec_and hsp).1
  have ha := noSpec_and h9
  refine pe_imp (PX.pe_lamb (k := k) (x.gl _ hg) h1 h2 h3 h4 h5 h6 h7 h8 h10 TB hc hr (lamS_of x ho) rfl (fun _ _ _ _ _ => rfl) (fun A outer s H E f c' hr' => he (x.lamb ho (E := E) hk hr' fn)) hdb ha.1 ha.2) fun σ H Q ⟨Z, φ, ρ, μ, E, Qd, at_, w, kq⟩ => ?_
  simp only [wpE] at w
  obtain ⟨⟨j, hj⟩, w⟩ := w
  obtain ⟨ad, had, ce⟩ := at_.cr.cell j _ hj
  have tT : LamX.TabS H (G.tA i) (X.env.qual ++ "<lambda>") := by
    cases ce with
    | tbl e1 e2 =>
      obtain ⟨ps, q1, q2, q3⟩ := e2
      rw [e1] at q1
      rw [hq] at q3
      exact ⟨ps, q1, q2, fun pos cv hcv => let ⟨c0, z1, z2, _⟩ := q3 pos cv hcv; ⟨c0, z1, z2⟩⟩
  refine ⟨tT, fun H1 st t1 => ?_⟩
  obtain ⟨c1, g1⟩ := cr_lam at_.cr hj rfl hq.symm st t1
  show TTh G (S.hnd d.id) _ H1 Q
  unfold TTh
  refine ⟨Z, φ, ρ, μ, _, _, ⟨at_.er.grow g1, c1, fun xx μ' ex cls dd φ' H' xr cr g => ?_⟩, w, fun dv μ' qd v φ' H' r cr g => ⟨by rw [sizeLine_eq]; simp, fun pp hp => ?_⟩⟩
  · obtain ⟨dd2, e1, e2⟩ := opt_iff.mp ex
    refine ⟨Z, φ', μ', xx, dd2, xr, cr, e1, fun v φ2 H2 r2 c2 g2 => kq dd2 μ' e2 v φ2 H2 r2 c2 (g1.trans (g.trans g2))⟩
  · have g2 : Grow φ' H' φ' (upd H' pp (.tup [V.str (Str.ofString (S.hnd d.id).1), v])) := Grow.upd hp
    exact kq _ μ' qd _ φ' _ (new_tup cr hp (.cons (.str _) (.cons r .nil))) (cr.upd hp) (g1.trans (g.trans g2))
end
end PY

set_option Elab.async false
set_option linter.all false
set_option maxRecDepth 100000
set_option maxHeartbeats 8000000
/-! PY, part o: expressions: chk is sound (the recursion). -/
namespace PY
open PySem PySem.Spec PyProof.Rows L2
section
variable {P : PCtx} {G : Gd} {S : Sg}
theorem prim_plain {Γ : Cxt} {f : Prim} {x : Expr} {xs : List Expr} (h : argsOf P Γ f x = some xs) : plainT x = true ∨ (∃ c, f = .cm c) ∨ f = .isN ∨ f = .notN := by
  unfold argsOf at h
  split at h <;> first | exact .inl rfl | exact .inr (.inl ⟨_, rfl⟩) | exact .inr (.inr (.inl rfl)) | exact .inr (.inr (.inr rfl)) | cases h
theorem st_prim {Γ : Cxt} {X : Cx} {W : WX} (x : XOk P G S Γ X W) {f : Prim} {e : Expr} {es : Exs} {xs : List Expr} (h : argsOf P Γ f e = some xs) (hp : PEs G S X W es xs) (hs : xs.all noStar = true) (hl : xs.all noSlice = true) : PT X e (RT G W fun E => wpT S E (.prim f es)) := by
  have hu := x.hu
  rcases prim_plain h with q | ⟨c, rfl⟩ | rfl | rfl
  · refine pt_tru x (sn_prim x h hp hs hl) q fun E ρ μ Q w => ?_
    simp only [wpT] at w
    simp only [wpE]
    exact w
  · unfold argsOf at h
    split at h <;> (try simp at *) <;> (try contradiction)
    rename_i heq1 heq2
    obtain ⟨⟨h1, h2⟩, rfl⟩ := h
    obtain ⟨p, q, rfl, ha, hb⟩ := PEs.two hp
    obtain rfl := of_decide_eq_true h1
    subst heq2
    exact pt_2 (g := fun μ x y => cmD μ _ x y) (fun μ x y => by simp [primD]) ha hb fun ta tb a b => pt_cmpR (op_cm x.hK (by omega) _) a b (mark_of h2)
  · unfold argsOf at h
    split at h <;> (try simp at *) <;> (try contradiction)
    subst h
    obtain ⟨p, rfl, ha⟩ := PEs.one hp
    exact st_isN ha
  · unfold argsOf at h
    split at h <;> (try simp at *) <;> (try contradiction)
    subst h
    obtain ⟨p, rfl, ha⟩ := PEs.one hp
    exact st_notN ha
theorem pt_ifE {c a b : Expr} {tA ta tb : TT} {p : Pos} {X : Cx} (hc : PT X c tA) (ha : PT X a ta) (hb : PT X b tb) : PT X (.IfExp c a b p) (fun σ H Q => tA σ H fun t H1 => if t = true then ta σ H1 Q else tb σ H1 Q) := by
  refine ⟨fun pins s σ H Q I h => ?_⟩
  refine isTrue_IfExp (thn (hc.run pins s σ H _ I h) fun d s1 ⟨H1, I1, q1⟩ => ?_)
  cases d with
  | true => exact ha.run pins s1 σ H1 Q I1 q1
  | false => exact hb.run pins s1 σ H1 Q I1 q1
theorem snd_var {i : Nat} {X : Cx} {Γ : Cxt} {W : WX} {y : Expr} (x : XOk P G S Γ X W) (h : chkE P Γ (.var i) y = true) : PE X y (RE G W fun E => wpE S E (.var i)) ∧ PT X y (RT G W fun E => wpT S E (.var i)) := by
  unfold chkE at h
  split at h
  case h_2 => cases h
  rename_i n p
  simp only [Bool.and_eq_true, decide_eq_true_eq, List.contains_iff_mem] at h
  obtain ⟨⟨h1, h2⟩, h3⟩ := h
  have hpe : PE X (.Name n p) (RE G W fun E => wpE S E (.var i)) := by
    obtain ⟨g1, g2⟩ := noSpec_and h3
    refine pe_imp (pe_var (i := i) (by rw [x.N]; exact h1) (x.vis n h2) g1 g2) fun σ H Q ⟨Z, φ, ρ, μ, E, Qd, at_, w, k⟩ => ?_
    simp only [wpE] at w
    cases q : ρ[i]? with
    | none => rw [q] at w; exact w.elim
    | some o =>
      cases o with
      | none => rw [q] at w; exact w.elim
      | some d =>
        rw [q] at w
        obtain ⟨v, e1, r⟩ := at_.er.at_ i d q
        exact ⟨v, e1, k d μ w v φ H r at_.cr (Grow.refl _ _)⟩
  refine ⟨hpe, pt_tru x hpe rfl fun E ρ μ Q w => ?_⟩
  simp only [wpT] at w
  simp only [wpE]
  cases q : ρ[i]? with
  | none => rw [q] at w; exact w.elim
  | some o =>
    cases o with
    | none => rw [q] at w; exact w.elim
    | some d => rw [q] at w; exact w
theorem snd_con {c : Const} {X : Cx} {Γ : Cxt} {W : WX} {y : Expr} (x : XOk P G S Γ X W) (h : chkE P Γ (.con c) y = true) : PE X y (RE G W fun E => wpE S E (.con c)) ∧ PT X y (RT G W fun E => wpT S E (.con c)) := by
  unfold chkE at h
  split at h
  case h_2 => cases h
  rename_i c' k p
  simp only [Bool.and_eq_true, decide_eq_true_eq] at h
  obtain ⟨rfl, h2⟩ := h
  have key : ∀ {t : TE} (v : V) (d : D), conD c = some d → (∀ Z φ H, Rep G Z φ H v d) → t = tC v → PE X (.Constant c k p) t → PE X (.Constant c k p) (RE G W fun E => wpE S E (.con c)) := by
    intro t v d hd hr ht hp
    subst ht
    refine pe_imp hp fun σ H Q ⟨Z, φ, ρ, μ, E, Qd, at_, w, k⟩ => ?_
    simp only [wpE, hd, opt_some] at w
    exact k d μ w v φ H (hr Z φ H) at_.cr (Grow.refl _ _)
  have hpe : PE X (.Constant c k p) (RE G W fun E => wpE S E (.con c)) := by
    cases c with
    | none => exact key .non .non rfl (fun _ _ _ => .non) rfl pe_non
    | bool b => exact key (.bl b) (.bl b) rfl (fun _ _ _ => .bl b) rfl pe_bl
    | int i => exact key (.int i) (.int i) rfl (fun _ _ _ => .int i) rfl pe_int
    | _ => simp [conD] at h2
  refine ⟨hpe, pt_tru x hpe rfl fun E ρ μ Q w => ?_⟩
  simp only [wpT] at w
  simp only [wpE]
  exact w
theorem snd_str {t : String} {X : Cx} {Γ : Cxt} {W : WX} {y : Expr} (x : XOk P G S Γ X W) (h : chkE P Γ (.str t) y = true) : PE X y (RE G W fun E => wpE S E (.str t)) ∧ PT X y (RT G W fun E => wpT S E (.str t)) := by
  unfold chkE at h
  split at h
  case h_2 => cases h
  rename_i s' k' p'
  simp only [decide_eq_true_eq] at h
  subst h
  have hpe : PE X (.Constant (.str (Str.ofString t)) k' p') (RE G W fun E => wpE S E (.str t)) := pe_imp pe_str fun σ H Q ⟨Z, φ, ρ, μ, E, Qd, at_, w, k⟩ => by
    simp only [wpE] at w
    exact k _ μ w _ φ H (.str t) at_.cr (Grow.refl _ _)
  refine ⟨hpe, pt_tru x hpe rfl fun E ρ μ Q w => ?_⟩
  simp only [wpT] at w
  simp only [wpE]
  exact w
theorem snd_glo {j : Nat} {X : Cx} {Γ : Cxt} {W : WX} {y : Expr} (x : XOk P G S Γ X W) (h : chkE P Γ (.glo j) y = true) : PE X y (RE G W fun E => wpE S E (.glo j)) ∧ PT X y (RT G W fun E => wpT S E (.glo j)) := by
  unfold chkE at h
  split at h
  case h_2 => cases h
  rename_i n p
  simp only [Bool.and_eq_true, decide_eq_true_eq, List.contains_iff_mem] at h
  obtain ⟨⟨h1, h2⟩, h3⟩ := h
  obtain ⟨u, v, hm, rv, hr⟩ := x.con j n h1
  have hpe : PE X (.Name n p) (RE G W fun E => wpE S E (.glo j)) := pe_imp (pe_glob (x.gl n h2) hm rv (noSpec_and h3).1) fun σ H Q ⟨Z, φ, ρ, μ, E, Qd, at_, w, k⟩ => by
    simp only [wpE] at w
    exact k _ μ w _ φ H (hr Z φ H) at_.cr (Grow.refl _ _)
  refine ⟨hpe, pt_tru x hpe rfl fun E ρ μ Q w => ?_⟩
  simp only [wpT] at w
  simp only [wpE]
  exact w
theorem snd_chain {f g : Cm} {a b c : Ex} {X : Cx} {Γ : Cxt} {W : WX} {y yb yc : Expr} {p : Pos} (x : XOk P G S Γ X W) (h3 : noSet yc = true) (ha : PE X y (RE G W fun E => wpE S E a)) (hb : PE X yb (RE G W fun E => wpE S E b)) (hc : PE X yc (RE G W fun E => wpE S E c)) :
    PE X (.Compare y [cmOf f, cmOf g] [yb, yc] p) (RE G W fun E => wpE S E (.chain f g a b c)) ∧ PT X (.Compare y [cmOf f, cmOf g] [yb, yc] p) (RT G W fun E => wpT S E (.chain f g a b c)) := by
  have hu := x.hu
  constructor
  · refine pe_imp (pe_chain (op_cm x.hK (by omega) f) (op_cm x.hK (by omega) g) ha hb hc (last_of h3)) fun σ H Q ⟨Z, φ, ρ, μ, E, Qd, at_, w, k⟩ => ?_
    simp only [wpE] at w
    refine ⟨Z, φ, ρ, μ, E, _, at_, w, fun d1 μ1 w1 v φ1 H1 r1 c1 g1 => ?_⟩
    refine ⟨Z, φ1, ρ, μ1, E, _, at_.step c1 g1, w1, fun d2 μ2 w2 u φ2 H2 r2 c2 g2 => ?_⟩
    obtain ⟨t, e1, w3⟩ := opt_iff.mp w2
    refine ⟨Z, φ2, μ2, d1, d2, .bl t, c2, r1.grow g2, r2, by show Option.map D.bl _ = _; rw [e1]; rfl, fun v' φ' H' r c g => ?_⟩
    refine ⟨t, r.of_bl, ?_⟩
    cases t with
    | true =>
      rw [if_pos rfl] at w3 ⊢
      refine ⟨Z, φ', ρ, μ2, E, _, at_.step c (g1.trans (g2.trans g)), w3, fun d3 μ3 w4 z φ3 H3 r3 c3 g3 => ?_⟩
      obtain ⟨t', e2, q⟩ := opt_iff.mp w4
      exact ⟨Z, φ3, μ3, d2, d3, .bl t', c3, r2.grow (g.trans g3), r3, by show Option.map D.bl _ = _; rw [e2]; rfl, fun v'' φ'' H'' r' c' g' => k _ _ q v'' φ'' H'' r' c' (g1.trans (g2.trans (g.trans (g3.trans g'))))⟩
    | false =>
      rw [if_neg (by simp)] at w3 ⊢
      exact k _ _ w3 _ φ' H' (.bl false) c (g1.trans (g2.trans g))
  · refine pt_imp (pt_chain (op_cm x.hK (by omega) f) (op_cm x.hK (by omega) g) ha hb hc (last_of h3)) fun σ H Q ⟨Z, φ, ρ, μ, E, Qd, at_, w, k⟩ => ?_
    simp only [wpT] at w
    refine ⟨Z, φ, ρ, μ, E, _, at_, w, fun d1 μ1 w1 v φ1 H1 r1 c1 g1 => ?_⟩
    refine ⟨Z, φ1, ρ, μ1, E, _, at_.step c1 g1, w1, fun d2 μ2 w2 u φ2 H2 r2 c2 g2 => ?_⟩
    obtain ⟨t, e1, w3⟩ := opt_iff.mp w2
    refine ⟨Z, φ2, μ2, d1, d2, .bl t, c2, r1.grow g2, r2, by show Option.map D.bl _ = _; rw [e1]; rfl, fun v' φ' H' r c g => ?_⟩
    refine ⟨t, r.of_bl, ?_⟩
    cases t with
    | true =>
      rw [if_pos rfl] at w3 ⊢
      refine ⟨Z, φ', ρ, μ2, E, _, at_.step c (g1.trans (g2.trans g)), w3, fun d3 μ3 w4 z φ3 H3 r3 c3 g3 => ?_⟩
      obtain ⟨t', e2, q⟩ := opt_iff.mp w4
      exact ⟨Z, φ3, μ3, d2, d3, .bl t', c3, r2.grow (g.trans g3), r3, by show Option.map D.bl _ = _; rw [e2]; rfl, fun v'' φ'' H'' r' c' g' => ⟨t', r'.of_bl, k _ _ q φ'' H'' c' (g1.trans (g2.trans (g.trans (g3.trans g'))))⟩⟩
    | false =>
      rw [if_neg (by simp)] at w3 ⊢
      exact ⟨false, rfl, k _ _ w3 φ' H' c (g1.trans (g2.trans g))⟩
theorem snd_not {a : Ex} {X : Cx} {Γ : Cxt} {W : WX} {y : Expr} {p : Pos} (x : XOk P G S Γ X W) (h1 : PE X y (RE G W fun E => wpE S E a)) (h2 : PT X y (RT G W fun E => wpT S E a)) :
    PE X (.UnaryOp .Not y p) (RE G W fun E => wpE S E (.not_ a)) ∧ PT X (.UnaryOp .Not y p) (RT G W fun E => wpT S E (.not_ a)) := by
  constructor
  · refine pe_imp (pe_notT h1) fun σ H Q ⟨Z, φ, ρ, μ, E, Qd, at_, w, k⟩ => ?_
    simp only [wpE] at w
    refine ⟨Z, φ, ρ, μ, E, _, at_, w, fun d μ1 w1 v φ1 H1 r1 c1 g1 => ?_⟩
    obtain ⟨t, e1, q⟩ := opt_iff.mp w1
    exact ⟨t, tru_of x.hK c1 r1 e1, k _ μ1 q _ φ1 H1 (.bl _) c1 g1⟩
  · refine pt_imp (pt_not h2) fun σ H Q ⟨Z, φ, ρ, μ, E, Qd, at_, w, k⟩ => ?_
    simp only [wpT] at w
    exact ⟨Z, φ, ρ, μ, E, _, at_, w, fun t μ1 w1 φ1 H1 c1 g1 => k _ μ1 w1 φ1 H1 c1 g1⟩
theorem snd_ife {c a b : Ex} {X : Cx} {Γ : Cxt} {W : WX} {yc ya yb : Expr} {p : Pos} (x : XOk P G S Γ X W) (hc : PT X yc (RT G W fun E => wpT S E c)) (ha : PE X ya (RE G W fun E => wpE S E a)) (hb : PE X yb (RE G W fun E => wpE S E b))
    (ha' : PT X ya (RT G W fun E => wpT S E a)) (hb' : PT X yb (RT G W fun E => wpT S E b)) :
    PE X (.IfExp yc ya yb p) (RE G W fun E => wpE S E (.ife c a b)) ∧ PT X (.IfExp yc ya yb p) (RT G W fun E => wpT S E (.ife c a b)) := by
  constructor
  · refine pe_imp (pe_ifExp hc ha hb) fun σ H Q ⟨Z, φ, ρ, μ, E, Qd, at_, w, k⟩ => ?_
    simp only [wpE] at w
    refine ⟨Z, φ, ρ, μ, E, _, at_, w, fun t μ1 w1 φ1 H1 c1 g1 => ?_⟩
    cases t with
    | true =>
      rw [if_pos rfl] at w1 ⊢
      exact ⟨Z, φ1, ρ, μ1, E, _, at_.step c1 g1, w1, fun d2 μ2 q2 v2 φ2 H2 r2 c2 g2 => k d2 μ2 q2 v2 φ2 H2 r2 c2 (g1.trans g2)⟩
    | false =>
      rw [if_neg (by simp)] at w1 ⊢
      exact ⟨Z, φ1, ρ, μ1, E, _, at_.step c1 g1, w1, fun d2 μ2 q2 v2 φ2 H2 r2 c2 g2 => k d2 μ2 q2 v2 φ2 H2 r2 c2 (g1.trans g2)⟩
  · refine pt_imp (pt_ifE hc ha' hb') fun σ H Q ⟨Z, φ, ρ, μ, E, Qd, at_, w, k⟩ => ?_
    simp only [wpT] at w
    refine ⟨Z, φ, ρ, μ, E, _, at_, w, fun t μ1 w1 φ1 H1 c1 g1 => ?_⟩
    cases t with
    | true =>
      rw [if_pos rfl] at w1 ⊢
      exact ⟨Z, φ1, ρ, μ1, E, _, at_.step c1 g1, w1, fun d2 μ2 q2 φ2 H2 c2 g2 => k d2 μ2 q2 φ2 H2 c2 (g1.trans g2)⟩
    | false =>
      rw [if_neg (by simp)] at w1 ⊢
      exact ⟨Z, φ1, ρ, μ1, E, _, at_.step c1 g1, w1, fun d2 μ2 q2 φ2 H2 c2 g2 => k d2 μ2 q2 φ2 H2 c2 (g1.trans g2)⟩
theorem pt_never {X : Cx} {W : WX} {y : Expr} {wt : (XD → Store → Prop) → Sl → Store → (Bool → Store → Prop) → Prop} (h : ∀ E ρ μ Q, ¬ wt E ρ μ Q) : PT X y (RT G W wt) := ⟨fun pins s σ H Q I ⟨Z, φ, ρ, μ, E, Qd, at_, w, k⟩ => (h _ _ _ _ w).elim⟩
mutual
theorem sndE : ∀ (e : Ex) {X : Cx} {Γ : Cxt} {W : WX} {y : Expr}, XOk P G S Γ X W → chkE P Γ e y = true → PE X y (RE G W fun E => wpE S E e) ∧ PT X y (RT G W fun E => wpT S E e)
  | .var i, X, Γ, W, y, x, h => snd_var x h
  | .con c, X, Γ, W, y, x, h => snd_con x h
  | .str s, X, Γ, W, y, x, h => snd_str x h
  | .glo j, X, Γ, W, y, x, h => snd_glo x h
  | .prim f es, X, Γ, W, y, x, h => by
    unfold chkE at h
    cases q : argsOf P Γ f y with
    | none => rw [q] at h; cases h
    | some xs =>
      rw [q] at h
      obtain ⟨h1, h2⟩ := sndEs es x h
      obtain ⟨h3, h4⟩ := chks_fit h
      exact ⟨sn_prim x q h1 h3 h4, st_prim x q h1 h3 h4⟩
  | .and_ es, X, Γ, W, y, x, h => by
    unfold chkE at h
    split at h
    case h_2 => cases h
    simp only [Bool.and_eq_true] at h
    obtain ⟨h1, h2⟩ := sndEs es x h.1
    exact ⟨pe_imp (and_ok x h1 h.2) fun σ H Q q => by simpa only [wpE] using q, pt_imp (tand_ok h2 h.2).pt fun σ H Q q => by simpa only [wpT] using q⟩
  | .or_ es, X, Γ, W, y, x, h => by
    unfold chkE at h
    split at h
    case h_2 => cases h
    simp only [Bool.and_eq_true] at h
    obtain ⟨h1, h2⟩ := sndEs es x h.1
    exact ⟨pe_imp (or_ok x h1 h.2) fun σ H Q q => by simpa only [wpE] using q, pt_imp (tor_ok h2 h.2).pt fun σ H Q q => by simpa only [wpT] using q⟩
  | .not_ a, X, Γ, W, y, x, h => by
    unfold chkE at h
    split at h
    case h_2 => cases h
    obtain ⟨h1, h2⟩ := sndE a x h
    exact snd_not x h1 h2
  | .ife c a b, X, Γ, W, y, x, h => by
    unfold chkE at h
    split at h
    case h_2 => cases h
    simp only [Bool.and_eq_true] at h
    obtain ⟨_, hc⟩ := sndE c x h.1.1
    obtain ⟨ha, ha'⟩ := sndE a x h.1.2
    obtain ⟨hb, hb'⟩ := sndE b x h.2
    exact snd_ife x hc ha hb ha' hb'
  | .chain f g a b c, X, Γ, W, y, x, h => by
    unfold chkE at h
    split at h
    case h_2 => cases h
    simp only [Bool.and_eq_true] at h
    obtain ⟨⟨⟨⟨⟨h1, h2⟩, h3⟩, ha⟩, hb⟩, hc⟩ := h
    obtain rfl := of_decide_eq_true h1
    obtain rfl := of_decide_eq_true h2
    exact snd_chain x h3 (sndE a x ha).1 (sndE b x hb).1 (sndE c x hc).1
  | .sl3 a l hh, X, Γ, W, y, x, h => by
    unfold chkE at h
    split at h
    case h_2 => cases h
    simp only [Bool.and_eq_true] at h
    exact ⟨sn_sl3 x (sndE a x h.1.1).1 (sndE l x h.1.2).1 (sndE hh x h.2).1, pt_never fun E ρ μ Q w => by simp only [wpT] at w⟩
  | .meth f o es, X, Γ, W, y, x, h => by
    unfold chkE at h
    split at h
    case h_2 => cases h
    simp only [Bool.and_eq_true, decide_eq_true_eq] at h
    obtain ⟨⟨⟨⟨⟨h1, h2⟩, h3⟩, h4⟩, h5⟩, h6⟩ := h
    have hpe := sn_meth x h1 h2 h3 h4 (sndE o x h5).1 (sndEs es x h6).1 (chks_fit h6).1
    refine ⟨hpe, pt_tru x hpe rfl fun E ρ μ Q w => ?_⟩
    simp only [wpT] at w
    simp only [wpE]
    exact w
  | .call f es k, X, Γ, W, y, x, h => by
    unfold chkE at h
    split at h
    case h_2 => cases h
    rename_i n1 p1 as1 p2
    simp only [Bool.and_eq_true, List.any_eq_true, decide_eq_true_eq, List.contains_iff_mem, beq_iff_eq] at h
    obtain ⟨⟨⟨⟨d, hd, ⟨⟨h1, h2⟩, h3⟩, h4⟩, h5⟩, h6⟩, h7⟩ := h
    have hpe := sn_call (k := k) (p := p1) (pos := p2) x hd h1 h2 h4 h5 h6 (sndEs es x h7).1 (chks_fit h7).1
    refine ⟨hpe, pt_tru x hpe rfl fun E ρ μ Q w => ?_⟩
    simp only [wpT] at w
    simp only [wpE]
    exact w
  | .comp m elt tg it cond own, X, Γ, W, y, x, h => by
    unfold chkE at h
    split at h
    case h_2 => cases h
    simp only [Bool.and_eq_true, List.all_eq_true, List.contains_iff_mem] at h
    obtain ⟨⟨⟨⟨⟨⟨h1, h2⟩, h3⟩, h4⟩, h5⟩, h6⟩, h7⟩ := h
    obtain ⟨ow, e, ok⟩ := ownOk_blk h3 x
    subst e
    exact ⟨pe_imp (pe_lc x.calm x.nd (sndI it x h1) ok (fun s H C cl fp => (tg_ok (x.blk h3 s H C cl fp) h4).1) (fun s H C cl fp => sndC cond (x.blk h3 s H C cl fp) h6) (fun s H C cl fp => (sndE elt (x.blk h3 s H C cl fp) h7).1) (fold_of h2))
      fun σ H Q q => tlc_of h5 q, pt_never fun E ρ μ Q w => by simp only [wpT] at w⟩
  | .catch hh i e, X, Γ, W, y, x, h => by
    unfold chkE at h
    split at h
    case h_2 => cases h
    simp only [Bool.and_eq_true, Bool.not_eq_true', List.any_eq_true, decide_eq_true_eq, List.contains_iff_mem, beq_iff_eq] at h
    obtain ⟨⟨⟨⟨⟨⟨h1, h2⟩, d, hd, h3, h4⟩, h5⟩, h6⟩, h7⟩, h8⟩ := h
    exact ⟨sn_catch x hd h3 h4 h1 h2 h5 h6 h7 fun x' => (sndE e x' h8).1, pt_never fun E ρ μ Q w => by simp only [wpT] at w⟩
termination_by structural e => e
theorem sndEs : ∀ (es : Exs) {X : Cx} {Γ : Cxt} {W : WX} {xs : List Expr}, XOk P G S Γ X W → chkEs P Γ es xs = true → PEs G S X W es xs ∧ PTss G S X W es xs
  | .nil, X, Γ, W, xs, x, h => by
    unfold chkEs at h
    cases xs with
    | nil => exact ⟨trivial, trivial⟩
    | cons _ _ => cases h
  | .cons e es, X, Γ, W, xs, x, h => by
    unfold chkEs at h
    cases xs with
    | nil => cases h
    | cons y ys =>
      simp only [Bool.and_eq_true] at h
      obtain ⟨h1, h2⟩ := sndE e x h.1
      obtain ⟨h3, h4⟩ := sndEs es x h.2
      exact ⟨⟨h1, h3⟩, ⟨h2, h4⟩⟩
termination_by structural es => es
theorem sndC : ∀ (es : Exs) {X : Cx} {Γ : Cxt} {W : WX} {xs : List Expr}, XOk P G S Γ X W → chkC P Γ es xs = true → PTs X xs (RT G W fun _ => wpC S es)
  | .nil, X, Γ, W, xs, x, h => by
    unfold chkC at h
    cases xs with
    | cons _ _ => cases h
    | nil =>
      refine ⟨fun pins s σ H Q I ⟨Z, φ, ρ, μ, E, Qd, at_, w, k⟩ => ?_⟩
      simp only [wpC] at w
      exact pts_nil.run pins s σ H Q I (k _ _ w φ H at_.cr (Grow.refl _ _))
  | .cons e es, X, Γ, W, xs, x, h => by
    unfold chkC at h
    split at h
    case h_2 => cases h
    obtain ⟨h1, h2⟩ := sndE e x h
    refine ⟨fun pins s σ H Q I ⟨Z, φ, ρ, μ, E, Qd, at_, w, k⟩ => ?_⟩
    simp only [wpC] at w
    exact (pts_one h2).run pins s σ H Q I ⟨Z, φ, ρ, μ, _, Qd, ⟨at_.er, at_.cr, lk_no⟩, w, k⟩
termination_by structural es => es
theorem sndI : ∀ (it : Itx) {X : Cx} {Γ : Cxt} {W : WX} {y tg : Expr}, XOk P G S Γ X W → chkI P Γ it y tg = true → PI X tg y (RI G W fun E => wpI S E it)
  | .val e, X, Γ, W, y, tg, x, h => by
    unfold chkI at h
    exact si_val x (sndE e x h).1
  | .rng es, X, Γ, W, y, tg, x, h => by
    unfold chkI at h
    split at h
    case h_2 => cases h
    simp only [Bool.and_eq_true, decide_eq_true_eq] at h
    obtain ⟨⟨⟨rfl, h2⟩, h3⟩, h4⟩ := h
    exact si_rng x h2 h3 (chks_fit h4).1 (sndEs es x h4).1
  | .enum e, X, Γ, W, y, tg, x, h => by
    unfold chkI at h
    split at h
    case h_2 => cases h
    simp only [Bool.and_eq_true, decide_eq_true_eq] at h
    obtain ⟨⟨rfl, h2⟩, h3⟩ := h
    exact si_enum (n := ("enumerate" : Str)) x h2 (chk_fit h3).1 (sndE e x h3).1
  | .zip e f, X, Γ, W, y, tg, x, h => by
    unfold chkI at h
    split at h
    case h_2 => cases h
    simp only [Bool.and_eq_true, decide_eq_true_eq] at h
    obtain ⟨⟨⟨rfl, h2⟩, h3⟩, h4⟩ := h
    exact si_zip (n := ("zip" : Str)) x h2 (chk_fit h3).1 (chk_fit h4).1 (sndE e x h3).1 (sndE f x h4).1
termination_by structural it => it
end
end
end PY

set_option Elab.async false
set_option linter.all false
set_option maxRecDepth 100000
set_option maxHeartbeats 8000000
/-! PY, part p: statements against the model's syntax. -/
namespace PY
open PySem PySem.Spec PyProof.Rows L2
/-- no comprehension -/
def noComp : Expr → Bool
  | .ListComp .. | .SetComp .. | .DictComp .. => false
  | _ => true
def noTup : Expr → Bool
  | .Tuple .. => false
  | _ => true
/-- does name = [..] store within the comprehension -/
def swapsB (Γ : Cxt) (x : Str) (px : Pos) : Expr → Option Bool
  | .ListComp _ _ scope p => if (px.line == p.line && !(scope.names.any fun (n, k) => n == x && (k == .local || k == .cell))) = true then (if Γ.lcl.contains x = true then some true else none) else some false
  | .SetComp .. | .DictComp .. => none
  | _ => some false
def isConst (v : Expr) : Bool := foldedForSure 8 v
/-- what the model does at a store to tg is what we take it to do -/
def asgOk (Γ : Cxt) (tg v : Expr) : Bool := match tg with
  | .Name x px => (swapsB Γ x px v).isSome
  | .Tuple ts _ _ => match v with
    | .Tuple vs _ _ => !(ts.length == 2 || ts.length == 3) || vs.length != ts.length || vs.all (foldedForSure 8)
    | _ => true
  | _ => false
section
variable (P : PCtx)
mutual
def chkS : Cxt → St → Stmt → Bool
  | Γ, .asg t e, y => match y with
    | .Assign [tg] v _ => chkTg Γ t tg && chkE P Γ e v && asgOk Γ tg v
    | _ => false
  | Γ, .par i j a b, y => match y with
    | .Assign [.Tuple [.Name x px, .Name y py] _ _] (.Tuple [u, v] _ _) _ => decide (Γ.N[i]? = some x) && decide (Γ.N[j]? = some y) && decide (i ≠ j) && decide (x ≠ y) && Γ.lcl.contains x && Γ.lcl.contains y && py.line == px.line && !([u, v].all (foldedForSure 8)) && !([u, v].all (constantsAlone 8)) &&
      chkE P Γ a u && chkE P Γ b v
    | _ => false
  | Γ, .par3 i j k a b c, y => match y with
    | .Assign [.Tuple [.Name x px, .Name y py, .Name z pz] _ _] (.Tuple [u, v, w] _ _) _ => decide (Γ.N[i]? = some x) && decide (Γ.N[j]? = some y) && decide (Γ.N[k]? = some z) && decide (i ≠ j) && decide (i ≠ k) && decide (j ≠ k) && decide (x ≠ y) && decide (x ≠ z) && decide (y ≠ z) &&
      Γ.lcl.contains x && Γ.lcl.contains y && Γ.lcl.contains z && py.line == px.line && pz.line == px.line && !([u, v, w].all (foldedForSure 8)) && !([u, v, w].all (constantsAlone 8)) &&
      chkE P Γ a u && chkE P Γ b v && chkE P Γ c w
    | _ => false
  | Γ, .setix o i e, y => match y with
    | .Assign [.Subscript yo yi _] v _ => noComp v && chkE P Γ o yo && chkE P Γ i yi && chkE P Γ e v
    | _ => false
  | Γ, .aug i e, y => match y with
    | .AugAssign (.Name x _) op v _ => opEq op .Add && decide (Γ.N[i]? = some x) && Γ.loc.contains x && chkE P Γ e v
    | _ => false
  | Γ, .expr e, y => match y with
    | .Expr v _ => noComp v && chkE P Γ e v
    | _ => false
  | Γ, .ite c a b, y => match y with
    | .If v p q _ => chkE P Γ c v && chkSs Γ a p && chkSs Γ b q
    | _ => false
  | Γ, .whl c b, y => match y with
    | .While v p [] _ => chkE P Γ c v && chkSs Γ b p
    | _ => false
  | Γ, .forr t it b, y => match y with
    | .For tg v p [] _ => chkI P Γ it v tg && noSet v && chkTg Γ t tg && chkSs Γ b p
    | _ => false
  | Γ, .ret e, y => match y with
    | .Return (some v) _ => chkE P Γ e v
    | _ => false
  | _, .retN, y => match y with
    | .Return none _ => true
    | _ => false
  | Γ, .raise c es, y => match y with
    | .Raise (some (.Call (.Name x _) (a :: as) [] _)) none _ => (P.exc.any fun e => decide (e.c = c) && decide (e.name = x) && decide (e.n = exsLen es)) && !Γ.deep && decide (exsLen es ≤ 1000) && Γ.gl.contains x && noSpec x && chkEs P Γ es (a :: as)
    | _ => false
  | _, .pass, y => match y with
    | .Pass _ => true
    | _ => false
  | _, .brk, y => match y with
    | .Break _ => true
    | _ => false
  | _, .cnt, y => match y with
    | .Continue _ => true
    | _ => false
termination_by structural _ s => s
def chkSs : Cxt → Sts → List Stmt → Bool
  | _, .nil, ys => ys.isEmpty
  | Γ, .cons s r, ys => match ys with
    | y :: ys => chkS Γ s y && chkSs Γ r ys
    | [] => false
termination_by structural _ s => s
end
end

/-! ### readings -/
def LkS (G : Gd) (Z : List Addr) (W : WX) (E : Sl → XD → Store → Prop) (φ : List Addr) (H : Hp) : Prop :=
  ∀ ρ x μ', E ρ x μ' → ∀ σ cls dd φ' H', ERel G Z φ' H' σ ρ → XRep G Z φ' H' cls dd x → CRel G Z φ' H' μ' → Grow φ H φ' H' → W cls dd σ H'
structure AtS (G : Gd) (Z : List Addr) (W : WX) (E : Sl → XD → Store → Prop) (σ : L2.St) (φ : List Addr) (H : Hp) (ρ : Sl) (μ : Store) : Prop where
  er : ERel G Z φ H σ ρ
  cr : CRel G Z φ H μ
  lk : LkS G Z W E φ H
structure EndsOk (G : Gd) (Z φ : List Addr) (H : Hp) (PD : PEnds) (D : Ends) : Prop where
  nx : ∀ ρ' μ', PD.nx ρ' μ' → ∀ σ' φ' H', ERel G Z φ' H' σ' ρ' → CRel G Z φ' H' μ' → Grow φ H φ' H' → D.nx σ' H'
  rt : ∀ d μ', PD.rt d μ' → Done G Z φ H d μ' D.rt
  bk : ∀ ρ' μ', PD.bk ρ' μ' → ∀ σ' φ' H', ERel G Z φ' H' σ' ρ' → CRel G Z φ' H' μ' → Grow φ H φ' H' → D.bk σ' H'
  ct : ∀ ρ' μ', PD.ct ρ' μ' → ∀ σ' φ' H', ERel G Z φ' H' σ' ρ' → CRel G Z φ' H' μ' → Grow φ H φ' H' → D.ct σ' H'
def RS (G : Gd) (W : WX) (wp : (Sl → XD → Store → Prop) → Sl → Store → PEnds → Prop) : TS := fun D σ H => ∃ Z φ ρ μ E PD, AtS G Z W E σ φ H ρ μ ∧ wp E ρ μ PD ∧ EndsOk G Z φ H PD D
section
variable {P : PCtx} {G : Gd} {S : Sg} {Γ : Cxt} {X : Cx} {W : WX} {Z φ φ1 : List Addr} {H H1 : Hp} {E : Sl → XD → Store → Prop} {σ σ1 : L2.St} {ρ ρ1 : Sl} {μ μ1 : Store} {PD : PEnds} {D : Ends}
theorem AtS.at (a : AtS G Z W E σ φ H ρ μ) : At G Z W (E ρ) σ φ H ρ μ :=
  ⟨a.er, a.cr, fun x μ' e cls dd φ' H' xr c g => a.lk ρ x μ' e σ cls dd φ' H' (a.er.grow g) xr c g⟩
theorem AtS.move (a : AtS G Z W E σ φ H ρ μ) (er : ERel G Z φ1 H1 σ1 ρ1) (c : CRel G Z φ1 H1 μ1) (g : Grow φ H φ1 H1) : AtS G Z W E σ1 φ1 H1 ρ1 μ1 :=
  ⟨er, c, fun ρ' x μ' e σ' cls dd φ' H' er' xr c' g' => a.lk ρ' x μ' e σ' cls dd φ' H' er' xr c' (g.trans g')⟩
theorem EndsOk.move (k : EndsOk G Z φ H PD D) (g : Grow φ H φ1 H1) : EndsOk G Z φ1 H1 PD D :=
  ⟨fun ρ' μ' q σ' φ' H' er c g' => k.nx ρ' μ' q σ' φ' H' er c (g.trans g'), fun d μ' q v φ' H' r c g' => k.rt d μ' q v φ' H' r c (g.trans g'),
   fun ρ' μ' q σ' φ' H' er c g' => k.bk ρ' μ' q σ' φ' H' er c (g.trans g'), fun ρ' μ' q σ' φ' H' er c g' => k.ct ρ' μ' q σ' φ' H' er c (g.trans g')⟩
theorem ps_imp {st : Stmt} {t t' : TS} (h : PS X st t) (i : ∀ D σ H, t' D σ H → t D σ H) : PS X st t' := ⟨fun pins s σ H D I q => h.run pins s σ H D I (i D σ H q)⟩
theorem pss_imp {st : List Stmt} {t t' : TS} (h : PSs X st t) (i : ∀ D σ H, t' D σ H → t D σ H) : PSs X st t' := ⟨fun pins s σ H D I q => h.run pins s σ H D I (i D σ H q)⟩

/-! ### what the model asks at a store -/
theorem swaps_no {v : Expr} {t : Option Expr} {l : Nat} {env : Env} (h : noComp v = true) : swapsWith v t l env = pure false := by
  cases v <;> first | rfl | simp [noComp] at h
theorem blockKind_fn {env : Env} (h : env.scope.kind = .function) : env.blockKind = .function := by
  unfold Env.blockKind
  rw [h]
  rfl
theorem swaps_name {x : Str} {px : Pos} {v : Expr} {b : Bool} {l : Nat} (xo : XOk P G S Γ X W) (h : swapsB Γ x px v = some b) : swapsWith v (some (.Name x px)) l X.env = pure b := by
  cases v with
  | ListComp elt gs scope p =>
    simp only [swapsB] at h
    show pure (X.env.blockKind == .function && X.env.kindOf x == some .local && px.line == p.line && !(scope.names.any fun (n, k) => n == x && (k == .local || k == .cell))) = pure b
    rw [blockKind_fn xo.kind]
    split at h
    · rename_i h1
      split at h
      · rename_i h2
        cases h
        have h3 : X.env.kindOf x = some .local := xo.lcl x (List.contains_iff_mem.mp h2)
        rw [h3, Bool.and_assoc, h1]
        rfl
      · cases h
    · rename_i h1
      cases h
      have h1' : (px.line == p.line && !(scope.names.any fun (n, k) => n == x && (k == .local || k == .cell))) = false := by
        cases q : (px.line == p.line && !(scope.names.any fun (n, k) => n == x && (k == .local || k == .cell))) with
        | true => exact absurd q h1
        | false => rfl
      rw [Bool.and_assoc, h1', Bool.and_false]
  | SetComp _ _ _ _ => simp [swapsB] at h
  | DictComp _ _ _ _ _ => simp [swapsB] at h
  | _ =>
    simp only [swapsB, Option.some.injEq] at h
    subst h
    rfl
theorem swaps_tup {es : List Expr} {k : Nat} {p : Pos} {v : Expr} {l : Nat} {env : Env} : swapsWith v (some (.Tuple es k p)) l env = pure false := by
  cases v <;> rfl
theorem stores_no {ts : List Expr} {k : Nat} {p : Pos} {v : Expr} {env : Env} (h : noTup v = true) : swappedStores [.Tuple ts k p] v env = pure none := by
  cases v <;> first | rfl | simp [noTup] at h
theorem stores_const {ts vs : List Expr} {k k2 : Nat} {p p2 : Pos} {env : Env} (hs : vs.all noStar = true) (h : (!(ts.length == 2 || ts.length == 3) || vs.length != ts.length || vs.all (foldedForSure 8)) = true) :
    swappedStores [.Tuple ts k p] (.Tuple vs k2 p2) env = pure none := by
  unfold swappedStores
  simp only [pure_bind]
  by_cases h1 : (!(ts.length == 2 || ts.length == 3) || vs.length != ts.length || env.blockKind != .function) = true
  · rw [if_pos h1]
  · rw [if_neg h1]
    simp only [Bool.or_eq_true, not_or] at h1
    have h2 : vs.all (foldedForSure 8) = true := by
      simp only [Bool.or_eq_true] at h
      rcases h with (h | h) | h
      · exact absurd h h1.1.1
      · exact absurd h h1.1.2
      · exact h
    split
    · rfl
    · split
      · rfl
      · first | rfl | rw [if_pos h2]
theorem kind_lcl {x : Str} (xo : XOk P G S Γ X W) (h : Γ.lcl.contains x = true) : X.env.kindOf x = some .local := xo.lcl x (List.contains_iff_mem.mp h)
theorem stores2 {x y : Str} {u v : Expr} {px py p p2 : Pos} {k k2 : Nat} (xo : XOk P G S Γ X W) (hx : Γ.lcl.contains x = true) (hy : Γ.lcl.contains y = true) (hxy : x ≠ y) (hl : (py.line == px.line) = true) (hu : noStar u = true) (hv : noStar v = true)
    (h1 : [u, v].all (foldedForSure 8) = false) (h2 : [u, v].all (constantsAlone 8) = false) :
    swappedStores [.Tuple [.Name x px, .Name y py] k p] (.Tuple [u, v] k2 p2) X.env = pure (some [x, y]) := by
  have e1 : (List.filterMap (fun (e : Expr) => match e with
      | .Name id pos => if X.env.kindOf id == some .local && pos.line == (([Expr.Name x px, Expr.Name y py].head?.map (·.pos.line)).getD 0) then some id else none
      | _ => none) [Expr.Name x px, Expr.Name y py]) = [x, y] := by
    have hl' : py.line = px.line := eq_of_beq hl
    have a1 : (px.line == ((some (Expr.Name x px).pos.line).getD 0)) = true := by show (px.line == px.line) = true; exact beq_self_eq_true _
    have a2 : (py.line == ((some (Expr.Name x px).pos.line).getD 0)) = true := by show (py.line == px.line) = true; exact hl
    simp only [List.filterMap_cons, List.filterMap_nil, List.head?_cons, Option.map_some, kind_lcl xo hx, kind_lcl xo hy, beq_self_eq_true, Bool.true_and, a1, a2, if_true]
  unfold swappedStores
  simp only [pure_bind]
  rw [if_neg (by simp [blockKind_fn xo.kind])]
  rw [if_neg (by
    intro h
    simp only [List.any_cons, List.any_nil, Bool.or_false, Bool.or_eq_true] at h
    rcases h with h | h
    · split at h
      · simp [noStar] at hu
      · cases h
    · split at h
      · simp [noStar] at hv
      · cases h)]
  erw [e1]
  rw [if_neg (by
    have : [x, y].eraseDups = [x, y] := by
      have : (y == x) = false := beq_eq_false_iff_ne.mpr (Ne.symm hxy)
      simp [List.eraseDups_cons, this]
    rw [this]; simp)]
  rw [if_neg (by rw [h1]; simp), if_neg (by rw [h2]; simp)]
theorem stores3 {x y z : Str} {u v w : Expr} {px py pz p p2 : Pos} {k k2 : Nat} (xo : XOk P G S Γ X W) (hx : Γ.lcl.contains x = true) (hy : Γ.lcl.contains y = true) (hz : Γ.lcl.contains z = true) (hxy : x ≠ y) (hxz : x ≠ z) (hyz : y ≠ z)
    (hl : (py.line == px.line) = true) (hl2 : (pz.line == px.line) = true) (hu : noStar u = true) (hv : noStar v = true) (hw : noStar w = true)
    (h1 : [u, v, w].all (foldedForSure 8) = false) (h2 : [u, v, w].all (constantsAlone 8) = false) :
    swappedStores [.Tuple [.Name x px, .Name y py, .Name z pz] k p] (.Tuple [u, v, w] k2 p2) X.env = pure (some [x, y, z]) := by
  have e1 : (List.filterMap (fun (e : Expr) => match e with
      | .Name id pos => if X.env.kindOf id == some .local && pos.line == (([Expr.Name x px, Expr.Name y py, Expr.Name z pz].head?.map (·.pos.line)).getD 0) then some id else none
      | _ => none) [Expr.Name x px, Expr.Name y py, Expr.Name z pz]) = [x, y, z] := by
    have a1 : (px.line == ((some (Expr.Name x px).pos.line).getD 0)) = true := by show (px.line == px.line) = true; exact beq_self_eq_true _
    have a2 : (py.line == ((some (Expr.Name x px).pos.line).getD 0)) = true := by show (py.line == px.line) = true; exact hl
    have a3 : (pz.line == ((some (Expr.Name x px).pos.line).getD 0)) = true := by show (pz.line == px.line) = true; exact hl2
    simp only [List.filterMap_cons, List.filterMap_nil, List.head?_cons, Option.map_some, kind_lcl xo hx, kind_lcl xo hy, kind_lcl xo hz, beq_self_eq_true, Bool.true_and, a1, a2, a3, if_true]
  unfold swappedStores
  simp only [pure_bind]
  rw [if_neg (by simp [blockKind_fn xo.kind])]
  rw [if_neg (by
    intro h
    simp only [List.any_cons, List.any_nil, Bool.or_false, Bool.or_eq_true] at h
    rcases h with h | h | h
    · split at h
      · simp [noStar] at hu
      · cases h
    · split at h
      · simp [noStar] at hv
      · cases h
    · split at h
      · simp [noStar] at hw
      · cases h)]
  erw [e1]
  rw [if_neg (by
    have : [x, y, z].eraseDups = [x, y, z] := by
      have h1 : (y == x) = false := beq_eq_false_iff_ne.mpr (Ne.symm hxy)
      have h2 : (z == x) = false := beq_eq_false_iff_ne.mpr (Ne.symm hxz)
      have h3 : (z == y) = false := beq_eq_false_iff_ne.mpr (Ne.symm hyz)
      simp [List.eraseDups_cons, h1, h2, h3]
    rw [this]; simp)]
  rw [if_neg (by rw [h1]; simp), if_neg (by rw [h2]; simp)]
end
end PY

set_option Elab.async false
set_option linter.all false
set_option maxRecDepth 100000
set_option maxHeartbeats 8000000
/-! PY, part q: statements: chk is sound. -/
namespace PY
open PySem PySem.Spec PyProof.Rows L2
section
variable {P : PCtx} {G : Gd} {S : Sg} {Γ : Cxt} {X : Cx} {W : WX}
/-- t = e -/
theorem sn_asg (x : XOk P G S Γ X W) {t : Tg} {e : Ex} {tg v : Expr} {pos : Pos} {te : TE} (hp : PS X (.Assign [tg] v pos) (tAsg te (RG G t))) (hte : ∀ σ H Q, RE G W (fun E => wpE S E e) σ H Q → te σ H Q) :
    PS X (.Assign [tg] v pos) (RS G W fun E => wpS S E (.asg t e)) := by
  refine ps_imp hp fun D σ H ⟨Z, φ, ρ, μ, E, PD, a, w, k⟩ => ?_
  simp only [wpS] at w
  refine hte _ _ _ ⟨Z, φ, ρ, μ, E ρ, _, a.at, w, fun d μ1 w1 v' φ1 H1 r1 c1 g1 => ?_⟩
  obtain ⟨ρ', eb, q⟩ := opt_iff.mp w1
  exact ⟨Z, φ1, ρ, d, ρ', a.er.grow g1, r1, eb, fun σ' t' => k.nx ρ' μ1 q σ' φ1 H1 t'.er c1 g1⟩
theorem sn_setix (x : XOk P G S Γ X W) {o i e : Ex} {yo yi v : Expr} {p pos : Pos} (hn : noComp v = true) (ho : PE X yo (RE G W fun E => wpE S E o)) (hi : PE X yi (RE G W fun E => wpE S E i)) (he : PE X v (RE G W fun E => wpE S E e)) (hsl : noSlice yi = true) :
    PS X (.Assign [.Subscript yo yi p] v pos) (RS G W fun E => wpS S E (.setix o i e)) := by
  have hu := x.hu
  have ha : ∀ v, assign (.Subscript yo yi p) X.env v = (do
      let ov ← holding [v] (eval yo X.env)
      let iv ← holding [v, ov] (eval yi X.env)
      standAt p
      holding [v, ov, iv] (setItem ov iv v)
      release [v, ov, iv] []) := by
    intro v
    cases yi <;> first | rfl | simp [noSlice] at hsl
  refine ps_imp (ps_asg he (pg_sub ho hi (s_setix (G := G) (by omega)) ha) (by unfold swapsWithSole; exact swaps_no hn) (by cases v <;> rfl) rfl) fun D σ H ⟨Z, φ, ρ, μ, E, PD, a, w, k⟩ => ?_
  simp only [wpS] at w
  refine ⟨Z, φ, ρ, μ, E ρ, _, a.at, w, fun dv μ1 w1 v1 φ1 H1 r1 c1 g1 => ?_⟩
  refine ⟨Z, φ1, ρ, μ1, E ρ, _, a.at.step c1 g1, w1, fun dx μ2 w2 v2 φ2 H2 r2 c2 g2 => ?_⟩
  refine ⟨Z, φ2, ρ, μ2, E ρ, _, a.at.step c2 (g1.trans g2), w2, fun dk μ3 w3 v3 φ3 H3 r3 c3 g3 => ?_⟩
  obtain ⟨⟨d, μ'⟩, e, q⟩ := opt_iff.mp w3
  exact ⟨Z, φ3, μ3, dx, dk, dv, d, μ', c3, r2.grow g3, r3, r1.grow (g2.trans g3), e, fun φ' H' c g => k.nx ρ μ' q σ φ' H' (a.er.grow (g1.trans (g2.trans (g3.trans g)))) c (g1.trans (g2.trans (g3.trans g)))⟩
theorem sn_raise (x : XOk P G S Γ X W) (hdp : Γ.deep = false) {c : Nat} {es : Exs} {n : Str} {y : Expr} {as : List Expr} {p pos pos' : Pos} {e : ExcE} (he : e ∈ P.exc) (hc : e.c = c) (hn : e.name = n) (hl : e.n = exsLen es) (hz : exsLen es ≤ 1000) (hg : n ∈ Γ.gl) (hsp : noSpec n = true)
    (h : PEs G S X W es (y :: as)) (hs : (y :: as).all noStar = true) : PS X (.Raise (some (.Call (.Name n p) (y :: as) [] pos)) none pos') (RS G W fun E => wpS S E (.raise c es)) := by
  obtain ⟨f, fd, ps, k, h1, T, iC, tI, F1, hr, hb, hlen⟩ := (x.exc hdp e he).ex
  subst hc hn
  have hs' := hs
  simp only [List.all_cons, Bool.and_eq_true] at hs
  refine ps_imp (ps_raise x.calm x.tk (pmk_oex (dvs := []) (ds := []) T iC tI F1 hr hb .nil (fun _ _ _ _ _ _ _ z => z.elim) (x.gl _ hg) h1 (h.pa x hs') (noSpec_and hsp).1 (star_cons hs.1) (star_plain hs.2))) fun D σ H ⟨Z, φ, ρ, μ, E, PD, a, w, kk⟩ => ?_
  simp only [wpS] at w
  refine ⟨Z, φ, ρ, μ, E ρ, _, a.at, w, fun ds μ1 w1 vs φ1 H1 r1 c1 g1 => ?_⟩
  obtain ⟨wl, we⟩ := w1
  have vl : vs.length = (G.cF e.c).length := by rw [r1.length, wl, hlen, hl]
  refine ⟨by rw [r1.length, wl]; exact hz, fun ad nd => ⟨ad, vs ++ [], rfl, by rw [List.append_nil]; exact vl, upd_same, fun d H' nd' hda e1 e2 e3 => ⟨rfl, d, _, e1, e2, ?_, ?_⟩⟩⟩
  · rw [upd_ne hda] at nd'; exact nd'
  · have nd2 : H1 d = none := by rw [upd_ne hda] at nd'; exact nd'
    have eq : upd (del H' ad) d (.xd ((G.cF e.c).zip (vs ++ [])).reverse) = upd H1 d (.xd ((G.cF e.c).zip vs).reverse) := by
      funext b
      rw [List.append_nil]
      by_cases hb : b = d
      · rw [hb, upd_same, upd_same]
      · rw [upd_ne hb, upd_ne hb]
        by_cases ha : b = ad
        · rw [ha, del_same, nd]
        · rw [del_ne ha, e3 b ha hb, upd_ne ha]
    rw [eq]
    have g2 := g1.trans (Grow.upd (o := .xd ((G.cF e.c).zip vs).reverse) nd2)
    exact a.lk ρ ⟨e.c, ds⟩ μ1 we σ _ _ φ1 _ (a.er.grow g2) ⟨rfl, d, vs, rfl, upd_same, vl.symm, r1.grow (Grow.upd nd2)⟩ (c1.upd nd2) g2
theorem sn_par (x : XOk P G S Γ X W) {i j : Nat} {e1 e2 : Ex} {n1 n2 : Str} {u v : Expr} {px py pt pt2 pos : Pos} {kt k2 : Nat} (hi : Γ.N[i]? = some n1) (hj : Γ.N[j]? = some n2) (hij : i ≠ j) (hne : n1 ≠ n2) (hx : Γ.lcl.contains n1 = true) (hy : Γ.lcl.contains n2 = true)
    (hl : (py.line == px.line) = true) (h1 : [u, v].all (foldedForSure 8) = false) (h2 : [u, v].all (constantsAlone 8) = false) (hu : noStar u = true) (hv : noStar v = true) (ha : PE X u (RE G W fun E => wpE S E e1)) (hb : PE X v (RE G W fun E => wpE S E e2)) :
    PS X (.Assign [.Tuple [.Name n1 px, .Name n2 py] kt pt] (.Tuple [u, v] k2 pt2) pos) (RS G W fun E => wpS S E (.par i j e1 e2)) := by
  refine ps_imp (ps_par x.calm x.nd (by rw [x.N]; exact hi) (by rw [x.N]; exact hj) hij (kind_lcl x hx) (kind_lcl x hy) (pa_cons ha (pa_cons hb pa_nil (star_cons hv)) (star_cons hu)) (stores2 x hx hy hne hl hu hv h1 h2) (by unfold swapsWithSole; exact swaps_tup)) fun D σ H ⟨Z, φ, ρ, μ, E, PD, a, w, k⟩ => ?_
  simp only [wpS] at w
  refine ⟨Z, φ, ρ, μ, E ρ, _, a.at, w, fun d1 μ1 w1 v1 φ1 H1 r1 c1 g1 => ?_⟩
  refine ⟨Z, φ1, ρ, μ1, E ρ, _, a.at.step c1 g1, w1, fun d2 μ2 w2 v2 φ2 H2 r2 c2 g2 => ?_⟩
  exact ⟨v1, v2, rfl, k.nx _ μ2 w2 _ φ2 H2 (((a.er.grow (g1.trans g2)).set (r1.grow g2) i).set r2 j) c2 (g1.trans g2)⟩
theorem sn_par3 (x : XOk P G S Γ X W) {i j l : Nat} {e1 e2 e3 : Ex} {n1 n2 n3 : Str} {u v w : Expr} {px py pz pt pt2 pos : Pos} {kt k2 : Nat} (hi : Γ.N[i]? = some n1) (hj : Γ.N[j]? = some n2) (hk : Γ.N[l]? = some n3) (hij : i ≠ j) (hil : i ≠ l) (hjl : j ≠ l) (hxy : n1 ≠ n2) (hxz : n1 ≠ n3) (hyz : n2 ≠ n3)
    (hx : Γ.lcl.contains n1 = true) (hy : Γ.lcl.contains n2 = true) (hz : Γ.lcl.contains n3 = true)
    (hl : (py.line == px.line) = true) (hl2 : (pz.line == px.line) = true) (h1 : [u, v, w].all (foldedForSure 8) = false) (h2 : [u, v, w].all (constantsAlone 8) = false) (hu : noStar u = true) (hv : noStar v = true) (hw : noStar w = true)
    (ha : PE X u (RE G W fun E => wpE S E e1)) (hb : PE X v (RE G W fun E => wpE S E e2)) (hc : PE X w (RE G W fun E => wpE S E e3)) :
    PS X (.Assign [.Tuple [.Name n1 px, .Name n2 py, .Name n3 pz] kt pt] (.Tuple [u, v, w] k2 pt2) pos) (RS G W fun E => wpS S E (.par3 i j l e1 e2 e3)) := by
  refine ps_imp (ps_par3 x.calm x.nd (by rw [x.N]; exact hi) (by rw [x.N]; exact hj) (by rw [x.N]; exact hk) hij hil hjl (kind_lcl x hx) (kind_lcl x hy) (kind_lcl x hz) (pa_cons ha (pa_cons hb (pa_cons hc pa_nil (star_cons hw)) (star_cons hv)) (star_cons hu)) (stores3 x hx hy hz hxy hxz hyz hl hl2 hu hv hw h1 h2) (by unfold swapsWithSole; exact swaps_tup))
    fun D σ H ⟨Z, φ, ρ, μ, E, PD, a, ww, k⟩ => ?_
  simp only [wpS] at ww
  refine ⟨Z, φ, ρ, μ, E ρ, _, a.at, ww, fun d1 μ1 w1 v1 φ1 H1 r1 c1 g1 => ?_⟩
  refine ⟨Z, φ1, ρ, μ1, E ρ, _, a.at.step c1 g1, w1, fun d2 μ2 w2 v2 φ2 H2 r2 c2 g2 => ?_⟩
  refine ⟨Z, φ2, ρ, μ2, E ρ, _, a.at.step c2 (g1.trans g2), w2, fun d3 μ3 w3 v3 φ3 H3 r3 c3 g3 => ?_⟩
  exact ⟨v1, v2, v3, rfl, k.nx _ μ3 w3 _ φ3 H3 ((((a.er.grow (g1.trans (g2.trans g3))).set (r1.grow (g2.trans g3)) i).set (r2.grow g3) j).set r3 l) c3 (g1.trans (g2.trans g3))⟩
def tiD (G : Gd) : TIp := fun x y H Q => ∃ Z φ μ dx dy d, CRel G Z φ H μ ∧ Rep G Z φ H x dx ∧ Rep G Z φ H y dy ∧ augD dx dy = some d ∧ Done G Z φ H d μ Q
theorem ip_D : PIp X .Add (tiD G) := by
  intro pins s σ H x y v u Q I rx ry h
  obtain ⟨Z, φ, μ, dx, dy, d, c, r1, r2, e, q⟩ := h
  cases dx with
  | int i =>
    cases dy with
    | int j =>
      simp only [augD, Option.some.injEq] at e
      subst e
      rw [r1.of_int] at rx
      rw [r2.of_int] at ry
      exact iop_add pins s σ H _ _ v u Q I rx ry ⟨i, j, rfl, rfl, q.now c (.int _)⟩
    | _ => simp [augD] at e
  | str a =>
    cases dy with
    | str b =>
      simp only [augD, Option.ite_none_right_eq_some, Option.some.injEq] at e
      obtain ⟨hz, rfl⟩ := e
      rw [r1.of_str] at rx
      rw [r2.of_str] at ry
      refine iop_add_str pins s σ H _ _ v u Q I rx ry ⟨_, _, rfl, rfl, by rw [ofString_length, ofString_length, ← sz_eq]; exact hz, ?_⟩
      rw [ofString_append]
      exact q.now c (.str _)
    | _ => simp [augD] at e
  | _ => simp [augD] at e
theorem sn_aug (x : XOk P G S Γ X W) {i : Nat} {e : Ex} {n : Str} {v : Expr} {p pos : Pos} (hi : Γ.N[i]? = some n) (hl : Γ.loc.contains n = true) (he : PE X v (RE G W fun E => wpE S E e)) :
    PS X (.AugAssign (.Name n p) .Add v pos) (RS G W fun E => wpS S E (.aug i e)) := by
  obtain ⟨h1, h2⟩ := x.loc n (List.contains_iff_mem.mp hl)
  refine ps_imp (ps_aug x.nd (by rw [x.N]; exact hi) h1 he (ip_D (G := G)) h2) fun D σ H ⟨Z, φ, ρ, μ, E, PD, a, w, k⟩ => ?_
  simp only [wpS] at w
  cases z : ρ[i]? with
  | none => rw [z] at w; exact w.elim
  | some o =>
    cases o with
    | none => rw [z] at w; exact w.elim
    | some dx =>
      rw [z] at w
      obtain ⟨vx, e1, rx⟩ := a.er.at_ i dx z
      refine ⟨vx, e1, Z, φ, ρ, μ, E ρ, _, a.at, w, fun dy μ1 w1 v1 φ1 H1 r1 c1 g1 => ?_⟩
      obtain ⟨d, e2, q⟩ := opt_iff.mp w1
      exact ⟨Z, φ1, μ1, dx, dy, d, c1, rx.grow g1, r1, e2, fun v' φ' H' r c g => k.nx _ μ1 q _ φ' H' ((a.er.grow (g1.trans g)).set r i) c (g1.trans g)⟩
theorem sn_if {c : Ex} {p q : Sts} {y : Expr} {a b : List Stmt} {pos : Pos} (hc : PT X y (RT G W fun E => wpT S E c)) (ha : PSs X a (RS G W fun E => wpSs S E p)) (hb : PSs X b (RS G W fun E => wpSs S E q)) :
    PS X (.If y a b pos) (RS G W fun E => wpS S E (.ite c p q)) := by
  refine ps_imp (ps_if hc ha hb) fun D σ H ⟨Z, φ, ρ, μ, E, PD, at_, w, k⟩ => ?_
  simp only [wpS] at w
  refine ⟨Z, φ, ρ, μ, E ρ, _, at_.at, w, fun t μ1 w1 φ1 H1 c1 g1 => ?_⟩
  cases t with
  | true =>
    rw [if_pos rfl] at w1 ⊢
    exact ⟨Z, φ1, ρ, μ1, E, PD, at_.move (at_.er.grow g1) c1 g1, w1, k.move g1⟩
  | false =>
    rw [if_neg (by simp)] at w1 ⊢
    exact ⟨Z, φ1, ρ, μ1, E, PD, at_.move (at_.er.grow g1) c1 g1, w1, k.move g1⟩
theorem sn_while (x : XOk P G S Γ X W) {c : Ex} {p : Sts} {y : Expr} {b : List Stmt} {pos : Pos} (hc : PT X y (RT G W fun E => wpT S E c)) (hb : PSs X b (RS G W fun E => wpSs S E p)) :
    PS X (.While y b [] pos) (RS G W fun E => wpS S E (.whl c p)) := by
  refine ps_imp (ps_while x.pass hc hb) fun D σ H ⟨Z, φ, ρ, μ, E, PD, at_, w, k⟩ => ?_
  simp only [wpS] at w
  obtain ⟨n, w⟩ := w
  refine ⟨fun m σ1 H1 => ∃ φ1 ρ1 μ1, ERel G Z φ1 H1 σ1 ρ1 ∧ CRel G Z φ1 H1 μ1 ∧ Grow φ H φ1 H1 ∧ whileN (fun ρ μ Q => wpT S (E ρ) c ρ μ Q) (fun ρ μ N => wpSs S E p ρ μ { nx := N, rt := PD.rt, bk := PD.nx, ct := N }) PD.nx m ρ1 μ1, ⟨n, φ, ρ, μ, at_.er, at_.cr, Grow.refl _ _, w⟩, ?_⟩
  rintro m σ1 H1 ⟨φ1, ρ1, μ1, er, cr, g, w1⟩
  cases m with
  | zero => exact w1.elim
  | succ m =>
    have a1 := at_.move er cr g
    unfold whileN at w1
    refine ⟨Z, φ1, ρ1, μ1, E ρ1, _, a1.at, w1, fun t μ2 w2 φ2 H2 c2 g2 => ?_⟩
    cases t with
    | true =>
      rw [if_pos rfl] at w2 ⊢
      refine ⟨fun σ' H' => ∃ φ1 ρ1 μ1, ERel G Z φ1 H' σ' ρ1 ∧ CRel G Z φ1 H' μ1 ∧ Grow φ H φ1 H' ∧ whileN (fun ρ μ Q => wpT S (E ρ) c ρ μ Q) (fun ρ μ N => wpSs S E p ρ μ { nx := N, rt := PD.rt, bk := PD.nx, ct := N }) PD.nx m ρ1 μ1, fun σ' H' q => ⟨m, Nat.lt_succ_self m, q⟩, ?_⟩
      refine ⟨Z, φ2, ρ1, μ2, E, _, a1.move (er.grow g2) c2 g2, w2, ?_⟩
      exact ⟨fun ρ' μ' q σ' φ' H' er' c' g' => ⟨φ', ρ', μ', er', c', g.trans (g2.trans g'), q⟩, (k.move (g.trans g2)).rt, (k.move (g.trans g2)).nx, fun ρ' μ' q σ' φ' H' er' c' g' => ⟨φ', ρ', μ', er', c', g.trans (g2.trans g'), q⟩⟩
    | false =>
      rw [if_neg (by simp)] at w2 ⊢
      exact k.nx _ μ2 w2 σ1 φ2 H2 (er.grow g2) c2 (g.trans g2)
theorem sn_for (x : XOk P G S Γ X W) {t : Tg} {it : Itx} {p : Sts} {tg y : Expr} {b : List Stmt} {pos : Pos} (hi : PI X tg y (RI G W fun E => wpI S E it)) (hg : PG X tg (RG G t)) (hb : PSs X b (RS G W fun E => wpSs S E p)) (hs : noSet y = true) :
    PS X (.For tg y b [] pos) (RS G W fun E => wpS S E (.forr t it p)) := by
  refine ps_imp (ps_for x.pass x.calm hi hg hb (fold_of hs)) fun D σ H ⟨Z, φ, ρ, μ, E, PD, at_, w, k⟩ => ?_
  simp only [wpS] at w
  refine ⟨Z, φ, ρ, μ, E ρ, _, at_.at, w, fun pl μ0 w0 J φ0 H0 itk c0 g0 => ?_⟩
  refine ⟨fun i m σ1 H1 => m = pl.items.length - i ∧ i ≤ pl.items.length ∧ ∃ φ1 ρ1 μ1, ERel G Z φ1 H1 σ1 ρ1 ∧ CRel G Z φ1 H1 μ1 ∧ Grow φ0 H0 φ1 H1 ∧ forN t pl.guard (fun ρ μ N => wpSs S E p ρ μ { nx := N, rt := PD.rt, bk := PD.nx, ct := N }) PD.nx (pl.items.drop i) ρ1 μ1,
    ⟨_, rfl, Nat.zero_le _, φ0, ρ, μ0, at_.er.grow g0, c0, Grow.refl _ _, by rw [List.drop_zero]; exact w0⟩, ?_⟩
  rintro i m σ1 H1 ⟨rfl, hi, φ1, ρ1, μ1, er, cr, g, w1⟩
  by_cases hlt : i < pl.items.length
  · right
    rw [List.drop_eq_getElem_cons hlt] at w1
    obtain ⟨gd, w1⟩ := w1
    obtain ⟨ρ', eb, w1⟩ := opt_iff.mp w1
    refine ⟨itk.go Z φ1 H1 μ1 ZUp.refl g cr gd i hlt, fun σ' H' => i + 1 ≤ pl.items.length ∧ ∃ φ1 ρ1 μ1, ERel G Z φ1 H' σ' ρ1 ∧ CRel G Z φ1 H' μ1 ∧ Grow φ0 H0 φ1 H' ∧ forN t pl.guard (fun ρ μ N => wpSs S E p ρ μ { nx := N, rt := PD.rt, bk := PD.nx, ct := N }) PD.nx (pl.items.drop (i + 1)) ρ1 μ1,
      fun σ' H' q => ⟨pl.items.length - (i + 1), by omega, rfl, q.1, q.2⟩, fun xv H2 y => ?_⟩
    obtain ⟨d, ed, rd, c2, g2⟩ := itk.yld Z φ1 H1 μ1 ZUp.refl g cr gd i xv H2 hlt y
    have e2 : d = pl.items[i] := by rw [List.getElem?_eq_getElem hlt] at ed; exact (Option.some.inj ed).symm
    subst e2
    refine ⟨Z, φ1, ρ1, _, ρ', er.grow g2, rd, eb, fun σ2 t2 => ?_⟩
    have gt := g0.trans (g.trans g2)
    refine ⟨Z, φ1, ρ', μ1, E, _, at_.move t2.er c2 gt, w1, ?_⟩
    exact ⟨fun ρ' μ' q σ' φ' H' er' c' g' => ⟨by omega, φ', ρ', μ', er', c', g.trans (g2.trans g'), q⟩, (k.move gt).rt, (k.move gt).nx, fun ρ' μ' q σ' φ' H' er' c' g' => ⟨by omega, φ', ρ', μ', er', c', g.trans (g2.trans g'), q⟩⟩
  · left
    have e : i = pl.items.length := by omega
    subst e
    rw [List.drop_length] at w1
    obtain ⟨gd, w1⟩ := w1
    exact ⟨itk.stop Z φ1 H1 μ1 ZUp.refl g cr gd, k.nx _ μ1 w1 σ1 φ1 H1 er cr (g0.trans g)⟩

theorem sn_asgX (x : XOk P G S Γ X W) {t : Tg} {e : Ex} {tg v : Expr} {pos : Pos} (ht : chkTg Γ t tg = true) (he : chkE P Γ e v = true) (h : asgOk Γ tg v = true) : PS X (.Assign [tg] v pos) (RS G W fun E => wpS S E (.asg t e)) := by
  obtain ⟨hg, _⟩ := tg_ok x ht
  obtain ⟨hpe, _⟩ := sndE e x he
  cases tg with
  | Name n px =>
    obtain ⟨b, hb⟩ := Option.isSome_iff_exists.mp (show (swapsB Γ n px v).isSome = true from h)
    have hsw : swapsWith v (some (.Name n px)) pos.line X.env = pure b := swaps_name x hb
    cases t with
    | tup _ => simp [chkTg] at ht
    | name i =>
      unfold chkTg at ht
      simp only [Bool.and_eq_true, decide_eq_true_eq, List.contains_iff_mem] at ht
      obtain ⟨h1, h2⟩ := x.loc n ht.2
      have conv : ∀ {te : TE} D σ H, tAsg te (RG G (.name i)) D σ H → te σ H (fun v H1 => RG G (.name i) v σ H1 D.nx) := fun D σ H q => q
      cases b with
      | false =>
        refine sn_asg x (te := RE G W fun E => wpE S E e) ?_ fun σ H Q q => q
        refine ps_imp (ps_asg hpe hg (by unfold swapsWithSole; exact hsw) (by cases v <;> rfl) rfl) fun D σ H q => q
      | true =>
        cases v with
        | ListComp elt' gens scope cp =>
          cases e with
          | prim f es =>
            unfold chkE at he
            cases q : argsOf P Γ f (.ListComp elt' gens scope cp) with
            | none => rw [q] at he; cases he
            | some xs => cases f <;> simp only [argsOf] at q <;> cases q
          | comp m elt tg it cond own =>
            unfold chkE at he
            split at he
            case h_2 => cases he
            rename_i y0 elt1 tg' iter ifs scope1 p1 heq
            cases heq
            simp only [Bool.and_eq_true, List.all_eq_true, List.contains_iff_mem] at he
            obtain ⟨⟨⟨⟨⟨⟨h3, h4⟩, h5⟩, h6⟩, h7⟩, h8⟩, h9⟩ := he
            obtain ⟨ow, e, ok⟩ := ownOk_blk h5 x
            subst e
            have hlcl : X.env.scope.names.lookup n = some .local := by
              simp only [swapsB] at hb
              split at hb
              · split at hb
                · rename_i h2
                  exact x.lcl n (List.contains_iff_mem.mp h2)
                · cases hb
              · cases hb
            refine ps_imp (ps_setLc x.calm x.nd (i := i) (by rw [x.N]; exact ht.1) hlcl hsw (sndI it x h3) ok (fun s H C cl fp => (tg_ok (x.blk h5 s H C cl fp) h6).1) (fun s H C cl fp => sndC cond (x.blk h5 s H C cl fp) h8) (fun s H C cl fp => (sndE elt (x.blk h5 s H C cl fp) h9).1) (fold_of h4))
              fun D σ H ⟨Z, φ, ρ, μ, E, PD, a, w, k⟩ => ?_
            simp only [wpS] at w
            refine tlc_of h7 ⟨Z, φ, ρ, μ, E ρ, _, a.at, w, fun d μ1 w1 v' φ1 H1 r1 c1 g1 => ?_⟩
            simp only [bindT, opt_some] at w1
            exact k.nx _ μ1 w1 _ φ1 H1 ((a.er.grow g1).set r1 i) c1 g1
          | _ => unfold chkE at he; simp at he
        | SetComp _ _ _ _ => simp [swapsB] at hb
        | DictComp _ _ _ _ _ => simp [swapsB] at hb
        | _ => simp [swapsB] at hb
  | Tuple ts k p =>
    refine sn_asg x (te := RE G W fun E => wpE S E e) ?_ fun σ H Q q => q
    refine ps_asg hpe hg (by unfold swapsWithSole; exact swaps_tup) ?_ rfl
    cases v with
    | Tuple vs k2 p2 =>
      refine stores_const ?_ h
      cases e with
      | prim f es =>
        unfold chkE at he
        cases q : argsOf P Γ f (.Tuple vs k2 p2) with
        | none => rw [q] at he; cases he
        | some xs =>
          rw [q] at he
          cases f <;> simp only [argsOf] at q <;> first | (cases q; exact (chks_fit he).1) | cases q
      | _ => unfold chkE at he; simp at he
    | _ => rfl
  | _ => cases h
mutual
theorem sndS : ∀ (s : St) {y : Stmt}, XOk P G S Γ X W → chkS P Γ s y = true → PS X y (RS G W fun E => wpS S E s)
  | .asg t e, y, x, h => by
    unfold chkS at h
    split at h
    case h_2 => cases h
    simp only [Bool.and_eq_true] at h
    exact sn_asgX x h.1.1 h.1.2 h.2
  | .par i j a b, y, x, h => by
    unfold chkS at h
    split at h
    case h_2 => cases h
    simp only [Bool.and_eq_true, decide_eq_true_eq, Bool.not_eq_true'] at h
    obtain ⟨⟨⟨⟨⟨⟨⟨⟨⟨⟨h1, h2⟩, h3⟩, h4⟩, h5⟩, h6⟩, h7⟩, h8⟩, h9⟩, ha⟩, hb⟩ := h
    exact sn_par x h1 h2 h3 h4 h5 h6 h7 h8 h9 (chk_fit ha).1 (chk_fit hb).1 (sndE a x ha).1 (sndE b x hb).1
  | .par3 i j k a b c, y, x, h => by
    unfold chkS at h
    split at h
    case h_2 => cases h
    simp only [Bool.and_eq_true, decide_eq_true_eq, Bool.not_eq_true'] at h
    obtain ⟨⟨⟨⟨⟨⟨⟨⟨⟨⟨⟨⟨⟨⟨⟨⟨⟨⟨h1, h2⟩, h3⟩, h4⟩, h5⟩, h6⟩, h7⟩, h8⟩, h9⟩, h10⟩, h11⟩, h12⟩, h13⟩, h14⟩, h15⟩, h16⟩, ha⟩, hb⟩, hc⟩ := h
    exact sn_par3 x h1 h2 h3 h4 h5 h6 h7 h8 h9 h10 h11 h12 h13 h14 h15 h16 (chk_fit ha).1 (chk_fit hb).1 (chk_fit hc).1 (sndE a x ha).1 (sndE b x hb).1 (sndE c x hc).1
  | .setix o i e, y, x, h => by
    unfold chkS at h
    split at h
    case h_2 => cases h
    simp only [Bool.and_eq_true] at h
    obtain ⟨⟨⟨h1, h2⟩, h3⟩, h4⟩ := h
    exact sn_setix x h1 (sndE o x h2).1 (sndE i x h3).1 (sndE e x h4).1 (chk_fit h3).2
  | .aug i e, y, x, h => by
    unfold chkS at h
    split at h
    case h_2 => cases h
    simp only [Bool.and_eq_true, decide_eq_true_eq] at h
    obtain ⟨⟨⟨h1, h2⟩, h3⟩, h4⟩ := h
    obtain rfl := of_decide_eq_true h1
    exact sn_aug x h2 h3 (sndE e x h4).1
  | .expr e, y, x, h => by
    unfold chkS at h
    split at h
    case h_2 => cases h
    simp only [Bool.and_eq_true] at h
    refine ps_imp (ps_expr (sndE e x h.2).1 (swaps_no h.1)) fun D σ H ⟨Z, φ, ρ, μ, E, PD, a, w, k⟩ => ?_
    simp only [wpS] at w
    exact ⟨Z, φ, ρ, μ, E ρ, _, a.at, w, fun d μ1 w1 v' φ1 H1 r1 c1 g1 => k.nx ρ μ1 w1 σ φ1 H1 (a.er.grow g1) c1 g1⟩
  | .ite c a b, y, x, h => by
    unfold chkS at h
    split at h
    case h_2 => cases h
    simp only [Bool.and_eq_true] at h
    exact sn_if (sndE c x h.1.1).2 (sndSs a x h.1.2) (sndSs b x h.2)
  | .whl c b, y, x, h => by
    unfold chkS at h
    split at h
    case h_2 => cases h
    simp only [Bool.and_eq_true] at h
    exact sn_while x (sndE c x h.1).2 (sndSs b x h.2)
  | .forr t it b, y, x, h => by
    unfold chkS at h
    split at h
    case h_2 => cases h
    simp only [Bool.and_eq_true] at h
    obtain ⟨⟨⟨h1, h2⟩, h3⟩, h4⟩ := h
    exact sn_for x (sndI it x h1) (tg_ok x h3).1 (sndSs b x h4) h2
  | .ret e, y, x, h => by
    unfold chkS at h
    split at h
    case h_2 => cases h
    refine ps_imp (ps_ret (sndE e x h).1) fun D σ H ⟨Z, φ, ρ, μ, E, PD, a, w, k⟩ => ?_
    simp only [wpS] at w
    exact ⟨Z, φ, ρ, μ, E ρ, _, a.at, w, fun d μ1 w1 v' φ1 H1 r1 c1 g1 => k.rt d μ1 w1 v' φ1 H1 r1 c1 g1⟩
  | .retN, y, x, h => by
    unfold chkS at h
    split at h
    case h_2 => cases h
    refine ps_imp ps_retN fun D σ H ⟨Z, φ, ρ, μ, E, PD, a, w, k⟩ => ?_
    simp only [wpS] at w
    exact k.rt _ μ w _ φ H .non a.cr (Grow.refl _ _)
  | .raise c es, y, x, h => by
    unfold chkS at h
    split at h
    case h_2 => cases h
    simp only [Bool.and_eq_true, List.any_eq_true, decide_eq_true_eq, Bool.not_eq_true'] at h
    obtain ⟨⟨⟨⟨⟨⟨e, he, ⟨h1, h2⟩, h3⟩, hdp⟩, h4⟩, h5⟩, h6⟩, h7⟩ := h
    obtain ⟨h8, h9⟩ := sndEs es x h7
    exact sn_raise x hdp he h1 h2 h3 h4 (List.contains_iff_mem.mp h5) h6 h8 (chks_fit h7).1
  | .pass, y, x, h => by
    unfold chkS at h
    split at h
    case h_2 => cases h
    refine ps_imp ps_pass fun D σ H ⟨Z, φ, ρ, μ, E, PD, a, w, k⟩ => ?_
    simp only [wpS] at w
    exact k.nx ρ μ w σ φ H a.er a.cr (Grow.refl _ _)
  | .brk, y, x, h => by
    unfold chkS at h
    split at h
    case h_2 => cases h
    refine ps_imp ps_break fun D σ H ⟨Z, φ, ρ, μ, E, PD, a, w, k⟩ => ?_
    simp only [wpS] at w
    exact k.bk ρ μ w σ φ H a.er a.cr (Grow.refl _ _)
  | .cnt, y, x, h => by
    unfold chkS at h
    split at h
    case h_2 => cases h
    refine ps_imp ps_continue fun D σ H ⟨Z, φ, ρ, μ, E, PD, a, w, k⟩ => ?_
    simp only [wpS] at w
    exact k.ct ρ μ w σ φ H a.er a.cr (Grow.refl _ _)
termination_by structural s => s
theorem sndSs : ∀ (s : Sts) {ys : List Stmt}, XOk P G S Γ X W → chkSs P Γ s ys = true → PSs X ys (RS G W fun E => wpSs S E s)
  | .nil, ys, x, h => by
    unfold chkSs at h
    cases ys with
    | cons _ _ => cases h
    | nil =>
      refine pss_imp pss_nil fun D σ H ⟨Z, φ, ρ, μ, E, PD, a, w, k⟩ => ?_
      simp only [wpSs] at w
      exact k.nx ρ μ w σ φ H a.er a.cr (Grow.refl _ _)
  | .cons s r, ys, x, h => by
    unfold chkSs at h
    cases ys with
    | nil => cases h
    | cons y ys =>
      simp only [Bool.and_eq_true] at h
      have h1 := sndS s x h.1
      have h2 := sndSs r x h.2
      refine pss_imp (pss_cons h1 h2) fun D σ H ⟨Z, φ, ρ, μ, E, PD, a, w, k⟩ => ?_
      refine ⟨Z, φ, ρ, μ, E, { PD with nx := fun ρ' μ' => wpSs S E r ρ' μ' PD }, a, ?_, fun ρ' μ' q σ' φ' H' er c g => ⟨Z, φ', ρ', μ', E, PD, a.move er c g, q, k.move g⟩, k.rt, k.bk, k.ct⟩
      cases r with
      | nil =>
        simp only [wpSs] at w ⊢
        exact w
      | cons s' r' =>
        simp only [wpSs] at w
        exact w
termination_by structural s => s
end
end
end PY

set_option Elab.async false
set_option linter.all false
set_option maxRecDepth 100000
set_option maxHeartbeats 8000000
/-! PY, part r: defs: a def's own new cells are shed at its end. -/
namespace PY
open PySem PySem.Spec PyProof.Rows L2

/-! ### what is below -/
section
variable {G : Gd} {Z φ : List Addr} {H : Hp}
mutual
theorem Rep.blw : ∀ {v : V} {d : D}, Rep G Z φ H v d → below φ.length d = true
  | _, _, .non => rfl
  | _, _, .bl _ => rfl
  | _, _, .int _ => rfl
  | _, _, .str _ => rfl
  | _, _, .tup _ r => Reps.blws r
  | _, _, .lst _ r => Reps.blws r
  | _, _, .ins _ _ r => Reps.blws r
  | _, _, .ref h => decide_eq_true (List.getElem?_eq_some_iff.mp h).1
  | _, _, .scr _ => rfl
theorem Reps.blws : ∀ {vs : List V} {ds : List D}, Reps G Z φ H vs ds → belows φ.length ds = true
  | _, _, .nil => rfl
  | _, _, .cons r s => by
    show (PY.below φ.length _ && PY.belows φ.length _) = true
    rw [Rep.blw r, Reps.blws s]; rfl
end
end
def belowC (n : Nat) : Cell → Bool
  | .lst xs => belows n xs
  | .dct _ kvs => belows n (kvs.map (·.2))
  | .ins _ xs => belows n xs
  | .tbl _ => true
def wfS (μ : Store) : Prop := ∀ (i : Nat) c, μ[i]? = some c → belowC μ.length c = true
theorem KVRep.belows {G : Gd} {Z φ : List Addr} {H : Hp} : ∀ {kvs : List (Key × V)} {ds : List (D × D)}, KVRep G Z φ H kvs ds → belows φ.length (ds.map (·.2)) = true
  | _, _, .nil => rfl
  | _, _, .cons _ r s => by
    show (PY.below φ.length _ && PY.belows φ.length _) = true
    rw [Rep.blw r, KVRep.belows s]; rfl
theorem TVRep.belows {G : Gd} {Z φ : List Addr} {H : Hp} : ∀ {kvs : List (List Key × V)} {ds : List (D × D)}, TVRep G Z φ H kvs ds → belows φ.length (ds.map (·.2)) = true
  | _, _, .nil => rfl
  | _, _, .cons _ r s => by
    show (PY.below φ.length _ && PY.belows φ.length _) = true
    rw [Rep.blw r, TVRep.belows s]; rfl
theorem CRel.wf {G : Gd} {Z φ : List Addr} {H : Hp} {μ : Store} (c : CRel G Z φ H μ) : wfS μ := fun i k e => by
  obtain ⟨a, _, q⟩ := c.cell i k e
  rw [← c.len]
  cases q with
  | lst _ r => exact r.blws
  | dK _ r => exact r.belows
  | dT _ r => exact r.belows
  | ins _ _ r => exact r.blws
  | tbl _ _ => rfl

/-! ### shedding: the cells from n on go, but for those at js; lists in them are frozen -/
mutual
def frzD (f : Nat → Option D) : D → Option D
  | .non => some .non
  | .bl b => some (.bl b)
  | .int i => some (.int i)
  | .str s => some (.str s)
  | .tup xs => (frzDs f xs).map .tup
  | .lst xs => (frzDs f xs).map .lst
  | .ins c xs => (frzDs f xs).map (.ins c)
  | .ref i => f i
  | .scr ns => some (.scr ns)
def frzDs (f : Nat → Option D) : List D → Option (List D)
  | [] => some []
  | x :: xs => (frzD f x).bind fun y => (frzDs f xs).map (y :: ·)
end
def keptAt (n : Nat) (js : List Nat) (i : Nat) : Option Nat := if i < n then some i else (js.findIdx? (· == i)).map (n + ·)
def frzR (n : Nat) (js : List Nat) (μ : Store) : Nat → Nat → Option D
  | 0, i => (keptAt n js i).map .ref
  | k + 1, i => match keptAt n js i with
    | some j => some (.ref j)
    | none => match μ[i]? with
      | some (.lst xs) => (frzDs (frzR n js μ k) xs).map .lst
      | _ => none
def frzKV (f : Nat → Option D) : List (D × D) → Option (List (D × D))
  | [] => some []
  | (k, v) :: r => (frzD f v).bind fun v' => (frzKV f r).map ((k, v') :: ·)
def frzC (f : Nat → Option D) : Cell → Option Cell
  | .lst xs => (frzDs f xs).map .lst
  | .dct t kvs => (frzKV f kvs).map (.dct t)
  | .ins c xs => (frzDs f xs).map (.ins c)
  | .tbl q => some (.tbl q)
def frzCs (f : Nat → Option D) : List (Option Cell) → Option Store
  | [] => some []
  | some c :: r => (frzC f c).bind fun c' => (frzCs f r).map (c' :: ·)
  | none :: _ => none
structure Shed where
  js : List Nat := []
  fuel : Nat := 2
def shedOk (n : Nat) (js : List Nat) : Bool := decide js.Nodup && js.all fun j => decide (n ≤ j)
def shedS (n : Nat) (h : Shed) (μ : Store) : Option Store := if shedOk n h.js = true then frzCs (frzR n h.js μ h.fuel) ((List.range n ++ h.js).map fun i => μ[i]?) else none
def shedD (n : Nat) (h : Shed) (μ : Store) (d : D) : Option D := frzD (frzR n h.js μ h.fuel) d
def shedDs (n : Nat) (h : Shed) (μ : Store) (ds : List D) : Option (List D) := frzDs (frzR n h.js μ h.fuel) ds
section
variable {G : Gd} {Z φ φ' : List Addr} {H H' : Hp} {μ : Store} {n : Nat} {js : List Nat}
/-- where the kept cells are -/
def phiOf (φ' : List Addr) (n : Nat) (js : List Nat) : List Addr := φ'.take n ++ js.filterMap fun j => φ'[j]?
theorem filterMap_get {α : Type} {xs : List α} : ∀ {js : List Nat}, (∀ j ∈ js, j < xs.length) → ∀ (k : Nat), (js.filterMap fun j => xs[j]?)[k]? = (js[k]?).bind fun j => xs[j]?
  | [], _, k => by simp
  | j :: js, h, k => by
    have hj : j < xs.length := h j List.mem_cons_self
    have e : xs[j]? = some xs[j] := List.getElem?_eq_getElem hj
    rw [List.filterMap_cons, e]
    cases k with
    | zero => simp [e]
    | succ k =>
      simp only [List.getElem?_cons_succ]
      exact filterMap_get (fun i hi => h i (List.mem_cons_of_mem _ hi)) k
theorem filterMap_len {α : Type} {xs : List α} : ∀ {js : List Nat}, (∀ j ∈ js, j < xs.length) → (js.filterMap fun j => xs[j]?).length = js.length
  | [], _ => rfl
  | j :: js, h => by
    have hj : j < xs.length := h j List.mem_cons_self
    have e : xs[j]? = some xs[j] := List.getElem?_eq_getElem hj
    rw [List.filterMap_cons, e]
    simp only [List.length_cons]
    rw [filterMap_len fun i hi => h i (List.mem_cons_of_mem _ hi)]
theorem findIdx_get {js : List Nat} {i k : Nat} (h : js.findIdx? (· == i) = some k) : js[k]? = some i := by
  obtain ⟨hk, e, _⟩ := List.findIdx?_eq_some_iff_getElem.mp h
  rw [List.getElem?_eq_getElem hk]
  exact congrArg some (eq_of_beq e)
theorem phiOf_at (hn : n ≤ φ'.length) (hj : ∀ j ∈ js, j < φ'.length) {i k : Nat} {a : Addr} (h : keptAt n js i = some k) (e : φ'[i]? = some a) : (phiOf φ' n js)[k]? = some a := by
  unfold keptAt at h
  unfold phiOf
  split at h
  · rename_i hi
    cases h
    rw [List.getElem?_append_left (by rw [List.length_take]; omega), List.getElem?_take_of_lt hi]; exact e
  · obtain ⟨m, hm, rfl⟩ := Option.map_eq_some_iff.mp h
    have q := findIdx_get hm
    rw [List.getElem?_append_right (by rw [List.length_take]; omega), List.length_take]
    have e3 : n + m - min n φ'.length = m := by omega
    rw [e3, filterMap_get hj, q]
    exact e
theorem phiOf_sub {a : Addr} (h : a ∈ phiOf φ' n js) : a ∈ φ' := by
  unfold phiOf at h
  rcases List.mem_append.mp h with h | h
  · exact List.mem_of_mem_take h
  · obtain ⟨j, _, e⟩ := List.mem_filterMap.mp h
    exact List.mem_of_getElem? e
/-- a list cell that is not kept stands as a frozen list -/
theorem phiOf_out (c : CRel G Z φ' H μ) (hn : n ≤ φ'.length) {i : Nat} {a : Addr} (h : keptAt n js i = none) (e : φ'[i]? = some a) : a ∉ phiOf φ' n js := by
  unfold keptAt at h
  split at h
  · cases h
  · rename_i hi
    have h2 : js.findIdx? (· == i) = none := by
      cases q : js.findIdx? (· == i) with
      | none => rfl
      | some k => rw [q] at h; cases h
    have h3 : i ∉ js := fun hm => by
      have := List.findIdx?_eq_none_iff.mp h2 i hm
      simp at this
    intro hm
    have inj : ∀ {j : Nat}, φ'[j]? = some a → j = i := fun {j} ej => by
      obtain ⟨l1, e1⟩ := List.getElem?_eq_some_iff.mp ej
      obtain ⟨l2, e2⟩ := List.getElem?_eq_some_iff.mp e
      exact (List.getElem_inj c.nd).mp (e1.trans e2.symm)
    unfold phiOf at hm
    rcases List.mem_append.mp hm with hm | hm
    · obtain ⟨j, hj, ej⟩ := List.mem_iff_getElem.mp hm
      rw [List.length_take] at hj
      rw [List.getElem_take] at ej
      have := inj (j := j) (by rw [List.getElem?_eq_getElem (by omega), ej])
      omega
    · obtain ⟨j, hj, ej⟩ := List.mem_filterMap.mp hm
      rw [inj ej] at hj
      exact h3 hj
theorem Fz.shed {a : Addr} {o : HO} (f : Fz Z φ' H a o) : Fz Z (phiOf φ' n js) H a o := ⟨f.rd, fun q => f.nf (phiOf_sub q), f.nz⟩
/-- f is right of references -/
def FrOk (G : Gd) (Z φ φ1 : List Addr) (H : Hp) (f : Nat → Option D) : Prop := ∀ (i : Nat) a d, φ[i]? = some a → f i = some d → Rep G Z φ1 H (.ref a) d
mutual
theorem Rep.frz {f : Nat → Option D} (hf : FrOk G Z φ' (phiOf φ' n js) H f) : ∀ {v : V} {d d2 : D}, Rep G Z φ' H v d → frzD f d = some d2 → Rep G Z (phiOf φ' n js) H v d2
  | _, _, _, .non, e => by cases e; exact .non
  | _, _, _, .bl b, e => by cases e; exact .bl b
  | _, _, _, .int b, e => by cases e; exact .int b
  | _, _, _, .str b, e => by cases e; exact .str b
  | _, _, _, .tup h r, e => by
    obtain ⟨xs, e1, rfl⟩ := Option.map_eq_some_iff.mp (show (frzDs f _).map _ = _ from e)
    exact .tup (h.imp (fun q => q.shed) id) (Reps.frz hf r e1)
  | _, _, _, .lst h r, e => by
    obtain ⟨xs, e1, rfl⟩ := Option.map_eq_some_iff.mp (show (frzDs f _).map _ = _ from e)
    exact .lst h.shed (Reps.frz hf r e1)
  | _, _, _, .ins h q r, e => by
    obtain ⟨xs, e1, rfl⟩ := Option.map_eq_some_iff.mp (show (frzDs f _).map _ = _ from e)
    exact .ins h.shed q (Reps.frz hf r e1)
  | _, _, _, .ref h, e => hf _ _ _ h e
  | _, _, _, .scr h, e => by cases e; exact .scr h
theorem Reps.frz {f : Nat → Option D} (hf : FrOk G Z φ' (phiOf φ' n js) H f) : ∀ {vs : List V} {ds es : List D}, Reps G Z φ' H vs ds → frzDs f ds = some es → Reps G Z (phiOf φ' n js) H vs es
  | _, _, _, .nil, e => by cases e; exact .nil
  | _, _, _, .cons r s, e => by
    obtain ⟨y, e1, e2⟩ := Option.bind_eq_some_iff.mp (show (frzD f _).bind _ = _ from e)
    obtain ⟨ys, e3, rfl⟩ := Option.map_eq_some_iff.mp e2
    exact .cons (Rep.frz hf r e1) (Reps.frz hf s e3)
end
theorem frOk (c : CRel G Z φ' H μ) (hn : n ≤ φ'.length) (hj : ∀ j ∈ js, j < φ'.length) : ∀ k, FrOk G Z φ' (phiOf φ' n js) H (frzR n js μ k)
  | 0, i, a, d, e, h => by
    obtain ⟨j, h1, rfl⟩ := Option.map_eq_some_iff.mp (show (keptAt n js i).map _ = _ from h)
    exact .ref (phiOf_at hn hj h1 e)
  | k + 1, i, a, d, e, h => by
    unfold frzR at h
    cases q : keptAt n js i with
    | some j =>
      rw [q] at h
      cases h
      exact .ref (phiOf_at hn hj q e)
    | none =>
      rw [q] at h
      cases z : μ[i]? with
      | none => rw [z] at h; cases h
      | some cl =>
        rw [z] at h
        cases cl with
        | lst xs =>
          obtain ⟨ys, e1, rfl⟩ := Option.map_eq_some_iff.mp h
          obtain ⟨vs, h1, r1⟩ := c.lst e z
          exact .lst ⟨.inl h1, phiOf_out c hn q e, c.nz a (List.mem_of_getElem? e)⟩ (r1.frz (frOk c hn hj k) e1)
        | dct _ _ => cases h
        | ins _ _ => cases h
        | tbl _ => cases h
theorem KVRep.frz {f : Nat → Option D} (hf : FrOk G Z φ' (phiOf φ' n js) H f) : ∀ {kvs : List (Key × V)} {ds es : List (D × D)}, KVRep G Z φ' H kvs ds → frzKV f ds = some es → KVRep G Z (phiOf φ' n js) H kvs es
  | _, _, _, .nil, e => by cases e; exact .nil
  | _, _, _, .cons kr r s, e => by
    obtain ⟨y, e1, e2⟩ := Option.bind_eq_some_iff.mp (show (frzD f _).bind _ = _ from e)
    obtain ⟨ys, e3, rfl⟩ := Option.map_eq_some_iff.mp e2
    exact .cons kr (Rep.frz hf r e1) (KVRep.frz hf s e3)
theorem TVRep.frz {f : Nat → Option D} (hf : FrOk G Z φ' (phiOf φ' n js) H f) : ∀ {kvs : List (List Key × V)} {ds es : List (D × D)}, TVRep G Z φ' H kvs ds → frzKV f ds = some es → TVRep G Z (phiOf φ' n js) H kvs es
  | _, _, _, .nil, e => by cases e; exact .nil
  | _, _, _, .cons kr r s, e => by
    obtain ⟨y, e1, e2⟩ := Option.bind_eq_some_iff.mp (show (frzD f _).bind _ = _ from e)
    obtain ⟨ys, e3, rfl⟩ := Option.map_eq_some_iff.mp e2
    exact .cons kr (Rep.frz hf r e1) (TVRep.frz hf s e3)
theorem CellRep.frz {f : Nat → Option D} (hf : FrOk G Z φ' (phiOf φ' n js) H f) {a : Addr} {c c2 : Cell} (h : CellRep G Z φ' H a c) (e : frzC f c = some c2) : CellRep G Z (phiOf φ' n js) H a c2 := by
  cases h with
  | lst h r =>
    obtain ⟨xs, e1, rfl⟩ := Option.map_eq_some_iff.mp (show (frzDs f _).map _ = _ from e)
    exact .lst h (r.frz hf e1)
  | dK h r =>
    obtain ⟨xs, e1, rfl⟩ := Option.map_eq_some_iff.mp (show (frzKV f _).map _ = _ from e)
    exact .dK h (r.frz hf e1)
  | dT h r =>
    obtain ⟨xs, e1, rfl⟩ := Option.map_eq_some_iff.mp (show (frzKV f _).map _ = _ from e)
    exact .dT h (r.frz hf e1)
  | ins h q r =>
    obtain ⟨xs, e1, rfl⟩ := Option.map_eq_some_iff.mp (show (frzDs f _).map _ = _ from e)
    exact .ins h q (r.frz hf e1)
  | tbl ha h =>
    cases e
    obtain ⟨ps, q1, q2, q3⟩ := h
    refine .tbl ha ⟨ps, q1, q2, fun pos cv hc => ?_⟩
    obtain ⟨c, e1, e2, e3, e4⟩ := q3 pos cv hc
    exact ⟨c, e1, e2, fun z => e3 (phiOf_sub z), e4⟩
theorem frzCs_get {f : Nat → Option D} : ∀ {cs : List (Option Cell)} {ν : Store}, frzCs f cs = some ν → cs.length = ν.length ∧ ∀ (i : Nat) c2, ν[i]? = some c2 → ∃ c, cs[i]? = some (some c) ∧ frzC f c = some c2
  | [], ν, e => by
    cases e
    exact ⟨rfl, fun i c2 h => by simp at h⟩
  | some c :: r, ν, e => by
    obtain ⟨y, e1, e2⟩ := Option.bind_eq_some_iff.mp (show (frzC f _).bind _ = _ from e)
    obtain ⟨ys, e3, rfl⟩ := Option.map_eq_some_iff.mp e2
    obtain ⟨h1, h2⟩ := frzCs_get e3
    refine ⟨by rw [List.length_cons, List.length_cons, h1], fun i c2 h => ?_⟩
    cases i with
    | zero =>
      simp at h
      subst h
      exact ⟨c, rfl, e1⟩
    | succ i => exact h2 i c2 (by simpa using h)
  | none :: _, _, e => by cases e
/-- THE RULE: shedding -/
theorem CRel.shed {h : Shed} {ν : Store} (c : CRel G Z φ' H' μ) (g : Grow φ H φ' H') (hn : φ.length = n) (e : shedS n h μ = some ν) :
    CRel G Z (phiOf φ' n h.js) H' ν ∧ Grow φ H (phiOf φ' n h.js) H' ∧ FrOk G Z φ' (phiOf φ' n h.js) H' (frzR n h.js μ h.fuel) := by
  unfold shedS at e
  rw [Option.ite_none_right_eq_some] at e
  obtain ⟨h0, e⟩ := e
  unfold shedOk at h0
  simp only [Bool.and_eq_true, decide_eq_true_eq, List.all_eq_true] at h0
  obtain ⟨hl, hg⟩ := frzCs_get e
  have hnl : n ≤ φ'.length := by
    rw [← hn]
    cases hz : φ.length with
    | zero => omega
    | succ m =>
      have hm : m < φ.length := by omega
      have := g.pre m φ[m] (List.getElem?_eq_getElem hm)
      have := (List.getElem?_eq_some_iff.mp this).1
      omega
  have hj : ∀ j ∈ h.js, j < φ'.length := fun j hjm => by
    obtain ⟨k, hk, ek⟩ := List.mem_iff_getElem.mp hjm
    have hlen : (List.map (fun (i : Nat) => μ[i]?) (List.range n ++ h.js)).length = n + h.js.length := by simp
    have hi : n + k < ν.length := by rw [← hl, hlen]; omega
    obtain ⟨cc, e1, _⟩ := hg (n + k) ν[n + k] (List.getElem?_eq_getElem hi)
    rw [List.getElem?_map, List.getElem?_append_right (by simp), List.length_range, Nat.add_sub_cancel_left, List.getElem?_eq_getElem hk, ek] at e1
    simp only [Option.map_some, Option.some.injEq] at e1
    rw [c.len]
    exact (List.getElem?_eq_some_iff.mp e1).1
  have fo := frOk c hnl hj h.fuel (js := h.js)
  have pl : (phiOf φ' n h.js).length = n + h.js.length := by
    unfold phiOf
    rw [List.length_append, List.length_take, filterMap_len hj, Nat.min_eq_left hnl]
  refine ⟨⟨?_, ?_, fun a ha => c.nz a (phiOf_sub ha), c.zt, fun i c2 e2 => ?_⟩, ⟨g.keep, fun a ha => g.new a (phiOf_sub ha), fun i a ea => ?_⟩, fo⟩
  · rw [pl, ← hl]; simp
  · unfold phiOf
    rw [List.nodup_append]
    refine ⟨c.nd.sublist (List.take_sublist _ _), ?_, fun x hx y hy exy => ?_⟩
    · rw [List.Nodup, List.pairwise_filterMap]
      refine List.Pairwise.imp_of_mem ?_ h0.1
      intro a b ha hb hab x hx y hy hxy
      subst hxy
      obtain ⟨l1, e1⟩ := List.getElem?_eq_some_iff.mp hx
      obtain ⟨l2, e2⟩ := List.getElem?_eq_some_iff.mp hy
      exact hab ((List.getElem_inj c.nd).mp (e1.trans e2.symm))
    · subst exy
      obtain ⟨i, hi, ei⟩ := List.mem_iff_getElem.mp hx
      rw [List.length_take] at hi
      rw [List.getElem_take] at ei
      obtain ⟨j, hjm, ej⟩ := List.mem_filterMap.mp hy
      obtain ⟨l2, e2⟩ := List.getElem?_eq_some_iff.mp ej
      have : i = j := (List.getElem_inj c.nd).mp (ei.trans e2.symm)
      have := h0.2 j hjm
      omega
  · obtain ⟨cc, e3, e4⟩ := hg i c2 e2
    rw [List.getElem?_map] at e3
    obtain ⟨idx, e5, e6⟩ := Option.map_eq_some_iff.mp e3
    obtain ⟨a, ea, q⟩ := c.cell idx cc e6
    refine ⟨a, ?_, q.frz fo e4⟩
    unfold phiOf
    by_cases hi : i < n
    · rw [List.getElem?_append_left (by simpa using hi), List.getElem?_range hi] at e5
      cases e5
      rw [List.getElem?_append_left (by rw [List.length_take]; omega), List.getElem?_take_of_lt hi]
      exact ea
    · rw [List.getElem?_append_right (by simpa using hi), List.length_range] at e5
      rw [List.getElem?_append_right (by rw [List.length_take]; omega), List.length_take, Nat.min_eq_left hnl, filterMap_get hj, e5]
      exact ea
  · have hi := (List.getElem?_eq_some_iff.mp ea).1
    have := g.pre i a ea
    unfold phiOf
    rw [List.getElem?_append_left (by rw [List.length_take]; omega), List.getElem?_take_of_lt (by omega)]
    exact this
end
end PY

set_option Elab.async false
set_option linter.all false
set_option maxRecDepth 100000
set_option maxHeartbeats 8000000
/-! PY, part s: a def by its body. -/
namespace PY
open PySem PySem.Spec PyProof.Rows L2
/-- a def that is proved, at level k -/
structure DefOk (prog : Program) (w : World) (K : PySem.W.Frag) (mg : Str → Option Value) (base : Heap) (G : Gd) (S : Sg) (k : Nat) (d : FunE) : Prop where
  len : ∀ ds μ Q E, S.call d.id ds μ Q E → ds.length = d.n
  ex : ∃ f fd ps ds dvs, mg d.name = some (.ref f) ∧ PySem.W.keepIn K (.ref f) = true ∧ FnOk prog w K mg base (L2.CX prog w) k f fd ps (SpOf G (S.call d.id) d.n) ∧
    Vals dvs ds ∧ (∀ Z φ H, Reps G Z φ H dvs (S.dfl d.id)) ∧ ∀ m, m ≤ d.nd → Binds K fd ps (ds.drop m)
theorem DefOk.mono {prog : Program} {w : World} {K : PySem.W.Frag} {mg : Str → Option Value} {base : Heap} {G : Gd} {S : Sg} {k j : Nat} {d : FunE} (h : DefOk prog w K mg base G S k d) (hj : k ≤ j) : DefOk prog w K mg base G S j d := by
  obtain ⟨f, fd, ps, ds, dvs, h1, h2, h3, h4⟩ := h.ex
  exact ⟨h.len, f, fd, ps, ds, dvs, h1, h2, h3.mono hj, h4⟩
/-- the specs of the def stand in S as in S' -/
theorem DefOk.cast {prog : Program} {w : World} {K : PySem.W.Frag} {mg : Str → Option Value} {base : Heap} {G : Gd} {S S' : Sg} {k : Nat} {d : FunE} (h : DefOk prog w K mg base G S k d) (e : S'.call d.id = S.call d.id) (e2 : S'.dfl d.id = S.dfl d.id) : DefOk prog w K mg base G S' k d := by
  obtain ⟨f, fd, ps, ds, dvs, h1, h2, h3, h4, h5, h6⟩ := h.ex
  refine ⟨fun ds μ Q E q => h.len ds μ Q E (by rw [e] at q; exact q), f, fd, ps, ds, dvs, h1, h2, ?_, h4, ?_, h6⟩
  · rw [e]; exact h3
  · rw [e2]; exact h5
/-- the module as a body at level k finds it -/
structure Wd (P : PCtx) (G : Gd) (S : Sg) (prog : Program) (w : World) (K : PySem.W.Frag) (mg : Str → Option Value) (base : Heap) (k : Nat) : Prop where
  hK : G.K = K
  blt : ∀ x ∈ P.blt, mg x = none
  con : ∀ (j : Nat) x, P.con[j]? = some x → ∃ u v, mg x = some u ∧ RelV v u ∧ ∀ Z φ H, Rep G Z φ H v (S.con j)
  fn : ∀ d ∈ P.funs, DefOk prog w K mg base G S k d
  exc : ∀ e ∈ P.exc, ∃ f fd ps, mg e.name = some (.ref (G.cA e.c)) ∧ OexC K (G.cA e.c) ∧ PySem.W.findIn K (.ref (G.cA e.c)) "__init__" = some (some (.ref f)) ∧ PySem.W.typeIn K (.ref f) = some (.type "function") ∧
    FnOk prog w K mg base C8.CX0 1 f fd ps (PX.spI (G.cA e.c) (G.cF e.c)) ∧ Binds K fd ps [] ∧ (G.cF e.c).length = e.n
def startD (N : List Str) (ds : List D) : Sl := ds.map some ++ List.replicate (N.length - ds.length) none
/-- the end of a def whose own new cells begin at n -/
def EndD (n : Nat) (d : D) (μ : Store) (Q : D → Store → Prop) : Prop := ∃ h, opt (shedS n h μ) fun ν => opt (shedD n h μ d) fun e => Q e ν
def EndX (n : Nat) (x : XD) (μ : Store) (E : XD → Store → Prop) : Prop := ∃ h, opt (shedS n h μ) fun ν => opt (shedDs n h μ x.args) fun es => E ⟨x.c, es⟩ ν
section
variable {P : PCtx} {G : Gd} {S : Sg} {prog : Program} {w : World} {K : PySem.W.Frag} {mg : Str → Option Value} {base : Heap} {k : Nat} {N ps : List Str} {qual : Str} {scope : Scope} {f : Addr} {cd : Value} {A : Around} {outer : List Env} {s : Shared} {H : Hp} {E : XK}
theorem XOk.make (wd : Wd P G S prog w K mg base k) (Sc : FnScope N ps scope) (hq : uniqB scope = true) (hk : 2 ≤ k) (hlam : ∀ i, P.lam = some i → LamOk P G S (cxOf (L2.CX prog w) prog w K mg base N qual scope f cd A outer s H E) i) (hr : Room k (A.deeper (envOfC qual scope s.heap.objs.size f cd))) :
    XOk P G S (cxtOf N scope) (cxOf (L2.CX prog w) prog w K mg base N qual scope f cd A outer s H E) (fun cls d _ H => E cls d H) := by
  have vis : ∀ {x : Str} {p : NameKind → Bool}, x ∈ kindsOf scope p → ∃ kd, scope.names.lookup x = some kd ∧ p kd = true := fun h => by
    obtain ⟨kd, h1, h2⟩ := kindsOf_mem h
    exact ⟨kd, uniq_of hq h1, h2⟩
  refine ⟨wd.hK, rfl, Sc.nd, fun x hx => ?_, fun x hx => ?_, fun x hx => ?_, fun x hx => ?_, fun x hx => ?_, Sc.kind, rfl, hr.mono (by omega), takes_of rfl rfl rfl rfl, passes_of rfl, wd.blt, wd.con, fun d hd => ?_, fun _ e he => ?_, fun _ i hi => hlam i hi⟩
  · obtain ⟨kd, h1, h2⟩ := vis hx
    show scope.names.lookup x = _ ∨ scope.names.lookup x = _ ∨ scope.names.lookup x = _
    rw [h1]
    cases kd <;> first | exact .inl rfl | exact .inr (.inl rfl) | exact .inr (.inr rfl) | cases h2
  · obtain ⟨kd, h1, h2⟩ := vis hx
    refine ⟨?_, .inl rfl⟩
    show scope.names.lookup x = _ ∨ scope.names.lookup x = _
    rw [h1]
    cases kd <;> first | exact .inl rfl | exact .inr rfl | cases h2
  · obtain ⟨kd, h1, h2⟩ := vis hx
    show scope.names.lookup x = _
    rw [h1]
    cases kd <;> first | rfl | cases h2
  · obtain ⟨kd, h1, h2⟩ := vis hx
    show scope.names.lookup x = _ ∨ scope.names.lookup x = _
    rw [h1]
    cases kd <;> first | exact .inl rfl | exact .inr rfl | cases h2
  · obtain ⟨kd, h1, h2⟩ := vis hx
    show scope.names.lookup x = _
    rw [h1]
    cases kd <;> first | rfl | cases h2
  · obtain ⟨len, fa, fd, ps', ds, dvs, h1, h2, h3, h4, h5, h6⟩ := wd.fn d hd
    exact ⟨len, fa, fd, ps', ds, dvs, k, h1, h2, hr, h3, h4, h5, h6⟩
  · obtain ⟨fa, fd, ps', h1, h2, h3, h4, h5, h6, h7⟩ := wd.exc e he
    exact ⟨fa, fd, ps', 1, h1, h2, h3, h4, h5, hr.mono hk, h6, h7⟩
theorem start_rel {Z φ : List Addr} {vs : List V} {ds : List D} (r : Reps G Z φ H vs ds) : ERel G Z φ H (start N vs) (startD N ds) := by
  have hl := r.length
  refine ⟨by unfold L2.start startD; simp [hl], fun i d e => ?_⟩
  unfold startD at e
  unfold L2.start
  by_cases hi : i < ds.length
  · rw [List.getElem?_append_left (by simpa using hi), List.getElem?_map] at e
    obtain ⟨d', e1, e2⟩ := Option.map_eq_some_iff.mp e
    cases e2
    obtain ⟨v, e3, r'⟩ := r.get e1
    exact ⟨v, by rw [List.getElem?_append_left (by simpa [hl] using hi), List.getElem?_map, e3]; rfl, r'⟩
  · rw [List.getElem?_append_right (by simpa using hi), List.getElem?_replicate] at e
    split at e <;> cases e
theorem EndD.done {n : Nat} {Z φ φ' : List Addr} {H H' : Hp} {μ : Store} {d : D} {v : V} {Qd : D → Store → Prop} {Q : VK} (h : EndD n d μ Qd) (hn : φ.length = n) (r : Rep G Z φ' H' v d) (c : CRel G Z φ' H' μ) (g : Grow φ H φ' H')
    (q : ∀ d μ', Qd d μ' → Done G Z φ H d μ' Q) : Q v H' := by
  obtain ⟨sh, h⟩ := h
  obtain ⟨ν, e1, h⟩ := opt_iff.mp h
  obtain ⟨d2, e2, h⟩ := opt_iff.mp h
  obtain ⟨c2, g2, fo⟩ := c.shed g hn e1
  exact q d2 ν h v _ H' (r.frz fo e2) c2 g2
/-- THE RULE -/
theorem def_ok {x : Str} {params : Arguments} {body : List Stmt} {dvs : List V} {fd : FuncData} {b : Sts} {fsp : List D → Store → (D → Store → Prop) → (XD → Store → Prop) → Prop} {n : Nat}
    (wd : Wd P G S prog w K mg base k) (F : FunD K x qual params body scope dvs [] f fd) (Sc : FnScope N ps scope) (hq : uniqB scope = true) (hk : 2 ≤ k) (hlam : P.lam = none) (hc : chkSs P (cxtOf N scope) b body = true) (hn : ps.length = n)
    (hw : ∀ ds μ Q E, fsp ds μ Q E → ds.length = n → belows μ.length ds = true → wfS μ →
      wpSs S (fun _ x μ' => EndX μ.length x μ' E) b (startD N ds) μ { nx := fun _ μ' => EndD μ.length .non μ' Q, rt := fun d μ' => EndD μ.length d μ' Q }) :
    FnOk prog w K mg base (L2.CX prog w) (k + 1) f fd ps (SpOf G fsp n) := by
  refine F.ok Sc (fun vs H Q E h => by rw [hn]; exact h.1) fun cdv A outer s H vs Q E hr h => ?_
  have x := XOk.make (outer := outer) (H := H) (E := E) wd Sc hq hk (fun i hi => by rw [hlam] at hi; cases hi) hr
  refine ⟨_, sndSs b x hc, ?_⟩
  obtain ⟨hl, Z, φ, μ, ds, Qd, Ed, rs, c, hf, hQ, hE⟩ := h
  have hlen := c.len
  have bl := rs.blws
  rw [hlen] at bl
  refine ⟨Z, φ, startD N ds, μ, _, _, ⟨start_rel rs, c, fun ρ xx μ' e σ cls dd φ' H' er xr c' g' => ?_⟩, hw ds μ Qd Ed hf (rs.length.symm.trans hl) bl c.wf, fun ρ' μ' q σ' φ' H' er c' g' => ?_, fun d μ' q v φ' H' r c' g' => ?_, fun ρ' μ' q => q.elim, fun ρ' μ' q => q.elim⟩
  · obtain ⟨sh, e⟩ := e
    obtain ⟨ν, e1, e⟩ := opt_iff.mp e
    obtain ⟨es, e2, e⟩ := opt_iff.mp e
    obtain ⟨c2, g2, fo⟩ := c'.shed g' hlen e1
    obtain ⟨h1, d, ws, h2, h3, h4, h5⟩ := xr
    exact hE _ ν e cls dd _ H' ⟨h1, d, ws, h2, h3, h4, h5.frz fo e2⟩ c2 g2
  · exact EndD.done (Q := Q) q hlen .non c' g' hQ
  · exact EndD.done q hlen r c' g' hQ
end
end PY

set_option Elab.async false
set_option linter.all false
set_option maxRecDepth 100000
set_option maxHeartbeats 4000000
/-! PY, part w: aids for proofs about the meaning. -/
namespace PY
open PySem PySem.Spec PyProof.Rows L2
mutual
theorem frzD_below {n : Nat} {f : Nat → Option D} (hf : ∀ i, i < n → f i = some (.ref i)) : ∀ d : D, below n d = true → frzD f d = some d
  | .non, _ => rfl
  | .bl _, _ => rfl
  | .int _, _ => rfl
  | .str _, _ => rfl
  | .tup xs, h => by show (frzDs f xs).map _ = _; rw [frzDs_below hf xs h]; rfl
  | .lst xs, h => by show (frzDs f xs).map _ = _; rw [frzDs_below hf xs h]; rfl
  | .ins c xs, h => by show (frzDs f xs).map _ = _; rw [frzDs_below hf xs h]; rfl
  | .ref i, h => hf i (of_decide_eq_true h)
  | .scr _, _ => rfl
theorem frzDs_below {n : Nat} {f : Nat → Option D} (hf : ∀ i, i < n → f i = some (.ref i)) : ∀ ds : List D, belows n ds = true → frzDs f ds = some ds
  | [], _ => rfl
  | d :: ds, h => by
    have h' : (below n d && belows n ds) = true := h
    rw [Bool.and_eq_true] at h'
    show (frzD f d).bind _ = _
    rw [frzD_below hf d h'.1, frzDs_below hf ds h'.2]; rfl
end
theorem frzKV_below {n : Nat} {f : Nat → Option D} (hf : ∀ i, i < n → f i = some (.ref i)) : ∀ kvs : List (D × D), belows n (kvs.map (·.2)) = true → frzKV f kvs = some kvs
  | [], _ => rfl
  | (k, v) :: r, h => by
    have h' : (below n v && belows n (r.map (·.2))) = true := h
    rw [Bool.and_eq_true] at h'
    show (frzD f v).bind _ = _
    rw [frzD_below hf v h'.1, frzKV_below hf r h'.2]; rfl
theorem frzC_below {n : Nat} {f : Nat → Option D} (hf : ∀ i, i < n → f i = some (.ref i)) {c : Cell} (h : belowC n c = true) : frzC f c = some c := by
  cases c with
  | lst xs => show (frzDs f xs).map _ = _; rw [frzDs_below hf xs h]; rfl
  | dct t kvs => show (frzKV f kvs).map _ = _; rw [frzKV_below hf kvs h]; rfl
  | ins k xs => show (frzDs f xs).map _ = _; rw [frzDs_below hf xs h]; rfl
  | tbl q => rfl
theorem frzR_lt {n : Nat} {js : List Nat} {μ : Store} : ∀ k i, i < n → frzR n js μ k i = some (.ref i)
  | 0, i, h => by unfold frzR keptAt; rw [if_pos h]; rfl
  | k + 1, i, h => by unfold frzR keptAt; rw [if_pos h]
theorem frzCs_some {f : Nat → Option D} : ∀ {cs : List Cell}, (∀ c ∈ cs, frzC f c = some c) → frzCs f (cs.map some) = some cs
  | [], _ => rfl
  | c :: cs, h => by
    show (frzC f c).bind _ = _
    rw [h c List.mem_cons_self, Option.bind_some, frzCs_some fun x hx => h x (List.mem_cons_of_mem _ hx)]; rfl
/-- cells of the first n only -/
def wfN (n : Nat) (μ : Store) : Prop := ∀ c ∈ μ, belowC n c = true
theorem wfS.n {μ : Store} (h : wfS μ) : wfN μ.length μ := fun c hc => by
  obtain ⟨i, hi, e⟩ := List.mem_iff_getElem.mp hc
  exact h i c (by rw [List.getElem?_eq_getElem hi, e])
theorem wfS_of {μ : Store} (h : wfN μ.length μ) : wfS μ := fun i c e => h c (List.mem_of_getElem? e)
theorem shedS_drop {ν ex : Store} {h : Shed} (hj : h.js = []) (hw : wfN ν.length ν) : shedS ν.length h (ν ++ ex) = some ν := by
  unfold shedS
  rw [hj]
  rw [if_pos (by simp [shedOk])]
  have e : ((List.range ν.length ++ []).map fun (i : Nat) => (ν ++ ex)[i]?) = ν.map some := by
    rw [List.append_nil]
    apply List.ext_getElem?
    intro i
    by_cases hi : i < ν.length
    · rw [List.getElem?_map, List.getElem?_range hi, List.getElem?_map]
      simp [List.getElem?_append_left hi, hi]
    · rw [List.getElem?_eq_none (by simpa using hi), List.getElem?_eq_none (by simpa using hi)]
  rw [e]
  exact frzCs_some fun c hc => frzC_below (fun i hi => frzR_lt _ i hi) (hw c hc)
theorem shedD_below {n : Nat} {h : Shed} {μ : Store} {d : D} (hb : below n d = true) : shedD n h μ d = some d := frzD_below (fun i hi => frzR_lt _ i hi) d hb
theorem EndD.drop {ν ex : Store} {d : D} {Q : D → Store → Prop} (hw : wfS ν) (hd : below ν.length d = true) (q : Q d ν) : EndD ν.length d (ν ++ ex) Q :=
  ⟨{}, by rw [shedS_drop rfl hw.n, opt_some, shedD_below hd, opt_some]; exact q⟩
theorem EndD.same {μ : Store} {d : D} {Q : D → Store → Prop} (hw : wfS μ) (hd : below μ.length d = true) (q : Q d μ) : EndD μ.length d μ Q := by
  have := EndD.drop (ex := []) hw hd q
  rwa [List.append_nil] at this
@[simp] theorem below_bl (n : Nat) (b : Bool) : below n (.bl b) = true := rfl
@[simp] theorem below_non (n : Nat) : below n .non = true := rfl
@[simp] theorem below_int (n : Nat) (i : Int) : below n (.int i) = true := rfl
@[simp] theorem below_str (n : Nat) (s : String) : below n (.str s) = true := rfl
@[simp] theorem below_tup (n : Nat) (xs : List D) : below n (.tup xs) = belows n xs := rfl
@[simp] theorem below_lst (n : Nat) (xs : List D) : below n (.lst xs) = belows n xs := rfl
@[simp] theorem belows_nil (n : Nat) : belows n [] = true := rfl
@[simp] theorem belows_cons (n : Nat) (x : D) (xs : List D) : belows n (x :: xs) = (below n x && belows n xs) := rfl
@[simp] theorem plain_bl (b : Bool) : plain (.bl b) = true := rfl
@[simp] theorem plain_non : plain .non = true := rfl
@[simp] theorem plain_int (i : Int) : plain (.int i) = true := rfl
@[simp] theorem plain_str (s : String) : plain (.str s) = true := rfl
@[simp] theorem plain_tup (xs : List D) : plain (.tup xs) = plains xs := rfl
@[simp] theorem plain_lst (xs : List D) : plain (.lst xs) = plains xs := rfl
@[simp] theorem plains_nil : plains [] = true := rfl
@[simp] theorem plains_cons (x : D) (xs : List D) : plains (x :: xs) = (plain x && plains xs) := rfl
mutual
theorem below_plain {n : Nat} : ∀ d : D, plain d = true → below n d = true
  | .non, _ => rfl
  | .bl _, _ => rfl
  | .int _, _ => rfl
  | .str _, _ => rfl
  | .tup xs, h => belows_plain xs h
  | .lst xs, h => belows_plain xs h
theorem belows_plain {n : Nat} : ∀ ds : List D, plains ds = true → belows n ds = true
  | [], _ => rfl
  | d :: ds, h => by
    rw [plains_cons, Bool.and_eq_true] at h
    rw [belows_cons, below_plain d h.1, belows_plain ds h.2]; rfl
end
@[simp] theorem plain_scr (ns : List Int) : plain (.scr ns) = false := rfl
@[simp] theorem plain_ref (i : Nat) : plain (.ref i) = false := rfl
@[simp] theorem plain_ins (c : Nat) (xs : List D) : plain (.ins c xs) = false := rfl
theorem plains_mem : ∀ {xs : List D} {x : D}, plains xs = true → x ∈ xs → plain x = true
  | y :: ys, x, h, hm => by
    rw [plains_cons, Bool.and_eq_true] at h
    rcases List.mem_cons.mp hm with e | e
    · rw [e]; exact h.1
    · exact plains_mem h.2 e
theorem plains_iff {xs : List D} : plains xs = true ↔ ∀ x ∈ xs, plain x = true := by
  induction xs with
  | nil => simp
  | cons y ys ih => rw [plains_cons, Bool.and_eq_true, ih]; simp
@[simp] theorem plains_append (xs ys : List D) : plains (xs ++ ys) = (plains xs && plains ys) := by
  induction xs with
  | nil => simp
  | cons x xs ih => rw [List.cons_append, plains_cons, plains_cons, ih, Bool.and_assoc]
@[simp] theorem belows_append (n : Nat) (xs ys : List D) : belows n (xs ++ ys) = (belows n xs && belows n ys) := by
  induction xs with
  | nil => simp
  | cons x xs ih => rw [List.cons_append, belows_cons, belows_cons, ih, Bool.and_assoc]
@[simp] theorem plains_str (ss : List String) : plains (ss.map D.str) = true := plains_iff.mpr fun x h => by
  obtain ⟨s, _, rfl⟩ := List.mem_map.mp h; rfl
/-! ### the meaning, step by step -/
section
variable (S : Sg) (E : XD → Store → Prop) (E' : Sl → XD → Store → Prop) (ρ : Sl) (μ : Store) (Q : D → Store → Prop) (R : Bool → Store → Prop) (D' : PEnds)
@[simp] theorem truth_bl (b : Bool) : truthD μ (.bl b) = some b := rfl
@[simp] theorem truth_non : truthD μ .non = some false := rfl
@[simp] theorem truth_int (i : Int) : truthD μ (.int i) = some (i != 0) := rfl
@[simp] theorem truth_tup (xs : List D) : truthD μ (.tup xs) = some (!xs.isEmpty) := rfl
@[simp] theorem truth_lst (xs : List D) : truthD μ (.lst xs) = some (!xs.isEmpty) := rfl
@[simp] theorem con_int (i : Int) : conD (.int i) = some (.int i) := rfl
@[simp] theorem con_non : conD .none = some .non := rfl
@[simp] theorem con_bool (b : Bool) : conD (.bool b) = some (.bl b) := rfl
@[simp] theorem p_tup (ds : List D) : primD .tup ds μ = if ds.length ≤ Sz then some (.tup ds, μ) else none := rfl
@[simp] theorem p_lstF (ds : List D) : primD (.lst false) ds μ = if ds.length ≤ Sz then some (.lst ds, μ) else none := rfl
@[simp] theorem p_lstT (ds : List D) : primD (.lst true) ds μ = if ds.length ≤ Sz then some (.ref μ.length, μ ++ [.lst ds]) else none := rfl
@[simp] theorem p_bin (o : Op) (x y : D) : primD (.bin o) [x, y] μ = (binD μ o x y).map (·, μ) := rfl
@[simp] theorem p_neg (i : Int) : primD .neg [.int i] μ = some (.int (-i), μ) := rfl
@[simp] theorem p_cm (c : Cm) (x y : D) : primD (.cm c) [x, y] μ = (cmD μ c x y).map fun b => (.bl b, μ) := rfl
@[simp] theorem p_isN (x : D) : primD .isN [x] μ = some (.bl (isNonD x), μ) := rfl
@[simp] theorem p_notN (x : D) : primD .notN [x] μ = some (.bl (!isNonD x), μ) := rfl
@[simp] theorem p_ix (x i : D) : primD .ix [x, i] μ = (ixD μ x i).map (·, μ) := rfl
@[simp] theorem p_sl0 (x : D) : primD (.sl false false) [x] μ = (slD μ none none x).map (·, μ) := rfl
@[simp] theorem p_sl1 (x : D) (i : Int) : primD (.sl true false) [x, .int i] μ = (slD μ (some i) none x).map (·, μ) := rfl
@[simp] theorem p_sl2 (x : D) (i : Int) : primD (.sl false true) [x, .int i] μ = (slD μ none (some i) x).map (·, μ) := rfl
@[simp] theorem p_len (x : D) : primD .len [x] μ = (lenD μ x).map fun (n : Nat) => (D.int (n : Int), μ) := rfl
@[simp] theorem p_all (x : D) : primD .all [x] μ = ((lstOf μ x).bind boolsOf).map fun bs => (.bl (bs.all id), μ) := rfl
@[simp] theorem p_any (x : D) : primD .any [x] μ = ((lstOf μ x).bind boolsOf).map fun bs => (.bl (bs.any id), μ) := rfl
@[simp] theorem p_int1i (i : Int) : primD .int1 [.int i] μ = some (.int i, μ) := rfl
@[simp] theorem p_int1b (b : Bool) : primD .int1 [.bl b] μ = some (.int (if b then 1 else 0), μ) := rfl
@[simp] theorem p_tuple1 (x : D) : primD .tuple1 [x] μ = (seqOf μ x).map fun xs => (.tup xs, μ) := rfl
@[simp] theorem p_list1F (x : D) : primD (.list1 false) [x] μ = (seqOf μ x).map fun xs => (.lst xs, μ) := rfl
@[simp] theorem p_list1T (x : D) : primD (.list1 true) [x] μ = (seqOf μ x).map fun xs => (.ref μ.length, μ ++ [.lst xs]) := rfl
@[simp] theorem p_isi (ts : List Ty) (x : D) : primD (.isi ts) [x] μ = (isTys μ x ts).map fun b => (.bl b, μ) := rfl
@[simp] theorem cm_eq (x y : D) : cmD μ .eq x y = eqD μ x y := rfl
@[simp] theorem cm_ne (x y : D) : cmD μ .ne x y = (eqD μ x y).map (!·) := rfl
@[simp] theorem cm_lt (i j : Int) : cmD μ .lt (.int i) (.int j) = some (decide (i < j)) := rfl
@[simp] theorem cm_le (i j : Int) : cmD μ .le (.int i) (.int j) = some (decide (i ≤ j)) := rfl
@[simp] theorem cm_gt (i j : Int) : cmD μ .gt (.int i) (.int j) = some (decide (j < i)) := rfl
@[simp] theorem cm_ge (i j : Int) : cmD μ .ge (.int i) (.int j) = some (decide (j ≤ i)) := rfl
@[simp] theorem cm_in (x y : D) : cmD μ .isin x y = inD μ x y := rfl
@[simp] theorem cm_nin (x y : D) : cmD μ .notin x y = (inD μ x y).map (!·) := rfl
@[simp] theorem len_tup (xs : List D) : lenD μ (.tup xs) = some xs.length := rfl
@[simp] theorem len_lst (xs : List D) : lenD μ (.lst xs) = some xs.length := rfl
@[simp] theorem seq_tup (xs : List D) : seqOf μ (.tup xs) = some xs := rfl
@[simp] theorem seq_lst (xs : List D) : seqOf μ (.lst xs) = some xs := rfl
@[simp] theorem lstOf_lst (xs : List D) : lstOf μ (.lst xs) = some xs := rfl
@[simp] theorem isTys_plain (ts : List Ty) (d : D) : isTys μ d ts = (vtOf μ d).map fun v => ts.any (vtIs v) := rfl
@[simp] theorem vt_non : vtOf μ .non = some .non := rfl
@[simp] theorem vt_bl (b : Bool) : vtOf μ (.bl b) = some .bool := rfl
@[simp] theorem vt_int (i : Int) : vtOf μ (.int i) = some .int := rfl
@[simp] theorem vt_str (s : String) : vtOf μ (.str s) = some .str := rfl
@[simp] theorem vt_tup (xs : List D) : vtOf μ (.tup xs) = some .tuple := rfl
@[simp] theorem vt_lst (xs : List D) : vtOf μ (.lst xs) = some .list := rfl
@[simp] theorem isNon_non : isNonD .non = true := rfl
@[simp] theorem isNon_bl (b : Bool) : isNonD (.bl b) = false := rfl
@[simp] theorem isNon_int (i : Int) : isNonD (.int i) = false := rfl
@[simp] theorem isNon_str (s : String) : isNonD (.str s) = false := rfl
@[simp] theorem isNon_tup (xs : List D) : isNonD (.tup xs) = false := rfl
@[simp] theorem isNon_lst (xs : List D) : isNonD (.lst xs) = false := rfl
@[simp] theorem isNon_ref (i : Nat) : isNonD (.ref i) = false := rfl
theorem deref_plain {d : D} (h : plain d = true) : deref μ d = d := by cases d <;> first | rfl | simp at h
@[simp] theorem deref_tup (xs : List D) : deref μ (.tup xs) = .tup xs := rfl
@[simp] theorem deref_lst (xs : List D) : deref μ (.lst xs) = .lst xs := rfl
@[simp] theorem deref_str (s : String) : deref μ (.str s) = .str s := rfl
@[simp] theorem deref_int (i : Int) : deref μ (.int i) = .int i := rfl
@[simp] theorem deref_bl (b : Bool) : deref μ (.bl b) = .bl b := rfl
@[simp] theorem deref_non : deref μ .non = .non := rfl
/-- equality of plain data, one of them flat enough -/
theorem eqD_l {x y : D} (hx : plain x = true) (hy : plain y = true) (h : depth x ≤ 150) : eqD μ x y = some (eqv x y) := by
  unfold eqD canEq
  rw [deref_plain μ hx, deref_plain μ hy, hx, hy]
  have : min (depth x) (depth y) ≤ 150 := by omega
  simp [this]
theorem eqD_r {x y : D} (hx : plain x = true) (hy : plain y = true) (h : depth y ≤ 150) : eqD μ x y = some (eqv x y) := by
  unfold eqD canEq
  rw [deref_plain μ hx, deref_plain μ hy, hx, hy]
  have : min (depth x) (depth y) ≤ 150 := by omega
  simp [this]
@[simp] theorem eqD_int (i j : Int) : eqD μ (.int i) (.int j) = some (i == j) := rfl
@[simp] theorem eqD_str (s t : String) : eqD μ (.str s) (.str t) = some (s == t) := rfl
@[simp] theorem eqD_bl (s t : Bool) : eqD μ (.bl s) (.bl t) = some (s == t) := rfl
@[simp] theorem eqv_str (s t : String) : eqv (.str s) (.str t) = (s == t) := rfl
@[simp] theorem eqv_int (s t : Int) : eqv (.int s) (.int t) = (s == t) := rfl
@[simp] theorem eqv_bl (s t : Bool) : eqv (.bl s) (.bl t) = (s == t) := rfl
@[simp] theorem depth_str (s : String) : depth (.str s) = 0 := rfl
@[simp] theorem depth_int (i : Int) : depth (.int i) = 0 := rfl
@[simp] theorem depth_bl (i : Bool) : depth (.bl i) = 0 := rfl
@[simp] theorem depth_non : depth .non = 0 := rfl
@[simp] theorem depth_tup (xs : List D) : depth (.tup xs) = depths xs + 1 := rfl
@[simp] theorem depth_lst (xs : List D) : depth (.lst xs) = depths xs + 1 := rfl
@[simp] theorem depths_nil : depths [] = 0 := rfl
@[simp] theorem depths_cons (x : D) (xs : List D) : depths (x :: xs) = max (depth x) (depths xs) := rfl
@[simp] theorem depths_strs (ss : List String) : depths (ss.map D.str) = 0 := by
  induction ss with
  | nil => rfl
  | cons s ss ih => simp [ih]
theorem inD_tup {x : D} {xs : List D} (hx : plain x = true) (hs : plains xs = true) (h : min (depths xs) (depth x) ≤ 150) : inD μ x (.tup xs) = some (xs.any fun y => eqv y x) := by
  simp [inD, hx, hs, h]
theorem inD_lst {x : D} {xs : List D} (hx : plain x = true) (hs : plains xs = true) (h : min (depths xs) (depth x) ≤ 150) : inD μ x (.lst xs) = some (xs.any fun y => eqv y x) := by
  simp [inD, hx, hs, h]
theorem inD_chr (c : Char) (t : String) : inD μ (.str (String.singleton c)) (.str t) = some (t.toList.contains c) := by
  simp [inD]
@[simp] theorem any_eqv_str (ss : List String) (s : String) : ((ss.map D.str).any fun y => eqv y (.str s)) = ss.contains s := by
  rw [List.any_map]
  induction ss with
  | nil => rfl
  | cons t ss ih =>
    rw [List.any_cons, ih, List.contains_cons]
    show (t == s || _) = (s == t || _)
    rw [Bool.beq_comm]
@[simp] theorem inD_strs (ss : List String) (s : String) : inD μ (.str s) (.tup (ss.map D.str)) = some (ss.contains s) := by
  rw [inD_tup μ rfl (plains_str ss) (by simp), any_eqv_str]
@[simp] theorem inD_chr' (c : Char) (t : String) : inD μ (.str (String.singleton c)) (.str t) = some (t.toList.contains c) := inD_chr μ c t
@[simp] theorem ix_tup (xs : List D) (i : Int) : ixD μ (.tup xs) (.int i) = atD xs i := rfl
@[simp] theorem ix_lst (xs : List D) (i : Int) : ixD μ (.lst xs) (.int i) = atD xs i := rfl
@[simp] theorem at_0 {α : Type} (x : α) (xs : List α) : atD (x :: xs) 0 = some x := rfl
@[simp] theorem at_1 {α : Type} (x y : α) (xs : List α) : atD (x :: y :: xs) 1 = some y := rfl
@[simp] theorem at_2 {α : Type} (x y z : α) (xs : List α) : atD (x :: y :: z :: xs) 2 = some z := rfl
@[simp] theorem at_3 {α : Type} (x y z u : α) (xs : List α) : atD (x :: y :: z :: u :: xs) 3 = some u := rfl
@[simp] theorem at_4 {α : Type} (x y z u v : α) (xs : List α) : atD (x :: y :: z :: u :: v :: xs) 4 = some v := rfl
end
/-- a comprehension whose turns leave the store -/
theorem comp_pure {turn : D → Store → (Option D → Store → Prop) → Prop} {guard : Store → Prop} (f : D → Option D) {μ : Store} {Q : List D → Store → Prop} (hg : guard μ) : ∀ {items acc : List D}, (∀ d ∈ items, ∀ R : Option D → Store → Prop, R (f d) μ → turn d μ R) → acc.length + items.length ≤ Sz →
    Q (acc ++ items.filterMap f) μ → compTurns turn guard items μ acc Q
  | [], acc, _, _, q => ⟨hg, by simpa using q⟩
  | d :: ds, acc, h, hl, q => by
    rw [List.length_cons] at hl
    refine ⟨hg, h d List.mem_cons_self _ ?_⟩
    cases e : f d with
    | none =>
      rw [List.filterMap_cons, e] at q
      exact comp_pure f hg (fun x hx => h x (List.mem_cons_of_mem _ hx)) (by omega) q
    | some y =>
      rw [List.filterMap_cons, e] at q
      refine ⟨by omega, comp_pure f hg (fun x hx => h x (List.mem_cons_of_mem _ hx)) (by rw [List.length_append, List.length_singleton]; omega) ?_⟩
      rw [List.append_assoc]; exact q
/-- .. of every item -/
theorem comp_map {turn : D → Store → (Option D → Store → Prop) → Prop} {guard : Store → Prop} (f : D → D) {μ : Store} {Q : List D → Store → Prop} {items : List D} (hg : guard μ) (h : ∀ d ∈ items, ∀ R : Option D → Store → Prop, R (some (f d)) μ → turn d μ R) (hl : items.length ≤ Sz)
    (q : Q (items.map f) μ) : compTurns turn guard items μ [] Q := by
  refine comp_pure (fun d => some (f d)) hg h (by simpa using hl) ?_
  simpa using q
@[simp] theorem boolsOf_nil : boolsOf [] = some [] := rfl
theorem boolsOf_map {α : Type} (f : α → Bool) : ∀ xs : List α, boolsOf (xs.map fun x => D.bl (f x)) = some (xs.map f)
  | [] => rfl
  | x :: xs => by
    show (boolsOf (xs.map fun x => D.bl (f x))).map (f x :: ·) = _
    rw [boolsOf_map f xs]; rfl
theorem all_map {α : Type} (f : α → Bool) (xs : List α) : (xs.map f).all id = xs.all f := by
  rw [List.all_map]; rfl
theorem atD0 {α : Type} {x : α} {xs : List α} : atD (x :: xs) 0 = some x := rfl
theorem le_sz {n : Nat} (h : n ≤ 16777216) : n ≤ Sz := h
theorem comp_mapF {α : Type} (g f : α → D) {turn : D → Store → (Option D → Store → Prop) → Prop} {guard : Store → Prop} {μ : Store} {Q : List D → Store → Prop} (hg : guard μ) : ∀ {xs : List α} {acc : List D}, (∀ a ∈ xs, ∀ R : Option D → Store → Prop, R (some (f a)) μ → turn (g a) μ R) → acc.length + xs.length ≤ Sz →
    Q (acc ++ xs.map f) μ → compTurns turn guard (xs.map g) μ acc Q
  | [], acc, _, _, q => ⟨hg, by simpa using q⟩
  | a :: as, acc, h, hl, q => by
    rw [List.length_cons] at hl
    refine ⟨hg, h a List.mem_cons_self _ ?_⟩
    refine ⟨by omega, comp_mapF g f hg (fun x hx => h x (List.mem_cons_of_mem _ hx)) (by rw [List.length_append, List.length_singleton]; omega) ?_⟩
    rw [List.append_assoc]; exact q
/-! ### cells -/
section
variable {μ : Store} {i : Nat} {xs ys : List D} {x : D}
theorem len_ref (h : μ[i]? = some (.lst xs)) : lenD μ (.ref i) = some xs.length := by simp [lenD, h]
theorem seq_ref (h : μ[i]? = some (.lst xs)) : seqOf μ (.ref i) = some xs := by simp [seqOf, h]
theorem lstOf_ref (h : μ[i]? = some (.lst xs)) : lstOf μ (.ref i) = some xs := by simp [lstOf, h]
theorem truth_ref (h : μ[i]? = some (.lst xs)) : truthD μ (.ref i) = some (!xs.isEmpty) := by simp [truthD, h]
theorem deref_ref (h : μ[i]? = some (.lst xs)) : deref μ (.ref i) = .lst xs := by simp [deref, h]
theorem ix_ref (h : μ[i]? = some (.lst xs)) (k : Int) : ixD μ (.ref i) (.int k) = atD xs k := by simp [ixD, h]
theorem recv_pop (h : μ[i]? = some (.lst xs)) : recvD .pop μ (.ref i) = some () := by simp [recvD, h]
theorem recv_append (h : μ[i]? = some (.lst xs)) : recvD .append μ (.ref i) = some () := by simp [recvD, h]
theorem recv_extend (h : μ[i]? = some (.lst xs)) : recvD .extend μ (.ref i) = some () := by simp [recvD, h]
theorem p_pop (h : μ[i]? = some (.lst (xs ++ [x]))) : primD .pop [.ref i] μ = some (x, μ.set i (.lst xs)) := by simp [primD, h]
theorem p_append (h : μ[i]? = some (.lst xs)) (hl : xs.length < Sz) : primD .append [.ref i, x] μ = some (.non, μ.set i (.lst (xs ++ [x]))) := by simp [primD, h, hl]
theorem extOf_lst {y : D} (hy : lstOf μ y = some ys) : extOf μ y = some ys := by
  cases y <;> first | exact hy | cases hy
theorem p_extend {y : D} (h : μ[i]? = some (.lst xs)) (hy : lstOf μ y = some ys) (hl : xs.length + ys.length ≤ Sz) : primD .extend [.ref i, y] μ = some (.non, μ.set i (.lst (xs ++ ys))) := by simp [primD, h, extOf_lst hy, hl]
theorem p_extendT (h : μ[i]? = some (.lst xs)) (hl : xs.length + ys.length ≤ Sz) : primD .extend [.ref i, .tup ys] μ = some (.non, μ.set i (.lst (xs ++ ys))) := by simp [primD, h, extOf, hl]
theorem vt_ref (h : μ[i]? = some (.lst xs)) : vtOf μ (.ref i) = some .list := by simp [vtOf, h]
end
@[simp] theorem set_last (μ : Store) (c d : Cell) : (μ ++ [c]).set μ.length d = μ ++ [d] := by simp
theorem get_last (μ : Store) (c : Cell) : (μ ++ [c])[μ.length]? = some c := by simp
/-- a while, by a bound on its turns -/
theorem while_ind {test : Sl → Store → (Bool → Store → Prop) → Prop} {body : Sl → Store → (Sl → Store → Prop) → Prop} {nx : Sl → Store → Prop} (I : Nat → Sl → Store → Prop)
    (step : ∀ k ρ μ (N : Sl → Store → Prop), (∀ ρ' μ', I k ρ' μ' → N ρ' μ') → I (k + 1) ρ μ → test ρ μ fun b μ' => if b = true then body ρ μ' N else nx ρ μ') (h0 : ∀ ρ μ, ¬ I 0 ρ μ) :
    ∀ k ρ μ, I k ρ μ → whileN test body nx k ρ μ
  | 0, ρ, μ, h => (h0 ρ μ h).elim
  | k + 1, ρ, μ, h => step k ρ μ _ (while_ind I step h0 k) h
/-- a for, item by item -/
theorem for_ind {tg : Tg} {guard : Store → Prop} {body : Sl → Store → (Sl → Store → Prop) → Prop} {nx : Sl → Store → Prop} (I : List D → Sl → Store → Prop)
    (step : ∀ d ds ρ μ (N : Sl → Store → Prop), (∀ ρ' μ', I ds ρ' μ' → N ρ' μ') → I (d :: ds) ρ μ → guard μ ∧ opt (bindT tg d ρ) fun ρ' => body ρ' μ N) (h0 : ∀ ρ μ, I [] ρ μ → guard μ ∧ nx ρ μ) :
    ∀ ds ρ μ, I ds ρ μ → forN tg guard body nx ds ρ μ
  | [], ρ, μ, h => h0 ρ μ h
  | d :: ds, ρ, μ, h => step d ds ρ μ _ (for_ind I step h0 ds) h
theorem snoc_cases {α : Type} (xs : List α) : xs = [] ∨ ∃ ys y, xs = ys ++ [y] := by
  rcases List.eq_nil_or_concat xs with h | ⟨ys, y, h⟩
  · exact .inl h
  · exact .inr ⟨ys, y, by simpa using h⟩
theorem ss_nil (S : Sg) (E : Sl → XD → Store → Prop) (ρ : Sl) (μ : Store) (D' : PEnds) : wpSs S E .nil ρ μ D' = D'.nx ρ μ := rfl
theorem ss_cons (S : Sg) (E : Sl → XD → Store → Prop) (s : St) (r : Sts) (ρ : Sl) (μ : Store) (D' : PEnds) : wpSs S E (.cons s r) ρ μ D' = wpS S E s ρ μ { nx := fun ρ' μ' => wpSs S E r ρ' μ' D', rt := D'.rt, bk := D'.bk, ct := D'.ct } := by
  cases r <;> rfl
@[simp] theorem get_off (μ cs : Store) (j : Nat) : (μ ++ cs)[μ.length + j]? = cs[j]? := by
  rw [List.getElem?_append_right (by omega)]; congr 1; omega
@[simp] theorem get_off0 (μ cs : Store) : (μ ++ cs)[μ.length]? = cs[0]? := by
  rw [List.getElem?_append_right (by omega)]; congr 1; omega
@[simp] theorem set_off (μ cs : Store) (j : Nat) (d : Cell) : (μ ++ cs).set (μ.length + j) d = μ ++ cs.set j d := by
  rw [List.set_append_right _ _ (by omega)]; congr 2; omega
@[simp] theorem set_off0 (μ cs : Store) (d : Cell) : (μ ++ cs).set μ.length d = μ ++ cs.set 0 d := by
  rw [List.set_append_right _ _ (by omega)]; congr 2; omega
theorem EndD.gen {ν ex : Store} {d d2 : D} {Q : D → Store → Prop} (hw : wfS ν) (hd : shedD ν.length {} (ν ++ ex) d = some d2) (q : Q d2 ν) : EndD ν.length d (ν ++ ex) Q :=
  ⟨{}, by rw [shedS_drop rfl hw.n, opt_some, hd, opt_some]; exact q⟩
theorem frzR_lst {n k a : Nat} {μ : Store} {xs : List D} (ha : n ≤ a) (h : μ[a]? = some (.lst xs)) (hx : belows n xs = true) : frzR n [] μ (k + 1) a = some (.lst xs) := by
  unfold frzR keptAt
  rw [if_neg (by omega), h]
  simp only [List.findIdx?_nil, Option.map_none]
  rw [frzDs_below (fun i hi => frzR_lt _ i hi) xs hx]; rfl
theorem EndD.two {ν ex : Store} {a b : Nat} {xs ys : List D} {Q : D → Store → Prop} (hw : wfS ν) (ha : ν.length ≤ a) (h1 : (ν ++ ex)[a]? = some (.lst xs)) (hx : belows ν.length xs = true) (hb : ν.length ≤ b) (h2 : (ν ++ ex)[b]? = some (.lst ys)) (hy : belows ν.length ys = true)
    (q : Q (.lst [.lst xs, .lst ys]) ν) : EndD ν.length (.lst [.ref a, .ref b]) (ν ++ ex) Q := by
  refine EndD.gen hw ?_ q
  show (frzDs (frzR ν.length [] (ν ++ ex) 2) [.ref a, .ref b]).map D.lst = _
  show ((frzR ν.length [] (ν ++ ex) 2 a).bind fun y => (((frzR ν.length [] (ν ++ ex) 2 b).bind fun z => (some []).map (z :: ·))).map (y :: ·)).map D.lst = _
  rw [frzR_lst ha h1 hx, frzR_lst hb h2 hy]; rfl
/-- a def gives a list cell of its own: it is frozen -/
theorem EndD.cell {ν ex : Store} {a : Nat} {xs : List D} {Q : D → Store → Prop} (hw : wfS ν) (ha : ν.length ≤ a) (h1 : (ν ++ ex)[a]? = some (.lst xs)) (hx : belows ν.length xs = true) (q : Q (.lst xs) ν) : EndD ν.length (.ref a) (ν ++ ex) Q := by
  refine EndD.gen hw ?_ q
  show frzR ν.length [] (ν ++ ex) 2 a = _
  exact frzR_lst ha h1 hx
theorem belows_mem {n : Nat} : ∀ {xs : List D} {x : D}, belows n xs = true → x ∈ xs → below n x = true
  | y :: ys, x, h, hm => by
    rw [belows_cons, Bool.and_eq_true] at h
    rcases List.mem_cons.mp hm with e | e
    · rw [e]; exact h.1
    · exact belows_mem h.2 e
/-! ### ints -/
section
variable (μ : Store) (i j : Int)
@[simp] theorem bi_add : binD μ .add (.int i) (.int j) = some (.int (i + j)) := rfl
@[simp] theorem bi_sub : binD μ .sub (.int i) (.int j) = some (.int (i - j)) := rfl
theorem bi_mul (h : j.natAbs < 18446744073709551616) : binD μ .mul (.int i) (.int j) = some (.int (i * j)) := by simp [binD, intOp, h]
theorem bi_mod (h : j ≠ 0) : binD μ .mod (.int i) (.int j) = some (.int (i.fmod j)) := by simp [binD, intOp, h]
theorem bi_fdiv (h : j ≠ 0) (h2 : j.natAbs < 1073741824) : binD μ .fdiv (.int i) (.int j) = some (.int (i.fdiv j)) := by simp [binD, intOp, h, h2]
theorem bi_pow (h : 0 ≤ j) (h2 : j ≤ 1000000) (h3 : i.natAbs < 18446744073709551616) : binD μ .pow (.int i) (.int j) = some (.int (i ^ j.toNat)) := by simp [binD, intOp, h, h2, h3]
end
theorem cut_take {α : Type} (xs : List α) (k : Nat) (h : k ≤ xs.length) : cut xs none (some (k : Int)) = xs.take k := by
  unfold cut
  rw [HT.sIx_none, HT.sIx_nat, Nat.min_eq_left h, List.drop_zero, Nat.sub_zero]
theorem cut_drop {α : Type} (xs : List α) (k : Nat) (h : k ≤ xs.length) : cut xs (some (k : Int)) none = xs.drop k := by
  unfold cut
  rw [HT.sIx_none, HT.sIx_nat, Nat.min_eq_left h]
  exact List.take_of_length_le (by rw [List.length_drop]; omega)
theorem put_list {α : Type} (xs : List α) (k : Nat) (y : α) (h : k < xs.length) : xs.take k ++ [y] ++ xs.drop (k + 1) = xs.set k y := by
  rw [List.set_eq_take_append_cons_drop, if_pos h]; simp
end PY

set_option Elab.async false
set_option linter.all false
set_option maxRecDepth 100000
set_option maxHeartbeats 4000000
/-! what the program's functions on names, tests, programs do, as functions on D. -/
namespace PY
abbrev Spec := List D → Store → (D → Store → Prop) → (XD → Store → Prop) → Prop
/-- a def's body keeps its promise -/
def Body (S : Sg) (sp : Spec) (b : Sts) (N : List PySem.Str) (n : Nat) : Prop := ∀ ds μ Q E, sp ds μ Q E → ds.length = n → belows μ.length ds = true → wfS μ →
  wpSs S (fun _ x μ' => EndX μ.length x μ' E) b (startD N ds) μ { nx := fun _ μ' => EndD μ.length .non μ' Q, rt := fun d μ' => EndD μ.length d μ' Q }
def smallS : String := "abcdefghijklmnopqrstuvwxyz"
def figS : String := "0123456789"
def smallL : List Char := smallS.toList
def figL : List Char := figS.toList
def wordsL : List String := ["tests", "deeds", "given", "shows", "never", "keeps", "leaves", "skip", "stop", "assume", "if", "then", "else", "end", "while", "do", "repeat", "until", "choose", "loop", "not", "and", "or", "true", "false"]
def nameS (s : String) : Bool := match s.toList with
  | [] => false
  | c :: cs => decide (cs.length < 8) && smallL.contains c && !wordsL.contains s && (c :: cs).all fun c => smallL.contains c || figL.contains c
def isName : D → Bool
  | .str s => nameS s
  | _ => false
mutual
/-- every text within is short -/
def shorts : D → Bool
  | .str s => decide (s.toList.length ≤ 1000)
  | .tup xs | .lst xs => shortss xs
  | _ => true
def shortss : List D → Bool
  | [] => true
  | x :: xs => shorts x && shortss xs
end
@[simp] theorem shorts_str (s : String) : shorts (.str s) = decide (s.toList.length ≤ 1000) := rfl
@[simp] theorem shorts_tup (xs : List D) : shorts (.tup xs) = shortss xs := rfl
@[simp] theorem shorts_lst (xs : List D) : shorts (.lst xs) = shortss xs := rfl
@[simp] theorem shorts_non : shorts .non = true := rfl
@[simp] theorem shorts_bl (b : Bool) : shorts (.bl b) = true := rfl
@[simp] theorem shorts_int (b : Int) : shorts (.int b) = true := rfl
@[simp] theorem shortss_nil : shortss [] = true := rfl
@[simp] theorem shortss_cons (x : D) (xs : List D) : shortss (x :: xs) = (shorts x && shortss xs) := rfl
/-- plain data of short texts -/
def okD (d : D) : Bool := plain d && shorts d
def isHead : D → List String → Int → Bool
  | .tup (.str s :: r), hs, n => decide ((r.length : Int) + 1 = n) && hs.contains s
  | _, _, _ => false
/-- the n-th part -/
def part (v : D) (n : Nat) : D := match v with
  | .tup xs => xs.getD n .non
  | _ => .non
def testParts (v : D) : Option (List D) :=
  if isHead v ["true", "false"] 1 = true then some []
  else if isHead v ["name"] 2 = true then (if isName (part v 1) = true then some [] else none)
  else if isHead v ["not"] 2 = true then some [part v 1]
  else if isHead v ["and", "or"] 3 = true then some [part v 1, part v 2] else none
def progParts (v : D) : Option (List D × List D) :=
  if isHead v ["skip", "stop"] 1 = true then some ([], [])
  else if isHead v ["deed"] 2 = true then (if isName (part v 1) = true then some ([], []) else none)
  else if isHead v ["assume"] 2 = true then some ([], [part v 1])
  else if isHead v ["then", "choose"] 3 = true then some ([part v 1, part v 2], [])
  else if isHead v ["loop"] 2 = true then some ([part v 1], [])
  else if isHead v ["if"] 4 = true then some ([part v 2, part v 3], [part v 1])
  else if isHead v ["while"] 3 = true then some ([part v 2], [part v 1])
  else if isHead v ["repeat"] 3 = true then some ([part v 1], [part v 2]) else none
theorem isHead_inv {v : D} {hs : List String} {n : Int} (h : isHead v hs n = true) : ∃ s r, v = .tup (.str s :: r) ∧ (r.length : Int) + 1 = n ∧ s ∈ hs := by
  unfold isHead at h
  split at h
  · rename_i s r
    simp at h
    exact ⟨s, r, rfl, h.1, h.2⟩
  · cases h
theorem head1 {v : D} {hs : List String} (h : isHead v hs 1 = true) : ∃ s, v = .tup [.str s] ∧ s ∈ hs := by
  obtain ⟨s, r, rfl, hl, hm⟩ := isHead_inv h
  match r with
  | [] => exact ⟨s, rfl, hm⟩
  | _ :: _ => simp at hl; omega
theorem head2 {v : D} {hs : List String} (h : isHead v hs 2 = true) : ∃ s x, v = .tup [.str s, x] ∧ s ∈ hs := by
  obtain ⟨s, r, rfl, hl, hm⟩ := isHead_inv h
  match r with
  | [x] => exact ⟨s, x, rfl, hm⟩
  | [] => simp at hl
  | _ :: _ :: _ => simp at hl; omega
theorem head3 {v : D} {hs : List String} (h : isHead v hs 3 = true) : ∃ s x y, v = .tup [.str s, x, y] ∧ s ∈ hs := by
  obtain ⟨s, r, rfl, hl, hm⟩ := isHead_inv h
  match r with
  | [x, y] => exact ⟨s, x, y, rfl, hm⟩
  | [] => simp at hl
  | [_] => simp at hl
  | _ :: _ :: _ :: _ => simp at hl; omega
theorem head4 {v : D} {hs : List String} (h : isHead v hs 4 = true) : ∃ s x y z, v = .tup [.str s, x, y, z] ∧ s ∈ hs := by
  obtain ⟨s, r, rfl, hl, hm⟩ := isHead_inv h
  match r with
  | [x, y, z] => exact ⟨s, x, y, z, rfl, hm⟩
  | [] => simp at hl
  | [_] => simp at hl
  | [_, _] => simp at hl
  | _ :: _ :: _ :: _ :: _ => simp at hl; omega
mutual
/-- how big -/
def wt : D → Nat
  | .tup xs | .lst xs | .ins _ xs => wts xs + 1
  | _ => 1
def wts : List D → Nat
  | [] => 0
  | x :: xs => wt x + wts xs
end
@[simp] theorem wt_tup (xs : List D) : wt (.tup xs) = wts xs + 1 := rfl
@[simp] theorem wts_nil : wts [] = 0 := rfl
@[simp] theorem wts_cons (x : D) (xs : List D) : wts (x :: xs) = wt x + wts xs := rfl
theorem wts_append (xs ys : List D) : wts (xs ++ ys) = wts xs + wts ys := by
  induction xs with
  | nil => simp
  | cons x xs ih => simp [ih]; omega
theorem wt_pos (d : D) : 1 ≤ wt d := by cases d <;> simp [wt]
theorem testParts_wt {d : D} {ps : List D} (h : testParts d = some ps) : wts ps < wt d := by
  unfold testParts at h
  split at h
  · rename_i h1
    obtain ⟨s, rfl, _⟩ := head1 h1
    cases h; simp
  split at h
  · rename_i h1
    obtain ⟨s, x, rfl, _⟩ := head2 h1
    split at h
    · cases h; simp
    · cases h
  split at h
  · rename_i h1
    obtain ⟨s, x, rfl, _⟩ := head2 h1
    cases h; simp [part]; omega
  split at h
  · rename_i h1
    obtain ⟨s, x, y, rfl, _⟩ := head3 h1
    cases h; simp [part]; omega
  cases h
theorem progParts_wt {d : D} {ps : List D × List D} (h : progParts d = some ps) : wts ps.1 + wts ps.2 < wt d := by
  unfold progParts at h
  split at h
  · rename_i h1
    obtain ⟨s, rfl, _⟩ := head1 h1
    cases h; simp
  split at h
  · rename_i h1
    obtain ⟨s, x, rfl, _⟩ := head2 h1
    split at h
    · cases h; simp
    · cases h
  split at h
  · rename_i h1
    obtain ⟨s, x, rfl, _⟩ := head2 h1
    cases h; simp [part]; omega
  split at h
  · rename_i h1
    obtain ⟨s, x, y, rfl, _⟩ := head3 h1
    cases h; simp [part]; omega
  split at h
  · rename_i h1
    obtain ⟨s, x, rfl, _⟩ := head2 h1
    cases h; simp [part]; omega
  split at h
  · rename_i h1
    obtain ⟨s, x, y, z, rfl, _⟩ := head4 h1
    cases h; simp [part]; omega
  split at h
  · rename_i h1
    obtain ⟨s, x, y, rfl, _⟩ := head3 h1
    cases h; simp [part]; omega
  split at h
  · rename_i h1
    obtain ⟨s, x, y, rfl, _⟩ := head3 h1
    cases h; simp [part]; omega
  cases h
theorem part_ok {v : D} (n : Nat) (h : okD v = true) : okD (part v n) = true := by
  unfold part
  split
  · rename_i xs
    unfold okD at h ⊢
    simp only [plain_tup, shorts_tup, Bool.and_eq_true] at h
    have key : ∀ (ys : List D) (m : Nat), plains ys = true → shortss ys = true → (plain (ys.getD m .non) && shorts (ys.getD m .non)) = true := by
      intro ys
      induction ys with
      | nil => intro m _ _; simp
      | cons y ys ih =>
        intro m h1 h2
        rw [plains_cons, Bool.and_eq_true] at h1
        rw [shortss_cons, Bool.and_eq_true] at h2
        cases m with
        | zero => simp [h1.1, h2.1]
        | succ m => simpa using ih m h1.2 h2.2
    exact key xs n h.1 h.2
  · rfl
theorem testParts_ok {v : D} {ps : List D} (h : testParts v = some ps) (ho : okD v = true) : ∀ x ∈ ps, okD x = true := by
  have h1 := part_ok 1 ho
  have h2 := part_ok 2 ho
  unfold testParts at h
  repeat' split at h
  all_goals first | (cases h; done) | (cases h; simp [h1, h2])
theorem progParts_ok {v : D} {ps : List D × List D} (h : progParts v = some ps) (ho : okD v = true) : (∀ x ∈ ps.1, okD x = true) ∧ ∀ x ∈ ps.2, okD x = true := by
  have h1 := part_ok 1 ho
  have h2 := part_ok 2 ho
  have h3 := part_ok 3 ho
  unfold progParts at h
  repeat' split at h
  all_goals first | (cases h; done) | (cases h; simp [h1, h2, h3])
theorem wts_len : ∀ xs : List D, xs.length ≤ wts xs
  | [] => Nat.le_refl _
  | x :: xs => by
    have := wts_len xs
    have := wt_pos x
    rw [wts_cons, List.length_cons]; omega
/-- is it a test: by fuel -/
def isTestF : Nat → D → Bool
  | 0, _ => false
  | n + 1, d => match testParts d with
    | none => false
    | some ps => ps.all (isTestF n)
def isTest (d : D) : Bool := isTestF (wt d) d
def isProgF : Nat → D → Bool
  | 0, _ => false
  | n + 1, d => match progParts d with
    | none => false
    | some ps => ps.1.all (isProgF n) && ps.2.all isTest
def isProg (d : D) : Bool := isProgF (wt d) d
theorem wt_mem {x : D} : ∀ {xs : List D}, x ∈ xs → wt x ≤ wts xs
  | y :: ys, h => by
    rw [wts_cons]
    rcases List.mem_cons.mp h with e | e
    · rw [e]; omega
    · have := wt_mem e; omega
theorem isTestF_le : ∀ (n m : Nat) (d : D), wt d ≤ n → wt d ≤ m → isTestF n d = isTestF m d
  | 0, _, d, h, _ => by have := wt_pos d; omega
  | _ + 1, 0, d, _, h => by have := wt_pos d; omega
  | n + 1, m + 1, d, h1, h2 => by
    unfold isTestF
    cases h : testParts d with
    | none => rfl
    | some ps =>
      have hw := testParts_wt h
      simp only []
      refine Bool.eq_iff_iff.mpr ?_
      simp only [List.all_eq_true]
      constructor
      · intro k x hx
        have := wt_mem hx
        rw [← isTestF_le n m x (by omega) (by omega)]; exact k x hx
      · intro k x hx
        have := wt_mem hx
        rw [isTestF_le n m x (by omega) (by omega)]; exact k x hx
theorem isTest_eq (d : D) : isTest d = match testParts d with
    | none => false
    | some ps => ps.all isTest := by
  unfold isTest
  have hp := wt_pos d
  obtain ⟨k, hk⟩ : ∃ k, wt d = k + 1 := ⟨wt d - 1, by omega⟩
  rw [hk]
  show (match testParts d with | none => false | some ps => ps.all (isTestF k)) = _
  cases h : testParts d with
  | none => rfl
  | some ps =>
    have hw := testParts_wt h
    simp only []
    refine Bool.eq_iff_iff.mpr ?_
    simp only [List.all_eq_true]
    constructor
    · intro q x hx
      have := wt_mem hx
      show isTestF (wt x) x = true
      rw [isTestF_le (wt x) k x (Nat.le_refl _) (by omega)]; exact q x hx
    · intro q x hx
      have := wt_mem hx
      rw [isTestF_le k (wt x) x (by omega) (Nat.le_refl _)]; exact q x hx
theorem isProgF_le : ∀ (n m : Nat) (d : D), wt d ≤ n → wt d ≤ m → isProgF n d = isProgF m d
  | 0, _, d, h, _ => by have := wt_pos d; omega
  | _ + 1, 0, d, _, h => by have := wt_pos d; omega
  | n + 1, m + 1, d, h1, h2 => by
    unfold isProgF
    cases h : progParts d with
    | none => rfl
    | some ps =>
      have hw := progParts_wt h
      simp only []
      congr 1
      refine Bool.eq_iff_iff.mpr ?_
      simp only [List.all_eq_true]
      constructor
      · intro k x hx
        have := wt_mem hx
        rw [← isProgF_le n m x (by omega) (by omega)]; exact k x hx
      · intro k x hx
        have := wt_mem hx
        rw [isProgF_le n m x (by omega) (by omega)]; exact k x hx
theorem isProg_eq (d : D) : isProg d = match progParts d with
    | none => false
    | some ps => ps.1.all isProg && ps.2.all isTest := by
  unfold isProg
  have hp := wt_pos d
  obtain ⟨k, hk⟩ : ∃ k, wt d = k + 1 := ⟨wt d - 1, by omega⟩
  rw [hk]
  show (match progParts d with | none => false | some ps => ps.1.all (isProgF k) && ps.2.all isTest) = _
  cases h : progParts d with
  | none => rfl
  | some ps =>
    have hw := progParts_wt h
    simp only []
    congr 1
    refine Bool.eq_iff_iff.mpr ?_
    simp only [List.all_eq_true]
    constructor
    · intro q x hx
      have := wt_mem hx
      show isProgF (wt x) x = true
      rw [isProgF_le (wt x) k x (Nat.le_refl _) (by omega)]; exact q x hx
    · intro q x hx
      have := wt_mem hx
      rw [isProgF_le k (wt x) x (by omega) (Nat.le_refl _)]; exact q x hx
/-! ### promises -/
def pure1 (f : D → D) : Spec
  | [v], μ, Q, _ => okD v = true ∧ Q (f v) μ
  | _, _, _, _ => False
def isRow : D → Bool
  | .tup _ | .lst _ => true
  | _ => false
def sp_is_row : Spec := pure1 fun v => .bl (isRow v)
def sp_is_name : Spec := pure1 fun v => .bl (isName v)
def sp_is_head : Spec
  | [v, .tup hs, .int n], μ, Q, _ => plain v = true ∧ 1 ≤ n ∧ opt (strsOf hs) fun ss => Q (.bl (isHead v ss n)) μ
  | _, _, _, _ => False
@[simp] theorem strsOf_nil : strsOf [] = some [] := rfl
@[simp] theorem strsOf_cons (s : String) (r : List D) : strsOf (.str s :: r) = (strsOf r).map (s :: ·) := rfl
@[simp] theorem strsOf_map : ∀ ss : List String, strsOf (ss.map D.str) = some ss
  | [] => rfl
  | s :: ss => by show (strsOf (ss.map D.str)).map (s :: ·) = _; rw [strsOf_map ss]; rfl
theorem strsOf_some : ∀ {ds : List D} {ss : List String}, strsOf ds = some ss → ds = ss.map D.str
  | [], ss, h => by cases h; rfl
  | d :: ds, ss, h => by
    cases d with
    | str s =>
      obtain ⟨t, h1, rfl⟩ := Option.map_eq_some_iff.mp (show (strsOf ds).map (s :: ·) = some ss from h)
      rw [strsOf_some h1]; rfl
    | _ => cases h
def optL : Option (List D) → D
  | none => .non
  | some l => .lst l
def optP : Option (List D × List D) → D
  | none => .non
  | some l => .tup [.lst l.1, .lst l.2]
def sp_test_parts : Spec := pure1 fun v => optL (testParts v)
/-- of one value that is not too big -/
def pureW (f : D → D) : Spec
  | [v], μ, Q, _ => okD v = true ∧ wt v ≤ 1000000 ∧ Q (f v) μ
  | _, _, _, _ => False
def sp_is_test : Spec := pureW fun v => .bl (isTest v)
def sp_program_parts : Spec := pure1 fun v => optP (progParts v)
def sp_is_program : Spec := pureW fun v => .bl (isProg v)
/-! ### statements, wholes -/
def headIn (v : D) (hs : List String) : Bool := match v with
  | .tup (.str s :: _) => hs.contains s
  | _ => false
def rawParts (v : D) : Option (List D × List D) :=
  if isHead v ["never"] 2 = true then some ([part v 1], [])
  else if isHead v ["keeps", "leaves"] 3 = true then some ([part v 1], [part v 2])
  else if isHead v ["triple"] 4 = true then some ([part v 2], [part v 1, part v 3])
  else if isHead v ["same", "below"] 3 = true then some ([part v 1, part v 2], []) else none
def stmtParts (v : D) (hs : List String) : Option (List D × List D) :=
  if headIn v hs = true then (match rawParts v with
    | some ps => if (ps.1.all isProg && ps.2.all isTest) = true then some ps else none
    | none => none) else none
theorem rawParts_ok {v : D} {ps : List D × List D} (h : rawParts v = some ps) (ho : okD v = true) : (∀ x ∈ ps.1, okD x = true) ∧ ∀ x ∈ ps.2, okD x = true := by
  have h1 := part_ok 1 ho
  have h2 := part_ok 2 ho
  have h3 := part_ok 3 ho
  unfold rawParts at h
  repeat' split at h
  all_goals first | (cases h; done) | (cases h; simp [h1, h2, h3])
theorem rawParts_wt {d : D} {ps : List D × List D} (h : rawParts d = some ps) : wts ps.1 + wts ps.2 < wt d := by
  unfold rawParts at h
  split at h
  · rename_i h1
    obtain ⟨s, x, rfl, _⟩ := head2 h1
    cases h; simp [part]; omega
  split at h
  · rename_i h1
    obtain ⟨s, x, y, rfl, _⟩ := head3 h1
    cases h; simp [part]; omega
  split at h
  · rename_i h1
    obtain ⟨s, x, y, z, rfl, _⟩ := head4 h1
    cases h; simp [part]; omega
  split at h
  · rename_i h1
    obtain ⟨s, x, y, rfl, _⟩ := head3 h1
    cases h; simp [part]; omega
  cases h
/-- the head of a statement, and whether it is in hs -/
def sp_statement_parts : Spec
  | [v, .tup hs], μ, Q, _ => okD v = true ∧ wt v ≤ 1000000 ∧ opt (strsOf hs) fun ss => Q (optP (stmtParts v ss)) μ
  | _, _, _, _ => False
def sp_hypothesis_parts : Spec := pureW fun v => optP (stmtParts v ["never", "keeps", "leaves", "triple"])
def sp_saying_parts : Spec := pureW fun v => optP (stmtParts v ["same", "below", "triple"])
def namesB (xs : List D) : Bool := xs.all isName && (match strsOf xs with
  | some ss => decide (distD ss = ss.length)
  | none => false)
def areNames : D → Bool
  | .tup xs | .lst xs => namesB xs
  | _ => false
def sp_are_names : Spec
  | [v, .non], μ, Q, _ => okD v = true ∧ wt v ≤ 3000 ∧ Q (.bl (areNames v)) μ
  | _, _, _, _ => False
theorem isName_str {d : D} (h : isName d = true) : ∃ s, d = .str s := by
  cases d <;> first | exact ⟨_, rfl⟩ | cases h
theorem names_strs : ∀ {xs : List D}, xs.all isName = true → ∃ ss, strsOf xs = some ss ∧ ss.length = xs.length
  | [], _ => ⟨[], rfl, rfl⟩
  | x :: xs, h => by
    rw [List.all_cons, Bool.and_eq_true] at h
    obtain ⟨s, rfl⟩ := isName_str h.1
    obtain ⟨ss, h1, h2⟩ := names_strs h.2
    exact ⟨s :: ss, by rw [strsOf_cons, h1]; rfl, by simp [h2]⟩
theorem oks_plains {xs : List D} (h : ∀ x ∈ xs, okD x = true) : plains xs = true := plains_iff.mpr fun x hm => by
  have := h x hm
  unfold okD at this
  rw [Bool.and_eq_true] at this
  exact this.1
theorem okD_mem {v : D} {xs : List D} (hv : v = .tup xs ∨ v = .lst xs) (h : okD v = true) : ∀ x ∈ xs, okD x = true := by
  have key : ∀ ys : List D, plains ys = true → shortss ys = true → ∀ x ∈ ys, okD x = true := by
    intro ys
    induction ys with
    | nil => intro _ _ x hx; simp at hx
    | cons y ys ih =>
      intro h1 h2 x hx
      rw [plains_cons, Bool.and_eq_true] at h1
      rw [shortss_cons, Bool.and_eq_true] at h2
      rcases List.mem_cons.mp hx with e | e
      · rw [e]; unfold okD; rw [h1.1, h2.1]; rfl
      · exact ih h1.2 h2.2 x e
  rcases hv with rfl | rfl
  · unfold okD at h
    rw [Bool.and_eq_true] at h
    exact key xs h.1 h.2
  · unfold okD at h
    rw [Bool.and_eq_true] at h
    exact key xs h.1 h.2
theorem oks_shorts : ∀ {xs : List D}, (∀ x ∈ xs, okD x = true) → shortss xs = true
  | [], _ => rfl
  | x :: xs, h => by
    have h1 := h x (by simp)
    unfold okD at h1
    rw [Bool.and_eq_true] at h1
    rw [shortss_cons, h1.2, oks_shorts fun y hy => h y (by simp [hy])]; rfl
theorem stmtParts_some {v : D} {hs : List String} {ps : List D × List D} (h : stmtParts v hs = some ps) : headIn v hs = true ∧ rawParts v = some ps ∧ ps.1.all isProg = true ∧ ps.2.all isTest = true := by
  unfold stmtParts at h
  split at h
  · rename_i h1
    split at h
    · rename_i ps' hr
      split at h
      · rename_i h2
        cases h
        rw [Bool.and_eq_true] at h2
        exact ⟨h1, hr, h2.1, h2.2⟩
      · cases h
    · cases h
  · cases h
theorem stmtParts_plain {v : D} (hs : List String) (ho : okD v = true) : plain (optP (stmtParts v hs)) = true := by
  cases h : stmtParts v hs with
  | none => rfl
  | some ps =>
    obtain ⟨_, hr, _, _⟩ := stmtParts_some h
    obtain ⟨h1, h2⟩ := rawParts_ok hr ho
    simp [optP, oks_plains h1, oks_plains h2]
/-! ### all parts -/
def allF (parts : D → List D) : Nat → (D → Bool) → D → Bool
  | 0, _, _ => true
  | n + 1, g, d => g d && (parts d).all (allF parts n g)
def allD (parts : D → List D) (g : D → Bool) (d : D) : Bool := allF parts (wt d) g d
theorem allF_le {parts : D → List D} (hp : ∀ d, wts (parts d) < wt d) (g : D → Bool) : ∀ (n m : Nat) (d : D), wt d ≤ n → wt d ≤ m → allF parts n g d = allF parts m g d
  | 0, _, d, h, _ => by have := wt_pos d; omega
  | _ + 1, 0, d, _, h => by have := wt_pos d; omega
  | n + 1, m + 1, d, h1, h2 => by
    unfold allF
    have hw := hp d
    congr 1
    refine Bool.eq_iff_iff.mpr ?_
    simp only [List.all_eq_true]
    constructor
    · intro k x hx
      have := wt_mem hx
      rw [← allF_le hp g n m x (by omega) (by omega)]; exact k x hx
    · intro k x hx
      have := wt_mem hx
      rw [allF_le hp g n m x (by omega) (by omega)]; exact k x hx
theorem allD_eq {parts : D → List D} (hp : ∀ d, wts (parts d) < wt d) (g : D → Bool) (d : D) : allD parts g d = (g d && (parts d).all (allD parts g)) := by
  unfold allD
  have h0 := wt_pos d
  obtain ⟨k, hk⟩ : ∃ k, wt d = k + 1 := ⟨wt d - 1, by omega⟩
  rw [hk]
  show (g d && (parts d).all (allF parts k g)) = _
  have hw := hp d
  congr 1
  refine Bool.eq_iff_iff.mpr ?_
  simp only [List.all_eq_true]
  constructor
  · intro q x hx
    have := wt_mem hx
    show allF parts (wt x) g x = true
    rw [allF_le hp g (wt x) k x (Nat.le_refl _) (by omega)]; exact q x hx
  · intro q x hx
    have := wt_mem hx
    have h2 : allF parts (wt x) g x = true := q x hx
    rw [allF_le hp g k (wt x) x (by omega) (Nat.le_refl _)]; exact h2
def tparts (d : D) : List D := (testParts d).getD []
def pparts (d : D) : List D := ((progParts d).map (·.1)).getD []
def ptests (d : D) : List D := ((progParts d).map (·.2)).getD []
theorem tparts_wt (d : D) : wts (tparts d) < wt d := by
  unfold tparts
  cases h : testParts d with
  | none => have := wt_pos d; simp; omega
  | some ps => exact testParts_wt h
theorem pparts_wt (d : D) : wts (pparts d) < wt d := by
  unfold pparts
  cases h : progParts d with
  | none => have := wt_pos d; simp; omega
  | some ps => have := progParts_wt h; simp; omega
abbrev subT := allD tparts
abbrev subP := allD pparts
theorem subT_eq (g : D → Bool) (d : D) : subT g d = (g d && (tparts d).all (subT g)) := allD_eq tparts_wt g d
theorem subP_eq (g : D → Bool) (d : D) : subP g d = (g d && (pparts d).all (subP g)) := allD_eq pparts_wt g d
/-- F: all parts of the programs ps; T: all parts of their tests and of ts -/
structure AllOf (ps ts F T : List D) : Prop where
  okF : ∀ x ∈ F, okD x = true
  okT : ∀ x ∈ T, okD x = true
  prF : F.all isProg = true
  teT : T.all isTest = true
  lF : F.length ≤ 500000
  lT : T.length ≤ 500000
  F : ∀ f, F.all f = ps.all (subP f)
  T : ∀ g, T.all g = (ts.all (subT g) && ps.all (subP fun p => (ptests p).all (subT g)))
def sp_all_parts : Spec
  | [.lst ps, .lst ts], μ, Q, _ => (∀ x ∈ ps, okD x = true) ∧ (∀ x ∈ ts, okD x = true) ∧ ps.all isProg = true ∧ ts.all isTest = true ∧ wts ps + wts ts ≤ 500000 ∧ ∀ F T, AllOf ps ts F T → Q (.lst [.lst F, .lst T]) μ
  | _, _, _, _ => False
/-! ### wholes -/
def sayP (v : D) : Option (List D × List D) := stmtParts v ["same", "below", "triple"]
def hypP (v : D) : Option (List D × List D) := stmtParts v ["never", "keeps", "leaves", "triple"]
def fsts (o : Option (List D × List D)) : List D := (o.map (·.1)).getD []
def snds (o : Option (List D × List D)) : List D := (o.map (·.2)).getD []
def wp1 (s : D) (c : List D) : List D := fsts (sayP s) ++ (c.map fun h => fsts (hypP h)).flatten
def wp2 (s : D) (c : List D) : List D := snds (sayP s) ++ (c.map fun h => snds (hypP h)).flatten
theorem stmtParts_wt {v : D} {hs : List String} : wts (fsts (stmtParts v hs)) + wts (snds (stmtParts v hs)) ≤ wt v := by
  cases h : stmtParts v hs with
  | none => simp [fsts, snds]
  | some ps =>
    have := rawParts_wt (stmtParts_some h).2.1
    simp [fsts, snds]; omega
theorem stmtParts_oks {v : D} {hs : List String} (ho : okD v = true) : (∀ x ∈ fsts (stmtParts v hs), okD x = true) ∧ ∀ x ∈ snds (stmtParts v hs), okD x = true := by
  cases h : stmtParts v hs with
  | none => simp [fsts, snds]
  | some ps => exact rawParts_ok (stmtParts_some h).2.1 ho
theorem stmtParts_good {v : D} {hs : List String} : (fsts (stmtParts v hs)).all isProg = true ∧ (snds (stmtParts v hs)).all isTest = true := by
  cases h : stmtParts v hs with
  | none => simp [fsts, snds]
  | some ps => exact (stmtParts_some h).2.2
theorem hyps_wt : ∀ c : List D, wts (c.map fun h => fsts (hypP h)).flatten + wts (c.map fun h => snds (hypP h)).flatten ≤ wts c
  | [] => by simp
  | h :: c => by
    have h1 := hyps_wt c
    have h2 := stmtParts_wt (v := h) (hs := ["never", "keeps", "leaves", "triple"])
    simp only [List.map_cons, List.flatten_cons, wts_append, wts_cons]
    show wts (fsts (hypP h)) + _ + (wts (snds (hypP h)) + _) ≤ _
    unfold hypP at h1 ⊢
    omega
theorem wp_wt (s : D) (c : List D) : wts (wp1 s c) + wts (wp2 s c) ≤ wt s + wts c := by
  have h1 := hyps_wt c
  have h2 := stmtParts_wt (v := s) (hs := ["same", "below", "triple"])
  unfold wp1 wp2
  rw [wts_append, wts_append]
  show wts (fsts (stmtParts s _)) + _ + (wts (snds (stmtParts s _)) + _) ≤ _
  omega
theorem wp_ok {s : D} {c : List D} (hs : okD s = true) (hc : ∀ x ∈ c, okD x = true) : (∀ x ∈ wp1 s c, okD x = true) ∧ ∀ x ∈ wp2 s c, okD x = true := by
  unfold wp1 wp2
  refine ⟨fun x hx => ?_, fun x hx => ?_⟩
  · rcases List.mem_append.mp hx with h | h
    · exact (stmtParts_oks hs).1 x h
    · obtain ⟨l, hl, hx⟩ := List.mem_flatten.mp h
      obtain ⟨y, hy, rfl⟩ := List.mem_map.mp hl
      exact (stmtParts_oks (hc y hy)).1 x hx
  · rcases List.mem_append.mp hx with h | h
    · exact (stmtParts_oks hs).2 x h
    · obtain ⟨l, hl, hx⟩ := List.mem_flatten.mp h
      obtain ⟨y, hy, rfl⟩ := List.mem_map.mp hl
      exact (stmtParts_oks (hc y hy)).2 x hx
theorem wp_good (s : D) (c : List D) : (wp1 s c).all isProg = true ∧ (wp2 s c).all isTest = true := by
  unfold wp1 wp2
  constructor
  · rw [List.all_append, Bool.and_eq_true]
    refine ⟨stmtParts_good.1, List.all_eq_true.mpr fun x h => ?_⟩
    obtain ⟨l, hl, hx⟩ := List.mem_flatten.mp h
    obtain ⟨y, hy, rfl⟩ := List.mem_map.mp hl
    exact List.all_eq_true.mp stmtParts_good.1 x hx
  · rw [List.all_append, Bool.and_eq_true]
    refine ⟨stmtParts_good.2, List.all_eq_true.mpr fun x h => ?_⟩
    obtain ⟨l, hl, hx⟩ := List.mem_flatten.mp h
    obtain ⟨y, hy, rfl⟩ := List.mem_map.mp hl
    exact List.all_eq_true.mp stmtParts_good.2 x hx
def sp_whole_parts : Spec
  | [.tup [_, _, _, .tup c, s]], μ, Q, _ => okD s = true ∧ (∀ x ∈ c, okD x = true) ∧ wt s + wts c ≤ 400000 ∧ (sayP s).isSome = true ∧ (c.all fun h => (hypP h).isSome) = true ∧ Q (.tup [.lst (wp1 s c), .lst (wp2 s c)]) μ
  | _, _, _, _ => False
/-- a node headed k has its name in vs -/
def nodeIn (k : String) (vs : List D) (d : D) : Bool := if eqv (part d 0) (.str k) = true then vs.any fun y => eqv y (part d 1) else true
def isWhole : D → Bool
  | .tup [.str h, .tup a, .tup b, .tup c, s] => (h == "whole") && namesB (a ++ b) && (sayP s).isSome && (c.all fun h => (hypP h).isSome) &&
      ((wp2 s c).all (subT (nodeIn "name" a)) && (wp1 s c).all (subP fun p => (ptests p).all (subT (nodeIn "name" a)))) && (wp1 s c).all (subP (nodeIn "deed" b))
  | _ => false
def sp_is_whole : Spec
  | [v], μ, Q, _ => okD v = true ∧ wt v ≤ 400000 ∧ wt (part v 1) + wt (part v 2) ≤ 2900 ∧ Q (.bl (isWhole v)) μ
  | _, _, _, _ => False
theorem head5 {v : D} {hs : List String} (h : isHead v hs 5 = true) : ∃ s x y z u, v = .tup [.str s, x, y, z, u] ∧ s ∈ hs := by
  obtain ⟨s, r, rfl, hl, hm⟩ := isHead_inv h
  match r with
  | [x, y, z, u] => exact ⟨s, x, y, z, u, rfl, hm⟩
  | [] => simp at hl
  | [_] => simp at hl
  | [_, _] => simp at hl
  | [_, _, _] => simp at hl
  | _ :: _ :: _ :: _ :: _ :: _ => simp at hl; omega
theorem isTest_shape {t : D} (h : isTest t = true) : ∃ s r, t = .tup (.str s :: r) ∧ (s = "name" → ∃ x, r = [x] ∧ isName x = true) := by
  rw [isTest_eq] at h
  cases ht : testParts t with
  | none => rw [ht] at h; cases h
  | some ps =>
    unfold testParts at ht
    split at ht
    · rename_i h1
      obtain ⟨s, rfl, hm⟩ := head1 h1
      exact ⟨s, [], rfl, fun e => by subst e; simp at hm⟩
    split at ht
    · rename_i h1
      obtain ⟨s, x, rfl, hm⟩ := head2 h1
      split at ht
      · rename_i h2
        exact ⟨s, [x], rfl, fun _ => ⟨x, rfl, h2⟩⟩
      · cases ht
    split at ht
    · rename_i h1
      obtain ⟨s, x, rfl, hm⟩ := head2 h1
      exact ⟨s, [x], rfl, fun e => by subst e; simp at hm⟩
    split at ht
    · rename_i h1
      obtain ⟨s, x, y, rfl, hm⟩ := head3 h1
      exact ⟨s, [x, y], rfl, fun e => by subst e; simp at hm⟩
    cases ht
theorem isProg_shape {t : D} (h : isProg t = true) : ∃ s r, t = .tup (.str s :: r) ∧ (s = "deed" → ∃ x, r = [x] ∧ isName x = true) := by
  rw [isProg_eq] at h
  cases ht : progParts t with
  | none => rw [ht] at h; cases h
  | some ps =>
    unfold progParts at ht
    split at ht
    · rename_i h1
      obtain ⟨s, rfl, hm⟩ := head1 h1
      exact ⟨s, [], rfl, fun e => by subst e; simp at hm⟩
    split at ht
    · rename_i h1
      obtain ⟨s, x, rfl, hm⟩ := head2 h1
      split at ht
      · rename_i h2
        exact ⟨s, [x], rfl, fun _ => ⟨x, rfl, h2⟩⟩
      · cases ht
    split at ht
    · rename_i h1
      obtain ⟨s, x, rfl, hm⟩ := head2 h1
      exact ⟨s, [x], rfl, fun e => by subst e; simp at hm⟩
    split at ht
    · rename_i h1
      obtain ⟨s, x, y, rfl, hm⟩ := head3 h1
      exact ⟨s, [x, y], rfl, fun e => by subst e; simp at hm⟩
    split at ht
    · rename_i h1
      obtain ⟨s, x, rfl, hm⟩ := head2 h1
      exact ⟨s, [x], rfl, fun e => by subst e; simp at hm⟩
    split at ht
    · rename_i h1
      obtain ⟨s, x, y, z, rfl, hm⟩ := head4 h1
      exact ⟨s, [x, y, z], rfl, fun e => by subst e; simp at hm⟩
    split at ht
    · rename_i h1
      obtain ⟨s, x, y, rfl, hm⟩ := head3 h1
      exact ⟨s, [x, y], rfl, fun e => by subst e; simp at hm⟩
    split at ht
    · rename_i h1
      obtain ⟨s, x, y, rfl, hm⟩ := head3 h1
      exact ⟨s, [x, y], rfl, fun e => by subst e; simp at hm⟩
    cases ht
/-- the truths of what passes a test -/
theorem boolsOf_filter (p : D → Bool) (g : D → Bool) : ∀ xs : List D, ∃ bs, boolsOf (xs.filterMap fun d => if p d = true then some (D.bl (g d)) else none) = some bs ∧ bs.all id = xs.all fun d => if p d = true then g d else true
  | [] => ⟨[], rfl, rfl⟩
  | x :: xs => by
    obtain ⟨bs, h1, h2⟩ := boolsOf_filter p g xs
    rw [List.filterMap_cons, List.all_cons]
    cases hp : p x with
    | true =>
      refine ⟨g x :: bs, ?_, ?_⟩
      · simp only [hp, if_true]
        show (boolsOf _).map (g x :: ·) = _
        rw [h1]; rfl
      · rw [List.all_cons, h2]; simp
    | false =>
      refine ⟨bs, ?_, ?_⟩
      · simp only [Bool.false_eq_true, if_false]
        exact h1
      · rw [h2]; simp
end PY

set_option Elab.async false
set_option linter.all false
set_option maxRecDepth 100000
set_option maxHeartbeats 4000000
/-! the laws' pen: what is drawn. -/
namespace PY
def penK (xs : List D) (at_ dg ct fd : Int) : List (D × D) := [(.str "cells", .lst xs), (.str "at", .int at_), (.str "digits", .int dg), (.str "count", .int ct), (.str "fold", .int fd)]
/-- a pen that has drawn C times at most -/
def PenC (C : Int) (c : Cell) : Prop := ∃ (ns : List Int) (at_ dg ct fd : Int), c = .dct false (penK (ns.map .int) at_ dg ct fd) ∧ 0 ≤ at_ ∧ 0 ≤ dg ∧ 0 ≤ ct ∧ ct ≤ C ∧ 0 ≤ fd ∧ fd < 4294967296
theorem PenC.mono {C C' : Int} {c : Cell} (h : PenC C c) (hc : C ≤ C') : PenC C' c := by
  obtain ⟨ns, a, d, t, f, e, h1, h2, h3, h4, h5, h6⟩ := h
  exact ⟨ns, a, d, t, f, e, h1, h2, h3, by omega, h5, h6⟩
/-- the most draws that are told -/
abbrev Many : Int := 1000000000000
section
variable {μ : Store} {p : Nat} {xs : List D} {a d t f : Int}
theorem pen_cells (h : μ[p]? = some (.dct false (penK xs a d t f))) : ixD μ (.ref p) (.str "cells") = some (.lst xs) := by simp [ixD, h, keyOf, flatKey, look, penK]
theorem pen_at (h : μ[p]? = some (.dct false (penK xs a d t f))) : ixD μ (.ref p) (.str "at") = some (.int a) := by simp [ixD, h, keyOf, flatKey, look, penK]
theorem pen_digits (h : μ[p]? = some (.dct false (penK xs a d t f))) : ixD μ (.ref p) (.str "digits") = some (.int d) := by simp [ixD, h, keyOf, flatKey, look, penK]
theorem pen_count (h : μ[p]? = some (.dct false (penK xs a d t f))) : ixD μ (.ref p) (.str "count") = some (.int t) := by simp [ixD, h, keyOf, flatKey, look, penK]
theorem pen_fold (h : μ[p]? = some (.dct false (penK xs a d t f))) : ixD μ (.ref p) (.str "fold") = some (.int f) := by simp [ixD, h, keyOf, flatKey, look, penK]
theorem set_at (h : μ[p]? = some (.dct false (penK xs a d t f))) (v : Int) : primD .setix [.ref p, .str "at", .int v] μ = some (.non, μ.set p (.dct false (penK xs v d t f))) := by
  simp [primD, h, keyOf, flatKey, put, penK, Sz]
theorem set_digits (h : μ[p]? = some (.dct false (penK xs a d t f))) (v : Int) : primD .setix [.ref p, .str "digits", .int v] μ = some (.non, μ.set p (.dct false (penK xs a v t f))) := by
  simp [primD, h, keyOf, flatKey, put, penK, Sz]
theorem set_count (h : μ[p]? = some (.dct false (penK xs a d t f))) (v : Int) : primD .setix [.ref p, .str "count", .int v] μ = some (.non, μ.set p (.dct false (penK xs a d v f))) := by
  simp [primD, h, keyOf, flatKey, put, penK, Sz]
theorem set_fold (h : μ[p]? = some (.dct false (penK xs a d t f))) (v : Int) : primD .setix [.ref p, .str "fold", .int v] μ = some (.non, μ.set p (.dct false (penK xs a d t v))) := by
  simp [primD, h, keyOf, flatKey, put, penK, Sz]
end
def sp_law_draw : Spec
  | [.ref p, .int many], μ, Q, _ => ∃ C pen, μ[p]? = some pen ∧ PenC C pen ∧ C < Many ∧ 1 ≤ many ∧ many < 1073741824 ∧ ∀ r pen', 0 ≤ r → r < many → PenC (C + 1) pen' → Q (.int r) (μ.set p pen')
  | _, _, _, _ => False
def sp_law_pick : Spec
  | [.ref p, .lst xs], μ, Q, _ => ∃ C pen, μ[p]? = some pen ∧ PenC C pen ∧ C < Many ∧ xs ≠ [] ∧ xs.length < 1073741824 ∧ ∀ x ∈ xs, ∀ pen', PenC (C + 1) pen' → Q x (μ.set p pen')
  | _, _, _, _ => False
def sp_law_pen : Spec
  | [.lst xs], μ, Q, _ => ∃ ns : List Int, xs = ns.map .int ∧ ns.length ≤ 1000 ∧ ∀ pen, PenC 0 pen → Q (.ref μ.length) (μ ++ [pen])
  | [.scr ns], μ, Q, _ => ns.length ≤ 1000 ∧ ∀ pen, PenC 0 pen → Q (.ref μ.length) (μ ++ [pen])
  | _, _, _, _ => False
def sp_law_is_truth : Spec
  | [v, .bl b], μ, Q, _ => okD v = true ∧ Q (.bl (match v with | .bl c => c == b | _ => false)) μ
  | _, _, _, _ => False
/-- a pen's cell keeps to what was there -/
theorem PenC.below {C : Int} {c : Cell} (h : PenC C c) (n : Nat) : belowC n c = true := by
  obtain ⟨ns, a, d, t, f, rfl, _⟩ := h
  show belows n ((penK (ns.map .int) a d t f).map (·.2)) = true
  simp [penK]
  exact belows_plain _ (plains_iff.mpr fun x hx => by obtain ⟨n, _, rfl⟩ := List.mem_map.mp hx; rfl)
theorem wfS.set {μ : Store} {p : Nat} {c : Cell} (h : wfS μ) (hc : belowC μ.length c = true) : wfS (μ.set p c) := by
  intro i k e
  rw [List.length_set]
  by_cases hi : i = p
  · subst hi
    by_cases hl : i < μ.length
    · rw [List.getElem?_set_self hl] at e
      cases e; exact hc
    · rw [List.getElem?_eq_none (by simpa using hl)] at e; cases e
  · rw [List.getElem?_set_ne (Ne.symm hi)] at e
    exact h i k e
/-- the end of a def that wrote the pen -/
theorem EndD.pen {μ : Store} {p : Nat} {c : Cell} {d : D} {Q : D → Store → Prop} (hw : wfS μ) (hc : belowC μ.length c = true) (hd : below μ.length d = true) (q : Q d (μ.set p c)) : EndD μ.length d (μ.set p c) Q := by
  have h := EndD.same (μ := μ.set p c) (Q := Q) (hw.set hc) (by rw [List.length_set]; exact hd) q
  rw [List.length_set] at h
  exact h
/-- a def gives a new cell, and keeps it -/
theorem EndD.keep {ν : Store} {c : Cell} {Q : D → Store → Prop} (hw : wfS ν) (hc : belowC ν.length c = true) (q : Q (.ref ν.length) (ν ++ [c])) : EndD ν.length (.ref ν.length) (ν ++ [c]) Q := by
  refine ⟨{ js := [ν.length] }, ?_⟩
  have e1 : shedS ν.length { js := [ν.length] } (ν ++ [c]) = some (ν ++ [c]) := by
    unfold shedS
    rw [if_pos (by simp [shedOk])]
    have e : ((List.range ν.length ++ [ν.length]).map fun (i : Nat) => (ν ++ [c])[i]?) = (ν ++ [c]).map some := by
      apply List.ext_getElem?
      intro i
      by_cases hi : i < ν.length
      · rw [List.getElem?_map, List.getElem?_append_left (by simpa using hi), List.getElem?_range hi, List.getElem?_map]
        simp [List.getElem?_append_left hi, hi]
      · by_cases hi2 : i = ν.length
        · subst hi2; simp
        · rw [List.getElem?_eq_none (by simp; omega), List.getElem?_eq_none (by simp; omega)]
    rw [e]
    refine frzCs_some fun x hx => frzC_below (fun i hi => frzR_lt _ i hi) ?_
    rcases List.mem_append.mp hx with h | h
    · exact hw.n x h
    · rw [List.mem_singleton.mp h]; exact hc
  have e2 : shedD ν.length { js := [ν.length] } (ν ++ [c]) (.ref ν.length) = some (.ref ν.length) := by
    show frzR ν.length [ν.length] (ν ++ [c]) 2 ν.length = _
    unfold frzR keptAt
    rw [if_neg (by omega)]
    simp
  rw [e1, opt_some, e2, opt_some]
  exact q
/-- a test over the names ts -/
def GenT (ts : List String) (t : D) : Prop := isTest t = true ∧ okD t = true ∧ subT (nodeIn "name" (ts.map .str)) t = true
def sp_law_test (m : Nat) : Spec
  | [.ref p, .lst tl, .int n], μ, Q, _ => ∃ (k : Nat) (ts : List String) (C : Int) (pen : Cell), n = (k : Int) ∧ k < m ∧ k ≤ 20 ∧ tl = ts.map .str ∧ ts.all nameS = true ∧ ts.length ≤ 100 ∧ μ[p]? = some pen ∧ PenC C pen ∧ C + 8 * 2 ^ k < Many ∧
      ∀ t pen', GenT ts t → wt t + 2 ≤ 8 * 2 ^ k → depth t ≤ k + 1 → PenC (C + 8 * 2 ^ k - 2) pen' → Q t (μ.set p pen')
  | _, _, _, _ => False
theorem gen_true (ts : List String) : GenT ts (.tup [.str "true"]) ∧ GenT ts (.tup [.str "false"]) := by
  refine ⟨⟨by decide +kernel, by decide +kernel, ?_⟩, ⟨by decide +kernel, by decide +kernel, ?_⟩⟩
  · rw [subT_eq]
    have e1 : tparts (.tup [.str "true"]) = [] := by decide +kernel
    rw [e1]; simp [nodeIn, part]
  · rw [subT_eq]
    have e1 : tparts (.tup [.str "false"]) = [] := by decide +kernel
    rw [e1]; simp [nodeIn, part]
theorem nameS_short {s : String} (h : nameS s = true) : s.toList.length ≤ 1000 := by
  unfold nameS at h
  split at h
  · rename_i e; rw [e]; simp
  · rename_i c cs e
    rw [e]
    simp at h
    simp; omega
theorem parts_name {s : String} (h : nameS s = true) : testParts (.tup [.str "name", .str s]) = some [] := by
  have : isName (.str s) = true := h
  simp [testParts, isHead, part, this]
theorem parts_not (x : D) : testParts (.tup [.str "not", x]) = some [x] := by simp [testParts, isHead, part]
theorem parts_and (x y : D) : testParts (.tup [.str "and", x, y]) = some [x, y] := by simp [testParts, isHead, part]
theorem parts_or (x y : D) : testParts (.tup [.str "or", x, y]) = some [x, y] := by simp [testParts, isHead, part]
theorem gen_name {ts : List String} (h : ts.all nameS = true) {s : String} (hs : s ∈ ts) : GenT ts (.tup [.str "name", .str s]) := by
  have hn := List.all_eq_true.mp h s hs
  refine ⟨by rw [isTest_eq, parts_name hn]; rfl, ?_, ?_⟩
  · have := nameS_short hn
    simp [okD, this]
  · rw [subT_eq]
    unfold tparts
    rw [parts_name hn]
    simp [nodeIn, part, hs]
theorem ok_tup {s : String} {xs : List D} (hs : s.toList.length ≤ 1000) (h : ∀ x ∈ xs, okD x = true) : okD (.tup (.str s :: xs)) = true := by
  unfold okD
  rw [plain_tup, shorts_tup, plains_cons, shortss_cons, oks_plains h, oks_shorts h]
  simp [hs]
theorem gen_not {ts : List String} {x : D} (h : GenT ts x) : GenT ts (.tup [.str "not", x]) := by
  refine ⟨by rw [isTest_eq, parts_not]; simp [h.1], ok_tup (by decide) (by simp [h.2.1]), ?_⟩
  rw [subT_eq]
  unfold tparts
  rw [parts_not]
  simp [nodeIn, part, h.2.2]
theorem gen_and {ts : List String} {x y : D} (h : GenT ts x) (h2 : GenT ts y) : GenT ts (.tup [.str "and", x, y]) ∧ GenT ts (.tup [.str "or", x, y]) := by
  refine ⟨⟨by rw [isTest_eq, parts_and]; simp [h.1, h2.1], ok_tup (by decide) (by simp [h.2.1, h2.2.1]), ?_⟩, ⟨by rw [isTest_eq, parts_or]; simp [h.1, h2.1], ok_tup (by decide) (by simp [h.2.1, h2.2.1]), ?_⟩⟩
  · rw [subT_eq]
    unfold tparts
    rw [parts_and]
    simp [nodeIn, part, h.2.2, h2.2.2]
  · rw [subT_eq]
    unfold tparts
    rw [parts_or]
    simp [nodeIn, part, h.2.2, h2.2.2]
def testNames : List (List String) := [[], ["p"], ["p"], ["p", "q"], ["q", "p"]]
def deedNames : List (List String) := [["a"], ["a", "b"], ["b", "a"]]
def sp_law_names : Spec
  | [.ref p], μ, Q, _ => ∃ (C : Int) (pen : Cell), μ[p]? = some pen ∧ PenC C pen ∧ C + 2 < Many ∧ ∀ ts ∈ testNames, ∀ ds ∈ deedNames, ∀ pen', PenC (C + 2) pen' → Q (.tup [.lst (ts.map .str), .lst (ds.map .str)]) (μ.set p pen')
  | _, _, _, _ => False
/-- what stands at a path; what comes of putting something there -/
def subAt : D → List Nat → Option D
  | d, [] => some d
  | .tup xs, k :: ks => (xs[k]?).bind fun x => subAt x ks
  | _, _ :: _ => none
def putAt : D → List Nat → D → D
  | _, [], new => new
  | .tup xs, k :: ks, new => .tup (xs.set k (putAt (xs.getD k .non) ks new))
  | d, _ :: _, _ => d
def pathD (ks : List Nat) : List D := ks.map fun (k : Nat) => D.int (k : Int)
def sp_law_put (m : Nat) : Spec
  | [t, .tup path, new], μ, Q, _ => ∃ ks : List Nat, path = pathD ks ∧ ks.length < m ∧ (subAt t ks).isSome = true ∧ plain t = true ∧ plain new = true ∧ wt t ≤ 1000000 ∧ Q (putAt t ks new) μ
  | _, _, _, _ => False
theorem putAt_plain : ∀ (ks : List Nat) (t new : D), plain t = true → plain new = true → plain (putAt t ks new) = true
  | [], t, new, _, h => by cases t <;> exact h
  | k :: ks, t, new, ht, hn => by
    cases t with
    | tup xs =>
      show plains (xs.set k _) = true
      rw [plain_tup] at ht
      refine plains_iff.mpr fun x hx => ?_
      rcases List.mem_or_eq_of_mem_set hx with h | h
      · exact plains_iff.mp ht x h
      · rw [h]
        refine putAt_plain ks _ new ?_ hn
        by_cases hk : k < xs.length
        · rw [List.getD_eq_getElem?_getD, List.getElem?_eq_getElem hk]
          exact plains_iff.mp ht _ (List.getElem_mem hk)
        · rw [List.getD_eq_getElem?_getD, List.getElem?_eq_none (by omega)]; rfl
    | _ => exact ht
def badL (xs : List D) : List D := [.non, .int 3, .str "skip", .tup [], .lst xs, .tup (xs ++ [.tup [.str "skip"]]), .tup [.str "do", .tup xs], .tup [.str "deed", .str "If"], .tup [.str "deed", .str "end"], .tup [.str "name", .str "1p"], .tup [.str "name", .str ""], .tup [.str "deed", .str "abcdefghi"], .tup [.non]]
def sp_law_bad : Spec
  | [.ref p, .tup xs], μ, Q, _ => ∃ (C : Int) (pen : Cell), μ[p]? = some pen ∧ PenC C pen ∧ C < Many ∧ plains xs = true ∧ xs.length ≤ 1000000 ∧ ∀ b ∈ badL xs, ∀ pen', PenC (C + 1) pen' → Q b (μ.set p pen')
  | _, _, _, _ => False
def skipD : D := .tup [.str "skip"]
def sameSkip : D := .tup [.str "same", .tup [.str "skip"], .tup [.str "skip"]]
def noneL : List D := [.non, .int 3, .str "a", .tup [], .tup [.str "skip"], .tup [.str "true"], .tup [.str "whole", .tup [], .tup [], .tup []], .tup [.str "whole", .tup [.str "a"], .tup [.str "a"], .tup [], sameSkip], .lst [.str "whole", .tup [], .tup [], .tup [], sameSkip], .bl true]
def sp_law_l_none : Spec
  | [.ref p], μ, Q, _ => ∃ (C : Int) (pen : Cell), μ[p]? = some pen ∧ PenC C pen ∧ C < Many ∧ ∀ b ∈ noneL, ∀ pen', PenC (C + 1) pen' → Q b (μ.set p pen')
  | _, _, _, _ => False
/-- a program over the names ts, ds -/
def GenP (ts ds : List String) (p : D) : Prop := isProg p = true ∧ okD p = true ∧ subP (fun p => (ptests p).all (subT (nodeIn "name" (ts.map .str)))) p = true ∧ subP (nodeIn "deed" (ds.map .str)) p = true
theorem gen_of {ts ds : List String} {p : D} {ps qs : List D} (h : progParts p = some (ps, qs)) (ho : okD p = true) (hd : nodeIn "deed" (ds.map .str) p = true) (hp : ∀ x ∈ ps, GenP ts ds x) (hq : ∀ x ∈ qs, GenT ts x) : GenP ts ds p := by
  have e1 : pparts p = ps := by unfold pparts; rw [h]; rfl
  have e2 : ptests p = qs := by unfold ptests; rw [h]; rfl
  refine ⟨?_, ho, ?_, ?_⟩
  · rw [isProg_eq, h]
    simp only [Bool.and_eq_true, List.all_eq_true]
    exact ⟨fun x hx => (hp x hx).1, fun x hx => (hq x hx).1⟩
  · rw [subP_eq, e1, e2]
    simp only [Bool.and_eq_true, List.all_eq_true]
    exact ⟨fun x hx => (hq x hx).2.2, fun x hx => (hp x hx).2.2.1⟩
  · rw [subP_eq, e1, hd]
    simp only [Bool.true_and, List.all_eq_true]
    exact fun x hx => (hp x hx).2.2.2
section
variable {ts ds : List String} {x y t u : D}
theorem pp_skip : progParts (.tup [.str "skip"]) = some ([], []) := by simp [progParts, isHead]
theorem pp_stop : progParts (.tup [.str "stop"]) = some ([], []) := by simp [progParts, isHead]
theorem pp_deed {s : String} (h : nameS s = true) : progParts (.tup [.str "deed", .str s]) = some ([], []) := by
  have : isName (.str s) = true := h
  simp [progParts, isHead, part, this]
theorem pp_assume : progParts (.tup [.str "assume", t]) = some ([], [t]) := by simp [progParts, isHead, part]
theorem pp_then : progParts (.tup [.str "then", x, y]) = some ([x, y], []) := by simp [progParts, isHead, part]
theorem pp_choose : progParts (.tup [.str "choose", x, y]) = some ([x, y], []) := by simp [progParts, isHead, part]
theorem pp_loop : progParts (.tup [.str "loop", x]) = some ([x], []) := by simp [progParts, isHead, part]
theorem pp_if : progParts (.tup [.str "if", t, x, y]) = some ([x, y], [t]) := by simp [progParts, isHead, part]
theorem pp_while : progParts (.tup [.str "while", t, x]) = some ([x], [t]) := by simp [progParts, isHead, part]
theorem pp_repeat : progParts (.tup [.str "repeat", x, t]) = some ([x], [t]) := by simp [progParts, isHead, part]
theorem genP_skip : GenP ts ds skipD := gen_of pp_skip (by decide) (by simp [nodeIn, part, skipD]) (by simp) (by simp)
theorem genP_stop : GenP ts ds (.tup [.str "stop"]) := gen_of pp_stop (by decide) (by simp [nodeIn, part]) (by simp) (by simp)
theorem genP_deed {s : String} (hd : ds.all nameS = true) (hs : s ∈ ds) : GenP ts ds (.tup [.str "deed", .str s]) := by
  have hn := List.all_eq_true.mp hd s hs
  exact gen_of (pp_deed hn) (ok_tup (by decide) (by have := nameS_short hn; simp [okD, this])) (by simp [nodeIn, part, hs]) (by simp) (by simp)
theorem genP_assume (h : GenT ts t) : GenP ts ds (.tup [.str "assume", t]) := gen_of pp_assume (ok_tup (by decide) (by simp [h.2.1])) (by simp [nodeIn, part]) (by simp) (by simp [h])
theorem genP_then (h : GenP ts ds x) (h2 : GenP ts ds y) : GenP ts ds (.tup [.str "then", x, y]) := gen_of pp_then (ok_tup (by decide) (by simp [h.2.1, h2.2.1])) (by simp [nodeIn, part]) (by simp [h, h2]) (by simp)
theorem genP_choose (h : GenP ts ds x) (h2 : GenP ts ds y) : GenP ts ds (.tup [.str "choose", x, y]) := gen_of pp_choose (ok_tup (by decide) (by simp [h.2.1, h2.2.1])) (by simp [nodeIn, part]) (by simp [h, h2]) (by simp)
theorem genP_loop (h : GenP ts ds x) : GenP ts ds (.tup [.str "loop", x]) := gen_of pp_loop (ok_tup (by decide) (by simp [h.2.1])) (by simp [nodeIn, part]) (by simp [h]) (by simp)
theorem genP_if (h : GenT ts t) (h2 : GenP ts ds x) (h3 : GenP ts ds y) : GenP ts ds (.tup [.str "if", t, x, y]) := gen_of pp_if (ok_tup (by decide) (by simp [h.2.1, h2.2.1, h3.2.1])) (by simp [nodeIn, part]) (by simp [h2, h3]) (by simp [h])
theorem genP_while (h : GenT ts t) (h2 : GenP ts ds x) : GenP ts ds (.tup [.str "while", t, x]) := gen_of pp_while (ok_tup (by decide) (by simp [h.2.1, h2.2.1])) (by simp [nodeIn, part]) (by simp [h2]) (by simp [h])
theorem genP_repeat (h : GenT ts t) (h2 : GenP ts ds x) : GenP ts ds (.tup [.str "repeat", x, t]) := gen_of pp_repeat (ok_tup (by decide) (by simp [h.2.1, h2.2.1])) (by simp [nodeIn, part]) (by simp [h2]) (by simp [h])
end
/-! ### the pen's cell, and one of one's own behind -/
section
variable {μ : Store} {p : Nat} {pen pen' : Cell} {cs : Store}
theorem pen_get (hp : p < μ.length) : (μ.set p pen ++ cs)[p]? = some pen := by
  rw [List.getElem?_append_left (by simpa using hp), List.getElem?_set_self hp]
theorem pen_set (hp : p < μ.length) : (μ.set p pen ++ cs).set p pen' = μ.set p pen' ++ cs := by
  rw [List.set_append_left _ _ (by simpa using hp), List.set_set]
theorem own_get (j : Nat) : (μ.set p pen ++ cs)[μ.length + j]? = cs[j]? := by
  have := get_off (μ.set p pen) cs j
  rwa [List.length_set] at this
theorem own_get0 : (μ.set p pen ++ cs)[μ.length]? = cs[0]? := own_get 0
theorem own_set (j : Nat) (d : Cell) : (μ.set p pen ++ cs).set (μ.length + j) d = μ.set p pen ++ cs.set j d := by
  have := set_off (μ.set p pen) cs j d
  rwa [List.length_set] at this
theorem own_set0 (d : Cell) : (μ.set p pen ++ cs).set μ.length d = μ.set p pen ++ cs.set 0 d := own_set 0 d
end
/-- the end of a def that wrote the pen and had cells of its own -/
theorem EndD.penDrop {μ ex : Store} {p : Nat} {c : Cell} {d : D} {Q : D → Store → Prop} (hw : wfS μ) (hc : belowC μ.length c = true) (hd : below μ.length d = true) (q : Q d (μ.set p c)) : EndD μ.length d (μ.set p c ++ ex) Q := by
  have h := EndD.drop (ν := μ.set p c) (ex := ex) (Q := Q) (hw.set hc) (by rw [List.length_set]; exact hd) q
  rw [List.length_set] at h
  exact h
def sp_law_l_program : Spec
  | [.ref p, .lst tl, .lst dl, .int n], μ, Q, _ => ∃ (k : Nat) (ts ds : List String) (C : Int) (pen : Cell), n = (k : Int) ∧ 1 ≤ k ∧ k ≤ 100 ∧ tl = ts.map .str ∧ ts.all nameS = true ∧ ts.length ≤ 100 ∧ dl = ds.map .str ∧ ds.all nameS = true ∧ ds.length ≤ 100 ∧
      μ[p]? = some pen ∧ PenC C pen ∧ C + 10000 < Many ∧ ∀ t pen', GenP ts ds t → wt t ≤ 100 * k → depth t ≤ 6 * k + 10 → PenC (C + 10000) pen' → Q t (μ.set p pen')
  | _, _, _, _ => False
end PY

set_option Elab.async false
set_option linter.all false
set_option maxRecDepth 100000
set_option maxHeartbeats 4000000
/-! the head: what the module's top holds, read by a hook; the chain of defs. -/
namespace PY
open PySem PySem.Spec PyProof.Rows L2
/-! ### a hook with one more Bool -/
def obsP (fa : List He.Fa) (fn : List He.DefD) (ex : PySem.W.Frag → Bool) (K : PySem.W.Frag) : He.AlD × Bool := (He.obsD fa fn K, ex K)
def SaysP (fa : List He.Fa) (fn : List He.DefD) (ex : PySem.W.Frag → Bool) (K : PySem.W.Frag) : Prop := obsP fa fn ex K = (He.valD fn, true)
def obsPG (n : Nat) (fa : List He.Fa) (fn : List He.DefD) (ex : PySem.W.Frag → Bool) (g : Addr → Option Obj) : He.AlD × Bool := obsP fa fn ex (He.frG g (He.asD g n))
def hookP (n : Nat) (fa : List He.Fa) (fn : List He.DefD) (ex : PySem.W.Frag → Bool) : PySem.W.Hook where
  α := He.AlD × Bool
  obs := fun s => obsPG n fa fn ex s.heap.get?
  val := fun _ => (He.valD fn, true)
  says := fun _ h => ∃ K : PySem.W.Frag, K.In h ∧ SaysP fa fn ex K
  of := fun _ _ e => ⟨_, He.frG_in, e⟩
  keeps := fun _ _ _ ⟨K, hK, c⟩ k => ⟨K, PySem.W.Frag.In.keeps hK k, c⟩
theorem obsPG_eq {n : Nat} {fa : List He.Fa} {fn : List He.DefD} {ex : PySem.W.Frag → Bool} {g : Addr → Option Obj} {s : Shared} (h : ∀ a, g a = s.heap.get? a) : obsPG n fa fn ex g = (hookP n fa fn ex).obs s := by
  have e : g = s.heap.get? := funext h
  rw [e] <;> rfl
theorem SaysP.d {fa : List He.Fa} {fn : List He.DefD} {ex : PySem.W.Frag → Bool} {K : PySem.W.Frag} (c : SaysP fa fn ex K) : He.SaysD fa fn K := congrArg (fun z : He.AlD × Bool => z.1) c
theorem SaysP.ex {fa : List He.Fa} {fn : List He.DefD} {ex : PySem.W.Frag → Bool} {K : PySem.W.Frag} (c : SaysP fa fn ex K) : ex K = true := congrArg (fun z : He.AlD × Bool => z.2) c
theorem says_fact {fa : List He.Fa} {fn : List He.DefD} {K : PySem.W.Frag} (c : He.SaysD fa fn K) {f : He.Fa} (h : f ∈ fa) : f.ok K = true := by
  obtain ⟨i, hi, e⟩ := List.mem_iff_getElem.mp h
  exact c.fact i (f := f) (by rw [List.getElem?_eq_getElem hi, e])
/-- a tuple of the module's -/
theorem tupB_KT {K : PySem.W.Frag} {x : Str} {vs : List He.Dv} (h : He.tupB K x vs = true) : KT K (He.ga K x) (vs.map (He.Dv.v K)) := by
  rcases He.tupB_ok h (fun _ => none) with q | q
  · rcases q with q | ⟨_, q⟩ <;> cases q
  · exact q
/-! ### binding -/
section
variable {K : PySem.W.Frag} {x qual : Str} {params : Arguments} {body : List Stmt} {scope : Scope} {dvs : List V} {f : Addr} {fd : FuncData} {ps : List Str}
theorem binds_all (F : FunD K x qual params body scope dvs [] f fd) (hd : dvs ≠ [])
    (h : ∀ j, j ≤ dvs.length → ∀ (T : Addr) (kV doc pm : Value) (an : Option Addr) (cdv ct : Value) (us its : List Value), us.length + (dvs.length - j) = ps.length → its.length = dvs.length →
      ∃ k, bindArgs (PySem.W.fnOf x qual params body scope (.ref T) kV doc pm an cdv ct) ⟨us, []⟩ = seqItems? (.ref T) >>= k ∧ k (some its.toArray) = pure (ps.zip (us ++ its.drop j))) :
    ∃ ds, Vals dvs ds ∧ ∀ j, j ≤ dvs.length → Binds K fd ps (ds.drop j) := by
  obtain ⟨oc, od, dV, kV, doc, pm, an, cdv, ct, osl, rfl, lk, hcd, hD, hK⟩ := F.ex
  rcases hD with ⟨e, _⟩ | ⟨_, T, o, its, m, rfl, lT, oT, rT⟩
  · exact absurd e hd
  · refine ⟨its, rT, fun j hj s us X hlen => ?_⟩
    have l1 : its.length = dvs.length := rT.length.symm
    have l2 : us.length + (dvs.length - j) = ps.length := by
      rw [List.length_append, List.length_drop, l1] at hlen
      omega
    obtain ⟨k, e1, e2⟩ := h j hj T kV doc pm an cdv ct us its l2 l1
    refine BindsTo.of_looks fun M => ?_
    rw [e1]
    exact looks_items X lT oT (.of_pure e2)
end
section
variable {prog : Program} {w : World} {K : PySem.W.Frag} {mg : Str → Option Value} {base : Heap} {G : Gd} {S S' : Sg} {k : Nat} {d : FunE} {x qual : Str} {params : Arguments} {body : List Stmt} {scope : Scope} {f : Addr} {fd : FuncData} {ps : List Str}
/-- a def without defaults -/
theorem DefOk.mk0 (len : ∀ ds μ Q E, S.call d.id ds μ Q E → ds.length = d.n) (hg : mg d.name = some (.ref f)) (F : FunD K x qual params body scope [] [] f fd) (ok : FnOk prog w K mg base (L2.CX prog w) k f fd ps (SpOf G (S.call d.id) d.n)) (hnd : d.nd = 0) (hd : S.dfl d.id = [])
    (bind : ∀ (kV doc pm : Value) (an : Option Addr) (cdv ct : Value) (us : List Value), us.length = ps.length → bindArgs (PySem.W.fnOf x qual params body scope .none kV doc pm an cdv ct) ⟨us, []⟩ = pure (ps.zip us)) : DefOk prog w K mg base G S k d := by
  refine ⟨len, f, fd, ps, [], [], hg, F.kp, ok, .nil, fun Z φ H => by rw [hd]; exact .nil, fun m hm => ?_⟩
  rw [hnd] at hm
  have : m = 0 := by omega
  subst this
  exact F.bindsN bind
/-- a def with defaults -/
theorem DefOk.mkD {dvs : List V} (len : ∀ ds μ Q E, S.call d.id ds μ Q E → ds.length = d.n) (hg : mg d.name = some (.ref f)) (F : FunD K x qual params body scope dvs [] f fd) (ok : FnOk prog w K mg base (L2.CX prog w) k f fd ps (SpOf G (S.call d.id) d.n)) (hne : dvs ≠ []) (hnd : d.nd = dvs.length) (hd : ∀ Z φ H, Reps G Z φ H dvs (S.dfl d.id))
    (bind : ∀ j, j ≤ dvs.length → ∀ (T : Addr) (kV doc pm : Value) (an : Option Addr) (cdv ct : Value) (us its : List Value), us.length + (dvs.length - j) = ps.length → its.length = dvs.length →
      ∃ k, bindArgs (PySem.W.fnOf x qual params body scope (.ref T) kV doc pm an cdv ct) ⟨us, []⟩ = seqItems? (.ref T) >>= k ∧ k (some its.toArray) = pure (ps.zip (us ++ its.drop j))) : DefOk prog w K mg base G S k d := by
  obtain ⟨ds, h1, h2⟩ := binds_all F hne bind
  exact ⟨len, f, fd, ps, ds, dvs, hg, F.kp, ok, h1, hd, fun m hm => h2 m (by rw [← hnd]; exact hm)⟩
/-! ### the chain -/
variable {fs cs bs : List Str} {fl : List FunE} {j : Nat} {xs : List ExcE} {hn : List FunE} {lm : Option Nat} {rm : Nat}
theorem Wd.next (h : Wd ⟨fl, cs, bs, xs, hn, lm, rm⟩ G S prog w K mg base k) (hd : DefOk prog w K mg base G S j d) (hj : k ≤ j) : Wd ⟨fl ++ [d], cs, bs, xs, hn, lm, rm⟩ G S prog w K mg base j :=
  ⟨h.hK, h.blt, h.con, fun e he => by
    rcases List.mem_append.mp he with q | q
    · exact (h.fn e q).mono hj
    · rw [List.mem_singleton.mp q]; exact hd, h.exc⟩
theorem Wd.mono (h : Wd ⟨fl, cs, bs, xs, hn, lm, rm⟩ G S prog w K mg base k) (hj : k ≤ j) : Wd ⟨fl, cs, bs, xs, hn, lm, rm⟩ G S prog w K mg base j :=
  ⟨h.hK, h.blt, h.con, fun e he => (h.fn e he).mono hj, h.exc⟩
/-- the same under another table of promises -/
theorem Wd.cast (h : Wd ⟨fl, cs, bs, xs, hn, lm, rm⟩ G S prog w K mg base k) (hc : S'.con = S.con) (hf : ∀ d ∈ fl, S'.call d.id = S.call d.id ∧ S'.dfl d.id = S.dfl d.id) : Wd ⟨fl, cs, bs, xs, hn, lm, rm⟩ G S' prog w K mg base k :=
  ⟨h.hK, h.blt, fun j x e => by rw [hc]; exact h.con j x e, fun d hd => (h.fn d hd).cast (hf d hd).1 (hf d hd).2, h.exc⟩
/-- handlers and lambdas put to -/
theorem Wd.more {hn' : List FunE} {lm' : Option Nat} (h : Wd ⟨fl, cs, bs, xs, hn, lm, rm⟩ G S prog w K mg base k) : Wd ⟨fl, cs, bs, xs, hn', lm', rm⟩ G S prog w K mg base k := ⟨h.hK, h.blt, h.con, h.fn, h.exc⟩
/-- S with another promise of def i -/
def Sg.put (S : Sg) (i : Nat) (sp : List D → Store → (D → Store → Prop) → (XD → Store → Prop) → Prop) : Sg := { S with call := fun j => if j = i then sp else S.call j }
theorem Sg.put_at (S : Sg) (i : Nat) (sp) : (S.put i sp).call i = sp := by show (if i = i then _ else _) = _; rw [if_pos rfl]
theorem Sg.put_ne (S : Sg) {i j : Nat} (sp) (h : j ≠ i) : (S.put i sp).call j = S.call j := by show (if j = i then _ else _) = _; rw [if_neg h]
/-- nothing is promised -/
theorem fn_none {sp : Sp} (h : ∀ vs H Q E, ¬ sp vs H Q E) : FnOk prog w K mg base (L2.CX prog w) k f fd ps sp :=
  ⟨fun vs H Q E q => absurd q (h vs H Q E), fun A outer s H args us vs Q E _ _ _ _ q => absurd q (h vs H Q E)⟩
/-- a def that calls itself: by a bound -/
theorem fn_rec {sp : Nat → List D → Store → (D → Store → Prop) → (XD → Store → Prop) → Prop} {n : Nat} (h0 : ∀ ds μ Q E, ¬ sp 0 ds μ Q E)
    (step : ∀ m j, k ≤ j → FnOk prog w K mg base (L2.CX prog w) j f fd ps (SpOf G (sp m) n) → FnOk prog w K mg base (L2.CX prog w) (j + 1) f fd ps (SpOf G (sp (m + 1)) n)) :
    ∀ m, FnOk prog w K mg base (L2.CX prog w) (k + m) f fd ps (SpOf G (sp m) n)
  | 0 => fn_none fun vs H Q E h => by
    obtain ⟨_, Z, φ, μ, ds, Qd, Ed, _, _, hf, _⟩ := h
    exact h0 ds μ Qd Ed hf
  | m + 1 => step m (k + m) (by omega) (fn_rec h0 step m)
end
/-! ### a law -/
def spLaw (K : PySem.W.Frag) : Sp := fun vs H Q _ => ∃ (a : Addr) (ns : List Int), vs = [.ref a] ∧ ns.length ≤ 63 ∧ (∀ z ∈ ns, Builtin.Int.intBits z ≤ 1048576) ∧ SqL K H a (ns.map V.int) ∧ ∀ H', Q (.bl true) H'
/-- what a law's def promises over D -/
def LawSp (sp : List D → Store → (D → Store → Prop) → (XD → Store → Prop) → Prop) : Prop := ∀ (ns : List Int) (Q : D → Store → Prop) (E : XD → Store → Prop), ns.length ≤ 63 → (∀ z ∈ ns, Builtin.Int.intBits z ≤ 1048576) → (∀ μ, Q (.bl true) μ) → sp [.scr ns] [] Q E ∧ sp [.lst (ns.map .int)] [] Q E
theorem reps_ints {G : Gd} {Z φ : List Addr} {H : Hp} : ∀ ns : List Int, Reps G Z φ H (ns.map V.int) (ns.map D.int)
  | [] => .nil
  | n :: ns => .cons (.int n) (reps_ints ns)
theorem law_imp {G : Gd} {K : PySem.W.Frag} (hK : G.K = K) {sp : List D → Store → (D → Store → Prop) → (XD → Store → Prop) → Prop} (hs : LawSp sp) {vs : List V} {H : Hp} {Q : VK} {E : XK} (h : spLaw K vs H Q E) : SpOf G sp 1 vs H Q E := by
  obtain ⟨a, ns, rfl, hn, hbt, hS, q⟩ := h
  have c : CRel G [] [] H [] := ⟨rfl, List.nodup_nil, fun a h => by simp at h, fun a h => by simp at h, fun i c e => by simp at e⟩
  obtain ⟨h1, h2⟩ := hs ns (fun d _ => d = .bl true) (fun _ _ => False) hn hbt fun _ => rfl
  have done : ∀ d μ', d = D.bl true → Done G [] [] H d μ' Q := by
    rintro d μ' rfl v φ' H' r _ _
    cases r
    exact q H'
  rcases hS with hS | hS
  · exact ⟨rfl, [], [], [], [.lst (ns.map .int)], _, _, .cons (.lst ⟨hS, by simp, by simp⟩ (reps_ints ns)) .nil, c, h2, done, fun _ _ z => z.elim⟩
  · exact ⟨rfl, [], [], [], [.scr ns], _, _, .cons (.scr (by rw [hK]; exact hS)) .nil, c, h1, done, fun _ _ z => z.elim⟩
theorem reps_strs {G : Gd} {Z φ : List Addr} {H : Hp} : ∀ ss : List String, Reps G Z φ H (ss.map fun s => V.str (Str.ofString s)) (ss.map D.str)
  | [] => .nil
  | s :: ss => .cons (.str s) (reps_strs ss)
/-- the walk of a law's head -/
theorem walkP {l : PySem.W.OpenLaw} {n k : Nat} {q : Program} {loose : List Str} {XP : (Str → Option Value) → Heap → Prop} {YP : World → Heap → Prop} {d : DefRec}
    (hn : l.most = some n) (hn2 : n ≤ 63) (hdf : d.params.defaults = []) (hr : Room k callerA)
    (F : ∀ (w : World) (mg : Str → Option Value) (fa : Addr) (h : Heap), YP w h → h.Ns mainGlobals mg → mg d.name = some (.ref fa) →
      ∃ (K : PySem.W.Frag) (fd : FuncData), K.In h ∧ (∀ (s : Shared) (u : Value), BindsTo s fd ⟨[u], []⟩ [("script", u)]) ∧
        ∀ base : Heap, K.In base → base.Ns mainGlobals mg → FnOk l.prog w K mg base (L2.CX l.prog w) k fa fd ["script"] (spLaw K)) :
    PySem.W.WalkO q loose XP YP l.row.toRowW d [] (fun f vs => PySem.call f vs) := by
  refine Att.attach_callB hn hdf fun w s₀ s₁ mg mb fa o pm cd doc a vs ns G Y ho hd hcd hmg hobj hints hlen hbits hg => ?_
  obtain ⟨K, fd, KX, hb, hF⟩ := F w mg fa _ Y G.T.g hmg
  refine law_call KX G.T.g G.T.b G.T.builtins G.T.nolimit hg hobj hints (Nat.le_trans hlen (Nat.le_trans hn2 (by decide))) hr hF hb (fun H _ hS => ⟨a, ns, rfl, Nat.le_trans hlen hn2, hbits, hS, fun _ => rfl⟩) fun H e s' hx => ?_
  obtain ⟨_, _, _, _, _, _, _, _, _, _, _, _, hx⟩ := hx
  exact hx
theorem bindsTo_one {K : PySem.W.Frag} {x qual : Str} {params : Arguments} {body : List Stmt} {scope : Scope} {f : Addr} {fd : FuncData} (F : FunD K x qual params body scope [] [] f fd)
    (bind : ∀ (kV doc pm : Value) (an : Option Addr) (cdv ct : Value) (us : List Value), us.length = 1 → bindArgs (PySem.W.fnOf x qual params body scope .none kV doc pm an cdv ct) ⟨us, []⟩ = pure ((["script"] : List Str).zip us)) (s : Shared) (u : Value) : BindsTo s fd ⟨[u], []⟩ [("script", u)] :=
  F.bindsA (ps := ["script"]) bind s [u] rfl
/-! ### a law that makes lambdas -/
/-- the addresses: what the names reach, and the interpreter's own statics -/
def asC (g : Addr → Option Obj) (n : Nat) : List Addr := He.asD g n ++ [cStatics]
abbrev lawDef : He.Defn := ("law", none)
structure SaysQ (fa : List He.Fa) (fn : List He.DefD) (xs : List PX.ExD) (ex : PySem.W.Frag → Bool) (h : Heap) (K : PySem.W.Frag) : Prop where
  d : He.SaysD fa fn K
  more : ex K = true
  xs : xs.map (PX.exV K) = xs.map PX.ExD.val
  hd : PySem.W.codeHdIn K (He.cT K lawDef).1 (He.cT K lawDef).2 = true
  out : K.lookup (He.cT K lawDef).2 = none
  empty : h.get? (He.cT K lawDef).2 = some { cls := .none, data := .fields #[] }
abbrev AlQ : Type := He.AlD × Bool × List PX.ExV
def obsQ (n : Nat) (fa : List He.Fa) (fn : List He.DefD) (xs : List PX.ExD) (ex : PySem.W.Frag → Bool) (g : Addr → Option Obj) : AlQ :=
  (He.obsD fa fn (He.frT g (asC g n)), ex (He.frT g (asC g n)) && He.tabsB g [lawDef] (He.frT g (asC g n)), xs.map (PX.exV (He.frT g (asC g n))))
def valQ (fn : List He.DefD) (xs : List PX.ExD) : AlQ := (He.valD fn, true, xs.map PX.ExD.val)
theorem saysQ_of {n : Nat} {fa : List He.Fa} {fn : List He.DefD} {xs : List PX.ExD} {ex : PySem.W.Frag → Bool} {h : Heap} (e : obsQ n fa fn xs ex h.get? = valQ fn xs) : SaysQ fa fn xs ex h (He.frT h.get? (asC h.get? n)) := by
  have e1 : He.obsD fa fn (He.frT h.get? (asC h.get? n)) = He.valD fn := congrArg (fun z : AlQ => z.1) e
  have e2 : (ex (He.frT h.get? (asC h.get? n)) && He.tabsB h.get? [lawDef] (He.frT h.get? (asC h.get? n))) = true := congrArg (fun z : AlQ => z.2.1) e
  have e3 : xs.map (PX.exV (He.frT h.get? (asC h.get? n))) = xs.map PX.ExD.val := congrArg (fun z : AlQ => z.2.2) e
  obtain ⟨h1, h2⟩ := He.ba e2
  obtain ⟨h3, h4⟩ := He.ba (List.all_eq_true.mp h2 lawDef (by simp))
  cases q : h.get? (He.cT (He.frT h.get? (asC h.get? n)) lawDef).2 with
  | none => rw [q] at h4; cases h4
  | some o =>
    rw [q] at h4
    exact ⟨e1, h1, e3, h3, He.frT_none q h4, by rw [q, He.emptyTab_eq h4]⟩
def hookQ (n : Nat) (fa : List He.Fa) (fn : List He.DefD) (xs : List PX.ExD) (ex : PySem.W.Frag → Bool) : PySem.W.Hook where
  α := AlQ
  obs := fun s => obsQ n fa fn xs ex s.heap.get?
  val := fun _ => valQ fn xs
  says := fun _ h => ∃ K : PySem.W.Frag, K.In h ∧ SaysQ fa fn xs ex h K
  of := fun _ _ e => ⟨_, He.frT_in, saysQ_of e⟩
  keeps := fun _ _ _ ⟨K, hK, c⟩ k => ⟨K, PySem.W.Frag.In.keeps hK k, ⟨c.d, c.more, c.xs, c.hd, c.out, k _ _ c.empty⟩⟩
theorem obsQ_eq {n : Nat} {fa : List He.Fa} {fn : List He.DefD} {xs : List PX.ExD} {ex : PySem.W.Frag → Bool} {g : Addr → Option Obj} {s : Shared} (h : ∀ a, g a = s.heap.get? a) : obsQ n fa fn xs ex g = (hookQ n fa fn xs ex).obs s := by
  have e : g = s.heap.get? := funext h
  rw [e] <;> rfl
/-- the ground of such a law: its exception classes by number -/
def GQ (K : PySem.W.Frag) (nms : List Str) (fss : List (List Str)) (sc : Scope) : Gd := { K := K, cA := fun c => He.ga K (nms.getD c Str.empty), cF := fun c => fss.getD c [], tA := fun _ => (He.cT K lawDef).2, tq := fun _ => (envOfC "law" sc 0 0 .none).qual ++ "<lambda>" }
/-- which class takes which -/
abbrev Mt := List (Nat × Nat × Bool)
def Mt.get (t : Mt) (x c : Nat) : Option Bool := (t.find? fun q => q.1 == x && q.2.1 == c).map (·.2.2)
def Mt.ok (K : PySem.W.Frag) (nms : List Str) (t : Mt) : Bool := t.all fun q => decide (PySem.W.exmOne K (.ref (He.ga K (nms.getD q.1 Str.empty))) (.ref (He.ga K (nms.getD q.2.1 Str.empty))) = some q.2.2)
theorem Mt.get_ok {K : PySem.W.Frag} {nms : List Str} {t : Mt} (h : t.ok K nms = true) {x c : Nat} {b : Bool} (e : t.get x c = some b) : PySem.W.exmOne K (.ref (He.ga K (nms.getD x Str.empty))) (.ref (He.ga K (nms.getD c Str.empty))) = some b := by
  unfold Mt.get at e
  obtain ⟨q, h1, rfl⟩ := Option.map_eq_some_iff.mp e
  have h2 := List.find?_some h1
  have h3 := List.mem_of_find?_eq_some h1
  simp only [Bool.and_eq_true, beq_iff_eq] at h2
  obtain ⟨rfl, rfl⟩ := h2
  exact of_decide_eq_true (List.all_eq_true.mp h q h3)
section
variable {prog : Program} {w : World} {K : PySem.W.Frag} {mg : Str → Option Value} {base : Heap} {P : PCtx} {G : Gd} {S : Sg} {k : Nat}
/-- a def that calls what it gets -/
theorem hnd_ok {X : Cx} {m : Nat → Nat → Option Bool} {rp : Bool} {h : HndD} {Ng : List Str} {x : Str} {params : Arguments} {body : List Stmt} {scope : Scope} {f : Addr} {fd : FuncData} {id n nd : Nat} (F : FunD X.K x x params body scope [] [] f fd) (hm : X.mg x = some (.ref f)) (hK : G.K = X.K)
    (hb : hndB Ng scope rp h body = true) (Sc : FnScope Ng [h.par] scope) (hp : noSpec h.par = true) (CF : ClsF G X.mg m h.clauses) (hS : S.hnd id = hdOf G m h) (hrm : X.mg "repr" = none) (grd : X.A.guards = some []) (un : X.A.units + 200 < cLine)
    (bind : ∀ (kV doc pm : Value) (an : Option Addr) (cdv ct : Value) (us : List Value), us.length = 1 → bindArgs (PySem.W.fnOf x x params body scope .none kV doc pm an cdv ct) ⟨us, []⟩ = pure ([h.par].zip us)) : HndOk G S X ⟨id, x, n, nd⟩ := by
  have hbd := F.bindsN (ps := [h.par]) bind
  obtain ⟨oc, od, dV, kV, doc, pm, an, cdv, ct, osl, rfl, lk, hcd, _, _⟩ := F.ex
  have h0 : Ng[0]? = some h.par := by
    unfold hndB at hb
    simp only [Bool.and_eq_true, decide_eq_true_eq] at hb
    exact hb.1.1.1.1.2
  refine ⟨f, params, body, scope, dV, kV, doc, pm, cdv, ct, oc, an, od, osl, Ng, h.par, hm, F.kp, lk, hcd, hbd, Sc, h0, Sc.par _ (by simp) |>.elim .inl (fun z => .inr (.inl z)), hp, ?_⟩
  show LamX.GivesTo X Ng x scope f cdv body h.par _ (TTh G (S.hnd id))
  rw [hS]
  exact hnd_gives hb rfl hK CF hrm grd un
/-- the law's body, entered -/
theorem law_enter {N : List Str} {x qual : Str} {params : Arguments} {body : List Stmt} {scope : Scope} {f a T : Addr} {fd : FuncData} {b : Sts} {s : Shared} {H : Hp} {ns : List Int}
    (wd : Wd P G S prog w K mg base k) (F : FunD K x qual params body scope [] [] f fd) (Sc : FnScope N ["script"] scope) (hq : uniqB scope = true) (hk : 2 ≤ k)
    (hlam : ∀ (cdv : Value) (oc : Value) (od : Option Addr) (osl : Array (Option Value)) (fd' : FuncData), K.lookup f = some ⟨oc, od, .func fd', osl⟩ → fd'.code = cdv → Room k (callerA.deeper (envOfC qual scope s.heap.objs.size f cdv)) → ∀ i, P.lam = some i → LamOk P G S (cxOf (L2.CX prog w) prog w K mg base N qual scope f cdv callerA [] s H (fun _ _ _ => False)) i)
    (hr : Room (k + 1) callerA) (hc : chkSs P (cxtOf N scope) b body = true) (hb : ∀ (s : Shared) (u : Value), BindsTo s fd ⟨[u], []⟩ [("script", u)]) (hT : H T = some (.tbl #[])) (hGT : G.tA 0 = T) (hS : SqL K H a (ns.map V.int)) (e0 : Env0 prog w K mg base callerA [] s H)
    (hw : ∀ d, (d = .scr ns ∨ d = .lst (ns.map .int)) → wpSs S (fun _ _ _ => False) b (startD N [d]) [.tbl 0] { nx := fun _ _ => False, rt := fun d _ => d = .bl true }) :
    codeAny (model prog w) callerA (.call (.ref f) ⟨[.ref a], []⟩) (CR (L2.CX prog w) [] prog w H s (fun v _ => v = .bl true) fun _ _ _ => False) s := by
  obtain ⟨oc, od, dV, kV, doc, pm, an, cdv, ct, osl, rfl, lk, hcd, _, _⟩ := F.ex
  refine LamX.run_ofS (N := N) (ps := ["script"]) (us := [.ref a]) (vs := [.ref a]) lk hcd Sc hr e0 (hb s (.ref a)) (.cons rfl .nil) rfl fun hr' => ?_
  have xo := XOk.make (prog := prog) (w := w) (K := K) (mg := mg) (base := base) (outer := []) (H := H) (E := fun _ _ _ => False) (A := callerA) (s := s) wd Sc hq hk (hlam cdv _ _ _ _ lk rfl hr') hr'
  refine ⟨_, sndSs b xo hc, ?_⟩
  have c : CRel G [] [T] H [.tbl 0] := by
    refine ⟨rfl, by simp, fun _ _ => by simp, fun _ h => by simp at h, fun i c e => ?_⟩
    match i, e with
    | 0, e =>
      cases e
      exact ⟨T, rfl, .tbl hGT.symm ⟨#[], hT, trivial, fun pos cv hc => by simp [codeAmong] at hc⟩⟩
    | i + 1, e => simp at e
  have key : ∃ d, (d = D.scr ns ∨ d = .lst (ns.map .int)) ∧ Rep G [] [T] H (.ref a) d := by
    rcases hS with hS | hS
    · refine ⟨_, .inr rfl, .lst ⟨hS, ?_, by simp⟩ (reps_ints ns)⟩
      simp only [List.mem_singleton]
      rintro rfl
      rcases hS with z | ⟨_, z⟩ <;> rw [hT] at z <;> cases z
    · exact ⟨_, .inl rfl, .scr (by rw [wd.hK]; exact hS)⟩
  obtain ⟨d, hd, r⟩ := key
  have done : ∀ d' μ', d' = D.bl true → ∀ v φ' H', Rep G [] φ' H' v d' → CRel G [] φ' H' μ' → Grow [T] H φ' H' → v = V.bl true := by
    rintro d' μ' rfl v φ' H' r _ _
    cases r
    rfl
  refine ⟨[], [T], startD N [d], [.tbl 0], _, _, ⟨start_rel (.cons r .nil), c, fun ρ xx μ' e => e.elim⟩, hw d hd, fun ρ' μ' q => q.elim, fun d' μ' q v φ' H' r' c' g' => done d' μ' q v φ' H' r' c' g', fun ρ' μ' q => q.elim, fun ρ' μ' q => q.elim⟩
end
section
variable {prog : Program} {w : World} {K : PySem.W.Frag} {mg : Str → Option Value} {base : Heap} {P : PCtx} {G : Gd} {S : Sg} {k : Nat}
/-- an exception class that can be made -/
theorem exc_wd {d : PX.ExD} {e : ExcE} (x : PX.ExK prog K mg d) (hs : d.synB = true) (hn : e.name = d.name) (hg : mg d.name = some (.ref (He.ga K d.name))) (hA : G.cA e.c = He.ga K d.name) (hF : G.cF e.c = d.fs) (hl : d.fs.length = e.n)
    (bind : ∀ (cl : List (Str × Addr)) (c : Addr) (doc pm ctv : Value) (us : List Value), us.length = (PX.psOf d.fs).length → bindArgs (PySem.W.fnX "__init__" d.qual (defArgs d.st) (defBody d.st) (defScope d.st) cl .none .none doc pm none (.ref c) ctv) ⟨us, []⟩ = pure ((PX.psOf d.fs).zip us)) :
    ∃ f fd ps, mg e.name = some (.ref (G.cA e.c)) ∧ OexC K (G.cA e.c) ∧ PySem.W.findIn K (.ref (G.cA e.c)) "__init__" = some (some (.ref f)) ∧ PySem.W.typeIn K (.ref f) = some (.type "function") ∧
      FnOk prog w K mg base C8.CX0 1 f fd ps (PX.spI (G.cA e.c) (G.cF e.c)) ∧ Binds K fd ps [] ∧ (G.cF e.c).length = e.n := by
  obtain ⟨fd, ⟨cl, c, doc, pm, ctv, rfl⟩, ok⟩ := PX.init_prom (w := w) (base := base) x hs
  rw [hA, hF, hn]
  exact ⟨_, _, _, hg, x.oex, x.find, x.ty, ok, .all (bind cl c doc pm ctv), hl⟩
/-- the law's lambdas -/
theorem lam_ok {N : List Str} {scope sc : Scope} {params : Arguments} {body : List Stmt} {nms : List Str} {fss : List (List Str)} {cdv oc : Value} {od : Option Addr} {osl : Array (Option Value)} {fd' : FuncData} {s : Shared} {H : Hp} {i : Nat}
    (hG : G = GQ K nms fss sc) (F : PySem.W.codeIn K fd'.code "law" = true) (lk : K.lookup (He.ga K "law") = some ⟨oc, od, .func fd', osl⟩) (hcdv : fd'.code = cdv) (wd : Wd P G S prog w K mg base k) (hk : 1 ≤ k) (hr : Room (k + 3) callerA)
    (TB : LamX.TabB base mg (He.cT K lawDef).1 (He.cT K lawDef).2)
    (hh : ∀ d ∈ P.hnd, HndOk G S (cxOf (L2.CX prog w) prog w K mg base N "law" scope (He.ga K "law") cdv callerA [] s H (fun _ _ _ => False)) d) : LamOk P G S (cxOf (L2.CX prog w) prog w K mg base N "law" scope (He.ga K "law") cdv callerA [] s H (fun _ _ _ => False)) i := by
  subst hG
  obtain ⟨c, hc⟩ := He.codeIn_ref F
  have hcc : He.codeOf K lawDef = c := He.codeOf_eq (p := lawDef) lk hc
  refine ⟨⟨c, ?_, ?_⟩, rfl, ⟨k, hk, hr.deeper _, fun d hd => ?_⟩, hh, rfl, ?_⟩
  · show cdv = .ref c
    rw [← hcdv, hc]
  · rw [← hcc]
    exact TB
  · obtain ⟨len, fa, fd, ps', ds, dvs, h1, h2, h3, h4, h5, h6⟩ := wd.fn d hd
    exact ⟨len, fa, fd, ps', ds, dvs, h1, h2, h3, h4, h5, h6⟩
  · have := hr.un
    show callerA.units + 3 + 200 < cLine
    omega
end
/-- the walk of such a law -/
theorem walkQ {l : PySem.W.OpenLaw} {n : Nat} {q : Program} {loose : List Str} {XP : (Str → Option Value) → Heap → Prop} {YP : World → Heap → Prop} {d : DefRec}
    (hn : l.most = some n) (hn2 : n ≤ 63) (hdf : d.params.defaults = [])
    (F : ∀ (w : World) (mg : Str → Option Value) (fa : Addr) (h : Heap), YP w h → h.Ns mainGlobals mg → mg d.name = some (.ref fa) →
      ∃ (K : PySem.W.Frag) (c T : Addr), K.In h ∧ h.get? T = some { cls := .none, data := .fields #[] } ∧ K.lookup T = none ∧ PySem.W.CodeHd h c T ∧
        ∀ (base : Heap) (H : Hp) (s : Shared) (a : Addr) (ns : List Int), ns.length ≤ 63 → (∀ z ∈ ns, Builtin.Int.intBits z ≤ 1048576) → K.In base → base.Ns mainGlobals mg → LamX.TabB base mg c T → H T = some (.tbl #[]) → SqL K H a (ns.map V.int) → Env0 l.prog w K mg base callerA [] s H →
          codeAny (model l.prog w) callerA (.call (.ref fa) ⟨[.ref a], []⟩) (CR (L2.CX l.prog w) [] l.prog w H s (fun v _ => v = .bl true) fun _ _ _ => False) s) :
    PySem.W.WalkO q loose XP YP l.row.toRowW d [] (fun f vs => PySem.call f vs) := by
  refine Att.attach_callB hn hdf fun w s₀ s₁ mg mb fa o pm cd doc a vs ns G Y ho hd hcd hmg hobj hints hlen hbits hg => ?_
  obtain ⟨K, c, T, KX, hT, nT, C, hF⟩ := F w mg fa _ Y G.T.g hmg
  exact PX.law_callA KX G.T.g G.T.b G.T.builtins G.T.nolimit hg hT nT C G.T.bmain hobj hints (by rw [sizeLine_eq]; omega) fun base H hKb hns TB hHT hS e0 => hF base H s₁ a ns (by omega) hbits hKb hns TB hHT hS e0
end PY

set_option Elab.async false
set_option linter.all false
set_option maxRecDepth 100000
set_option maxHeartbeats 4000000
/-! more of the meaning: raises, comparisons of a value with itself. -/
namespace PY
theorem EndX.same {μ : Store} {x : XD} {E : XD → Store → Prop} (hw : wfS μ) (hb : belows μ.length x.args = true) (q : E x μ) : EndX μ.length x μ E := by
  refine ⟨{}, ?_⟩
  have h := shedS_drop (ν := μ) (ex := []) (h := {}) rfl hw.n
  rw [List.append_nil] at h
  have h2 : shedDs μ.length {} μ x.args = some x.args := frzDs_below (fun i hi => frzR_lt _ i hi) x.args hb
  rw [h, opt_some, h2, opt_some]
  exact q
mutual
theorem eqv_refl : ∀ d : D, plain d = true → eqv d d = true
  | .non, _ => rfl
  | .bl b, _ => by simp
  | .int i, _ => by simp
  | .str s, _ => by simp
  | .tup xs, h => by
    show eqvs xs xs = true
    exact eqvs_refl xs (by simpa using h)
  | .lst xs, h => by
    show eqvs xs xs = true
    exact eqvs_refl xs (by simpa using h)
  | .ins _ _, h => by simp at h
  | .ref _, h => by simp at h
  | .scr _, h => by simp at h
theorem eqvs_refl : ∀ ds : List D, plains ds = true → eqvs ds ds = true
  | [], _ => rfl
  | d :: ds, h => by
    simp only [plains_cons, Bool.and_eq_true] at h
    show (eqv d d && eqvs ds ds) = true
    rw [eqv_refl d h.1, eqvs_refl ds h.2]; rfl
end
theorem eqD_self {μ : Store} {d : D} (h : plain d = true) (hd : depth d ≤ 150) : eqD μ d d = some true := by
  rw [eqD_l _ h h hd, eqv_refl d h]
@[simp] theorem p_repr (μ : Store) (x : D) : primD .repr [x] μ = (reprD x).map fun s => (.str s, μ) := rfl
@[simp] theorem p_sorted (μ : Store) (x : D) : primD .sorted [x] μ = ((lstOf μ x).bind sortD).map fun xs => (.lst xs, μ) := rfl
theorem bi_shl {μ : Store} {i j : Int} (h : 0 ≤ j) (h2 : j ≤ 1000000) (h3 : i.natAbs < 18446744073709551616) : binD μ .shl (.int i) (.int j) = some (.int (i * 2 ^ j.toNat)) := by simp [binD, intOp, h, h2, h3]
theorem bi_shr {μ : Store} {i j : Int} (h : 0 ≤ j) : binD μ .shr (.int i) (.int j) = some (.int (i / 2 ^ j.toNat)) := by simp [binD, intOp, h]
@[simp] theorem bi_and {μ : Store} {i j : Int} : binD μ .band (.int i) (.int j) = some (.int (PySem.Builtin.bitAnd i j)) := rfl
/-! ### ints, rows -/
def isIntD : D → Bool
  | .int _ => true
  | _ => false
def isCnt (m : Int) : D → Bool
  | .int i => decide (0 ≤ i) && decide (i ≤ m)
  | _ => false
def isRowD : D → Bool
  | .tup _ | .lst _ => true
  | _ => false
def sp_is_integer : Spec
  | [v], μ, Q, _ => plain v = true ∧ Q (.bl (isIntD v)) μ
  | _, _, _, _ => False
def sp_is_count : Spec
  | [v, .int m], μ, Q, _ => plain v = true ∧ Q (.bl (isCnt m v)) μ
  | _, _, _, _ => False
def sp_is_rowD : Spec
  | [v], μ, Q, _ => plain v = true ∧ Q (.bl (isRowD v)) μ
  | _, _, _, _ => False
/-- a list, as a list or as a tuple -/
def sp_law_listed : Spec
  | [.ref p, .lst xs], μ, Q, _ => ∃ C pen, μ[p]? = some pen ∧ PenC C pen ∧ C < Many ∧ ∀ pen', PenC (C + 1) pen' → Q (.lst xs) (μ.set p pen') ∧ Q (.tup xs) (μ.set p pen')
  | _, _, _, _ => False
theorem small_of {i : Int} (h1 : -4611686018427387904 ≤ i) (h2 : i < 4611686018427387904) : small62 i = true := by
  unfold small62
  rw [decide_eq_true h1, decide_eq_true h2]; rfl
theorem rng_of {i : Int} (h : small62 i = true) : rngPlan [.int i] = some ⟨rngItems 0 i.toNat, fun _ => True⟩ := if_pos h
theorem rng1 {m : Nat} (h : m < 1000000) : rngPlan [.int (m : Int)] = some ⟨rngItems 0 m, fun _ => True⟩ := by
  have hs := rng_of (small_of (i := (m : Int)) (by omega) (by omega))
  rw [Int.toNat_natCast] at hs
  exact hs
/-- a for over range(n), by the number of turns done -/
theorem for_rng {tg : Tg} {guard : Store → Prop} {body : Sl → Store → (Sl → Store → Prop) → Prop} {nx : Sl → Store → Prop} (n : Nat) (I : Nat → Sl → Store → Prop)
    (step : ∀ k ρ μ (N : Sl → Store → Prop), k < n → (∀ ρ' μ', I (k + 1) ρ' μ' → N ρ' μ') → I k ρ μ → guard μ ∧ opt (bindT tg (.int (k : Int)) ρ) fun ρ' => body ρ' μ N) (h0 : ∀ ρ μ, I n ρ μ → guard μ ∧ nx ρ μ) :
    ∀ ρ μ, I 0 ρ μ → forN tg guard body nx (rngItems 0 n) ρ μ := by
  have key : ∀ r k ρ μ, k + r = n → I k ρ μ → forN tg guard body nx ((List.range' k r).map fun (k : Nat) => D.int (k : Int)) ρ μ := by
    intro r
    induction r with
    | zero =>
      intro k ρ μ e h
      have e' : k = n := by omega
      subst e'
      exact h0 ρ μ h
    | succ r ih =>
      intro k ρ μ e h
      exact step k ρ μ _ (by omega) (fun ρ' μ' h' => ih (k + 1) ρ' μ' (by omega) h') h
  intro ρ μ h
  have e : rngItems 0 n = (List.range' 0 n).map fun (k : Nat) => D.int (k : Int) := by
    unfold rngItems
    rw [List.range_eq_range']
    exact List.map_congr_left fun k _ => by rw [Int.zero_add]
  rw [e]
  exact key n 0 ρ μ (by omega) h
end PY

set_option Elab.async false
set_option linter.all false
set_option maxRecDepth 100000
set_option maxHeartbeats 4000000
/-! the head of a law with exceptions: by lists of names. -/
namespace PY
open PySem PySem.Spec PyProof.Rows L2
/-- the facts: globals that are there, names that are free, constants -/
def faOf (gls frs : List Str) (vals : List He.Fa) : List He.Fa := gls.map .glo ++ (frs.map .free ++ vals)
section
variable {K : PySem.W.Frag} {h : Heap} {mg : Str → Option Value} {gls frs : List Str} {vals : List He.Fa} {fn : List He.DefD}
theorem fa_glo (X : K.In h) (Gn : h.Ns mainGlobals mg) (c : He.SaysD (faOf gls frs vals) fn K) {x : Str} (hx : x ∈ gls) : mg x = some (.ref (He.ga K x)) :=
  He.glo_ok X Gn (says_fact c (f := .glo x) (List.mem_append_left _ (List.mem_map_of_mem hx)))
theorem fa_free (X : K.In h) (Gn : h.Ns mainGlobals mg) (c : He.SaysD (faOf gls frs vals) fn K) {x : Str} (hx : x ∈ frs) : mg x = none :=
  He.free_ok X Gn (says_fact c (f := .free x) (List.mem_append_right _ (List.mem_append_left _ (List.mem_map_of_mem hx))))
theorem fa_val (c : He.SaysD (faOf gls frs vals) fn K) {f : He.Fa} (hx : f ∈ vals) : f.ok K = true :=
  says_fact c (List.mem_append_right _ (List.mem_append_right _ hx))
end
theorem map_eq_mem {α β : Type} {f g : α → β} : ∀ {xs : List α} {x : α}, xs.map f = xs.map g → x ∈ xs → f x = g x
  | y :: ys, x, h, hm => by
    simp only [List.map_cons, List.cons.injEq] at h
    rcases List.mem_cons.mp hm with e | e
    · rw [e]; exact h.1
    · exact map_eq_mem h.2 e
/-! ### handlers -/
theorem compOf_congr {G G' : Gd} (h : G.cF = G'.cF) (x : XD) (k : CompD) : compOf G x k = compOf G' x k := by
  unfold compOf
  rw [h]
theorem compsOf_congr {G G' : Gd} (h : G.cF = G'.cF) (x : XD) : ∀ ks : List CompD, compsOf G x ks = compsOf G' x ks
  | [] => rfl
  | k :: ks => by
    unfold compsOf
    rw [compOf_congr h, compsOf_congr h x ks]
theorem clauseOf_congr {G G' : Gd} (h : G.cF = G'.cF) (m : Nat → Nat → Option Bool) (x : XD) : ∀ cs : List ClauseD, clauseOf G m x cs = clauseOf G' m x cs
  | [] => rfl
  | c :: cs => by
    unfold clauseOf
    rw [compsOf_congr h, clauseOf_congr h m x cs]
theorem hdOf_congr {G G' : Gd} (h : G.cF = G'.cF) (m : Nat → Nat → Option Bool) (d : HndD) : hdOf G m d = hdOf G' m d := by
  unfold hdOf
  congr 1
  funext x
  exact clauseOf_congr h m x d.clauses
def clsB (K : PySem.W.Frag) (h : HndD) : Bool := h.clauses.all fun c => c.comps.isEmpty || (xfB K (He.ga K c.cls) && c.comps.all fun k => decide (PySem.W.findIn K (.ref (He.ga K c.cls)) k.f = some none))
def clsN (nms gls : List Str) (h : HndD) : Bool := h.clauses.all fun c => decide (nms.getD c.id Str.empty = c.cls) && gls.contains c.cls
theorem clsF_of {K : PySem.W.Frag} {nms gls : List Str} {fss : List (List Str)} {sc : Scope} {mg : Str → Option Value} {t : Mt} {h : HndD} (hn : clsN nms gls h = true) (hg : ∀ x ∈ gls, mg x = some (.ref (He.ga K x))) (hb : clsB K h = true) (ht : t.ok K nms = true) (nd : fss.all (fun fs => decide fs.Nodup) = true) :
    ClsF (GQ K nms fss sc) mg t.get h.clauses := by
  have key : ∀ c ∈ h.clauses, nms.getD c.id Str.empty = c.cls ∧ c.cls ∈ gls := fun c hc => by
    have := List.all_eq_true.mp hn c hc
    simp only [Bool.and_eq_true, decide_eq_true_eq, List.contains_iff_mem] at this
    exact this
  have kb : ∀ c ∈ h.clauses, c.comps ≠ [] → xfB K (He.ga K c.cls) = true ∧ ∀ k ∈ c.comps, PySem.W.findIn K (.ref (He.ga K c.cls)) k.f = some none := fun c hc hne => by
    have := List.all_eq_true.mp hb c hc
    simp only [Bool.or_eq_true, List.isEmpty_iff, Bool.and_eq_true, List.all_eq_true, decide_eq_true_eq] at this
    exact this.resolve_left hne
  refine ⟨fun c hc => ?_, fun c hc hne => ?_, fun c hc k hk => ?_, fun c hc x b e => ht.trans rfl |> fun ht => Mt.get_ok ht e, fun x => ?_⟩
  · show mg c.cls = some (.ref (He.ga K (nms.getD c.id Str.empty)))
    rw [(key c hc).1]
    exact hg _ (key c hc).2
  · show XfC K (He.ga K (nms.getD c.id Str.empty))
    rw [(key c hc).1]
    exact xfB_ok (kb c hc hne).1
  · show PySem.W.findIn K (.ref (He.ga K (nms.getD c.id Str.empty))) k.f = some none
    rw [(key c hc).1]
    exact (kb c hc (List.ne_nil_of_mem hk)).2 k hk
  · show (fss.getD x []).Nodup
    rw [List.getD_eq_getElem?_getD]
    by_cases hx : x < fss.length
    · rw [List.getElem?_eq_getElem hx]
      exact of_decide_eq_true (List.all_eq_true.mp nd _ (List.getElem_mem hx))
    · rw [List.getElem?_eq_none (by omega)]
      exact List.nodup_nil
end PY

set_option Elab.async false
set_option linter.all false
set_option maxRecDepth 100000
set_option maxHeartbeats 4000000
/-! texts: split, joined; counts as texts; repr of a text; lists drawn. -/
namespace PY
open PySem PySem.Spec PyProof.Rows L2
/-! ### texts of the model and texts -/
theorem chr_ok (c : Char) : Char.ofNat c.toNat = c := Char.ofNat_toNat c
theorem strOf_ofString (s : String) : strOf (Str.ofString s) = some s := by
  have e : (Str.ofString s).cps.toList = s.toList.map Char.toNat := TL.tl_ofString s
  unfold strOf
  simp only [e, List.map_map]
  have e2 : (s.toList.map (Char.ofNat ∘ Char.toNat)) = s.toList := (List.map_congr_left fun c _ => chr_ok c).trans (List.map_id _)
  rw [e2, String.ofList_toList, if_pos rfl]
theorem strOf_some {t : Str} (h : ∀ c ∈ t.cps.toList, (Char.ofNat c).toNat = c) : ∃ s, strOf t = some s := by
  refine ⟨String.ofList (t.cps.toList.map Char.ofNat), ?_⟩
  unfold strOf
  have e : Str.ofString (String.ofList (t.cps.toList.map Char.ofNat)) = t := by
    refine TL.ext_tl ?_
    rw [TL.tl_ofString, String.toList_ofList, List.map_map]
    exact (List.map_congr_left fun c hc => h c hc).trans (List.map_id _)
  simp only
  rw [if_pos e]
theorem strsB_map : ∀ ss : List String, strsB (ss.map Str.ofString) = some ss
  | [] => rfl
  | s :: ss => by
    unfold strsB
    simp only [List.map_cons]
    rw [strOf_ofString, Option.bind_some, strsB_map ss]; rfl
/-! ### split -/
def splC (c : Char) : List Char → List Char → List (List Char)
  | acc, [] => [acc]
  | acc, x :: xs => if x = c then acc :: splC c [] xs else splC c (acc ++ [x]) xs
theorem toNat_inj {c d : Char} (h : c.toNat = d.toNat) : c = d := by
  rw [← chr_ok c, h, chr_ok]
theorem spl_one (c : Char) : ∀ (l acc : List Char), TL.spl [c.toNat] 0 (acc.map Char.toNat) (l.map Char.toNat) = (splC c acc l).map (·.map Char.toNat)
  | [], acc => rfl
  | x :: xs, acc => by
    by_cases h : x = c
    · subst h
      have hp : TL.pre [x.toNat] (x.toNat :: xs.map Char.toNat) = true := by simp [TL.pre]
      rw [List.map_cons, TL.spl_hit hp]
      show acc.map Char.toNat :: TL.spl [x.toNat] 0 [] (xs.map Char.toNat) = _
      have ih := spl_one x xs []
      rw [List.map_nil] at ih
      rw [ih]
      simp [splC]
    · have hp : TL.pre [c.toNat] (x.toNat :: xs.map Char.toNat) = false := by
        simp [TL.pre]
        exact fun e => h (toNat_inj e)
      rw [List.map_cons, TL.spl_miss hp]
      have ih := spl_one c xs (acc ++ [x])
      rw [List.map_append, List.map_singleton] at ih
      rw [ih]
      simp [splC, h]
theorem splitS_eq {s t : String} {c : Char} (ht : t.toList = [c]) (hc : c.toNat < 256) (hl : s.toList.length ≤ 10000000) : splitS s t = some ((splC c [] s.toList).map String.ofList) := by
  have et : TL.tl (Str.ofString t) = [c.toNat] := by rw [TL.tl_ofString, ht]; rfl
  have key : (Txt.split (Str.ofString s) (Str.ofString t)).map TL.tl = (splC c [] s.toList).map (·.map Char.toNat) := by
    rw [TL.split_spl _ _ (by rw [et]; simp) (TL.kind_ok (by
      have e2 : (Str.ofString t).cps.toList = [c.toNat] := et
      rw [← Array.all_toList, e2]
      simpa using hc)), et, TL.tl_ofString]
    exact spl_one c s.toList []
  have e2 : Txt.split (Str.ofString s) (Str.ofString t) = ((splC c [] s.toList).map String.ofList).map Str.ofString := by
    refine TL.map_tl_inj ?_
    rw [key, List.map_map, List.map_map]
    exact List.map_congr_left fun p _ => by
      show p.map Char.toNat = TL.tl (Str.ofString (String.ofList p))
      rw [TL.tl_ofString, String.toList_ofList]
  unfold splitS
  rw [if_neg (by rw [ht]; simp; show s.toList.length + 2 ≤ 16777216; omega), e2, strsB_map]
theorem splC_len (c : Char) : ∀ (l acc : List Char), (splC c acc l).length ≤ l.length + 1 ∧ ∀ p ∈ splC c acc l, p.length ≤ acc.length + l.length
  | [], acc => by simp [splC]
  | x :: xs, acc => by
    unfold splC
    split
    · obtain ⟨h1, h2⟩ := splC_len c xs []
      refine ⟨by simp; omega, fun p hp => ?_⟩
      rcases List.mem_cons.mp hp with e | e
      · rw [e]; omega
      · have := h2 p e
        simp at this ⊢; omega
    · obtain ⟨h1, h2⟩ := splC_len c xs (acc ++ [x])
      refine ⟨by simp; omega, fun p hp => ?_⟩
      have := h2 p hp
      simp at this ⊢; omega
theorem splC_part {c : Char} : ∀ {p acc rest : List Char}, c ∉ p → splC c acc (p ++ c :: rest) = (acc ++ p) :: splC c [] rest
  | [], acc, rest, _ => by simp [splC]
  | x :: xs, acc, rest, h => by
    have h1 : x ≠ c := fun e => h (by simp [e])
    have h2 : c ∉ xs := fun e => h (by simp [e])
    rw [List.cons_append, splC, if_neg h1, splC_part h2, List.append_assoc]; rfl
theorem splC_last {c : Char} : ∀ {p acc : List Char}, c ∉ p → splC c acc p = [acc ++ p]
  | [], acc, _ => by simp [splC]
  | x :: xs, acc, h => by
    have h1 : x ≠ c := fun e => h (by simp [e])
    have h2 : c ∉ xs := fun e => h (by simp [e])
    rw [splC, if_neg h1, splC_last h2, List.append_assoc]; rfl
theorem splC_join {c : Char} : ∀ {ps : List (List Char)}, ps ≠ [] → (∀ p ∈ ps, c ∉ p) → splC c [] (joinC [c] ps) = ps
  | [], h, _ => absurd rfl h
  | [p], _, hp => by
    show splC c [] p = [p]
    rw [splC_last (hp p (by simp))]; rfl
  | p :: q :: r, _, hp => by
    show splC c [] (p ++ ([c] ++ joinC [c] (q :: r))) = p :: q :: r
    rw [List.singleton_append, splC_part (hp p (by simp)), splC_join (by simp) fun z hz => hp z (List.mem_cons_of_mem _ hz)]; rfl
theorem joinC_mem {a : List Char} : ∀ {ps : List (List Char)} {x : Char}, x ∈ joinC a ps → x ∈ a ∨ ∃ p ∈ ps, x ∈ p
  | [p], x, h => .inr ⟨p, by simp, h⟩
  | p :: q :: r, x, h => by
    have h' : x ∈ p ++ (a ++ joinC a (q :: r)) := h
    simp only [List.mem_append] at h'
    rcases h' with h1 | h1 | h1
    · exact .inr ⟨p, by simp, h1⟩
    · exact .inl h1
    · rcases joinC_mem h1 with h2 | ⟨p', h2, h3⟩
      · exact .inl h2
      · exact .inr ⟨p', List.mem_cons_of_mem _ h2, h3⟩
theorem joinC_len (a : List Char) : ∀ ps : List (List Char), (joinC a ps).length ≤ (ps.map (·.length)).sum + ps.length * a.length
  | [] => by simp [joinC]
  | [p] => by simp [joinC]
  | p :: q :: r => by
    have := joinC_len a (q :: r)
    show (p ++ (a ++ joinC a (q :: r))).length ≤ _
    simp only [List.length_append, List.map_cons, List.sum_cons, List.length_cons] at this ⊢
    have e : (r.length + 1 + 1) * a.length = (r.length + 1) * a.length + a.length := Nat.succ_mul _ _
    omega
theorem joinS_toList (s : String) (ss : List String) : (joinS s ss).toList = joinC s.toList (ss.map fun t => t.toList) := String.toList_ofList
/-! ### repr of a text -/
theorem small_chr : (List.range 256).all (fun c => decide ((Char.ofNat c).toNat = c)) = true := by decide +kernel
theorem repr_chr : (List.range 128).all (fun c => (Builtin.Str.reprChar 39 c).all (· < 256) && (Builtin.Str.reprChar 34 c).all (· < 256)) = true := by decide +kernel
def ascii (s : String) : Bool := s.toList.all fun c => decide (c.toNat < 128)
theorem fold_codes {q : Nat} (hq : q = 39 ∨ q = 34) : ∀ (l : List Nat) (acc : Array Nat), (∀ c ∈ l, c < 128) → (∀ c ∈ acc.toList, c < 256) → ∀ c ∈ (l.foldl (fun out c => out ++ (Builtin.Str.reprChar q c).toArray) acc).toList, c < 256
  | [], acc, _, h => h
  | x :: xs, acc, hl, h => by
    rw [List.foldl_cons]
    refine fold_codes hq xs _ (fun c hc => hl c (List.mem_cons_of_mem _ hc)) fun c hc => ?_
    rw [Array.toList_append] at hc
    rcases List.mem_append.mp hc with h1 | h1
    · exact h c h1
    · have h2 := List.all_eq_true.mp repr_chr x (List.mem_range.mpr (hl x List.mem_cons_self))
      simp only [Bool.and_eq_true, List.all_eq_true, decide_eq_true_eq] at h2
      rcases hq with e | e <;> subst e
      · exact h2.1 c (by simpa using h1)
      · exact h2.2 c (by simpa using h1)
theorem repr_str {s : String} (h : ascii s = true) (hl : s.toList.length ≤ 100000) : ∃ t, reprD (.str s) = some t := by
  have hs : (Str.ofString s).cps.toList = s.toList.map Char.toNat := TL.tl_ofString s
  have h1 : ∀ c ∈ (Str.ofString s).cps.toList, c < 128 := fun c hc => by
    rw [hs] at hc
    obtain ⟨d, hd, rfl⟩ := List.mem_map.mp hc
    exact of_decide_eq_true (List.all_eq_true.mp h d hd)
  have hq : ∀ x : Str, reprQuote x = 39 ∨ reprQuote x = 34 := fun x => by
    unfold reprQuote
    split
    · exact .inr rfl
    · exact .inl rfl
  have hcodes : ∀ c ∈ (reprText (Str.ofString s)).cps.toList, c < 256 := fun c hc => by
    unfold reprText at hc
    simp only [Array.toList_push] at hc
    have hq' : reprQuote (Str.ofString s) < 256 := by rcases hq (Str.ofString s) with e | e <;> rw [e] <;> decide
    rcases List.mem_append.mp hc with h2 | h2
    · refine fold_codes (hq (Str.ofString s)) (Str.ofString s).cps.toList #[reprQuote (Str.ofString s)] h1 (fun c hc => by simp at hc; rw [hc]; exact hq') c ?_
      rw [Array.foldl_toList]; exact h2
    · rw [List.mem_singleton.mp h2]; exact hq'
  obtain ⟨t, ht⟩ := strOf_some (t := reprText (Str.ofString s)) fun c hc => of_decide_eq_true (List.all_eq_true.mp small_chr c (List.mem_range.mpr (hcodes c hc)))
  refine ⟨t, ?_⟩
  have hlen := StrLaws.reprText_len (Str.ofString s) fun c hc => Nat.lt_of_lt_of_le (h1 c hc) (by decide)
  rw [ofString_length] at hlen
  have hz : (toPy (.str s)).shown.length ≤ Sz := by
    show (reprText (Str.ofString s)).length ≤ 16777216
    omega
  unfold reprD
  rw [if_pos]
  · exact ht
  · have h0 : plain (.str s) = true := rfl
    have h2 : (toPy (.str s)).showable = true := rfl
    have h3 : decide (depth (.str s) ≤ 150) = true := rfl
    rw [h0, h2, h3, decide_eq_true hz]; rfl
/-! ### counts -/
theorem fig_nat {c : Char} : figL.contains c = true ↔ 48 ≤ c.toNat ∧ c.toNat ≤ 57 := by
  constructor
  · intro h
    have h' : c ∈ figL := List.contains_iff_mem.mp h
    have : figL = ['0', '1', '2', '3', '4', '5', '6', '7', '8', '9'] := by decide
    rw [this] at h'
    simp only [List.mem_cons, List.not_mem_nil, or_false] at h'
    rcases h' with e | e | e | e | e | e | e | e | e | e <;> subst e <;> decide
  · rintro ⟨h1, h2⟩
    have e : c = Char.ofNat c.toNat := (chr_ok c).symm
    have : c.toNat = 48 ∨ c.toNat = 49 ∨ c.toNat = 50 ∨ c.toNat = 51 ∨ c.toNat = 52 ∨ c.toNat = 53 ∨ c.toNat = 54 ∨ c.toNat = 55 ∨ c.toNat = 56 ∨ c.toNat = 57 := by omega
    rcases this with h | h | h | h | h | h | h | h | h | h <;> rw [e, h] <;> decide
def valC (l : List Char) : Int := ((NumText.digitsVal (l.map Char.toNat) : Nat) : Int)
def okW (l : List Char) : Bool := !l.isEmpty && l.all figL.contains && decide (l.length ≤ 9) && (decide (l.length ≤ 1) || l.head? != some '0')
def countS (s : String) : Option Int := if okW s.toList = true then some (valC s.toList) else none
theorem int_figs {s : String} (h : s.toList.all figL.contains = true) (hne : s.toList ≠ []) (hl : s.toList.length ≤ 600) : PySem.intText? (Str.ofString s) = some (valC s.toList) := by
  have e : Str.ofString s = SX.S (s.toList.map Char.toNat) := TL.ext_tl (TL.tl_ofString s)
  rw [e]
  refine SX.int_S ?_ (by simpa using hne) (by rw [List.length_map]; omega)
  rw [List.all_map, List.all_eq_true]
  intro c hc
  have := fig_nat.mp (List.all_eq_true.mp h c hc)
  simp [this]
theorem num_toList (k : Nat) : (toString (k : Int)).toList.map Char.toNat = TL.numL k := by
  rw [← TL.tl_ofString]; exact TL.tl_num k
theorem numL_head : ∀ n : Nat, 1 ≤ n → (TL.numL n).head? ≠ some 48 := by
  intro n
  induction n using Nat.strongRecOn with
  | _ n ih =>
    intro h
    by_cases h10 : n < 10
    · rw [TL.numL_lt h10]
      simp; omega
    · rw [TL.numL_step (by omega), List.head?_append]
      have := ih (n / 10) (by omega) (by omega)
      cases e : (TL.numL (n / 10)).head? with
      | none => exact absurd (List.head?_eq_none_iff.mp e) (TL.numL_ne _)
      | some z => rw [e] at this; simpa using this
theorem num_figs (k : Nat) : (toString (k : Int)).toList.all figL.contains = true := by
  rw [List.all_eq_true]
  intro c hc
  refine fig_nat.mpr ?_
  have h := TL.numL_digits k c.toNat (by rw [← num_toList]; exact List.mem_map_of_mem hc)
  exact h
theorem num_len {k : Nat} (h : k < 1000000000) : (toString (k : Int)).toList.length ≤ 9 := by
  have := TL.numL_len (n := k) (k := 9) (by decide) (by simpa using h)
  rw [← num_toList, List.length_map] at this
  exact this
theorem num_ne (k : Nat) : (toString (k : Int)).toList ≠ [] := fun e => by
  have := num_toList k
  rw [e] at this
  exact TL.numL_ne k this.symm
theorem num_okW {k : Nat} (h : k < 1000000000) : okW (toString (k : Int)).toList = true := by
  unfold okW
  simp only [Bool.and_eq_true, Bool.or_eq_true, decide_eq_true_eq, Bool.not_eq_true', List.isEmpty_eq_false_iff, bne_iff_ne, ne_eq]
  refine ⟨⟨⟨num_ne k, num_figs k⟩, num_len h⟩, ?_⟩
  by_cases hk : k < 10
  · left
    have := num_toList k
    rw [TL.numL_lt hk] at this
    have := congrArg List.length this
    rw [List.length_map] at this
    simp at this; simp; omega
  · right
    intro e
    refine numL_head k (by omega) ?_
    rw [← num_toList, List.head?_map, e]; rfl
theorem count_num {k : Nat} (h : k < 1000000000) : countS (toString (k : Int)) = some (k : Int) := by
  unfold countS
  rw [if_pos (num_okW h)]
  unfold valC
  rw [num_toList, TL.numL_val]
def cntParts : List String → Option (List Int)
  | [] => some []
  | p :: r => (countS p).bind fun n => (cntParts r).map (n :: ·)
def countsS (s : String) : Option (List Int) := if s = "-" then some [] else cntParts ((splC ',' [] s.toList).map String.ofList)
def countsT (ns : List Int) : String := if ns = [] then "-" else joinS "," (ns.map toString)
theorem cnt_nums : ∀ {ns : List Int}, (∀ n ∈ ns, 0 ≤ n ∧ n < 1000000000) → cntParts (ns.map toString) = some ns
  | [], _ => rfl
  | n :: ns, h => by
    obtain ⟨k, rfl⟩ : ∃ k : Nat, n = (k : Int) := ⟨n.toNat, by have := h n (by simp); omega⟩
    have hk := h (k : Int) (by simp)
    unfold cntParts
    simp only [List.map_cons]
    rw [count_num (by omega), Option.bind_some, cnt_nums fun n hn => h n (List.mem_cons_of_mem _ hn)]; rfl
theorem num_free {n : Int} (h : 0 ≤ n) {c : Char} (hc : figL.contains c = false) : c ∉ (toString n).toList := fun hm => by
  obtain ⟨k, rfl⟩ : ∃ k : Nat, n = (k : Int) := ⟨n.toNat, by omega⟩
  have := List.all_eq_true.mp (num_figs k) c hm
  rw [hc] at this; cases this
theorem ct_chars {ns : List Int} (h : ∀ n ∈ ns, 0 ≤ n ∧ n < 1000000000) (hne : ns ≠ []) {c : Char} (hc : c ∈ (countsT ns).toList) : c = ',' ∨ figL.contains c = true := by
  unfold countsT at hc
  rw [if_neg hne, joinS_toList] at hc
  rcases joinC_mem hc with h1 | ⟨p, h1, h2⟩
  · left; simpa using h1
  · right
    rw [List.map_map] at h1
    obtain ⟨n, hn, rfl⟩ := List.mem_map.mp h1
    cases e : figL.contains c with
    | true => rfl
    | false => exact absurd h2 (num_free (h n hn).1 e)
theorem counts_back {ns : List Int} (h : ∀ n ∈ ns, 0 ≤ n ∧ n < 1000000000) : countsS (countsT ns) = some ns := by
  by_cases hne : ns = []
  · subst hne; rfl
  have h1 : countsT ns ≠ "-" := fun e => by
    have := ct_chars h hne (c := '-') (by rw [e]; decide)
    rcases this with z | z
    · revert z; decide
    · revert z; decide
  unfold countsS
  rw [if_neg h1]
  unfold countsT
  rw [if_neg hne, joinS_toList]
  have e1 : (",":String).toList = [','] := by decide
  rw [e1, splC_join (by simpa using hne) (fun p hp => by
    rw [List.map_map] at hp
    obtain ⟨n, hn, rfl⟩ := List.mem_map.mp hp
    exact num_free (h n hn).1 (by decide))]
  rw [List.map_map, List.map_map]
  have e2 : ns.map ((String.ofList ∘ fun t : String => t.toList) ∘ toString) = ns.map toString := List.map_congr_left fun n _ => String.ofList_toList
  rw [e2]
  exact cnt_nums h
theorem ct_len {ns : List Int} (h : ∀ n ∈ ns, 0 ≤ n ∧ n < 1000000000) : (countsT ns).toList.length ≤ 10 * ns.length + 1 := by
  unfold countsT
  split
  · rename_i e; subst e; decide
  · rw [joinS_toList]
    have h1 := joinC_len (",":String).toList ((ns.map toString).map fun t => t.toList)
    have h2 : ∀ ms : List Int, (∀ n ∈ ms, 0 ≤ n ∧ n < 1000000000) → ((((ms.map toString).map fun t : String => t.toList).map (·.length)).sum) ≤ 9 * ms.length := by
      intro ms
      induction ms with
      | nil => intro _; simp
      | cons m ms ih =>
        intro hm
        have := ih fun n hn => hm n (List.mem_cons_of_mem _ hn)
        obtain ⟨k, rfl⟩ : ∃ k : Nat, m = (k : Int) := ⟨m.toNat, by have := hm m (by simp); omega⟩
        have hk := num_len (k := k) (by have := hm (k : Int) (by simp); omega)
        simp only [List.map_cons, List.sum_cons, List.length_cons] at this ⊢
        omega
    have h3 := h2 ns h
    have e1 : (",":String).toList.length = 1 := by decide
    simp only [List.length_map, e1] at h1
    omega
theorem ct_ascii {ns : List Int} (h : ∀ n ∈ ns, 0 ≤ n ∧ n < 1000000000) : ascii (countsT ns) = true := by
  by_cases hne : ns = []
  · subst hne; decide
  unfold ascii
  rw [List.all_eq_true]
  intro c hc
  refine decide_eq_true ?_
  rcases ct_chars h hne hc with e | e
  · subst e; decide
  · have := fig_nat.mp e; omega
/-! ### lists drawn -/
/-- a comprehension over n items that draws: each gives something of P -/
theorem comp_draws {turn : D → Store → (Option D → Store → Prop) → Prop} {guard : Store → Prop} (J : Nat → Store → Prop) (P : D → Prop) (n : Nat) (hg : ∀ k μ, J k μ → guard μ)
    (step : ∀ k d μ (R : Option D → Store → Prop), k < n → J k μ → (∀ x μ', P x → J (k + 1) μ' → R (some x) μ') → turn d μ R) (hn : n ≤ Sz) {items : List D} (hi : items.length = n) {μ : Store} {Q : List D → Store → Prop} (h0 : J 0 μ)
    (q : ∀ xs μ', xs.length = n → (∀ x ∈ xs, P x) → J n μ' → Q xs μ') : compTurns turn guard items μ [] Q := by
  have key : ∀ (ds : List D) (k : Nat) (acc : List D) (μ : Store), k + ds.length = n → acc.length = k → (∀ x ∈ acc, P x) → J k μ → compTurns turn guard ds μ acc Q := by
    intro ds
    induction ds with
    | nil =>
      intro k acc μ e1 e2 h1 h2
      simp at e1
      subst e1
      exact ⟨hg _ _ h2, q acc μ e2 h1 h2⟩
    | cons d ds ih =>
      intro k acc μ e1 e2 h1 h2
      rw [List.length_cons] at e1
      refine ⟨hg _ _ h2, step k d μ _ (by omega) h2 fun x μ' hx hJ => ?_⟩
      refine ⟨by omega, ih (k + 1) _ μ' (by omega) (by simp [e2]) ?_ hJ⟩
      intro y hy
      rcases List.mem_append.mp hy with z | z
      · exact h1 y z
      · rw [List.mem_singleton.mp z]; exact hx
  exact key items 0 [] μ (by omega) rfl (by simp) h0
/-! ### unlike names -/
theorem distD_nodup : ∀ ss : List String, (decide (distD ss = ss.length) = true ↔ ss.Nodup) ∧ distD ss ≤ ss.length
  | [] => by simp [distD]
  | x :: r => by
    obtain ⟨h1, h2⟩ := distD_nodup r
    simp only [decide_eq_true_eq] at h1 ⊢
    unfold distD
    rw [List.nodup_cons, List.length_cons]
    by_cases hx : x ∈ r
    · have : (r.any (· == x)) = true := by simpa using hx
      rw [this]
      simp only [if_true]
      exact ⟨⟨fun e => by omega, fun e => absurd hx e.1⟩, by omega⟩
    · have : (r.any (· == x)) = false := by
        cases e : r.any (· == x) with
        | false => rfl
        | true => exact absurd (by simpa using e) hx
      rw [this]
      simp only [Bool.false_eq_true, if_false]
      refine ⟨⟨fun e => ⟨hx, h1.mp (by omega)⟩, fun e => by have := h1.mpr e.2; omega⟩, by omega⟩
/-- the places at which something earlier stands again -/
def twiceD (xs : List D) : List Nat := (List.range xs.length).filter fun k => (xs.take k).any fun y => eqv y (xs.getD k .non)
theorem twice_strs (ss : List String) : (twiceD (ss.map .str)).isEmpty = true ↔ ss.Nodup := by
  unfold twiceD
  rw [List.isEmpty_iff, List.filter_eq_nil_iff, List.length_map]
  rw [List.nodup_iff_pairwise_ne, List.pairwise_iff_getElem]
  constructor
  · intro h i j hi hj hij e
    refine h j (List.mem_range.mpr hj) ?_
    rw [List.any_eq_true]
    refine ⟨.str ss[i], ?_, ?_⟩
    · rw [← List.map_take]
      refine List.mem_map_of_mem ?_
      rw [List.mem_take_iff_getElem]
      exact ⟨i, by omega, rfl⟩
    · rw [List.getD_eq_getElem?_getD, List.getElem?_map, List.getElem?_eq_getElem hj]
      simp [e]
  · intro h k hk
    have hk := List.mem_range.mp hk
    rw [Bool.not_eq_true, List.any_eq_false]
    intro y hy
    rw [← List.map_take] at hy
    obtain ⟨s, hs, rfl⟩ := List.mem_map.mp hy
    rw [List.mem_take_iff_getElem] at hs
    obtain ⟨i, hi, rfl⟩ := hs
    have := h i k (by omega) hk (by omega)
    rw [List.getD_eq_getElem?_getD, List.getElem?_map, List.getElem?_eq_getElem hk]
    simp
    exact this
theorem names_due (xs : List D) : namesB xs = ((twiceD xs).isEmpty && xs.all isName) := by
  unfold namesB
  cases e : xs.all isName with
  | false => simp
  | true =>
    obtain ⟨ss, h1, h2⟩ := names_strs e
    have := strsOf_some h1
    subst this
    rw [h1]
    simp only [Bool.true_and, Bool.and_true]
    have := (distD_nodup ss).1
    have h3 := twice_strs ss
    cases e1 : (twiceD (ss.map .str)).isEmpty with
    | true => exact this.mpr (h3.mp e1)
    | false =>
      cases e2 : decide (distD ss = ss.length) with
      | false => rfl
      | true => rw [h3.mpr (this.mp e2)] at e1; cases e1
theorem ok_and {d : D} (h : okD d = true) : plain d = true ∧ shorts d = true := by
  unfold okD at h; rwa [Bool.and_eq_true] at h
theorem plains_map {α : Type} {f : α → D} (h : ∀ a, plain (f a) = true) (xs : List α) : plains (xs.map f) = true := plains_iff.mpr fun x hx => by
  obtain ⟨a, _, rfl⟩ := List.mem_map.mp hx; exact h a
theorem eq_nil {μ : Store} {xs : List D} (h : plains xs = true) : eqD μ (.lst xs) (.lst []) = some xs.isEmpty := by
  rw [eqD_r μ (by simpa using h) rfl (by simp)]
  cases xs <;> rfl
theorem single_eq (c d : Char) : (String.singleton c == String.singleton d) = (c == d) := by
  by_cases h : c = d
  · subst h; rw [beq_self_eq_true, beq_self_eq_true]
  · have : String.singleton c ≠ String.singleton d := fun e => h (by
      have := congrArg (fun s : String => s.toList) e
      simpa using this)
    rw [beq_eq_false_iff_ne.mpr this, beq_eq_false_iff_ne.mpr h]
theorem str_nil {s : String} (h : s ≠ "") : s.toList ≠ [] := fun e => h (by
  rw [← String.ofList_toList (s := s), e])
/-- a comprehension with a test, over items by a list -/
theorem comp_filterF {α : Type} (g : α → D) (p : α → Bool) (f : α → D) {turn : D → Store → (Option D → Store → Prop) → Prop} {guard : Store → Prop} {μ : Store} {Q : List D → Store → Prop} (hg : guard μ) : ∀ {xs : List α} {acc : List D}, (∀ a ∈ xs, ∀ R : Option D → Store → Prop, R (if p a = true then some (f a) else none) μ → turn (g a) μ R) → acc.length + xs.length ≤ Sz →
    Q (acc ++ (xs.filter p).map f) μ → compTurns turn guard (xs.map g) μ acc Q
  | [], acc, _, _, q => ⟨hg, by simpa using q⟩
  | a :: as, acc, h, hl, q => by
    rw [List.length_cons] at hl
    refine ⟨hg, h a List.mem_cons_self _ ?_⟩
    by_cases hp : p a = true
    · rw [if_pos hp]
      refine ⟨by omega, comp_filterF g p f hg (fun x hx => h x (List.mem_cons_of_mem _ hx)) (by rw [List.length_append, List.length_singleton]; omega) ?_⟩
      rw [List.filter_cons_of_pos hp, List.map_cons] at q
      rw [List.append_assoc]; exact q
    · rw [if_neg hp]
      refine comp_filterF g p f hg (fun x hx => h x (List.mem_cons_of_mem _ hx)) (by omega) ?_
      rw [List.filter_cons_of_neg hp] at q
      exact q
theorem inD_strL {μ : Store} (ss : List String) (s : String) : inD μ (.str s) (.lst (ss.map D.str)) = some (ss.contains s) := by
  rw [inD_lst μ rfl (plains_str ss) (by simp), any_eqv_str]
theorem p_split {μ : Store} {s t : String} {c : Char} (ht : t.toList = [c]) (hc : c.toNat < 256) (hl : s.toList.length ≤ 10000000) : primD .split [.str s, .str t] μ = some (.lst (((splC c [] s.toList).map String.ofList).map .str), μ) := by
  show (splitS s t).map _ = _
  rw [splitS_eq ht hc hl]; rfl
theorem p_join {μ : Store} {s : String} {ss : List String} (h : (ss.map fun t => t.toList.length).sum + ss.length * s.toList.length ≤ 16777216) : primD .join [.str s, .lst (ss.map .str)] μ = some (.str (joinS s ss), μ) := by
  show ((seqOf μ (.lst (ss.map .str))).bind strsOf).bind _ = _
  rw [seq_lst, Option.bind_some, strsOf_map, Option.bind_some, if_pos h]
theorem p_str1 {μ : Store} {i : Int} (h : i.natAbs < 4294967296) : primD .str1 [.int i] μ = some (.str (toString i), μ) := by
  show (if i.natAbs.log2 < 1920 then _ else _) = _
  rw [if_pos]
  by_cases h0 : i.natAbs = 0
  · rw [h0]; decide
  · have : i.natAbs.log2 < 32 := (Nat.log2_lt h0).mpr (by simpa using h)
    omega
theorem cnt_none {ps : List String} : cntParts ps = none ↔ ps.any (fun p => (countS p).isNone) = true := by
  induction ps with
  | nil => simp [cntParts]
  | cons p r ih =>
    unfold cntParts
    cases e : countS p with
    | none => simp [e]
    | some n =>
      rw [Option.bind_some, Option.map_eq_none_iff, ih, List.any_cons, e]; simp
theorem cnt_some : ∀ {ps : List String} {ns : List Int}, cntParts ps = some ns → ps.map countS = ns.map some
  | [], ns, h => by cases h; rfl
  | p :: r, ns, h => by
    unfold cntParts at h
    obtain ⟨n, e1, h⟩ := Option.bind_eq_some_iff.mp h
    obtain ⟨ms, e2, rfl⟩ := Option.map_eq_some_iff.mp h
    rw [List.map_cons, e1, cnt_some e2]; rfl
def toI : D → Int
  | .int i => i
  | _ => 0
theorem depths_le' {n : Nat} : ∀ {xs : List D}, (∀ x ∈ xs, depth x ≤ n) → depths xs ≤ n
  | [], _ => Nat.zero_le _
  | x :: xs, h => by
    rw [depths_cons]
    exact Nat.max_le.mpr ⟨h x List.mem_cons_self, depths_le' fun y hy => h y (List.mem_cons_of_mem _ hy)⟩
end PY

set_option Elab.async false
set_option linter.all false
set_option maxRecDepth 100000
set_option maxHeartbeats 4000000
/-! terms, plain; texts in order. -/
namespace PY
open PySem PySem.Spec PyProof.Rows L2
/-! ### texts in order -/
theorem sortS_perm {ss ts : List String} (h : ss.Perm ts) : sortS ss = sortS ts := by
  have e := sort_uniq (ys := (sortS ss).map PySem.Str.ofString) (ss := ts) (((List.mergeSort_perm ss strLe).trans h).map _) ?_
  · have inj : ∀ {a b : List String}, a.map PySem.Str.ofString = b.map PySem.Str.ofString → a = b := by
      intro a
      induction a with
      | nil => intro b h; cases b with
        | nil => rfl
        | cons _ _ => cases h
      | cons x a ih => intro b h; cases b with
        | nil => cases h
        | cons y b =>
          simp only [List.map_cons, List.cons.injEq] at h
          rw [ofString_inj h.1, ih h.2]
    exact inj e
  · have := List.pairwise_mergeSort (le := strLe) (fun a b c h1 h2 => by
      rw [strLe_iff] at h1 h2 ⊢
      exact List.le_trans h1 h2) (fun a b => by
      rw [Bool.or_eq_true, strLe_iff, strLe_iff]
      exact List.le_total _ _) ss
    refine PyProof.Rows.sortedS_of_pairwise _ ?_
    rw [List.pairwise_map]
    refine this.imp fun {a b} h => ?_
    rw [PyProof.Rows.ltCps_eq, decide_eq_false_iff_not]
    have h2 := (strLe_iff a b).mp h
    rw [← TL.tl_ofString, ← TL.tl_ofString] at h2
    exact h2
theorem sortS_set {ss ts : List String} (h1 : ss.Nodup) (h2 : ts.Nodup) (h : ∀ s, s ∈ ss ↔ s ∈ ts) : sortS ss = sortS ts := sortS_perm ((List.perm_ext_iff_of_nodup h1 h2).mpr h)
theorem nub_len {ss : List String} {n : Nat} {ts : List String} (h : ∀ s ∈ ss, s ∈ ts) (ht : ts.length ≤ n) : (nubS ss).length ≤ n := by
  have key : ∀ (a b : List String), a.Nodup → (∀ s ∈ a, s ∈ b) → a.length ≤ b.length := by
    intro a
    induction a with
    | nil => intro b _ _; exact Nat.zero_le _
    | cons x a ih =>
      intro b hn hs
      obtain ⟨h1, h2⟩ := List.nodup_cons.mp hn
      have hx : x ∈ b := hs x (by simp)
      have hp := List.perm_cons_erase hx
      have := ih (b.erase x) h2 fun s hs' => by
        have h3 := hs s (List.mem_cons_of_mem _ hs')
        have h4 := hp.mem_iff.mp h3
        rcases List.mem_cons.mp h4 with e | e
        · subst e; exact absurd hs' h1
        · exact e
      have hl := hp.length_eq
      rw [List.length_cons] at hl ⊢
      omega
  exact Nat.le_trans (key _ ts (nubS_nodup ss) fun s hs => h s (nubS_mem.mp hs)) ht
/-! ### tests: names -/
mutual
def tn : D → List String
  | .tup (.str h :: r) => if h == "name" then (match r with
    | .str s :: _ => [s]
    | _ => []) else tns r
  | _ => []
def tns : List D → List String
  | [] => []
  | x :: xs => tn x ++ tns xs
end
@[simp] theorem tns_nil : tns [] = [] := rfl
@[simp] theorem tns_cons (x : D) (xs : List D) : tns (x :: xs) = tn x ++ tns xs := rfl
theorem tns_append (xs ys : List D) : tns (xs ++ ys) = tns xs ++ tns ys := by
  induction xs with
  | nil => rfl
  | cons x xs ih => rw [List.cons_append, tns_cons, tns_cons, ih, List.append_assoc]
/-- how a test looks -/
theorem test_form {t : D} (h : isTest t = true) : (∃ s, t = .tup [.str "name", .str s] ∧ nameS s = true) ∨ (∃ h r, t = .tup (.str h :: r) ∧ (h == "name") = false ∧ testParts t = some r) := by
  rw [isTest_eq] at h
  unfold testParts at h
  split at h
  · cases h
  rename_i ps e
  split at e
  · rename_i h1
    obtain ⟨s, rfl, hs⟩ := head1 h1
    right
    refine ⟨s, [], rfl, ?_, by unfold testParts; rw [if_pos h1]⟩
    simp at hs
    rcases hs with rfl | rfl <;> rfl
  rename_i n1
  split at e
  · rename_i h1
    obtain ⟨s, x, rfl, hs⟩ := head2 h1
    simp at hs
    subst hs
    split at e
    · rename_i h2
      left
      have : isName x = true := by simpa [part] using h2
      obtain ⟨s, rfl⟩ := isName_str this
      exact ⟨s, rfl, this⟩
    · cases e
  rename_i n2
  split at e
  · rename_i h1
    obtain ⟨s, x, rfl, hs⟩ := head2 h1
    simp at hs
    subst hs
    right
    exact ⟨"not", [x], rfl, rfl, by unfold testParts; rw [if_neg n1, if_neg n2, if_pos h1]; rfl⟩
  rename_i n3
  split at e
  · rename_i h1
    obtain ⟨s, x, y, rfl, hs⟩ := head3 h1
    right
    refine ⟨s, [x, y], rfl, ?_, by unfold testParts; rw [if_neg n1, if_neg n2, if_neg n3, if_pos h1]; rfl⟩
    simp at hs
    rcases hs with rfl | rfl <;> rfl
  · cases e
theorem tn_name (s : String) : tn (.tup [.str "name", .str s]) = [s] := rfl
theorem tn_op {h : String} {r : List D} (hh : (h == "name") = false) : tn (.tup (.str h :: r)) = tns r := by
  unfold tn
  rw [hh]; rfl
/-! ### terms -/
def opB (h : String) (n : Nat) : Bool := ((h == "plus" || h == "times") && n == 2) || (h == "star" && n == 1)
def leafB (h : String) (r : List D) : Bool := match r with
  | [x] => (h == "test" && isTest x) || (h == "deed" && isName x)
  | _ => false
mutual
def tOk : D → Bool
  | .tup (.str h :: r) => if opB h r.length = true then tOks r else leafB h r
  | _ => false
def tOks : List D → Bool
  | [] => true
  | x :: xs => tOk x && tOks xs
end
mutual
def tSize : D → Nat
  | .tup (.str h :: r) => if opB h r.length = true then 1 + tSizes r else 1
  | _ => 1
def tSizes : List D → Nat
  | [] => 0
  | x :: xs => tSize x + tSizes xs
end
mutual
def tDep : D → Nat
  | .tup (.str h :: r) => if opB h r.length = true then 1 + tDeps r else 1
  | _ => 1
def tDeps : List D → Nat
  | [] => 0
  | x :: xs => max (tDep x) (tDeps xs)
end
mutual
def tNodes : D → List D
  | .tup (.str h :: r) => .tup (.str h :: r) :: (if opB h r.length = true then tNodess r else [])
  | t => [t]
def tNodess : List D → List D
  | [] => []
  | x :: xs => tNodes x ++ tNodess xs
end
def isTerm (t : D) : Bool := tOk t && decide (tSize t ≤ 4000) && decide (tDep t ≤ 300)
@[simp] theorem tOks_nil : tOks [] = true := rfl
@[simp] theorem tOks_cons (x : D) (xs : List D) : tOks (x :: xs) = (tOk x && tOks xs) := rfl
@[simp] theorem tSizes_nil : tSizes [] = 0 := rfl
@[simp] theorem tSizes_cons (x : D) (xs : List D) : tSizes (x :: xs) = tSize x + tSizes xs := rfl
@[simp] theorem tDeps_nil : tDeps [] = 0 := rfl
@[simp] theorem tDeps_cons (x : D) (xs : List D) : tDeps (x :: xs) = max (tDep x) (tDeps xs) := rfl
@[simp] theorem tNodess_nil : tNodess [] = [] := rfl
@[simp] theorem tNodess_cons (x : D) (xs : List D) : tNodess (x :: xs) = tNodes x ++ tNodess xs := rfl
theorem tOks_all (xs : List D) : tOks xs = xs.all tOk := by
  induction xs with
  | nil => rfl
  | cons x xs ih => rw [tOks_cons, List.all_cons, ih]
theorem tOks_append (xs ys : List D) : tOks (xs ++ ys) = (tOks xs && tOks ys) := by rw [tOks_all, tOks_all, tOks_all, List.all_append]
theorem tSizes_append (xs ys : List D) : tSizes (xs ++ ys) = tSizes xs + tSizes ys := by
  induction xs with
  | nil => simp
  | cons x xs ih => rw [List.cons_append, tSizes_cons, tSizes_cons, ih]; omega
theorem tNodess_append (xs ys : List D) : tNodess (xs ++ ys) = tNodess xs ++ tNodess ys := by
  induction xs with
  | nil => rfl
  | cons x xs ih => rw [List.cons_append, tNodess_cons, tNodess_cons, ih, List.append_assoc]
theorem tSize_pos (t : D) : 1 ≤ tSize t := by
  unfold tSize
  split
  · split <;> omega
  · exact Nat.le_refl _
theorem tDep_pos (t : D) : 1 ≤ tDep t := by
  unfold tDep
  split
  · split <;> omega
  · exact Nat.le_refl _
theorem op_ok {h : String} {r : List D} (ho : opB h r.length = true) : tOk (.tup (.str h :: r)) = tOks r ∧ tSize (.tup (.str h :: r)) = 1 + tSizes r ∧ tDep (.tup (.str h :: r)) = 1 + tDeps r ∧ tNodes (.tup (.str h :: r)) = .tup (.str h :: r) :: tNodess r := by
  unfold tOk tSize tDep tNodes
  rw [if_pos ho, if_pos ho, if_pos ho, if_pos ho]
  exact ⟨rfl, rfl, rfl, rfl⟩
theorem leaf_ok {h : String} {r : List D} (ho : opB h r.length = false) : tOk (.tup (.str h :: r)) = leafB h r ∧ tSize (.tup (.str h :: r)) = 1 ∧ tDep (.tup (.str h :: r)) = 1 ∧ tNodes (.tup (.str h :: r)) = [.tup (.str h :: r)] := by
  unfold tOk tSize tDep tNodes
  rw [if_neg (by rw [ho]; simp), if_neg (by rw [ho]; simp), if_neg (by rw [ho]; simp), if_neg (by rw [ho]; simp)]
  exact ⟨rfl, rfl, rfl, rfl⟩
mutual
theorem tNodes_len : ∀ t : D, (tNodes t).length = tSize t
  | .tup (.str h :: r) => by
    cases ho : opB h r.length with
    | true =>
      obtain ⟨_, h2, _, h4⟩ := op_ok ho
      rw [h2, h4, List.length_cons, tNodess_len r]; omega
    | false =>
      obtain ⟨_, h2, _, h4⟩ := leaf_ok ho
      rw [h2, h4]; rfl
  | .tup [] | .non | .bl _ | .int _ | .str _ | .lst _ | .ins _ _ | .ref _ | .scr _ => rfl
  | .tup (.non :: _) | .tup (.bl _ :: _) | .tup (.int _ :: _) | .tup (.tup _ :: _) | .tup (.lst _ :: _) | .tup (.ins _ _ :: _) | .tup (.ref _ :: _) | .tup (.scr _ :: _) => rfl
theorem tNodess_len : ∀ ts : List D, (tNodess ts).length = tSizes ts
  | [] => rfl
  | x :: xs => by rw [tNodess_cons, List.length_append, tNodes_len x, tNodess_len xs]; rfl
end
/-- names of tests, of deeds in a list of nodes -/
def nodeT : D → List String
  | .tup [.str h, x] => if h == "test" then tn x else []
  | _ => []
def nodeD : D → List String
  | .tup [.str h, .str s] => if h == "deed" then [s] else []
  | _ => []
end PY

set_option Elab.async false
set_option linter.all false
set_option maxRecDepth 100000
set_option maxHeartbeats 4000000
/-! constants of the module that are tuples, one within the other. -/
namespace PY
open PySem PySem.Spec PyProof.Rows L2
mutual
def ctB (K : PySem.W.Frag) : D → Value → Bool
  | .non, .none => true
  | .bl b, .bool c => b == c
  | .int i, .int j _ => i == j
  | .str s, .str x _ => Str.ofString s == x
  | .tup ds, .ref a => (match K.lookup a with
    | some ⟨.type c, _, .seq its _, _⟩ => decide (c = "tuple") && (decide (its.size ≤ sizeLine) && ctBs K ds its.toList)
    | _ => false)
  | _, _ => false
def ctBs (K : PySem.W.Frag) : List D → List Value → Bool
  | [], [] => true
  | d :: ds, v :: vs => ctB K d v && ctBs K ds vs
  | _, _ => false
end
mutual
theorem ctB_ok {K : PySem.W.Frag} : ∀ {d : D} {v : Value}, ctB K d v = true → ∃ u, RelV u v ∧ ∀ (G : Gd) (Z φ : List Addr) (H : Hp), G.K = K → Rep G Z φ H u d
  | .non, v, h => by
    cases v <;> first | exact ⟨.non, rfl, fun _ _ _ _ _ => .non⟩ | simp [ctB] at h
  | .bl b, v, h => by
    cases v with
    | bool c =>
      have e : b = c := by simpa [ctB] using h
      subst e
      exact ⟨.bl b, rfl, fun _ _ _ _ _ => .bl b⟩
    | _ => simp [ctB] at h
  | .int i, v, h => by
    cases v with
    | int j t =>
      have e : i = j := by simpa [ctB] using h
      subst e
      exact ⟨.int i, ⟨t, rfl⟩, fun _ _ _ _ _ => .int i⟩
    | _ => simp [ctB] at h
  | .str s, v, h => by
    cases v with
    | str x t =>
      have e : Str.ofString s = x := by simpa [ctB] using h
      subst e
      exact ⟨.str (Str.ofString s), ⟨t, rfl⟩, fun _ _ _ _ _ => .str s⟩
    | _ => simp [ctB] at h
  | .tup ds, v, h => by
    cases v with
    | ref a =>
      unfold ctB at h
      split at h
      · rename_i c dd its n sl hk
        simp only [Bool.and_eq_true, decide_eq_true_eq] at h
        obtain ⟨rfl, hz, h3⟩ := h
        obtain ⟨us, h4, h5⟩ := ctBs_ok h3
        exact ⟨.ref a, rfl, fun G Z φ H hG => .tup (.inr ⟨_, its, n, by rw [hG]; exact hk, rfl, rfl, hz, h4⟩) (h5 G Z φ H hG)⟩
      · cases h
    | _ => simp [ctB] at h
  | .lst _, v, h => by cases v <;> simp [ctB] at h
  | .ins _ _, v, h => by cases v <;> simp [ctB] at h
  | .ref _, v, h => by cases v <;> simp [ctB] at h
  | .scr _, v, h => by cases v <;> simp [ctB] at h
theorem ctBs_ok {K : PySem.W.Frag} : ∀ {ds : List D} {vs : List Value}, ctBs K ds vs = true → ∃ us, Vals us vs ∧ ∀ (G : Gd) (Z φ : List Addr) (H : Hp), G.K = K → Reps G Z φ H us ds
  | [], vs, h => by
    cases vs with
    | nil => exact ⟨[], .nil, fun _ _ _ _ _ => .nil⟩
    | cons _ _ => simp [ctBs] at h
  | d :: ds, vs, h => by
    cases vs with
    | nil => simp [ctBs] at h
    | cons v vs =>
      have h' : (ctB K d v && ctBs K ds vs) = true := h
      rw [Bool.and_eq_true] at h'
      obtain ⟨u, h1, h2⟩ := ctB_ok h'.1
      obtain ⟨us, h3, h4⟩ := ctBs_ok h'.2
      exact ⟨u :: us, .cons h1 h3, fun G Z φ H hG => .cons (h2 G Z φ H hG) (h4 G Z φ H hG)⟩
end
end PY

set_option Elab.async false
set_option linter.all false
set_option maxRecDepth 100000
set_option maxHeartbeats 0
namespace K11
open PySem PySem.Spec PyProof.Rows L2 PY
def top (i : Nat) : Stmt := PySem.Challenge.pw_loopproof_k11_whole_terms.main.body.getD i (.Pass ⟨0, 0, 0, 0⟩)
def funs : List FunE := [⟨0, "is_name", 1, 0⟩, ⟨1, "is_head", 3, 0⟩, ⟨2, "test_parts", 1, 0⟩, ⟨3, "is_test", 1, 0⟩, ⟨4, "names_of_test", 1, 0⟩, ⟨5, "parts_of", 1, 0⟩, ⟨6, "is_leaf", 1, 0⟩, ⟨7, "is_term", 1, 0⟩, ⟨8, "need_term", 1, 0⟩, ⟨9, "nodes_of", 1, 0⟩, ⟨10, "term_size", 1, 0⟩, ⟨11, "test_names", 1, 0⟩, ⟨12, "deed_names", 1, 0⟩, ⟨13, "tests_in", 1, 0⟩, ⟨14, "deeds_in", 1, 0⟩, ⟨15, "_law_pen", 1, 0⟩, ⟨16, "_law_draw", 2, 0⟩, ⟨17, "_law_pick", 2, 0⟩, ⟨18, "_law_is_truth", 2, 0⟩, ⟨19, "_law_test", 3, 0⟩, ⟨20, "_law_term", 4, 0⟩, ⟨21, "_law_names", 1, 0⟩, ⟨23, "_law_nodes", 1, 0⟩, ⟨24, "_law_names_in", 1, 0⟩, ⟨25, "law", 1, 0⟩]
def cons : List Str := ["SMALL", "FIGURES", "LONGEST", "WORDS", "ZERO", "ONE", "MOST_NODES", "MOST_DEPTH"]
def blts : List Str := ["all", "bool", "int", "isinstance", "len", "list", "range", "repr", "set", "sorted", "str", "tuple"]
def nms : List Str := ["ProofError", "BadTerm"]
def fss : List (List Str) := [[], ["value"]]
abbrev x_BadTerm : PX.ExD := ⟨"BadTerm", ["value"], inClass (top 2) 0⟩
def xs : List PX.ExD := [x_BadTerm]
theorem xs_syn : xs.all PX.ExD.synB = true := by decide +kernel
def excs : List ExcE := [⟨1, "BadTerm", 1⟩]
def hnds : List FunE := [⟨22, "_law_complaint", 1, 0⟩]
abbrev Pn (n : Nat) : PCtx := ⟨funs.take n, cons, blts, excs, [], none, 0⟩
abbrev PL (n : Nat) : PCtx := ⟨funs.take n, cons, blts, excs, hnds, some 0, 0⟩
def N_is_name : List Str := ["value", "sign"]
@[irreducible] def b_is_name : Sts := .cons (.ite (.or_ (.cons (.not_ (.prim (.isi [.str]) (.cons (.var 0) (.nil)))) (.cons (.not_ (.chain .le .le (.con (.int 1)) (.prim (.len) (.cons (.var 0) (.nil))) (.glo 2))) (.cons (.prim (.cm .notin) (.cons (.prim (.ix) (.cons (.var 0) (.cons (.con (.int 0)) (.nil)))) (.cons (.glo 0) (.nil)))) (.cons (.prim (.cm .isin) (.cons (.var 0) (.cons (.glo 3) (.nil)))) (.nil)))))) (.cons (.ret (.con (.bool false)))
  (.nil)) (.nil))
  (.cons (.ret (.prim (.all) (.cons (.comp false (.or_ (.cons (.prim (.cm .isin) (.cons (.var 1) (.cons (.glo 0) (.nil)))) (.cons (.prim (.cm .isin) (.cons (.var 1) (.cons (.glo 1) (.nil)))) (.nil)))) (.name 1) (.val (.var 0)) (.nil) [1]) (.nil))))
  (.nil))
theorem c_is_name : chkSs (Pn 0) (cxtOf N_is_name (defScope (top 8))) b_is_name (defBody (top 8)) = true := by decide +kernel
theorem u_is_name : uniqB (defScope (top 8)) = true := by decide +kernel
theorem s_is_name : FnScope N_is_name ["value"] (defScope (top 8)) := ⟨rfl, rfl, rfl, by decide +kernel, by decide +kernel, by decide +kernel, by decide +kernel⟩
def N_is_head : List Str := ["value", "heads", "length"]
@[irreducible] def b_is_head : Sts := .cons (.ret (.and_ (.cons (.prim (.isi [.tuple]) (.cons (.var 0) (.nil))) (.cons (.prim (.cm .eq) (.cons (.prim (.len) (.cons (.var 0) (.nil))) (.cons (.var 2) (.nil)))) (.cons (.prim (.isi [.str]) (.cons (.prim (.ix) (.cons (.var 0) (.cons (.con (.int 0)) (.nil)))) (.nil))) (.cons (.prim (.cm .isin) (.cons (.prim (.ix) (.cons (.var 0) (.cons (.con (.int 0)) (.nil)))) (.cons (.var 1) (.nil)))) (.nil)))))))
  (.nil)
theorem c_is_head : chkSs (Pn 1) (cxtOf N_is_head (defScope (top 10))) b_is_head (defBody (top 10)) = true := by decide +kernel
theorem u_is_head : uniqB (defScope (top 10)) = true := by decide +kernel
theorem s_is_head : FnScope N_is_head ["value", "heads", "length"] (defScope (top 10)) := ⟨rfl, rfl, rfl, by decide +kernel, by decide +kernel, by decide +kernel, by decide +kernel⟩
def N_test_parts : List Str := ["value"]
@[irreducible] def b_test_parts : Sts := .cons (.ite (.call 1 (.cons (.var 0) (.cons (.prim (.tup) (.cons (.str "true") (.cons (.str "false") (.nil)))) (.cons (.con (.int 1)) (.nil)))) 0) (.cons (.ret (.prim (.lst false) (.nil)))
  (.nil)) (.nil))
  (.cons (.ite (.call 1 (.cons (.var 0) (.cons (.prim (.tup) (.cons (.str "name") (.nil))) (.cons (.con (.int 2)) (.nil)))) 0) (.cons (.ret (.ife (.call 0 (.cons (.prim (.ix) (.cons (.var 0) (.cons (.con (.int 1)) (.nil)))) (.nil)) 0) (.prim (.lst false) (.nil)) (.con .none)))
  (.nil)) (.nil))
  (.cons (.ite (.call 1 (.cons (.var 0) (.cons (.prim (.tup) (.cons (.str "not") (.nil))) (.cons (.con (.int 2)) (.nil)))) 0) (.cons (.ret (.prim (.lst false) (.cons (.prim (.ix) (.cons (.var 0) (.cons (.con (.int 1)) (.nil)))) (.nil))))
  (.nil)) (.nil))
  (.cons (.ret (.ife (.call 1 (.cons (.var 0) (.cons (.prim (.tup) (.cons (.str "and") (.cons (.str "or") (.nil)))) (.cons (.con (.int 3)) (.nil)))) 0) (.prim (.lst false) (.cons (.prim (.ix) (.cons (.var 0) (.cons (.con (.int 1)) (.nil)))) (.cons (.prim (.ix) (.cons (.var 0) (.cons (.con (.int 2)) (.nil)))) (.nil)))) (.con .none)))
  (.nil))))
theorem c_test_parts : chkSs (Pn 2) (cxtOf N_test_parts (defScope (top 11))) b_test_parts (defBody (top 11)) = true := by decide +kernel
theorem u_test_parts : uniqB (defScope (top 11)) = true := by decide +kernel
theorem s_test_parts : FnScope N_test_parts ["value"] (defScope (top 11)) := ⟨rfl, rfl, rfl, by decide +kernel, by decide +kernel, by decide +kernel, by decide +kernel⟩
def N_is_test : List Str := ["value", "waiting", "parts"]
@[irreducible] def b_is_test_1 : Sts := .cons (.asg (.name 2) (.call 2 (.cons (.meth .pop (.var 1) .nil) (.nil)) 0))
  (.cons (.ite (.prim (.isN) (.cons (.var 2) (.nil))) (.cons (.ret (.con (.bool false)))
  (.nil)) (.nil))
  (.cons (.expr (.meth .extend (.var 1) (.cons (.var 2) (.nil))))
  (.nil)))
@[irreducible] def b_is_test_2 : Sts := .cons (.ret (.con (.bool true)))
  (.nil)
@[irreducible] def b_is_test : Sts := .cons (.asg (.name 1) (.prim (.lst true) (.cons (.var 0) (.nil))))
  (.cons (.whl (.prim (.cm .gt) (.cons (.prim (.len) (.cons (.var 1) (.nil))) (.cons (.con (.int 0)) (.nil)))) (b_is_test_1))
  (b_is_test_2))
theorem c_is_test : chkSs (Pn 3) (cxtOf N_is_test (defScope (top 12))) b_is_test (defBody (top 12)) = true := by decide +kernel
theorem u_is_test : uniqB (defScope (top 12)) = true := by decide +kernel
theorem s_is_test : FnScope N_is_test ["value"] (defScope (top 12)) := ⟨rfl, rfl, rfl, by decide +kernel, by decide +kernel, by decide +kernel, by decide +kernel⟩
def N_names_of_test : List Str := ["test", "found", "waiting", "here"]
@[irreducible] def b_names_of_test_1 : Sts := .cons (.asg (.name 3) (.meth .pop (.var 2) .nil))
  (.cons (.ite (.prim (.cm .eq) (.cons (.prim (.ix) (.cons (.var 3) (.cons (.con (.int 0)) (.nil)))) (.cons (.str "name") (.nil)))) (.cons (.setix (.var 1) (.prim (.ix) (.cons (.var 3) (.cons (.con (.int 1)) (.nil)))) (.con (.bool true)))
  (.nil)) (.cons (.expr (.meth .extend (.var 2) (.cons (.prim (.sl true false) (.cons (.var 3) (.cons (.con (.int 1)) (.nil)))) (.nil))))
  (.nil)))
  (.nil))
@[irreducible] def b_names_of_test_2 : Sts := .cons (.ret (.prim (.tuple1) (.cons (.prim (.sortdict) (.cons (.var 1) (.nil))) (.nil))))
  (.nil)
@[irreducible] def b_names_of_test : Sts := .cons (.par 1 2 (.prim (.dct false) (.nil)) (.prim (.lst true) (.cons (.var 0) (.nil))))
  (.cons (.whl (.prim (.cm .gt) (.cons (.prim (.len) (.cons (.var 2) (.nil))) (.cons (.con (.int 0)) (.nil)))) (b_names_of_test_1))
  (b_names_of_test_2))
theorem c_names_of_test : chkSs (Pn 4) (cxtOf N_names_of_test (defScope (top 14))) b_names_of_test (defBody (top 14)) = true := by decide +kernel
theorem u_names_of_test : uniqB (defScope (top 14)) = true := by decide +kernel
theorem s_names_of_test : FnScope N_names_of_test ["test"] (defScope (top 14)) := ⟨rfl, rfl, rfl, by decide +kernel, by decide +kernel, by decide +kernel, by decide +kernel⟩
def N_parts_of : List Str := ["term"]
@[irreducible] def b_parts_of : Sts := .cons (.ret (.ife (.prim (.cm .isin) (.cons (.prim (.ix) (.cons (.var 0) (.cons (.con (.int 0)) (.nil)))) (.cons (.prim (.tup) (.cons (.str "plus") (.cons (.str "times") (.cons (.str "star") (.nil))))) (.nil)))) (.prim (.sl true false) (.cons (.var 0) (.cons (.con (.int 1)) (.nil)))) (.prim (.tup) (.nil))))
  (.nil)
theorem c_parts_of : chkSs (Pn 5) (cxtOf N_parts_of (defScope (top 20))) b_parts_of (defBody (top 20)) = true := by decide +kernel
theorem u_parts_of : uniqB (defScope (top 20)) = true := by decide +kernel
theorem s_parts_of : FnScope N_parts_of ["term"] (defScope (top 20)) := ⟨rfl, rfl, rfl, by decide +kernel, by decide +kernel, by decide +kernel, by decide +kernel⟩
def N_is_leaf : List Str := ["value"]
@[irreducible] def b_is_leaf : Sts := .cons (.ite (.or_ (.cons (.prim (.cm .ne) (.cons (.prim (.len) (.cons (.var 0) (.nil))) (.cons (.con (.int 2)) (.nil)))) (.cons (.not_ (.prim (.isi [.str]) (.cons (.prim (.ix) (.cons (.var 0) (.cons (.con (.int 0)) (.nil)))) (.nil)))) (.nil)))) (.cons (.ret (.con (.bool false)))
  (.nil)) (.nil))
  (.cons (.ret (.or_ (.cons (.and_ (.cons (.prim (.cm .eq) (.cons (.prim (.ix) (.cons (.var 0) (.cons (.con (.int 0)) (.nil)))) (.cons (.str "test") (.nil)))) (.cons (.call 3 (.cons (.prim (.ix) (.cons (.var 0) (.cons (.con (.int 1)) (.nil)))) (.nil)) 0) (.nil)))) (.cons (.and_ (.cons (.prim (.cm .eq) (.cons (.prim (.ix) (.cons (.var 0) (.cons (.con (.int 0)) (.nil)))) (.cons (.str "deed") (.nil)))) (.cons (.call 0 (.cons (.prim (.ix) (.cons (.var 0) (.cons (.con (.int 1)) (.nil)))) (.nil)) 0) (.nil)))) (.nil)))))
  (.nil))
theorem c_is_leaf : chkSs (Pn 6) (cxtOf N_is_leaf (defScope (top 21))) b_is_leaf (defBody (top 21)) = true := by decide +kernel
theorem u_is_leaf : uniqB (defScope (top 21)) = true := by decide +kernel
theorem s_is_leaf : FnScope N_is_leaf ["value"] (defScope (top 21)) := ⟨rfl, rfl, rfl, by decide +kernel, by decide +kernel, by decide +kernel, by decide +kernel⟩
def N_is_term : List Str := ["value", "waiting", "many", "here", "depth", "part"]
@[irreducible] def b_is_term_l67 : Sts := .cons (.ite (.not_ (.call 6 (.cons (.var 3) (.nil)) 0)) (.cons (.ret (.con (.bool false)))
  (.nil)) (.nil))
  (.nil)
@[irreducible] def b_is_term_l65 : Sts := .cons (.ite (.or_ (.cons (.and_ (.cons (.prim (.cm .isin) (.cons (.prim (.ix) (.cons (.var 3) (.cons (.con (.int 0)) (.nil)))) (.cons (.prim (.tup) (.cons (.str "plus") (.cons (.str "times") (.nil)))) (.nil)))) (.cons (.prim (.cm .eq) (.cons (.prim (.len) (.cons (.var 3) (.nil))) (.cons (.con (.int 3)) (.nil)))) (.nil)))) (.cons (.and_ (.cons (.prim (.cm .eq) (.cons (.prim (.ix) (.cons (.var 3) (.cons (.con (.int 0)) (.nil)))) (.cons (.str "star") (.nil)))) (.cons (.prim (.cm .eq) (.cons (.prim (.len) (.cons (.var 3) (.nil))) (.cons (.con (.int 2)) (.nil)))) (.nil)))) (.nil)))) (.cons (.expr (.meth .extend (.var 1) (.cons (.comp false (.prim (.tup) (.cons (.var 5) (.cons (.prim (.bin .add) (.cons (.var 4) (.cons (.con (.int 1)) (.nil)))) (.nil)))) (.name 5) (.val (.prim (.sl true false) (.cons (.var 3) (.cons (.con (.int 1)) (.nil))))) (.nil) [5]) (.nil))))
  (.nil)) (b_is_term_l67))
  (.nil)
@[irreducible] def b_is_term_l63 : Sts := .cons (.ite (.or_ (.cons (.prim (.cm .gt) (.cons (.var 2) (.cons (.glo 6) (.nil)))) (.cons (.prim (.cm .gt) (.cons (.var 4) (.cons (.glo 7) (.nil)))) (.cons (.not_ (.prim (.isi [.tuple]) (.cons (.var 3) (.nil)))) (.cons (.prim (.cm .eq) (.cons (.prim (.len) (.cons (.var 3) (.nil))) (.cons (.con (.int 0)) (.nil)))) (.nil)))))) (.cons (.ret (.con (.bool false)))
  (.nil)) (.nil))
  (b_is_term_l65)
@[irreducible] def b_is_term_l62 : Sts := .cons (.aug 2 (.con (.int 1)))
  (b_is_term_l63)
@[irreducible] def b_is_term_l61 : Sts := .cons (.asg (.tup [.name 3, .name 4]) (.meth .pop (.var 1) .nil))
  (b_is_term_l62)
@[irreducible] def b_is_term_l69 : Sts := .cons (.ret (.con (.bool true)))
  (.nil)
@[irreducible] def b_is_term_l60 : Sts := .cons (.whl (.prim (.cm .gt) (.cons (.prim (.len) (.cons (.var 1) (.nil))) (.cons (.con (.int 0)) (.nil)))) (b_is_term_l61))
  (b_is_term_l69)
@[irreducible] def b_is_term : Sts := .cons (.par 1 2 (.prim (.lst true) (.cons (.prim (.tup) (.cons (.var 0) (.cons (.con (.int 1)) (.nil)))) (.nil))) (.con (.int 0)))
  (b_is_term_l60)
theorem c_is_term : chkSs (Pn 7) (cxtOf N_is_term (defScope (top 22))) b_is_term (defBody (top 22)) = true := by decide +kernel
theorem u_is_term : uniqB (defScope (top 22)) = true := by decide +kernel
theorem s_is_term : FnScope N_is_term ["value"] (defScope (top 22)) := ⟨rfl, rfl, rfl, by decide +kernel, by decide +kernel, by decide +kernel, by decide +kernel⟩
def N_need_term : List Str := ["term"]
@[irreducible] def b_need_term : Sts := .cons (.ite (.not_ (.call 7 (.cons (.var 0) (.nil)) 0)) (.cons (.raise 1 (.cons (.var 0) (.nil)))
  (.nil)) (.nil))
  (.nil)
theorem c_need_term : chkSs (Pn 8) (cxtOf N_need_term (defScope (top 23))) b_need_term (defBody (top 23)) = true := by decide +kernel
theorem u_need_term : uniqB (defScope (top 23)) = true := by decide +kernel
theorem s_need_term : FnScope N_need_term ["term"] (defScope (top 23)) := ⟨rfl, rfl, rfl, by decide +kernel, by decide +kernel, by decide +kernel, by decide +kernel⟩
def N_nodes_of : List Str := ["term", "found", "waiting", "here"]
@[irreducible] def b_nodes_of_1 : Sts := .cons (.asg (.name 3) (.meth .pop (.var 2) .nil))
  (.cons (.expr (.meth .append (.var 1) (.cons (.var 3) (.nil))))
  (.cons (.expr (.meth .extend (.var 2) (.cons (.call 5 (.cons (.var 3) (.nil)) 0) (.nil))))
  (.nil)))
@[irreducible] def b_nodes_of_2 : Sts := .cons (.ret (.var 1))
  (.nil)
@[irreducible] def b_nodes_of : Sts := .cons (.par 1 2 (.prim (.lst true) (.nil)) (.prim (.lst true) (.cons (.var 0) (.nil))))
  (.cons (.whl (.prim (.cm .gt) (.cons (.prim (.len) (.cons (.var 2) (.nil))) (.cons (.con (.int 0)) (.nil)))) (b_nodes_of_1))
  (b_nodes_of_2))
theorem c_nodes_of : chkSs (Pn 9) (cxtOf N_nodes_of (defScope (top 24))) b_nodes_of (defBody (top 24)) = true := by decide +kernel
theorem u_nodes_of : uniqB (defScope (top 24)) = true := by decide +kernel
theorem s_nodes_of : FnScope N_nodes_of ["term"] (defScope (top 24)) := ⟨rfl, rfl, rfl, by decide +kernel, by decide +kernel, by decide +kernel, by decide +kernel⟩
def N_term_size : List Str := ["term"]
@[irreducible] def b_term_size : Sts := .cons (.expr (.call 8 (.cons (.var 0) (.nil)) 0))
  (.cons (.ret (.prim (.len) (.cons (.call 9 (.cons (.var 0) (.nil)) 0) (.nil))))
  (.nil))
theorem c_term_size : chkSs (Pn 10) (cxtOf N_term_size (defScope (top 25))) b_term_size (defBody (top 25)) = true := by decide +kernel
theorem u_term_size : uniqB (defScope (top 25)) = true := by decide +kernel
theorem s_term_size : FnScope N_term_size ["term"] (defScope (top 25)) := ⟨rfl, rfl, rfl, by decide +kernel, by decide +kernel, by decide +kernel, by decide +kernel⟩
def N_test_names : List Str := ["term", "found", "node", "name"]
@[irreducible] def b_test_names_1 : Sts := .cons (.ret (.prim (.tuple1) (.cons (.prim (.sortdict) (.cons (.var 1) (.nil))) (.nil))))
  (.nil)
@[irreducible] def b_test_names : Sts := .cons (.asg (.name 1) (.prim (.dct false) (.nil)))
  (.cons (.forr (.name 2) (.val (.call 9 (.cons (.var 0) (.nil)) 0)) (.cons (.ite (.prim (.cm .eq) (.cons (.prim (.ix) (.cons (.var 2) (.cons (.con (.int 0)) (.nil)))) (.cons (.str "test") (.nil)))) (.cons (.forr (.name 3) (.val (.call 4 (.cons (.prim (.ix) (.cons (.var 2) (.cons (.con (.int 1)) (.nil)))) (.nil)) 0)) (.cons (.setix (.var 1) (.var 3) (.con (.bool true)))
  (.nil)))
  (.nil)) (.nil))
  (.nil)))
  (b_test_names_1))
theorem c_test_names : chkSs (Pn 11) (cxtOf N_test_names (defScope (top 26))) b_test_names (defBody (top 26)) = true := by decide +kernel
theorem u_test_names : uniqB (defScope (top 26)) = true := by decide +kernel
theorem s_test_names : FnScope N_test_names ["term"] (defScope (top 26)) := ⟨rfl, rfl, rfl, by decide +kernel, by decide +kernel, by decide +kernel, by decide +kernel⟩
def N_deed_names : List Str := ["term", "node"]
@[irreducible] def b_deed_names : Sts := .cons (.ret (.prim (.tuple1) (.cons (.prim (.sortset) (.cons (.comp false (.prim (.ix) (.cons (.var 1) (.cons (.con (.int 1)) (.nil)))) (.name 1) (.val (.call 9 (.cons (.var 0) (.nil)) 0)) (.cons (.prim (.cm .eq) (.cons (.prim (.ix) (.cons (.var 1) (.cons (.con (.int 0)) (.nil)))) (.cons (.str "deed") (.nil)))) (.nil)) [1]) (.nil))) (.nil))))
  (.nil)
theorem c_deed_names : chkSs (Pn 12) (cxtOf N_deed_names (defScope (top 27))) b_deed_names (defBody (top 27)) = true := by decide +kernel
theorem u_deed_names : uniqB (defScope (top 27)) = true := by decide +kernel
theorem s_deed_names : FnScope N_deed_names ["term"] (defScope (top 27)) := ⟨rfl, rfl, rfl, by decide +kernel, by decide +kernel, by decide +kernel, by decide +kernel⟩
def N_tests_in : List Str := ["term"]
@[irreducible] def b_tests_in : Sts := .cons (.expr (.call 8 (.cons (.var 0) (.nil)) 0))
  (.cons (.ret (.call 11 (.cons (.var 0) (.nil)) 0))
  (.nil))
theorem c_tests_in : chkSs (Pn 13) (cxtOf N_tests_in (defScope (top 28))) b_tests_in (defBody (top 28)) = true := by decide +kernel
theorem u_tests_in : uniqB (defScope (top 28)) = true := by decide +kernel
theorem s_tests_in : FnScope N_tests_in ["term"] (defScope (top 28)) := ⟨rfl, rfl, rfl, by decide +kernel, by decide +kernel, by decide +kernel, by decide +kernel⟩
def N_deeds_in : List Str := ["term"]
@[irreducible] def b_deeds_in : Sts := .cons (.expr (.call 8 (.cons (.var 0) (.nil)) 0))
  (.cons (.ret (.call 12 (.cons (.var 0) (.nil)) 0))
  (.nil))
theorem c_deeds_in : chkSs (Pn 14) (cxtOf N_deeds_in (defScope (top 29))) b_deeds_in (defBody (top 29)) = true := by decide +kernel
theorem u_deeds_in : uniqB (defScope (top 29)) = true := by decide +kernel
theorem s_deeds_in : FnScope N_deeds_in ["term"] (defScope (top 29)) := ⟨rfl, rfl, rfl, by decide +kernel, by decide +kernel, by decide +kernel, by decide +kernel⟩
def N__law_pen : List Str := ["script", "fold", "cell"]
@[irreducible] def b__law_pen_1 : Sts := .cons (.ret (.prim (.dct false) (.cons (.str "cells") (.cons (.prim (.list1 false) (.cons (.var 0) (.nil))) (.cons (.str "at") (.cons (.con (.int 0)) (.cons (.str "digits") (.cons (.con (.int 0)) (.cons (.str "count") (.cons (.con (.int 0)) (.cons (.str "fold") (.cons (.var 1) (.nil)))))))))))))
  (.nil)
@[irreducible] def b__law_pen : Sts := .cons (.asg (.name 1) (.con (.int 0)))
  (.cons (.forr (.name 2) (.val (.var 0)) (.cons (.asg (.name 1) (.prim (.bin .mod) (.cons (.prim (.int1) (.cons (.prim (.bin .add) (.cons (.prim (.bin .mul) (.cons (.var 1) (.cons (.con (.int 47)) (.nil)))) (.cons (.var 2) (.nil)))) (.nil))) (.cons (.con (.int 1000000007)) (.nil)))))
  (.nil)))
  (b__law_pen_1))
theorem c__law_pen : chkSs (Pn 15) (cxtOf N__law_pen (defScope (top 31))) b__law_pen (defBody (top 31)) = true := by decide +kernel
theorem u__law_pen : uniqB (defScope (top 31)) = true := by decide +kernel
theorem s__law_pen : FnScope N__law_pen ["script"] (defScope (top 31)) := ⟨rfl, rfl, rfl, by decide +kernel, by decide +kernel, by decide +kernel, by decide +kernel⟩
def N__law_draw : List Str := ["pen", "many", "mixed", "cell", "digit"]
@[irreducible] def b__law_draw_1 : Sts := .cons (.ite (.prim (.cm .gt) (.cons (.prim (.ix) (.cons (.var 0) (.cons (.str "digits") (.nil)))) (.cons (.con (.int 0)) (.nil)))) (.cons (.asg (.name 4) (.prim (.bin .mod) (.cons (.prim (.int1) (.cons (.prim (.ix) (.cons (.var 0) (.cons (.str "digits") (.nil)))) (.nil))) (.cons (.var 1) (.nil)))))
  (.cons (.setix (.var 0) (.str "digits") (.prim (.bin .fdiv) (.cons (.prim (.ix) (.cons (.var 0) (.cons (.str "digits") (.nil)))) (.cons (.var 1) (.nil)))))
  (.cons (.ret (.var 4))
  (.nil)))) (.nil))
  (.cons (.asg (.name 2) (.prim (.bin .add) (.cons (.prim (.bin .add) (.cons (.prim (.ix) (.cons (.var 0) (.cons (.str "fold") (.nil)))) (.cons (.prim (.bin .mul) (.cons (.prim (.ix) (.cons (.var 0) (.cons (.str "count") (.nil)))) (.cons (.con (.int 7907)) (.nil)))) (.nil)))) (.cons (.con (.int 37)) (.nil)))))
  (.cons (.ret (.prim (.bin .mod) (.cons (.prim (.bin .fdiv) (.cons (.prim (.int1) (.cons (.prim (.bin .mod) (.cons (.prim (.bin .pow) (.cons (.var 2) (.cons (.con (.int 17)) (.nil)))) (.cons (.con (.int 2305843009213693951)) (.nil)))) (.nil))) (.cons (.con (.int 128)) (.nil)))) (.cons (.var 1) (.nil)))))
  (.nil)))
@[irreducible] def b__law_draw : Sts := .cons (.setix (.var 0) (.str "count") (.prim (.bin .add) (.cons (.prim (.ix) (.cons (.var 0) (.cons (.str "count") (.nil)))) (.cons (.con (.int 1)) (.nil)))))
  (.cons (.ite (.and_ (.cons (.prim (.cm .eq) (.cons (.prim (.ix) (.cons (.var 0) (.cons (.str "digits") (.nil)))) (.cons (.con (.int 0)) (.nil)))) (.cons (.prim (.cm .lt) (.cons (.prim (.ix) (.cons (.var 0) (.cons (.str "at") (.nil)))) (.cons (.prim (.len) (.cons (.prim (.ix) (.cons (.var 0) (.cons (.str "cells") (.nil)))) (.nil))) (.nil)))) (.nil)))) (.cons (.asg (.name 3) (.prim (.ix) (.cons (.prim (.ix) (.cons (.var 0) (.cons (.str "cells") (.nil)))) (.cons (.prim (.ix) (.cons (.var 0) (.cons (.str "at") (.nil)))) (.nil)))))
  (.cons (.setix (.var 0) (.str "at") (.prim (.bin .add) (.cons (.prim (.ix) (.cons (.var 0) (.cons (.str "at") (.nil)))) (.cons (.con (.int 1)) (.nil)))))
  (.cons (.ite (.prim (.cm .ge) (.cons (.var 3) (.cons (.prim (.bin .pow) (.cons (.con (.int 10)) (.cons (.con (.int 18)) (.nil)))) (.nil)))) (.cons (.setix (.var 0) (.str "digits") (.prim (.bin .sub) (.cons (.var 3) (.cons (.prim (.bin .pow) (.cons (.con (.int 10)) (.cons (.con (.int 18)) (.nil)))) (.nil)))))
  (.nil)) (.cons (.setix (.var 0) (.str "fold") (.prim (.bin .mod) (.cons (.prim (.int1) (.cons (.prim (.bin .add) (.cons (.prim (.bin .mul) (.cons (.prim (.ix) (.cons (.var 0) (.cons (.str "fold") (.nil)))) (.cons (.con (.int 69069)) (.nil)))) (.cons (.var 3) (.nil)))) (.nil))) (.cons (.con (.int 2147483587)) (.nil)))))
  (.nil)))
  (.nil)))) (.nil))
  (b__law_draw_1))
theorem c__law_draw : chkSs (Pn 16) (cxtOf N__law_draw (defScope (top 32))) b__law_draw (defBody (top 32)) = true := by decide +kernel
theorem u__law_draw : uniqB (defScope (top 32)) = true := by decide +kernel
theorem s__law_draw : FnScope N__law_draw ["pen", "many"] (defScope (top 32)) := ⟨rfl, rfl, rfl, by decide +kernel, by decide +kernel, by decide +kernel, by decide +kernel⟩
def N__law_pick : List Str := ["pen", "some"]
@[irreducible] def b__law_pick : Sts := .cons (.ret (.prim (.ix) (.cons (.var 1) (.cons (.call 16 (.cons (.var 0) (.cons (.prim (.len) (.cons (.var 1) (.nil))) (.nil))) 0) (.nil)))))
  (.nil)
theorem c__law_pick : chkSs (Pn 17) (cxtOf N__law_pick (defScope (top 33))) b__law_pick (defBody (top 33)) = true := by decide +kernel
theorem u__law_pick : uniqB (defScope (top 33)) = true := by decide +kernel
theorem s__law_pick : FnScope N__law_pick ["pen", "some"] (defScope (top 33)) := ⟨rfl, rfl, rfl, by decide +kernel, by decide +kernel, by decide +kernel, by decide +kernel⟩
def N__law_is_truth : List Str := ["value", "due"]
@[irreducible] def b__law_is_truth : Sts := .cons (.ret (.and_ (.cons (.prim (.isi [.bool]) (.cons (.var 0) (.nil))) (.cons (.prim (.cm .eq) (.cons (.var 0) (.cons (.var 1) (.nil)))) (.nil)))))
  (.nil)
theorem c__law_is_truth : chkSs (Pn 18) (cxtOf N__law_is_truth (defScope (top 34))) b__law_is_truth (defBody (top 34)) = true := by decide +kernel
theorem u__law_is_truth : uniqB (defScope (top 34)) = true := by decide +kernel
theorem s__law_is_truth : FnScope N__law_is_truth ["value", "due"] (defScope (top 34)) := ⟨rfl, rfl, rfl, by decide +kernel, by decide +kernel, by decide +kernel, by decide +kernel⟩
def N__law_test : List Str := ["pen", "tests", "size", "way"]
@[irreducible] def b__law_test : Sts := .cons (.ite (.or_ (.cons (.prim (.cm .lt) (.cons (.var 2) (.cons (.con (.int 2)) (.nil)))) (.cons (.prim (.cm .eq) (.cons (.call 16 (.cons (.var 0) (.cons (.con (.int 3)) (.nil))) 0) (.cons (.con (.int 0)) (.nil)))) (.nil)))) (.cons (.ite (.or_ (.cons (.prim (.cm .eq) (.cons (.var 1) (.cons (.prim (.lst false) (.nil)) (.nil)))) (.cons (.prim (.cm .eq) (.cons (.call 16 (.cons (.var 0) (.cons (.con (.int 6)) (.nil))) 0) (.cons (.con (.int 0)) (.nil)))) (.nil)))) (.cons (.ret (.prim (.tup) (.cons (.call 17 (.cons (.var 0) (.cons (.prim (.lst false) (.cons (.str "true") (.cons (.str "false") (.nil)))) (.nil))) 0) (.nil))))
  (.nil)) (.nil))
  (.cons (.ret (.prim (.tup) (.cons (.str "name") (.cons (.call 17 (.cons (.var 0) (.cons (.prim (.list1 false) (.cons (.var 1) (.nil))) (.nil))) 0) (.nil)))))
  (.nil))) (.nil))
  (.cons (.asg (.name 3) (.call 16 (.cons (.var 0) (.cons (.con (.int 3)) (.nil))) 0))
  (.cons (.ite (.prim (.cm .eq) (.cons (.var 3) (.cons (.con (.int 0)) (.nil)))) (.cons (.ret (.prim (.tup) (.cons (.str "not") (.cons (.call 19 (.cons (.var 0) (.cons (.var 1) (.cons (.prim (.bin .sub) (.cons (.var 2) (.cons (.con (.int 1)) (.nil)))) (.nil)))) 0) (.nil)))))
  (.nil)) (.nil))
  (.cons (.ret (.prim (.tup) (.cons (.prim (.ix) (.cons (.prim (.lst false) (.cons (.str "and") (.cons (.str "or") (.nil)))) (.cons (.prim (.bin .sub) (.cons (.var 3) (.cons (.con (.int 1)) (.nil)))) (.nil)))) (.cons (.call 19 (.cons (.var 0) (.cons (.var 1) (.cons (.prim (.bin .fdiv) (.cons (.var 2) (.cons (.con (.int 2)) (.nil)))) (.nil)))) 0) (.cons (.call 19 (.cons (.var 0) (.cons (.var 1) (.cons (.prim (.bin .fdiv) (.cons (.var 2) (.cons (.con (.int 2)) (.nil)))) (.nil)))) 0) (.nil))))))
  (.nil))))
theorem c__law_test : chkSs (Pn 20) (cxtOf N__law_test (defScope (top 35))) b__law_test (defBody (top 35)) = true := by decide +kernel
theorem u__law_test : uniqB (defScope (top 35)) = true := by decide +kernel
theorem s__law_test : FnScope N__law_test ["pen", "tests", "size"] (defScope (top 35)) := ⟨rfl, rfl, rfl, by decide +kernel, by decide +kernel, by decide +kernel, by decide +kernel⟩
def N__law_term : List Str := ["pen", "tests", "deeds", "size", "some"]
@[irreducible] def b__law_term_l136 : Sts := .cons (.ret (.prim (.tup) (.cons (.str "deed") (.cons (.call 17 (.cons (.var 0) (.cons (.prim (.list1 false) (.cons (.var 2) (.nil))) (.nil))) 0) (.nil)))))
  (.nil)
@[irreducible] def b__law_term_l134 : Sts := .cons (.ite (.or_ (.cons (.prim (.cm .eq) (.cons (.var 2) (.cons (.prim (.lst false) (.nil)) (.nil)))) (.cons (.prim (.cm .eq) (.cons (.call 16 (.cons (.var 0) (.cons (.con (.int 3)) (.nil))) 0) (.cons (.con (.int 0)) (.nil)))) (.nil)))) (.cons (.ret (.prim (.tup) (.cons (.str "test") (.cons (.call 19 (.cons (.var 0) (.cons (.var 1) (.cons (.con (.int 2)) (.nil)))) 0) (.nil)))))
  (.nil)) (.nil))
  (b__law_term_l136)
@[irreducible] def b__law_term_l140 : Sts := .cons (.ret (.prim (.tup) (.cons (.call 17 (.cons (.var 0) (.cons (.prim (.lst false) (.cons (.str "plus") (.cons (.str "times") (.cons (.str "times") (.nil))))) (.nil))) 0) (.cons (.call 20 (.cons (.var 0) (.cons (.var 1) (.cons (.var 2) (.cons (.var 4) (.nil))))) 0) (.cons (.call 20 (.cons (.var 0) (.cons (.var 1) (.cons (.var 2) (.cons (.prim (.bin .sub) (.cons (.var 3) (.cons (.var 4) (.nil)))) (.nil))))) 0) (.nil))))))
  (.nil)
@[irreducible] def b__law_term_l139 : Sts := .cons (.asg (.name 4) (.prim (.bin .add) (.cons (.con (.int 1)) (.cons (.call 16 (.cons (.var 0) (.cons (.prim (.bin .sub) (.cons (.var 3) (.cons (.con (.int 1)) (.nil)))) (.nil))) 0) (.nil)))))
  (b__law_term_l140)
@[irreducible] def b__law_term_l137 : Sts := .cons (.ite (.prim (.cm .eq) (.cons (.call 16 (.cons (.var 0) (.cons (.con (.int 4)) (.nil))) 0) (.cons (.con (.int 0)) (.nil)))) (.cons (.ret (.prim (.tup) (.cons (.str "star") (.cons (.call 20 (.cons (.var 0) (.cons (.var 1) (.cons (.var 2) (.cons (.prim (.bin .sub) (.cons (.var 3) (.cons (.con (.int 1)) (.nil)))) (.nil))))) 0) (.nil)))))
  (.nil)) (.nil))
  (b__law_term_l139)
@[irreducible] def b__law_term : Sts := .cons (.ite (.prim (.cm .lt) (.cons (.var 3) (.cons (.con (.int 2)) (.nil)))) (b__law_term_l134) (.nil))
  (b__law_term_l137)
theorem c__law_term : chkSs (Pn 21) (cxtOf N__law_term (defScope (top 36))) b__law_term (defBody (top 36)) = true := by decide +kernel
theorem u__law_term : uniqB (defScope (top 36)) = true := by decide +kernel
theorem s__law_term : FnScope N__law_term ["pen", "tests", "deeds", "size"] (defScope (top 36)) := ⟨rfl, rfl, rfl, by decide +kernel, by decide +kernel, by decide +kernel, by decide +kernel⟩
def N__law_names : List Str := ["pen", "tests", "deeds"]
@[irreducible] def b__law_names : Sts := .cons (.asg (.name 1) (.call 17 (.cons (.var 0) (.cons (.prim (.lst false) (.cons (.prim (.lst false) (.nil)) (.cons (.prim (.lst false) (.cons (.str "p") (.nil))) (.cons (.prim (.lst false) (.cons (.str "p") (.nil))) (.cons (.prim (.lst false) (.cons (.str "p") (.cons (.str "q") (.nil)))) (.cons (.prim (.lst false) (.cons (.str "q") (.cons (.str "p") (.nil)))) (.nil))))))) (.nil))) 0))
  (.cons (.asg (.name 2) (.call 17 (.cons (.var 0) (.cons (.prim (.lst false) (.cons (.prim (.lst false) (.cons (.str "a") (.nil))) (.cons (.prim (.lst false) (.cons (.str "a") (.cons (.str "b") (.nil)))) (.cons (.prim (.lst false) (.cons (.str "b") (.cons (.str "a") (.nil)))) (.nil))))) (.nil))) 0))
  (.cons (.ret (.prim (.tup) (.cons (.prim (.list1 false) (.cons (.var 1) (.nil))) (.cons (.prim (.list1 false) (.cons (.var 2) (.nil))) (.nil)))))
  (.nil)))
theorem c__law_names : chkSs (Pn 21) (cxtOf N__law_names (defScope (top 37))) b__law_names (defBody (top 37)) = true := by decide +kernel
theorem u__law_names : uniqB (defScope (top 37)) = true := by decide +kernel
theorem s__law_names : FnScope N__law_names ["pen"] (defScope (top 37)) := ⟨rfl, rfl, rfl, by decide +kernel, by decide +kernel, by decide +kernel, by decide +kernel⟩
def N__law_complaint : List Str := ["call", "e"]
def h__law_complaint : HndD := ⟨"ok", "call", [⟨"BadTerm", 1, some "e", "term", [⟨"value", true⟩]⟩]⟩
theorem hb__law_complaint : hndB N__law_complaint (defScope (top 38)) true h__law_complaint (defBody (top 38)) = true := by decide +kernel
theorem s__law_complaint : FnScope N__law_complaint ["call"] (defScope (top 38)) := ⟨rfl, rfl, rfl, by decide +kernel, by decide +kernel, by decide +kernel, by decide +kernel⟩
def N__law_nodes : List Str := ["term", "some", "part"]
@[irreducible] def b__law_nodes_1 : Sts := .cons (.ret (.prim (.bin .add) (.cons (.prim (.lst false) (.cons (.var 0) (.nil))) (.cons (.var 1) (.nil)))))
  (.nil)
@[irreducible] def b__law_nodes : Sts := .cons (.asg (.name 1) (.prim (.lst false) (.nil)))
  (.cons (.ite (.prim (.cm .isin) (.cons (.prim (.ix) (.cons (.var 0) (.cons (.con (.int 0)) (.nil)))) (.cons (.prim (.tup) (.cons (.str "plus") (.cons (.str "times") (.cons (.str "star") (.nil))))) (.nil)))) (.cons (.forr (.name 2) (.val (.prim (.sl true false) (.cons (.var 0) (.cons (.con (.int 1)) (.nil))))) (.cons (.asg (.name 1) (.prim (.bin .add) (.cons (.var 1) (.cons (.call 23 (.cons (.var 2) (.nil)) 0) (.nil)))))
  (.nil)))
  (.nil)) (.nil))
  (b__law_nodes_1))
theorem c__law_nodes : chkSs (Pn 23) (cxtOf N__law_nodes (defScope (top 39))) b__law_nodes (defBody (top 39)) = true := by decide +kernel
theorem u__law_nodes : uniqB (defScope (top 39)) = true := by decide +kernel
theorem s__law_nodes : FnScope N__law_nodes ["term"] (defScope (top 39)) := ⟨rfl, rfl, rfl, by decide +kernel, by decide +kernel, by decide +kernel, by decide +kernel⟩
def N__law_names_in : List Str := ["test", "found", "part"]
@[irreducible] def b__law_names_in_1 : Sts := .cons (.ret (.var 1))
  (.nil)
@[irreducible] def b__law_names_in : Sts := .cons (.ite (.prim (.cm .eq) (.cons (.prim (.ix) (.cons (.var 0) (.cons (.con (.int 0)) (.nil)))) (.cons (.str "name") (.nil)))) (.cons (.ret (.prim (.lst false) (.cons (.prim (.ix) (.cons (.var 0) (.cons (.con (.int 1)) (.nil)))) (.nil))))
  (.nil)) (.nil))
  (.cons (.asg (.name 1) (.prim (.lst false) (.nil)))
  (.cons (.forr (.name 2) (.val (.prim (.sl true false) (.cons (.var 0) (.cons (.con (.int 1)) (.nil))))) (.cons (.asg (.name 1) (.prim (.bin .add) (.cons (.var 1) (.cons (.call 24 (.cons (.var 2) (.nil)) 0) (.nil)))))
  (.nil)))
  (b__law_names_in_1)))
theorem c__law_names_in : chkSs (Pn 24) (cxtOf N__law_names_in (defScope (top 40))) b__law_names_in (defBody (top 40)) = true := by decide +kernel
theorem u__law_names_in : uniqB (defScope (top 40)) = true := by decide +kernel
theorem s__law_names_in : FnScope N__law_names_in ["test"] (defScope (top 40)) := ⟨rfl, rfl, rfl, by decide +kernel, by decide +kernel, by decide +kernel, by decide +kernel⟩
def N_law : List Str := ["script", "pen", "lap", "bad", "found", "long", "layer", "wide", "term", "nodes", "names", "node", "tests", "deeds", "k"]
@[irreducible] def b_law_l178 : Sts := .cons (.ite (.prim (.cm .ne) (.cons (.call 14 (.cons (.var 8) (.nil)) 0) (.cons (.prim (.tuple1) (.cons (.prim (.sortset) (.cons (.comp false (.prim (.ix) (.cons (.var 11) (.cons (.con (.int 1)) (.nil)))) (.name 11) (.val (.var 9)) (.cons (.prim (.cm .eq) (.cons (.prim (.ix) (.cons (.var 11) (.cons (.con (.int 0)) (.nil)))) (.cons (.str "deed") (.nil)))) (.nil)) [11]) (.nil))) (.nil))) (.nil)))) (.cons (.ret (.con (.bool false)))
  (.nil)) (.nil))
  (.nil)
@[irreducible] def b_law_l176 : Sts := .cons (.ite (.prim (.cm .ne) (.cons (.call 13 (.cons (.var 8) (.nil)) 0) (.cons (.prim (.tuple1) (.cons (.prim (.sortset) (.cons (.var 10) (.nil))) (.nil))) (.nil)))) (.cons (.ret (.con (.bool false)))
  (.nil)) (.nil))
  (b_law_l178)
@[irreducible] def b_law_l174 : Sts := .cons (.forr (.name 11) (.val (.var 9)) (.cons (.asg (.name 10) (.prim (.bin .add) (.cons (.var 10) (.cons (.ife (.prim (.cm .eq) (.cons (.prim (.ix) (.cons (.var 11) (.cons (.con (.int 0)) (.nil)))) (.cons (.str "test") (.nil)))) (.call 24 (.cons (.prim (.ix) (.cons (.var 11) (.cons (.con (.int 1)) (.nil)))) (.nil)) 0) (.prim (.lst false) (.nil))) (.nil)))))
  (.nil)))
  (b_law_l176)
@[irreducible] def b_law_l173 : Sts := .cons (.asg (.name 10) (.prim (.lst false) (.nil)))
  (b_law_l174)
@[irreducible] def b_law_l171 : Sts := .cons (.ite (.or_ (.cons (.not_ (.call 18 (.cons (.call 7 (.cons (.var 8) (.nil)) 0) (.cons (.con (.bool true)) (.nil))) 0)) (.cons (.prim (.cm .ne) (.cons (.call 10 (.cons (.var 8) (.nil)) 0) (.cons (.prim (.len) (.cons (.var 9) (.nil))) (.nil)))) (.nil)))) (.cons (.ret (.con (.bool false)))
  (.nil)) (.nil))
  (b_law_l173)
@[irreducible] def b_law_l170 : Sts := .cons (.asg (.name 9) (.call 23 (.cons (.var 8) (.nil)) 0))
  (b_law_l171)
@[irreducible] def b_law_l169 : Sts := .cons (.asg (.name 8) (.call 20 (.cons (.var 1) (.cons (.var 12) (.cons (.var 13) (.cons (.prim (.bin .add) (.cons (.con (.int 1)) (.cons (.call 16 (.cons (.var 1) (.cons (.con (.int 9)) (.nil))) 0) (.nil)))) (.nil))))) 0))
  (b_law_l170)
@[irreducible] def b_law_l168 : Sts := .cons (.asg (.tup [.name 12, .name 13]) (.call 21 (.cons (.var 1) (.nil)) 0))
  (b_law_l169)
@[irreducible] def b_law_l197 : Sts := .cons (.ret (.and_ (.cons (.prim (.cm .eq) (.cons (.prim (.len) (.cons (.var 6) (.nil))) (.cons (.con (.int 1)) (.nil)))) (.cons (.call 18 (.cons (.call 7 (.cons (.var 7) (.nil)) 0) (.cons (.con (.bool true)) (.nil))) 0) (.cons (.prim (.cm .eq) (.cons (.call 10 (.cons (.var 7) (.nil)) 0) (.cons (.con (.int 4000)) (.nil)))) (.cons (.call 18 (.cons (.call 7 (.cons (.prim (.tup) (.cons (.str "star") (.cons (.var 7) (.nil)))) (.nil)) 0) (.cons (.con (.bool false)) (.nil))) 0) (.nil)))))))
  (.nil)
@[irreducible] def b_law_l196 : Sts := .cons (.asg (.name 7) (.prim (.tup) (.cons (.str "star") (.cons (.prim (.ix) (.cons (.var 6) (.cons (.con (.int 0)) (.nil)))) (.nil)))))
  (b_law_l197)
@[irreducible] def b_law_l194 : Sts := .cons (.forr (.name 2) (.rng (.cons (.con (.int 11)) (.nil))) (.cons (.asg (.name 6) (.prim (.bin .add) (.cons (.comp false (.prim (.tup) (.cons (.str "plus") (.cons (.prim (.ix) (.cons (.var 6) (.cons (.var 14) (.nil)))) (.cons (.prim (.ix) (.cons (.var 6) (.cons (.prim (.bin .add) (.cons (.var 14) (.cons (.con (.int 1)) (.nil)))) (.nil)))) (.nil))))) (.name 14) (.rng (.cons (.con (.int 0)) (.cons (.prim (.bin .sub) (.cons (.prim (.len) (.cons (.var 6) (.nil))) (.cons (.con (.int 1)) (.nil)))) (.cons (.con (.int 2)) (.nil))))) (.nil) [14]) (.cons (.prim (.sl true false) (.cons (.var 6) (.cons (.prim (.bin .sub) (.cons (.prim (.len) (.cons (.var 6) (.nil))) (.cons (.prim (.bin .mod) (.cons (.prim (.len) (.cons (.var 6) (.nil))) (.cons (.con (.int 2)) (.nil)))) (.nil)))) (.nil)))) (.nil)))))
  (.nil)))
  (b_law_l196)
@[irreducible] def b_law_l193 : Sts := .cons (.asg (.name 6) (.prim (.bin .mul) (.cons (.prim (.lst false) (.cons (.prim (.tup) (.cons (.str "deed") (.cons (.str "a") (.nil)))) (.nil))) (.cons (.con (.int 2000)) (.nil)))))
  (b_law_l194)
@[irreducible] def b_law_l191 : Sts := .cons (.ite (.or_ (.cons (.not_ (.call 18 (.cons (.call 7 (.cons (.var 5) (.nil)) 0) (.cons (.con (.bool true)) (.nil))) 0)) (.cons (.prim (.cm .ne) (.cons (.call 10 (.cons (.var 5) (.nil)) 0) (.cons (.con (.int 300)) (.nil)))) (.cons (.not_ (.call 18 (.cons (.call 7 (.cons (.prim (.tup) (.cons (.str "star") (.cons (.var 5) (.nil)))) (.nil)) 0) (.cons (.con (.bool false)) (.nil))) 0)) (.nil))))) (.cons (.ret (.con (.bool false)))
  (.nil)) (.nil))
  (b_law_l193)
@[irreducible] def b_law_l189 : Sts := .cons (.forr (.name 2) (.rng (.cons (.con (.int 299)) (.nil))) (.cons (.asg (.name 5) (.prim (.tup) (.cons (.str "star") (.cons (.var 5) (.nil)))))
  (.nil)))
  (b_law_l191)
@[irreducible] def b_law_l188 : Sts := .cons (.asg (.name 5) (.prim (.tup) (.cons (.str "deed") (.cons (.str "a") (.nil)))))
  (b_law_l189)
@[irreducible] def b_law_l186 : Sts := .cons (.ite (.prim (.cm .ne) (.cons (.var 4) (.cons (.prim (.bin .mul) (.cons (.prim (.lst false) (.cons (.prim (.tup) (.cons (.str "term") (.cons (.prim (.repr) (.cons (.var 3) (.nil))) (.nil)))) (.nil))) (.cons (.con (.int 3)) (.nil)))) (.nil)))) (.cons (.ret (.con (.bool false)))
  (.nil)) (.nil))
  (b_law_l188)
@[irreducible] def b_law_l185 : Sts := .cons (.expr (.meth .append (.var 4) (.cons (.catch 22 0 (.call 14 (.cons (.var 3) (.nil)) 0)) (.nil))))
  (b_law_l186)
@[irreducible] def b_law_l184 : Sts := .cons (.expr (.meth .append (.var 4) (.cons (.catch 22 0 (.call 13 (.cons (.var 3) (.nil)) 0)) (.nil))))
  (b_law_l185)
@[irreducible] def b_law_l183 : Sts := .cons (.asg (.name 4) (.prim (.lst true) (.cons (.catch 22 0 (.call 10 (.cons (.var 3) (.nil)) 0)) (.nil))))
  (b_law_l184)
@[irreducible] def b_law_l181 : Sts := .cons (.ite (.not_ (.call 18 (.cons (.call 7 (.cons (.var 3) (.nil)) 0) (.cons (.con (.bool false)) (.nil))) 0)) (.cons (.ret (.con (.bool false)))
  (.nil)) (.nil))
  (b_law_l183)
@[irreducible] def b_law_l180 : Sts := .cons (.asg (.name 3) (.call 17 (.cons (.var 1) (.cons (.prim (.lst false) (.cons (.con .none) (.cons (.con (.int 3)) (.cons (.str "a") (.cons (.prim (.tup) (.nil)) (.cons (.prim (.tup) (.cons (.str "deed") (.nil))) (.cons (.prim (.tup) (.cons (.str "deed") (.cons (.str "A") (.nil)))) (.cons (.prim (.tup) (.cons (.str "deed") (.cons (.con (.int 1)) (.nil)))) (.cons (.prim (.tup) (.cons (.str "test") (.nil))) (.cons (.prim (.tup) (.cons (.str "test") (.cons (.str "p") (.nil)))) (.cons (.prim (.tup) (.cons (.str "test") (.cons (.prim (.tup) (.cons (.str "name") (.cons (.str "") (.nil)))) (.nil)))) (.cons (.prim (.tup) (.cons (.str "plus") (.cons (.prim (.tup) (.cons (.str "deed") (.cons (.str "a") (.nil)))) (.nil)))) (.cons (.prim (.lst false) (.cons (.str "deed") (.cons (.str "a") (.nil)))) (.cons (.prim (.tup) (.cons (.str "star") (.cons (.prim (.tup) (.cons (.str "deed") (.cons (.str "a") (.nil)))) (.cons (.prim (.tup) (.cons (.str "deed") (.cons (.str "a") (.nil)))) (.nil))))) (.cons (.prim (.tup) (.cons (.str "times") (.cons (.prim (.tup) (.cons (.str "deed") (.cons (.str "a") (.nil)))) (.cons (.con .none) (.nil))))) (.cons (.prim (.tup) (.cons (.str "minus") (.cons (.glo 5) (.cons (.glo 5) (.nil))))) (.cons (.prim (.tup) (.cons (.str "test") (.cons (.prim (.tup) (.cons (.str "and") (.cons (.prim (.tup) (.cons (.str "true") (.nil))) (.nil)))) (.nil)))) (.cons (.prim (.tup) (.cons (.con (.int 1)) (.cons (.con (.int 2)) (.nil)))) (.cons (.prim (.tup) (.cons (.str "deed") (.cons (.str "toolongname") (.nil)))) (.cons (.prim (.tup) (.cons (.str "star") (.cons (.prim (.lst false) (.cons (.str "deed") (.cons (.str "a") (.nil)))) (.nil)))) (.nil))))))))))))))))))))) (.nil))) 0))
  (b_law_l181)
@[irreducible] def b_law_l167 : Sts := .cons (.forr (.name 2) (.rng (.cons (.con (.int 3)) (.nil))) (b_law_l168))
  (b_law_l180)
@[irreducible] def b_law_l165 : Sts := .cons (.ite (.or_ (.cons (.prim (.cm .ne) (.cons (.glo 4) (.cons (.prim (.tup) (.cons (.str "test") (.cons (.prim (.tup) (.cons (.str "false") (.nil))) (.nil)))) (.nil)))) (.cons (.prim (.cm .ne) (.cons (.glo 5) (.cons (.prim (.tup) (.cons (.str "test") (.cons (.prim (.tup) (.cons (.str "true") (.nil))) (.nil)))) (.nil)))) (.nil)))) (.cons (.ret (.con (.bool false)))
  (.nil)) (.nil))
  (b_law_l167)
@[irreducible] def b_law : Sts := .cons (.asg (.name 1) (.call 15 (.cons (.var 0) (.nil)) 0))
  (b_law_l165)
theorem c_law : chkSs (PL 24) (cxtOf N_law (defScope (top 41))) b_law (defBody (top 41)) = true := by decide +kernel
theorem u_law : uniqB (defScope (top 41)) = true := by decide +kernel
theorem s_law : FnScope N_law ["script"] (defScope (top 41)) := ⟨rfl, rfl, rfl, by decide +kernel, by decide +kernel, by decide +kernel, by decide +kernel⟩
end K11

set_option Elab.async false
set_option linter.all false
set_option maxRecDepth 100000
set_option maxHeartbeats 4000000
namespace K11
open PySem PY
theorem w_draw_tail (S : Sg) {E : Sl → XD → Store → Prop} {p : Nat} {many C : Int} {x3 : Option D} {μ : Store} {Q : D → Store → Prop} {PD : PEnds} {ns : List Int} {a d t f : Int} (hw : wfS μ) (hpl : p < μ.length)
    (h1 : 0 ≤ a) (h2 : 0 ≤ d) (h3 : 0 ≤ t) (h4 : t ≤ C + 1) (h5 : 0 ≤ f) (h6 : f < 4294967296) (hC : C < Many) (hm1 : 1 ≤ many) (hm2 : many < 1073741824)
    (q : ∀ (r : Int) (pen' : Cell), 0 ≤ r → r < many → PenC (C + 1) pen' → Q (.int r) (μ.set p pen')) (hrt : PD.rt = fun d μ' => EndD μ.length d μ' Q) :
    wpSs S E b__law_draw_1 [some (.ref p), some (.int many), none, x3, none] (μ.set p (.dct false (penK (ns.map .int) a d t f))) PD := by
  have g : (μ.set p (.dct false (penK (ns.map .int) a d t f)))[p]? = some (.dct false (penK (ns.map .int) a d t f)) := List.getElem?_set_self hpl
  have hC' : C < 1000000000000 := hC
  have hm0 : many ≠ 0 := by omega
  have hmn : many.natAbs < 1073741824 := by omega
  unfold b__law_draw_1
  simp [ss_nil, ss_cons, wpS, wpE, wpT, wpEs, pen_digits g, hrt]
  by_cases hd : 0 < d
  · simp [hd, pen_digits g, bi_mod _ _ _ hm0, bi_fdiv _ _ _ hm0 hmn, bindT, set_digits g]
    have pc : PenC (C + 1) (.dct false (penK (ns.map .int) a (d.fdiv many) t f)) := ⟨ns, a, _, t, f, rfl, h1, Int.fdiv_nonneg h2 (by omega), h3, h4, h5, h6⟩
    exact EndD.pen hw (pc.below _) rfl (q _ _ (Int.fmod_nonneg_of_pos _ (by omega)) (Int.fmod_lt_of_pos _ (by omega)) pc)
  · simp [hd, pen_fold g, pen_count g]
    rw [bi_mul _ _ _ (by decide)]
    simp [bindT]
    rw [bi_pow _ _ _ (by decide) (by decide) (by show (f + t * 7907 + 37).natAbs < _; omega)]
    simp
    rw [bi_mod _ _ _ (by decide)]
    simp
    rw [bi_fdiv _ _ _ (by decide) (by decide)]
    simp
    rw [bi_mod _ _ _ hm0]
    simp
    have pc : PenC (C + 1) (.dct false (penK (ns.map .int) a d t f)) := ⟨ns, a, d, t, f, rfl, h1, h2, h3, h4, h5, h6⟩
    exact EndD.pen hw (pc.below _) rfl (q _ _ (Int.fmod_nonneg_of_pos _ (by omega)) (Int.fmod_lt_of_pos _ (by omega)) pc)
theorem w_law_draw (S : Sg) : Body S sp_law_draw b__law_draw N__law_draw 2 := by
  intro ds μ Q E h hl hb hw
  match ds, hl, h with
  | [.ref p, .int many], _, h =>
    obtain ⟨C, pen, hp, ⟨ns, a, d, t, f, rfl, h1, h2, h3, h4, h5, h6⟩, hC, hm1, hm2, q⟩ := h
    have e : startD N__law_draw [.ref p, .int many] = [some (.ref p), some (.int many), none, none, none] := rfl
    rw [e]
    unfold b__law_draw
    have hpl : p < μ.length := (List.getElem?_eq_some_iff.mp hp).1
    have g1 : (μ.set p (.dct false (penK (ns.map .int) a d (t + 1) f)))[p]? = some (.dct false (penK (ns.map .int) a d (t + 1) f)) := List.getElem?_set_self hpl
    simp [ss_nil, ss_cons, wpS, wpE, wpT, wpTAnd, wpEs, pen_count hp, set_count hp, pen_digits g1, pen_at g1, pen_cells g1]
    split
    · rename_i hd
      split
      · rename_i ha
        have hx : ∃ c, atD (ns.map D.int) a = some (.int c) := by
          have hal : a.toNat < ns.length := by omega
          refine ⟨ns[a.toNat], ?_⟩
          unfold atD
          rw [if_pos h1, List.getElem?_map, List.getElem?_eq_getElem hal]; rfl
        obtain ⟨c, hx⟩ := hx
        have g2 : (μ.set p (.dct false (penK (ns.map .int) (a + 1) d (t + 1) f)))[p]? = some (.dct false (penK (ns.map .int) (a + 1) d (t + 1) f)) := List.getElem?_set_self hpl
        have hpw : ∀ ν, binD ν .pow (.int 10) (.int 18) = some (.int (10 ^ 18)) := fun ν => bi_pow _ _ _ (by decide) (by decide) (by decide)
        simp [hx, bindT, pen_at g1, set_at g1, hpw]
        split
        · simp [set_digits g2]
          exact w_draw_tail S hw hpl (by omega) (by omega) (by omega) (by omega) h5 h6 hC hm1 hm2 q rfl
        · rename_i hc
          simp [pen_fold g2]
          rw [bi_mul _ _ _ (by decide)]
          simp
          rw [bi_mod _ _ _ (by decide)]
          simp [set_fold g2]
          exact w_draw_tail S hw hpl (by omega) (by omega) (by omega) (by omega) (Int.fmod_nonneg_of_pos _ (by decide)) (Int.lt_trans (Int.fmod_lt_of_pos _ (by decide)) (by decide)) hC hm1 hm2 q rfl
      · exact w_draw_tail S hw hpl h1 h2 (by omega) (by omega) h5 h6 hC hm1 hm2 q rfl
    · exact w_draw_tail S hw hpl h1 h2 (by omega) (by omega) h5 h6 hC hm1 hm2 q rfl
/-- the promises of the pen -/
structure Cp (S : Sg) : Prop where
  c14 : S.call 15 = sp_law_pen
  c15 : S.call 16 = sp_law_draw
  c16 : S.call 17 = sp_law_pick
  c17 : S.call 18 = sp_law_is_truth
  d14 : S.dfl 15 = []
  d15 : S.dfl 16 = []
  d16 : S.dfl 17 = []
  d17 : S.dfl 18 = []
theorem w_law_pick (S : Sg) (cp : Cp S) : Body S sp_law_pick b__law_pick N__law_pick 2 := by
  intro ds μ Q E h hl hb hw
  match ds, hl, h with
  | [.ref p, .lst xs], _, h =>
    obtain ⟨C, pen, hp, hpen, hC, hne, hlen, q⟩ := h
    have e : startD N__law_pick [.ref p, .lst xs] = [some (.ref p), some (.lst xs)] := rfl
    rw [e]
    unfold b__law_pick
    have hpos : 0 < xs.length := List.length_pos_iff.mpr hne
    have hbx : belows μ.length xs = true := by simp at hb; exact hb.2
    simp [ss_nil, ss_cons, wpS, wpE, wpEs, cp.c15, cp.d15, sp_law_draw]
    refine ⟨C, pen, hp, hpen, hC, by omega, by omega, fun r pen' h1 h2 hp' => ?_⟩
    have hr : r.toNat < xs.length := by omega
    have hx : atD xs r = some xs[r.toNat] := by
      unfold atD
      rw [if_pos h1, List.getElem?_eq_getElem hr]
    simp [hx]
    refine EndD.pen hw (hp'.below _) ?_ (q _ (List.getElem_mem hr) pen' hp')
    exact belows_mem hbx (List.getElem_mem hr)
theorem w_law_is_truth (S : Sg) : Body S sp_law_is_truth b__law_is_truth N__law_is_truth 2 := by
  intro ds μ Q E h hl hb hw
  match ds, hl, h with
  | [v, .bl b], _, h =>
    obtain ⟨ho, q⟩ := h
    have hp := (ok_and ho).1
    have e : startD N__law_is_truth [v, .bl b] = [some v, some (.bl b)] := rfl
    rw [e]
    unfold b__law_is_truth
    have ed := EndD.same hw rfl q
    cases v with
    | ref i => simp at hp
    | scr i => simp at hp
    | ins c xs => simp at hp
    | _ =>
      simp [ss_nil, ss_cons, wpS, wpE, wpAnd, wpEs, vtIs]
      exact ed
theorem w_pen_body (S : Sg) (sc : D) (ns : List Int) {μ : Store} {Q : D → Store → Prop} {E : XD → Store → Prop} (hw : wfS μ) (hv : valPlan μ sc = some ⟨ns.map .int, fun _ => True⟩) (hsq : ∀ μ, seqOf μ sc = some (ns.map .int)) (hn : ns.length ≤ 1000)
    (q : ∀ pen, PenC 0 pen → Q (.ref μ.length) (μ ++ [pen])) :
    wpSs S (fun _ x μ' => EndX μ.length x μ' E) b__law_pen [some sc, none, none] μ { nx := fun _ μ' => EndD μ.length .non μ' Q, rt := fun d μ' => EndD μ.length d μ' Q } := by
  unfold b__law_pen
  simp [ss_nil, ss_cons, wpS, wpE, wpEs, bindT, wpI, hv]
  refine for_ind (fun ds ρ μ' => ∃ f x, ρ = [some sc, some (.int f), x] ∧ μ' = μ ∧ 0 ≤ f ∧ f < 4294967296 ∧ ∀ d ∈ ds, ∃ n : Int, d = .int n) ?_ ?_ _ _ _ ⟨0, none, rfl, rfl, by decide, by decide, fun d hd => by obtain ⟨n, _, rfl⟩ := List.mem_map.mp hd; exact ⟨n, rfl⟩⟩
  · rintro d ds ρ μ' N ih ⟨f, x, rfl, rfl, h1, h2, h3⟩
    obtain ⟨n, rfl⟩ := h3 d (by simp)
    refine ⟨trivial, ?_⟩
    simp [bindT, ss_nil, ss_cons, wpS, wpE, wpEs]
    rw [bi_mul _ _ _ (by decide)]
    simp
    rw [bi_mod _ _ _ (by decide)]
    simp
    exact ih _ _ ⟨_, _, rfl, rfl, Int.fmod_nonneg_of_pos _ (by decide), Int.lt_trans (Int.fmod_lt_of_pos _ (by decide)) (by decide), fun d hd => h3 d (by simp [hd])⟩
  · rintro ρ μ' ⟨f, x, rfl, rfl, h1, h2, h3⟩
    refine ⟨trivial, ?_⟩
    simp [b__law_pen_1, ss_nil, ss_cons, wpS, wpE, wpEs, hsq, primD, pairsOf, flatKey, putAll, put]
    have pc : PenC 0 (.dct false (penK (ns.map .int) 0 0 0 f)) := ⟨ns, 0, 0, 0, f, rfl, by decide, by decide, by decide, by decide, h1, h2⟩
    exact EndD.keep hw (pc.below _) (q _ pc)
theorem w_law_pen (S : Sg) : Body S sp_law_pen b__law_pen N__law_pen 1 := by
  intro ds μ Q E h hl hb hw
  match ds, hl, h with
  | [.lst xs], _, h =>
    obtain ⟨ns, rfl, hn, q⟩ := h
    exact w_pen_body S (.lst (ns.map .int)) ns hw rfl (fun _ => rfl) hn q
  | [.scr ns], _, h =>
    obtain ⟨hn, q⟩ := h
    exact w_pen_body S (.scr ns) ns hw rfl (fun _ => rfl) hn q
end K11

set_option Elab.async false
set_option linter.all false
set_option maxRecDepth 100000
set_option maxHeartbeats 4000000
namespace K11
open PySem PY
/-- the constants -/
structure Cn (S : Sg) : Prop where
  small : S.con 0 = .str smallS
  fig : S.con 1 = .str figS
  longest : S.con 2 = .int 8
  words : S.con 3 = .tup (wordsL.map .str)
def zeroD : D := .tup [.str "test", .tup [.str "false"]]
def oneD : D := .tup [.str "test", .tup [.str "true"]]
/-- what the defs call -/
structure Ca (S : Sg) : Prop where
  c1 : S.call 0 = sp_is_name
  c3 : S.call 1 = sp_is_head
  c4 : S.call 2 = sp_test_parts
  c5 : S.call 3 = sp_is_test
  d1 : S.dfl 0 = []
  d3 : S.dfl 1 = []
  d4 : S.dfl 2 = []
  d5 : S.dfl 3 = []
theorem w_is_head (S : Sg) : Body S sp_is_head b_is_head N_is_head 3 := by
  intro ds μ Q E h hl hb hw
  match ds, hl with
  | [v, hh, nn], _ =>
    cases hh with
    | tup hs =>
      cases nn with
      | int n =>
        obtain ⟨hp, hn, q0⟩ := h
        obtain ⟨ss, hss, q⟩ := opt_iff.mp q0
        clear q0
        have := strsOf_some hss
        subst this
        have e : startD N_is_head [v, .tup (ss.map .str), .int n] = [some v, some (.tup (ss.map .str)), some (.int n)] := rfl
        rw [e]
        unfold b_is_head
        have ed := EndD.same (d := .bl (isHead v ss n)) hw rfl q
        cases v with
        | tup xs =>
          cases xs with
          | nil =>
            have h0 : ((0 : Int) == n) = false := by rw [beq_eq_false_iff_ne]; omega
            simp [ss_nil, ss_cons, wpS, wpE, wpAnd, wpEs, vtIs, h0]
            exact ed
          | cons x r =>
            by_cases hr : ((r.length : Int) + 1 = n)
            · have h0 : (((r.length : Int) + 1) == n) = true := by rw [hr]; exact beq_self_eq_true _
              cases x with
              | str s =>
                rw [plain_tup, plains_cons] at hp
                simp [ss_nil, ss_cons, wpS, wpE, wpAnd, wpEs, vtIs, h0, inD_tup]
                have : isHead (.tup (.str s :: r)) ss n = ss.contains s := by simp [isHead, hr]
                rw [this] at ed
                simpa using ed
              | ref i => simp at hp
              | scr i => simp at hp
              | ins c xs => simp at hp
              | _ =>
                simp [ss_nil, ss_cons, wpS, wpE, wpAnd, wpEs, vtIs, h0]
                exact ed
            · have h0 : (((r.length : Int) + 1) == n) = false := by rw [beq_eq_false_iff_ne]; exact hr
              simp [ss_nil, ss_cons, wpS, wpE, wpAnd, wpEs, vtIs, h0]
              have : isHead (.tup (x :: r)) ss n = false := by
                cases x <;> simp [isHead, hr]
              rw [this] at ed
              exact ed
        | ref i => simp at hp
        | scr i => simp at hp
        | ins c xs => simp at hp
        | _ =>
          simp [ss_nil, ss_cons, wpS, wpE, wpAnd, wpEs, vtIs]
          exact ed
      | _ => simp [sp_is_head] at h
    | _ => simp [sp_is_head] at h
theorem w_is_name (S : Sg) (cn : Cn S) : Body S sp_is_name b_is_name N_is_name 1 := by
  intro ds μ Q E h hl hb hw
  match ds, hl with
  | [v], _ =>
    obtain ⟨hp, q⟩ := h
    obtain ⟨hp, hs⟩ := ok_and hp
    have e : startD N_is_name [v] = [some v, none] := rfl
    rw [e]
    unfold b_is_name
    have ed := EndD.same (d := .bl (isName v)) hw rfl q
    cases v with
    | str s =>
      have hs' : s.toList.length ≤ 1000 := by simpa using hs
      have hz : s.toList.length ≤ Sz := Nat.le_trans hs' (by decide)
      have hlen : lenD μ (.str s) = some s.toList.length := if_pos hz
      have hix : ixD μ (.str s) (.int 0) = (atD s.toList 0).map fun c => .str (String.singleton c) := if_pos hz
      have hns : isName (.str s) = nameS s := rfl
      rw [hns] at ed
      unfold nameS at ed
      cases hc : s.toList with
      | nil =>
        rw [hc] at ed hlen
        simp [ss_nil, ss_cons, wpS, wpE, wpT, wpTOr, wpEs, vtIs, hlen, cn.longest]
        exact ed
      | cons c cs =>
        rw [hc] at ed hlen hix
        by_cases h8 : cs.length < 8
        · have h1 : (1 : Int) ≤ (cs.length : Int) + 1 := by omega
          have h2 : (cs.length : Int) + 1 ≤ 8 := by omega
          simp only [h8, decide_true, Bool.true_and] at ed
          simp only [ss_nil, ss_cons, wpS, wpE, wpT, wpTOr, wpEs, vtIs, hlen, cn.longest, hix, cn.small, cn.words, h1, h2, List.getElem?_cons_zero, p_isi, isTys_plain, vt_str, Option.map_some, List.any_cons, List.any_nil, Bool.or_false, opt_some, truth_bl, Bool.not_true, Bool.false_eq_true, if_false, if_true, con_int, p_len, cm_le, List.length_cons, Int.natCast_add, Int.cast_ofNat_Int, decide_true, p_ix, at_0, p_cm, cm_nin, cm_in, inD_chr, inD_strs]
          have hsm : smallS.toList.contains c = smallL.contains c := rfl
          rw [hsm]
          cases h3 : smallL.contains c with
          | false =>
            rw [h3] at ed
            simp at ed ⊢
            exact ed
          | true =>
            rw [h3] at ed
            cases h4 : wordsL.contains s with
            | true =>
              rw [h4] at ed
              simp at ed ⊢
              exact ed
            | false =>
              rw [h4] at ed
              simp only [Bool.not_true, Bool.not_false, Bool.true_and, Bool.false_eq_true, if_false] at ed ⊢
              simp only [wpI, wpE, List.getElem?_cons_zero, valPlan, opt_some, hc]
              refine comp_mapF (fun c => .str (String.singleton c)) (fun c => .bl (smallL.contains c || figL.contains c)) trivial (fun c' hc' R r => ?_) ?_ ?_
              · simp only [wipeD, List.set_cons_succ, List.set_cons_zero, bindT, opt_some, wpC, if_true, wpOr, wpE, wpEs, List.getElem?_cons_succ, List.getElem?_cons_zero, cn.small, cn.fig, p_cm, cm_in, inD_chr, Option.map_some, truth_bl]
                have e3 : smallS.toList.contains c' = smallL.contains c' := rfl
                have e4 : figS.toList.contains c' = figL.contains c' := rfl
                rw [e3, e4]
                cases h5 : smallL.contains c' with
                | true => rw [h5] at r; simpa using r
                | false => rw [h5] at r; simpa using r
              · exact le_sz (by simp; omega)
              · simp only [List.nil_append, newL, Bool.false_eq_true, if_false, p_all, lstOf_lst, Option.bind_some, boolsOf_map, Option.map_some, opt_some, all_map]
                exact ed
        · have h2 : ¬ (cs.length : Int) + 1 ≤ 8 := by omega
          have h1 : (1 : Int) ≤ (cs.length : Int) + 1 := by omega
          simp [ss_nil, ss_cons, wpS, wpE, wpT, wpTOr, wpEs, vtIs, hlen, cn.longest, h1, h2]
          simp [h8] at ed
          exact ed
    | ref i => simp at hp
    | scr i => simp at hp
    | ins c xs => simp at hp
    | _ =>
      simp [ss_nil, ss_cons, wpS, wpE, wpT, wpTOr, wpAnd, wpEs, vtIs]
      exact ed
theorem okD_at1 {s : String} {x : D} {r : List D} (h : okD (.tup (.str s :: x :: r)) = true) : okD x = true := by
  unfold okD at h ⊢
  simp at h ⊢
  exact ⟨h.1.1, h.2.2.1⟩
theorem w_test_parts (S : Sg) (ca : Ca S) : Body S sp_test_parts b_test_parts N_test_parts 1 := by
  intro ds μ Q E h hl hb hw
  match ds, hl with
  | [v], _ =>
    obtain ⟨ho, q⟩ := h
    obtain ⟨hp, hs⟩ := ok_and ho
    have e : startD N_test_parts [v] = [some v] := rfl
    rw [e]
    unfold b_test_parts
    have ed : ∀ d, optL (testParts v) = d → plain d = true → EndD μ.length d μ Q := fun d e h => EndD.same hw (below_plain d h) (by rw [← e]; exact q)
    simp [hp, ss_nil, ss_cons, wpS, wpE, wpT, wpEs, ca.c1, ca.c3, ca.d1, ca.d3, sp_is_head, sp_is_name, pure1, Sz]
    unfold testParts at ed
    split
    · rename_i h1
      exact ed _ (by rw [if_pos h1]; rfl) rfl
    rename_i n1
    rw [if_neg n1] at ed
    split
    · rename_i h1
      rw [if_pos h1] at ed
      obtain ⟨s, x, rfl, _⟩ := head2 h1
      simp [okD] at ho
      simp [okD, ho]
      split
      · rename_i h2
        exact ed _ (by simp [part, h2, optL]) rfl
      · rename_i h2
        exact ed _ (by simp [part, h2, optL]) rfl
    rename_i n2
    rw [if_neg n2] at ed
    split
    · rename_i h1
      rw [if_pos h1] at ed
      obtain ⟨s, x, rfl, _⟩ := head2 h1
      simp at hp
      simp
      exact ed _ (by simp [part, optL]) (by simp [hp])
    rename_i n3
    rw [if_neg n3] at ed
    split
    · rename_i h1
      rw [if_pos h1] at ed
      obtain ⟨s, x, y, rfl, _⟩ := head3 h1
      simp at hp
      simp
      exact ed _ (by simp [part, optL]) (by simp [hp])
    rename_i n4
    rw [if_neg n4] at ed
    exact ed _ rfl rfl
theorem w_is_test (S : Sg) (ca : Ca S) : Body S sp_is_test b_is_test N_is_test 1 := by
  intro ds μ Q E h hl hb hw
  match ds, hl with
  | [v], _ =>
    obtain ⟨ho, hz, q⟩ := h
    have e : startD N_is_test [v] = [some v, none, none] := rfl
    rw [e]
    unfold b_is_test
    simp [b_is_test_1, b_is_test_2, ss_nil, ss_cons, wpS, wpE, wpT, wpEs, bindT, Sz]
    refine ⟨wt v + 2, while_ind (fun k ρ μ' => ∃ ws ρ2, ρ = [some v, some (.ref μ.length), ρ2] ∧ μ' = μ ++ [.lst ws] ∧ wts ws < k ∧ wts ws ≤ wt v ∧ (∀ w ∈ ws, okD w = true) ∧ Q (.bl (ws.all isTest)) μ) ?_ ?_ _ _ _ ⟨[v], none, rfl, rfl, by simp, by simp, by simpa using ho, by simpa using q⟩⟩
    · rintro k ρ μ' N ih ⟨ws, ρ2, rfl, rfl, hk, hk2, hok, hq⟩
      rcases snoc_cases ws with rfl | ⟨ys, y, rfl⟩
      · simp [len_ref (get_last μ _)]
        exact EndD.drop hw rfl (by simpa using hq)
      · have hpos : ((ys.length : Int) + 1 > 0) := by omega
        simp [len_ref (get_last μ _), recv_pop (get_last μ _), p_pop (get_last μ _), ca.c4, ca.d4, sp_test_parts, pure1, hpos]
        have hy : okD y = true := hok y (by simp)
        refine ⟨hy, ?_⟩
        rw [List.all_append] at hq
        have ey : [y].all isTest = isTest y := by simp
        rw [ey, isTest_eq y] at hq
        cases ht : testParts y with
        | none =>
          rw [ht] at hq
          simp [optL]
          exact EndD.drop hw rfl (by simpa using hq)
        | some ps =>
          have hwt := testParts_wt ht
          rw [wts_append] at hk hk2
          simp at hk hk2
          have l1 := wts_len ys
          have l2 := wts_len ps
          have hle : ys.length + ps.length ≤ Sz := le_sz (by omega)
          simp [optL, recv_extend (get_last μ _), p_extend (y := .lst ps) (get_last μ _) rfl hle]
          refine ih _ _ ⟨ys ++ ps, some (.lst ps), rfl, rfl, by rw [wts_append]; omega, by rw [wts_append]; omega, fun w hw' => ?_, ?_⟩
          · rcases List.mem_append.mp hw' with h' | h'
            · exact hok w (by simp [h'])
            · exact testParts_ok ht hy w h'
          · rw [ht] at hq
            rw [List.all_append]
            exact hq
    · rintro ρ μ' ⟨ws, ρ2, _, _, h, _⟩
      omega
end K11

set_option Elab.async false
set_option linter.all false
set_option maxRecDepth 100000
set_option maxHeartbeats 4000000
namespace K11
open PySem PY
/-- a dict whose keys are these texts -/
def keysC (F : List String) : Cell := .dct false (F.map fun s => (.str s, .bl true))
theorem look_keys (F : List String) (s : String) : ((F.map fun s => ((D.str s, D.bl true) : D × D)).any fun p => eqv p.1 (.str s)) = F.contains s := by
  rw [List.any_map]
  induction F with
  | nil => rfl
  | cons t F ih =>
    rw [List.any_cons, ih, List.contains_cons]
    congr 1
    exact BEq.comm
theorem put_keys (F : List String) (s : String) : put (F.map fun s => (.str s, .bl true)) (.str s) (.bl true) = (if s ∈ F then F else F ++ [s]).map fun s => (.str s, .bl true) := by
  unfold put
  rw [look_keys]
  by_cases h : s ∈ F
  · rw [if_pos (List.contains_iff_mem.mpr h), if_pos h, List.map_map]
    exact List.map_congr_left fun t _ => by
      show (if eqv (.str t) (.str s) = true then (D.str t, D.bl true) else (D.str t, D.bl true)) = _
      split <;> rfl
  · rw [if_neg (fun e => h (List.contains_iff_mem.mp e)), if_neg h, List.map_append]; rfl
theorem set_keys {μ : Store} {i : Nat} {F : List String} (h : μ[i]? = some (keysC F)) (hl : F.length < 1000000) (s : String) : primD .setix [.ref i, .str s, .bl true] μ = some (.non, μ.set i (keysC (if s ∈ F then F else F ++ [s]))) := by
  unfold keysC at h ⊢
  rw [← put_keys]
  simp [primD, h, keyOf, flatKey, Sz]
  omega
theorem sort_keys {μ : Store} {i : Nat} {F : List String} (h : μ[i]? = some (keysC F)) (hl : F.length < 64) : primD .sortdict [.ref i] μ = some (.lst ((sortS F).map .str), μ) := by
  unfold keysC at h
  have e : strsOf ((F.map fun s => ((D.str s, D.bl true) : D × D)).map (·.1)) = some F := by
    rw [List.map_map]
    exact strsOf_map F
  show (match μ[i]? with | some (.dct false kvs) => _ | _ => _) = _
  rw [h]
  simp only
  rw [e, Option.bind_some, if_pos hl]
theorem nodup_snoc {F : List String} {s : String} (h : F.Nodup) : (if s ∈ F then F else F ++ [s]).Nodup := by
  split
  · exact h
  · rename_i hs
    exact List.nodup_append.mpr ⟨h, by simp, fun a ha b hb e => by
      rw [List.mem_singleton.mp hb] at e
      exact hs (e ▸ ha)⟩
theorem mem_snoc {F : List String} {s x : String} : x ∈ (if s ∈ F then F else F ++ [s]) ↔ x = s ∨ x ∈ F := by
  split
  · rename_i h
    exact ⟨.inr, fun e => e.elim (fun e => e ▸ h) id⟩
  · rw [List.mem_append, List.mem_singleton]; exact Or.comm
theorem len_snoc {F : List String} {s : String} : (if s ∈ F then F else F ++ [s]).length ≤ F.length + 1 := by
  split
  · omega
  · simp
theorem sl1 (μ : Store) (x : D) (r : List D) : slD μ (some 1) none (.tup (x :: r)) = some (.tup r) := by
  show some (D.tup (cut (x :: r) (some 1) none)) = _
  have := cut_drop (x :: r) 1 (by simp)
  have e : ((1 : Nat) : Int) = (1 : Int) := rfl
  rw [e] at this
  rw [this]; rfl
def sp_names_of_test : PY.Spec
  | [t], μ, Q, _ => isTest t = true ∧ okD t = true ∧ wt t ≤ 1000000 ∧ (nubS (tn t)).length < 64 ∧ Q (.tup ((sortS (nubS (tn t))).map .str)) μ
  | _, _, _, _ => False
theorem w_names_of_test (S : Sg) : Body S sp_names_of_test b_names_of_test N_names_of_test 1 := by
  intro ds μ Q E h hl hb hw
  match ds, hl, h with
  | [t], _, h =>
    obtain ⟨ht, ho, hz, h64, q⟩ := h
    have e : startD N_names_of_test [t] = [some t, none, none, none] := rfl
    rw [e]
    have e0 : primD (.dct false) [] μ = some (.ref μ.length, μ ++ [keysC []]) := rfl
    have e1 : primD (.lst true) [t] (μ ++ [keysC []]) = some (.ref (μ.length + 1), μ ++ [keysC [], .lst [t]]) := by
      show (if [t].length ≤ Sz then some (D.ref (μ ++ [keysC []]).length, (μ ++ [keysC []]) ++ [Cell.lst [t]]) else none) = _
      rw [if_pos (le_sz (by simp))]
      simp
    unfold b_names_of_test b_names_of_test_1 b_names_of_test_2
    simp only [ss_nil, ss_cons, wpS, wpE, wpT, wpEs, e0, opt_some, List.getElem?_cons_zero, e1, List.set_cons_succ, List.set_cons_zero]
    have g0 : ∀ (F : List String) (ws : List D), (μ ++ [keysC F, .lst ws])[μ.length]? = some (keysC F) := fun F ws => by simp
    have g1 : ∀ (F : List String) (ws : List D), (μ ++ [keysC F, .lst ws])[μ.length + 1]? = some (.lst ws) := fun F ws => by simp
    have s0 : ∀ (F : List String) (ws : List D) (c : Cell), (μ ++ [keysC F, .lst ws]).set μ.length c = μ ++ [c, .lst ws] := fun F ws c => by simp
    have s1 : ∀ (F : List String) (ws : List D) (c : Cell), (μ ++ [keysC F, .lst ws]).set (μ.length + 1) c = μ ++ [keysC F, c] := fun F ws c => by simp
    refine ⟨wt t + 2, while_ind (fun k ρ μ' => ∃ F ws x3, ρ = [some t, some (.ref μ.length), some (.ref (μ.length + 1)), x3] ∧ μ' = μ ++ [keysC F, .lst ws] ∧ wts ws < k ∧ F.length + wts ws ≤ wt t ∧ (∀ w ∈ ws, isTest w = true ∧ okD w = true) ∧ F.Nodup ∧ ∀ s, (s ∈ F ∨ s ∈ tns ws) ↔ s ∈ tn t) ?_ ?_ _ _ _ ⟨[], [t], none, rfl, rfl, by simp, by simp, by simpa using ⟨ht, ho⟩, List.nodup_nil, fun s => by simp⟩⟩
    · rintro k ρ μ' N ih ⟨F, ws, x3, rfl, rfl, hk, hk2, hok, hnd, hm⟩
      rcases snoc_cases ws with rfl | ⟨ys, y, rfl⟩
      · have hF : ∀ s, s ∈ F ↔ s ∈ nubS (tn t) := fun s => by rw [nubS_mem, ← hm s]; simp
        have hs := sortS_set hnd (nubS_nodup _) hF
        have hlen : F.length = (nubS (tn t)).length := ((List.perm_ext_iff_of_nodup hnd (nubS_nodup _)).mpr hF).length_eq
        simp only [List.getElem?_cons_succ, List.getElem?_cons_zero, p_len, len_ref (g1 F []), Option.map_some, opt_some, con_int, p_cm, cm_gt, truth_bl, List.length_nil]
        rw [decide_eq_false (by decide)]
        simp only [Bool.false_eq_true, if_false, sort_keys (g0 F []) (by omega), opt_some, p_tuple1, seq_lst, Option.map_some]
        rw [hs]
        exact EndD.drop hw (below_plain (.tup _) (plains_str _)) q
      · have hpos : ((ys ++ [y]).length : Int) > 0 := by simp <;> omega
        obtain ⟨hy, hyo⟩ := hok y (by simp)
        simp only [List.getElem?_cons_succ, List.getElem?_cons_zero, p_len, len_ref (g1 F (ys ++ [y])), Option.map_some, opt_some, con_int, p_cm, cm_gt, truth_bl]
        rw [decide_eq_true hpos]
        simp only [if_true, recv_pop (g1 F (ys ++ [y])), opt_some, p_pop (g1 F (ys ++ [y])), s1, bindT, List.set_cons_succ, List.set_cons_zero, List.getElem?_cons_succ, List.getElem?_cons_zero]
        rw [wts_append] at hk hk2
        simp only [wts_cons, wts_nil, Nat.add_zero] at hk hk2
        have hwy := wt_pos y
        rcases test_form hy with ⟨s, rfl, hs⟩ | ⟨hh, r, rfl, hn, hp⟩
        · have hsl := nameS_short hs
          simp only [p_ix, ix_tup, at_0, at_1, Option.map_some, opt_some, cm_eq, eqD_str, truth_bl, con_bool, beq_self_eq_true, if_true, p_cm]
          rw [set_keys (g0 F ys) (by omega), s0]
          simp only [opt_some]
          have hws : 3 ≤ wt (D.tup [.str "name", .str s]) := by simp [wt]
          have hsn := @len_snoc F s
          refine ih _ _ ⟨_, ys, _, rfl, rfl, by omega, by omega, fun w hw' => hok w (by simp [hw']), nodup_snoc hnd, fun x => ?_⟩
          rw [mem_snoc, ← hm x, tns_append, List.mem_append]
          simp only [tns_cons, tns_nil, List.append_nil, tn_name, List.mem_singleton]
          constructor
          · rintro ((e | e) | e)
            · exact .inr (.inr e)
            · exact .inl e
            · exact .inr (.inl e)
          · rintro (e | e | e)
            · exact .inl (.inr e)
            · exact .inr e
            · exact .inl (.inl e)
        · simp only [p_ix, ix_tup, at_0, Option.map_some, opt_some, cm_eq, eqD_str, truth_bl, hn, Bool.false_eq_true, if_false, p_cm, con_int, p_sl1, sl1, recv_extend (g1 F ys)]
          have hwt := testParts_wt hp
          have l1 := wts_len ys
          have l2 := wts_len r
          have ext := p_extendT (ys := r) (g1 F ys) (show ys.length + r.length ≤ Sz from le_sz (by omega))
          rw [ext, s1]
          simp only [opt_some]
          refine ih _ _ ⟨F, ys ++ r, _, rfl, rfl, by rw [wts_append]; omega, by rw [wts_append]; omega, fun w hw' => ?_, hnd, fun x => ?_⟩
          · rcases List.mem_append.mp hw' with h' | h'
            · exact hok w (by simp [h'])
            · refine ⟨?_, testParts_ok hp hyo w h'⟩
              rw [isTest_eq, hp] at hy
              exact List.all_eq_true.mp hy w h'
          · rw [← hm x, tns_append, tns_append]
            simp only [tns_cons, tns_nil, List.append_nil, tn_op hn]
    · rintro ρ μ' ⟨F, ws, x3, _, _, h, _⟩
      omega
end K11

set_option Elab.async false
set_option linter.all false
set_option maxRecDepth 100000
set_option maxHeartbeats 4000000
namespace K11
open PySem PY
def leafV : D → Bool
  | .tup (.str h :: r) => leafB h r
  | _ => false
def sp_is_leaf : PY.Spec
  | [.tup (x :: r)], μ, Q, _ => okD (.tup (x :: r)) = true ∧ wt (.tup (x :: r)) ≤ 1000000 ∧ Q (.bl (leafV (.tup (x :: r)))) μ
  | _, _, _, _ => False
def sp_is_term : PY.Spec
  | [v], μ, Q, _ => okD v = true ∧ wt v ≤ 1000000 ∧ Q (.bl (isTerm v)) μ
  | _, _, _, _ => False
theorem okD_cons {x : D} {r : List D} (h : okD (.tup (x :: r)) = true) : okD x = true ∧ ∀ y ∈ r, okD y = true := by
  have := okD_mem (.inl rfl) h
  exact ⟨this x (by simp), fun y hy => this y (by simp [hy])⟩
theorem w_is_leaf (S : Sg) (ca : Ca S) : Body S sp_is_leaf b_is_leaf N_is_leaf 1 := by
  intro ds μ Q E h hl hb hw
  match ds, hl, h with
  | [.tup (x :: r)], _, h =>
    obtain ⟨ho, hz, q⟩ := h
    have e : startD N_is_leaf [.tup (x :: r)] = [some (.tup (x :: r))] := rfl
    rw [e]
    obtain ⟨hx, hr⟩ := okD_cons ho
    have hxp := (ok_and hx).1
    unfold b_is_leaf
    match r with
    | [] =>
      simp [ss_nil, ss_cons, wpS, wpE, wpT, wpTOr, wpEs]
      refine EndD.same hw rfl ?_
      have : leafV (.tup [x]) = false := by cases x <;> rfl
      rw [this] at q; exact q
    | [y] =>
      have hy := hr y (by simp)
      have hwy : wt y ≤ 1000000 := by simp at hz; omega
      cases x with
      | str h =>
        simp [ss_nil, ss_cons, wpS, wpE, wpT, wpTOr, wpOr, wpAnd, wpEs, vtIs]
        have hq : Q (.bl (leafB h [y])) μ := q
        unfold leafB at hq
        simp only at hq
        by_cases h1 : h = "test"
        · subst h1
          have e2 : ("test" == "deed") = false := by decide
          rw [e2] at hq
          simp [ca.c5, ca.d5, sp_is_test, pureW, hy, hwy] at hq ⊢
          cases ht : isTest y with
          | true =>
            rw [ht] at hq
            simp
            exact EndD.same hw rfl hq
          | false =>
            rw [ht] at hq
            simp
            exact EndD.same hw rfl hq
        · have e1 : (h == "test") = false := beq_eq_false_iff_ne.mpr h1
          rw [e1] at hq
          simp [h1] at hq ⊢
          by_cases h2 : h = "deed"
          · subst h2
            simp [ca.c1, ca.d1, sp_is_name, pure1, hy] at hq ⊢
            exact EndD.same hw rfl hq
          · have e2 : (h == "deed") = false := beq_eq_false_iff_ne.mpr h2
            rw [e2] at hq
            have hq2 : Q (.bl (h == "deed")) μ := by rw [e2]; exact hq
            simp [h2]
            exact EndD.same hw rfl hq2
      | ref i => simp at hxp
      | scr i => simp at hxp
      | ins c xs => simp at hxp
      | _ =>
        simp [ss_nil, ss_cons, wpS, wpE, wpT, wpTOr, wpEs, vtIs]
        exact EndD.same hw rfl q
    | y :: z :: r =>
      have hne : ((r.length : Int) + 1 + 1 + 1 == 2) = false := by rw [beq_eq_false_iff_ne]; omega
      simp [ss_nil, ss_cons, wpS, wpE, wpT, wpTOr, wpEs, hne]
      refine EndD.same hw rfl ?_
      have : leafV (.tup (x :: y :: z :: r)) = false := by cases x <;> rfl
      rw [this] at q; exact q
/-! ### is_term -/
def opV (x : D) (n : Nat) : Bool := match x with
  | .str h => opB h n
  | _ => false
def inS (ss : List String) : D → Bool
  | .str h => ss.contains h
  | _ => false
theorem in_strs {μ : Store} {x : D} (hx : plain x = true) (ss : List String) : inD μ x (.tup (ss.map .str)) = some (inS ss x) := by
  rw [inD_tup μ hx (plains_str ss) (by simp)]
  congr 1
  cases x with
  | str s => exact any_eqv_str ss s
  | _ =>
    show ((ss.map D.str).any fun y => eqv y _) = false
    rw [List.any_map]
    exact List.any_eq_false.mpr fun s _ => by simp [eqv]
theorem eq_str {μ : Store} {x : D} (hx : plain x = true) (s : String) : eqD μ x (.str s) = some (inS [s] x) := by
  rw [eqD_r μ hx rfl (by simp)]
  congr 1
  cases x with
  | str t => simp [inS]; rfl
  | _ => simp [inS, eqv]
theorem opV_eq (x : D) (n : Nat) : opV x n = ((inS ["plus", "times"] x && decide ((n : Int) + 1 = 3)) || (inS ["star"] x && decide ((n : Int) + 1 = 2))) := by
  cases x with
  | str h =>
    have e1 : decide ((n : Int) + 1 = 3) = (n == 2) := by
      by_cases e : n = 2
      · subst e; rfl
      · have : ¬ (n : Int) + 1 = 3 := by omega
        rw [decide_eq_false this, beq_eq_false_iff_ne.mpr e]
    have e2 : decide ((n : Int) + 1 = 2) = (n == 1) := by
      by_cases e : n = 1
      · subst e; rfl
      · have : ¬ (n : Int) + 1 = 2 := by omega
        rw [decide_eq_false this, beq_eq_false_iff_ne.mpr e]
    rw [e1, e2]
    show opB h n = _
    simp [opB, inS]
    rfl
  | _ => rfl
def okW (W : List (D × Nat)) (n : Nat) : Bool := (W.all fun p => tOk p.1 && decide (tDep p.1 + p.2 ≤ 301)) && decide (n + tSizes (W.map (·.1)) ≤ 4000)
def pairD (p : D × Nat) : D := .tup [p.1, .int (p.2 : Int)]
theorem okW_snoc (W : List (D × Nat)) (d : D) (k n : Nat) : okW (W ++ [(d, k)]) n = ((W.all fun p => tOk p.1 && decide (tDep p.1 + p.2 ≤ 301)) && (tOk d && decide (tDep d + k ≤ 301)) && decide (n + tSizes (W.map (·.1)) + tSize d ≤ 4000)) := by
  unfold okW
  rw [List.all_append, List.map_append, tSizes_append]
  simp [Nat.add_assoc]
theorem okW_many {W : List (D × Nat)} {d : D} {k n : Nat} (h : 4000 < n + 1) : okW (W ++ [(d, k)]) n = false := by
  rw [okW_snoc]
  have := tSize_pos d
  have : ¬ n + tSizes (W.map (·.1)) + tSize d ≤ 4000 := by omega
  rw [decide_eq_false this, Bool.and_false]
theorem okW_deep {W : List (D × Nat)} {d : D} {k n : Nat} (h : 300 < k) : okW (W ++ [(d, k)]) n = false := by
  rw [okW_snoc]
  have := tDep_pos d
  have : ¬ tDep d + k ≤ 301 := by omega
  rw [decide_eq_false this, Bool.and_false, Bool.and_false, Bool.false_and]
theorem okW_bad {W : List (D × Nat)} {d : D} {k n : Nat} (h : tOk d = false) : okW (W ++ [(d, k)]) n = false := by
  rw [okW_snoc, h, Bool.false_and, Bool.and_false, Bool.false_and]
theorem deps_all (k : Nat) (hk : k ≤ 300) : ∀ r : List D, decide (1 + tDeps r + k ≤ 301) = r.all fun x => decide (tDep x + (k + 1) ≤ 301)
  | [] => decide_eq_true (by rw [tDeps_nil]; omega)
  | x :: r => by
    rw [List.all_cons, ← deps_all k hk r, tDeps_cons, ← Bool.decide_and]
    congr 1
    apply propext
    omega
theorem all_pairs (k : Nat) : ∀ r : List D, (r.all ((fun p : D × Nat => tOk p.1 && decide (tDep p.1 + p.2 ≤ 301)) ∘ fun x => (x, k + 1))) = (r.all tOk && r.all fun x => decide (tDep x + (k + 1) ≤ 301))
  | [] => rfl
  | x :: r => by
    rw [List.all_cons, List.all_cons, List.all_cons, all_pairs k r]
    simp only [Function.comp]
    cases tOk x <;> cases decide (tDep x + (k + 1) ≤ 301) <;> simp
theorem okW_op {W : List (D × Nat)} {h : String} {r : List D} {k n : Nat} (ho : opB h r.length = true) (hk : k ≤ 300) : okW (W ++ r.map (·, k + 1)) (n + 1) = okW (W ++ [(.tup (.str h :: r), k)]) n := by
  obtain ⟨h1, h2, h3, _⟩ := op_ok ho
  rw [okW_snoc, h1, h2, h3, deps_all k hk, tOks_all]
  unfold okW
  rw [List.all_append, List.map_append, tSizes_append, List.map_map, List.all_map]
  have e1 : r.map ((fun p : D × Nat => p.1) ∘ fun x => (x, k + 1)) = r := by simp [Function.comp_def]
  have e2 := all_pairs k r
  rw [e1, e2]
  congr 1
  have : n + 1 + (tSizes (W.map (·.1)) + tSizes r) = n + tSizes (W.map (·.1)) + (1 + tSizes r) := by omega
  rw [this]
theorem okW_leaf {W : List (D × Nat)} {h : String} {r : List D} {k n : Nat} (ho : opB h r.length = false) (hl : leafB h r = true) (hk : k ≤ 300) : okW W (n + 1) = okW (W ++ [(.tup (.str h :: r), k)]) n := by
  obtain ⟨h1, h2, h3, _⟩ := leaf_ok ho
  rw [okW_snoc, h1, h2, h3, hl]
  unfold okW
  have e1 : decide (1 + k ≤ 301) = true := decide_eq_true (by omega)
  rw [e1]
  simp only [Bool.and_true]
  congr 1
  have : n + 1 + tSizes (W.map (·.1)) = n + tSizes (W.map (·.1)) + 1 := by omega
  rw [this]
structure Cb (S : Sg) : Prop where
  ca : Ca S
  c6 : S.call 6 = sp_is_leaf
  d6 : S.dfl 6 = []
  mn : S.con 6 = .int 4000
  md : S.con 7 = .int 300
theorem w_is_term (S : Sg) (cb : Cb S) : Body S sp_is_term b_is_term N_is_term 1 := by
  intro ds μ Q E h hl hb hw
  match ds, hl, h with
  | [v], _, h =>
    obtain ⟨ho, hz, q⟩ := h
    have e : startD N_is_term [v] = [some v, none, none, none, none, none] := rfl
    rw [e]
    have e1 : primD (.lst true) [.tup [v, .int 1]] μ = some (.ref μ.length, μ ++ [.lst [.tup [v, .int 1]]]) := by
      show (if [D.tup [v, .int 1]].length ≤ Sz then some (D.ref μ.length, μ ++ [Cell.lst [.tup [v, .int 1]]]) else none) = _
      rw [if_pos (le_sz (by simp))]
    have st : okW [(v, 1)] 0 = isTerm v := by
      unfold okW isTerm
      have a1 : decide (tDep v + 1 ≤ 301) = decide (tDep v ≤ 300) := by congr 1; apply propext; omega
      have a2 : decide (0 + tSizes ([(v, 1)].map (·.1)) ≤ 4000) = decide (tSize v ≤ 4000) := by congr 1; apply propext; simp
      simp only [List.all_cons, List.all_nil, Bool.and_true, a1, a2]
      cases tOk v <;> cases decide (tDep v ≤ 300) <;> cases decide (tSize v ≤ 4000) <;> rfl
    unfold b_is_term b_is_term_l60 b_is_term_l61 b_is_term_l62 b_is_term_l63 b_is_term_l65 b_is_term_l67 b_is_term_l69
    simp only [ss_nil, ss_cons, wpS, wpE, wpEs, List.getElem?_cons_zero, con_int, opt_some, p_tup, List.length_cons, List.length_nil]
    rw [if_pos (by decide)]
    simp only [opt_some, e1, List.set_cons_succ, List.set_cons_zero]
    refine ⟨4003, while_ind (fun k ρ μ' => ∃ (W : List (D × Nat)) (n : Nat) (x3 x4 x5 : Option D), ρ = [some v, some (.ref μ.length), some (.int (n : Int)), x3, x4, x5] ∧ μ' = μ ++ [.lst (W.map pairD)] ∧ 4001 - n < k ∧ n ≤ 4000 ∧ okW W n = isTerm v ∧ wts (W.map (·.1)) ≤ wt v ∧ ∀ p ∈ W, okD p.1 = true) ?_ ?_ _ _ _ ⟨[(v, 1)], 0, none, none, none, rfl, rfl, by omega, by omega, st, by simp, by simpa using ho⟩⟩
    · rintro k ρ μ' N ih ⟨W, n, x3, x4, x5, rfl, rfl, hk, hn, hW, hwt, hok⟩
      have gl := get_last μ (.lst (W.map pairD))
      rcases snoc_cases W with rfl | ⟨W, ⟨d, j⟩, rfl⟩
      · have gl0 := get_last μ (.lst ([] : List D))
        simp only [wpT, wpE, wpEs, List.getElem?_cons_succ, List.getElem?_cons_zero, p_len, len_ref gl0, Option.map_some, opt_some, con_int, p_cm, cm_gt, truth_bl, List.map_nil, List.length_nil]
        rw [decide_eq_false (by decide)]
        simp only [Bool.false_eq_true, if_false, con_bool, opt_some]
        have : okW [] n = true := by unfold okW; simp; exact hn
        rw [← hW, this] at q
        exact EndD.drop hw rfl q
      · have hd := hok (d, j) (by simp)
        have hdp := (ok_and hd).1
        have hwd := wt_pos d
        rw [List.map_append] at gl hwt
        simp only [List.map_cons, List.map_nil, wts_append, wts_cons, wts_nil, Nat.add_zero] at gl hwt
        have hpos : (((W ++ [(d, j)]).map pairD).length : Int) > 0 := by simp <;> omega
        simp only [wpT, wpE, wpEs, List.getElem?_cons_succ, List.getElem?_cons_zero, p_len, List.map_append, List.map_cons, List.map_nil, len_ref gl, Option.map_some, opt_some, con_int, p_cm, cm_gt, truth_bl]
        rw [decide_eq_true (by simp <;> omega)]
        have ea : augD (.int (n : Int)) (.int 1) = some (.int ((n + 1 : Nat) : Int)) := rfl
        simp only [if_true, recv_pop gl, opt_some, p_pop gl, set_last]
        have eb : bindT (.tup [.name 3, .name 4]) (pairD (d, j)) [some v, some (.ref μ.length), some (.int (n : Int)), x3, x4, x5] = some [some v, some (.ref μ.length), some (.int (n : Int)), some d, some (.int (j : Int)), x5] := rfl
        simp only [eb, opt_some, List.getElem?_cons_succ, List.getElem?_cons_zero, ea, List.set_cons_succ, List.set_cons_zero, wpTOr, wpT, wpE, wpEs, cb.mn, cb.md, p_cm, cm_gt, Option.map_some, truth_bl]
        have fin : okW (W ++ [(d, j)]) n = false → EndD μ.length (.bl false) (μ ++ [.lst (W.map pairD)]) Q := fun hf => by
          rw [hf] at hW
          rw [← hW] at q
          exact EndD.drop hw rfl q
        by_cases h1 : 4000 < n + 1
        · have h1' : (4000 : Int) < ((n + 1 : Nat) : Int) := by omega
          rw [decide_eq_true h1']
          simp only [if_true, con_bool, opt_some]
          exact fin (okW_many h1)
        have h1' : ¬ (4000 : Int) < ((n + 1 : Nat) : Int) := by omega
        rw [decide_eq_false h1']
        simp only [Bool.false_eq_true, if_false]
        by_cases h2 : 300 < j
        · have h2' : (300 : Int) < (j : Int) := by omega
          rw [decide_eq_true h2']
          simp only [if_true, con_bool, opt_some]
          exact fin (okW_deep h2)
        have h2' : ¬ (300 : Int) < (j : Int) := by omega
        rw [decide_eq_false h2']
        simp only [Bool.false_eq_true, if_false]
        have hnt : (∀ xs, d ≠ .tup xs) → tOk d = false := fun hne => by
          cases d with
          | tup xs => exact absurd rfl (hne xs)
          | _ => rfl
        cases d with
        | tup xs =>
          have gw := get_last μ (.lst (W.map pairD))
          simp only [p_isi, isTys_plain, vt_tup, Option.map_some, List.any_cons, List.any_nil, vtIs, Bool.or_false, opt_some, truth_bl, Bool.not_true, Bool.false_eq_true, if_false, p_len, len_tup, con_int, p_cm, cm_eq, eqD_int]
          cases xs with
          | nil =>
            simp
            exact fin (okW_bad rfl)
          | cons x r =>
            obtain ⟨hxo, hro⟩ := okD_cons hd
            have hxp := (ok_and hxo).1
            have hrp := oks_plains hro
            have h0 : (((x :: r).length : Int) == 0) = false := by rw [beq_eq_false_iff_ne, List.length_cons]; omega
            have hin := fun μ => in_strs (μ := μ) hxp ["plus", "times"]
            have hst := fun μ => eq_str (μ := μ) hxp "star"
            have hin' : ∀ μ, inD μ x (.tup [.str "plus", .str "times"]) = some (inS ["plus", "times"] x) := hin
            have e3 : ((((x :: r).length : Nat) : Int) == 3) = decide ((r.length : Int) + 1 = 3) := by rw [List.length_cons]; rfl
            have e4 : ((((x :: r).length : Nat) : Int) == 2) = decide ((r.length : Int) + 1 = 2) := by rw [List.length_cons]; rfl
            rw [h0]
            have z2 : (0 + 1 + 1 ≤ Sz) = True := eq_true (by decide)
            simp only [Bool.false_eq_true, if_false, wpTAnd, wpT, wpE, wpEs, List.getElem?_cons_succ, List.getElem?_cons_zero, con_int, p_ix, ix_tup, at_0, Option.map_some, opt_some, p_tup, List.length_cons, List.length_nil, z2, if_true, p_cm, cm_in, hin', truth_bl, cm_eq, hst, p_len, len_tup, eqD_int]
            have yes : opV x r.length = true → wpE S (fun x μ' => EndX μ.length x μ' E) (.meth .extend (.var 1) (.cons (.comp false (.prim (.tup) (.cons (.var 5) (.cons (.prim (.bin .add) (.cons (.var 4) (.cons (.con (.int 1)) (.nil)))) (.nil)))) (.name 5) (.val (.prim (.sl true false) (.cons (.var 3) (.cons (.con (.int 1)) (.nil))))) (.nil) [5]) (.nil))) [some v, some (.ref μ.length), some (.int ((n + 1 : Nat) : Int)), some (.tup (x :: r)), some (.int (j : Int)), x5] (μ ++ [.lst (W.map pairD)]) fun _ μ' => N [some v, some (.ref μ.length), some (.int ((n + 1 : Nat) : Int)), some (.tup (x :: r)), some (.int (j : Int)), x5] μ' := fun hop => by
              cases x with
              | str hh =>
                have hwr : wts r + 2 ≤ wt (.tup (.str hh :: r)) := by simp [wt]; omega
                have l1 := wts_len (W.map (·.1))
                have l2 := wts_len r
                rw [List.length_map] at l1
                simp only [wpE, wpEs, wpI, List.getElem?_cons_succ, List.getElem?_cons_zero, recv_extend gw, opt_some, con_int, p_sl1, sl1, Option.map_some, valPlan]
                refine comp_map (fun d => pairD (d, j + 1)) trivial (fun d' hd' R rr => ?_) (le_sz (by omega)) ?_
                · simp only [wipeD, List.set_cons_succ, List.set_cons_zero, bindT, opt_some, wpC, if_true, wpE, wpEs, List.getElem?_cons_succ, List.getElem?_cons_zero, con_int, p_bin, bi_add, Option.map_some, p_tup, List.length_cons, List.length_nil]
                  rw [if_pos (by decide)]
                  exact rr
                · have ext := p_extend (y := .lst (r.map fun d => pairD (d, j + 1))) gw rfl (show (W.map pairD).length + (r.map fun d => pairD (d, j + 1)).length ≤ Sz from le_sz (by rw [List.length_map, List.length_map]; omega))
                  simp only [newL, Bool.false_eq_true, if_false]
                  rw [ext, set_last]
                  simp only [opt_some]
                  have em : W.map pairD ++ (r.map fun d => pairD (d, j + 1)) = (W ++ r.map (·, j + 1)).map pairD := by
                    rw [List.map_append, List.map_map]; rfl
                  rw [em]
                  refine ih _ _ ⟨W ++ r.map (·, j + 1), n + 1, _, _, _, rfl, rfl, by omega, by omega, ?_, ?_, ?_⟩
                  · rw [okW_op (W := W) (k := j) (n := n) hop (by omega)]; exact hW
                  · rw [List.map_append, wts_append, List.map_map]
                    have : r.map ((fun p : D × Nat => p.1) ∘ fun x => (x, j + 1)) = r := by simp [Function.comp_def]
                    rw [this]
                    omega
                  · intro p hp
                    rcases List.mem_append.mp hp with h' | h'
                    · exact hok p (by simp [h'])
                    · obtain ⟨y, hy, rfl⟩ := List.mem_map.mp h'
                      exact hro y hy
              | _ => cases hop
            have no : opV x r.length = false → wpT S (fun x μ' => EndX μ.length x μ' E) (.not_ (.call 6 (.cons (.var 3) (.nil)) 0)) [some v, some (.ref μ.length), some (.int ((n + 1 : Nat) : Int)), some (.tup (x :: r)), some (.int (j : Int)), x5] (μ ++ [.lst (W.map pairD)]) fun t μ' => if t = true then EndD μ.length (.bl false) μ' Q else N [some v, some (.ref μ.length), some (.int ((n + 1 : Nat) : Int)), some (.tup (x :: r)), some (.int (j : Int)), x5] μ' := fun hop => by
              simp only [wpT, wpE, wpEs, List.getElem?_cons_succ, List.getElem?_cons_zero, cb.c6, cb.d6, List.drop_nil, List.append_nil, sp_is_leaf]
              refine ⟨hd, by omega, ?_⟩
              simp only [truth_bl, opt_some]
              cases hlf : leafV (.tup (x :: r)) with
              | false =>
                simp only [Bool.not_false, if_true]
                refine fin (okW_bad ?_)
                cases x with
                | str hh => rw [(leaf_ok (show opB hh r.length = false from hop)).1]; exact hlf
                | _ => rfl
              | true =>
                simp only [Bool.not_true, Bool.false_eq_true, if_false]
                cases x with
                | str hh =>
                  refine ih _ _ ⟨W, n + 1, _, _, _, rfl, rfl, by omega, by omega, ?_, by omega, fun p hp => hok p (by simp [hp])⟩
                  rw [okW_leaf (W := W) (k := j) (n := n) (show opB hh r.length = false from hop) hlf (by omega)]; exact hW
                | _ => cases hlf
            have e5 : (((r.length + 1 : Nat) : Int) == 3) = decide ((r.length : Int) + 1 = 3) := rfl
            have e6 : (((r.length + 1 : Nat) : Int) == 2) = decide ((r.length : Int) + 1 = 2) := rfl
            rw [e5, e6]
            have hv := opV_eq x r.length
            cases c1 : inS ["plus", "times"] x <;> cases c2 : decide ((r.length : Int) + 1 = 3) <;> cases c3 : inS ["star"] x <;> cases c4 : decide ((r.length : Int) + 1 = 2) <;> rw [c1, c2, c3, c4] at hv <;> simp only [Bool.false_eq_true, if_false, if_true] <;> first | exact yes hv | exact no hv
        | _ =>
          simp [vtIs]
          first
            | exact fin (okW_bad rfl)
            | simp at hdp
    · rintro ρ μ' ⟨W, n, x3, x4, x5, _, _, h, _⟩
      omega
end K11

set_option Elab.async false
set_option linter.all false
set_option maxRecDepth 100000
set_option maxHeartbeats 4000000
namespace K11
open PySem PY
/-- a term: its form, its parts -/
def kids : D → List D
  | .tup (.str h :: r) => if opB h r.length = true then r else []
  | _ => []
theorem kids_eq (h : String) (r : List D) : kids (.tup (.str h :: r)) = if opB h r.length = true then r else [] := rfl
theorem kids_nodes : ∀ {t : D}, tOk t = true → tNodes t = t :: tNodess (kids t)
  | .tup (.str h :: r), _ => by
    cases ho : opB h r.length with
    | true => rw [(op_ok ho).2.2.2]; rw [kids_eq, if_pos ho]
    | false => rw [(leaf_ok ho).2.2.2]; rw [kids_eq, if_neg (by rw [ho]; simp)]; rfl
theorem kids_ok : ∀ {t : D}, tOk t = true → ∀ x ∈ kids t, tOk x = true
  | .tup (.str h :: r), ht => fun x hx => by
    rw [kids_eq] at hx
    cases ho : opB h r.length with
    | true =>
      rw [if_pos ho] at hx
      rw [(op_ok ho).1, tOks_all] at ht
      exact List.all_eq_true.mp ht x hx
    | false =>
      rw [if_neg (by rw [ho]; simp)] at hx
      cases hx
theorem kids_wt : ∀ t : D, wts (kids t) < wt t
  | .tup (.str h :: r) => by
    rw [kids_eq]
    split
    · simp [wt]; omega
    · simp [wt]
  | .tup [] | .non | .bl _ | .int _ | .str _ | .lst _ | .ins _ _ | .ref _ | .scr _ => by simp [kids, wt]
  | .tup (.non :: _) | .tup (.bl _ :: _) | .tup (.int _ :: _) | .tup (.tup _ :: _) | .tup (.lst _ :: _) | .tup (.ins _ _ :: _) | .tup (.ref _ :: _) | .tup (.scr _ :: _) => by simp [kids, wt]
theorem kids_okD {t x : D} (h : okD t = true) (hx : x ∈ kids t) : okD x = true := by
  unfold kids at hx
  split at hx
  · split at hx
    · exact (okD_cons h).2 x hx
    · cases hx
  · cases hx
theorem term_form {t : D} (h : tOk t = true) : ∃ hd r, t = .tup (.str hd :: r) ∧ (opB hd r.length = true ∨ (opB hd r.length = false ∧ ∃ x, r = [x] ∧ ((hd = "test" ∧ isTest x = true) ∨ (hd = "deed" ∧ isName x = true)))) := by
  cases t with
  | tup xs =>
    cases xs with
    | nil => cases h
    | cons x r =>
      cases x with
      | str hd =>
        refine ⟨hd, r, rfl, ?_⟩
        cases ho : opB hd r.length with
        | true => exact .inl rfl
        | false =>
          rw [(leaf_ok ho).1] at h
          refine .inr ⟨rfl, ?_⟩
          match r, h with
          | [y], h =>
            unfold leafB at h
            simp at h
            exact ⟨y, rfl, h⟩
      | _ => cases h
  | _ => cases h
theorem op_heads {h : String} {n : Nat} (ho : opB h n = true) : ["plus", "times", "star"].contains h = true ∧ h ≠ "test" ∧ h ≠ "deed" := by
  unfold opB at ho
  simp at ho
  rcases ho with ⟨rfl | rfl, _⟩ | ⟨rfl, _⟩ <;> decide
def sp_parts_of : PY.Spec
  | [t], μ, Q, _ => tOk t = true ∧ okD t = true ∧ Q (.tup (kids t)) μ
  | _, _, _, _ => False
theorem w_parts_of (S : Sg) : Body S sp_parts_of b_parts_of N_parts_of 1 := by
  intro ds μ Q E h hl hb hw
  match ds, hl, h with
  | [t], _, h =>
    obtain ⟨ht, ho, q⟩ := h
    have e : startD N_parts_of [t] = [some t] := rfl
    rw [e]
    obtain ⟨hd, r, rfl, hf⟩ := term_form ht
    have hrp := oks_plains (okD_cons ho).2
    have hin : ∀ μ, inD μ (.str hd) (.tup [.str "plus", .str "times", .str "star"]) = some (["plus", "times", "star"].contains hd) := fun μ => inD_strs μ ["plus", "times", "star"] hd
    unfold b_parts_of
    simp only [ss_nil, ss_cons, wpS, wpT, wpE, wpEs, List.getElem?_cons_zero, con_int, opt_some, p_ix, ix_tup, at_0, Option.map_some, p_tup, List.length_cons, List.length_nil]
    rw [if_pos (by decide)]
    simp only [opt_some, p_cm, cm_in, hin, Option.map_some, truth_bl, p_sl1, sl1]
    rcases hf with h1 | ⟨h1, x, rfl, h2⟩
    · rw [(op_heads h1).1]
      simp
      rw [kids_eq, if_pos h1] at q
      exact EndD.same hw (below_plain (.tup r) hrp) q
    · have : ["plus", "times", "star"].contains hd = false := by
        rcases h2 with ⟨rfl, _⟩ | ⟨rfl, _⟩ <;> decide
      rw [this]
      simp
      rw [kids_eq, if_neg (by rw [h1]; simp)] at q
      exact EndD.same hw rfl q
def sp_need_term : PY.Spec
  | [v], μ, Q, E => okD v = true ∧ wt v ≤ 1000000 ∧ (if isTerm v = true then Q .non μ else E ⟨1, [v]⟩ μ)
  | _, _, _, _ => False
theorem w_need_term (S : Sg) (c7 : S.call 7 = sp_is_term) (d7 : S.dfl 7 = []) : Body S sp_need_term b_need_term N_need_term 1 := by
  intro ds μ Q E h hl hb hw
  match ds, hl, h with
  | [v], _, h =>
    obtain ⟨ho, hz, q⟩ := h
    have e : startD N_need_term [v] = [some v] := rfl
    rw [e]
    unfold b_need_term
    simp only [ss_nil, ss_cons, wpS, wpT, wpE, wpEs, List.getElem?_cons_zero, c7, d7, List.drop_nil, List.append_nil, sp_is_term]
    refine ⟨ho, hz, ?_⟩
    simp only [truth_bl, opt_some]
    cases ht : isTerm v with
    | true =>
      rw [if_pos ht] at q
      simp
      exact EndD.same hw rfl q
    | false =>
      rw [if_neg (by rw [ht]; simp)] at q
      simp
      exact ⟨rfl, EndX.same hw (by simp [below_plain v (ok_and ho).1]) q⟩
def sp_nodes_of : PY.Spec
  | [t], μ, Q, _ => tOk t = true ∧ okD t = true ∧ wt t ≤ 1000000 ∧ ∀ L : List D, L.Perm (tNodes t) → Q (.lst L) μ
  | _, _, _, _ => False
theorem w_nodes_of (S : Sg) (c5 : S.call 5 = sp_parts_of) (d5 : S.dfl 5 = []) : Body S sp_nodes_of b_nodes_of N_nodes_of 1 := by
  intro ds μ Q E h hl hb hw
  match ds, hl, h with
  | [t], _, h =>
    obtain ⟨ht, ho, hz, q⟩ := h
    have e : startD N_nodes_of [t] = [some t, none, none, none] := rfl
    rw [e]
    have e0 : primD (.lst true) [] μ = some (.ref μ.length, μ ++ [.lst []]) := rfl
    have e1 : primD (.lst true) [t] (μ ++ [.lst []]) = some (.ref (μ.length + 1), μ ++ [.lst [], .lst [t]]) := by
      show (if [t].length ≤ Sz then some (D.ref (μ ++ [Cell.lst []]).length, (μ ++ [Cell.lst []]) ++ [Cell.lst [t]]) else none) = _
      rw [if_pos (le_sz (by simp))]
      simp
    have g0 : ∀ (F ws : List D), (μ ++ [Cell.lst F, .lst ws])[μ.length]? = some (.lst F) := fun F ws => by simp
    have g1 : ∀ (F ws : List D), (μ ++ [Cell.lst F, .lst ws])[μ.length + 1]? = some (.lst ws) := fun F ws => by simp
    have s0 : ∀ (F ws : List D) (c : Cell), (μ ++ [Cell.lst F, .lst ws]).set μ.length c = μ ++ [c, .lst ws] := fun F ws c => by simp
    have s1 : ∀ (F ws : List D) (c : Cell), (μ ++ [Cell.lst F, .lst ws]).set (μ.length + 1) c = μ ++ [Cell.lst F, c] := fun F ws c => by simp
    unfold b_nodes_of b_nodes_of_1 b_nodes_of_2
    simp only [ss_nil, ss_cons, wpS, wpE, wpT, wpEs, e0, opt_some, List.getElem?_cons_zero, e1, List.set_cons_succ, List.set_cons_zero]
    refine ⟨wt t + 2, while_ind (fun k ρ μ' => ∃ F ws x3, ρ = [some t, some (.ref μ.length), some (.ref (μ.length + 1)), x3] ∧ μ' = μ ++ [Cell.lst F, .lst ws] ∧ wts ws < k ∧ F.length + wts ws ≤ wt t ∧ (∀ w ∈ ws, tOk w = true ∧ okD w = true) ∧ (∀ w ∈ F, plain w = true) ∧ (F ++ tNodess ws).Perm (tNodes t)) ?_ ?_ _ _ _ ⟨[], [t], none, rfl, rfl, by simp, by simp, by simpa using ⟨ht, ho⟩, by simp, by simp⟩⟩
    · rintro k ρ μ' N ih ⟨F, ws, x3, rfl, rfl, hk, hk2, hok, hF, hp⟩
      rcases snoc_cases ws with rfl | ⟨ys, y, rfl⟩
      · simp only [List.getElem?_cons_succ, List.getElem?_cons_zero, p_len, len_ref (g1 F []), Option.map_some, opt_some, con_int, p_cm, cm_gt, truth_bl, List.length_nil]
        rw [decide_eq_false (by decide)]
        simp only [Bool.false_eq_true, if_false]
        exact EndD.cell hw (Nat.le_refl _) (g0 F []) (belows_plain F (plains_iff.mpr hF)) (q F (by simpa using hp))
      · have hpos : ((ys ++ [y]).length : Int) > 0 := by simp <;> omega
        obtain ⟨hy, hyo⟩ := hok y (by simp)
        have hyp := (ok_and hyo).1
        rw [wts_append] at hk hk2
        simp only [wts_cons, wts_nil, Nat.add_zero] at hk hk2
        have hwk := kids_wt y
        have l1 := wts_len ys
        have l2 := wts_len (kids y)
        simp only [List.getElem?_cons_succ, List.getElem?_cons_zero, p_len, len_ref (g1 F (ys ++ [y])), Option.map_some, opt_some, con_int, p_cm, cm_gt, truth_bl]
        rw [decide_eq_true hpos]
        simp only [if_true, recv_pop (g1 F (ys ++ [y])), opt_some, p_pop (g1 F (ys ++ [y])), s1, bindT, List.set_cons_succ, List.set_cons_zero, List.getElem?_cons_succ, List.getElem?_cons_zero, recv_append (g0 F ys), p_append (g0 F ys) (show F.length < Sz from by show F.length < 16777216; omega), s0, recv_extend (g1 (F ++ [y]) ys), c5, d5, List.drop_nil, List.append_nil, sp_parts_of]
        refine ⟨hy, hyo, ?_⟩
        rw [p_extendT (ys := kids y) (g1 (F ++ [y]) ys) (show ys.length + (kids y).length ≤ Sz from le_sz (by omega)), s1]
        simp only [opt_some]
        refine ih _ _ ⟨F ++ [y], ys ++ kids y, _, rfl, rfl, by rw [wts_append]; omega, by rw [wts_append, List.length_append, List.length_singleton]; omega, fun w hw' => ?_, fun w hw' => ?_, ?_⟩
        · rcases List.mem_append.mp hw' with h' | h'
          · exact hok w (by simp [h'])
          · exact ⟨kids_ok hy w h', kids_okD hyo h'⟩
        · rcases List.mem_append.mp hw' with h' | h'
          · exact hF w h'
          · rw [List.mem_singleton.mp h']; exact hyp
        · refine List.Perm.trans ?_ hp
          rw [tNodess_append, tNodess_append, tNodess_cons, tNodess_nil, List.append_nil, kids_nodes hy, List.append_assoc]
          refine List.Perm.append_left F ?_
          rw [List.singleton_append]
          exact (List.perm_middle (l₁ := tNodess ys)).symm
    · rintro ρ μ' ⟨F, ws, x3, _, _, h, _⟩
      omega
def sp_term_size : PY.Spec
  | [v], μ, Q, E => okD v = true ∧ wt v ≤ 1000000 ∧ (if isTerm v = true then Q (.int (tSize v : Int)) μ else E ⟨1, [v]⟩ μ)
  | _, _, _, _ => False
theorem isTerm_ok {v : D} (h : isTerm v = true) : tOk v = true := by
  unfold isTerm at h
  simp only [Bool.and_eq_true] at h
  exact h.1.1
structure Cc (S : Sg) : Prop where
  cb : Cb S
  c4 : S.call 4 = sp_names_of_test
  c8 : S.call 8 = sp_need_term
  c9 : S.call 9 = sp_nodes_of
  d4 : S.dfl 4 = []
  d8 : S.dfl 8 = []
  d9 : S.dfl 9 = []
theorem w_term_size (S : Sg) (cc : Cc S) : Body S sp_term_size b_term_size N_term_size 1 := by
  intro ds μ Q E h hl hb hw
  match ds, hl, h with
  | [v], _, h =>
    obtain ⟨ho, hz, q⟩ := h
    have e : startD N_term_size [v] = [some v] := rfl
    rw [e]
    unfold b_term_size
    simp only [ss_nil, ss_cons, wpS, wpT, wpE, wpEs, List.getElem?_cons_zero, cc.c8, cc.d8, cc.c9, cc.d9, List.drop_nil, List.append_nil, sp_need_term, sp_nodes_of]
    refine ⟨ho, hz, ?_⟩
    split
    · rename_i ht
      rw [if_pos ht] at q
      refine ⟨isTerm_ok ht, ho, hz, fun L hL => ?_⟩
      simp only [p_len, len_lst, Option.map_some, opt_some]
      rw [hL.length_eq, tNodes_len]
      exact EndD.same hw rfl q
    · rename_i ht
      rw [if_neg ht] at q
      exact EndX.same hw (by simp [below_plain v (ok_and ho).1]) q
/-- what is known of the nodes -/
theorem nodes_ok : ∀ (n : Nat) {t : D}, wt t ≤ n → tOk t = true → okD t = true → ∀ x ∈ tNodes t, tOk x = true ∧ okD x = true ∧ wt x ≤ n
  | 0, t, hn, _, _, _, _ => by have := wt_pos t; omega
  | n + 1, t, hn, ht, ho, x, hx => by
    rw [kids_nodes ht] at hx
    rcases List.mem_cons.mp hx with e | e
    · subst e; exact ⟨ht, ho, hn⟩
    · have hk := kids_wt t
      have key : ∀ l : List D, (∀ y ∈ l, tOk y = true ∧ okD y = true ∧ wt y ≤ n) → x ∈ tNodess l → tOk x = true ∧ okD x = true ∧ wt x ≤ n + 1 := by
        intro l
        induction l with
        | nil => intro _ h; cases h
        | cons y l ih =>
          intro hl h
          rw [tNodess_cons] at h
          rcases List.mem_append.mp h with h1 | h1
          · obtain ⟨a1, a2, a3⟩ := hl y (by simp)
            obtain ⟨b1, b2, b3⟩ := nodes_ok n a3 a1 a2 x h1
            exact ⟨b1, b2, by omega⟩
          · exact ih (fun z hz => hl z (List.mem_cons_of_mem _ hz)) h1
      exact key (kids t) (fun y hy => ⟨kids_ok ht y hy, kids_okD ho hy, by have := wt_mem hy; omega⟩) e
end K11

set_option Elab.async false
set_option linter.all false
set_option maxRecDepth 100000
set_option maxHeartbeats 4000000
namespace K11
open PySem PY
abbrev allT (t : D) : List String := (tNodes t).flatMap nodeT
abbrev allD (t : D) : List String := (tNodes t).flatMap nodeD
theorem sub_len {F ts : List String} (h : F.Nodup) (hs : ∀ s ∈ F, s ∈ ts) : F.length ≤ (nubS ts).length := by
  have e : nubS F = F := by
    clear hs
    induction F with
    | nil => rfl
    | cons x F ih =>
      obtain ⟨h1, h2⟩ := List.nodup_cons.mp h
      unfold nubS
      rw [if_neg (fun e => h1 (List.contains_iff_mem.mp e)), ih h2]
  have := nub_len (ss := F) (ts := nubS ts) (fun s hs' => nubS_mem.mpr (hs s hs')) (Nat.le_refl _)
  rwa [e] at this
theorem sortS_mem {s : String} {ss : List String} : s ∈ sortS ss ↔ s ∈ ss := (List.mergeSort_perm ss strLe).mem_iff
theorem nodeT_test (y : D) : nodeT (.tup [.str "test", y]) = tn y := rfl
theorem nodeT_other {h : String} {r : List D} (hh : (h == "test") = false) : nodeT (.tup (.str h :: r)) = [] := by
  match r with
  | [] => rfl
  | [x] => show (if h == "test" then tn x else []) = []; rw [hh]; rfl
  | _ :: _ :: _ => rfl
theorem test_node {h : String} {r : List D} (ht : tOk (.tup (.str h :: r)) = true) (hh : h = "test") : ∃ y, r = [y] ∧ isTest y = true := by
  obtain ⟨hd, r', e, hf⟩ := term_form ht
  simp only [D.tup.injEq, List.cons.injEq, D.str.injEq] at e
  obtain ⟨rfl, rfl⟩ := e
  rcases hf with h1 | ⟨_, x, rfl, ⟨_, h3⟩ | ⟨h2, _⟩⟩
  · exact absurd hh (op_heads h1).2.1
  · exact ⟨x, rfl, h3⟩
  · rw [hh] at h2; exact absurd h2 (by decide)
theorem deed_node {h : String} {r : List D} (ht : tOk (.tup (.str h :: r)) = true) (hh : h = "deed") : ∃ s, r = [.str s] ∧ nameS s = true := by
  obtain ⟨hd, r', e, hf⟩ := term_form ht
  simp only [D.tup.injEq, List.cons.injEq, D.str.injEq] at e
  obtain ⟨rfl, rfl⟩ := e
  rcases hf with h1 | ⟨_, x, rfl, ⟨h2, _⟩ | ⟨_, h3⟩⟩
  · exact absurd hh (op_heads h1).2.2
  · rw [hh] at h2; exact absurd h2 (by decide)
  · obtain ⟨s, rfl⟩ := isName_str h3
    exact ⟨s, rfl, h3⟩
def sp_test_names : PY.Spec
  | [t], μ, Q, _ => tOk t = true ∧ okD t = true ∧ wt t ≤ 1000000 ∧ (nubS (allT t)).length < 64 ∧ Q (.tup ((sortS (nubS (allT t))).map .str)) μ
  | _, _, _, _ => False
theorem w_test_names (S : Sg) (cc : Cc S) : Body S sp_test_names b_test_names N_test_names 1 := by
  intro ds μ Q E h hl hb hw
  match ds, hl, h with
  | [t], _, h =>
    obtain ⟨ht, ho, hz, h64, q⟩ := h
    have e : startD N_test_names [t] = [some t, none, none, none] := rfl
    rw [e]
    have e0 : primD (.dct false) [] μ = some (.ref μ.length, μ ++ [keysC []]) := rfl
    have g0 : ∀ (F : List String), (μ ++ [keysC F])[μ.length]? = some (keysC F) := fun F => by simp
    have s0 : ∀ (F : List String) (c : Cell), (μ ++ [keysC F]).set μ.length c = μ ++ [c] := fun F c => by simp
    unfold b_test_names b_test_names_1
    simp only [ss_nil, ss_cons, wpS, wpE, wpT, wpEs, wpI, e0, opt_some, bindT, List.getElem?_cons_zero, List.getElem?_cons_succ, List.set_cons_succ, List.set_cons_zero, cc.c9, cc.d9, List.drop_nil, List.append_nil, sp_nodes_of]
    refine ⟨ht, ho, hz, fun L hL => ?_⟩
    have hnod : ∀ x ∈ L, tOk x = true ∧ okD x = true ∧ wt x ≤ 1000000 := fun x hx => nodes_ok 1000000 hz ht ho x (hL.mem_iff.mp hx)
    have hall : ∀ s, s ∈ L.flatMap nodeT ↔ s ∈ allT t := fun s => by
      simp only [List.mem_flatMap]
      exact ⟨fun ⟨x, h1, h2⟩ => ⟨x, hL.mem_iff.mp h1, h2⟩, fun ⟨x, h1, h2⟩ => ⟨x, hL.mem_iff.mpr h1, h2⟩⟩
    simp only [valPlan, opt_some]
    refine for_ind (fun ds ρ μ' => ∃ F x2 x3, ρ = [some t, some (.ref μ.length), x2, x3] ∧ μ' = μ ++ [keysC F] ∧ (∀ x ∈ ds, tOk x = true ∧ okD x = true ∧ wt x ≤ 1000000) ∧ F.Nodup ∧ ∀ s, (s ∈ F ∨ s ∈ ds.flatMap nodeT) ↔ s ∈ allT t) ?_ ?_ _ _ _ ⟨[], none, none, rfl, rfl, hnod, List.nodup_nil, fun s => by rw [← hall s]; simp⟩
    · rintro d ds ρ μ' N ih ⟨F, x2, x3, rfl, rfl, hok, hnd, hm⟩
      refine ⟨trivial, ?_⟩
      obtain ⟨h1, h2, h3⟩ := hok d (by simp)
      obtain ⟨hd, r, rfl, _⟩ := term_form h1
      simp only [bindT, opt_some, List.set_cons_succ, List.set_cons_zero, wpT, wpE, wpEs, List.getElem?_cons_succ, List.getElem?_cons_zero, con_int, p_ix, ix_tup, at_0, Option.map_some, p_cm, cm_eq, eqD_str, truth_bl]
      cases hh : hd == "test" with
      | false =>
        simp only [Bool.false_eq_true, if_false]
        refine ih _ _ ⟨F, _, _, rfl, rfl, fun x hx => hok x (by simp [hx]), hnd, fun s => ?_⟩
        rw [← hm s, List.flatMap_cons, nodeT_other hh, List.nil_append]
      | true =>
        have hh' : hd = "test" := by simpa using hh
        obtain ⟨y, rfl, hy⟩ := test_node h1 hh'
        subst hh'
        have hyo := (okD_cons h2).2 y (by simp)
        have hwy : wt y ≤ 1000000 := by simp [wt] at h3; omega
        have hsub : ∀ s ∈ tn y, s ∈ nubS (allT t) := fun s hs => nubS_mem.mpr ((hm s).mp (.inr (by rw [List.flatMap_cons, nodeT_test]; exact List.mem_append_left _ hs)))
        have hlen := nub_len (ss := tn y) hsub (Nat.le_refl _)
        simp only [if_true, at_1, Option.map_some, opt_some, cc.c4, cc.d4, List.drop_nil, List.append_nil, sp_names_of_test]
        refine ⟨hy, hyo, hwy, by omega, ?_⟩
        try simp only [valPlan, opt_some]
        refine for_ind (fun ds' ρ μ' => ∃ (ns F' : List String) (x3 : Option D), ds' = ns.map .str ∧ ρ = [some t, some (.ref μ.length), some (.tup [.str "test", y]), x3] ∧ μ' = μ ++ [keysC F'] ∧ F'.Nodup ∧ (∀ s ∈ ns, s ∈ allT t) ∧ (∀ s ∈ F', s ∈ allT t) ∧ ∀ s, (s ∈ F' ∨ s ∈ ns) ↔ (s ∈ F ∨ s ∈ tn y)) ?_ ?_ _ _ _ ⟨sortS (nubS (tn y)), F, x3, rfl, rfl, rfl, hnd, fun s hs => nubS_mem.mp (hsub s (nubS_mem.mp (sortS_mem.mp hs))), fun s hs => (hm s).mp (.inl hs), fun s => by rw [sortS_mem, nubS_mem]⟩
        · rintro d' ds' ρ μ' N' ih' ⟨ns, F', x3, k1, rfl, rfl, k2, k3, k4, k5⟩
          cases ns with
          | nil => simp at k1
          | cons s ns =>
            simp only [List.map_cons, List.cons.injEq] at k1
            obtain ⟨rfl, rfl⟩ := k1
            refine ⟨trivial, ?_⟩
            have hFl := sub_len k2 k4
            simp only [bindT, opt_some, List.set_cons_succ, List.set_cons_zero, wpE, wpEs, List.getElem?_cons_succ, List.getElem?_cons_zero, con_bool]
            rw [set_keys (g0 F') (by omega), s0]
            simp only [opt_some]
            refine ih' _ _ ⟨ns, _, _, rfl, rfl, rfl, nodup_snoc k2, fun x hx => k3 x (by simp [hx]), fun x hx => ?_, fun x => ?_⟩
            · rcases mem_snoc.mp hx with e | e
              · subst e; exact k3 x (by simp)
              · exact k4 x e
            · rw [← k5 x, mem_snoc, List.mem_cons]
              constructor
              · rintro ((e | e) | e)
                · exact .inr (.inl e)
                · exact .inl e
                · exact .inr (.inr e)
              · rintro (e | e | e)
                · exact .inl (.inr e)
                · exact .inl (.inl e)
                · exact .inr e
        · rintro ρ μ' ⟨ns, F', x3, k1, rfl, rfl, k2, k3, k4, k5⟩
          refine ⟨trivial, ?_⟩
          have : ns = [] := by
            cases ns with
            | nil => rfl
            | cons _ _ => simp at k1
          subst this
          refine ih _ _ ⟨F', _, _, rfl, rfl, fun x hx => hok x (by simp [hx]), k2, fun s => ?_⟩
          have := k5 s
          simp only [List.not_mem_nil, or_false] at this
          rw [← hm s, this, List.flatMap_cons, nodeT_test, List.mem_append, or_assoc]
    · rintro ρ μ' ⟨F, x2, x3, rfl, rfl, hok, hnd, hm⟩
      refine ⟨trivial, ?_⟩
      have hF : ∀ s, s ∈ F ↔ s ∈ nubS (allT t) := fun s => by rw [nubS_mem, ← hm s]; simp
      have hs := sortS_set hnd (nubS_nodup _) hF
      have hlen : F.length = (nubS (allT t)).length := ((List.perm_ext_iff_of_nodup hnd (nubS_nodup _)).mpr hF).length_eq
      simp only [wpE, wpEs, List.getElem?_cons_succ, List.getElem?_cons_zero, sort_keys (g0 F) (by omega), opt_some, p_tuple1, seq_lst, Option.map_some]
      rw [hs]
      exact EndD.drop hw (below_plain (.tup _) (plains_str _)) q
def sp_deed_names : PY.Spec
  | [t], μ, Q, _ => tOk t = true ∧ okD t = true ∧ wt t ≤ 1000000 ∧ tSize t < 4000 ∧ (nubS (allD t)).length < 64 ∧ Q (.tup ((sortS (nubS (allD t))).map .str)) μ
  | _, _, _, _ => False
/-- the deed of a node -/
def deedO (x : D) : Option D := (nodeD x).head?.map .str
theorem nodeD_cases (x : D) : nodeD x = [] ∨ ∃ s, nodeD x = [s] := by
  unfold nodeD
  split
  · split
    · exact .inr ⟨_, rfl⟩
    · exact .inl rfl
  · exact .inl rfl
theorem nodeD_other {h : String} {r : List D} (hh : (h == "deed") = false) : nodeD (.tup (.str h :: r)) = [] := by
  unfold nodeD
  split
  · rename_i h1 s e
    simp only [D.tup.injEq, List.cons.injEq, D.str.injEq] at e
    obtain ⟨rfl, _⟩ := e
    rw [hh]; rfl
  · rfl
theorem deedO_eq (x : D) : (deedO x).toList = (nodeD x).map .str := by
  unfold deedO
  rcases nodeD_cases x with e | ⟨s, e⟩ <;> rw [e] <;> rfl
theorem deedO_map (L : List D) : L.filterMap deedO = (L.flatMap nodeD).map .str := by
  induction L with
  | nil => rfl
  | cons x L ih =>
    rw [List.flatMap_cons, List.map_append, ← ih, ← deedO_eq]
    cases e : deedO x with
    | none => rw [List.filterMap_cons_none e]; rfl
    | some y => rw [List.filterMap_cons_some e]; rfl
theorem deeds_len (L : List D) : (L.flatMap nodeD).length ≤ L.length := by
  have h1 := congrArg List.length (deedO_map L)
  rw [List.length_map] at h1
  rw [← h1]
  exact List.length_filterMap_le _ _
theorem p_sortset {μ : Store} {ss : List String} (h : ss.length < 4000) (h2 : (nubS ss).length < 64) : primD .sortset [.lst (ss.map .str)] μ = some (.lst ((sortS (nubS ss)).map .str), μ) := by
  show ((seqOf μ (.lst (ss.map .str))).bind strsOf).bind _ = _
  rw [seq_lst, Option.bind_some, strsOf_map, Option.bind_some, if_pos ⟨h, h2⟩]
theorem nub_sort {ss ts : List String} (h : ∀ s, s ∈ ss ↔ s ∈ ts) : sortS (nubS ss) = sortS (nubS ts) ∧ (nubS ss).length = (nubS ts).length := by
  have hm : ∀ s, s ∈ nubS ss ↔ s ∈ nubS ts := fun s => by rw [nubS_mem, nubS_mem]; exact h s
  exact ⟨sortS_set (nubS_nodup _) (nubS_nodup _) hm, ((List.perm_ext_iff_of_nodup (nubS_nodup _) (nubS_nodup _)).mpr hm).length_eq⟩
/-- [node[1] for node in some if node[0] == "deed"] -/
theorem deed_turn (S : Sg) {i : Nat} {ρ : Sl} {μ : Store} {d : D} {R : Option D → Store → Prop} (hi : ρ[i]? = some (some d)) (h : tOk d = true) (r : R (deedO d) μ) :
    wpT S (fun _ _ => False) (.prim (.cm .eq) (.cons (.prim (.ix) (.cons (.var i) (.cons (.con (.int 0)) (.nil)))) (.cons (.str "deed") (.nil)))) ρ μ fun t μ'' => if t = true then wpE S (fun _ _ => False) (.prim (.ix) (.cons (.var i) (.cons (.con (.int 1)) (.nil)))) ρ μ'' fun x => R (some x) else R none μ'' := by
  obtain ⟨hd, r', rfl, _⟩ := term_form h
  simp only [wpT, wpE, wpEs, hi, con_int, opt_some, p_ix, ix_tup, at_0, Option.map_some, p_cm, cm_eq, eqD_str, truth_bl]
  cases hh : hd == "deed" with
  | false =>
    have : deedO (.tup (.str hd :: r')) = none := by unfold deedO; rw [nodeD_other hh]; rfl
    rw [this] at r
    simp only [Bool.false_eq_true, if_false]
    exact r
  | true =>
    have hh' : hd = "deed" := by simpa using hh
    obtain ⟨s, rfl, _⟩ := deed_node h hh'
    subst hh'
    simp only [if_true, at_1, Option.map_some, opt_some]
    exact r
theorem w_deed_names (S : Sg) (cc : Cc S) : Body S sp_deed_names b_deed_names N_deed_names 1 := by
  intro ds μ Q E h hl hb hw
  match ds, hl, h with
  | [t], _, h =>
    obtain ⟨ht, ho, hz, h4, h64, q⟩ := h
    have e : startD N_deed_names [t] = [some t, none] := rfl
    rw [e]
    unfold b_deed_names
    simp only [ss_nil, ss_cons, wpS, wpE, wpEs, wpI, List.getElem?_cons_zero, cc.c9, cc.d9, List.drop_nil, List.append_nil, sp_nodes_of]
    refine ⟨ht, ho, hz, fun L hL => ?_⟩
    have hLl : L.length = tSize t := by rw [hL.length_eq, tNodes_len]
    simp only [valPlan, opt_some]
    refine comp_pure deedO trivial (fun d hd R r => ?_) (by simp only [List.length_nil, Nat.zero_add]; exact le_sz (by omega)) ?_
    · obtain ⟨h1, _, _⟩ := nodes_ok 1000000 hz ht ho d (hL.mem_iff.mp hd)
      simp only [wipeD, List.set_cons_succ, List.set_cons_zero, bindT, opt_some, wpC]
      exact deed_turn S (by rfl) h1 r
    · have hm : ∀ s, s ∈ L.flatMap nodeD ↔ s ∈ allD t := fun s => by
        simp only [List.mem_flatMap]
        exact ⟨fun ⟨x, h1, h2⟩ => ⟨x, hL.mem_iff.mp h1, h2⟩, fun ⟨x, h1, h2⟩ => ⟨x, hL.mem_iff.mpr h1, h2⟩⟩
      obtain ⟨h5, h6⟩ := nub_sort hm
      have h7 := deeds_len L
      simp only [List.nil_append, newL, Bool.false_eq_true, if_false]
      rw [deedO_map, p_sortset (by omega) (by omega), h5]
      simp only [opt_some, p_tuple1, seq_lst, Option.map_some]
      exact EndD.same hw (below_plain (.tup _) (plains_str _)) q
def sp_tests_in : PY.Spec
  | [v], μ, Q, E => okD v = true ∧ wt v ≤ 1000000 ∧ (if isTerm v = true then (nubS (allT v)).length < 64 ∧ Q (.tup ((sortS (nubS (allT v))).map .str)) μ else E ⟨1, [v]⟩ μ)
  | _, _, _, _ => False
def sp_deeds_in : PY.Spec
  | [v], μ, Q, E => okD v = true ∧ wt v ≤ 1000000 ∧ (if isTerm v = true then tSize v < 4000 ∧ (nubS (allD v)).length < 64 ∧ Q (.tup ((sortS (nubS (allD v))).map .str)) μ else E ⟨1, [v]⟩ μ)
  | _, _, _, _ => False
theorem w_tests_in (S : Sg) (cc : Cc S) (c11 : S.call 11 = sp_test_names) (d11 : S.dfl 11 = []) : Body S sp_tests_in b_tests_in N_tests_in 1 := by
  intro ds μ Q E h hl hb hw
  match ds, hl, h with
  | [v], _, h =>
    obtain ⟨ho, hz, q⟩ := h
    have e : startD N_tests_in [v] = [some v] := rfl
    rw [e]
    unfold b_tests_in
    simp only [ss_nil, ss_cons, wpS, wpT, wpE, wpEs, List.getElem?_cons_zero, cc.c8, cc.d8, c11, d11, List.drop_nil, List.append_nil, sp_need_term, sp_test_names]
    refine ⟨ho, hz, ?_⟩
    split
    · rename_i ht
      rw [if_pos ht] at q
      exact ⟨isTerm_ok ht, ho, hz, q.1, EndD.same hw (below_plain (.tup _) (plains_str _)) q.2⟩
    · rename_i ht
      rw [if_neg ht] at q
      exact EndX.same hw (by simp [below_plain v (ok_and ho).1]) q
theorem w_deeds_in (S : Sg) (cc : Cc S) (c12 : S.call 12 = sp_deed_names) (d12 : S.dfl 12 = []) : Body S sp_deeds_in b_deeds_in N_deeds_in 1 := by
  intro ds μ Q E h hl hb hw
  match ds, hl, h with
  | [v], _, h =>
    obtain ⟨ho, hz, q⟩ := h
    have e : startD N_deeds_in [v] = [some v] := rfl
    rw [e]
    unfold b_deeds_in
    simp only [ss_nil, ss_cons, wpS, wpT, wpE, wpEs, List.getElem?_cons_zero, cc.c8, cc.d8, c12, d12, List.drop_nil, List.append_nil, sp_need_term, sp_deed_names]
    refine ⟨ho, hz, ?_⟩
    split
    · rename_i ht
      rw [if_pos ht] at q
      exact ⟨isTerm_ok ht, ho, hz, q.1, q.2.1, EndD.same hw (below_plain (.tup _) (plains_str _)) q.2.2⟩
    · rename_i ht
      rw [if_neg ht] at q
      exact EndX.same hw (by simp [below_plain v (ok_and ho).1]) q
end K11

set_option Elab.async false
set_option linter.all false
set_option maxRecDepth 100000
set_option maxHeartbeats 4000000
namespace K11
open PySem PY
def tleafB : Sts := (.cons (.ite (.or_ (.cons (.prim (.cm .eq) (.cons (.var 1) (.cons (.prim (.lst false) (.nil)) (.nil)))) (.cons (.prim (.cm .eq) (.cons (.call 16 (.cons (.var 0) (.cons (.con (.int 6)) (.nil))) 0) (.cons (.con (.int 0)) (.nil)))) (.nil)))) (.cons (.ret (.prim (.tup) (.cons (.call 17 (.cons (.var 0) (.cons (.prim (.lst false) (.cons (.str "true") (.cons (.str "false") (.nil)))) (.nil))) 0) (.nil))))
  (.nil)) (.nil))
  (.cons (.ret (.prim (.tup) (.cons (.str "name") (.cons (.call 17 (.cons (.var 0) (.cons (.prim (.list1 false) (.cons (.var 1) (.nil))) (.nil))) 0) (.nil)))))
  (.nil)))
def trestB : Sts := (.cons (.asg (.name 3) (.call 16 (.cons (.var 0) (.cons (.con (.int 3)) (.nil))) 0))
  (.cons (.ite (.prim (.cm .eq) (.cons (.var 3) (.cons (.con (.int 0)) (.nil)))) (.cons (.ret (.prim (.tup) (.cons (.str "not") (.cons (.call 19 (.cons (.var 0) (.cons (.var 1) (.cons (.prim (.bin .sub) (.cons (.var 2) (.cons (.con (.int 1)) (.nil)))) (.nil)))) 0) (.nil)))))
  (.nil)) (.nil))
  (.cons (.ret (.prim (.tup) (.cons (.prim (.ix) (.cons (.prim (.lst false) (.cons (.str "and") (.cons (.str "or") (.nil)))) (.cons (.prim (.bin .sub) (.cons (.var 3) (.cons (.con (.int 1)) (.nil)))) (.nil)))) (.cons (.call 19 (.cons (.var 0) (.cons (.var 1) (.cons (.prim (.bin .fdiv) (.cons (.var 2) (.cons (.con (.int 2)) (.nil)))) (.nil)))) 0) (.cons (.call 19 (.cons (.var 0) (.cons (.var 1) (.cons (.prim (.bin .fdiv) (.cons (.var 2) (.cons (.con (.int 2)) (.nil)))) (.nil)))) 0) (.nil))))))
  (.nil))))
theorem b_split : b__law_test = .cons (.ite (.or_ (.cons (.prim (.cm .lt) (.cons (.var 2) (.cons (.con (.int 2)) (.nil)))) (.cons (.prim (.cm .eq) (.cons (.call 16 (.cons (.var 0) (.cons (.con (.int 3)) (.nil))) 0) (.cons (.con (.int 0)) (.nil)))) (.nil)))) tleafB .nil) trestB := by unfold b__law_test; rfl
theorem w_law_test (S : Sg) (cp : Cp S) (m : Nat) (h18 : S.call 19 = sp_law_test m) (d18 : S.dfl 19 = []) : Body S (sp_law_test (m + 1)) b__law_test N__law_test 3 := by
  intro ds μ Q E h hl hb hw
  match ds, hl, h with
  | [.ref p, .lst tl, .int n], _, h =>
    obtain ⟨k, ts, C, pen, rfl, hkm, hk20, rfl, hts, htl, hp, hpen, hC, q⟩ := h
    have e : startD N__law_test [.ref p, .lst (ts.map .str), .int (k : Int)] = [some (.ref p), some (.lst (ts.map .str)), some (.int (k : Int)), none] := rfl
    rw [e]
    rw [b_split]
    have hpl : p < μ.length := (List.getElem?_eq_some_iff.mp hp).1
    have hC' : C + 8 * 2 ^ k < 1000000000000 := hC
    have hk1 : (1 : Int) ≤ 2 ^ k := by
      have h0 : 1 ≤ 2 ^ k := Nat.one_le_two_pow
      exact_mod_cast h0
    have hk2 : 1 ≤ 2 ^ k := Nat.one_le_two_pow
    -- the leaf
    have leaf : ∀ (C' : Int) (pen' : Cell), PenC C' pen' → C' ≤ C + 1 → wpSs S (fun _ x μ' => EndX μ.length x μ' E) tleafB
        [some (.ref p), some (.lst (ts.map .str)), some (.int (k : Int)), none] (μ.set p pen') { nx := fun _ μ' => EndD μ.length .non μ' Q, rt := fun d μ' => EndD μ.length d μ' Q } := by
      intro C' pen' hp' hC2
      have gp : (μ.set p pen')[p]? = some pen' := List.getElem?_set_self hpl
      unfold tleafB
      simp [ss_nil, ss_cons, wpS, wpE, wpT, wpTOr, wpEs, Sz]
      have heq : ∀ ν, eqD ν (.lst (ts.map .str)) (.lst []) = some ts.isEmpty := fun ν => by
        rw [eqD_r ν (by simp) rfl (by decide)]
        cases ts <;> rfl
      have hts2 : ts.length < 1073741824 := by omega
      have tf : ∀ (C2 : Int) (pen2 : Cell), PenC C2 pen2 → C2 ≤ C + 2 → sp_law_pick [.ref p, .lst [.str "true", .str "false"]] (μ.set p pen2) (fun d μ1 => EndD μ.length (.tup [d]) μ1 Q) (fun x μ' => EndX μ.length x μ' E) := by
        intro C2 pen2 hp2 hC3
        refine ⟨C2, pen2, List.getElem?_set_self hpl, hp2, by show C2 < 1000000000000; omega, by simp, by simp, fun x hx pen3 hp3 => ?_⟩
        rw [List.set_set]
        have hp4 : PenC (C + 8 * 2 ^ k - 2) pen3 := hp3.mono (by omega)
        simp at hx
        rcases hx with rfl | rfl
        · exact EndD.pen hw (hp4.below _) rfl (q _ _ (gen_true ts).1 (by simp [wt]; omega) (by simp; try omega) hp4)
        · exact EndD.pen hw (hp4.below _) rfl (q _ _ (gen_true ts).2 (by simp [wt]; omega) (by simp; try omega) hp4)
      simp [heq, cp.c16, cp.d16]
      split
      · exact tf C' pen' hp' (by omega)
      · rename_i hne
        simp [cp.c15, cp.d15, sp_law_draw]
        refine ⟨C', pen', gp, hp', by show C' < 1000000000000; omega, fun r pen2 h1 h2 hp2 => ?_⟩
        split
        · exact tf (C' + 1) pen2 hp2 (by omega)
        · refine ⟨C' + 1, pen2, List.getElem?_set_self hpl, hp2, by show C' + 1 < 1000000000000; omega, by simpa using hne, by simpa using hts2, fun x hx pen3 hp3 => ?_⟩
          rw [List.set_set]
          obtain ⟨s, hs, rfl⟩ := List.mem_map.mp hx
          have hp4 : PenC (C + 8 * 2 ^ k - 2) pen3 := hp3.mono (by omega)
          exact EndD.pen hw (hp4.below _) rfl (q _ _ (gen_name hts hs) (by simp [wt]; omega) (by simp; try omega) hp4)
    have hset : μ.set p pen = μ := by
      apply List.ext_getElem?
      intro i
      by_cases hi : i = p
      · subst hi; rw [List.getElem?_set_self hpl]; exact hp.symm
      · rw [List.getElem?_set_ne (Ne.symm hi)]
    simp [ss_nil, ss_cons, wpS, wpE, wpT, wpTOr, wpEs]
    split
    · have := leaf C pen hpen (by omega)
      rw [hset] at this
      exact this
    · rename_i hk
      simp [cp.c15, cp.d15, sp_law_draw]
      refine ⟨C, pen, hp, hpen, by show C < 1000000000000; omega, fun r pen' h1 h2 hp' => ?_⟩
      split
      · exact leaf (C + 1) pen' hp' (by omega)
      · unfold trestB
        simp [ss_nil, ss_cons, wpS, wpE, wpT, wpEs, bindT, cp.c15, cp.d15, sp_law_draw]
        refine ⟨C + 1, pen', List.getElem?_set_self hpl, hp', by show C + 1 < 1000000000000; omega, fun w pen2 hw1 hw2 hp2 => ?_⟩
        obtain ⟨k', rfl⟩ : ∃ k', k = k' + 1 := ⟨k - 1, by omega⟩
        have hk' : 1 ≤ k' := by omega
        have pow1 : (2 : Int) ^ (k' + 1) = 2 * 2 ^ k' := by rw [Int.pow_succ]; omega
        have pow2 : (2 : Nat) ^ (k' + 1) = 2 * 2 ^ k' := by rw [Nat.pow_succ]; omega
        have one1 : (1 : Int) ≤ 2 ^ k' := by
          have h0 : 1 ≤ 2 ^ k' := Nat.one_le_two_pow
          exact_mod_cast h0
        have one2 : 1 ≤ 2 ^ k' := Nat.one_le_two_pow
        split
        · have ek : ((k' + 1 : Nat) : Int) - 1 = (k' : Int) := by omega
          rw [ek, h18, d18]
          refine ⟨k', ts, C + 1 + 1, pen2, rfl, by omega, by omega, rfl, hts, htl, List.getElem?_set_self hpl, hp2, by show _ < (1000000000000 : Int); omega, fun t pen3 ht hwt hdt hp3 => ?_⟩
          rw [List.set_set]
          have hp4 : PenC (C + 8 * 2 ^ (k' + 1) - 2) pen3 := hp3.mono (by omega)
          simp [Sz]
          have g := gen_not ht
          exact EndD.pen hw (hp4.below _) (below_plain _ (ok_and g.2.1).1) (q _ _ g (by simp [wt]; omega) (by simp; try omega) hp4)
        · rename_i hw0
          have hwr : w = 1 ∨ w = 2 := by omega
          have ef : ((k' + 1 : Nat) : Int).fdiv 2 = (((k' + 1) / 2 : Nat) : Int) := by
            rw [Int.fdiv_eq_ediv_of_nonneg _ (by decide)]; rfl
          have hbf : ∀ ν, binD ν .fdiv (.int ((k' + 1 : Nat) : Int)) (.int 2) = some (.int (((k' + 1) / 2 : Nat) : Int)) := fun ν => by
            rw [bi_fdiv _ _ _ (by decide) (by decide), ef]
          have hh : (k' + 1) / 2 ≤ k' := by omega
          have pw1 : (2 : Int) ^ ((k' + 1) / 2) ≤ 2 ^ k' := by
            have h0 : 2 ^ ((k' + 1) / 2) ≤ 2 ^ k' := Nat.pow_le_pow_right (by decide) hh
            exact_mod_cast h0
          have pw2 : (2 : Nat) ^ ((k' + 1) / 2) ≤ 2 ^ k' := Nat.pow_le_pow_right (by decide) hh
          have hix : ∃ s, (s = "and" ∨ s = "or") ∧ atD [D.str "and", D.str "or"] (w - 1) = some (.str s) := by
            rcases hwr with rfl | rfl
            · exact ⟨"and", .inl rfl, rfl⟩
            · exact ⟨"or", .inr rfl, rfl⟩
          obtain ⟨s, hs, hix⟩ := hix
          simp only [Sz, opt_some, ix_lst, hix, Option.map_some, hbf, h18, d18, show (2 : Nat) ≤ 16777216 from by decide, show (3 : Nat) ≤ 16777216 from by decide, if_true]
          refine ⟨(k' + 1) / 2, ts, C + 1 + 1, pen2, rfl, by omega, by omega, rfl, hts, htl, List.getElem?_set_self hpl, hp2, by show _ < (1000000000000 : Int); omega, fun t pen3 ht hwt hdt hp3 => ?_⟩
          rw [List.set_set]
          refine ⟨(k' + 1) / 2, ts, _, pen3, rfl, by omega, by omega, rfl, hts, htl, List.getElem?_set_self hpl, hp3, by show _ < (1000000000000 : Int); omega, fun t2 pen4 ht2 hwt2 hdt2 hp4 => ?_⟩
          rw [List.set_set]
          have hp5 : PenC (C + 8 * 2 ^ (k' + 1) - 2) pen4 := hp4.mono (by omega)
          have g : GenT ts (.tup [.str s, t, t2]) := by
            rcases hs with rfl | rfl
            · exact (gen_and ht ht2).1
            · exact (gen_and ht ht2).2
          exact EndD.pen hw (hp5.below _) (below_plain _ (ok_and g.2.1).1) (q _ _ g (by simp [wt]; omega) (by simp; try omega) hp5)
theorem w_law_names (S : Sg) (cp : Cp S) : Body S sp_law_names b__law_names N__law_names 1 := by
  intro ds μ Q E h hl hb hw
  match ds, hl, h with
  | [.ref p], _, h =>
    obtain ⟨C, pen, hp, hpen, hC, q⟩ := h
    have hC' : C + 2 < 1000000000000 := hC
    have hpl : p < μ.length := (List.getElem?_eq_some_iff.mp hp).1
    have e : startD N__law_names [.ref p] = [some (.ref p), none, none] := rfl
    rw [e]
    unfold b__law_names
    simp [ss_nil, ss_cons, wpS, wpE, wpEs, bindT, cp.c16, cp.d16, Sz]
    refine ⟨C, pen, hp, hpen, by show C < 1000000000000; omega, by simp, by simp, fun x hx pen2 hp2 => ?_⟩
    refine ⟨C + 1, pen2, List.getElem?_set_self hpl, hp2, by show C + 1 < 1000000000000; omega, by simp, by simp, fun y hy pen3 hp3 => ?_⟩
    rw [List.set_set]
    have hx' : ∃ ts ∈ testNames, x = .lst (ts.map .str) := by
      simp at hx
      rcases hx with rfl | rfl | rfl | rfl
      · exact ⟨[], by decide, rfl⟩
      · exact ⟨["p"], by decide, rfl⟩
      · exact ⟨["p", "q"], by decide, rfl⟩
      · exact ⟨["q", "p"], by decide, rfl⟩
    have hy' : ∃ ts ∈ deedNames, y = .lst (ts.map .str) := by
      simp at hy
      rcases hy with rfl | rfl | rfl
      · exact ⟨["a"], by decide, rfl⟩
      · exact ⟨["a", "b"], by decide, rfl⟩
      · exact ⟨["b", "a"], by decide, rfl⟩
    obtain ⟨ts, h1, rfl⟩ := hx'
    obtain ⟨ds, h2, rfl⟩ := hy'
    have hp4 : PenC (C + 2) pen3 := hp3.mono (by omega)
    simp
    exact EndD.pen hw (hp4.below _) (by simp [belows_plain]) (q ts h1 ds h2 pen3 hp4)
/-! ### the law's names and nodes -/
theorem gen_names {ts : List String} : ∀ (n : Nat) {t : D}, wt t ≤ n → isTest t = true → subT (nodeIn "name" (ts.map .str)) t = true → ∀ s ∈ tn t, s ∈ ts
  | 0, t, hn, _, _, _, _ => by have := wt_pos t; omega
  | n + 1, t, hn, ht, hs, s, hm => by
    rw [subT_eq, Bool.and_eq_true] at hs
    rcases test_form ht with ⟨s', rfl, _⟩ | ⟨h, r, rfl, hh, hp⟩
    · rw [tn_name, List.mem_singleton] at hm
      subst hm
      have := hs.1
      unfold nodeIn at this
      have e : eqv (part (.tup [.str "name", .str s]) 0) (.str "name") = true := by simp [part]
      rw [if_pos e] at this
      have e2 : part (.tup [.str "name", .str s]) 1 = .str s := rfl
      rw [e2, any_eqv_str] at this
      exact List.contains_iff_mem.mp this
    · rw [tn_op hh] at hm
      have hw := testParts_wt hp
      rw [isTest_eq, hp] at ht
      have ht2 : r.all isTest = true := ht
      have hs2 := hs.2
      unfold tparts at hs2
      rw [hp] at hs2
      have hs3 : r.all (subT (nodeIn "name" (ts.map .str))) = true := hs2
      rw [List.all_eq_true] at ht2 hs3
      have key : ∀ l : List D, (∀ y ∈ l, y ∈ r) → s ∈ tns l → s ∈ ts := by
        intro l
        induction l with
        | nil => intro _ h; cases h
        | cons y l ih =>
          intro hl h
          rw [tns_cons] at h
          have hy := hl y (by simp)
          rcases List.mem_append.mp h with h1 | h1
          · exact gen_names n (by have := wt_mem hy; omega) (ht2 y hy) (hs3 y hy) s h1
          · exact ih (fun z hz => hl z (List.mem_cons_of_mem _ hz)) h1
      exact key r (fun _ h => h) hm
/-- a drawn term -/
structure GenK (ts ds : List String) (k : Nat) (t : D) : Prop where
  ok : tOk t = true
  od : okD t = true
  size : tSize t + 1 ≤ 2 * k
  dep : tDep t ≤ k
  wt : wt t ≤ 40 * (2 * k - 1)
  names : ∀ s ∈ allT t, s ∈ ts
  deeds : ∀ s ∈ K11.allD t, s ∈ ds
  tw : ∀ T, .tup [.str "test", T] ∈ tNodes t → PY.wt T ≤ 32
theorem nodes_leaf {h : String} {r : List D} (ho : opB h r.length = false) : allT (.tup (.str h :: r)) = nodeT (.tup (.str h :: r)) ∧ K11.allD (.tup (.str h :: r)) = nodeD (.tup (.str h :: r)) := by
  unfold allT K11.allD
  rw [(leaf_ok ho).2.2.2]
  simp
theorem nodes_op {h : String} {r : List D} (ho : opB h r.length = true) : allT (.tup (.str h :: r)) = r.flatMap allT ∧ K11.allD (.tup (.str h :: r)) = r.flatMap K11.allD := by
  have h1 : nodeT (.tup (.str h :: r)) = [] := nodeT_other (beq_eq_false_iff_ne.mpr (op_heads ho).2.1)
  have h2 : nodeD (.tup (.str h :: r)) = [] := nodeD_other (beq_eq_false_iff_ne.mpr (op_heads ho).2.2)
  have key : ∀ l : List D, (tNodess l).flatMap nodeT = l.flatMap allT ∧ (tNodess l).flatMap nodeD = l.flatMap K11.allD := by
    intro l
    induction l with
    | nil => exact ⟨rfl, rfl⟩
    | cons x l ih => rw [tNodess_cons, List.flatMap_append, List.flatMap_append, ih.1, ih.2]; exact ⟨rfl, rfl⟩
  unfold allT K11.allD
  rw [(op_ok ho).2.2.2, List.flatMap_cons, List.flatMap_cons, h1, h2]
  exact key r
theorem gen_test2 {ts ds : List String} {k : Nat} {t : D} (hk : 1 ≤ k) (ht : GenT ts t) (hw : wt t ≤ 32) : GenK ts ds k (.tup [.str "test", t]) := by
  obtain ⟨h1, h2, h3⟩ := ht
  have ho : opB "test" [t].length = false := by show opB "test" 1 = false; decide
  obtain ⟨l1, l2, l3, l6⟩ := leaf_ok (h := "test") (r := [t]) ho
  obtain ⟨l4, l5⟩ := nodes_leaf (h := "test") (r := [t]) ho
  refine ⟨?_, ok_tup (by decide) (by simpa using h2), by rw [l2]; omega, by rw [l3]; omega, by simp [wt]; omega, fun s hs => ?_, fun s hs => ?_, ?_⟩
  · rw [l1]
    simp [PY.leafB, h1]
  · rw [l4, nodeT_test] at hs
    exact gen_names 32 hw h1 h3 s hs
  · rw [l5, nodeD_other (by decide)] at hs
    cases hs
  · intro T hT
    rw [l6, List.mem_singleton] at hT
    cases hT
    exact hw
theorem gen_deed2 {ts ds : List String} {k : Nat} {s : String} (hk : 1 ≤ k) (hn : nameS s = true) (hs : s ∈ ds) : GenK ts ds k (.tup [.str "deed", .str s]) := by
  have ho : opB "deed" [D.str s].length = false := by show opB "deed" 1 = false; decide
  obtain ⟨l1, l2, l3, l6⟩ := leaf_ok (h := "deed") (r := [.str s]) ho
  obtain ⟨l4, l5⟩ := nodes_leaf (h := "deed") (r := [.str s]) ho
  have hsh := nameS_short hn
  refine ⟨?_, ok_tup (by decide) (by simp [okD, hsh]), by rw [l2]; omega, by rw [l3]; omega, by simp [wt]; omega, fun x hx => ?_, fun x hx => ?_, ?_⟩
  · rw [l1]
    have : isName (.str s) = true := hn
    simp [PY.leafB, this]
  · rw [l4, nodeT_other (by decide)] at hx
    cases hx
  · rw [l5] at hx
    have e : nodeD (.tup [.str "deed", .str s]) = [s] := rfl
    rw [e, List.mem_singleton] at hx
    subst hx; exact hs
  · intro T hT
    rw [l6, List.mem_singleton] at hT
    simp at hT
theorem gen_star {ts ds : List String} {k : Nat} {t : D} (h : GenK ts ds k t) : GenK ts ds (k + 1) (.tup [.str "star", t]) := by
  have ho : opB "star" [t].length = true := by show opB "star" 1 = true; decide
  obtain ⟨l1, l2, l3, l6⟩ := op_ok (h := "star") (r := [t]) ho
  obtain ⟨l4, l5⟩ := nodes_op (h := "star") (r := [t]) ho
  have hs := h.size
  have hd := h.dep
  have hw := h.wt
  have hp := tSize_pos t
  refine ⟨by rw [l1]; simp [h.ok], ok_tup (by decide) (by simpa using h.od), by rw [l2]; simp; omega, by rw [l3]; simp; omega, by simp [PY.wt]; omega, fun s hx => ?_, fun s hx => ?_, ?_⟩
  · rw [l4] at hx; exact h.names s (by simpa using hx)
  · rw [l5] at hx; exact h.deeds s (by simpa using hx)
  · intro T hT
    rw [l6] at hT
    rcases List.mem_cons.mp hT with e | e
    · simp at e
    · exact h.tw T (by simpa using e)
theorem gen_two {ts ds : List String} {a b : Nat} {h : String} {t u : D} (hh : h = "plus" ∨ h = "times") (ht : GenK ts ds a t) (hu : GenK ts ds b u) : GenK ts ds (a + b) (.tup [.str h, t, u]) := by
  have ho : opB h [t, u].length = true := by
    show opB h 2 = true
    rcases hh with rfl | rfl <;> decide
  obtain ⟨l1, l2, l3, l6⟩ := op_ok (h := h) (r := [t, u]) ho
  obtain ⟨l4, l5⟩ := nodes_op (h := h) (r := [t, u]) ho
  have s1 := ht.size
  have s2 := hu.size
  have d1 := ht.dep
  have d2 := hu.dep
  have w1 := ht.wt
  have w2 := hu.wt
  have p1 := tSize_pos t
  have p2 := tSize_pos u
  have e1 := tDep_pos t
  have e2 := tDep_pos u
  refine ⟨by rw [l1]; simp [ht.ok, hu.ok], ok_tup (by rcases hh with rfl | rfl <;> decide) (by simp [ht.od, hu.od]), by rw [l2]; simp; omega, by rw [l3]; simp; omega, by simp [PY.wt]; omega, fun s hx => ?_, fun s hx => ?_, ?_⟩
  · rw [l4] at hx
    simp only [List.flatMap_cons, List.flatMap_nil, List.append_nil] at hx
    rcases List.mem_append.mp hx with q | q
    · exact ht.names s q
    · exact hu.names s q
  · rw [l5] at hx
    simp only [List.flatMap_cons, List.flatMap_nil, List.append_nil] at hx
    rcases List.mem_append.mp hx with q | q
    · exact ht.deeds s q
    · exact hu.deeds s q
  · intro T hT
    rw [l6] at hT
    rcases List.mem_cons.mp hT with e | e
    · rcases hh with rfl | rfl <;> simp at e
    · rw [tNodess_cons, tNodess_cons, tNodess_nil, List.append_nil] at e
      rcases List.mem_append.mp e with q | q
      · exact ht.tw T q
      · exact hu.tw T q
end K11

set_option Elab.async false
set_option linter.all false
set_option maxRecDepth 100000
set_option maxHeartbeats 4000000
namespace K11
open PySem PY
def sp_law_term (m : Nat) : PY.Spec
  | [.ref p, .lst tl, .lst dl, .int n], μ, Q, _ => ∃ (k : Nat) (ts ds : List String) (C : Int) (pen : Cell), n = (k : Int) ∧ 1 ≤ k ∧ k < m ∧ k ≤ 20 ∧ tl = ts.map .str ∧ ts.all nameS = true ∧ ts.length ≤ 100 ∧ dl = ds.map .str ∧ ds.all nameS = true ∧ ds.length ≤ 100 ∧ μ[p]? = some pen ∧ PenC C pen ∧ C + 80 * (k : Int) < Many ∧
      ∀ t pen', GenK ts ds k t → PenC (C + 80 * (k : Int) - 40) pen' → Q t (μ.set p pen')
  | _, _, _, _ => False
theorem w_law_term (S : Sg) (cp : Cp S) (m : Nat) (h19 : S.call 19 = sp_law_test 7) (d19 : S.dfl 19 = []) (h20 : S.call 20 = sp_law_term m) (d20 : S.dfl 20 = []) : Body S (sp_law_term (m + 1)) b__law_term N__law_term 4 := by
  intro ds0 μ Q E h hl hb hw
  match ds0, hl, h with
  | [.ref p, .lst tl, .lst dl, .int n], _, h =>
    obtain ⟨k, ts, ds, C, pen, rfl, hk1, hkm, hk20, rfl, hts, htl, rfl, hds, hdl, hp, hpen, hC, q⟩ := h
    have hC' : C + 80 * (k : Int) < 1000000000000 := hC
    have e : startD N__law_term [.ref p, .lst (ts.map .str), .lst (ds.map .str), .int (k : Int)] = [some (.ref p), some (.lst (ts.map .str)), some (.lst (ds.map .str)), some (.int (k : Int)), none] := rfl
    rw [e]
    have hpl : p < μ.length := (List.getElem?_eq_some_iff.mp hp).1
    have hset : μ.set p pen = μ := by
      apply List.ext_getElem?
      intro i
      by_cases hi : i = p
      · subst hi; rw [List.getElem?_set_self hpl]; exact hp.symm
      · rw [List.getElem?_set_ne (Ne.symm hi)]
    have ge : ∀ pen', (μ.set p pen')[p]? = some pen' := fun pen' => List.getElem?_set_self hpl
    have fin : ∀ t pen' C', GenK ts ds k t → PenC C' pen' → C' ≤ C + 80 * (k : Int) - 40 → EndD μ.length t (μ.set p pen') Q := fun t pen' C' g hp' hle =>
      EndD.pen hw (hp'.below _) (below_plain _ (ok_and g.od).1) (q t pen' g (hp'.mono hle))
    have heq : ∀ ν, eqD ν (.lst (ds.map .str)) (.lst []) = some ds.isEmpty := fun ν => by
      rw [eq_nil (plains_str ds), List.isEmpty_map]
    -- ("test", _law_test(pen, tests, 2))
    have aTest : ∀ (C' : Int) (pen' : Cell), PenC C' pen' → C' ≤ C + 2 → sp_law_test 7 [.ref p, .lst (ts.map .str), .int 2] (μ.set p pen') (fun d μ1 => EndD μ.length (.tup [.str "test", d]) μ1 Q) (fun x μ' => EndX μ.length x μ' E) := by
      intro C' pen' hp' hle
      refine ⟨2, ts, C', pen', rfl, by omega, by omega, rfl, hts, htl, ge pen', hp', by show C' + 8 * 2 ^ 2 < 1000000000000; omega, fun t pen2 ht hwt _ hp2 => ?_⟩
      rw [List.set_set]
      exact fin _ pen2 _ (gen_test2 hk1 ht (by omega)) hp2 (by omega)
    have leaf : ∀ (C' : Int) (pen' : Cell), PenC C' pen' → C' ≤ C → wpSs S (fun _ x μ' => EndX μ.length x μ' E) b__law_term_l134 [some (.ref p), some (.lst (ts.map .str)), some (.lst (ds.map .str)), some (.int (k : Int)), none] (μ.set p pen') { nx := fun ρ' μ' => wpSs S (fun _ x μ' => EndX μ.length x μ' E) b__law_term_l137 ρ' μ' { nx := fun _ μ' => EndD μ.length .non μ' Q, rt := fun d μ' => EndD μ.length d μ' Q }, rt := fun d μ' => EndD μ.length d μ' Q } := by
      intro C' pen' hp' hle
      unfold b__law_term_l134 b__law_term_l136
      simp only [ss_nil, ss_cons, wpS, wpT, wpTOr, wpE, wpEs, List.getElem?_cons_succ, List.getElem?_cons_zero, p_lstF, List.length_nil]
      rw [if_pos (by decide)]
      simp only [opt_some, p_cm, cm_eq, heq, Option.map_some, truth_bl, con_int, h19, d19, cp.c15, cp.d15, cp.c16, cp.d16, List.drop_nil, List.append_nil, p_tup, List.length_cons, List.length_nil, p_list1F, seq_lst]
      have z2 : (0 + 1 + 1 ≤ Sz) = True := eq_true (by decide)
      simp only [z2, if_true, opt_some]
      cases hde : ds.isEmpty with
      | true =>
        simp only [if_true]
        exact aTest C' pen' hp' (by omega)
      | false =>
        simp only [Bool.false_eq_true, if_false]
        refine ⟨C', pen', ge pen', hp', by show C' < 1000000000000; omega, by omega, by omega, fun r pen2 h1 h2 hp2 => ?_⟩
        rw [List.set_set]
        by_cases hr : r = 0
        · have e1 : (r == (0 : Int)) = true := by simp [hr]
          simp only [eqD_int, e1, Option.map_some, opt_some, truth_bl, if_true]
          exact aTest (C' + 1) pen2 hp2 (by omega)
        · have e1 : (r == (0 : Int)) = false := beq_eq_false_iff_ne.mpr hr
          simp only [eqD_int, e1, Option.map_some, opt_some, truth_bl, Bool.false_eq_true, if_false]
          refine ⟨C' + 1, pen2, ge pen2, hp2, by show C' + 1 < 1000000000000; omega, fun hh => ?_, by rw [List.length_map]; omega, fun x hx pen3 hp3 => ?_⟩
          · have : ds = [] := by simpa using hh
            rw [this] at hde; cases hde
          · rw [List.set_set]
            obtain ⟨s, hs, rfl⟩ := List.mem_map.mp hx
            exact fin _ pen3 _ (gen_deed2 hk1 (List.all_eq_true.mp hds s hs) hs) hp3 (by omega)
    have rec_ : ∀ (k' : Nat) (C' : Int) (pen' : Cell) (R : D → Store → Prop), 1 ≤ k' → k' < k → PenC C' pen' → C' + 80 * (k' : Int) < 1000000000000 → (∀ t pen2, GenK ts ds k' t → PenC (C' + 80 * (k' : Int) - 40) pen2 → R t (μ.set p pen2)) → sp_law_term m [.ref p, .lst (ts.map .str), .lst (ds.map .str), .int (k' : Int)] (μ.set p pen') R (fun x μ' => EndX μ.length x μ' E) := by
      intro k' C' pen' R h1 h2 hp' hle hR
      refine ⟨k', ts, ds, C', pen', rfl, h1, by omega, by omega, rfl, hts, htl, rfl, hds, hdl, ge pen', hp', hle, fun t pen2 g hp2 => ?_⟩
      rw [List.set_set]
      exact hR t pen2 g hp2
    unfold b__law_term
    simp only [ss_nil, ss_cons, wpS, wpT, wpE, wpEs, List.getElem?_cons_succ, List.getElem?_cons_zero, con_int, opt_some, p_cm, cm_lt, Option.map_some, truth_bl]
    by_cases hk : (k : Int) < 2
    · rw [decide_eq_true hk]
      simp only [if_true]
      have := leaf C pen hpen (by omega)
      rw [hset] at this
      exact this
    · rw [decide_eq_false hk]
      simp only [Bool.false_eq_true, if_false]
      obtain ⟨k', rfl⟩ : ∃ k', k = k' + 1 := ⟨k - 1, by omega⟩
      have ek : ((k' + 1 : Nat) : Int) - 1 = (k' : Int) := by omega
      unfold b__law_term_l137 b__law_term_l139 b__law_term_l140
      simp only [ss_nil, ss_cons, wpS, wpT, wpE, wpEs, List.getElem?_cons_succ, List.getElem?_cons_zero, con_int, opt_some, cp.c15, cp.d15, cp.c16, cp.d16, h20, d20, List.drop_nil, List.append_nil, p_bin, bi_sub, bi_add, Option.map_some, ek, bindT, List.set_cons_succ, List.set_cons_zero]
      refine ⟨C, pen, hp, hpen, by show C < 1000000000000; omega, by omega, by omega, fun r pen' h1 h2 hp' => ?_⟩
      by_cases hr : r = 0
      · have e1 : (r == (0 : Int)) = true := by simp [hr]
        simp only [p_cm, cm_eq, eqD_int, e1, Option.map_some, opt_some, truth_bl, if_true]
        refine rec_ k' (C + 1) pen' _ (by omega) (by omega) hp' (by omega) fun t pen2 g hp2 => ?_
        simp only [p_tup, List.length_cons, List.length_nil]
        rw [if_pos (by decide)]
        exact fin _ pen2 _ (gen_star g) hp2 (by omega)
      · have e1 : (r == (0 : Int)) = false := beq_eq_false_iff_ne.mpr hr
        simp only [p_cm, cm_eq, eqD_int, e1, Option.map_some, opt_some, truth_bl, Bool.false_eq_true, if_false]
        refine ⟨C + 1, pen', ge pen', hp', by show C + 1 < 1000000000000; omega, by omega, by omega, fun r2 pen2 g1 g2 hp2 => ?_⟩
        rw [List.set_set]
        obtain ⟨a, rfl⟩ : ∃ a : Nat, r2 = (a : Int) := ⟨r2.toNat, by omega⟩
        simp only [bi_add, Option.map_some, opt_some, p_lstF, List.length_cons, List.length_nil]
        rw [if_pos (by decide)]
        simp only [opt_some]
        refine ⟨C + 1 + 1, pen2, ge pen2, hp2, by show C + 1 + 1 < 1000000000000; omega, by simp, by simp, fun x hx pen3 hp3 => ?_⟩
        rw [List.set_set]
        have ea : (1 : Int) + (a : Int) = ((a + 1 : Nat) : Int) := by omega
        rw [ea]
        refine rec_ (a + 1) (C + 1 + 1 + 1) pen3 _ (by omega) (by omega) hp3 (by omega) fun t pen4 gt hp4 => ?_
        have eb : ((k' + 1 : Nat) : Int) - ((a + 1 : Nat) : Int) = ((k' - a : Nat) : Int) := by omega
        try simp only [p_bin, bi_sub, Option.map_some, opt_some]
        rw [eb]
        refine rec_ (k' - a) _ pen4 _ (by omega) (by omega) hp4 (by omega) fun u pen5 gu hp5 => ?_
        simp only [p_tup, List.length_cons, List.length_nil]
        rw [if_pos (by decide)]
        have hh : ∃ h, x = .str h ∧ (h = "plus" ∨ h = "times") := by
          simp only [List.mem_cons, List.not_mem_nil, or_false] at hx
          rcases hx with e | e | e
          · exact ⟨_, e, .inl rfl⟩
          · exact ⟨_, e, .inr rfl⟩
          · exact ⟨_, e, .inr rfl⟩
        obtain ⟨h, rfl, hh⟩ := hh
        have g := gen_two hh gt gu
        have ec : a + 1 + (k' - a) = k' + 1 := by omega
        rw [ec] at g
        exact fin _ pen5 _ g hp5 (by omega)
theorem tn_len : ∀ (n : Nat) {t : D}, wt t ≤ n → isTest t = true → (tn t).length ≤ wt t
  | 0, t, hn, _ => by have := wt_pos t; omega
  | n + 1, t, hn, ht => by
    rcases test_form ht with ⟨s', rfl, _⟩ | ⟨h, r, rfl, hh, hp⟩
    · rw [tn_name]; simp [wt]
    · have hw := testParts_wt hp
      rw [tn_op hh]
      rw [isTest_eq, hp] at ht
      have ht2 : r.all isTest = true := ht
      rw [List.all_eq_true] at ht2
      have key : ∀ l : List D, (∀ y ∈ l, y ∈ r) → (tns l).length ≤ wts l := by
        intro l
        induction l with
        | nil => intro _; exact Nat.le_refl _
        | cons y l ih =>
          intro hl
          rw [tns_cons, List.length_append, wts_cons]
          have hy := hl y (by simp)
          have h1 := tn_len n (by have := wt_mem hy; omega) (ht2 y hy)
          have h2 := ih fun z hz => hl z (List.mem_cons_of_mem _ hz)
          omega
      have := key r fun _ h => h
      omega
def sp_law_names_in (m : Nat) : PY.Spec
  | [t], μ, Q, _ => isTest t = true ∧ okD t = true ∧ wt t < m ∧ wt t ≤ 10000 ∧ Q (.lst ((tn t).map .str)) μ
  | _, _, _, _ => False
theorem w_law_names_in (S : Sg) (m : Nat) (h24 : S.call 24 = sp_law_names_in m) (d24 : S.dfl 24 = []) : Body S (sp_law_names_in (m + 1)) b__law_names_in N__law_names_in 1 := by
  intro ds μ Q E h hl hb hw
  match ds, hl, h with
  | [t], _, h =>
    obtain ⟨ht, ho, hm, hz, q⟩ := h
    have e : startD N__law_names_in [t] = [some t, none, none] := rfl
    rw [e]
    unfold b__law_names_in b__law_names_in_1
    rcases test_form ht with ⟨s, rfl, hs⟩ | ⟨h, r, rfl, hh, hp⟩
    · simp only [ss_nil, ss_cons, wpS, wpT, wpE, wpEs, List.getElem?_cons_zero, con_int, opt_some, p_ix, ix_tup, at_0, at_1, Option.map_some, p_cm, cm_eq, eqD_str, truth_bl, beq_self_eq_true, if_true, p_lstF, List.length_cons, List.length_nil]
      rw [if_pos (by decide)]
      simp only [opt_some]
      exact EndD.same hw rfl q
    · have hw' := testParts_wt hp
      rw [isTest_eq, hp] at ht
      have ht2 : r.all isTest = true := ht
      rw [List.all_eq_true] at ht2
      have z0 : (0 ≤ Sz) = True := eq_true (by decide)
      simp only [ss_nil, ss_cons, wpS, wpT, wpE, wpEs, wpI, List.getElem?_cons_zero, con_int, opt_some, p_ix, ix_tup, at_0, Option.map_some, p_cm, cm_eq, eqD_str, hh, truth_bl, Bool.false_eq_true, if_false, p_lstF, List.length_nil, z0, if_true, bindT, List.set_cons_succ, List.set_cons_zero, p_sl1, sl1, valPlan]
      refine for_ind (fun ds ρ μ' => ∃ (acc : List String) (x : Option D), ρ = [some (.tup (.str h :: r)), some (.lst (acc.map .str)), x] ∧ μ' = μ ∧ (∀ y ∈ ds, isTest y = true ∧ okD y = true ∧ wt y < m) ∧ acc ++ tns ds = tns r ∧ acc.length + wts ds ≤ wts r) ?_ ?_ _ _ _ ⟨[], none, rfl, rfl, fun y hy => ⟨ht2 y hy, testParts_ok hp ho y hy, by have := wt_mem hy; omega⟩, rfl, by simp⟩
      · rintro d ds ρ μ' N ih ⟨acc, x, rfl, rfl, hok, hacc, hlen⟩
        refine ⟨trivial, ?_⟩
        obtain ⟨h1, h2, h3⟩ := hok d (by simp)
        have hl1 := tn_len (wt d) (Nat.le_refl _) h1
        rw [wts_cons] at hlen
        simp only [bindT, opt_some, List.set_cons_succ, List.set_cons_zero, wpE, wpEs, List.getElem?_cons_succ, List.getElem?_cons_zero, h24, d24, List.drop_nil, List.append_nil, sp_law_names_in]
        refine ⟨h1, h2, h3, by omega, ?_⟩
        have hadd : ∀ ν, binD ν .add (.lst (acc.map .str)) (.lst ((tn d).map .str)) = some (.lst (acc.map .str ++ (tn d).map .str)) := fun ν => if_pos (by rw [List.length_map, List.length_map]; show acc.length + (tn d).length ≤ 16777216; omega)
        simp only [p_bin, hadd, Option.map_some, opt_some, bindT, List.set_cons_succ, List.set_cons_zero]
        rw [← List.map_append]
        refine ih _ _ ⟨acc ++ tn d, _, rfl, rfl, fun y hy => hok y (by simp [hy]), ?_, by rw [List.length_append]; omega⟩
        rw [← hacc, tns_cons, List.append_assoc]
      · rintro ρ μ' ⟨acc, x, rfl, rfl, hok, hacc, hlen⟩
        refine ⟨trivial, ?_⟩
        simp only [List.getElem?_cons_succ, List.getElem?_cons_zero]
        rw [tns_nil, List.append_nil] at hacc
        rw [tn_op hh, ← hacc] at q
        exact EndD.same hw (below_plain (.lst (acc.map .str)) (plains_str _)) q
theorem add_lst {μ : Store} {xs ys : List D} (h : xs.length + ys.length ≤ 16777216) : binD μ .add (.lst xs) (.lst ys) = some (.lst (xs ++ ys)) := if_pos h
theorem deps_mem {y : D} : ∀ {r : List D}, y ∈ r → tDep y ≤ tDeps r
  | z :: r, h => by
    rw [tDeps_cons]
    rcases List.mem_cons.mp h with e | e
    · subst e; omega
    · have := deps_mem e; omega
def sp_law_nodes (m : Nat) : PY.Spec
  | [t], μ, Q, _ => tOk t = true ∧ okD t = true ∧ tDep t < m ∧ tSize t ≤ 10000 ∧ Q (.lst (tNodes t)) μ
  | _, _, _, _ => False
theorem w_law_nodes (S : Sg) (m : Nat) (h23 : S.call 23 = sp_law_nodes m) (d23 : S.dfl 23 = []) : Body S (sp_law_nodes (m + 1)) b__law_nodes N__law_nodes 1 := by
  intro ds μ Q E h hl hb hw
  match ds, hl, h with
  | [t], _, h =>
    obtain ⟨ht, ho, hm, hz, q⟩ := h
    have e : startD N__law_nodes [t] = [some t, none, none] := rfl
    rw [e]
    have hno : ∀ x ∈ tNodes t, plain x = true := fun x hx => (ok_and (nodes_ok (wt t) (Nat.le_refl _) ht ho x hx).2.1).1
    have hbl : below μ.length (.lst (tNodes t)) = true := below_plain (.lst (tNodes t)) (plains_iff.mpr hno)
    obtain ⟨hd, r, rfl, hf⟩ := term_form ht
    have hin : ∀ μ, inD μ (.str hd) (.tup [.str "plus", .str "times", .str "star"]) = some (["plus", "times", "star"].contains hd) := fun μ => inD_strs μ ["plus", "times", "star"] hd
    have z0 : (0 ≤ Sz) = True := eq_true (by decide)
    have z3 : (0 + 1 + 1 + 1 ≤ Sz) = True := eq_true (by decide)
    have z1 : (0 + 1 ≤ Sz) = True := eq_true (by decide)
    unfold b__law_nodes b__law_nodes_1
    simp only [ss_nil, ss_cons, wpS, wpT, wpE, wpEs, wpI, List.getElem?_cons_succ, List.getElem?_cons_zero, con_int, opt_some, p_ix, ix_tup, at_0, Option.map_some, p_lstF, List.length_nil, List.length_cons, z0, z1, z3, if_true, bindT, List.set_cons_succ, List.set_cons_zero, p_tup, p_cm, cm_in, hin, truth_bl, p_sl1, sl1, valPlan]
    rcases hf with h1 | ⟨h1, x, rfl, h2⟩
    · rw [(op_heads h1).1]
      simp only [if_true]
      obtain ⟨k1, k2, k3, k4⟩ := op_ok h1
      rw [k1, tOks_all, List.all_eq_true] at ht
      have hro := (okD_cons ho).2
      have hdm : ∀ y ∈ r, tDep y ≤ tDeps r := fun y hy => deps_mem hy
      refine for_ind (fun ds ρ μ' => ∃ (acc : List D) (x : Option D), ρ = [some (.tup (.str hd :: r)), some (.lst acc), x] ∧ μ' = μ ∧ (∀ y ∈ ds, tOk y = true ∧ okD y = true ∧ tDep y < m) ∧ acc ++ tNodess ds = tNodess r ∧ acc.length + tSizes ds ≤ tSizes r) ?_ ?_ _ _ _ ⟨[], none, rfl, rfl, fun y hy => ⟨ht y hy, hro y hy, by have := hdm y hy; omega⟩, rfl, by simp⟩
      · rintro d ds ρ μ' N ih ⟨acc, x, rfl, rfl, hok, hacc, hlen⟩
        refine ⟨trivial, ?_⟩
        obtain ⟨h1', h2, h3⟩ := hok d (by simp)
        rw [tSizes_cons] at hlen
        have hnl := tNodes_len d
        simp only [bindT, opt_some, List.set_cons_succ, List.set_cons_zero, wpE, wpEs, List.getElem?_cons_succ, List.getElem?_cons_zero, h23, d23, List.drop_nil, List.append_nil, sp_law_nodes]
        refine ⟨h1', h2, h3, by omega, ?_⟩
        have hadd : ∀ ν, binD ν .add (.lst acc) (.lst (tNodes d)) = some (.lst (acc ++ tNodes d)) := fun ν => if_pos (by show acc.length + (tNodes d).length ≤ 16777216; omega)
        simp only [p_bin, hadd, Option.map_some, opt_some, bindT, List.set_cons_succ, List.set_cons_zero]
        refine ih _ _ ⟨acc ++ tNodes d, _, rfl, rfl, fun y hy => hok y (by simp [hy]), ?_, by rw [List.length_append]; omega⟩
        rw [← hacc, tNodess_cons, List.append_assoc]
      · rintro ρ μ' ⟨acc, x, rfl, rfl, hok, hacc, hlen⟩
        refine ⟨trivial, ?_⟩
        rw [tNodess_nil, List.append_nil] at hacc
        rw [tSizes_nil, Nat.add_zero] at hlen
        rw [k4, ← hacc] at q hbl
        have hadd : ∀ ν, binD ν .add (.lst [.tup (.str hd :: r)]) (.lst acc) = some (.lst (.tup (.str hd :: r) :: acc)) := fun ν => if_pos (by show [D.tup (.str hd :: r)].length + acc.length ≤ 16777216; simp; omega)
        simp only [List.getElem?_cons_succ, List.getElem?_cons_zero, p_bin, hadd, Option.map_some, opt_some]
        exact EndD.same hw hbl q
    · have : ["plus", "times", "star"].contains hd = false := by
        rcases h2 with ⟨rfl, _⟩ | ⟨rfl, _⟩ <;> decide
      rw [this]
      have hadd : ∀ ν, binD ν .add (.lst [.tup [.str hd, x]]) (.lst []) = some (.lst [.tup [.str hd, x]]) := fun ν => add_lst (by simp)
      simp only [Bool.false_eq_true, if_false, List.getElem?_cons_succ, List.getElem?_cons_zero, p_bin, hadd, Option.map_some, opt_some]
      have k4 := (leaf_ok h1).2.2.2
      rw [k4] at q hbl
      exact EndD.same hw hbl q
end K11

set_option Elab.async false
set_option linter.all false
set_option maxRecDepth 100000
set_option maxHeartbeats 4000000
namespace K11
open PySem PY
/-! ### layers -/
def pairUp : List D → List D
  | x :: y :: r => .tup [.str "plus", x, y] :: pairUp r
  | r => r
def half : List D → List D
  | x :: y :: r => .tup [.str "plus", x, y] :: half r
  | _ => []
theorem half_eq : ∀ L : List D, half L = (List.range (L.length / 2)).map fun k => .tup [.str "plus", L.getD (k * 2) .non, L.getD (k * 2 + 1) .non]
  | [] => rfl
  | [_] => by simp [half]
  | x :: y :: r => by
    have e : (x :: y :: r).length / 2 = r.length / 2 + 1 := by simp only [List.length_cons]; omega
    rw [e, List.range_succ_eq_map, List.map_cons, List.map_map]
    show .tup [.str "plus", x, y] :: half r = _
    rw [half_eq r]
    congr 1
    refine List.map_congr_left fun k _ => ?_
    show D.tup [.str "plus", r.getD (k * 2) .non, r.getD (k * 2 + 1) .non] = D.tup [.str "plus", (x :: y :: r).getD ((k + 1) * 2) .non, (x :: y :: r).getD ((k + 1) * 2 + 1) .non]
    have e1 : (k + 1) * 2 = k * 2 + 2 := by omega
    rw [e1]
    rfl
theorem pair_half : ∀ L : List D, pairUp L = half L ++ L.drop (L.length - L.length % 2)
  | [] => rfl
  | [_] => rfl
  | x :: y :: r => by
    have e : (x :: y :: r).length - (x :: y :: r).length % 2 = (r.length - r.length % 2) + 2 := by simp only [List.length_cons]; omega
    rw [e]
    show D.tup [.str "plus", x, y] :: pairUp r = D.tup [.str "plus", x, y] :: (half r ++ r.drop (r.length - r.length % 2))
    rw [pair_half r]
structure Lay (n d : Nat) (L : List D) : Prop where
  ok : ∀ x ∈ L, tOk x = true ∧ okD x = true ∧ tDep x ≤ d
  len : L.length = n
  size : tSizes L + L.length = 4000
  wt : wts L + 2 * L.length = 10000
theorem op2 (x y : D) : tOk (.tup [.str "plus", x, y]) = tOks [x, y] ∧ tSize (.tup [.str "plus", x, y]) = 1 + tSizes [x, y] ∧ tDep (.tup [.str "plus", x, y]) = 1 + tDeps [x, y] := by
  obtain ⟨h1, h2, h3, _⟩ := op_ok (h := "plus") (r := [x, y]) (by show opB "plus" 2 = true; decide)
  exact ⟨h1, h2, h3⟩
theorem op1 (x : D) : tOk (.tup [.str "star", x]) = tOk x ∧ tSize (.tup [.str "star", x]) = 1 + tSize x ∧ tDep (.tup [.str "star", x]) = 1 + tDep x := by
  obtain ⟨h1, h2, h3, _⟩ := op_ok (h := "star") (r := [x]) (by show opB "star" 1 = true; decide)
  refine ⟨by rw [h1]; simp, by rw [h2]; simp, by rw [h3]; simp⟩
theorem pair_facts : ∀ (L : List D) (d : Nat), (∀ x ∈ L, tOk x = true ∧ okD x = true ∧ tDep x ≤ d) → (∀ x ∈ pairUp L, tOk x = true ∧ okD x = true ∧ tDep x ≤ d + 1) ∧ (pairUp L).length = (L.length + 1) / 2 ∧ tSizes (pairUp L) + (pairUp L).length = tSizes L + L.length ∧ wts (pairUp L) + 2 * (pairUp L).length = wts L + 2 * L.length
  | [], d, _ => ⟨fun x hx => (by cases hx), rfl, rfl, rfl⟩
  | [x], d, h => ⟨fun y hy => by
      obtain ⟨h1, h2, h3⟩ := h y hy
      exact ⟨h1, h2, by omega⟩, by simp [pairUp], rfl, rfl⟩
  | x :: y :: r, d, h => by
    obtain ⟨i1, i2, i3, i4⟩ := pair_facts r d fun z hz => h z (by simp [hz])
    obtain ⟨a1, a2, a3⟩ := h x (by simp)
    obtain ⟨b1, b2, b3⟩ := h y (by simp)
    obtain ⟨o1, o2, o3⟩ := op2 x y
    refine ⟨fun z hz => ?_, ?_, ?_, ?_⟩
    · have hz' : z ∈ D.tup [.str "plus", x, y] :: pairUp r := hz
      rcases List.mem_cons.mp hz' with e | e
      · subst e
        exact ⟨by rw [o1]; simp [a1, b1], ok_tup (by decide) (by simp [a2, b2]), by rw [o3]; simp; omega⟩
      · exact i1 z e
    · show (pairUp r).length + 1 = (r.length + 1 + 1 + 1) / 2
      omega
    · show tSize (.tup [.str "plus", x, y]) + tSizes (pairUp r) + ((pairUp r).length + 1) = tSize x + (tSize y + tSizes r) + (r.length + 1 + 1)
      rw [o2]
      simp
      omega
    · show PY.wt (.tup [.str "plus", x, y]) + wts (pairUp r) + 2 * ((pairUp r).length + 1) = PY.wt x + (PY.wt y + wts r) + 2 * (r.length + 1 + 1)
      simp [PY.wt]
      omega
theorem Lay.next {n d : Nat} {L : List D} (h : Lay n d L) : Lay ((n + 1) / 2) (d + 1) (pairUp L) := by
  obtain ⟨h1, h2, h3, h4⟩ := pair_facts L d h.ok
  exact ⟨h1, by rw [h2, h.len], by rw [h3, h.size], by rw [h4, h.wt]⟩
def lens : Nat → Nat
  | 0 => 2000
  | j + 1 => (lens j + 1) / 2
theorem lens_pos : ∀ j : Nat, 1 ≤ lens j ∧ lens j ≤ 2000
  | 0 => by decide
  | j + 1 => by
    have := lens_pos j
    show 1 ≤ (lens j + 1) / 2 ∧ (lens j + 1) / 2 ≤ 2000
    omega
def deedA : D := .tup [.str "deed", .str "a"]
theorem lay0 : Lay (lens 0) 1 (List.replicate 2000 deedA) := by
  have h1 : tOk deedA = true ∧ okD deedA = true ∧ tDep deedA ≤ 1 := by decide +kernel
  have h2 : ∀ n : Nat, tSizes (List.replicate n deedA) = n ∧ wts (List.replicate n deedA) = 3 * n := by
    intro n
    induction n with
    | zero => exact ⟨rfl, rfl⟩
    | succ n ih =>
      rw [List.replicate_succ]
      refine ⟨?_, ?_⟩
      · rw [tSizes_cons, ih.1]
        show 1 + n = n + 1
        omega
      · rw [wts_cons, ih.2]
        show 3 + 3 * n = 3 * (n + 1)
        omega
  refine ⟨fun x hx => ?_, List.length_replicate, ?_, ?_⟩
  · rw [(List.mem_replicate.mp hx).2]; exact h1
  · rw [(h2 2000).1, List.length_replicate]
  · rw [(h2 2000).2, List.length_replicate]
theorem rng2 {n : Nat} (h : n ≤ 2000) : rngPlan [.int 0, .int ((n : Int) - 1), .int 2] = some ⟨(List.range (n / 2)).map fun (k : Nat) => D.int (0 + (k : Int) * 2), fun _ => True⟩ := by
  have e : Builtin.Range.rangeSize 0 ((n : Int) - 1) 2 = ((n / 2 : Nat) : Int) := by
    unfold Builtin.Range.rangeSize
    rw [if_pos (by decide)]
    split
    · omega
    · omega
  have hs : Builtin.Range.small 0 ((n : Int) - 1) 2 = true := by
    unfold Builtin.Range.small
    have fits : ∀ i : Int, -5000 ≤ i → i ≤ 5000 → Builtin.Range.rangeFitsLong i = true := fun i h1 h2 => by
      unfold Builtin.Range.rangeFitsLong
      simp
      omega
    have f1 := fits ((n : Int) - 1) (by omega) (by omega)
    have f2 := fits (n : Int) (by omega) (by omega)
    have f3 := fits ((n / 2 : Nat) : Int) (by omega) (by omega)
    have f4 := fits 0 (by omega) (by omega)
    have f5 := fits 2 (by omega) (by omega)
    rw [e]
    simp [f1, f2, f4, f5]
    exact f3
  show (if (2 : Int) ≠ 0 ∧ (2 : Int).natAbs < 1073741824 ∧ Builtin.Range.small 0 ((n : Int) - 1) 2 = true ∧ Builtin.Range.rangeSize 0 ((n : Int) - 1) 2 = ((Builtin.Range.rangeSize 0 ((n : Int) - 1) 2).toNat : Int) then some (⟨rngItemsC 0 2 (Builtin.Range.rangeSize 0 ((n : Int) - 1) 2).toNat, fun _ => True⟩ : Plan) else none) = _
  rw [e, Int.toNat_natCast, if_pos ⟨by decide, by decide, hs, rfl⟩]
  rfl
/-- what the law calls -/
structure Cl (S : Sg) : Prop where
  cc : Cc S
  cp : Cp S
  c7 : S.call 7 = sp_is_term
  c10 : S.call 10 = sp_term_size
  c13 : S.call 13 = sp_tests_in
  c14 : S.call 14 = sp_deeds_in
  c18 : S.call 18 = sp_law_is_truth
  c20 : S.call 20 = sp_law_term 11
  c21 : S.call 21 = sp_law_names
  c23 : S.call 23 = sp_law_nodes 20
  c24 : S.call 24 = sp_law_names_in 40
  d7 : S.dfl 7 = []
  d10 : S.dfl 10 = []
  d13 : S.dfl 13 = []
  d14 : S.dfl 14 = []
  d18 : S.dfl 18 = []
  d20 : S.dfl 20 = []
  d21 : S.dfl 21 = []
  d23 : S.dfl 23 = []
  d24 : S.dfl 24 = []
  zero : S.con 4 = zeroD
  one : S.con 5 = oneD
  h0 : (S.hnd 22).1 = "ok"
  h1 : ∀ d, (S.hnd 22).2 ⟨1, [d]⟩ = (reprD d).map fun t => .tup [.str "term", .str t]
abbrev E0 : Sl → XD → Store → Prop := fun _ _ _ => False
abbrev PD0 : PEnds := { nx := fun _ _ => False, rt := fun d _ => d = .bl true }
section
variable {S : Sg} (cl : Cl S) {x0 x2 x3 x4 x5 x6 x7 x8 x9 x10 x11 x12 x13 x14 : Option D} {pen : Cell} {c2 : Cell} {C : Int} {PD : PEnds}
include cl
theorem l197 {T : D} (ho : okD T = true) (hok : tOk T = true) (hs : tSize T = 3999) (hd : tDep T ≤ 100) (hw : wt T ≤ 100000) : wpSs S E0 b_law_l197 [x0, some (.ref 1), x2, x3, x4, x5, some (.lst [T]), some (.tup [.str "star", T]), x8, x9, x10, x11, x12, x13, x14] [.tbl 0, pen, c2] PD0 := by
  obtain ⟨a1, a2, a3⟩ := op1 T
  obtain ⟨b1, b2, b3⟩ := op1 (.tup [.str "star", T])
  have o1 : okD (.tup [.str "star", T]) = true := ok_tup (by decide) (by simpa using ho)
  have o2 : okD (.tup [.str "star", .tup [.str "star", T]]) = true := ok_tup (by decide) (by simpa using o1)
  have w1 : wt (.tup [.str "star", T]) ≤ 1000000 := by simp [wt]; omega
  have w2 : wt (.tup [.str "star", .tup [.str "star", T]]) ≤ 1000000 := by simp [wt]; omega
  have t1 : isTerm (.tup [.str "star", T]) = true := by
    unfold isTerm
    rw [a1, a2, a3, hok, hs, decide_eq_true (by omega), decide_eq_true (by omega)]; rfl
  have t2 : isTerm (.tup [.str "star", .tup [.str "star", T]]) = false := by
    unfold isTerm
    rw [b2, a2, hs, decide_eq_false (by omega)]
    simp
  have e4 : ((tSize (.tup [.str "star", T]) : Nat) : Int) = 4000 := by rw [a2, hs]; rfl
  have ob : ∀ b, okD (.bl b) = true := fun _ => rfl
  unfold b_law_l197
  simp only [ss_nil, ss_cons, wpS, wpE, wpEs, wpAnd, List.getElem?_cons_succ, List.getElem?_cons_zero, p_len, len_lst, List.length_cons, List.length_nil, Option.map_some, opt_some, con_int, con_bool, p_cm, cm_eq, eqD_int, truth_bl, cl.c7, cl.d7, cl.c10, cl.d10, cl.c18, cl.d18, List.drop_nil, List.append_nil, sp_is_term, sp_term_size, sp_law_is_truth, p_tup]
  have z2 : (0 + 1 + 1 ≤ Sz) = True := eq_true (by decide)
  have z5 : wt (D.str "star") = 1 := rfl
  simp [o1, o2, w1, w2, t1, t2, e4, ob, Sz]
  simp [wt] at w1 w2 ⊢
  omega
theorem l196 {T : D} (ho : okD T = true) (hok : tOk T = true) (hs : tSize T = 3999) (hd : tDep T ≤ 100) (hw : wt T ≤ 100000) : wpSs S E0 b_law_l196 [x0, some (.ref 1), x2, x3, x4, x5, some (.lst [T]), x7, x8, x9, x10, x11, x12, x13, x14] [.tbl 0, pen, c2] PD0 := by
  unfold b_law_l196
  simp only [ss_cons, wpS, wpE, wpEs, List.getElem?_cons_succ, List.getElem?_cons_zero, con_int, opt_some, p_ix, ix_lst, at_0, Option.map_some, p_tup, List.length_cons, List.length_nil]
  rw [if_pos (by decide)]
  simp only [opt_some, bindT, List.set_cons_succ, List.set_cons_zero]
  exact l197 cl ho hok hs hd hw
theorem l194 : wpSs S E0 b_law_l194 [x0, some (.ref 1), x2, x3, x4, x5, some (.lst (List.replicate 2000 deedA)), x7, x8, x9, x10, x11, x12, x13, x14] [.tbl 0, pen, c2] PD0 := by
  have hr := rng1 (m := 11) (by omega)
  have e6 : rngPlan [.int 11] = some ⟨rngItems 0 11, fun _ => True⟩ := hr
  unfold b_law_l194
  simp only [ss_nil, ss_cons, wpS, wpE, wpEs, wpI, con_int, opt_some, e6]
  refine for_rng 11 (fun j ρ μ => ∃ (L : List D) (x2 x14 : Option D), ρ = [x0, some (.ref 1), x2, x3, x4, x5, some (.lst L), x7, x8, x9, x10, x11, x12, x13, x14] ∧ μ = [.tbl 0, pen, c2] ∧ Lay (lens j) (1 + j) L) ?_ ?_ _ _ ⟨_, x2, x14, rfl, rfl, lay0⟩
  · rintro j ρ μ N hj ih ⟨L, x2, x14, rfl, rfl, hL⟩
    refine ⟨trivial, ?_⟩
    have hl := hL.len
    obtain ⟨p1, p2⟩ := lens_pos j
    have hn : L.length ≤ 2000 := by omega
    have hlp : plains L = true := plains_iff.mpr fun x hx => (ok_and (hL.ok x hx).2.1).1
    simp only [bindT, opt_some, List.set_cons_succ, List.set_cons_zero, List.getElem?_cons_succ, List.getElem?_cons_zero, p_len, len_lst, Option.map_some, p_bin, bi_sub, rng2 hn]
    refine comp_mapF (fun (k : Nat) => D.int (0 + (k : Int) * 2)) (fun k => .tup [.str "plus", L.getD (k * 2) .non, L.getD (k * 2 + 1) .non]) trivial (fun k hk R r => ?_) (by simp only [List.length_nil, Nat.zero_add, List.length_range]; exact le_sz (by omega)) ?_
    · have hk := List.mem_range.mp hk
      have i1 : ∀ μ, ixD μ (.lst L) (.int (0 + (k : Int) * 2)) = some (L.getD (k * 2) .non) := fun μ => by
        have e : (0 : Int) + (k : Int) * 2 = ((k * 2 : Nat) : Int) := by omega
        rw [e, ix_lst]
        unfold atD
        rw [if_pos (by omega), Int.toNat_natCast, List.getD_eq_getElem?_getD, List.getElem?_eq_getElem (by omega)]; rfl
      have i2 : ∀ μ, ixD μ (.lst L) (.int (0 + (k : Int) * 2 + 1)) = some (L.getD (k * 2 + 1) .non) := fun μ => by
        have e : (0 : Int) + (k : Int) * 2 + 1 = ((k * 2 + 1 : Nat) : Int) := by omega
        rw [e, ix_lst]
        unfold atD
        rw [if_pos (by omega), Int.toNat_natCast, List.getD_eq_getElem?_getD, List.getElem?_eq_getElem (by omega)]; rfl
      simp only [wipeD, List.set_cons_succ, List.set_cons_zero, bindT, opt_some, wpC, if_true, wpE, wpEs, List.getElem?_cons_succ, List.getElem?_cons_zero, con_int, p_ix, i1, i2, Option.map_some, p_bin, bi_add, p_tup, List.length_cons, List.length_nil]
      rw [if_pos (by decide)]
      exact r
    · have hmod : ∀ μ, binD μ .mod (.int (L.length : Int)) (.int 2) = some (.int ((L.length % 2 : Nat) : Int)) := fun μ => by
        rw [bi_mod _ _ _ (by decide)]
        have : ((L.length : Int)).fmod 2 = ((L.length % 2 : Nat) : Int) := by
          rw [Int.fmod_eq_emod_of_nonneg _ (by decide)]; rfl
        rw [this]
      have hsl : ∀ μ, slD μ (some ((L.length : Int) - ((L.length % 2 : Nat) : Int))) none (.lst L) = some (.lst (L.drop (L.length - L.length % 2))) := fun μ => by
        have e : (L.length : Int) - ((L.length % 2 : Nat) : Int) = ((L.length - L.length % 2 : Nat) : Int) := by omega
        show some (D.lst (cut L (some _) none)) = _
        rw [e, cut_drop L _ (by omega)]
      have hh := half_eq L
      have hp := pair_half L
      have hadd : ∀ μ, binD μ .add (.lst (half L)) (.lst (L.drop (L.length - L.length % 2))) = some (.lst (pairUp L)) := fun μ => by
        rw [add_lst (by
          have h1 := congrArg List.length hp
          have h2 := (pair_facts L _ hL.ok).2.1
          rw [List.length_append] at h1
          omega), hp]
      simp only [List.nil_append, newL, Bool.false_eq_true, if_false, List.getElem?_cons_succ, List.getElem?_cons_zero, hmod, Option.map_some, opt_some, bi_sub, p_bin, p_sl1, hsl]
      rw [← hh, hadd]
      simp only [Option.map_some, opt_some, bindT, List.set_cons_succ, List.set_cons_zero]
      refine ih _ _ ⟨pairUp L, _, _, rfl, rfl, ?_⟩
      have e8 : 1 + (j + 1) = 1 + j + 1 := by omega
      rw [e8]
      exact hL.next
  · rintro ρ μ ⟨L, x2, x14, rfl, rfl, hL⟩
    refine ⟨trivial, ?_⟩
    have h1 : L.length = 1 := hL.len.trans (by decide)
    obtain ⟨T, rfl⟩ : ∃ T, L = [T] := by
      match L, h1 with
      | [T], _ => exact ⟨T, rfl⟩
    obtain ⟨k1, k2, k3⟩ := hL.ok T (by simp)
    have k4 := hL.size
    have k5 := hL.wt
    simp at k4 k5
    exact l196 cl k2 k1 (by omega) (by omega) (by omega)
theorem l193 : wpSs S E0 b_law_l193 [x0, some (.ref 1), x2, x3, x4, x5, x6, x7, x8, x9, x10, x11, x12, x13, x14] [.tbl 0, pen, c2] PD0 := by
  have hm : ∀ μ, binD μ .mul (.lst [deedA]) (.int 2000) = some (.lst (List.replicate 2000 deedA)) := fun μ => by
    have e : (List.replicate (2000 : Int).toNat [deedA]).flatten = List.replicate 2000 deedA := by
      have : ∀ n : Nat, (List.replicate n [deedA]).flatten = List.replicate n deedA := by
        intro n
        induction n with
        | zero => rfl
        | succ n ih => rw [List.replicate_succ, List.flatten_cons, ih, List.replicate_succ]; rfl
      exact this 2000
    show (if (2000 : Int).natAbs < 9223372036854775808 ∧ [deedA].length * (2000 : Int).toNat ≤ Sz then some (D.lst (List.replicate (2000 : Int).toNat [deedA]).flatten) else none) = _
    rw [e, if_pos ⟨by decide, by show 1 * 2000 ≤ 16777216; decide⟩]
  have z2 : (0 + 1 + 1 ≤ Sz) = True := eq_true (by decide)
  have z1 : (0 + 1 ≤ Sz) = True := eq_true (by decide)
  unfold b_law_l193
  simp only [ss_cons, wpS, wpE, wpEs, con_int, opt_some, p_tup, p_lstF, List.length_cons, List.length_nil, z2, z1, if_true, p_bin]
  have := hm [.tbl 0, pen, c2]
  unfold deedA at this
  rw [this]
  simp only [Option.map_some, opt_some, bindT, List.set_cons_succ, List.set_cons_zero]
  exact l194 cl
end
end K11

set_option Elab.async false
set_option linter.all false
set_option maxRecDepth 100000
set_option maxHeartbeats 4000000
namespace K11
open PySem PY
def badL : List D := [.non, .int 3, .str "a", .tup [], .tup [.str "deed"], .tup [.str "deed", .str "A"], .tup [.str "deed", .int 1], .tup [.str "test"], .tup [.str "test", .str "p"], .tup [.str "test", .tup [.str "name", .str ""]], .tup [.str "plus", deedA], .lst [.str "deed", .str "a"], .tup [.str "star", deedA, deedA], .tup [.str "times", deedA, .non], .tup [.str "minus", oneD, oneD], .tup [.str "test", .tup [.str "and", .tup [.str "true"]]], .tup [.int 1, .int 2], .tup [.str "deed", .str "toolongname"], .tup [.str "star", .lst [.str "deed", .str "a"]]]
structure Bad (v : D) : Prop where
  ok : okD v = true
  wt : wt v ≤ 1000000
  no : isTerm v = false
  rp : (reprD v).isSome = true
theorem bad_ok : ∀ v ∈ badL, Bad v := by
  have h : ∀ v ∈ badL, (okD v && decide (wt v ≤ 1000000) && !isTerm v && (reprD v).isSome) = true := by decide +kernel
  intro v hv
  have := h v hv
  simp only [Bool.and_eq_true, decide_eq_true_eq, Bool.not_eq_true'] at this
  exact ⟨this.1.1.1, this.1.1.2, this.1.2, this.2⟩
section
variable {S : Sg} (cl : Cl S) {x0 x2 x3 x4 x5 x6 x7 x8 x9 x10 x11 x12 x13 x14 : Option D} {pen : Cell} {c2 : Cell} {C : Int} {PD : PEnds}
include cl
theorem l191 {T : D} (ho : okD T = true) (hok : tOk T = true) (hs : tSize T = 300) (hd : tDep T = 300) (hw : wt T ≤ 100000) : wpSs S E0 b_law_l191 [x0, some (.ref 1), x2, x3, x4, some (T), x6, x7, x8, x9, x10, x11, x12, x13, x14] [.tbl 0, pen, c2] PD0 := by
  obtain ⟨a1, a2, a3⟩ := op1 T
  have o1 : okD (.tup [.str "star", T]) = true := ok_tup (by decide) (by simpa using ho)
  have z5 : wt (D.str "star") = 1 := rfl
  have w1 : wt (.tup [.str "star", T]) ≤ 1000000 := by simp [wt]; omega
  have w0 : wt T ≤ 1000000 := by omega
  have t0 : isTerm T = true := by
    unfold isTerm
    rw [hok, hs, hd]; rfl
  have t1 : isTerm (.tup [.str "star", T]) = false := by
    unfold isTerm
    rw [a3, hd, decide_eq_false (p := 1 + 300 ≤ 300) (by omega)]
    simp
  have e4 : ((tSize T : Nat) : Int) = 300 := by rw [hs]; rfl
  have ob : ∀ b, okD (.bl b) = true := fun _ => rfl
  have z2 : (0 + 1 + 1 ≤ Sz) = True := eq_true (by decide)
  have o1 : ∀ ν, primD .tup [.str "star", T] ν = some (.tup [.str "star", T], ν) := fun ν => by
    rw [p_tup, if_pos (by show 2 ≤ 16777216; decide)]
  unfold b_law_l191
  simp only [ss_nil, ss_cons, wpS, wpT, wpTOr, wpE, wpEs, List.getElem?_cons_succ, List.getElem?_cons_zero, opt_some, con_int, con_bool, cl.c7, cl.d7, cl.c10, cl.d10, cl.c18, cl.d18, List.drop_nil, List.append_nil, sp_is_term, sp_term_size, sp_law_is_truth, p_cm, cm_ne, o1]
  refine ⟨ho, w0, ob _, ?_⟩
  rw [t0]
  simp only [truth_bl, opt_some, beq_self_eq_true, Bool.not_true, Bool.false_eq_true, if_false, if_true]
  refine ⟨ho, w0, ?_⟩
  rw [e4]
  simp only [eqD_int, Option.map_some, opt_some, truth_bl, beq_self_eq_true, Bool.not_true, Bool.false_eq_true, if_false]
  refine ⟨ok_tup (by decide) (by simpa using ho), w1, ob _, ?_⟩
  rw [t1]
  simp only [truth_bl, opt_some, beq_self_eq_true, Bool.not_true, Bool.false_eq_true, if_false]
  exact l193 cl
theorem l189 : wpSs S E0 b_law_l189 [x0, some (.ref 1), x2, x3, x4, some (.tup [.str "deed", .str "a"]), x6, x7, x8, x9, x10, x11, x12, x13, x14] [.tbl 0, pen, c2] PD0 := by
  have hr := rng1 (m := 299) (by omega)
  have e6 : rngPlan [.int 299] = some ⟨rngItems 0 299, fun _ => True⟩ := hr
  have z5 : wt (D.str "star") = 1 := rfl
  unfold b_law_l189
  simp only [ss_nil, ss_cons, wpS, wpE, wpEs, wpI, con_int, opt_some, e6]
  refine for_rng 299 (fun j ρ μ => ∃ (T : D) (x2 : Option D), ρ = [x0, some (.ref 1), x2, x3, x4, some (T), x6, x7, x8, x9, x10, x11, x12, x13, x14] ∧ μ = [.tbl 0, pen, c2] ∧ tOk T = true ∧ okD T = true ∧ tSize T = 1 + j ∧ tDep T = 1 + j ∧ wt T ≤ 3 + 2 * j) ?_ ?_ _ _ ⟨_, x2, rfl, rfl, by decide +kernel, by decide +kernel, by decide +kernel, by decide +kernel, by decide +kernel⟩
  · rintro j ρ μ N hj ih ⟨T, x2, rfl, rfl, h1, h2, h3, h4, h5⟩
    obtain ⟨a1, a2, a3⟩ := op1 T
    refine ⟨trivial, ?_⟩
    simp only [bindT, opt_some, List.set_cons_succ, List.set_cons_zero, wpE, wpEs, List.getElem?_cons_succ, List.getElem?_cons_zero, p_tup, List.length_cons, List.length_nil]
    rw [if_pos (by decide)]
    simp only [opt_some, bindT, List.set_cons_succ, List.set_cons_zero]
    exact ih _ _ ⟨_, _, rfl, rfl, by rw [a1]; exact h1, ok_tup (by decide) (by simpa using h2), by omega, by omega, by simp [wt]; omega⟩
  · rintro ρ μ ⟨T, x2, rfl, rfl, h1, h2, h3, h4, h5⟩
    refine ⟨trivial, ?_⟩
    exact l191 cl h2 h1 h3 h4 (by omega)
theorem l188 : wpSs S E0 b_law_l188 [x0, some (.ref 1), x2, x3, x4, x5, x6, x7, x8, x9, x10, x11, x12, x13, x14] [.tbl 0, pen, c2] PD0 := by
  unfold b_law_l188
  simp only [ss_cons, wpS, wpE, wpEs, p_tup, List.length_cons, List.length_nil]
  rw [if_pos (by decide)]
  simp only [opt_some, bindT, List.set_cons_succ, List.set_cons_zero]
  exact l189 cl
theorem l186 {v : D} {t : String} (ht : reprD v = some t) : wpSs S E0 b_law_l186 [x0, some (.ref 1), x2, some (v), some (.ref 2), x5, x6, x7, x8, x9, x10, x11, x12, x13, x14] [.tbl 0, pen, .lst [.tup [.str "term", .str t], .tup [.str "term", .str t], .tup [.str "term", .str t]]] PD0 := by
  have hm : ∀ μ, binD μ .mul (.lst [.tup [.str "term", .str t]]) (.int 3) = some (.lst [.tup [.str "term", .str t], .tup [.str "term", .str t], .tup [.str "term", .str t]]) := fun μ => by
    show (if (3 : Int).natAbs < 9223372036854775808 ∧ [D.tup [.str "term", .str t]].length * (3 : Int).toNat ≤ Sz then some (D.lst (List.replicate (3 : Int).toNat [D.tup [.str "term", .str t]]).flatten) else none) = _
    rw [if_pos ⟨by decide, by show 1 * 3 ≤ 16777216; decide⟩]
    rfl
  have hq : ∀ pen, eqD [.tbl 0, pen, .lst [.tup [.str "term", .str t], .tup [.str "term", .str t], .tup [.str "term", .str t]]] (.ref 2) (.lst [.tup [.str "term", .str t], .tup [.str "term", .str t], .tup [.str "term", .str t]]) = some true := fun pen => by
    have h := eqD_self (μ := [.tbl 0, pen]) (d := .lst [.tup [.str "term", .str t], .tup [.str "term", .str t], .tup [.str "term", .str t]]) rfl (by show 2 ≤ 150; decide)
    exact h
  unfold b_law_l186
  simp only [ss_nil, ss_cons, wpS, wpT, wpE, wpEs, List.getElem?_cons_succ, List.getElem?_cons_zero, con_int, opt_some, p_repr, ht, Option.map_some, p_tup, p_lstF, List.length_cons, List.length_nil]
  rw [if_pos (by decide)]
  simp only [opt_some]
  rw [if_pos (by decide)]
  simp only [opt_some, p_bin, hm, Option.map_some, p_cm, cm_ne, hq, truth_bl, Bool.not_true, Bool.false_eq_true, if_false]
  exact l188 cl
theorem l185 {v : D} {t : String} (ht : reprD v = some t) (hb : Bad v) : wpSs S E0 b_law_l185 [x0, some (.ref 1), x2, some (v), some (.ref 2), x5, x6, x7, x8, x9, x10, x11, x12, x13, x14] [.tbl 0, pen, .lst [.tup [.str "term", .str t], .tup [.str "term", .str t]]] PD0 := by
  have hap : ∀ pen, primD .append [.ref 2, .tup [.str "term", .str t]] [.tbl 0, pen, .lst [.tup [.str "term", .str t], .tup [.str "term", .str t]]] = some (.non, [.tbl 0, pen, .lst [.tup [.str "term", .str t], .tup [.str "term", .str t], .tup [.str "term", .str t]]]) := fun pen => rfl
  have hrc : ∀ pen c, recvD .append [.tbl 0, pen, .lst c] (.ref 2) = some () := fun _ _ => rfl
  have hno := hb.no
  unfold b_law_l185
  simp only [ss_cons, wpS, wpE, wpEs, List.getElem?_cons_succ, List.getElem?_cons_zero, opt_some, hrc, cl.c14, cl.d14, List.drop_nil, List.append_nil, sp_deeds_in, hno, Bool.false_eq_true, if_false, cl.h0, cl.h1, ht, Option.map_some, hap]
  exact ⟨⟨0, rfl⟩, hb.ok, hb.wt, l186 cl ht⟩
theorem l184 {v : D} {t : String} (ht : reprD v = some t) (hb : Bad v) : wpSs S E0 b_law_l184 [x0, some (.ref 1), x2, some (v), some (.ref 2), x5, x6, x7, x8, x9, x10, x11, x12, x13, x14] [.tbl 0, pen, .lst [.tup [.str "term", .str t]]] PD0 := by
  have hap : ∀ pen, primD .append [.ref 2, .tup [.str "term", .str t]] [.tbl 0, pen, .lst [.tup [.str "term", .str t]]] = some (.non, [.tbl 0, pen, .lst [.tup [.str "term", .str t], .tup [.str "term", .str t]]]) := fun pen => rfl
  have hrc : ∀ pen c, recvD .append [.tbl 0, pen, .lst c] (.ref 2) = some () := fun _ _ => rfl
  have hno := hb.no
  unfold b_law_l184
  simp only [ss_cons, wpS, wpE, wpEs, List.getElem?_cons_succ, List.getElem?_cons_zero, opt_some, hrc, cl.c13, cl.d13, List.drop_nil, List.append_nil, sp_tests_in, hno, Bool.false_eq_true, if_false, cl.h0, cl.h1, ht, Option.map_some, hap]
  exact ⟨⟨0, rfl⟩, hb.ok, hb.wt, l185 cl ht hb⟩
theorem l183 {v : D} {t : String} (ht : reprD v = some t) (hb : Bad v) : wpSs S E0 b_law_l183 [x0, some (.ref 1), x2, some (v), x4, x5, x6, x7, x8, x9, x10, x11, x12, x13, x14] [.tbl 0, pen] PD0 := by
  have hno := hb.no
  have z1 : (0 + 1 ≤ Sz) = True := eq_true (by decide)
  unfold b_law_l183
  simp only [ss_cons, wpS, wpE, wpEs, List.getElem?_cons_succ, List.getElem?_cons_zero, opt_some, cl.c10, cl.d10, List.drop_nil, List.append_nil, sp_term_size, hno, Bool.false_eq_true, if_false, cl.h0, cl.h1, ht, Option.map_some, p_lstT, List.length_cons, List.length_nil, z1, if_true, bindT, List.set_cons_succ, List.set_cons_zero]
  exact ⟨⟨0, rfl⟩, hb.ok, hb.wt, l184 cl ht hb⟩
theorem l181 {v : D} (hb : Bad v) : wpSs S E0 b_law_l181 [x0, some (.ref 1), x2, some (v), x4, x5, x6, x7, x8, x9, x10, x11, x12, x13, x14] [.tbl 0, pen] PD0 := by
  have ob : ∀ b, okD (.bl b) = true := fun _ => rfl
  obtain ⟨t, ht⟩ := Option.isSome_iff_exists.mp hb.rp
  unfold b_law_l181
  simp only [ss_nil, ss_cons, wpS, wpT, wpE, wpEs, List.getElem?_cons_succ, List.getElem?_cons_zero, opt_some, cl.c7, cl.d7, cl.c18, cl.d18, List.drop_nil, List.append_nil, sp_is_term, sp_law_is_truth, con_bool]
  refine ⟨hb.ok, hb.wt, ob _, ?_⟩
  rw [hb.no]
  simp only [truth_bl, opt_some, beq_self_eq_true, Bool.not_true, Bool.false_eq_true, if_false]
  exact l183 cl ht hb
theorem l180 (hpen : PenC C pen) (hC : C < Many) : wpSs S E0 b_law_l180 [x0, some (.ref 1), x2, x3, x4, x5, x6, x7, x8, x9, x10, x11, x12, x13, x14] [.tbl 0, pen] PD0 := by
  have tp : ∀ (xs : List D) (ν : Store), xs.length ≤ 16777216 → primD .tup xs ν = some (.tup xs, ν) := fun xs ν h => by rw [p_tup, if_pos h]
  have lp : ∀ (xs : List D) (ν : Store), xs.length ≤ 16777216 → primD (.lst false) xs ν = some (.lst xs, ν) := fun xs ν h => by rw [p_lstF, if_pos h]
  have t0 : ∀ ν, primD .tup [] ν = some (.tup [], ν) := fun ν => tp _ ν (by decide)
  have t1 : ∀ a ν, primD .tup [a] ν = some (.tup [a], ν) := fun a ν => tp _ ν (by show 1 ≤ 16777216; decide)
  have t2 : ∀ a b ν, primD .tup [a, b] ν = some (.tup [a, b], ν) := fun a b ν => tp _ ν (by show 2 ≤ 16777216; decide)
  have t3 : ∀ a b c ν, primD .tup [a, b, c] ν = some (.tup [a, b, c], ν) := fun a b c ν => tp _ ν (by show 3 ≤ 16777216; decide)
  have l2 : ∀ a b ν, primD (.lst false) [a, b] ν = some (.lst [a, b], ν) := fun a b ν => lp _ ν (by show 2 ≤ 16777216; decide)
  unfold b_law_l180
  simp only [ss_cons, wpS, wpE, wpEs, List.getElem?_cons_succ, List.getElem?_cons_zero, opt_some, con_non, con_int, t0, t1, t2, t3, l2, cl.one]
  rw [lp _ _ (by simp)]
  simp only [opt_some, cl.cp.c16, cl.cp.d16, List.drop_nil, List.append_nil, sp_law_pick]
  refine ⟨C, pen, rfl, hpen, hC, by simp, by simp, fun x hx pen3 hp3 => ?_⟩
  have e7 : ([Cell.tbl 0, pen] : Store).set 1 pen3 = [.tbl 0, pen3] := rfl
  rw [e7]
  simp only [bindT, opt_some, List.set_cons_succ, List.set_cons_zero]
  exact l181 cl (bad_ok x hx)
end
end K11

set_option Elab.async false
set_option linter.all false
set_option maxRecDepth 100000
set_option maxHeartbeats 4000000
namespace K11
open PySem PY
theorem nub_small {ss ts : List String} (h : ∀ s ∈ ss, s ∈ ts) : (nubS ss).length ≤ ts.length := nub_len h (Nat.le_refl _)
/-- a drawn term of the law -/
structure Dr (t : D) : Prop where
  ok : tOk t = true
  od : okD t = true
  size : tSize t ≤ 17
  dep : tDep t ≤ 9
  wt : wt t ≤ 1000
  names : (nubS (allT t)).length < 64
  deeds : (nubS (K11.allD t)).length < 64
  tw : ∀ T, .tup [.str "test", T] ∈ tNodes t → PY.wt T ≤ 32
theorem dr_of {ts ds : List String} {k : Nat} {t : D} (h : GenK ts ds k t) (h1 : ts.length ≤ 2) (h2 : ds.length ≤ 2) (hk : k ≤ 9) : Dr t := by
  have a := h.size
  have b := h.dep
  have c := h.wt
  have d := nub_small h.names
  have e := nub_small h.deeds
  exact ⟨h.ok, h.od, by omega, by omega, by omega, by omega, by omega, h.tw⟩
section
variable {S : Sg} (cl : Cl S) {x0 x2 x3 x4 x5 x6 x7 x8 x9 x10 x11 x12 x13 x14 : Option D} {pen : Cell} {c2 : Cell} {C : Int} {PD : PEnds} {t : D}
include cl
theorem l178 (h : Dr t) (q : PD.nx [x0, some (.ref 1), x2, x3, x4, x5, x6, x7, some (t), some (.lst (tNodes t)), x10, x11, x12, x13, x14] [.tbl 0, pen]) : wpSs S E0 b_law_l178 [x0, some (.ref 1), x2, x3, x4, x5, x6, x7, some (t), some (.lst (tNodes t)), x10, x11, x12, x13, x14] [.tbl 0, pen] PD := by
  have w0 : wt t ≤ 1000000 := by have := h.wt; omega
  have hit : isTerm t = true := by
    unfold isTerm
    rw [h.ok, decide_eq_true (by have := h.size; omega), decide_eq_true (by have := h.dep; omega)]; rfl
  have hn := tNodes_len t
  have hsz := h.size
  have hdl : (K11.allD t).length ≤ (tNodes t).length := deeds_len (tNodes t)
  unfold b_law_l178
  simp only [ss_nil, ss_cons, wpS, wpT, wpE, wpEs, wpI, List.getElem?_cons_succ, List.getElem?_cons_zero, opt_some, cl.c14, cl.d14, List.drop_nil, List.append_nil, sp_deeds_in, hit, if_true, valPlan]
  refine ⟨h.od, w0, by omega, h.deeds, ?_⟩
  refine comp_pure deedO trivial (fun d hd R r => ?_) (by simp only [List.length_nil, Nat.zero_add]; exact le_sz (by omega)) ?_
  · obtain ⟨h1, _, _⟩ := nodes_ok 1000000 w0 h.ok h.od d hd
    simp only [wipeD, List.set_cons_succ, List.set_cons_zero, bindT, opt_some, wpC]
    exact deed_turn S (by rfl) h1 r
  · simp only [List.nil_append, newL, Bool.false_eq_true, if_false]
    rw [deedO_map, p_sortset (by omega) h.deeds]
    have he : ∀ μ, eqD μ (.tup ((sortS (nubS (K11.allD t))).map .str)) (.tup ((sortS (nubS (K11.allD t))).map .str)) = some true := fun μ => eqD_self (plains_str _) (by rw [depth_tup, depths_strs]; decide)
    simp only [opt_some, p_tuple1, seq_lst, Option.map_some, p_cm, cm_ne, he, truth_bl, Bool.not_true, Bool.false_eq_true, if_false]
    exact q
theorem l176 (h : Dr t) (hl : (allT t).length ≤ 600) (q : ∀ x10, PD.nx [x0, some (.ref 1), x2, x3, x4, x5, x6, x7, some (t), some (.lst (tNodes t)), x10, x11, x12, x13, x14] [.tbl 0, pen]) : wpSs S E0 b_law_l176 [x0, some (.ref 1), x2, x3, x4, x5, x6, x7, some (t), some (.lst (tNodes t)), some (.lst ((allT t).map .str)), x11, x12, x13, x14] [.tbl 0, pen] PD := by
  have w0 : wt t ≤ 1000000 := by have := h.wt; omega
  have hit : isTerm t = true := by
    unfold isTerm
    rw [h.ok, decide_eq_true (by have := h.size; omega), decide_eq_true (by have := h.dep; omega)]; rfl
  unfold b_law_l176
  simp only [ss_nil, ss_cons, wpS, wpT, wpE, wpEs, wpI, List.getElem?_cons_succ, List.getElem?_cons_zero, opt_some, cl.c13, cl.d13, List.drop_nil, List.append_nil, sp_tests_in, hit, if_true]
  refine ⟨h.od, w0, h.names, ?_⟩
  rw [p_sortset (by omega) h.names]
  have he : ∀ μ, eqD μ (.tup ((sortS (nubS (allT t))).map .str)) (.tup ((sortS (nubS (allT t))).map .str)) = some true := fun μ => eqD_self (plains_str _) (by rw [depth_tup, depths_strs]; decide)
  simp only [opt_some, p_tuple1, seq_lst, Option.map_some, p_cm, cm_ne, he, truth_bl, Bool.not_true, Bool.false_eq_true, if_false]
  exact l178 cl h (q _)

theorem l174 (h : Dr t) (q : ∀ x10 x11, PD.nx [x0, some (.ref 1), x2, x3, x4, x5, x6, x7, some (t), some (.lst (tNodes t)), x10, x11, x12, x13, x14] [.tbl 0, pen]) : wpSs S E0 b_law_l174 [x0, some (.ref 1), x2, x3, x4, x5, x6, x7, some (t), some (.lst (tNodes t)), some (.lst []), x11, x12, x13, x14] [.tbl 0, pen] PD := by
  have w0 : wt t ≤ 1000000 := by have := h.wt; omega
  have hn := tNodes_len t
  have hsz := h.size
  have z0 : (0 ≤ Sz) = True := eq_true (by decide)
  unfold b_law_l174
  simp only [ss_nil, ss_cons, wpS, wpT, wpE, wpEs, wpI, List.getElem?_cons_succ, List.getElem?_cons_zero, opt_some, valPlan]
  refine for_ind (fun ds ρ μ' => ∃ (acc : List String) (x11 : Option D), ρ = [x0, some (.ref 1), x2, x3, x4, x5, x6, x7, some (t), some (.lst (tNodes t)), some (.lst (acc.map .str)), x11, x12, x13, x14] ∧ μ' = [.tbl 0, pen] ∧ (∀ y ∈ ds, y ∈ tNodes t) ∧ acc ++ ds.flatMap nodeT = allT t ∧ acc.length + 32 * ds.length ≤ 544) ?_ ?_ _ _ _ ⟨[], x11, rfl, rfl, fun _ hy => hy, rfl, by simp; omega⟩
  · rintro d ds ρ μ' N ih ⟨acc, x11, rfl, rfl, hok, hacc, hlen⟩
    refine ⟨trivial, ?_⟩
    have hd := hok d (by simp)
    obtain ⟨h1, h2, _⟩ := nodes_ok 1000000 w0 h.ok h.od d hd
    obtain ⟨hdn, r, rfl, hf⟩ := term_form h1
    rw [List.length_cons] at hlen
    rw [List.flatMap_cons] at hacc
    simp only [bindT, opt_some, List.set_cons_succ, List.set_cons_zero, wpE, wpEs, wpT, List.getElem?_cons_succ, List.getElem?_cons_zero, con_int, p_ix, ix_tup, at_0, Option.map_some, p_cm, cm_eq, eqD_str, truth_bl]
    cases hh : hdn == "test" with
    | false =>
      rw [nodeT_other hh, List.nil_append] at hacc
      have hadd : ∀ ν, binD ν .add (.lst (acc.map .str)) (.lst []) = some (.lst (acc.map .str ++ [])) := fun ν => add_lst (by rw [List.length_map]; simp; omega)
      simp only [Bool.false_eq_true, if_false, p_lstF, List.length_nil, z0, if_true, opt_some, p_bin, hadd, Option.map_some, bindT, List.set_cons_succ, List.set_cons_zero, List.append_nil]
      exact ih _ _ ⟨acc, _, rfl, rfl, fun y hy => hok y (by simp [hy]), hacc, by omega⟩
    | true =>
      have hh' : hdn = "test" := by simpa using hh
      obtain ⟨T, rfl, hT⟩ := test_node h1 hh'
      subst hh'
      have hw := h.tw T hd
      rw [nodeT_test] at hacc
      have hl1 := tn_len (wt T) (Nat.le_refl _) hT
      have hadd : ∀ ν, binD ν .add (.lst (acc.map .str)) (.lst ((tn T).map .str)) = some (.lst (acc.map .str ++ (tn T).map .str)) := fun ν => add_lst (by rw [List.length_map, List.length_map]; omega)
      simp only [if_true, at_1, Option.map_some, opt_some, cl.c24, cl.d24, List.drop_nil, List.append_nil, sp_law_names_in]
      refine ⟨hT, (okD_cons h2).2 T (by simp), by omega, by omega, ?_⟩
      simp only [p_bin, hadd, Option.map_some, opt_some, bindT, List.set_cons_succ, List.set_cons_zero]
      rw [← List.map_append]
      exact ih _ _ ⟨acc ++ tn T, _, rfl, rfl, fun y hy => hok y (by simp [hy]), by rw [List.append_assoc]; exact hacc, by rw [List.length_append]; omega⟩
  · rintro ρ μ' ⟨acc, x11, rfl, rfl, hok, hacc, hlen⟩
    refine ⟨trivial, ?_⟩
    rw [List.flatMap_nil, List.append_nil] at hacc
    subst hacc
    exact l176 cl h (by have : (allT t).length + 32 * 0 ≤ 544 := hlen; omega) fun x10 => q x10 x11
theorem l173 (h : Dr t) (q : ∀ x10 x11, PD.nx [x0, some (.ref 1), x2, x3, x4, x5, x6, x7, some (t), some (.lst (tNodes t)), x10, x11, x12, x13, x14] [.tbl 0, pen]) : wpSs S E0 b_law_l173 [x0, some (.ref 1), x2, x3, x4, x5, x6, x7, some (t), some (.lst (tNodes t)), x10, x11, x12, x13, x14] [.tbl 0, pen] PD := by
  have z0 : (0 ≤ Sz) = True := eq_true (by decide)
  unfold b_law_l173
  simp only [ss_cons, wpS, wpE, wpEs, p_lstF, List.length_nil, z0, if_true, opt_some, bindT, List.set_cons_succ, List.set_cons_zero]
  exact l174 cl h q
theorem l171 (h : Dr t) (q : ∀ x10 x11, PD.nx [x0, some (.ref 1), x2, x3, x4, x5, x6, x7, some (t), some (.lst (tNodes t)), x10, x11, x12, x13, x14] [.tbl 0, pen]) : wpSs S E0 b_law_l171 [x0, some (.ref 1), x2, x3, x4, x5, x6, x7, some (t), some (.lst (tNodes t)), x10, x11, x12, x13, x14] [.tbl 0, pen] PD := by
  have w0 : wt t ≤ 1000000 := by have := h.wt; omega
  have hit : isTerm t = true := by
    unfold isTerm
    rw [h.ok, decide_eq_true (by have := h.size; omega), decide_eq_true (by have := h.dep; omega)]; rfl
  have hn := tNodes_len t
  have ob : ∀ b, okD (.bl b) = true := fun _ => rfl
  unfold b_law_l171
  simp only [ss_nil, ss_cons, wpS, wpT, wpTOr, wpE, wpEs, List.getElem?_cons_succ, List.getElem?_cons_zero, opt_some, con_bool, cl.c7, cl.d7, cl.c10, cl.d10, cl.c18, cl.d18, List.drop_nil, List.append_nil, sp_is_term, sp_term_size, sp_law_is_truth, p_cm, cm_ne, p_len, len_lst, Option.map_some, hn]
  refine ⟨h.od, w0, ob _, ?_⟩
  rw [hit]
  simp only [truth_bl, opt_some, beq_self_eq_true, Bool.not_true, Bool.false_eq_true, if_false, if_true]
  refine ⟨h.od, w0, ?_⟩
  simp only [eqD_int, Option.map_some, opt_some, truth_bl, beq_self_eq_true, Bool.not_true, Bool.false_eq_true, if_false]
  exact l173 cl h q
theorem l170 (h : Dr t) (q : ∀ x9 x10 x11, PD.nx [x0, some (.ref 1), x2, x3, x4, x5, x6, x7, some (t), x9, x10, x11, x12, x13, x14] [.tbl 0, pen]) : wpSs S E0 b_law_l170 [x0, some (.ref 1), x2, x3, x4, x5, x6, x7, some (t), x9, x10, x11, x12, x13, x14] [.tbl 0, pen] PD := by
  unfold b_law_l170
  simp only [ss_cons, wpS, wpE, wpEs, List.getElem?_cons_succ, List.getElem?_cons_zero, cl.c23, cl.d23, List.drop_nil, List.append_nil, sp_law_nodes]
  refine ⟨h.ok, h.od, by have := h.dep; omega, by have := h.size; omega, ?_⟩
  simp only [bindT, opt_some, List.set_cons_succ, List.set_cons_zero]
  exact l171 cl h fun x10 x11 => q _ x10 x11
theorem l169 {ts ds : List String} (h1 : ts.all nameS = true) (h2 : ts.length ≤ 2) (h3 : ds.all nameS = true) (h4 : ds.length ≤ 2) (hpen : PenC C pen) (hC : C + 1000 < Many) (q : ∀ x8 x9 x10 x11 pen', PenC (C + 800) pen' → PD.nx [x0, some (.ref 1), x2, x3, x4, x5, x6, x7, x8, x9, x10, x11, some (.lst (ts.map .str)), some (.lst (ds.map .str)), x14] [.tbl 0, pen']) : wpSs S E0 b_law_l169 [x0, some (.ref 1), x2, x3, x4, x5, x6, x7, x8, x9, x10, x11, some (.lst (ts.map .str)), some (.lst (ds.map .str)), x14] [.tbl 0, pen] PD := by
  have hC' : C + 1000 < 1000000000000 := hC
  unfold b_law_l169
  simp only [ss_cons, wpS, wpE, wpEs, List.getElem?_cons_succ, List.getElem?_cons_zero, con_int, opt_some, cl.cp.c15, cl.cp.d15, List.drop_nil, List.append_nil, sp_law_draw]
  refine ⟨C, pen, rfl, hpen, by show C < 1000000000000; omega, by omega, by omega, fun r pen' h5 h6 hp' => ?_⟩
  obtain ⟨n, rfl⟩ : ∃ n : Nat, r = (n : Int) := ⟨r.toNat, by omega⟩
  have e5 : ([Cell.tbl 0, pen] : Store).set 1 pen' = [.tbl 0, pen'] := rfl
  rw [e5]
  have e6 : (1 : Int) + (n : Int) = ((1 + n : Nat) : Int) := by omega
  simp only [p_bin, bi_add, Option.map_some, opt_some, cl.c20, cl.d20, List.append_nil, sp_law_term]
  refine ⟨1 + n, ts, ds, C + 1, pen', e6, by omega, by omega, by omega, rfl, h1, by omega, rfl, h3, by omega, rfl, hp', by show C + 1 + 80 * ((1 + n : Nat) : Int) < 1000000000000; omega, fun t pen2 g hp2 => ?_⟩
  have e7 : ([Cell.tbl 0, pen'] : Store).set 1 pen2 = [.tbl 0, pen2] := rfl
  rw [e7]
  simp only [bindT, opt_some, List.set_cons_succ, List.set_cons_zero]
  exact l170 cl (dr_of g h2 h4 (by omega)) fun x9 x10 x11 => q _ x9 x10 x11 pen2 (hp2.mono (by omega))
theorem l168 (hpen : PenC C pen) (hC : C + 1010 < Many) (q : ∀ x8 x9 x10 x11 x12 x13 pen', PenC (C + 810) pen' → PD.nx [x0, some (.ref 1), x2, x3, x4, x5, x6, x7, x8, x9, x10, x11, x12, x13, x14] [.tbl 0, pen']) : wpSs S E0 b_law_l168 [x0, some (.ref 1), x2, x3, x4, x5, x6, x7, x8, x9, x10, x11, x12, x13, x14] [.tbl 0, pen] PD := by
  have hC' : C + 1010 < 1000000000000 := hC
  unfold b_law_l168
  simp only [ss_cons, wpS, wpE, wpEs, List.getElem?_cons_succ, List.getElem?_cons_zero, opt_some, cl.c21, cl.d21, List.drop_nil, List.append_nil, sp_law_names]
  refine ⟨C, pen, rfl, hpen, by show C + 2 < 1000000000000; omega, fun ts hts ds hds pen' hp' => ?_⟩
  have e5 : ([Cell.tbl 0, pen] : Store).set 1 pen' = [.tbl 0, pen'] := rfl
  rw [e5]
  have k1 : ∀ ts ∈ testNames, (ts.all nameS && decide (ts.length ≤ 2)) = true := by decide +kernel
  have k2 : ∀ ds ∈ deedNames, (ds.all nameS && decide (ds.length ≤ 2)) = true := by decide +kernel
  have k3 := k1 ts hts
  have k4 := k2 ds hds
  simp only [Bool.and_eq_true, decide_eq_true_eq] at k3 k4
  simp only [bindT, bindTs, opt_some, List.set_cons_succ, List.set_cons_zero]
  exact l169 cl k3.1 k3.2 k4.1 k4.2 hp' (by show C + 2 + 1000 < 1000000000000; omega) fun x8 x9 x10 x11 pen2 hp2 => q x8 x9 x10 x11 _ _ pen2 (hp2.mono (by omega))

theorem l167 (hpen : PenC 0 pen) : wpSs S E0 b_law_l167 [x0, some (.ref 1), x2, x3, x4, x5, x6, x7, x8, x9, x10, x11, x12, x13, x14] [.tbl 0, pen] PD0 := by
  have hr := rng1 (m := 3) (by omega)
  have e6 : rngPlan [.int 3] = some ⟨rngItems 0 3, fun _ => True⟩ := hr
  unfold b_law_l167
  simp only [ss_cons, wpS, wpE, wpEs, wpI, con_int, opt_some, e6]
  refine for_rng 3 (fun j ρ μ => ∃ x2 x8 x9 x10 x11 x12 x13 pen, ρ = [x0, some (.ref 1), x2, x3, x4, x5, x6, x7, x8, x9, x10, x11, x12, x13, x14] ∧ μ = [.tbl 0, pen] ∧ PenC (810 * (j : Int)) pen) ?_ ?_ _ _ ⟨x2, x8, x9, x10, x11, x12, x13, pen, rfl, rfl, by simpa using hpen⟩
  · rintro j ρ μ N hj ih ⟨x2, x8, x9, x10, x11, x12, x13, pen, rfl, rfl, hp⟩
    refine ⟨trivial, ?_⟩
    simp only [bindT, opt_some, List.set_cons_succ, List.set_cons_zero]
    refine l168 cl hp (by show 810 * (j : Int) + 1010 < 1000000000000; omega) fun x8 x9 x10 x11 x12 x13 pen' hp' => ?_
    exact ih _ _ ⟨_, _, _, _, _, _, _, _, rfl, rfl, hp'.mono (by omega)⟩
  · rintro ρ μ ⟨x2, x8, x9, x10, x11, x12, x13, pen, rfl, rfl, hp⟩
    refine ⟨trivial, ?_⟩
    exact l180 cl hp (by show 810 * ((3 : Nat) : Int) < 1000000000000; omega)
theorem l165 (hpen : PenC 0 pen) : wpSs S E0 b_law_l165 [x0, some (.ref 1), x2, x3, x4, x5, x6, x7, x8, x9, x10, x11, x12, x13, x14] [.tbl 0, pen] PD0 := by
  have h0 : ∀ μ, eqD μ zeroD (.tup [.str "test", .tup [.str "false"]]) = some true := fun μ => eqD_self (d := zeroD) (by decide +kernel) (by decide +kernel)
  have h1 : ∀ μ, eqD μ oneD (.tup [.str "test", .tup [.str "true"]]) = some true := fun μ => eqD_self (d := oneD) (by decide +kernel) (by decide +kernel)
  have t1 : ∀ a ν, primD .tup [a] ν = some (.tup [a], ν) := fun a ν => by rw [p_tup, if_pos (by show 1 ≤ 16777216; decide)]
  have t2 : ∀ a b ν, primD .tup [a, b] ν = some (.tup [a, b], ν) := fun a b ν => by rw [p_tup, if_pos (by show 2 ≤ 16777216; decide)]
  unfold b_law_l165
  simp only [ss_nil, ss_cons, wpS, wpT, wpTOr, wpE, wpEs, opt_some, t1, t2, cl.zero, cl.one, p_cm, cm_ne, h0, h1, Option.map_some, truth_bl, Bool.not_true, Bool.false_eq_true, if_false]
  exact l167 cl hpen
theorem w_law (ns : List Int) (d : D) (hlen : ns.length ≤ 63) (hd : d = .scr ns ∨ d = .lst (ns.map .int)) : wpSs S E0 b_law (startD N_law [d]) [.tbl 0] PD0 := by
  have e : startD N_law [d] = [some d, none, none, none, none, none, none, none, none, none, none, none, none, none, none] := rfl
  rw [e]
  unfold b_law
  have n63 : ns.length ≤ 1000 := by omega
  simp only [ss_cons, wpS, wpE, wpEs, List.getElem?_cons_zero, cl.cp.c14, cl.cp.d14, List.drop_nil, List.append_nil]
  have e2 : ∀ pen : Cell, ([Cell.tbl 0] : Store) ++ [pen] = [.tbl 0, pen] := fun _ => rfl
  rcases hd with rfl | rfl
  · refine ⟨n63, fun pen hp => ?_⟩
    rw [e2]
    exact l165 cl hp
  · refine ⟨ns, rfl, n63, fun pen hp => ?_⟩
    rw [e2]
    exact l165 cl hp
end
end K11

set_option Elab.async false
set_option linter.all false
set_option maxRecDepth 100000
set_option maxHeartbeats 0
namespace K11
open PySem PySem.Spec PyProof.Rows L2 PY
/-! ### the head: what stands at the top -/
abbrev d_is_name : He.DefD := ⟨("is_name", none), "is_name", "is_name", defArgs (top 8), defBody (top 8), defScope (top 8), [], []⟩
abbrev d_is_head : He.DefD := ⟨("is_head", none), "is_head", "is_head", defArgs (top 10), defBody (top 10), defScope (top 10), [], []⟩
abbrev d_test_parts : He.DefD := ⟨("test_parts", none), "test_parts", "test_parts", defArgs (top 11), defBody (top 11), defScope (top 11), [], []⟩
abbrev d_is_test : He.DefD := ⟨("is_test", none), "is_test", "is_test", defArgs (top 12), defBody (top 12), defScope (top 12), [], []⟩
abbrev d_names_of_test : He.DefD := ⟨("names_of_test", none), "names_of_test", "names_of_test", defArgs (top 14), defBody (top 14), defScope (top 14), [], []⟩
abbrev d_parts_of : He.DefD := ⟨("parts_of", none), "parts_of", "parts_of", defArgs (top 20), defBody (top 20), defScope (top 20), [], []⟩
abbrev d_is_leaf : He.DefD := ⟨("is_leaf", none), "is_leaf", "is_leaf", defArgs (top 21), defBody (top 21), defScope (top 21), [], []⟩
abbrev d_is_term : He.DefD := ⟨("is_term", none), "is_term", "is_term", defArgs (top 22), defBody (top 22), defScope (top 22), [], []⟩
abbrev d_need_term : He.DefD := ⟨("need_term", none), "need_term", "need_term", defArgs (top 23), defBody (top 23), defScope (top 23), [], []⟩
abbrev d_nodes_of : He.DefD := ⟨("nodes_of", none), "nodes_of", "nodes_of", defArgs (top 24), defBody (top 24), defScope (top 24), [], []⟩
abbrev d_term_size : He.DefD := ⟨("term_size", none), "term_size", "term_size", defArgs (top 25), defBody (top 25), defScope (top 25), [], []⟩
abbrev d_test_names : He.DefD := ⟨("test_names", none), "test_names", "test_names", defArgs (top 26), defBody (top 26), defScope (top 26), [], []⟩
abbrev d_deed_names : He.DefD := ⟨("deed_names", none), "deed_names", "deed_names", defArgs (top 27), defBody (top 27), defScope (top 27), [], []⟩
abbrev d_tests_in : He.DefD := ⟨("tests_in", none), "tests_in", "tests_in", defArgs (top 28), defBody (top 28), defScope (top 28), [], []⟩
abbrev d_deeds_in : He.DefD := ⟨("deeds_in", none), "deeds_in", "deeds_in", defArgs (top 29), defBody (top 29), defScope (top 29), [], []⟩
abbrev d__law_pen : He.DefD := ⟨("_law_pen", none), "_law_pen", "_law_pen", defArgs (top 31), defBody (top 31), defScope (top 31), [], []⟩
abbrev d__law_draw : He.DefD := ⟨("_law_draw", none), "_law_draw", "_law_draw", defArgs (top 32), defBody (top 32), defScope (top 32), [], []⟩
abbrev d__law_pick : He.DefD := ⟨("_law_pick", none), "_law_pick", "_law_pick", defArgs (top 33), defBody (top 33), defScope (top 33), [], []⟩
abbrev d__law_is_truth : He.DefD := ⟨("_law_is_truth", none), "_law_is_truth", "_law_is_truth", defArgs (top 34), defBody (top 34), defScope (top 34), [], []⟩
abbrev d__law_test : He.DefD := ⟨("_law_test", none), "_law_test", "_law_test", defArgs (top 35), defBody (top 35), defScope (top 35), [], []⟩
abbrev d__law_term : He.DefD := ⟨("_law_term", none), "_law_term", "_law_term", defArgs (top 36), defBody (top 36), defScope (top 36), [], []⟩
abbrev d__law_names : He.DefD := ⟨("_law_names", none), "_law_names", "_law_names", defArgs (top 37), defBody (top 37), defScope (top 37), [], []⟩
abbrev d__law_complaint : He.DefD := ⟨("_law_complaint", none), "_law_complaint", "_law_complaint", defArgs (top 38), defBody (top 38), defScope (top 38), [], []⟩
abbrev d__law_nodes : He.DefD := ⟨("_law_nodes", none), "_law_nodes", "_law_nodes", defArgs (top 39), defBody (top 39), defScope (top 39), [], []⟩
abbrev d__law_names_in : He.DefD := ⟨("_law_names_in", none), "_law_names_in", "_law_names_in", defArgs (top 40), defBody (top 40), defScope (top 40), [], []⟩
abbrev d_law : He.DefD := ⟨("law", none), "law", "law", defArgs (top 41), defBody (top 41), defScope (top 41), [], []⟩
def fn : List He.DefD := [d_is_name, d_is_head, d_test_parts, d_is_test, d_names_of_test, d_parts_of, d_is_leaf, d_is_term, d_need_term, d_nodes_of, d_term_size, d_test_names, d_deed_names, d_tests_in, d_deeds_in, d__law_pen, d__law_draw, d__law_pick, d__law_is_truth, d__law_test, d__law_term, d__law_names, d__law_complaint, d__law_nodes, d__law_names_in, d_law]
def gls : List Str := ["is_name", "is_head", "test_parts", "is_test", "names_of_test", "parts_of", "is_leaf", "is_term", "need_term", "nodes_of", "term_size", "test_names", "deed_names", "tests_in", "deeds_in", "_law_pen", "_law_draw", "_law_pick", "_law_is_truth", "_law_test", "_law_term", "_law_names", "_law_complaint", "_law_nodes", "_law_names_in", "law", "ProofError", "BadTerm", "WORDS", "ZERO", "ONE"]
def frs : List Str := "super" :: blts
def vals : List He.Fa := [.str "SMALL" "abcdefghijklmnopqrstuvwxyz", .str "FIGURES" "0123456789", .int "LONGEST" 8, .int "MOST_NODES" 4000, .int "MOST_DEPTH" 300]
abbrev fa : List He.Fa := faOf gls frs vals
def mt : Mt := [(1, 1, true)]
def ex (K : PySem.W.Frag) : Bool := (xs.all (fun d => d.ok K PySem.Challenge.pw_loopproof_k11_whole_terms.main.file)) && (mt.ok K nms) && (clsB K h__law_complaint) && (ctB K (.tup (wordsL.map .str)) (.ref (He.ga K "WORDS"))) && (ctB K (zeroD) (.ref (He.ga K "ZERO"))) && (ctB K (oneD) (.ref (He.ga K "ONE")))
theorem ex_parts {K : PySem.W.Frag} (h : ex K = true) : (xs.all (fun d => d.ok K PySem.Challenge.pw_loopproof_k11_whole_terms.main.file)) = true ∧ (mt.ok K nms) = true ∧ (clsB K h__law_complaint) = true ∧ (ctB K (.tup (wordsL.map .str)) (.ref (He.ga K "WORDS"))) = true ∧ (ctB K (zeroD) (.ref (He.ga K "ZERO"))) = true ∧ (ctB K (oneD) (.ref (He.ga K "ONE"))) = true := by
  unfold ex at h
  simp only [Bool.and_eq_true] at h
  exact ⟨h.1.1.1.1.1, h.1.1.1.1.2, h.1.1.1.2, h.1.1.2, h.1.2, h.2⟩
def specs : List PY.Spec := [(sp_is_name), (sp_is_head), (sp_test_parts), (sp_is_test), (sp_names_of_test), (sp_parts_of), (sp_is_leaf), (sp_is_term), (sp_need_term), (sp_nodes_of), (sp_term_size), (sp_test_names), (sp_deed_names), (sp_tests_in), (sp_deeds_in), (sp_law_pen), (sp_law_draw), (sp_law_pick), (sp_law_is_truth), (sp_law_test 7), (sp_law_term 11), (sp_law_names), (fun _ _ _ _ => False), (sp_law_nodes 20), (sp_law_names_in 40), (fun _ _ _ _ => False)]
abbrev G1 : Gd := GQ [] nms fss (defScope (top 41))
def S0 : Sg := { call := fun i => specs.getD i (fun _ _ _ _ => False), con := fun j => ([.str smallS, .str figS, .int 8, .tup (wordsL.map .str), zeroD, oneD, .int 4000, .int 300] : List D).getD j .non, dfl := fun i =>  [], hnd := fun i => if i = 22 then hdOf G1 mt.get h__law_complaint else ("", fun _ => none) }
theorem cn0 : Cn S0 := ⟨rfl, rfl, rfl, rfl⟩
theorem ca0 : Ca S0 := by constructor <;> rfl
theorem cb0 : Cb S0 := ⟨ca0, rfl, rfl, rfl, rfl⟩
theorem cc0 : Cc S0 := ⟨cb0, rfl, rfl, rfl, rfl, rfl, rfl⟩
theorem cp0 : Cp S0 := by constructor <;> rfl
theorem cpP (i : Nat) (sp : PY.Spec) (h : 18 < i) : Cp (S0.put i sp) := ⟨(Sg.put_ne S0 sp (by omega)).trans rfl, (Sg.put_ne S0 sp (by omega)).trans rfl, (Sg.put_ne S0 sp (by omega)).trans rfl, (Sg.put_ne S0 sp (by omega)).trans rfl, rfl, rfl, rfl, rfl⟩
theorem hE1 (d : D) : clauseOf G1 mt.get ⟨1, [d]⟩ h__law_complaint.clauses = (reprD d).map fun t => .tup [.str "term", .str t] := by
  have key : clauseOf G1 mt.get ⟨1, [d]⟩ h__law_complaint.clauses = (((reprD d).map D.str).bind fun d1 => (some [] : Option (List D)).map (d1 :: ·)).map fun ds => D.tup (.str "term" :: ds) := by kernel_rfl
  rw [key]; cases reprD d <;> rfl
theorem cl0 : Cl S0 := ⟨cc0, cp0, rfl, rfl, rfl, rfl, rfl, rfl, rfl, rfl, rfl, rfl, rfl, rfl, rfl, rfl, rfl, rfl, rfl, rfl, rfl, rfl, rfl, hE1⟩
section
variable {prog : Program} {w : World} {K : PySem.W.Frag} {mg : Str → Option Value} {base : Heap} {h : Heap} {k : Nat}
abbrev G0 (K : PySem.W.Frag) : Gd := GQ K nms fss (defScope (top 41))
theorem w0 (X : K.In h) (Gn : h.Ns mainGlobals mg) (c : SaysQ fa fn xs ex h K) (hf : prog.main.file = PySem.Challenge.pw_loopproof_k11_whole_terms.main.file) (ht : (prog.main.scope.names.lookup ("super" : Str)).isSome = false) : Wd (Pn 0) (G0 K) S0 prog w K mg base 2 := by
  refine ⟨rfl, fun x hx => fa_free X Gn c.d (List.mem_cons_of_mem _ hx), fun j x e => ?_, fun d hd => (by cases hd), fun e he => ?_⟩
  · match j, e with
    | 0, e =>
      cases e
      obtain ⟨t, e⟩ := He.str_ok X Gn (fa_val c.d (f := .str "SMALL" "abcdefghijklmnopqrstuvwxyz") (List.mem_of_getElem? (i := 0) rfl))
      exact ⟨_, .str (Str.ofString "abcdefghijklmnopqrstuvwxyz"), e, ⟨t, rfl⟩, fun _ _ _ => .str _⟩
    | 1, e =>
      cases e
      obtain ⟨t, e⟩ := He.str_ok X Gn (fa_val c.d (f := .str "FIGURES" "0123456789") (List.mem_of_getElem? (i := 1) rfl))
      exact ⟨_, .str (Str.ofString "0123456789"), e, ⟨t, rfl⟩, fun _ _ _ => .str _⟩
    | 2, e =>
      cases e
      obtain ⟨t, e⟩ := He.int_ok X Gn (fa_val c.d (f := .int "LONGEST" 8) (List.mem_of_getElem? (i := 2) rfl))
      exact ⟨_, .int 8, e, ⟨t, rfl⟩, fun _ _ _ => .int _⟩
    | 3, e =>
      cases e
      obtain ⟨u, hu, hr⟩ := ctB_ok ((ex_parts c.more).2.2.2.1)
      exact ⟨_, u, fa_glo X Gn c.d (by decide), hu, fun Z φ H => hr _ Z φ H rfl⟩
    | 4, e =>
      cases e
      obtain ⟨u, hu, hr⟩ := ctB_ok ((ex_parts c.more).2.2.2.2.1)
      exact ⟨_, u, fa_glo X Gn c.d (by decide), hu, fun Z φ H => hr _ Z φ H rfl⟩
    | 5, e =>
      cases e
      obtain ⟨u, hu, hr⟩ := ctB_ok ((ex_parts c.more).2.2.2.2.2)
      exact ⟨_, u, fa_glo X Gn c.d (by decide), hu, fun Z φ H => hr _ Z φ H rfl⟩
    | 6, e =>
      cases e
      obtain ⟨t, e⟩ := He.int_ok X Gn (fa_val c.d (f := .int "MOST_NODES" 4000) (List.mem_of_getElem? (i := 3) rfl))
      exact ⟨_, .int 4000, e, ⟨t, rfl⟩, fun _ _ _ => .int _⟩
    | 7, e =>
      cases e
      obtain ⟨t, e⟩ := He.int_ok X Gn (fa_val c.d (f := .int "MOST_DEPTH" 300) (List.mem_of_getElem? (i := 4) rfl))
      exact ⟨_, .int 300, e, ⟨t, rfl⟩, fun _ _ _ => .int _⟩
    | (j + 8), e => cases e
  · have hk := List.all_eq_true.mp (ex_parts c.more).1
    have gS : mg "super" = none := fa_free X Gn c.d List.mem_cons_self
    simp only [excs, List.mem_cons, List.mem_nil_iff, or_false] at he
    obtain rfl := he
    · have hm : x_BadTerm ∈ xs := List.mem_of_getElem? (i := 0) rfl
      exact exc_wd (d := x_BadTerm) (PX.exK_of (map_eq_mem c.xs hm) (by rw [hf]; exact hk _ hm) (List.all_eq_true.mp xs_syn _ hm) gS ht) (List.all_eq_true.mp xs_syn _ hm) rfl (fa_glo X Gn c.d (by decide)) rfl rfl rfl (fun _ _ _ _ _ us hl => match us, hl with | [_, _], _ => rfl)
theorem l_is_name : ∀ ds μ Q E, S0.call 0 ds μ Q E → ds.length = 1 := fun ds μ Q E h => by
    have h : (sp_is_name) ds μ Q E := h
    unfold sp_is_name pure1 at h
    split at h <;> first | rfl | exact h.elim
theorem k_is_name (X : K.In h) (Gn : h.Ns mainGlobals mg) (c : He.SaysD fa fn K) (wd : Wd (Pn 0) (G0 K) S0 prog w K mg base 2) : Wd (Pn 1) (G0 K) S0 prog w K mg base 3 := by
  obtain ⟨fd, F⟩ := c.def_ 0 (d := d_is_name) rfl
  have hg : mg "is_name" = some (.ref (He.ga K "is_name")) := fa_glo X Gn c (List.mem_of_getElem? (i := 0) rfl)
  have ok := def_ok wd F s_is_name u_is_name (by decide) rfl c_is_name rfl (w_is_name S0 cn0)
  exact wd.next (d := ⟨0, "is_name", 1, 0⟩) (DefOk.mk0 l_is_name hg F ok rfl rfl (fun _ _ _ _ _ _ us hl => match us, hl with | [_], _ => rfl)) (by decide)
theorem l_is_head : ∀ ds μ Q E, S0.call 1 ds μ Q E → ds.length = 3 := fun ds μ Q E h => by
    have h : (sp_is_head) ds μ Q E := h
    unfold sp_is_head at h
    split at h <;> first | rfl | exact h.elim
theorem k_is_head (X : K.In h) (Gn : h.Ns mainGlobals mg) (c : He.SaysD fa fn K) (wd : Wd (Pn 1) (G0 K) S0 prog w K mg base 3) : Wd (Pn 2) (G0 K) S0 prog w K mg base 4 := by
  obtain ⟨fd, F⟩ := c.def_ 1 (d := d_is_head) rfl
  have hg : mg "is_head" = some (.ref (He.ga K "is_head")) := fa_glo X Gn c (List.mem_of_getElem? (i := 1) rfl)
  have ok := def_ok wd F s_is_head u_is_head (by decide) rfl c_is_head rfl (w_is_head S0)
  exact wd.next (d := ⟨1, "is_head", 3, 0⟩) (DefOk.mk0 l_is_head hg F ok rfl rfl (fun _ _ _ _ _ _ us hl => match us, hl with | [_, _, _], _ => rfl)) (by decide)
theorem l_test_parts : ∀ ds μ Q E, S0.call 2 ds μ Q E → ds.length = 1 := fun ds μ Q E h => by
    have h : (sp_test_parts) ds μ Q E := h
    unfold sp_test_parts pure1 at h
    split at h <;> first | rfl | exact h.elim
theorem k_test_parts (X : K.In h) (Gn : h.Ns mainGlobals mg) (c : He.SaysD fa fn K) (wd : Wd (Pn 2) (G0 K) S0 prog w K mg base 4) : Wd (Pn 3) (G0 K) S0 prog w K mg base 5 := by
  obtain ⟨fd, F⟩ := c.def_ 2 (d := d_test_parts) rfl
  have hg : mg "test_parts" = some (.ref (He.ga K "test_parts")) := fa_glo X Gn c (List.mem_of_getElem? (i := 2) rfl)
  have ok := def_ok wd F s_test_parts u_test_parts (by decide) rfl c_test_parts rfl (w_test_parts S0 ca0)
  exact wd.next (d := ⟨2, "test_parts", 1, 0⟩) (DefOk.mk0 l_test_parts hg F ok rfl rfl (fun _ _ _ _ _ _ us hl => match us, hl with | [_], _ => rfl)) (by decide)
theorem l_is_test : ∀ ds μ Q E, S0.call 3 ds μ Q E → ds.length = 1 := fun ds μ Q E h => by
    have h : (sp_is_test) ds μ Q E := h
    unfold sp_is_test pureW at h
    split at h <;> first | rfl | exact h.elim
theorem k_is_test (X : K.In h) (Gn : h.Ns mainGlobals mg) (c : He.SaysD fa fn K) (wd : Wd (Pn 3) (G0 K) S0 prog w K mg base 5) : Wd (Pn 4) (G0 K) S0 prog w K mg base 6 := by
  obtain ⟨fd, F⟩ := c.def_ 3 (d := d_is_test) rfl
  have hg : mg "is_test" = some (.ref (He.ga K "is_test")) := fa_glo X Gn c (List.mem_of_getElem? (i := 3) rfl)
  have ok := def_ok wd F s_is_test u_is_test (by decide) rfl c_is_test rfl (w_is_test S0 ca0)
  exact wd.next (d := ⟨3, "is_test", 1, 0⟩) (DefOk.mk0 l_is_test hg F ok rfl rfl (fun _ _ _ _ _ _ us hl => match us, hl with | [_], _ => rfl)) (by decide)
theorem l_names_of_test : ∀ ds μ Q E, S0.call 4 ds μ Q E → ds.length = 1 := fun ds μ Q E h => by
    have h : (sp_names_of_test) ds μ Q E := h
    unfold sp_names_of_test at h
    split at h <;> first | rfl | exact h.elim
theorem k_names_of_test (X : K.In h) (Gn : h.Ns mainGlobals mg) (c : He.SaysD fa fn K) (wd : Wd (Pn 4) (G0 K) S0 prog w K mg base 6) : Wd (Pn 5) (G0 K) S0 prog w K mg base 7 := by
  obtain ⟨fd, F⟩ := c.def_ 4 (d := d_names_of_test) rfl
  have hg : mg "names_of_test" = some (.ref (He.ga K "names_of_test")) := fa_glo X Gn c (List.mem_of_getElem? (i := 4) rfl)
  have ok := def_ok wd F s_names_of_test u_names_of_test (by decide) rfl c_names_of_test rfl (w_names_of_test S0)
  exact wd.next (d := ⟨4, "names_of_test", 1, 0⟩) (DefOk.mk0 l_names_of_test hg F ok rfl rfl (fun _ _ _ _ _ _ us hl => match us, hl with | [_], _ => rfl)) (by decide)
theorem l_parts_of : ∀ ds μ Q E, S0.call 5 ds μ Q E → ds.length = 1 := fun ds μ Q E h => by
    have h : (sp_parts_of) ds μ Q E := h
    unfold sp_parts_of at h
    split at h <;> first | rfl | exact h.elim
theorem k_parts_of (X : K.In h) (Gn : h.Ns mainGlobals mg) (c : He.SaysD fa fn K) (wd : Wd (Pn 5) (G0 K) S0 prog w K mg base 7) : Wd (Pn 6) (G0 K) S0 prog w K mg base 8 := by
  obtain ⟨fd, F⟩ := c.def_ 5 (d := d_parts_of) rfl
  have hg : mg "parts_of" = some (.ref (He.ga K "parts_of")) := fa_glo X Gn c (List.mem_of_getElem? (i := 5) rfl)
  have ok := def_ok wd F s_parts_of u_parts_of (by decide) rfl c_parts_of rfl (w_parts_of S0)
  exact wd.next (d := ⟨5, "parts_of", 1, 0⟩) (DefOk.mk0 l_parts_of hg F ok rfl rfl (fun _ _ _ _ _ _ us hl => match us, hl with | [_], _ => rfl)) (by decide)
theorem l_is_leaf : ∀ ds μ Q E, S0.call 6 ds μ Q E → ds.length = 1 := fun ds μ Q E h => by
    have h : (sp_is_leaf) ds μ Q E := h
    unfold sp_is_leaf at h
    split at h <;> first | rfl | exact h.elim
theorem k_is_leaf (X : K.In h) (Gn : h.Ns mainGlobals mg) (c : He.SaysD fa fn K) (wd : Wd (Pn 6) (G0 K) S0 prog w K mg base 8) : Wd (Pn 7) (G0 K) S0 prog w K mg base 9 := by
  obtain ⟨fd, F⟩ := c.def_ 6 (d := d_is_leaf) rfl
  have hg : mg "is_leaf" = some (.ref (He.ga K "is_leaf")) := fa_glo X Gn c (List.mem_of_getElem? (i := 6) rfl)
  have ok := def_ok wd F s_is_leaf u_is_leaf (by decide) rfl c_is_leaf rfl (w_is_leaf S0 ca0)
  exact wd.next (d := ⟨6, "is_leaf", 1, 0⟩) (DefOk.mk0 l_is_leaf hg F ok rfl rfl (fun _ _ _ _ _ _ us hl => match us, hl with | [_], _ => rfl)) (by decide)
theorem l_is_term : ∀ ds μ Q E, S0.call 7 ds μ Q E → ds.length = 1 := fun ds μ Q E h => by
    have h : (sp_is_term) ds μ Q E := h
    unfold sp_is_term at h
    split at h <;> first | rfl | exact h.elim
theorem k_is_term (X : K.In h) (Gn : h.Ns mainGlobals mg) (c : He.SaysD fa fn K) (wd : Wd (Pn 7) (G0 K) S0 prog w K mg base 9) : Wd (Pn 8) (G0 K) S0 prog w K mg base 10 := by
  obtain ⟨fd, F⟩ := c.def_ 7 (d := d_is_term) rfl
  have hg : mg "is_term" = some (.ref (He.ga K "is_term")) := fa_glo X Gn c (List.mem_of_getElem? (i := 7) rfl)
  have ok := def_ok wd F s_is_term u_is_term (by decide) rfl c_is_term rfl (w_is_term S0 cb0)
  exact wd.next (d := ⟨7, "is_term", 1, 0⟩) (DefOk.mk0 l_is_term hg F ok rfl rfl (fun _ _ _ _ _ _ us hl => match us, hl with | [_], _ => rfl)) (by decide)
theorem l_need_term : ∀ ds μ Q E, S0.call 8 ds μ Q E → ds.length = 1 := fun ds μ Q E h => by
    have h : (sp_need_term) ds μ Q E := h
    unfold sp_need_term at h
    split at h <;> first | rfl | exact h.elim
theorem k_need_term (X : K.In h) (Gn : h.Ns mainGlobals mg) (c : He.SaysD fa fn K) (wd : Wd (Pn 8) (G0 K) S0 prog w K mg base 10) : Wd (Pn 9) (G0 K) S0 prog w K mg base 11 := by
  obtain ⟨fd, F⟩ := c.def_ 8 (d := d_need_term) rfl
  have hg : mg "need_term" = some (.ref (He.ga K "need_term")) := fa_glo X Gn c (List.mem_of_getElem? (i := 8) rfl)
  have ok := def_ok wd F s_need_term u_need_term (by decide) rfl c_need_term rfl (w_need_term S0 rfl rfl)
  exact wd.next (d := ⟨8, "need_term", 1, 0⟩) (DefOk.mk0 l_need_term hg F ok rfl rfl (fun _ _ _ _ _ _ us hl => match us, hl with | [_], _ => rfl)) (by decide)
theorem l_nodes_of : ∀ ds μ Q E, S0.call 9 ds μ Q E → ds.length = 1 := fun ds μ Q E h => by
    have h : (sp_nodes_of) ds μ Q E := h
    unfold sp_nodes_of at h
    split at h <;> first | rfl | exact h.elim
theorem k_nodes_of (X : K.In h) (Gn : h.Ns mainGlobals mg) (c : He.SaysD fa fn K) (wd : Wd (Pn 9) (G0 K) S0 prog w K mg base 11) : Wd (Pn 10) (G0 K) S0 prog w K mg base 12 := by
  obtain ⟨fd, F⟩ := c.def_ 9 (d := d_nodes_of) rfl
  have hg : mg "nodes_of" = some (.ref (He.ga K "nodes_of")) := fa_glo X Gn c (List.mem_of_getElem? (i := 9) rfl)
  have ok := def_ok wd F s_nodes_of u_nodes_of (by decide) rfl c_nodes_of rfl (w_nodes_of S0 rfl rfl)
  exact wd.next (d := ⟨9, "nodes_of", 1, 0⟩) (DefOk.mk0 l_nodes_of hg F ok rfl rfl (fun _ _ _ _ _ _ us hl => match us, hl with | [_], _ => rfl)) (by decide)
theorem l_term_size : ∀ ds μ Q E, S0.call 10 ds μ Q E → ds.length = 1 := fun ds μ Q E h => by
    have h : (sp_term_size) ds μ Q E := h
    unfold sp_term_size at h
    split at h <;> first | rfl | exact h.elim
theorem k_term_size (X : K.In h) (Gn : h.Ns mainGlobals mg) (c : He.SaysD fa fn K) (wd : Wd (Pn 10) (G0 K) S0 prog w K mg base 12) : Wd (Pn 11) (G0 K) S0 prog w K mg base 13 := by
  obtain ⟨fd, F⟩ := c.def_ 10 (d := d_term_size) rfl
  have hg : mg "term_size" = some (.ref (He.ga K "term_size")) := fa_glo X Gn c (List.mem_of_getElem? (i := 10) rfl)
  have ok := def_ok wd F s_term_size u_term_size (by decide) rfl c_term_size rfl (w_term_size S0 cc0)
  exact wd.next (d := ⟨10, "term_size", 1, 0⟩) (DefOk.mk0 l_term_size hg F ok rfl rfl (fun _ _ _ _ _ _ us hl => match us, hl with | [_], _ => rfl)) (by decide)
theorem l_test_names : ∀ ds μ Q E, S0.call 11 ds μ Q E → ds.length = 1 := fun ds μ Q E h => by
    have h : (sp_test_names) ds μ Q E := h
    unfold sp_test_names at h
    split at h <;> first | rfl | exact h.elim
theorem k_test_names (X : K.In h) (Gn : h.Ns mainGlobals mg) (c : He.SaysD fa fn K) (wd : Wd (Pn 11) (G0 K) S0 prog w K mg base 13) : Wd (Pn 12) (G0 K) S0 prog w K mg base 14 := by
  obtain ⟨fd, F⟩ := c.def_ 11 (d := d_test_names) rfl
  have hg : mg "test_names" = some (.ref (He.ga K "test_names")) := fa_glo X Gn c (List.mem_of_getElem? (i := 11) rfl)
  have ok := def_ok wd F s_test_names u_test_names (by decide) rfl c_test_names rfl (w_test_names S0 cc0)
  exact wd.next (d := ⟨11, "test_names", 1, 0⟩) (DefOk.mk0 l_test_names hg F ok rfl rfl (fun _ _ _ _ _ _ us hl => match us, hl with | [_], _ => rfl)) (by decide)
theorem l_deed_names : ∀ ds μ Q E, S0.call 12 ds μ Q E → ds.length = 1 := fun ds μ Q E h => by
    have h : (sp_deed_names) ds μ Q E := h
    unfold sp_deed_names at h
    split at h <;> first | rfl | exact h.elim
theorem k_deed_names (X : K.In h) (Gn : h.Ns mainGlobals mg) (c : He.SaysD fa fn K) (wd : Wd (Pn 12) (G0 K) S0 prog w K mg base 14) : Wd (Pn 13) (G0 K) S0 prog w K mg base 15 := by
  obtain ⟨fd, F⟩ := c.def_ 12 (d := d_deed_names) rfl
  have hg : mg "deed_names" = some (.ref (He.ga K "deed_names")) := fa_glo X Gn c (List.mem_of_getElem? (i := 12) rfl)
  have ok := def_ok wd F s_deed_names u_deed_names (by decide) rfl c_deed_names rfl (w_deed_names S0 cc0)
  exact wd.next (d := ⟨12, "deed_names", 1, 0⟩) (DefOk.mk0 l_deed_names hg F ok rfl rfl (fun _ _ _ _ _ _ us hl => match us, hl with | [_], _ => rfl)) (by decide)
theorem l_tests_in : ∀ ds μ Q E, S0.call 13 ds μ Q E → ds.length = 1 := fun ds μ Q E h => by
    have h : (sp_tests_in) ds μ Q E := h
    unfold sp_tests_in at h
    split at h <;> first | rfl | exact h.elim
theorem k_tests_in (X : K.In h) (Gn : h.Ns mainGlobals mg) (c : He.SaysD fa fn K) (wd : Wd (Pn 13) (G0 K) S0 prog w K mg base 15) : Wd (Pn 14) (G0 K) S0 prog w K mg base 16 := by
  obtain ⟨fd, F⟩ := c.def_ 13 (d := d_tests_in) rfl
  have hg : mg "tests_in" = some (.ref (He.ga K "tests_in")) := fa_glo X Gn c (List.mem_of_getElem? (i := 13) rfl)
  have ok := def_ok wd F s_tests_in u_tests_in (by decide) rfl c_tests_in rfl (w_tests_in S0 cc0 rfl rfl)
  exact wd.next (d := ⟨13, "tests_in", 1, 0⟩) (DefOk.mk0 l_tests_in hg F ok rfl rfl (fun _ _ _ _ _ _ us hl => match us, hl with | [_], _ => rfl)) (by decide)
theorem l_deeds_in : ∀ ds μ Q E, S0.call 14 ds μ Q E → ds.length = 1 := fun ds μ Q E h => by
    have h : (sp_deeds_in) ds μ Q E := h
    unfold sp_deeds_in at h
    split at h <;> first | rfl | exact h.elim
theorem k_deeds_in (X : K.In h) (Gn : h.Ns mainGlobals mg) (c : He.SaysD fa fn K) (wd : Wd (Pn 14) (G0 K) S0 prog w K mg base 16) : Wd (Pn 15) (G0 K) S0 prog w K mg base 17 := by
  obtain ⟨fd, F⟩ := c.def_ 14 (d := d_deeds_in) rfl
  have hg : mg "deeds_in" = some (.ref (He.ga K "deeds_in")) := fa_glo X Gn c (List.mem_of_getElem? (i := 14) rfl)
  have ok := def_ok wd F s_deeds_in u_deeds_in (by decide) rfl c_deeds_in rfl (w_deeds_in S0 cc0 rfl rfl)
  exact wd.next (d := ⟨14, "deeds_in", 1, 0⟩) (DefOk.mk0 l_deeds_in hg F ok rfl rfl (fun _ _ _ _ _ _ us hl => match us, hl with | [_], _ => rfl)) (by decide)
theorem l__law_pen : ∀ ds μ Q E, S0.call 15 ds μ Q E → ds.length = 1 := fun ds μ Q E h => by
    have h : (sp_law_pen) ds μ Q E := h
    unfold sp_law_pen at h
    split at h <;> first | rfl | exact h.elim
theorem k__law_pen (X : K.In h) (Gn : h.Ns mainGlobals mg) (c : He.SaysD fa fn K) (wd : Wd (Pn 15) (G0 K) S0 prog w K mg base 17) : Wd (Pn 16) (G0 K) S0 prog w K mg base 18 := by
  obtain ⟨fd, F⟩ := c.def_ 15 (d := d__law_pen) rfl
  have hg : mg "_law_pen" = some (.ref (He.ga K "_law_pen")) := fa_glo X Gn c (List.mem_of_getElem? (i := 15) rfl)
  have ok := def_ok wd F s__law_pen u__law_pen (by decide) rfl c__law_pen rfl (w_law_pen S0)
  exact wd.next (d := ⟨15, "_law_pen", 1, 0⟩) (DefOk.mk0 l__law_pen hg F ok rfl rfl (fun _ _ _ _ _ _ us hl => match us, hl with | [_], _ => rfl)) (by decide)
theorem l__law_draw : ∀ ds μ Q E, S0.call 16 ds μ Q E → ds.length = 2 := fun ds μ Q E h => by
    have h : (sp_law_draw) ds μ Q E := h
    unfold sp_law_draw at h
    split at h <;> first | rfl | exact h.elim
theorem k__law_draw (X : K.In h) (Gn : h.Ns mainGlobals mg) (c : He.SaysD fa fn K) (wd : Wd (Pn 16) (G0 K) S0 prog w K mg base 18) : Wd (Pn 17) (G0 K) S0 prog w K mg base 19 := by
  obtain ⟨fd, F⟩ := c.def_ 16 (d := d__law_draw) rfl
  have hg : mg "_law_draw" = some (.ref (He.ga K "_law_draw")) := fa_glo X Gn c (List.mem_of_getElem? (i := 16) rfl)
  have ok := def_ok wd F s__law_draw u__law_draw (by decide) rfl c__law_draw rfl (w_law_draw S0)
  exact wd.next (d := ⟨16, "_law_draw", 2, 0⟩) (DefOk.mk0 l__law_draw hg F ok rfl rfl (fun _ _ _ _ _ _ us hl => match us, hl with | [_, _], _ => rfl)) (by decide)
theorem l__law_pick : ∀ ds μ Q E, S0.call 17 ds μ Q E → ds.length = 2 := fun ds μ Q E h => by
    have h : (sp_law_pick) ds μ Q E := h
    unfold sp_law_pick at h
    split at h <;> first | rfl | exact h.elim
theorem k__law_pick (X : K.In h) (Gn : h.Ns mainGlobals mg) (c : He.SaysD fa fn K) (wd : Wd (Pn 17) (G0 K) S0 prog w K mg base 19) : Wd (Pn 18) (G0 K) S0 prog w K mg base 20 := by
  obtain ⟨fd, F⟩ := c.def_ 17 (d := d__law_pick) rfl
  have hg : mg "_law_pick" = some (.ref (He.ga K "_law_pick")) := fa_glo X Gn c (List.mem_of_getElem? (i := 17) rfl)
  have ok := def_ok wd F s__law_pick u__law_pick (by decide) rfl c__law_pick rfl (w_law_pick S0 cp0)
  exact wd.next (d := ⟨17, "_law_pick", 2, 0⟩) (DefOk.mk0 l__law_pick hg F ok rfl rfl (fun _ _ _ _ _ _ us hl => match us, hl with | [_, _], _ => rfl)) (by decide)
theorem l__law_is_truth : ∀ ds μ Q E, S0.call 18 ds μ Q E → ds.length = 2 := fun ds μ Q E h => by
    have h : (sp_law_is_truth) ds μ Q E := h
    unfold sp_law_is_truth at h
    split at h <;> first | rfl | exact h.elim
theorem k__law_is_truth (X : K.In h) (Gn : h.Ns mainGlobals mg) (c : He.SaysD fa fn K) (wd : Wd (Pn 18) (G0 K) S0 prog w K mg base 20) : Wd (Pn 19) (G0 K) S0 prog w K mg base 21 := by
  obtain ⟨fd, F⟩ := c.def_ 18 (d := d__law_is_truth) rfl
  have hg : mg "_law_is_truth" = some (.ref (He.ga K "_law_is_truth")) := fa_glo X Gn c (List.mem_of_getElem? (i := 18) rfl)
  have ok := def_ok wd F s__law_is_truth u__law_is_truth (by decide) rfl c__law_is_truth rfl (w_law_is_truth S0)
  exact wd.next (d := ⟨18, "_law_is_truth", 2, 0⟩) (DefOk.mk0 l__law_is_truth hg F ok rfl rfl (fun _ _ _ _ _ _ us hl => match us, hl with | [_, _], _ => rfl)) (by decide)
theorem l__law_test : ∀ ds μ Q E, S0.call 19 ds μ Q E → ds.length = 3 := fun ds μ Q E h => by
    have h : (sp_law_test 7) ds μ Q E := h
    unfold sp_law_test at h
    split at h <;> first | rfl | exact h.elim
theorem k__law_test (X : K.In h) (Gn : h.Ns mainGlobals mg) (c : He.SaysD fa fn K) (wd : Wd (Pn 19) (G0 K) S0 prog w K mg base 21) : Wd (Pn 20) (G0 K) S0 prog w K mg base 29 := by
  obtain ⟨fd, F⟩ := c.def_ 19 (d := d__law_test) rfl
  have hg : mg "_law_test" = some (.ref (He.ga K "_law_test")) := fa_glo X Gn c (List.mem_of_getElem? (i := 19) rfl)
  have ok := fn_rec (prog := prog) (w := w) (mg := mg) (base := base) (K := K) (G := G0 K) (k := 21) (f := He.ga K "_law_test") (fd := fd) (ps := ["pen", "tests", "size"]) (sp := sp_law_test) (n := 3) (fun ds μ Q E h => by
      unfold sp_law_test at h
      split at h
      · obtain ⟨_, _, _, _, _, h, _⟩ := h; omega
      · exact h.elim) (fun m j hj ih => by
    have wd1 : Wd (Pn 19) (G0 K) (S0.put 19 (sp_law_test m)) prog w K mg base j := (wd.mono hj).cast rfl (fun d hd => by
      have : d.id < 19 := by
        have H : ∀ d ∈ funs.take 19, d.id < 19 := by decide
        exact H d hd
      exact ⟨Sg.put_ne S0 _ (by omega), rfl⟩)
    have wd2 : Wd (Pn 20) (G0 K) (S0.put 19 (sp_law_test m)) prog w K mg base j := wd1.next (d := ⟨19, "_law_test", 3, 0⟩) (DefOk.mk0 (fun ds μ Q E h => by
      have h : (sp_law_test m) ds μ Q E := h
      unfold sp_law_test at h
      split at h <;> first | rfl | exact h.elim) hg F ih rfl rfl (fun _ _ _ _ _ _ us hl => match us, hl with | [_, _, _], _ => rfl)) (Nat.le_refl _)
    exact def_ok wd2 F s__law_test u__law_test (by omega) rfl c__law_test rfl (w_law_test _ (cpP _ _ (by decide)) m (Sg.put_at _ _ _) rfl)) 7
  exact wd.next (d := ⟨19, "_law_test", 3, 0⟩) (DefOk.mk0 l__law_test hg F (ok.mono (by decide)) rfl rfl (fun _ _ _ _ _ _ us hl => match us, hl with | [_, _, _], _ => rfl)) (by decide)
theorem l__law_term : ∀ ds μ Q E, S0.call 20 ds μ Q E → ds.length = 4 := fun ds μ Q E h => by
    have h : (sp_law_term 11) ds μ Q E := h
    unfold sp_law_term at h
    split at h <;> first | rfl | exact h.elim
theorem k__law_term (X : K.In h) (Gn : h.Ns mainGlobals mg) (c : He.SaysD fa fn K) (wd : Wd (Pn 20) (G0 K) S0 prog w K mg base 29) : Wd (Pn 21) (G0 K) S0 prog w K mg base 41 := by
  obtain ⟨fd, F⟩ := c.def_ 20 (d := d__law_term) rfl
  have hg : mg "_law_term" = some (.ref (He.ga K "_law_term")) := fa_glo X Gn c (List.mem_of_getElem? (i := 20) rfl)
  have ok := fn_rec (prog := prog) (w := w) (mg := mg) (base := base) (K := K) (G := G0 K) (k := 29) (f := He.ga K "_law_term") (fd := fd) (ps := ["pen", "tests", "deeds", "size"]) (sp := sp_law_term) (n := 4) (fun ds μ Q E h => by
      unfold sp_law_term at h
      split at h
      · obtain ⟨_, _, _, _, _, _, _, h, _⟩ := h; omega
      · exact h.elim) (fun m j hj ih => by
    have wd1 : Wd (Pn 20) (G0 K) (S0.put 20 (sp_law_term m)) prog w K mg base j := (wd.mono hj).cast rfl (fun d hd => by
      have : d.id < 20 := by
        have H : ∀ d ∈ funs.take 20, d.id < 20 := by decide
        exact H d hd
      exact ⟨Sg.put_ne S0 _ (by omega), rfl⟩)
    have wd2 : Wd (Pn 21) (G0 K) (S0.put 20 (sp_law_term m)) prog w K mg base j := wd1.next (d := ⟨20, "_law_term", 4, 0⟩) (DefOk.mk0 (fun ds μ Q E h => by
      have h : (sp_law_term m) ds μ Q E := h
      unfold sp_law_term at h
      split at h <;> first | rfl | exact h.elim) hg F ih rfl rfl (fun _ _ _ _ _ _ us hl => match us, hl with | [_, _, _, _], _ => rfl)) (Nat.le_refl _)
    exact def_ok wd2 F s__law_term u__law_term (by omega) rfl c__law_term rfl (w_law_term _ (cpP _ _ (by decide)) m ((Sg.put_ne S0 _ (by decide)).trans rfl) rfl (Sg.put_at _ _ _) rfl)) 11
  exact wd.next (d := ⟨20, "_law_term", 4, 0⟩) (DefOk.mk0 l__law_term hg F (ok.mono (by decide)) rfl rfl (fun _ _ _ _ _ _ us hl => match us, hl with | [_, _, _, _], _ => rfl)) (by decide)
theorem l__law_names : ∀ ds μ Q E, S0.call 21 ds μ Q E → ds.length = 1 := fun ds μ Q E h => by
    have h : (sp_law_names) ds μ Q E := h
    unfold sp_law_names at h
    split at h <;> first | rfl | exact h.elim
theorem k__law_names (X : K.In h) (Gn : h.Ns mainGlobals mg) (c : He.SaysD fa fn K) (wd : Wd (Pn 21) (G0 K) S0 prog w K mg base 41) : Wd (Pn 22) (G0 K) S0 prog w K mg base 42 := by
  obtain ⟨fd, F⟩ := c.def_ 21 (d := d__law_names) rfl
  have hg : mg "_law_names" = some (.ref (He.ga K "_law_names")) := fa_glo X Gn c (List.mem_of_getElem? (i := 21) rfl)
  have ok := def_ok wd F s__law_names u__law_names (by decide) rfl c__law_names rfl (w_law_names S0 cp0)
  exact wd.next (d := ⟨21, "_law_names", 1, 0⟩) (DefOk.mk0 l__law_names hg F ok rfl rfl (fun _ _ _ _ _ _ us hl => match us, hl with | [_], _ => rfl)) (by decide)
theorem l__law_nodes : ∀ ds μ Q E, S0.call 23 ds μ Q E → ds.length = 1 := fun ds μ Q E h => by
    have h : (sp_law_nodes 20) ds μ Q E := h
    unfold sp_law_nodes at h
    split at h <;> first | rfl | exact h.elim
theorem k__law_nodes (X : K.In h) (Gn : h.Ns mainGlobals mg) (c : He.SaysD fa fn K) (wd : Wd (Pn 22) (G0 K) S0 prog w K mg base 42) : Wd (Pn 23) (G0 K) S0 prog w K mg base 63 := by
  obtain ⟨fd, F⟩ := c.def_ 23 (d := d__law_nodes) rfl
  have hg : mg "_law_nodes" = some (.ref (He.ga K "_law_nodes")) := fa_glo X Gn c (List.mem_of_getElem? (i := 23) rfl)
  have ok := fn_rec (prog := prog) (w := w) (mg := mg) (base := base) (K := K) (G := G0 K) (k := 42) (f := He.ga K "_law_nodes") (fd := fd) (ps := ["term"]) (sp := sp_law_nodes) (n := 1) (fun ds μ Q E h => by
      unfold sp_law_nodes at h
      split at h
      · obtain ⟨_, _, h, _⟩ := h; omega
      · exact h.elim) (fun m j hj ih => by
    have wd1 : Wd (Pn 22) (G0 K) (S0.put 23 (sp_law_nodes m)) prog w K mg base j := (wd.mono hj).cast rfl (fun d hd => by
      have : d.id < 23 := by
        have H : ∀ d ∈ funs.take 22, d.id < 23 := by decide
        exact H d hd
      exact ⟨Sg.put_ne S0 _ (by omega), rfl⟩)
    have wd2 : Wd (Pn 23) (G0 K) (S0.put 23 (sp_law_nodes m)) prog w K mg base j := wd1.next (d := ⟨23, "_law_nodes", 1, 0⟩) (DefOk.mk0 (fun ds μ Q E h => by
      have h : (sp_law_nodes m) ds μ Q E := h
      unfold sp_law_nodes at h
      split at h <;> first | rfl | exact h.elim) hg F ih rfl rfl (fun _ _ _ _ _ _ us hl => match us, hl with | [_], _ => rfl)) (Nat.le_refl _)
    exact def_ok wd2 F s__law_nodes u__law_nodes (by omega) rfl c__law_nodes rfl (w_law_nodes _ m (Sg.put_at _ _ _) rfl)) 20
  exact wd.next (d := ⟨23, "_law_nodes", 1, 0⟩) (DefOk.mk0 l__law_nodes hg F (ok.mono (by decide)) rfl rfl (fun _ _ _ _ _ _ us hl => match us, hl with | [_], _ => rfl)) (by decide)
theorem l__law_names_in : ∀ ds μ Q E, S0.call 24 ds μ Q E → ds.length = 1 := fun ds μ Q E h => by
    have h : (sp_law_names_in 40) ds μ Q E := h
    unfold sp_law_names_in at h
    split at h <;> first | rfl | exact h.elim
theorem k__law_names_in (X : K.In h) (Gn : h.Ns mainGlobals mg) (c : He.SaysD fa fn K) (wd : Wd (Pn 23) (G0 K) S0 prog w K mg base 63) : Wd (Pn 24) (G0 K) S0 prog w K mg base 104 := by
  obtain ⟨fd, F⟩ := c.def_ 24 (d := d__law_names_in) rfl
  have hg : mg "_law_names_in" = some (.ref (He.ga K "_law_names_in")) := fa_glo X Gn c (List.mem_of_getElem? (i := 24) rfl)
  have ok := fn_rec (prog := prog) (w := w) (mg := mg) (base := base) (K := K) (G := G0 K) (k := 63) (f := He.ga K "_law_names_in") (fd := fd) (ps := ["test"]) (sp := sp_law_names_in) (n := 1) (fun ds μ Q E h => by
      unfold sp_law_names_in at h
      split at h
      · obtain ⟨_, _, h, _⟩ := h; omega
      · exact h.elim) (fun m j hj ih => by
    have wd1 : Wd (Pn 23) (G0 K) (S0.put 24 (sp_law_names_in m)) prog w K mg base j := (wd.mono hj).cast rfl (fun d hd => by
      have : d.id < 24 := by
        have H : ∀ d ∈ funs.take 23, d.id < 24 := by decide
        exact H d hd
      exact ⟨Sg.put_ne S0 _ (by omega), rfl⟩)
    have wd2 : Wd (Pn 24) (G0 K) (S0.put 24 (sp_law_names_in m)) prog w K mg base j := wd1.next (d := ⟨24, "_law_names_in", 1, 0⟩) (DefOk.mk0 (fun ds μ Q E h => by
      have h : (sp_law_names_in m) ds μ Q E := h
      unfold sp_law_names_in at h
      split at h <;> first | rfl | exact h.elim) hg F ih rfl rfl (fun _ _ _ _ _ _ us hl => match us, hl with | [_], _ => rfl)) (Nat.le_refl _)
    exact def_ok wd2 F s__law_names_in u__law_names_in (by omega) rfl c__law_names_in rfl (w_law_names_in _ m (Sg.put_at _ _ _) rfl)) 40
  exact wd.next (d := ⟨24, "_law_names_in", 1, 0⟩) (DefOk.mk0 l__law_names_in hg F (ok.mono (by decide)) rfl rfl (fun _ _ _ _ _ _ us hl => match us, hl with | [_], _ => rfl)) (by decide)
theorem facts {P : Program} {f : Addr} (X : K.In h) (Gn : h.Ns mainGlobals mg) (hfa : mg ("law" : Str) = some (.ref f)) (c : SaysQ fa fn xs ex h K) (hf : P.main.file = PySem.Challenge.pw_loopproof_k11_whole_terms.main.file) (ht : (P.main.scope.names.lookup ("super" : Str)).isSome = false) :
    ∀ (base : Heap) (H : Hp) (s : Shared) (a : Addr) (ns : List Int), ns.length ≤ 63 → (∀ z ∈ ns, Builtin.Int.intBits z ≤ 1048576) → K.In base → base.Ns mainGlobals mg → LamX.TabB base mg (He.cT K lawDef).1 (He.cT K lawDef).2 → H (He.cT K lawDef).2 = some (.tbl #[]) → SqL K H a (ns.map V.int) → Env0 P w K mg base callerA [] s H →
      codeAny (model P w) callerA (.call (.ref f) ⟨[.ref a], []⟩) (CR (L2.CX P w) [] P w H s (fun v _ => v = .bl true) fun _ _ _ => False) s := by
  obtain ⟨fd, F⟩ := c.d.def_ 25 (d := d_law) rfl
  have e := hfa.symm.trans (fa_glo X Gn c.d (x := "law") (List.mem_of_getElem? (i := 25) rfl))
  cases e
  intro base H s a ns hlen hbits _ _ TB hT hS e0
  have wd0 : Wd (Pn 0) (G0 K) S0 P w K mg base 2 := w0 X Gn c hf ht
  have wd1 := k_is_name X Gn c.d wd0
  have wd2 := k_is_head X Gn c.d wd1
  have wd3 := k_test_parts X Gn c.d wd2
  have wd4 := k_is_test X Gn c.d wd3
  have wd5 := k_names_of_test X Gn c.d wd4
  have wd6 := k_parts_of X Gn c.d wd5
  have wd7 := k_is_leaf X Gn c.d wd6
  have wd8 := k_is_term X Gn c.d wd7
  have wd9 := k_need_term X Gn c.d wd8
  have wd10 := k_nodes_of X Gn c.d wd9
  have wd11 := k_term_size X Gn c.d wd10
  have wd12 := k_test_names X Gn c.d wd11
  have wd13 := k_deed_names X Gn c.d wd12
  have wd14 := k_tests_in X Gn c.d wd13
  have wd15 := k_deeds_in X Gn c.d wd14
  have wd16 := k__law_pen X Gn c.d wd15
  have wd17 := k__law_draw X Gn c.d wd16
  have wd18 := k__law_pick X Gn c.d wd17
  have wd19 := k__law_is_truth X Gn c.d wd18
  have wd20 := k__law_test X Gn c.d wd19
  have wd21 := k__law_term X Gn c.d wd20
  have wd22 := k__law_names X Gn c.d wd21
  have wd23 := k__law_nodes X Gn c.d wd22
  have wd24 := k__law_names_in X Gn c.d wd23
  have wdL : Wd (PL 24) (G0 K) S0 P w K mg base 104 := wd24.more
  have hrm : mg "repr" = none := fa_free X Gn c.d (by decide)
  refine law_enter wdL F s_law u_law (by decide) (fun cdv oc od osl fd' lk hcdv hr' i hi => ?_) ⟨rfl, by decide, by decide⟩ c_law (bindsTo_one F fun _ _ _ _ _ _ us hl => match us, hl with | [_], _ => rfl) hT rfl hS e0 (fun d hd => w_law cl0 ns d hlen hd)
  obtain ⟨oc', od', dV, kV, doc, pm, an, cdv', ct, osl', e1, lk', hcd, _, _⟩ := F.ex
  have e2 := lk.symm.trans lk'
  simp only [Option.some.injEq, Obj.mk.injEq, Data.func.injEq] at e2
  obtain ⟨_, _, e3, _⟩ := e2
  have hcd' : PySem.W.codeIn K fd'.code "law" = true := by rw [e3, e1]; exact hcd
  refine lam_ok (params := d_law.params) (body := d_law.body) rfl hcd' lk hcdv wdL (by decide) ⟨rfl, by decide, by decide⟩ TB fun d hd => ?_
  simp only [hnds, List.mem_cons, List.mem_nil_iff, or_false] at hd
  subst hd
  · obtain ⟨fg, Fg⟩ := c.d.def_ 22 (d := d__law_complaint) rfl
    exact hnd_ok (m := mt.get) (h := h__law_complaint) Fg (fa_glo X Gn c.d (List.mem_of_getElem? (i := 22) rfl)) rfl hb__law_complaint s__law_complaint (by decide) (clsF_of (gls := gls) (by decide) (fun x hx => fa_glo X Gn c.d hx) (ex_parts c.more).2.2.1 (ex_parts c.more).2.1 (by decide)) (hdOf_congr rfl _ _) hrm rfl (by show callerA.units + 3 + 200 < cLine; decide) (fun _ _ _ _ _ _ us hl => match us, hl with | [_], _ => rfl)
end
end K11

set_option Elab.async false
set_option linter.all false
set_option maxRecDepth 100000
set_option maxHeartbeats 0
namespace K11
open PySem PySem.Spec PyProof.Rows L2 PY
abbrev R : PySem.W.OpenRow := PySem.W.OpenLaw.row PySem.Challenge.rw_loopproof_k11_whole_terms
abbrev hk : PySem.W.Hook := hookQ 4 fa fn xs ex
abbrev lo0 : List PySem.Str := ["ProofError", "BadTerm", "SMALL", "FIGURES", "LONGEST", "WORDS", "is_name", "is_head", "test_parts", "is_test", "names_of_test", "ZERO", "ONE", "MOST_NODES", "MOST_DEPTH", "parts_of", "is_leaf", "is_term", "need_term", "nodes_of"]
abbrev lo1 : List PySem.Str := ["term_size", "test_names", "deed_names", "tests_in", "deeds_in", "_law_pen", "_law_draw", "_law_pick", "_law_is_truth", "_law_test", "_law_term", "_law_names", "_law_complaint", "_law_nodes", "_law_names_in"]
abbrev loose : List PySem.Str := lo0 ++ lo1
def ob (s : PySem.W.SharedT) : AlQ := obsQ 4 fa fn xs ex (HandSHeadRun.getT s)
theorem ob_eq (s : PySem.W.SharedT) : ob s = hk.obs s.abs := obsQ_eq (HandSHeadRun.getT_eq s)
theorem run (w : World) : HandSHeadRun.RunEq R (PySem.W.view R.prog [41]) hk ob 4000 K11.loose w := by
  intro os
  kernel_rfl
end K11
open PySem PySem.W PySem.Calls PyProof.Rows
theorem PySem.Challenge.cw_loopproof_k11_whole_terms_holds : PySem.Challenge.rw_loopproof_k11_whole_terms.Holds := by
  w_on; o_law
  refine HandSHeadRun.head_any (r := OpenLaw.row PySem.Challenge.rw_loopproof_k11_whole_terms) (q := view (OpenLaw.row PySem.Challenge.rw_loopproof_k11_whole_terms).prog [41]) (H := K11.hk) (ob := K11.ob) (M := 4000) (loose := K11.loose) (d := HandSHeadRun.topDef (OpenLaw.row PySem.Challenge.rw_loopproof_k11_whole_terms).prog 41) (kwd := []) K11.ob_eq
    (by kernel_rfl) (fun s => by kernel_rfl) K11.run (by kernel_rfl) (by kernel_rfl) (by kernel_rfl) (by rfl) (by first | assumption | decide +kernel) (by decide +kernel) ⟨rfl, rfl, rfl, rfl, rfl, by decide +kernel⟩ ?hw ?hc
  case hw => w_witness2
  case hc =>
    refine PY.walkQ (l := PySem.Challenge.rw_loopproof_k11_whole_terms) (n := 63) rfl (by decide) (by kernel_rfl) ?F
    intro w mg fa h Y G hmg0
    obtain ⟨K, KX, c⟩ := Y
    have hmg : mg ("law" : PySem.Str) = some (.ref fa) := by
      have e : (HandSHeadRun.topDef (OpenLaw.row PySem.Challenge.rw_loopproof_k11_whole_terms).prog 41).name = ("law" : PySem.Str) := by kernel_rfl
      rw [← e]
      exact hmg0
    exact ⟨K, _, _, KX, c.empty, c.out, PySem.W.codeHd_of_K KX c.hd, K11.facts (P := (PySem.Challenge.rw_loopproof_k11_whole_terms).prog) (w := w) KX G hmg c rfl (by kernel_rfl)⟩
