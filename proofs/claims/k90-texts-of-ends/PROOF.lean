import PyProof.Rows.All
import Wide.All
import OpenK.AllK
import Wide.FinOn
import KE.KExcSuper
import HandS.ForMost
import HandS.ForExc
import HandS.ExcInit
import HandS.ClsMeth
import HandS.Nested
import HandS.Star
import HandS.ExcIs
import HandS.ExcField
import KE.KExcIs
import HandS.TryOnly
import HandS.IsInst
import HandS.OwnEq
import HandS.DeepEq
import PyProof.NeKinds
import HandS.Defaults
import HandS.ExcOwn
import HandS.Text
import HandS.Flow
import HandS.Dict
import HandS.Walk
import HandS.FStr
import HandS.Iter
import HandS.Comp
import HandS.Style
import HandS.Conv
import HandS.NoneIn
import PySem.Challenge.RW_layerseen_k90_texts_of_ends
import HandS.More
import HandS.WordsDict
import HandS.List
import PyProof.P3Eq
import HandS.Rev
import HandS.Ends
set_option Elab.async false
set_option maxRecDepth 100000
set_option maxHeartbeats 4000000
/-! super().__init__(..) as the first statement of a def: of an own instance, of an own exception -/
namespace Ly
open PySem PySem.Spec PyProof.Rows L2 NdefX ClX

/-- a block that runs as a def's own (its activation is known) -/
def PSat (X : Cx) (b0 : List Stmt) (sts : List Stmt) (t : TS) : Prop :=
  ∀ (pins : List (Addr × Obj)) (s : Shared) (σ : L2.St) (H : Hp) (D : Ends), Inv X pins σ H s → t D σ H →
    PySem.wpAt (model X.prog X.w) X.A (.func b0 X.env) (execs sts X.env) (SP X pins D) X.xe s

theorem PSat.of {X : Cx} {b0 sts : List Stmt} {t : TS} (h : PSs X sts t) : PSat X b0 sts t := fun pins s σ H D I q => wpAt_of_wpAny (h.run pins s σ H D I q)

/-- what the written part tells of a def that says super() -/
structure SupT (X : Cx) (f cc cda D : Addr) : Prop where
  fn : ∃ (oc : Value) (od : Option Addr) (osl : Array (Option Value)) (fd : FuncData) (ar : Arg), X.K.lookup f = some ⟨oc, od, .func fd, osl⟩ ∧ (fd.params.posonlyargs ++ fd.params.args).head? = some ar ∧ X.N[0]? = some ar.arg ∧ X.env.kindOf ar.arg = some .local ∧
    (ar.arg == ("__debug__" : Str)) = false
  code : ∃ (oc : Value) (od : Option Addr) (osl : Array (Option Value)) (vs : Array Value) (file : Str) (tf : Tok), X.K.lookup cda = some ⟨oc, od, .fields vs, osl⟩ ∧ vs[2]? = some (.str file tf) ∧ ((X.prog.main.file : Str) == file) = true
  cell : ∃ (oc : Value) (od : Option Addr) (osl : Array (Option Value)), X.K.lookup cc = some ⟨oc, od, .cell (some (.ref D)), osl⟩
  dcl : ∃ cd, PySem.W.clsIn X.K D = some cd
  sup : X.mg "super" = none
  top : (X.prog.main.scope.names.lookup ("super" : Str)).isSome = false
  ef : X.env.func = some f
  ec : X.env.code = .ref cda
  el : X.env.cells.lookup ("__class__" : Str) = some cc
  ks : X.env.kindOf "super" = some .globalImplicit
  kc : X.env.kindOf "__class__" = some .free

theorem boot_super : bootBuiltins ("super" : Str) = some (.type "super") := PyProof.Rows.Boot.«super»

section
variable {X : Cx} {f cc cda D : Addr} {pins : List (Addr × Obj)} {σ : L2.St} {H : Hp} {s : Shared}
/-- the super object is made -/
theorem sup_node {b0 : List Stmt} {p0 p1 : Pos} {attr : Str} {whole : Sem Value} {a C : Addr} {ox : Obj} {odx : Option Obj} {Q : Value → Shared → Prop} (T : SupT X f cc cda D) (I : Inv X pins σ H s) (h0 : σ[0]? = some (some (.ref a)))
    (J : PySem.W.InstAt s.heap a ox C odx) (hsub : PySem.W.mroIn X.K C (.ref D) = some true) (hat : (attr == ("__class__" : Str)) = false)
    (h : ∀ so h', h'.get? so = some (PySem.W.ks_superObj D a C) → s.heap.objs.size ≤ so → (∀ y o, s.heap.get? y = some o → h'.get? y = some o) → Q (.ref so) { s with heap := h' }) :
    PySem.wpAt (model X.prog X.w) X.A (.func b0 X.env) (attributeBase (.Call (.Name "super" p0) [] [] p1) attr X.env whole) Q X.xe s := by
  have KX : X.K.In s.heap := I.kIn
  obtain ⟨oc1, od1, os1, fd, ar, lk, hp, hN, hka, hdb⟩ := T.fn
  obtain ⟨oc2, od2, os2, vs, file, tf, lc, hvs, hfile⟩ := T.code
  obtain ⟨oc3, od3, os3, lcell⟩ := T.cell
  obtain ⟨cdD, hD⟩ := T.dcl
  obtain ⟨oD, hD1, hD2⟩ : ∃ oD, s.heap.get? D = some oD ∧ oD.data = .cls cdD := by
    unfold PySem.W.clsIn at hD
    split at hD
    · rename_i c d cd' sl ho
      cases hD
      exact ⟨_, KX _ _ ho, rfl⟩
    · cases hD
  obtain ⟨m, hns, hl⟩ := I.loc
  obtain ⟨u, ru, lu⟩ := hl 0 ar.arg _ hN h0 (.inl hka)
  obtain rfl : u = Value.ref a := ru
  have hm : m ar.arg = some (.ref a) := by
    rcases lu with ⟨_, e⟩ | ⟨k, _⟩
    · exact e
    · rw [hka] at k
      rcases k with k | k <;> cases k
  refine PySem.ks_wpAt_super_base (env := X.env) T.ks T.kc hat T.ef (KX _ _ lk) rfl hp T.ec (KX _ _ lc) rfl hvs hfile T.top ?_
  obtain ⟨mb, hb1, hb2⟩ := I.mod.blt
  refine PySem.W.ks_loadName_global I.ok.kind T.ks (Calls.loadGlobal_builtin (by rw [I.ok.glob]; exact I.mod.glob.keeps I.bk) T.sup (by rw [I.ok.blt]; exact hb1.keeps I.bk) ((hb2 _ (by decide)).trans boot_super) ⟨rfl, ?_⟩)
  refine wpAny_loadName_free I.ok.kind T.kc T.el ⟨_, KX _ _ lcell, rfl⟩ ?_
  refine wpAny_loadName_local I.ok.kind hka hns hm ?_
  refine PySem.ks_wpAny_isType_cls hD1 hD2 ⟨rfl, ?_⟩
  obtain ⟨hh, g, d, t, os⟩ := s
  refine PySem.ks_wpAny_call_super hD1 hD2 J.at_ J.cls (fun c e => ?_) (PySem.W.looks_mroIn KX hsub) (fun h' e k => ?_)
  · have := J.no
    unfold PySem.W.notCls at this
    rw [e] at this
    exact Bool.noConfusion this
  · exact h _ _ e (Nat.le_refl _) k

theorem inst_of {a C dx : Addr} {fs : List (Str × V)} (I : Inv X pins σ H s) (ea : H a = some (.ins C dx fs)) : ∃ ox od, PySem.W.InstAt s.heap a ox C (some od) := by
  obtain ⟨mA, O, rr, _, _, _⟩ := ins_get I.hok ea
  obtain ⟨od, J, hl⟩ := O.look
  exact ⟨_, od, J⟩
end

/-- super().__init__(..): the next __init__ is the def at g -/
structure SupM (K : PySem.W.Frag) (C D g : Addr) : Prop where
  sub : PySem.W.mroIn K C (.ref D) = some true
  nx : PySem.W.ks_superIn K C D "__init__" = some (some (.ref g))
  ty : PySem.W.typeIn K (.ref g) = some (.type "function")
  fi : PySem.W.fnIn K g = true
  op : PySem.W.nsIn K cStatics "thirdparty.any" = some none

def tSupI (K : PySem.W.Frag) (D g : Addr) (sp : Sp) (E : XK) (ta : TA) : TS := fun Dn σ H => ∃ a C dx fs, σ[0]? = some (some (.ref a)) ∧ H a = some (.ins C dx fs) ∧ SupM K C D g ∧
  ta σ H fun vs H2 => sp (.ref a :: vs) H2 (fun _ H3 => Dn.nx σ H3) E

theorem unpinAt {X : Cx} {pins : List (Addr × Obj)} {p : Addr × Obj} {σ : L2.St} {H : Hp} {s : Shared} (I : Inv X (p :: pins) σ H s) : Inv X pins σ H s := unpin I

section
variable {X : Cx} {f cc cda D g : Addr} {CX : CXT} {k : Nat} {sp : Sp} {E : XK} {e : Expr} {es : List Expr} {ta : TA} {p0 p1 ap pos pos2 : Pos} {pl : Sem Bool}
theorem kept_in {P : Program} {w : World} {H : Hp} {h h' : Heap} (_ : HOk P w H h) (k : ∀ b u, h.get? b = some u → h'.get? b = some u) : ∀ b u, h.get? b = some u → h'.get? b = some u := k
theorem alongS {K : PySem.W.Frag} {C D : Addr} {n : Str} {v : Option Value} (h : PySem.W.ks_superIn K C D n = some v) : ∃ cd, PySem.W.clsIn K C = some cd ∧ PySem.W.alongIn K n ((cd.mro.dropWhile (· != .ref D)).drop 1) = some v := by
  unfold PySem.W.ks_superIn at h
  cases hc : PySem.W.clsIn K C with
  | none => rw [hc] at h; cases h
  | some cd => rw [hc] at h; exact ⟨cd, rfl, h⟩
theorem ps_sup {b0 rest : List Stmt} {t : TS} (T : SupT X f cc cda D) (F : FnR X.prog X.w X.K X.mg X.base CX k g sp) (hr : Room k X.A) (hx : Passes CX X E) (ha : PA X (e :: es) ta) (hrest : PSs X rest t)
    (hi : interactive X.env = false := by rfl)
    (ht : eval (.Call (.Attribute (.Call (.Name "super" p0) [] [] p1) "__init__" ap) (e :: es) [] pos) X.env = (do
      let ov ← attributeBase (.Call (.Name "super" p0) [] [] p1) "__init__" X.env (eval (.Call (.Name "super" p0) [] [] p1) X.env)
      standAt ap.atName
      let (f, first) ← holding [ov] (getMethod ov "__init__" pl)
      callWith pos f first (backTo pos (starEach (e :: es) X.env)) []) := by rfl)
    (hst : starEach (e :: es) X.env = (false, eval e X.env) :: starEach es X.env := by rfl) (hpl : (backTo pos (starEach es X.env)).any (·.1) = false := by rfl) :
    PSat X b0 (.Expr (.Call (.Attribute (.Call (.Name "super" p0) [] [] p1) "__init__" ap) (e :: es) [] pos) pos2 :: rest) (fun Dn σ H => tSupI X.K D g sp E ta { Dn with nx := t Dn } σ H) := by
  intro pins s σ H Dn I ⟨a, C, dx, fs, h0, ea, M, q⟩
  obtain ⟨ox, od, J⟩ := inst_of I ea
  obtain ⟨cd, hc, hal⟩ := alongS M.nx
  refine ks_wpAt_execs_cons (ks_wpAt_Expr_any (ks_wpAt_MethodCall (pl := pl) ?_ ht) hi)
  refine sup_node T I h0 J M.sub (by decide) fun so h' hso hge hk => ?_
  have I1 : Inv X pins σ H { s with heap := h' } := I.kept (t' := s.toks) hk
  obtain ⟨of, hof, hofc⟩ : ∃ of, h'.get? g = some of ∧ of.cls = .type "function" := by
    have ht' : (X.K.lookup g).map (·.cls) = some (.type "function") := M.ty
    cases z : X.K.lookup g with
    | none => rw [z] at ht'; cases ht'
    | some of => rw [z] at ht'; exact ⟨of, I1.kIn _ _ z, Option.some.inj ht'⟩
  obtain ⟨ox1, od1, J1⟩ := inst_of I1 ea
  obtain ⟨hp, gg, d, tk, os⟩ := s
  refine ks_wpAny_getMethod_super hso (PySem.W.looks_opaque I1.kIn M.op) (l₀ := cd.mro) (fun A Q E s k q => wpAny_bind ((PySem.W.looks_clsIn I1.kIn hc) A _ E s k (wpAny_pure q))) rfl I1.kIn hal hof hofc (PySem.W.ks_ne I1.kIn J1 hc) (by decide) ?_
  have I2 := met_new (g := g) (C := a) I1
  refine callwith_cm I2 (base_none I1 (Nat.le_refl _)) M.fi (thn (ha.run pos _ _ σ H _ I2 q) fun us s3 ⟨vs, H2, I3, rv, q2⟩ => ⟨⟨pin_at I3, I3.kIn⟩, ?_⟩) hst hpl
  refine wpAny_mono (run_cm F hr hx I3 rv q2) (fun u s4 ⟨v, H4, I4, _, q4⟩ => ?_) fun _ _ z => z
  exact wpAt_of_wpAny (hrest.run pins s4 σ H4 Dn I4 q4)
end

/-- THE RULE for a def whose class cell is captured (it says super()) -/
theorem fn_sup {CX : CXT} {P : Program} {w : World} {K : PySem.W.Frag} {mg : Str → Option Value} {base : Heap} {k : Nat} {f cc cda D : Addr} {name qual : Str} {params : Arguments} {body : List Stmt} {scope : Scope} {dV kV doc pm ct oc cl : Value} {an od cld : Option Addr}
    {osl csl : Array (Option Value)} {N ps : List Str} {sp : Sp} (lk : K.lookup f = some ⟨oc, od, .func (PySem.W.fnX name qual params body scope [("__class__", cc)] dV kV doc pm an (.ref cda) ct), osl⟩) (hcd : PySem.W.codeIn K (.ref cda) qual = true)
    (S : NScope N ps ["__class__"] scope) (hcell : K.lookup cc = some ⟨cl, cld, .cell (some (.ref D)), csl⟩) (len : ∀ vs H Q E, sp vs H Q E → vs.length = ps.length)
    (hbody : ∀ (A : Around) (outer : List Env) (s : Shared) (H : Hp) (vs : List V) (Q : VK) (E : XK), Room k (A.deeper (envF ⟨name, qual, params, body, scope, [("__class__", cc)], cda⟩ f s.heap.objs.size)) → sp vs H Q E →
      ∃ t, PSat (ncx CX P w K mg base N ⟨name, qual, params, body, scope, [("__class__", cc)], cda⟩ f A outer s H E) body body t ∧ t { nx := fun _ H' => Q .non H', rt := Q } (startF N vs [some (.ref D)]) H) :
    FnOk P w K mg base CX (k + 1) f (PySem.W.fnX name qual params body scope [("__class__", cc)] dV kV doc pm an (.ref cda) ct) ps sp := by
  refine ⟨len, fun A outer s H args us vs Q E hr e0 hb r hsp => ?_⟩
  have hl := len _ _ _ _ hsp
  have KX : K.In s.heap := e0.mod.kin.keeps fun b o e => (e0.bs b o e).1
  have lim : s.heap.NoLimit := e0.mod.nolimit.keeps fun b o e => (e0.bs b o e).1
  have bc := e0.bs _ _ (e0.mod.kin _ _ hcell)
  have C : CellsAt [("__class__", cc)] ["__class__"] [some (V.ref D)] s.heap H := by
    have lo : ∀ y c, ([("__class__", cc)] : List (Str × Addr)).lookup y = some c → y = "__class__" ∧ c = cc := fun y c e => by
      rw [List.lookup_cons] at e
      cases q : (y == ("__class__" : Str)) with
      | true => rw [q] at e; cases e; exact ⟨beq_iff_eq.mp q, rfl⟩
      | false => rw [q] at e; cases e
    refine ⟨rfl, fun y c e => ?_, fun x y c h1 h2 => (lo x c h1).1.trans (lo y c h2).1.symm, fun i y e => ?_⟩
    · obtain ⟨_, rfl⟩ := lo y c e
      exact ⟨bc.2, _, _, bc.1, rfl⟩
    · match i, e with
      | 0, e =>
        cases e
        refine ⟨cc, by rw [List.lookup_cons]; simp, fun v hv => ?_⟩
        cases hv
        exact ⟨_, rfl, _, bc.1, rfl⟩
      | i + 1, e => simp at e
  refine ks_codeAny_call_defAt (fd := PySem.W.fnX name qual params body scope [("__class__", cc)] dV kV doc pm an (.ref cda) ct) (body := body) (binds := ps.zip us) hr.depth (KX _ _ lk) rfl lim (PySem.W.codeRec_of KX hcd) rfl hb S.nocell (fun y hy => S.par y.1 (List.of_mem_zip hy).1) (fun h₀ hns kp => ?_) S.co S.gen S.kind
  obtain ⟨t, ht, hq⟩ := hbody A outer s H vs Q E (hr.deeper _) hsp
  have I : Inv (ncx CX P w K mg base N ⟨name, qual, params, body, scope, [("__class__", cc)], cda⟩ f A outer s H E) [] (startF N vs [some (V.ref D)]) H { s with heap := h₀, toks := s.toks + (ps.zip us).length } := inv_startN S hr.hd e0 hl r C hns kp
  refine ks_wpAt_mono (ht [] _ _ H _ I hq) (fun fl s' hs => ?_) fun e s' hs => hs
  have fin : ∀ {σ' : L2.St} {H' : Hp} {v : V} {u : Value}, Inv (ncx CX P w K mg base N ⟨name, qual, params, body, scope, [("__class__", cc)], cda⟩ f A outer s H E) [] σ' H' s' → RelV v u → Q v H' → CE outer P w H s Q u s' :=
    fun {σ' H' v u} J rv q => ⟨v, H', J.os, J.bare, J.base, J.hok, rv, q⟩
  cases fl with
  | ret u =>
    obtain ⟨v, σ', H', J, rv, q⟩ := hs
    exact fin J rv q
  | next =>
    obtain ⟨σ', H', J, q⟩ := hs
    exact fin (v := V.non) (u := Value.none) J rfl q
  | brk =>
    obtain ⟨_, _, _, q⟩ := hs
    exact False.elim q
  | cont =>
    obtain ⟨_, _, _, q⟩ := hs
    exact False.elim q

/-! ### super().__init__(..) of an exception that is being made: the built-in's -/
structure SupX (K : PySem.W.Frag) (C D : Addr) : Prop where
  sub : PySem.W.mroIn K C (.ref D) = some true
  nx : PySem.W.ks_superIn K C D "__init__" = some (some (.builtin "ValueError.__init__"))
  ve : PySem.W.subIn K (.ref C) (.type "ValueError") = some true
  op : PySem.W.nsIn K cStatics "thirdparty.any" = some none
  oe : OexC K C
def tSupX (K : PySem.W.Frag) (D : Addr) (ta : TA) : TS := fun Dn σ H => ∃ a C, σ[0]? = some (some (.ref a)) ∧ H a = some (exo a C none) ∧ SupX K C D ∧
  ta σ H fun vs H2 => vs.length ≤ 1000 ∧ H2 a = some (exo a C none) ∧ Dn.nx σ H2
section
variable {X : Cx} {f cc cda D : Addr} {e : Expr} {es : List Expr} {ta : TA} {p0 p1 ap pos pos2 : Pos} {pl : Sem Bool} {pins : List (Addr × Obj)} {σ : L2.St} {H : Hp} {s : Shared}
theorem xinst_of {a C : Addr} (I : Inv X pins σ H s) (ea : H a = some (exo a C none)) : ∃ ox, PySem.W.InstAt s.heap a ox C none := by
  obtain ⟨t1, ho⟩ := exo_at I.hok ea
  exact ⟨_, ho, rfl, rfl, trivial⟩
theorem mw_new {a : Addr} (I : Inv X pins σ H s) : Inv X ((s.heap.objs.size, PySem.W.kxs_mw "ValueError.__init__" a) :: pins) σ H { s with heap := s.heap.push (PySem.W.kxs_mw "ValueError.__init__" a), toks := s.toks + 1 } :=
  pin_new I (fun _ _ z => Heap.get?_push_of_some _ z) (Nat.le_refl _) (Heap.get?_push_size s.heap rfl) (fun v z => nomatch z)
theorem mw_call {a C q : Addr} {us : List Value} {Q : Value → Shared → Prop} {A : Around} {E : Value → Shared → Prop} (T : OexC X.K C) (I : Inv X ((q, PySem.W.kxs_mw "ValueError.__init__" a) :: pins) σ H s) (e : H a = some (exo a C none)) (hl : us.length ≤ sizeLine)
    (h : ∀ s', Inv X ((q, PySem.W.kxs_mw "ValueError.__init__" a) :: pins) σ H s' → Q .none s') : wpAny (model X.prog X.w) A (call (.ref q) us) Q E s := by
  have hu := pin_at I
  obtain ⟨nm, qn, N, bs, bm, sn, sub, ab, col, dd, k0, k1, k2, k3, k5, hC, hbm⟩ := T.cls
  obtain ⟨t1, ho⟩ := exo_at I.hok e
  refine wpAny_call (codeAny_of_tree ?_)
  show wpAny _ A.in1 (callAny (.ref q) ⟨us, []⟩) _ _ _
  simp only [callAny]
  refine wpAny_bind (wpAny_load hu ?_)
  simp only [show (Value.type "method-wrapper" == Value.type "method" || Value.type "method-wrapper" == Value.type "builtin_function_or_method" || Value.type "method-wrapper" == Value.type "method-wrapper") = true by decide, if_true]
  refine PySem.W.KFB.if_so (by decide) ?_
  have KX := I.kIn
  have fin : ∀ h' t2, (∀ b o, b ≠ a → s.heap.get? b = some o → h'.get? b = some o) → h'.get? a = some (PySem.HandSPX.excO C t2) → Q .none { s with heap := h' } := fun h' t2 k hx => by
    have J := I.write (t' := s.toks) (x := a) (e := a) (o := exo a C none) (by rw [e]; exact True.intro) (.inl rfl) k ⟨_, hx⟩ (exo_ok hx)
    have eu : upd H a (exo a C none) = H := by
      funext b
      by_cases hb : b = a
      · rw [hb, upd_same, e]
      · rw [upd_ne hb]
    rw [eu] at J
    exact h _ J
  obtain ⟨hp, g, d, t, os⟩ := s
  refine wpAny_bind (PySem.W.check_bound_init F.excBase_ValueError.toExcCallFacts (KX _ _ hC) ho rfl ?_)
  refine wpAny_bind (wpAny_pure (wpAny_pure ?_))
  refine ⟨Code.quiet_builtin _ (by decide +kernel), codeAny_builtin F.excBase_ValueError.initEntry ?_⟩
  rw [Around.under_plainId F.excBase_ValueError.init.plain _]
  wp_walk
  refine fin _ hp.objs.size (fun b o hb ho => ?_) ?_
  · rw [Heap.get?_update_other _ _ (Ne.symm hb)]
    exact Heap.get?_push_of_some _ ho
  · rw [Heap.get?_update_self _ (Heap.get?_push_of_some _ ho) rfl]
    rfl
theorem mw_with {M : Model} {A : Around} {E : Value → Shared → Prop} {pos : Pos} {env : Env} {u x : Addr} {i : String} {e : Expr} {rest : List Expr} {Q : Value → Shared → Prop}
    (h : wpAny M A (spliced (backTo pos (starEach (e :: rest) env))) (fun vs s₁ => PySem.W.KxsAt i u x s₁.heap ∧ wpAny M A (call (.ref u) vs) Q E s₁) E s)
    (he : starEach (e :: rest) env = (false, eval e env) :: starEach rest env) (hplain : (backTo pos (starEach rest env)).any (·.1) = false) :
    wpAny M A (callWith pos (.ref u) [] (backTo pos (starEach (e :: rest) env)) []) Q E s := by
  rw [he] at h ⊢
  refine PySem.W.kxs_callWith (i := i) (x := x) (by show (false || (backTo pos (starEach rest env)).any (·.1)) = false; rw [hplain]; rfl) ?_
  exact Calls.evalArgs_plain h
theorem ps_supX {b0 rest : List Stmt} {t : TS} (T : SupT X f cc cda D) (ha : PA X (e :: es) ta) (hrest : PSs X rest t)
    (hi : interactive X.env = false := by rfl)
    (ht : eval (.Call (.Attribute (.Call (.Name "super" p0) [] [] p1) "__init__" ap) (e :: es) [] pos) X.env = (do
      let ov ← attributeBase (.Call (.Name "super" p0) [] [] p1) "__init__" X.env (eval (.Call (.Name "super" p0) [] [] p1) X.env)
      standAt ap.atName
      let (f, first) ← holding [ov] (getMethod ov "__init__" pl)
      callWith pos f first (backTo pos (starEach (e :: es) X.env)) []) := by rfl)
    (hst : starEach (e :: es) X.env = (false, eval e X.env) :: starEach es X.env := by rfl) (hpl : (backTo pos (starEach es X.env)).any (·.1) = false := by rfl) :
    PSat X b0 (.Expr (.Call (.Attribute (.Call (.Name "super" p0) [] [] p1) "__init__" ap) (e :: es) [] pos) pos2 :: rest) (fun Dn σ H => tSupX X.K D ta { Dn with nx := t Dn } σ H) := by
  intro pins s σ H Dn I ⟨a, C, h0, ea, M, q⟩
  obtain ⟨ox, J⟩ := xinst_of I ea
  obtain ⟨cd, hc, hal⟩ := alongS M.nx
  refine ks_wpAt_execs_cons (ks_wpAt_Expr_any (ks_wpAt_MethodCall (pl := pl) ?_ ht) hi)
  refine sup_node T I h0 J M.sub (by decide) fun so h' hso hge hk => ?_
  have I1 : Inv X pins σ H { s with heap := h' } := I.kept (t' := s.toks) hk
  obtain ⟨ox1, J1⟩ := xinst_of I1 ea
  have hI : PySem.W.Looks (model X.prog X.w) h' (isInstance (.ref a) (.type "ValueError")) true := J1.type.andThen (PySem.W.looks_subIn I1.kIn M.ve)
  obtain ⟨hp, gg, d, tk, os⟩ := s
  refine PySem.W.kxs_getMethod PySem.W.kxs_ValueError hso (PySem.W.looks_opaque I1.kIn M.op) (l₀ := cd.mro) (fun A Q E s k q => wpAny_bind ((PySem.W.looks_clsIn I1.kIn hc) A _ E s k (wpAny_pure q))) rfl I1.kIn hal hI (PySem.W.ks_ne I1.kIn J1 hc) (by decide) ?_
  have I2 := mw_new (a := a) I1
  refine mw_with (x := a) (i := "ValueError.__init__") (thn (ha.run pos _ _ σ H _ I2 q) fun us s3 ⟨vs, H2, I3, rv, hl, e2, q2⟩ => ⟨pin_at I3, ?_⟩) hst hpl
  refine mw_call M.oe I3 e2 (by rw [← Paired.length rv, sizeLine_eq]; omega) fun s4 I4 => ?_
  exact wpAt_of_wpAny (hrest.run pins s4 σ H2 Dn (unpin I4) q2)
end
end Ly

set_option Elab.async false
set_option maxRecDepth 100000
set_option maxHeartbeats 4000000
set_option linter.all false
/-! except C as n: the caught error stays known behind its suite -/
namespace Ly
open PySem PySem.Spec PyProof.Rows L2 NdefX ClX

/-- a caught error: its class, its dict -/
def xob (a : Addr) (cls : Value) (d : Option Addr) : HO := .ext fun h => ∃ oe vs, h.get? a = some oe ∧ Zc cls d oe ∧ oe.data = .fields vs
theorem xob_ok {P : Program} {w : World} {H : Hp} {h : Heap} {a : Addr} {cls : Value} {d : Option Addr} {oe : Obj} {vs : Array Value} (e : h.get? a = some oe) (z : Zc cls d oe) (hd : oe.data = .fields vs) : ObjOk P w H h a (xob a cls d) :=
  ⟨⟨oe, vs, e, z, hd⟩, ⟨oe, e⟩, fun _ _ ⟨o, v, q, r⟩ k => ⟨o, v, k o q, r⟩⟩
theorem xob_at {P : Program} {w : World} {H : Hp} {h : Heap} {a : Addr} {cls : Value} {d : Option Addr} (hok : HOk P w H h) (e : H a = some (xob a cls d)) : ∃ oe vs, h.get? a = some oe ∧ Zc cls d oe ∧ oe.data = .fields vs := by
  obtain ⟨z, _, _⟩ := hok a _ e
  exact z

theorem Inv.track {X : Cx} {pins : List (Addr × Obj)} {σ : L2.St} {H : Hp} {s : Shared} {a : Addr} {o : HO} (I : Inv X pins σ H s) (hn : H a = none) (n0 : X.s_0.heap.get? a = none) (nL : a ≠ X.env.locals) (nc : ∀ x c, X.env.cells.lookup x = some c → c ≠ a)
    (np : ∀ p ∈ X.pn ++ pins, p.1 ≠ a) (new : ObjOk X.prog X.w (upd H a o) s.heap a o) : Inv X pins σ (upd H a o) s where
  ok := I.ok
  os := I.os
  bare := I.bare
  base := by
    have nb : ∀ b ob, X.s_0.heap.get? b = some ob → b ≠ a := fun b ob e z => by rw [z, n0] at e; cases e
    refine ⟨I.base.keep, I.base.slot, fun b ob e n hx => by rw [upd_ne (nb b ob e)]; exact I.base.free b ob e n hx, I.base.there, fun b xs e => ?_, fun b ob xs e => ?_, fun b ps e => ?_⟩
    · have q := I.base.tups b xs e
      rw [upd_ne (ne_of_none q hn)]; exact q
    · have q := I.base.frzs b ob xs e
      rw [upd_ne (ne_of_none q hn)]; exact q
    · obtain ⟨m, q⟩ := I.base.tbls b ps e
      exact ⟨m, by rw [upd_ne (ne_of_none q hn)]; exact q⟩
  loc := I.loc
  cell := I.cell
  free := by rw [upd_ne (Ne.symm nL)]; exact I.free
  freeC := fun x c e => by rw [upd_ne (nc x c e)]; exact I.freeC x c e
  pin := fun p hp => by
    obtain ⟨e, n, r⟩ := I.pin p hp
    exact ⟨e, by rw [upd_ne (np p hp)]; exact n, r⟩
  hok := fun b u e => by
    by_cases hb : b = a
    · subst hb
      rw [upd_same] at e
      cases e
      exact new
    · rw [upd_ne hb] at e
      exact (I.hok b u e).stay (fun c v _ q => q) (fun c q => by rw [upd_ne (ne_of_none q hn)]; exact q) fun c xs q => by rw [upd_ne (ne_of_none q hn)]; exact q
  len := I.len

abbrev suiteK (X : Cx) (a : Addr) (pn : List (Addr × Obj)) : Cx := X.suite a pn
theorem Inv.suiteK {X : Cx} {pins : List (Addr × Obj)} {σ : L2.St} {H : Hp} {s : Shared} (I : Inv X pins σ H s) (a : Addr) : Inv (X.suite a (X.pn ++ pins)) [] σ H s :=
  ⟨I.ok.suite _ _, I.os, I.bare, I.base, I.loc, I.cell, I.free, I.freeC, fun p hp => I.pin p (by rw [List.append_nil] at hp; exact hp), I.hok, I.len⟩
theorem Inv.unsuiteK {X : Cx} {pins pn' : List (Addr × Obj)} {σ : L2.St} {H : Hp} {s : Shared} {a : Addr} (I : Inv (X.suite a (X.pn ++ pins)) pn' σ H s) (ok : X.Ok) : Inv X pins σ H s :=
  ⟨ok, I.os, I.bare, I.base, I.loc, I.cell, I.free, I.freeC, fun p hp => I.pin p (List.mem_append_left _ hp), I.hok, I.len⟩

def wKeep (K : PySem.W.Frag) (c : Value) (i : Nat) (ts : TS) (Wout : WX) (D : Ends) : WX := fun cls d σ H =>
  ∃ b, PySem.W.exmOne K cls c = some b ∧ (b = true → ∀ a, H a = none → ts { nx := fun σ' H' => D.nx (σ'.set i none) H', rt := D.rt, bk := fun σ' H' => D.bk (σ'.set i none) H', ct := fun σ' H' => D.ct (σ'.set i none) H' } (σ.set i (some (.ref a))) (upd H a (xob a cls d))) ∧
    (b = false → Wout cls d σ H)

section
variable {X : Cx} {x n : Str} {c : Value} {i : Nat} {body suite : List Stmt} {b₀ : Stmt} {np pos pos' : Pos} {tb : WX → TS} {ts : TS} {Wout : WX}
theorem ps_try_keep (hex : X.ex = []) (hs : X.stack = X.env :: X.outer) (hf : X.env.frame = some X.env.locals) (hN : X.N.Nodup) (hi : X.N[i]? = some n) (hln : X.env.kindOf n = some .local) (hc : Names X x c) (tk : Takes X Wout)
    (hb : ∀ (W : WX) (pn : List (Addr × Obj)) (xe : Value → Shared → Prop), Takes (X.tr pn xe) W → PassesOwn (model X.prog X.w) X.A X.env xe → PSs (X.tr pn xe) body (tb W))
    (hsu : ∀ (a : Addr) (pn : List (Addr × Obj)), PSs (X.suite a pn) (b₀ :: suite) ts) :
    PS X (.Try body [.ExceptHandler (some (.Name x np)) (some n) (b₀ :: suite) pos'] [] [] pos) (fun D σ H => tb (wKeep X.K c i ts Wout D) D σ H) := by
  refine ⟨fun pins s σ H D I h => ?_⟩
  have ok := I.ok
  have hfr : X.A.frames = some (X.env :: X.outer) := by rw [ok.frames, hs]
  have hloc : Loc X.env.scope n := .inl hln
  refine wpAny_Try_except ?_
  refine wpAny_mono ((hb (wKeep X.K c i ts Wout D) (X.pn ++ pins) (fun e s₁ => wpAny (model X.prog X.w) X.A (noteFrame e X.env) (fun _ s₂ => wpAny (model X.prog X.w) X.A (setFlight e none) (fun _ s₃ =>
    wpAny (model X.prog X.w) X.A (handleBy e X.env [.ExceptHandler (some (.Name x np)) (some n) (b₀ :: suite) pos']) (SP X pins D) X.xe s₃) X.xe s₂) X.xe s₁) (fun u s' xx => ?_) PassesOwn.looking).run [] s σ H D (I.toTry _) h) (fun f s1 hsp => ?_) (fun e s1 he => he)
  · obtain ⟨a, B, sI, pins', σ', H', cls, d, rfl, J', nb, up, sky, na, os, ag, b, hb1, hyes, hno⟩ := xx
    have J : Inv X pins σ' H' sI := J'.ofTry ok
    have sky' : Sky B (X.env :: X.outer) a (Zc cls d) X.env.locals s'.heap := by rw [← hs]; exact sky
    show wpAny (model X.prog X.w) X.A (noteFrame (.ref a) X.env) _ _ _
    refine Sky.land Zc.steady hfr hf sky' fun h3 fl3 up3 => ?_
    have J3 : Inv X pins σ' H' { s' with heap := h3 } := J.landed nb fl3.1 (up.trans up3) os ag
    obtain ⟨oe3, vs3, he3, hz3, hd3⟩ := fl3.there
    have notFr : ∀ {h : Heap} {o : Obj} {vs : Array Value}, h.FunFrames B (X.env :: X.outer) → h.get? a = some o → o.data = .fields vs → a ∉ frs (X.env :: X.outer) := fun {h o vs} ff e dd hm => by
      obtain ⟨_, o', e', hnf⟩ := ff.mem hm
      rw [e] at e'; cases e'
      exact hnf _ dd
    have nfr := notFr fl3.2.2.1 he3 hd3
    have nL : a ≠ X.env.locals := fun z => nfr (List.mem_filterMap.mpr ⟨X.env, List.mem_cons_self, by rw [hf, z]⟩)
    have nF : a ∉ X.fs := fun hm => by
      obtain ⟨e, he, q⟩ := List.mem_filterMap.mp hm
      exact nfr (List.mem_filterMap.mpr ⟨e, List.mem_cons_of_mem _ he, q⟩)
    have nI : sI.heap.get? a = none := by
      cases e : sI.heap.get? a with
      | none => rfl
      | some o =>
        have q := nb a o e (by rw [hs]; exact nfr)
        have z : B.get? a = none := fl3.2.1
        rw [z] at q
        cases q
    have n0 : X.s_0.heap.get? a = none := by
      cases e : X.s_0.heap.get? a with
      | none => rfl
      | some o =>
        obtain ⟨o', e'⟩ := J.base.there a o e (by rw [hex]; exact fun z => nomatch z)
        rw [nI] at e'
        cases e'
    have nPin : ∀ p ∈ X.pn ++ pins, p.1 ≠ a := fun p hp z => by
      have q := (J.pin p hp).1
      rw [z, nI] at q
      cases q
    have nCell : ∀ y c, X.env.cells.lookup y = some c → c ≠ a := fun y c e z => by
      obtain ⟨v, o, ho, hd⟩ := J.cell y c e
      rw [z, nI] at ho
      cases ho
    have S3 := J3.suite he3 hd3 na nL nF
    refine wpAny_handleBy_cons (codeAny_handlers_test ?_) (by intro q; cases q)
    have LT : PySem.W.Looks (model X.prog X.w) h3 (typeOf (.ref a)) cls := fun A Q E s k q => wpAny_typeOf_ref (k _ _ he3) (by rw [hz3.1]; exact q)
    have LM := PySem.W.exm_one (M := model X.prog X.w) (J3.kIn) LT hb1
    have test : ∀ {Q : Value → Shared → Prop} {E : Value → Shared → Prop}, Q c { s' with heap := h3 } → wpAny (model X.prog X.w) (X.A.mark (some (.ref a))) (eval (.Name x np) X.env) Q E { s' with heap := h3 } := fun {Q E} q => by
      obtain ⟨hg, hdbg, hm | ⟨hm, hv, hnn⟩⟩ := hc
      · exact ld_glob (X := X.suite a ((a, oe3) :: (X.pn ++ pins))) S3 hg hm q hdbg
      · exact ld_blt (X := X.suite a ((a, oe3) :: (X.pn ++ pins))) S3 hg hm hv q hnn hdbg
    refine test (LM.here ?_)
    cases b with
    | true =>
      refine codeAny_handlers_suite_as ?_
      refine HandSPX.lands_againZ fl3 fun h4 fl4 up4 => ?_
      have J4 : Inv X pins σ' H' { s' with heap := h4 } := J.landed nb fl4.1 ((up.trans up3).trans up4) os ag
      obtain ⟨oe4, vs4, he4, hz4, hd4⟩ := fl4.there
      have J5 : Inv X pins σ' (upd H' a (xob a cls d)) { s' with heap := h4 } := Inv.track J4 na n0 nL nCell nPin (xob_ok he4 hz4 hd4)
      have S4 := Inv.suiteK J5 a
      refine store_ok (X := X.suite a (X.pn ++ pins)) (v := .ref a) S4 hN hi hloc rfl (fun s5 S5 => ?_) (.inr hln)
      refine wpAny_mono ((hsu a (X.pn ++ pins)).run [] s5 _ _ _ S5 (hyes rfl a na)) (fun f s6 hsp => ?_) (fun _ _ z => False.elim z)
      have end_ : ∀ {σ6 : L2.St} {H6 : Hp} {Q : Shared → Prop}, Inv (X.suite a (X.pn ++ pins)) [] σ6 H6 s6 → (∀ s7, Inv X pins (σ6.set i none) H6 s7 → Q s7) →
          wpAny (model X.prog X.w) X.A (do bindName X.env n .none; unbindBehindTheSuite X.env n pos') (fun _ s7 => Q s7) X.xe s6 := fun {σ6 H6 Q} S6 hq => gone_ok (Inv.unsuiteK S6 ok) hN hi hln hq
      cases f with
      | next =>
        obtain ⟨σ6, H6, S6, q6⟩ := hsp
        exact end_ S6 fun s7 J7 => ⟨_, _, J7, q6⟩
      | brk =>
        obtain ⟨σ6, H6, S6, q6⟩ := hsp
        exact end_ S6 fun s7 J7 => ⟨_, _, J7, q6⟩
      | cont =>
        obtain ⟨σ6, H6, S6, q6⟩ := hsp
        exact end_ S6 fun s7 J7 => ⟨_, _, J7, q6⟩
      | ret u =>
        obtain ⟨v6, σ6, H6, S6, r6, q6⟩ := hsp
        exact end_ S6 fun s7 J7 => ⟨_, _, _, J7, r6, q6⟩
    | false =>
      show wpAny _ X.A (handleBy (.ref a) X.env []) _ _ _
      refine wpAny_handleBy_nil ?_
      obtain ⟨k1, k2, k3, oe, vs, T, oT, ts', he, hz, hd, h1, hr⟩ := id fl3
      unfold PySem.passOn
      refine wpAny_bind (wpAny_field he hd h1 ?_)
      rw [if_neg (show ¬ ((Value.ref T == Value.none) = true) from by simp)]
      have fin : wpAny (model X.prog X.w) X.A (setFlight (.ref a) X.env.frame) (fun _ s4 => wpAny (model X.prog X.w) X.A (throw (.ref a) : Sem Flow) (SP X pins D) X.xe s4) X.xe { s' with heap := h3 } := by
        rw [hf]
        refine HandSPX.setFlight_upZ fl3 fun h4 hh4 up4 => wpAny_throw (tk _ _ ?_)
        exact ⟨a, B, sI, pins, σ', H', cls, d, rfl, J, nb, (up.trans up3).trans up4, .inr (.inr (by rw [hs]; exact hh4)), na, os, ag, hno rfl⟩
      first
        | exact wpAny_bind (wpAny_pure (wpAny_bind fin))
        | exact wpAny_bind fin
  · cases f with
    | next =>
      obtain ⟨σ', H', J', q⟩ := hsp
      exact wpAny_execs_nil ⟨σ', H', J'.ofTry ok, q⟩
    | brk =>
      obtain ⟨σ', H', J', q⟩ := hsp
      exact ⟨σ', H', J'.ofTry ok, q⟩
    | cont =>
      obtain ⟨σ', H', J', q⟩ := hsp
      exact ⟨σ', H', J'.ofTry ok, q⟩
    | ret u =>
      obtain ⟨v, σ', H', J', r, q⟩ := hsp
      exact ⟨v, σ', H', J'.ofTry ok, r, q⟩
end

/-! ### a kept error's attributes, isinstance of it -/
def tXk (C : Addr) (f : Str) (te : TE) : TE := fun σ H Q => te σ H fun x H1 => ∃ (a dd : Addr) (fs : List (Str × V)) (v : V), x = .ref a ∧ H1 a = some (xob a (.ref C) (some dd)) ∧ H1 dd = some (.xd fs) ∧ fs.lookup f = some v ∧ Q v H1
theorem xk_inst {X : Cx} {pins : List (Addr × Obj)} {σ : L2.St} {H : Hp} {s : Shared} {a C dd : Addr} {fs : List (Str × V)} (I : Inv X pins σ H s) (ea : H a = some (xob a (.ref C) (some dd))) (ed : H dd = some (.xd fs)) :
    ∃ oe od, PySem.W.InstAt s.heap a oe C (some od) ∧ ∃ mA : Str → Option Value, (∀ f, RelO (fs.lookup f) (mA f)) ∧ ∀ n, PySem.W.lookIn n od = some (mA n) := by
  obtain ⟨oe, vs, ho, hz, hd⟩ := xob_at I.hok ea
  have hx : ObjOk X.prog X.w H s.heap dd (.xd fs) := I.hok dd _ ed
  obtain ⟨mA, hns, hr⟩ := hx
  obtain ⟨od, ho2, hl⟩ := lookIn_ns hns
  exact ⟨oe, od, ⟨ho, hz.1, by unfold PySem.W.notCls; rw [hd] <;> rfl, by rw [hz.2]; exact ho2⟩, mA, hr, hl⟩
theorem pe_xk {X : Cx} {C : Addr} {e : Expr} {te : TE} {pos : Pos} {n : Str} (T : XfC X.K C) (hno : PySem.W.findIn X.K (.ref C) n = some none)
    (he : PE X e te) (hb : attributeBase e n X.env (eval e X.env) = eval e X.env := by rfl) : PE X (.Attribute e n pos) (tXk C n te) := by
  refine ⟨fun pins s σ H Q I h => ?_⟩
  refine attr_of hb (thn (he.run pins s σ H _ I h) fun u s1 hh => ?_)
  obtain ⟨x, H1, I1, rx, a, dd, fs, v, ex, ea, ed, l, q⟩ := hh
  subst ex
  obtain rfl : u = Value.ref a := rx
  obtain ⟨oe, od, J, mA, hr, hl⟩ := xk_inst I1 ea ed
  obtain ⟨u, hu, ru⟩ := RelO.some_of (v := v) (o := mA n) (by rw [← l]; exact hr n)
  exact HandSPX.exc_get I1.kIn J T.ga T.gg T.exC (PySem.W.findObj_own T.hdC hno rfl (by rw [hl, hu])) (handed_of ru) ⟨v, H1, I1.tok _, ru, q⟩

/-- what the class of a kept error says, for isinstance -/
structure XkC (K : PySem.W.Frag) (C : Addr) : Prop where
  cl : (PySem.W.clsIn K C).isSome = true
  ga : PySem.W.findIn K (.ref C) "__getattribute__" = some (some (.builtin "BaseException.__getattribute__"))
  gt : PySem.W.findIn K (.ref C) "__getattr__" = some none
  be : PySem.W.subIn K (.ref C) (.type "BaseException") = some true
  ca : PySem.W.findIn K (.ref C) "__class__" = some (some (.builtin "object.__class__"))
  sg : PySem.W.specialIn K (.builtin "object.__class__") "__get__" = some (some (.builtin "getset_descriptor.__get__"))
  tk : PySem.W.takesIn K (.builtin "object.__class__") = some true
  ob : PySem.W.mroIn K C (.type "object") = some true
def rIsXk (K : PySem.W.Frag) : List V → Hp → VK → Prop := fun xs H Q => ∃ (a C dd : Addr) (fs : List (Str × V)) (c : V) (u : Value) (b : Bool), xs = [.ref a, c] ∧ XkC K C ∧ H a = some (xob a (.ref C) (some dd)) ∧ H dd = some (.xd fs) ∧ ClsV c u ∧ PySem.W.kitOne K (.ref C) u = some b ∧ Q (.bl b) H
theorem call_isXk {X : Cx} : CallR X (.builtin "isinstance") (rIsXk X.K) := by
  intro pins s σ H xs us Q I r h
  obtain ⟨a, C, dd, fs, c, u, b, rfl, T, ea, ed, hc, hb, q⟩ := h
  cases r with
  | cons r1 r2 =>
    cases r2 with
    | cons r2 r3 =>
      cases r3
      cases r1
      cases hc.eq r2
      obtain ⟨oe, od, J, _⟩ := xk_inst I ea ed
      exact PySem.W.kia_one (PySem.W.kitx_exc T.cl T.ga T.gt T.be T.ca T.sg T.tk T.ob) I.kIn J hb (fun z => nomatch z) fun tk => ⟨.bl b, H, I.tok tk, rfl, q⟩
end Ly

set_option Elab.async false
set_option maxRecDepth 100000
set_option maxHeartbeats 4000000
set_option linter.all false
/-! != of tuples whose items are equal by an own __eq__; == of dicts within such -/
namespace Ly
open PySem PySem.Spec PyProof.Rows L2 GQ
open AutoSeq1 (wpAny_loadPart')
open MeetsSeq MeetsSeq2 MeetsSeq3 SeqRoads2

section
variable {prog : Program} {w : World} {A : Around} {R : Result → Shared → Prop}
theorem zip_at {xs ys : List Value} {i : Nat} (hi : i < (xs.zip ys).length) : (xs.zip ys).drop i = (xs[i]'(by simp at hi; omega), ys[i]'(by simp at hi; omega)) :: (xs.zip ys).drop (i + 1) := by
  rw [List.drop_eq_getElem_cons hi, List.getElem_zip]
theorem tup_ne {l b : Addr} {xs ys : Array Value} {n n2 : Nat} {dd dd2 : Option Addr} {sl sl2 : Array (Option Value)} (hz : xs.size = ys.size) (J : Nat → Shared → Prop)
    (one : ∀ i (h1 : i < xs.size) (h2 : i < ys.size) s, J i s → wpAny (model prog w) A.in1 (eqBool xs[i] ys[i]) (fun r s' => r = true ∧ J (i + 1) s') (fun e s' => R (.error e) s') s)
    (last : ∀ s, J xs.size s → R (.ok (.ret (.bool false))) s) {s : Shared} (hl : s.heap.get? l = some { cls := .type "tuple", dict := dd, data := .seq xs n, slots := sl }) (hb : s.heap.get? b = some { cls := .type "tuple", dict := dd2, data := .seq ys n2, slots := sl2 }) (h : J 0 s) :
    wpAny (model prog w) A.in1 (Builtin.«tuple.__ne__» ⟨[.ref l, .ref b], []⟩) (FinOf prog w A R) (fun e s' => R (.error e) s') s := by
  have ft := AutoSeq1.sub_tuple_tuple
  have len : (xs.toList.zip ys.toList).length = xs.size := by simp [hz]
  have hJ := h
  obtain ⟨hp, g, d, tk, os⟩ := s
  wp_walk using wpAny_loadPart' hl, wpAny_loadPart' hb, wpAny_forIn_list _ (fun left r s' => r.1 = none ∧ ∃ i, left = (xs.toList.zip ys.toList).drop i ∧ i ≤ xs.size ∧ J i s') _
  case turn =>
    rintro ⟨y, x⟩ left r s' ⟨hr, i, e, hi, hI⟩
    by_cases hlt : i < (xs.toList.zip ys.toList).length
    · rw [zip_at hlt] at e
      injection e with e1 e2
      injection e1 with e3 e4
      have k1 : i < xs.size := len ▸ hlt
      have k2 : i < ys.size := hz ▸ k1
      subst e3 e4
      refine wpAny_bind (wpAny_mono (one i k1 k2 s' hI) (fun v s2 q2 => ?_) fun _ _ x => x)
      obtain ⟨rfl, q2⟩ := q2
      wp_walk
      exact ⟨rfl, i + 1, e2, k1, q2⟩
    · rw [List.drop_of_length_le (Nat.le_of_not_lt hlt)] at e
      cases e
  case fin =>
    rintro ⟨r1, r2⟩ s' ⟨hr, i, e, hi, hI⟩
    dsimp only at hr
    subst hr
    have hi' : i = xs.size := by
      by_cases hlt : i < (xs.toList.zip ys.toList).length
      · rw [zip_at hlt] at e
        cases e
      · omega
    subst hi'
    have q := last s' hI
    wp_walk
    simpa [Builtin.Tuple.tupleCompareSizes, hz] using q
  case h => exact ⟨rfl, 0, rfl, Nat.zero_le _, hJ⟩
end

section
variable {X : Cx} {n : Nat} {D : Eqv}
/-- x != y, two tuples whose items are equal by ==: False -/
theorem op_neTup (hD : Mon D) (h : EqG X n D) (hr : Room (n + 1) X.A) : OpR X (compareOp .NotEq) (fun x y H Q => DTup X.K D x y H ∧ ∀ H', Ext H H' → Q (.bl false) H') := by
  intro pins s σ H x y v u Q I rx ry hq
  obtain ⟨⟨a, b, xs, ys, rfl, rfl, ha, hb, p⟩, q⟩ := hq
  cases rx
  cases ry
  obtain ⟨its, r, e, z⟩ := I.tuple ha
  obtain ⟨its2, r2, e2, z2⟩ := I.tuple hb
  have hsz : its.toArray.size = its2.toArray.size := by rw [List.size_toArray, List.size_toArray, ← r.length, ← r2.length]; exact p.1
  have sb : Sub X (n + 1) X.A := ⟨hr, rfl⟩
  show wpAny (model X.prog X.w) X.A (richCompare .NotEq (.ref a) (.ref b)) (EP X pins σ Q) X.xe s
  obtain ⟨⟨c1, d1, t1, l1⟩, ho, hc, k1, hd⟩ := id e
  obtain ⟨⟨c2, d2, t2, l2⟩, ho2, hc2, k2, hd2⟩ := id e2
  simp only at hc hd hc2 hd2
  subst hc hd hc2 hd2
  refine wpAny_richCompare_same_room (op := .NotEq) ⟨_, ho, rfl⟩ ⟨_, ho2, rfl⟩ F.slot_tuple_ne (call_here F.slot_tuple_ne ⟨_, ho, rfl⟩ F.entry_tuple_ne (F.args_tuple_ne_2 _ _) ?_) sb.room.units0
  exact tup_ne (R := wants (fun v s' => v ≠ .notImplemented ∧ EP X pins σ Q v s') X.xe) hsz (fun _ s' => LoopI X pins σ H s') (fun i h1 h2 s' q => turnG hD h sb p r r2 i h1 h2 s' q) (fun s' z => ⟨(fun x => nomatch x), let ⟨H', I', e'⟩ := z; ⟨.bl false, H', I', rfl, q H' e'⟩⟩) ho ho2 ⟨H, I, Ext.rfl'⟩
end

/-! ### == of data with dicts, lists and tuples within, where it is True -/
def EqTup (K : PySem.W.Frag) (H : Hp) (E : V → V → Prop) (x y : V) : Prop := ∃ a b xs ys, x = .ref a ∧ y = .ref b ∧ SqT K H a xs ∧ SqT K H b ys ∧ Paired E xs ys
def EqW (K : PySem.W.Frag) (H : Hp) : Nat → V → V → Prop
  | 0 => fun _ _ => False
  | n + 1 => fun x y => (x = y ∧ flatB x = true) ∨ (∃ a, x = .ref a ∧ y = .ref a) ∨ EqR K H (EqW K H n) x y ∨ EqTup K H (EqW K H n) x y
section
variable {X : Cx} {pins : List (Addr × Obj)} {σ : L2.St} {H : Hp} {s : Shared}
theorem eqTup_run (I : Inv X pins σ H s) {A : Around} {F : V → V → Prop} (hu : A.units < cLine) (ih : ∀ x y v u, F x y → RelV x v → RelV y u → SeqAt.EqP X.prog X.w A.in1 s v u true) {x y : V} {v u : Value} (h : EqTup X.K H F x y) (rx : RelV x v) (ry : RelV y u)
    (E Q : Value → Shared → Prop) (q : Q (.bool true) s) : wpAny (model X.prog X.w) A (richCompare .Eq v u) Q E s := by
  obtain ⟨a, b, xs, ys, rfl, rfl, ha, hb, p⟩ := h
  cases rx
  cases ry
  obtain ⟨its, r, e, z⟩ := I.tuple ha
  obtain ⟨its2, r2, e2, z2⟩ := I.tuple hb
  have hsz : its.toArray.size = its2.toArray.size := by rw [List.size_toArray, List.size_toArray, ← r.length, ← r2.length]; exact Paired.length p
  refine GQ.rc_tupG hsz hu (fun _ s' => s' = s) e e2 (fun i h1 h2 s' q => ?_) (fun s' z => by rw [z]; exact q) rfl
  subst q
  have k := items_run ih p r r2 i (by simpa using h1) (by simpa using h2)
  have k2 := k E (fun r s2 => r = true ∧ s2 = s') ⟨rfl, rfl⟩
  simpa using k2
theorem eqW_run (I : Inv X pins σ H s) : ∀ (n : Nat) (A : Around), A.units + n < cLine → ∀ (x y : V) (v u : Value), EqW X.K H n x y → RelV x v → RelV y u → SeqAt.EqP X.prog X.w A s v u true
  | 0, _, _, _, _, _, _, h, _, _ => (show False from h).elim
  | n + 1, A, hu, x, y, v, u, h, rx, ry => by
    have down := eqW_run I n A.in1 (by show A.units + 1 + n < cLine; omega)
    have refs : ∀ a b, x = .ref a → y = .ref b → (∀ (E Q : Value → Shared → Prop), Q (.bool true) s → wpAny (model X.prog X.w) A (richCompare .Eq v u) Q E s) → SeqAt.EqP X.prog X.w A s v u true := by
      rintro a b rfl rfl step
      cases rx
      cases ry
      by_cases e : a = b
      · subst e
        exact (SeqAt.EqAt.same _).eqP
      · exact SeqAt.eqP_refs e step
    rcases h with ⟨rfl, f⟩ | ⟨a, rfl, rfl⟩ | h | h
    · exact (eqAt_same rx ry f).eqP
    · cases rx
      cases ry
      exact (SeqAt.EqAt.same _).eqP
    · obtain ⟨a, b, e1, e2⟩ : ∃ a b, x = .ref a ∧ y = .ref b := by
        rcases h with ⟨a, b, _, _, e1, e2, _⟩ | ⟨a, b, _, _, e1, e2, _⟩
        · exact ⟨a, b, e1, e2⟩
        · exact ⟨a, b, e1, e2⟩
      exact refs a b e1 e2 (eqR_run I (by omega) down h rx ry)
    · obtain ⟨a, b, _, _, e1, e2, _⟩ := id h
      exact refs a b e1 e2 (eqTup_run I (by omega) down h rx ry)
end
section
variable {X : Cx}
def rEqW (K : PySem.W.Frag) : R2 := fun x y H Q => ∃ n, n ≤ 60 ∧ EqTup K H (EqW K H n) x y ∧ Q (.bl true) H
theorem op_eqW (hu : X.A.units + 64 < cLine) : OpR X (compareOp .Eq) (rEqW X.K) := by
  intro pins s σ H x y v u Q I rx ry ⟨n, hn, h, q⟩
  exact eqTup_run I (A := X.A) (by omega) (eqW_run I n X.A.in1 (by show X.A.units + 1 + n < cLine; omega)) h rx ry _ _ ⟨.bl true, H, I, rfl, q⟩
end
end Ly

set_option Elab.async false
set_option maxRecDepth 100000
set_option maxHeartbeats 4000000
set_option linter.all false
/-! defs, methods, classes, errors of the text: each as one fact; their calls -/
namespace Ly
open PySem PySem.Spec PyProof.Rows L2

section
variable (P : Program) (w : World) (K : PySem.W.Frag) (mg : Str → Option Value) (base : Heap)
/-- the def of the name x -/
structure Df (k : Nat) (x : Str) (ps : List Str) (sp : Sp) : Prop where
  ex : ∃ f fd, FnOk P w K mg base (L2.CX P w) k f fd ps sp ∧ mg x = some (.ref f) ∧ PySem.W.keepIn K (.ref f) = true ∧ Binds K fd ps []
/-- the method m of the class at C -/
structure Dm (k : Nat) (C : Addr) (m : Str) (ps : List Str) (sp : Sp) : Prop where
  ex : ∃ f fd, FnOk P w K mg base (L2.CX P w) k f fd ps sp ∧ Cls K C ∧ Meth K C m f ∧ Binds K fd ps []
/-- the class x at C, its __init__ -/
structure Dc (k : Nat) (x : Str) (C : Addr) (ps : List Str) (sp : Sp) : Prop where
  ex : ∃ f fd, FnOk P w K mg base (L2.CX P w) k f fd ps sp ∧ Mk K C f ∧ mg x = some (.ref C) ∧ Binds K fd ps []
/-- the error class x at C -/
structure De (k : Nat) (x : Str) (C : Addr) (ps : List Str) (sp : Sp) : Prop where
  ex : ∃ f fd, FnOk P w K mg base (L2.CX P w) k f fd ps sp ∧ OexC K C ∧ PySem.W.findIn K (.ref C) "__init__" = some (some (.ref f)) ∧ PySem.W.typeIn K (.ref f) = some (.type "function") ∧ mg x = some (.ref C) ∧ Binds K fd ps []
end

def tCallD (sp : Sp) (E : XK) (t : TA) : TE := fun σ H Q => t σ H fun vs H1 => sp vs H1 Q E
def tMethD (C : Addr) (m : Str) (sp : Sp) (E : XK) (ta : TE) (t : TA) : TE := fun σ H Q => ta σ H fun x H1 => ∃ a dx fs, x = .ref a ∧ H1 a = some (.ins C dx fs) ∧ fs.lookup m = none ∧ t σ H1 fun vs H2 => sp (.ref a :: vs) H2 Q E
def tMakeD (C : Addr) (sp : Sp) (E : XK) (t : TA) : TE := fun σ H Q => t σ H fun vs H1 => ∀ x dx, H1 x = none → H1 dx = none → dx ≠ x →
  sp (.ref x :: vs) (upd (upd H1 dx (.own x)) x (.ins C dx [])) (fun v H2 => v = .non ∧ Q (.ref x) H2) E

section
variable {X : Cx} {k : Nat} {C : Addr} {ps : List Str} {sp : Sp} {E : XK} {x m : Str} {p pos apos : Pos} {e o : Expr} {es : List Expr} {ta : TE} {t : TA} {pl : Sem Bool}
theorem pe_df (D : Df X.prog X.w X.K X.mg X.base k x ps sp) (hr : Room k X.A) (hx : Passes (L2.CX X.prog X.w) X E) (ha : PA X (e :: es) t) (hg : Gl X x := by rfl) (hdb : (x == ("__debug__" : Str)) = false := by decide)
    (he : starEach (e :: es) X.env = (false, eval e X.env) :: starEach es X.env := by rfl) (hpl : (backTo pos (starEach es X.env)).any (·.1) = false := by rfl) : PE X (.Call (.Name x p) (e :: es) [] pos) (tCallD sp E t) := by
  obtain ⟨f, fd, F, hm, hk, hb⟩ := D.ex
  refine ⟨fun pins s σ H Q I h => (pe_call F hr hg hm hk hb .nil hx ha hdb he hpl).run pins s σ H Q I ?_⟩
  unfold tCall
  unfold tCallD at h
  simpa only [List.append_nil] using h
theorem pe_dfS {W : WX} (D : Df X.prog X.w X.K X.mg X.base k x ps sp) (hr : Room k X.A) (tk : Takes X W) (ha : PA X (e :: es) t) (hg : Gl X x := by rfl) (hdb : (x == ("__debug__" : Str)) = false := by decide)
    (he : starEach (e :: es) X.env = (false, eval e X.env) :: starEach es X.env := by rfl) (hpl : (backTo pos (starEach es X.env)).any (·.1) = false := by rfl) : PE X (.Call (.Name x p) (e :: es) [] pos) (tCallS sp (WE W) t) := by
  obtain ⟨f, fd, F, hm, hk, hb⟩ := D.ex
  exact pe_callS F hr hg hm hk hb (passAt tk) ha hdb he hpl
theorem pe_df0 (D : Df X.prog X.w X.K X.mg X.base k x ps sp) (hr : Room k X.A) (hx : Passes (L2.CX X.prog X.w) X E) (hg : Gl X x := by rfl) (hdb : (x == ("__debug__" : Str)) = false := by decide) : PE X (.Call (.Name x p) [] [] pos) (tCallD sp E tNil) := by
  obtain ⟨f, fd, F, hm, hk, hb⟩ := D.ex
  refine ⟨fun pins s σ H Q I h => (pe_call0 F hr hg hm hk hb .nil hx hdb).run pins s σ H Q I ?_⟩
  unfold tCall
  unfold tCallD at h
  simpa only [List.append_nil] using h
theorem pe_dm (D : Dm X.prog X.w X.K X.mg X.base k C m ps sp) (hr : Room k X.A) (hx : Passes (L2.CX X.prog X.w) X E) (he : PE X o ta) (ha : PA X (e :: es) t)
    (hst : starEach (e :: es) X.env = (false, eval e X.env) :: starEach es X.env := by rfl) (hpl : (backTo pos (starEach es X.env)).any (·.1) = false := by rfl)
    (ht : eval (.Call (.Attribute o m apos) (e :: es) [] pos) X.env = (do
      let ov ← eval o X.env
      standAt apos.atName
      let (f, first) ← holding [ov] (getMethod ov m pl)
      callWith pos f first (backTo pos (starEach (e :: es) X.env)) (backToKw pos (keywordEach [] X.env))) := by rfl) :
    PE X (.Call (.Attribute o m apos) (e :: es) [] pos) (tMethD C m sp E ta t) := by
  obtain ⟨f, fd, F, hc, hm, hb⟩ := D.ex
  refine ⟨fun pins s σ H Q I h => (pe_meth he hc hm F hr hb .nil hx ha hst hpl ht).run pins s σ H Q I ?_⟩
  unfold tMeth
  unfold tMethD at h
  simp only [List.append_nil]
  have z : ∀ y : V, ∀ H1, (∃ a dx fs, y = .ref a ∧ H1 a = some (.ins C dx fs) ∧ fs.lookup m = none ∧ t σ H1 fun vs H2 => sp (.ref a :: vs) H2 Q E) = (∃ a dx fs, y = .ref a ∧ H1 a = some (.ins C dx fs) ∧ fs.lookup m = none ∧ t σ H1 fun vs H2 => sp (y :: vs) H2 Q E) := fun y H1 => propext ⟨fun ⟨a, dx, fs, h1, r⟩ => ⟨a, dx, fs, h1, by subst h1; exact r⟩, fun ⟨a, dx, fs, h1, r⟩ => ⟨a, dx, fs, h1, by subst h1; exact r⟩⟩
  simp only [z] at h
  exact h
theorem pe_dm0 (D : Dm X.prog X.w X.K X.mg X.base k C m ps sp) (hr : Room k X.A) (hx : Passes (L2.CX X.prog X.w) X E) (he : PE X o ta)
    (ht : eval (.Call (.Attribute o m apos) [] [] pos) X.env = (do
      let ov ← eval o X.env
      standAt apos.atName
      let (f, first) ← holding [ov] (getMethod ov m pl)
      callWith pos f first (backTo pos (starEach [] X.env)) (backToKw pos (keywordEach [] X.env))) := by rfl) :
    PE X (.Call (.Attribute o m apos) [] [] pos) (tMethD C m sp E ta tNil) := by
  obtain ⟨f, fd, F, hc, hm, hb⟩ := D.ex
  refine ⟨fun pins s σ H Q I h => (pe_meth0 he hc hm F hr hb .nil hx ht).run pins s σ H Q I ?_⟩
  unfold tMeth
  unfold tMethD at h
  simp only [List.append_nil]
  have z : ∀ y : V, ∀ H1, (∃ a dx fs, y = .ref a ∧ H1 a = some (.ins C dx fs) ∧ fs.lookup m = none ∧ tNil σ H1 fun vs H2 => sp (.ref a :: vs) H2 Q E) = (∃ a dx fs, y = .ref a ∧ H1 a = some (.ins C dx fs) ∧ fs.lookup m = none ∧ tNil σ H1 fun vs H2 => sp (y :: vs) H2 Q E) := fun y H1 => propext ⟨fun ⟨a, dx, fs, h1, r⟩ => ⟨a, dx, fs, h1, by subst h1; exact r⟩, fun ⟨a, dx, fs, h1, r⟩ => ⟨a, dx, fs, h1, by subst h1; exact r⟩⟩
  simp only [z] at h
  exact h
theorem pe_dc (D : Dc X.prog X.w X.K X.mg X.base k x C ps sp) (hr : Room (k + 1) X.A) (hx : Passes (L2.CX X.prog X.w) X E) (ha : PA X (e :: es) t) (hg : Gl X x := by rfl) (hdb : (x == ("__debug__" : Str)) = false := by decide)
    (he : starEach (e :: es) X.env = (false, eval e X.env) :: starEach es X.env := by rfl) (hpl : (backTo pos (starEach es X.env)).any (·.1) = false := by rfl) : PE X (.Call (.Name x p) (e :: es) [] pos) (tMakeD C sp E t) := by
  obtain ⟨f, fd, F, M, hm, hb⟩ := D.ex
  refine ⟨fun pins s σ H Q I h => (pe_make M F hr hg hm hb .nil hx ha hdb he hpl).run pins s σ H Q I ?_⟩
  unfold tMake
  unfold tMakeD at h
  simpa only [List.append_nil] using h
theorem pmk_de (D : De X.prog X.w X.K X.mg X.base k x C ps sp) (hr : Room (k + 1) X.A) (ha : PA X (e :: es) t) (hg : Gl X x := by rfl) (hdb : (x == ("__debug__" : Str)) = false := by decide)
    (he : starEach (e :: es) X.env = (false, eval e X.env) :: starEach es X.env := by rfl) (hpl : (backTo pos (starEach es X.env)).any (·.1) = false := by rfl) : PMk X (.Call (.Name x p) (e :: es) [] pos) (tMkO C sp [] t) := by
  obtain ⟨f, fd, F, T, iC, tI, hm, hb⟩ := D.ex
  exact pmk_oex T iC tI F hr hb .nil passL hg hm ha hdb he hpl
end

/-! ### a def called with keywords alone -/
structure DfK (P : Program) (w : World) (K : PySem.W.Frag) (mg : Str → Option Value) (base : Heap) (k : Nat) (x : Str) (ps ks : List Str) (sp : Sp) : Prop where
  ex : ∃ f fd, FnOk P w K mg base (L2.CX P w) k f fd ps sp ∧ mg x = some (.ref f) ∧ PySem.W.keepIn K (.ref f) = true ∧ KBinds K fd ps ks (fun us ws => us ++ ws) fun us ws => us ++ ws
def tCallK0 (sp : Sp) (E : XK) (tk : TA) : TE := fun σ H Q => tk σ H fun zs H2 => sp zs H2 Q E
theorem pe_dk {X : Cx} {k : Nat} {x : Str} {ps ks : List Str} {sp : Sp} {E : XK} {p pos : Pos} {kws : List Keyword} {tk : TA} (D : DfK X.prog X.w X.K X.mg X.base k x ps ks sp) (hr : Room k X.A) (hx : Passes (L2.CX X.prog X.w) X E) (hkw : PK X kws tk) (hg : Gl X x := by rfl)
    (hall : (backToKw pos (keywordEach kws X.env)).all (·.1.isSome) = true := by rfl) (hks : (backToKw pos (keywordEach kws X.env)).filterMap (·.1) = ks := by rfl) (hdb : (x == ("__debug__" : Str)) = false := by decide)
    (hpl : ((backTo pos (starEach [] X.env)).any (·.1) || (backToKw pos (keywordEach kws X.env)).any (·.1.isNone)) = false := by rfl) : PE X (.Call (.Name x p) [] kws pos) (tCallK0 sp E tk) := by
  obtain ⟨f, fd, F, hm, hk, hb⟩ := D.ex
  refine ⟨fun pins s σ H Q I h => ?_⟩
  refine wpAny_Call_Name_kw (ld_glob I hg hm ?_ hdb)
  refine PySem.W.callWith_KW0 (h₀ := X.base) I.ok.mod.kin hk hall (thn (hkw.run pos pins s σ H _ I h) fun ws s2 ⟨zs, H2, I2, rz, q2⟩ => ⟨I2.kIn, ?_⟩) hpl
  rw [hks]
  exact run_fnk (us := []) (vs := []) F hr hb hx I2 .nil rz q2
/-! ### str(o), the class's own __str__ -/
structure DsC (P : Program) (w : World) (K : PySem.W.Frag) (mg : Str → Option Value) (base : Heap) (k : Nat) (C : Addr) (ps : List Str) (sp : Sp) : Prop where
  ex : ∃ f fd, FnOk P w K mg base (L2.CX P w) k f fd ps sp ∧ PySem.W.findIn K (.ref C) "__str__" = some (some (.ref f)) ∧ PySem.W.isFn K (.ref f) = true ∧ Binds K fd ps []
def rStrO (C : Addr) (sp : Sp) : List V → Hp → VK → Prop := fun xs H Q => ∃ a dx fs, xs = [.ref a] ∧ H a = some (.ins C dx fs) ∧ sp [.ref a] H (fun v H' => (∃ z, v = .str z) ∧ Q v H') E0
theorem call_strO {X : Cx} {k : Nat} {C : Addr} {ps : List Str} {sp : Sp} (D : DsC X.prog X.w X.K X.mg X.base k C ps sp) (hr : Room (k + 2) X.A) : CallR X (.type "str") (rStrO C sp) := by
  intro pins s σ H xs us Q I r h
  obtain ⟨f, fd, F, hs, hf, hb⟩ := D.ex
  obtain ⟨a, dx, fs, rfl, ea, hq⟩ := h
  cases r with
  | cons r1 r2 =>
    cases r2
    cases r1
    obtain ⟨ox, od, J⟩ := inst_of I ea
    refine PySem.W.kso_call (by have := hr.in1.in1.units; omega) I.kIn J hs hf ?_
    have e2 := I.env0.in1.in1
    have hl := F.len _ _ _ _ hq
    have b := hb s [.ref a] I.kIn (by simpa using hl)
    simp only [List.append_nil] at b
    refine wpAny_call (codeAny_mono (F.run X.A.in1.in1 X.stack s H ⟨[.ref a], []⟩ [.ref a] [.ref a] _ E0 hr.in1.in1 e2 b (.cons rfl .nil) hq) fun res s' hc => ?_)
    cases res with
    | error e => exact passL pins σ H s e s' I hc
    | ok fl =>
      cases fl with
      | ret u =>
        obtain ⟨v, H', I', rv, ⟨z, rfl⟩, q⟩ := I.after hc
        obtain ⟨t, rfl⟩ := rv
        exact ⟨.str z, H', I', ⟨t, rfl⟩, q⟩
      | next => exact False.elim hc
      | brk => exact False.elim hc
      | cont => exact False.elim hc
theorem pe_orTK {X : Cx} {K : PySem.W.Frag} {a b : Expr} {rest : List Expr} {ta tb : TE} {pos : Pos} (hK : X.K = K) (ha : PE X a ta) (hb : PE X (.BoolOp .Or (b :: rest) pos) tb) : PE X (.BoolOp .Or (a :: b :: rest) pos) (tOrT K ta tb) := hK ▸ pe_orT ha hb
def rJoinK (K : PySem.W.Frag) : V → List V → Hp → VK → Prop := fun x xs H Q => ∃ a p, ∃ ys : List Str, x = .str a ∧ xs = [.ref p] ∧ (SqL K H p (ys.map V.str) ∨ SqT K H p (ys.map V.str)) ∧ (ys.map (·.length)).sum + ys.length * a.length ≤ 16777216 ∧ Q (.str (Txt.join a ys)) H
theorem pe_joinK {X : Cx} {K : PySem.W.Frag} {o e : Expr} {to te : TE} {apos pos : Pos} (hK : X.K = K) (ho : PE X o to) (he : PE X e te) (hs : starEach [e] X.env = [(false, eval e X.env)] := by rfl) (hbase : attributeBase o "join" X.env (eval o X.env) = eval o X.env := by rfl) (hline : (apos.endLine == pos.line) = true := by rfl) :
    PE X (.Call (.Attribute o "join" apos) [e] [] pos) (tM1 (rJoinK K) to te) := hK ▸ pe_join ho he hs hbase hline
def rDictP (K : PySem.W.Frag) : List V → Hp → VK → Prop := fun xs H Q => ∃ (a : Addr) (ps : List Addr) (kvs : List (Key × V)), xs = [.ref a] ∧ SqL K H a (ps.map V.ref) ∧ Paired (fun p kv => SqT K H p [kV kv.1, kv.2]) ps kvs ∧ ∀ p, H p = none → Q (.ref p) (upd H p (.dK (mergeK [] kvs)))
theorem call_dictPK {X : Cx} {K : PySem.W.Frag} (hK : X.K = K) (hcalm : X.calm = true) : CallR X (.type "dict") (rDictP K) := hK ▸ call_dictP hcalm
theorem pg_tupK {X : Cx} {K : PySem.W.Frag} {es : List Expr} {k : Nat} {pos : Pos} {t : TGs} {n : Nat} (hK : X.K = K) (hc : X.calm = true) (h : PGs X es t)
    (hn : (assignEach es X.env).length = n := by rfl) (hst : (assignEach es X.env).findIdx? (·.1) = none := by rfl) : PG X (.Tuple es k pos) (gTup K n t) := hK ▸ pg_tup hc h hn hst
/-- e.f in a comprehension: what it reads names the text's own K -/
theorem pe_fldK {X : Cx} {K : PySem.W.Frag} {e : Expr} {f : Str} {pos : Pos} {ta : TE} (hK : X.K = K) (he : PE X e ta) (hb : attributeBase e f X.env (eval e X.env) = eval e X.env) : PE X (.Attribute e f pos) (tFld K ta f) := hK ▸ pe_fld he hb
end Ly

set_option Elab.async false
set_option maxRecDepth 100000
set_option maxHeartbeats 4000000
set_option linter.all false
/-! readings run by simp: small facts; comprehensions and walks that only make objects -/
namespace Ly
open PySem PySem.Spec PyProof.Rows L2
section
variable {CX : CXT} {P : Program} {w : World} {K : PySem.W.Frag} {mg : Str → Option Value} {base : Heap} {N : List Str} {qual : Str} {scope : Scope} {f : Addr} {cd : Value} {A : Around} {outer : List Env} {s : Shared} {H : Hp} {E : XK}
theorem cx_K : (cxOf CX P w K mg base N qual scope f cd A outer s H E).K = K := rfl
end
theorem same_upd {H : Hp} {p : Addr} {o : HO} (h : H p = none) : Same H (upd H p o) := fun b u e => by rw [upd_ne (ne_of_none e h)]; exact e
theorem same_upd2 {H H1 : Hp} {p : Addr} {o : HO} (k : Same H H1) (h : H p = none) : Same H (upd H1 p o) := fun b u e => by rw [upd_ne (ne_of_none e h)]; exact k b u e
theorem same_new {H H1 : Hp} {p : Addr} {o : HO} (k : Same H H1) (h : H1 p = none) : Same H (upd H1 p o) := k.trans (same_upd h)
theorem same_sqt {K : PySem.W.Frag} {H H' : Hp} {a : Addr} {xs : List V} (e : Same H H') (h : SqT K H a xs) : SqT K H' a xs := by
  rcases h with (h | ⟨o, h⟩) | h
  · exact .inl (.inl (e _ _ h))
  · exact .inl (.inr ⟨o, e _ _ h⟩)
  · exact .inr h
theorem sz_le {n : Nat} (h : n ≤ 1000000) : n ≤ sizeLine := by rw [sizeLine_eq]; omega
theorem sz_lt {n : Nat} (h : n ≤ 1000000) : n < sizeLine := by rw [sizeLine_eq]; omega

theorem isi_str {K : PySem.W.Frag} {z : Str} {H : Hp} {Q : VK} : rIsi K [.str z, .ty "str"] H Q = Q (.bl true) H := by
  refine propext ⟨fun ⟨x, c, t, u, b, e, k, ty, kt, q⟩ => ?_, fun q => ⟨_, _, _, _, true, rfl, ClsV.ty _, .base (.str _), kit_ty (by decide +kernel), q⟩⟩
  cases e
  cases k
  cases ty with
  | base h =>
    cases h
    have e2 : kitB "str" "str" = some b := kt
    have e3 : kitB "str" "str" = some true := by decide +kernel
    rw [e3] at e2
    cases e2
    exact q

/-- a comprehension whose turns only make objects: what it makes is f of each turn -/
theorem lc_grow {J : It} {n : Nat} {G : Hp → Prop} {Y : Nat → Hp → V → Hp → Prop} (wk : Walk J n G Y) {g : TG} {te : TE} {vs : List Nat} {σ : L2.St} {H1 : Hp} {D : Addr} {Qd : Hp → Prop} (f : Nat → V) (hn : n ≤ 1000000) (hD : H1 D = none) (hG : ∀ H, Same H1 H → G H)
    (step : ∀ i x H H', i < n → Same H1 H → Y i H x H' → ∀ R : V → Hp → Prop, (∀ H2, Same H H2 → R (f i) H2) → g x (wipe σ vs) H' fun σ2 H2 => wipe σ2 vs = wipe σ vs ∧ te σ2 H2 R)
    (hd : ∀ H', Same H1 H' → H' D = some (.lst ((List.range n).map f)) → Qd H') :
    ∃ W : Nat → Nat → Hp → Prop, (∃ m, W 0 m (upd H1 D (.lst []))) ∧ ∀ i m H, W i m H →
      (J.stop i H ∧ Qd H) ∨ (J.go i H ∧ ∃ Nx : Hp → Prop, (∀ H', Nx H' → ∃ m', m' < m ∧ W (i + 1) m' H') ∧ ∀ x H', J.yld i H x H' → g x (wipe σ vs) H' fun σ2 H2 => wipe σ2 vs = wipe σ vs ∧ tYes σ2 H2 fun b H3 =>
        if b = true then te σ2 H3 fun y H4 => ∃ acc, H4 D = some (.lst acc) ∧ acc.length < sizeLine ∧ Nx (upd H4 D (.lst (acc ++ [y]))) else Nx H3) := by
  refine lc_it wk (fun i H => Same H1 H ∧ H D = some (.lst ((List.range i).map f))) ⟨same_upd hD, upd_same⟩ (fun i H _ p => hG H p.1) (fun i x H H' hi p y => ?_) fun H p => hd H p.1 p.2
  have q := step i x H H' hi p.1 y (fun y H4 => ∃ acc, H4 D = some (.lst acc) ∧ acc.length < sizeLine ∧ (Same H1 (upd H4 D (.lst (acc ++ [y]))) ∧ upd H4 D (.lst (acc ++ [y])) D = some (.lst ((List.range (i + 1)).map f)))) fun H2 s2 => ?_
  · exact q
  · refine ⟨_, s2 _ _ p.2, by rw [List.length_map, List.length_range]; exact sz_lt (by omega), same_upd2 (p.1.trans s2) hD, ?_⟩
    rw [upd_same, List.range_succ, List.map_append]
    rfl
theorem range_str {z : Str} (f : Nat → V) : (List.range z.cps.size).map (fun i => f (z.cps.getD i 0)) = z.cps.toList.map f := by
  refine List.ext_getElem (by simp) fun i h1 h2 => ?_
  simp at h1
  simp [h1]
theorem range_list {xs : List V} (f : V → V) : (List.range xs.length).map (fun i => f (xs.getD i .non)) = xs.map f := by
  refine List.ext_getElem (by simp) fun i h1 h2 => ?_
  simp at h1
  simp [h1]
/-- over a text -/
theorem lc_str {z : Str} {i : Nat} {te : TE} {σ : L2.St} {H1 : Hp} {D : Addr} {Qd : Hp → Prop} (f : Nat → V) (hn : z.length ≤ 1000000) (hD : H1 D = none)
    (step : ∀ c H, Same H1 H → ∀ R : V → Hp → Prop, (∀ H2, Same H H2 → R (f c) H2) → te ((wipe σ [i]).set i (some (.str ⟨#[c]⟩))) H R)
    (hd : ∀ H', Same H1 H' → H' D = some (.lst (z.cps.toList.map f)) → Qd H') :
    ∃ W : Nat → Nat → Hp → Prop, (∃ m, W 0 m (upd H1 D (.lst []))) ∧ ∀ j m H, W j m H →
      ((Its z).stop j H ∧ Qd H) ∨ ((Its z).go j H ∧ ∃ Nx : Hp → Prop, (∀ H', Nx H' → ∃ m', m' < m ∧ W (j + 1) m' H') ∧ ∀ x H', (Its z).yld j H x H' → gName i x (wipe σ [i]) H' fun σ2 H2 => wipe σ2 [i] = wipe σ [i] ∧ tYes σ2 H2 fun b H3 =>
        if b = true then te σ2 H3 fun y H4 => ∃ acc, H4 D = some (.lst acc) ∧ acc.length < sizeLine ∧ Nx (upd H4 D (.lst (acc ++ [y]))) else Nx H3) := by
  refine lc_grow walk_str (fun j => f (z.cps.getD j 0)) hn hD (fun _ _ => True.intro) (fun j x H H' hj s y R hR => ?_) fun H' s e => hd H' s (by rw [e, range_str])
  obtain ⟨rfl, c, hc, rfl⟩ := y
  refine ⟨by simp [wipe], step c _ s R fun H2 s2 => ?_⟩
  have q := hR H2 s2
  have e : z.cps.getD j 0 = c := by
    rw [Array.getD_eq_getD_getElem?, hc]
    rfl
  rw [e] at q
  exact q

/-- what a callee raises goes on out of this def -/
theorem passE {X : Cx} {E : XK} {E₁ : Value → Shared → Prop} (hs : X.stack = X.env :: X.outer := by rfl) (hf : X.env.frame = some X.env.locals := by rfl) (hex : X.ex = [] := by rfl)
    (hx : X.xe = fun e s' => wpAny (model X.prog X.w) X.A (leaving X.env e) (fun _ s'' => L2.CX X.prog X.w X.outer X.H_0 X.s_0 E e s'') E₁ s' := by rfl) : Passes (L2.CX X.prog X.w) X E := passes_call (takes_of hs hf hex hx) fun _ _ _ _ h => h

/-! ### a def that says super() in its first statement, as the text has it -/
open NdefX in
structure SFun (P : Program) (K : PySem.W.Frag) (mg : Str → Option Value) (x qual : Str) (st : Stmt) (f cc cda D : Addr) (fd : FuncData) : Prop where
  ex : ∃ (oc : Value) (od : Option Addr) (dV kV doc pm : Value) (an : Option Addr) (ct : Value) (osl : Array (Option Value)), fd = PySem.W.fnX x qual (defArgs st) (defBody st) (defScope st) [("__class__", cc)] dV kV doc pm an (.ref cda) ct ∧ K.lookup f = some ⟨oc, od, .func fd, osl⟩ ∧ PySem.W.codeIn K (.ref cda) qual = true
  code : ∃ (oc : Value) (od : Option Addr) (osl : Array (Option Value)) (vs : Array Value) (file : Str) (tf : Tok), K.lookup cda = some ⟨oc, od, .fields vs, osl⟩ ∧ vs[2]? = some (.str file tf) ∧ ((P.main.file : Str) == file) = true
  cell : ∃ (oc : Value) (od : Option Addr) (osl : Array (Option Value)), K.lookup cc = some ⟨oc, od, .cell (some (.ref D)), osl⟩
  dcl : ∃ cd, PySem.W.clsIn K D = some cd
  sup : mg "super" = none
  top : (P.main.scope.names.lookup ("super" : Str)).isSome = false
open NdefX in
theorem SFun.ok {P : Program} {w : World} {K : PySem.W.Frag} {mg : Str → Option Value} {base : Heap} {x qual : Str} {st : Stmt} {f cc cda D : Addr} {fd : FuncData} {N ps : List Str} {k : Nat} {sp : Sp} {ar : Arg} (F : SFun P K mg x qual st f cc cda D fd)
    (S : NScope N ps ["__class__"] (defScope st)) (har : ((defArgs st).posonlyargs ++ (defArgs st).args).head? = some ar) (hN0 : N[0]? = some ar.arg) (hk0 : (defScope st).names.lookup ar.arg = some .local) (hdb : (ar.arg == ("__debug__" : Str)) = false)
    (hks : (defScope st).names.lookup ("super" : Str) = some .globalImplicit) (hkc : (defScope st).names.lookup ("__class__" : Str) = some .free) (len : ∀ vs H Q E, sp vs H Q E → vs.length = ps.length)
    (hbody : ∀ (A : Around) (outer : List Env) (s : Shared) (H : Hp) (vs : List V) (Q : VK) (E : XK), Room k (A.deeper (envF ⟨x, qual, defArgs st, defBody st, defScope st, [("__class__", cc)], cda⟩ f s.heap.objs.size)) → sp vs H Q E →
      SupT (ncx (L2.CX P w) P w K mg base N ⟨x, qual, defArgs st, defBody st, defScope st, [("__class__", cc)], cda⟩ f A outer s H E) f cc cda D →
      ∃ t, PSat (ncx (L2.CX P w) P w K mg base N ⟨x, qual, defArgs st, defBody st, defScope st, [("__class__", cc)], cda⟩ f A outer s H E) (defBody st) (defBody st) t ∧ t { nx := fun _ H' => Q .non H', rt := Q } (startF N vs [some (.ref D)]) H) :
    FnOk P w K mg base (L2.CX P w) (k + 1) f fd ps sp := by
  obtain ⟨oc, od, dV, kV, doc, pm, an, ct, osl, rfl, lk, hcd⟩ := F.ex
  obtain ⟨o2, d2, s2, hcell⟩ := F.cell
  refine fn_sup lk hcd S hcell len fun A outer s H vs Q E hr hsp => hbody A outer s H vs Q E hr hsp ?_
  exact ⟨⟨_, _, _, _, ar, lk, har, hN0, hk0, hdb⟩, F.code, ⟨_, _, _, hcell⟩, F.dcl, F.sup, F.top, rfl, rfl, by show ([("__class__", cc)] : List (Str × Addr)).lookup _ = _; rw [List.lookup_cons]; simp, hks, hkc⟩
theorem SFun.binds {P : Program} {K : PySem.W.Frag} {mg : Str → Option Value} {x qual : Str} {st : Stmt} {f cc cda D : Addr} {fd : FuncData} {ps : List Str} (F : SFun P K mg x qual st f cc cda D fd)
    (h : ∀ (dV kV doc pm : Value) (an : Option Addr) (cdv ct : Value) (us : List Value), us.length = ps.length → bindArgs (PySem.W.fnX x qual (defArgs st) (defBody st) (defScope st) [("__class__", cc)] dV kV doc pm an cdv ct) ⟨us, []⟩ = pure (ps.zip us)) : Binds K fd ps [] := by
  obtain ⟨oc, od, dV, kV, doc, pm, an, ct, osl, rfl, lk, hcd⟩ := F.ex
  exact .all (h dV kV doc pm an _ ct)

/-! ### errors with two fields, one field: what making and raising them asks -/
/-- self.f = x; self.g = y behind super().__init__(x, y) -/
def spErr2 (K : PySem.W.Frag) (C D : Addr) (f g : Str) : Sp := fun vs H Q _ => ∃ (a : Addr) (x y : V), vs = [.ref a, x, y] ∧ H a = some (exo a C none) ∧ SupX K C D ∧
  ∀ d, H d = none → d ≠ a → Q .non (upd (upd (upd H d (exd d [(f, x)])) a (exo a C (some d))) d (exd d [(g, y), (f, x)]))
def spErr1 (K : PySem.W.Frag) (C D : Addr) (f : Str) : Sp := fun vs H Q _ => ∃ (a : Addr) (x : V), vs = [.ref a, x] ∧ H a = some (exo a C none) ∧ SupX K C D ∧
  ∀ d, H d = none → d ≠ a → Q .non (upd (upd H d (exd d [(f, x)])) a (exo a C (some d)))
theorem mk_two {K : PySem.W.Frag} {C D : Addr} {f g : Str} {H1 : Hp} {R : XK} {x y : V} (S : SupX K C D) (h : ∀ d H', Same H1 H' → H1 d = none → H' d = some (.xd [(g, y), (f, x)]) → R (.ref C) (some d) H') (a : Addr) (ha : H1 a = none) :
    spErr2 K C D f g [.ref a, x, y] (upd H1 a (exo a C none)) (fun v H2 => v = .non ∧ ∃ (d : Addr), H2 a = some (exo a C (some d)) ∧ ∃ (fs : List (Str × V)), H2 d = some (exd d fs) ∧ H1 d = none ∧ R (.ref C) (some d) (upd (del H2 a) d (.xd fs))) (fun _ _ _ => False) := by
  refine ⟨a, x, y, rfl, upd_same, S, fun d hd hda => ⟨rfl, d, by rw [upd_ne (Ne.symm hda), upd_same], _, upd_same, by rw [upd_ne hda] at hd; exact hd, ?_⟩⟩
  rw [upd_ne hda] at hd
  refine h d _ (fun b o e => ?_) hd upd_same
  have n1 := ne_of_none e hd
  have n2 := ne_of_none e ha
  rw [upd_ne n1, del_ne n2, upd_ne n1, upd_ne n2, upd_ne n1, upd_ne n2]
  exact e
theorem mk_one {K : PySem.W.Frag} {C D : Addr} {f : Str} {H1 : Hp} {R : XK} {x : V} (S : SupX K C D) (h : ∀ d H', Same H1 H' → H1 d = none → H' d = some (.xd [(f, x)]) → R (.ref C) (some d) H') (a : Addr) (ha : H1 a = none) :
    spErr1 K C D f [.ref a, x] (upd H1 a (exo a C none)) (fun v H2 => v = .non ∧ ∃ (d : Addr), H2 a = some (exo a C (some d)) ∧ ∃ (fs : List (Str × V)), H2 d = some (exd d fs) ∧ H1 d = none ∧ R (.ref C) (some d) (upd (del H2 a) d (.xd fs))) (fun _ _ _ => False) := by
  refine ⟨a, x, rfl, upd_same, S, fun d hd hda => ⟨rfl, d, upd_same, _, by rw [upd_ne hda, upd_same], by rw [upd_ne hda] at hd; exact hd, ?_⟩⟩
  rw [upd_ne hda] at hd
  refine h d _ (fun b o e => ?_) hd upd_same
  have n1 := ne_of_none e hd
  have n2 := ne_of_none e ha
  rw [upd_ne n1, del_ne n2, upd_ne n2, upd_ne n1, upd_ne n2]
  exact e

theorem putF_len (f : Str) (v : V) : ∀ fs : List (Str × V), (putF f v fs).length ≤ fs.length + 1
  | [] => Nat.le_refl _
  | (g, x) :: r => by
    unfold putF
    split
    · exact Nat.le_succ _
    · exact Nat.succ_le_succ (putF_len f v r)

/-! ### simp's rows -/
section
variable {H : Hp} {Q : VK}
theorem req_ii (i j : Int) : rEq (.int i) (.int j) H Q = Q (.bl (decide (i = j))) H := by
  unfold rEq
  rw [show (decide (V.int i = V.int j)) = decide (i = j) by rw [decide_eq_decide]; simp]
  exact propext ⟨fun h => h.2, fun h => ⟨rfl, h⟩⟩
theorem req_ss (i j : Str) : rEq (.str i) (.str j) H Q = Q (.bl (decide (i = j))) H := by
  unfold rEq
  rw [show (decide (V.str i = V.str j)) = decide (i = j) by rw [decide_eq_decide]; simp]
  exact propext ⟨fun h => h.2, fun h => ⟨rfl, h⟩⟩
theorem rne_ii (i j : Int) : rNe (.int i) (.int j) H Q = Q (.bl (!decide (i = j))) H := by
  unfold rNe
  rw [show (decide (V.int i = V.int j)) = decide (i = j) by rw [decide_eq_decide]; simp]
  exact propext ⟨fun h => h.2, fun h => ⟨rfl, h⟩⟩
theorem rne_ss (i j : Str) : rNe (.str i) (.str j) H Q = Q (.bl (!decide (i = j))) H := by
  unfold rNe
  rw [show (decide (V.str i = V.str j)) = decide (i = j) by rw [decide_eq_decide]; simp]
  exact propext ⟨fun h => h.2, fun h => ⟨rfl, h⟩⟩
theorem radd_ii (i j : Int) : rAdd (.int i) (.int j) H Q = Q (.int (i + j)) H := propext ⟨fun ⟨_, _, e1, e2, h⟩ => by cases e1; cases e2; exact h, fun h => ⟨_, _, rfl, rfl, h⟩⟩
theorem rsub_ii (i j : Int) : rSub (.int i) (.int j) H Q = Q (.int (i - j)) H := propext ⟨fun ⟨_, _, e1, e2, h⟩ => by cases e1; cases e2; exact h, fun h => ⟨_, _, rfl, rfl, h⟩⟩
end
theorem atI_at {α : Type} (xs : List α) (j : Nat) : atI xs (j : Int) = xs[j]? := by
  unfold atI ixN
  rw [if_pos (by omega)]
  by_cases h : j < xs.length
  · rw [if_pos (by omega)]
    simp
  · rw [if_neg (by omega), List.getElem?_eq_none (by omega)]
    rfl
theorem atI_0 {α : Type} (xs : List α) : atI xs 0 = xs[0]? := atI_at xs 0
theorem atI_1 {α : Type} (xs : List α) : atI xs 1 = xs[1]? := atI_at xs 1
theorem atI_2 {α : Type} (xs : List α) : atI xs 2 = xs[2]? := atI_at xs 2
theorem atI_3 {α : Type} (xs : List α) : atI xs 3 = xs[3]? := atI_at xs 3
theorem atI_4 {α : Type} (xs : List α) : atI xs 4 = xs[4]? := atI_at xs 4

/-! ### lists and tuples that are tracked -/
def rLenL : List V → Hp → VK → Prop := fun xs H Q => ∃ p ys, xs = [.ref p] ∧ H p = some (.lst ys) ∧ Q (.int ys.length) H
def rLenU : List V → Hp → VK → Prop := fun xs H Q => ∃ p ys, xs = [.ref p] ∧ H p = some (.tup ys) ∧ Q (.int ys.length) H
def rIxLL : R2 := fun x y H Q => ∃ p ys i v, x = .ref p ∧ y = .int i ∧ H p = some (.lst ys) ∧ atI ys i = some v ∧ Q v H
def rIxU : R2 := fun x y H Q => ∃ p ys i v, x = .ref p ∧ y = .int i ∧ H p = some (.tup ys) ∧ atI ys i = some v ∧ Q v H
section
variable {X : Cx}
theorem call_lenL : CallR X (.builtin "len") rLenL := fun pins s σ H xs us Q I r ⟨p, ys, e, h, q⟩ => call_len_seq pins s σ H xs us Q I r ⟨p, ys, e, .inl (SqL.of h), q⟩
theorem call_lenU : CallR X (.builtin "len") rLenU := fun pins s σ H xs us Q I r ⟨p, ys, e, h, q⟩ => call_len_seq pins s σ H xs us Q I r ⟨p, ys, e, .inr (SqT.of h), q⟩
theorem ix_LL : IxR X rIxLL := fun value slice pins s σ H x y v u Q I rx ry ⟨p, ys, i, z, e1, e2, h, a, q⟩ hs => ix_list value slice pins s σ H x y v u Q I rx ry ⟨p, ys, i, z, e1, e2, SqL.of h, a, q⟩ hs
theorem ix_U : IxR X rIxU := fun value slice pins s σ H x y v u Q I rx ry ⟨p, ys, i, z, e1, e2, h, a, q⟩ hs => ix_tup value slice pins s σ H x y v u Q I rx ry ⟨p, ys, i, z, e1, e2, SqT.of h, a, q⟩ hs
end
end Ly

set_option Elab.async false
set_option maxRecDepth 100000
set_option maxHeartbeats 4000000
set_option linter.all false
/-! f-strings, keys of dicts: readings that simp takes apart one value at a time -/
namespace Ly
open PySem PySem.Spec PyProof.Rows L2
/-- a reading that simp leaves as it is -/
def hid (t : TS) : TS := t
theorem pss_hid {X : Cx} {sts : List Stmt} {t : TS} (h : PSs X sts t) : PSs X sts (hid t) := h
theorem hid_in {t : TS} {D : Ends} {σ : L2.St} {H : Hp} (h : t D σ H) : hid t D σ H := h
def fmtV (x : V) (H : Hp) (Q : VK) : Prop := (∃ y : Str, x = .str y ∧ y.length ≤ sizeLine ∧ Q (.str y) H) ∨ ∃ i : Int, x = .int i ∧ i.natAbs.log2 < 1920 ∧ Q (.str (toString i)) H
theorem tFmt_eq {te : TE} {σ : L2.St} {H : Hp} {Q : VK} : tFmt te σ H Q = te σ H fun x H1 => fmtV x H1 Q := rfl
theorem fmtV_str {y : Str} {H : Hp} {Q : VK} : fmtV (.str y) H Q = (y.length ≤ sizeLine ∧ Q (.str y) H) := propext (Iff.intro (fun h => by
  rcases h with ⟨z, e, h⟩ | ⟨i, e, h⟩
  · cases e; exact h
  · cases e) fun h => Or.inl ⟨_, rfl, h⟩)
theorem fmtV_int {i : Int} {H : Hp} {Q : VK} : fmtV (.int i) H Q = (i.natAbs.log2 < 1920 ∧ Q (.str (toString i)) H) := propext (Iff.intro (fun h => by
  rcases h with ⟨z, e, h⟩ | ⟨i, e, h⟩
  · cases e
  · cases e; exact h) fun h => Or.inr ⟨_, rfl, h⟩)
def jsV (ts : List TE) (acc : Str) (σ : L2.St) (x : V) (H : Hp) (Q : Str → Hp → Prop) : Prop := ∃ y : Str, x = .str y ∧ (acc ++ y).length ≤ sizeLine ∧ tJs ts (acc ++ y) σ H Q
theorem tJs_nil {acc : Str} {σ : L2.St} {H : Hp} {Q : Str → Hp → Prop} : tJs [] acc σ H Q = Q acc H := rfl
theorem tJs_cons {t : TE} {ts : List TE} {acc : Str} {σ : L2.St} {H : Hp} {Q : Str → Hp → Prop} : tJs (t :: ts) acc σ H Q = t σ H fun x H1 => jsV ts acc σ x H1 Q := rfl
theorem jsV_str {ts : List TE} {acc y : Str} {σ : L2.St} {H : Hp} {Q : Str → Hp → Prop} : jsV ts acc σ (.str y) H Q = ((acc ++ y).length ≤ sizeLine ∧ tJs ts (acc ++ y) σ H Q) := propext ⟨fun ⟨z, e, h⟩ => by cases e; exact h, fun h => ⟨_, rfl, h⟩⟩
def ikV (x : V) (H : Hp) (R : It → Hp → Prop) : Prop := ∃ d o, x = .ref d ∧ ((∃ kvs, H d = some (.frz o (.dK kvs)) ∧ R (Itk d o kvs) H) ∨ ∃ kvs, H d = some (.frz o (.dT kvs)) ∧ R (Itkt d o kvs) H)
theorem iKeys_eq {td : TE} {σ : L2.St} {H : Hp} {R : It → Hp → Prop} : iKeys td σ H R = td σ H fun x H1 => ikV x H1 R := rfl
theorem ikV_of {d : Addr} {o : Obj} {kvs : List (Key × V)} {H : Hp} {R : It → Hp → Prop} (e : H d = some (.frz o (.dK kvs))) (h : R (Itk d o kvs) H) : ikV (.ref d) H R := ⟨d, o, rfl, .inl ⟨kvs, e, h⟩⟩
theorem tLc_grow {J : It} {n : Nat} {G : Hp → Prop} {Y : Nat → Hp → V → Hp → Prop} (wk : Walk J n G Y) {wi : TI} {g : TG} {te : TE} {vs : List Nat} {σ : L2.St} {H H1 : Hp} {Q : VK} (hw : ∀ R : It → Hp → Prop, R J H1 → wi σ H R) (f : Nat → V) (hn : n ≤ 1000000) (hG : ∀ H, Same H1 H → G H)
    (step : ∀ i x H H', i < n → Same H1 H → Y i H x H' → ∀ R : V → Hp → Prop, (∀ H2, Same H H2 → R (f i) H2) → g x (wipe σ vs) H' fun σ2 H2 => wipe σ2 vs = wipe σ vs ∧ te σ2 H2 R)
    (hd : ∀ D H', H1 D = none → Same H1 H' → H' D = some (.lst ((List.range n).map f)) → Q (.ref D) H') : tLc wi g tYes te vs σ H Q :=
  hw _ fun D hD => lc_grow wk f hn hD hG step fun H' s e => hd D H' hD s e
theorem tFor_it {J : It} {n : Nat} {G : Hp → Prop} {Y : Nat → Hp → V → Hp → Prop} (wk : Walk J n G Y) {wi : TI} {g : TG} {tb : TS} {D : Ends} {σ : L2.St} {H H1 : Hp} (hw : ∀ R : It → Hp → Prop, R J H1 → wi σ H R) (Pv : Nat → L2.St → Hp → Prop) (h0 : Pv 0 σ H1) (hG : ∀ i σ H, i ≤ n → Pv i σ H → G H)
    (hs : ∀ i x σ H H', i < n → Pv i σ H → Y i H x H' → g x σ H' fun σ2 H2 => tb { D with nx := Pv (i + 1), ct := Pv (i + 1), bk := D.nx } σ2 H2) (hd : ∀ σ H, Pv n σ H → D.nx σ H) : tFor wi g tb D σ H :=
  hw _ (for_it wk Pv h0 hG hs hd)
theorem tLcIf_it {J : It} {n : Nat} {G : Hp → Prop} {Y : Nat → Hp → V → Hp → Prop} (wk : Walk J n G Y) {wi : TI} {g : TG} {tt : TT} {te : TE} {vs : List Nat} {σ : L2.St} {H H1 : Hp} {Q : VK} (hw : ∀ R : It → Hp → Prop, R J H1 → wi σ H R) (Pv : Addr → Nat → Hp → Prop) (h0 : ∀ D, H1 D = none → Pv D 0 (upd H1 D (.lst []))) (hG : ∀ D i H, i ≤ n → Pv D i H → G H)
    (hs : ∀ D i x H H', i < n → Pv D i H → Y i H x H' → g x (wipe σ vs) H' fun σ2 H2 => wipe σ2 vs = wipe σ vs ∧ tt σ2 H2 fun b H3 =>
      if b = true then te σ2 H3 fun y H4 => ∃ acc, H4 D = some (.lst acc) ∧ acc.length < sizeLine ∧ Pv D (i + 1) (upd H4 D (.lst (acc ++ [y]))) else Pv D (i + 1) H3) (hd : ∀ D H, H1 D = none → Pv D n H → Q (.ref D) H) : tLc wi g tt te vs σ H Q :=
  hw _ fun D hD => lc_it wk (Pv D) (h0 D hD) (hG D) (hs D) fun H p => hd D H hD p
theorem tLc_mk {S : It → Hp → Prop} {wi : TI} {g : TG} {tt : TT} {te : TE} {vs : List Nat} {σ : L2.St} {H : Hp} {Q : VK} (hw : ∀ R : It → Hp → Prop, (∀ J H1, S J H1 → R J H1) → wi σ H R) (h : ∀ J H1, S J H1 → tLc (fun _ _ R => R J H1) g tt te vs σ H Q) : tLc wi g tt te vs σ H Q := hw _ h
theorem tFor_mk {S : It → Hp → Prop} {wi : TI} {g : TG} {tb : TS} {D : Ends} {σ : L2.St} {H : Hp} (hw : ∀ R : It → Hp → Prop, (∀ J H1, S J H1 → R J H1) → wi σ H R) (h : ∀ J H1, S J H1 → tFor (fun _ _ R => R J H1) g tb D σ H) : tFor wi g tb D σ H := hw _ h
theorem paired_imp {α β : Type} {F G : α → β → Prop} (h : ∀ a b, F a b → G a b) : ∀ {xs : List α} {ys : List β}, Paired F xs ys → Paired G xs ys
  | _, _, .nil => .nil
  | _, _, .cons a r => .cons (h _ _ a) (paired_imp h r)
theorem hw_keys {td : TE} {σ : L2.St} {H H1 : Hp} {d : Addr} {o : Obj} {kvs : List (Key × V)} (h : ∀ Q : VK, Q (.ref d) H1 → td σ H Q) (e : H1 d = some (.frz o (.dK kvs))) (R : It → Hp → Prop) (q : R (Itk d o kvs) H1) : iKeys td σ H R := h _ ⟨d, o, rfl, .inl ⟨kvs, e, q⟩⟩
theorem hw_tup {K : PySem.W.Frag} {td : TE} {σ : L2.St} {H H1 : Hp} {a : Addr} {xs : List V} (h : ∀ Q : VK, Q (.ref a) H1 → td σ H Q) (e : H1 a = some (.tup xs)) (R : It → Hp → Prop) (q : R (Itt K a) H1) : iTup K td σ H R := h _ ⟨a, rfl, ⟨xs, SqT.of e⟩, q⟩
theorem hw_lst {K : PySem.W.Frag} {td : TE} {σ : L2.St} {H H1 : Hp} {a : Addr} {xs : List V} (h : ∀ Q : VK, Q (.ref a) H1 → td σ H Q) (e : H1 a = some (.lst xs)) (R : It → Hp → Prop) (q : R (Itl K a) H1) : iList K td σ H R := h _ ⟨a, rfl, ⟨xs, SqL.of e⟩, q⟩
theorem tyV_lst {K : PySem.W.Frag} {p : Addr} {H : Hp} {xs : List V} (h : H p = some (.lst xs)) : tyV K "list" (.ref p) H := .inl ⟨rfl, xs, SqL.of h⟩
end Ly

set_option Elab.async false
set_option maxRecDepth 100000
set_option maxHeartbeats 4000000
set_option linter.all false
/-! words of texts, plain Lean -/
namespace Ky
open PySem L2 TL
theorem tl_sp : tl (" " : Str) = [32] := by decide +kernel
theorem pre_one (s c : Nat) (r : List Nat) : pre [s] (c :: r) = (c == s) := by
  show (([c] : List Nat) == [s]) = (c == s)
  simp
theorem cut_join (s : Nat) : ∀ (l acc : List Nat), joinL [s] (spl [s] 0 acc l) = acc ++ l ∧ spl [s] 0 acc l ≠ []
  | [], acc => by rw [spl_nil]; exact ⟨by simp [joinL], by simp⟩
  | c :: r, acc => by
    cases h : pre [s] (c :: r) with
    | true =>
      rw [spl_hit h]
      have e : c = s := by rw [pre_one] at h; exact beq_iff_eq.mp h
      obtain ⟨h1, h2⟩ := cut_join s r []
      refine ⟨?_, by simp⟩
      show joinL [s] (acc :: spl [s] 0 [] r) = acc ++ c :: r
      cases q : spl [s] 0 [] r with
      | nil => exact absurd q h2
      | cons p t =>
        rw [q] at h1
        show acc ++ ([s] ++ joinL [s] (p :: t)) = acc ++ c :: r
        rw [h1, e]
        simp
    | false =>
      rw [spl_miss h]
      obtain ⟨h1, h2⟩ := cut_join s r (acc ++ [c])
      exact ⟨by rw [h1]; simp, h2⟩
theorem cut_len (s : Nat) : ∀ (l acc : List Nat), (spl [s] 0 acc l).length ≤ l.length + 1 ∧ ∀ p ∈ spl [s] 0 acc l, p.length ≤ acc.length + l.length ∧ (s ∉ acc → s ∉ p)
  | [], acc => by rw [spl_nil]; exact ⟨by simp, fun p hp => by rw [List.mem_singleton.mp hp]; exact ⟨by simp, id⟩⟩
  | c :: r, acc => by
    cases h : pre [s] (c :: r) with
    | true =>
      rw [spl_hit h]
      obtain ⟨h1, h2⟩ := cut_len s r []
      refine ⟨by show (spl [s] 0 [] r).length + 1 ≤ _; simp only [List.length_cons]; omega, fun p hp => ?_⟩
      rcases List.mem_cons.mp hp with rfl | hp
      · exact ⟨by simp, id⟩
      · obtain ⟨a, b⟩ := h2 p hp
        exact ⟨by simp only [List.length_nil, List.length_cons] at a ⊢; omega, fun _ => b (by simp)⟩
    | false =>
      rw [spl_miss h]
      have e : c ≠ s := by rw [pre_one] at h; exact beq_eq_false_iff_ne.mp h
      obtain ⟨h1, h2⟩ := cut_len s r (acc ++ [c])
      refine ⟨by simp only [List.length_cons]; omega, fun p hp => ?_⟩
      obtain ⟨a, b⟩ := h2 p hp
      refine ⟨by simp only [List.length_append, List.length_cons, List.length_nil] at a ⊢; omega, fun n => b ?_⟩
      simp only [List.mem_append, List.mem_singleton, not_or]
      exact ⟨n, fun z => e z.symm⟩
theorem words_eq (z : Str) : (Txt.split z " ").map tl = spl [32] 0 [] (tl z) := by
  have h := split_spl z " " (by rw [tl_sp]; simp) (kind_ok (by decide +kernel))
  rw [tl_sp] at h
  exact h
theorem words_ne (z : Str) : Txt.split z " " ≠ [] := fun e => by
  have h := words_eq z
  rw [e] at h
  exact (cut_join 32 (tl z) []).2 h.symm
theorem words_join (z : Str) : Txt.join " " (Txt.split z " ") = z := by
  refine ext_tl ?_
  rw [join_eq, tl_join, tl_sp, words_eq, (cut_join 32 (tl z) []).1]
  rfl
theorem words_len (z : Str) : (Txt.split z " ").length ≤ z.length + 1 := by
  have h := congrArg List.length (words_eq z)
  rw [List.length_map] at h
  rw [h, len_tl]
  exact (cut_len 32 (tl z) []).1
theorem words_at (z : Str) {x : Str} (hx : x ∈ Txt.split z " ") : x.length ≤ z.length ∧ 32 ∉ tl x := by
  have h := (cut_len 32 (tl z) []).2 (tl x) (by rw [← words_eq]; exact List.mem_map_of_mem hx)
  rw [len_tl, len_tl z]
  exact ⟨by simpa using h.1, h.2 (by simp)⟩
theorem join_words {ws : List Str} (h : ws ≠ []) (hs : ∀ x ∈ ws, 32 ∉ tl x) : Txt.split (Txt.join " " ws) " " = ws := split_join tl_sp (by decide +kernel) h hs
end Ky
namespace Ky
open PySem L2 TL
theorem app_len (x y : Str) : (x ++ y).length = x.length + y.length := by rw [len_tl, len_tl x, len_tl y, tl_append, List.length_append]
theorem joinL_len (s : List Nat) : ∀ l : List (List Nat), (joinL s l).length ≤ (l.map List.length).sum + l.length * s.length
  | [] => by simp [joinL]
  | [a] => by show a.length ≤ _; simp only [List.map_cons, List.map_nil, List.sum_cons, List.sum_nil]; omega
  | a :: b :: r => by
    have ih := joinL_len s (b :: r)
    show (a ++ (s ++ joinL s (b :: r))).length ≤ _
    simp only [List.length_append, List.map_cons, List.sum_cons, List.length_cons] at ih ⊢
    have e : (r.length + 1 + 1) * s.length = (r.length + 1) * s.length + s.length := Nat.succ_mul _ _
    omega
theorem join_len (sep : Str) (l : List Str) : (Txt.join sep l).length ≤ (l.map (·.length)).sum + l.length * sep.length := by
  have h := joinL_len (tl sep) (l.map tl)
  rw [join_eq, len_tl, tl_join]
  have e : (l.map tl).map List.length = l.map (·.length) := by rw [List.map_map]; exact List.map_congr_left fun x _ => (len_tl x).symm
  rw [e, List.length_map, ← len_tl] at h
  exact h
theorem sum_le {α : Type} (f : α → Nat) (b : Nat) : ∀ l : List α, (∀ x ∈ l, f x ≤ b) → (l.map f).sum ≤ l.length * b
  | [], _ => Nat.zero_le _
  | a :: r, h => by
    have ih := sum_le f b r fun x hx => h x (.tail _ hx)
    have h0 := h a (.head _)
    rw [List.map_cons, List.sum_cons, List.length_cons, Nat.succ_mul]
    omega
end Ky

set_option Elab.async false
set_option maxRecDepth 100000
set_option maxHeartbeats 4000000
set_option linter.all false
namespace Ky
open PySem L2 Ly
def top (i : Nat) : Stmt := PySem.Challenge.pw_layerseen_k90_texts_of_ends.main.body.getD i (.Pass ⟨0, 0, 0, 0⟩)
abbrev PP : Program := PySem.Challenge.pw_layerseen_k90_texts_of_ends

/-- what the module's names stand for -/
structure Tx (K : PySem.W.Frag) (mg : Str → Option Value) (aK aF : Addr) : Prop where
  letters : ∃ t, mg "LETTERS" = some (.str "abcdefghijklmnopqrstuvwxyz" t)
  most : ∃ t, mg "MOST_LETTERS" = some (.int 8 t)
  kept : mg "KEPT" = some (.ref aK)
  figs : mg "FIGURES" = some (.ref aF)
  keptS : ∀ H, SqT K H aK [.str "put", .str "copy", .str "if", .str "else", .str "say", .str "fail", .str "catch", .str "choose", .str "or", .str "none", .str "stop", .str "skip", .str "cell", .str "log", .str "failure", .str "choice"]
  figsS : ∀ H, SqT K H aF [.str "0", .str "1", .str "2", .str "3"]
  len : mg "len" = none
  all : mg "all" = none
  isinstance : mg "isinstance" = none
  str : mg "str" = none
  int : mg "int" = none
  list : mg "list" = none
  tuple : mg "tuple" = none
  abs : mg "abs" = none
  range : mg "range" = none
  dict : mg "dict" = none
  ValueError : mg "ValueError" = none

def letterC (c : Nat) : Bool := decide (c ∈ ("abcdefghijklmnopqrstuvwxyz" : Str).cps.toList)
def isWordM (s : Str) : Bool := decide (1 ≤ s.length) && decide (s.length ≤ 8) && s.cps.toList.all letterC
def keptL : List Str := ["put", "copy", "if", "else", "say", "fail", "catch", "choose", "or", "none", "stop", "skip", "cell", "log", "failure", "choice"]
def isNameM (s : Str) : Bool := isWordM s && !(decide (s ∈ keptL))
def figL : List Str := ["0", "1", "2", "3"]
def spIsWord : Sp := fun vs H Q _ => ∃ s : Str, vs = [.str s] ∧ s.length ≤ 100000 ∧ ∀ H', Same H H' → Q (.bl (isWordM s)) H'
def spIsName : Sp := fun vs H Q _ => ∃ s : Str, vs = [.str s] ∧ s.length ≤ 100000 ∧ ∀ H', Same H H' → Q (.bl (isNameM s)) H'
section
variable {w : World} {K : PySem.W.Frag} {mg : Str → Option Value} {base : Heap} {aK aF : Addr}
abbrev s_is_word : Stmt := top 9
theorem sc_is_word : FnScope ["value", "letter"] ["value"] (defScope s_is_word) := ⟨rfl, rfl, rfl, by decide +kernel, rfl, by decide +kernel, by decide +kernel⟩
theorem ok_is_word {f : Addr} {fd : FuncData} (F : Fun K "is_word" "is_word" s_is_word f fd) (T : Tx K mg aK aF) : FnOk PP w K mg base (L2.CX PP w) 1 f fd ["value"] spIsWord := by
  refine F.okX sc_is_word (fun vs H Q E h => ?_) (fun cdv A outer s H vs Q E hr h => ?_)
  · obtain ⟨z, rfl, _⟩ := h
    rfl
  · obtain ⟨z, rfl, hz, k⟩ := h
    obtain ⟨_, g_LETTERS⟩ := T.letters
    obtain ⟨_, g_MOST⟩ := T.most
    refine ⟨_, (pss_cons (ps_if (PW.pt (pw_or (pt_not (pt_val (pe_callB call_isi (by rfl) T.isinstance (by decide +kernel) (pa_cons (pv 0) (pa_cons (pe_bltn (v := .ty "str") (by rfl) T.str (by decide +kernel) rfl) pa_nil))))) (pw_or1 (pt_not (pt_chain op_le op_le pe_int (pe_callB call_len_str (by rfl) T.len (by decide +kernel) (pa_cons (pv 0) pa_nil)) (pe_glob (v := .int 8) rfl g_MOST ⟨_, rfl⟩)))))) (pss_one (ps_ret pe_bl)) pss_nil)
      (pss_one (ps_ret (pe_callB (cr_all rfl) (by rfl) T.all (by decide +kernel) (pa_cons (pe_lc (own := [("letter", 1)]) (g := gName 1) (tt := tYes) rfl sc_is_word.nd (pi_str (pv 0)) (blkOk_by (N := ["value", "letter"]) (sc := defScope s_is_word) (by decide +kernel)) (fun _ _ _ _ _ => pg_name (i := 1) sc_is_word.nd rfl (Or.inl rfl)) (fun _ _ _ _ _ => pts_nil) (fun _ _ _ _ _ => (pe_cmpR op_in_sign (pv 1) (pe_glob (v := .str "abcdefghijklmnopqrstuvwxyz") rfl g_LETTERS ⟨_, rfl⟩) (by rfl)))) pa_nil))))), ?_⟩
    simp only [tSeq, tIfS, tOr, tAnd, tNot, tB, tTest, tCB, tCons, tNil, tVar, tC, tOp, tUn, tRet, tRetN, tDrop, tAsg, tPar, tPar3, tNext, tNever, tBreak, tCont, tAug, tChain, tAndV, tOrV, tNotV, tIf, tIsN, tNotN, tTup, tLst, tCallD, tMethD, tMakeD, tFld, tCon, sFld, sFldAug, tCallK, tSl, tPart, tNoPart, tBM, tBM0, tDGet, tDIn, tDNotIn, sDPut, tDNewK, tM0, tM1, tOrT, tAndT, tNotT, tAsg2, tAsg3, gName, rI0, rI, rU, tYes, L2.start, NdefX.startF, List.set_cons_zero, List.set_cons_succ, List.map_cons, List.map_nil, List.length_cons, List.length_nil, Nat.sub_zero, Nat.reduceSub, Nat.reduceAdd, List.replicate_succ, List.replicate_zero, List.cons_append, List.nil_append, List.append_nil, List.getElem?_cons_zero, List.getElem?_cons_succ, Option.some.injEq, exists_eq_left', exists_eq_left, exists_eq_right, exists_eq_right', exists_and_left, exists_and_right, exists_eq, exists_eq', true_and, and_true, V.int.injEq, V.str.injEq, V.bl.injEq, V.ref.injEq, V.ty.injEq, HO.ins.injEq, HO.lst.injEq, HO.tup.injEq, and_assoc, List.cons.injEq, Bool.not_true, Bool.not_false, Bool.false_eq_true, if_false, if_true, cx_K, upd_same, upd_upd, isi_str, req_ii, req_ss, rne_ii, rne_ss, radd_ii, rsub_ii, atI_at, atI_0, atI_1, atI_2, atI_3, atI_4, rLenL, rLenU, rIxLL, rIxU, reduceCtorEq, iStr]
    refine ⟨sz_le (by omega), ?_⟩
    have e1 : isWordM z = (decide ((1 : Int) ≤ (z.length : Int)) && decide ((z.length : Int) ≤ 8) && z.cps.toList.all letterC) := by
      unfold isWordM
      rw [decide_eq_decide.mpr (show (1 ≤ z.length) ↔ ((1 : Int) ≤ (z.length : Int)) by omega), decide_eq_decide.mpr (show (z.length ≤ 8) ↔ ((z.length : Int) ≤ 8) by omega)]
    rw [e1] at k
    cases h1 : decide ((1 : Int) ≤ (z.length : Int)) with
    | false =>
      rw [h1] at k
      exact k H (Same.refl H)
    | true => cases h2 : decide ((z.length : Int) ≤ 8) with
      | false =>
        rw [h1, h2] at k
        exact k H (Same.refl H)
      | true =>
        rw [h1, h2] at k
        refine ⟨_, rfl, _, rfl, fun D hD => lc_str (fun c => .bl (letterC c)) (by omega) hD (fun c H1 _ R hR => ?_) fun H1 s1 e => ?_⟩
        · simp only [tSeq, tIfS, tOr, tAnd, tNot, tB, tTest, tCB, tCons, tNil, tVar, tC, tOp, tUn, tRet, tRetN, tDrop, tAsg, tPar, tPar3, tNext, tNever, tBreak, tCont, tAug, tChain, tAndV, tOrV, tNotV, tIf, tIsN, tNotN, tTup, tLst, tCallD, tMethD, tMakeD, tFld, tCon, sFld, sFldAug, tCallK, tSl, tPart, tNoPart, tBM, tBM0, tDGet, tDIn, tDNotIn, sDPut, tDNewK, tM0, tM1, tOrT, tAndT, tNotT, tAsg2, tAsg3, gName, rI0, rI, rU, tYes, L2.start, NdefX.startF, List.set_cons_zero, List.set_cons_succ, List.map_cons, List.map_nil, List.length_cons, List.length_nil, Nat.sub_zero, Nat.reduceSub, Nat.reduceAdd, List.replicate_succ, List.replicate_zero, List.cons_append, List.nil_append, List.append_nil, List.getElem?_cons_zero, List.getElem?_cons_succ, Option.some.injEq, exists_eq_left', exists_eq_left, exists_eq_right, exists_eq_right', exists_and_left, exists_and_right, exists_eq, exists_eq', true_and, and_true, V.int.injEq, V.str.injEq, V.bl.injEq, V.ref.injEq, V.ty.injEq, HO.ins.injEq, HO.lst.injEq, HO.tup.injEq, and_assoc, List.cons.injEq, Bool.not_true, Bool.not_false, Bool.false_eq_true, if_false, if_true, cx_K, upd_same, upd_upd, isi_str, req_ii, req_ss, rne_ii, rne_ss, radd_ii, rsub_ii, atI_at, atI_0, atI_1, atI_2, atI_3, atI_4, rLenL, rLenU, rIxLL, rIxU, reduceCtorEq, wipe]
          exact ⟨c, rfl, hR H1 (Same.refl H1)⟩
        · refine ⟨D, z.cps.toList.map letterC, rfl, SqL.of (by rw [e, List.map_map]; rfl), ?_⟩
          rw [List.all_map]
          exact k H1 s1
theorem inV_strs (s : Str) : ∀ xs : List Str, inV (.str s) (xs.map V.str) = decide (s ∈ xs)
  | [] => rfl
  | y :: ys => by
    have ih := inV_strs s ys
    unfold inV at ih ⊢
    rw [List.map_cons, List.any_cons, ih]
    show ((y == s) || decide (s ∈ ys)) = decide (s ∈ y :: ys)
    by_cases e : y = s
    · subst e; simp
    · have e2 : ¬ s = y := fun z => e z.symm
      simp [e, e2]
theorem flat_strs : ∀ xs : List Str, (xs.map V.str).all flatV = true
  | [] => rfl
  | y :: ys => by rw [List.map_cons, List.all_cons, flat_strs ys]; rfl
theorem rIn_strs {neg : Bool} {H : Hp} {a : Addr} {ys : List Str} {s : Str} {Q : VK} (h : SqL K H a (ys.map V.str) ∨ SqT K H a (ys.map V.str)) (q : Q (.bl (if neg then !decide (s ∈ ys) else decide (s ∈ ys))) H) : rIn K neg (.str s) (.ref a) H Q :=
  ⟨a, ys.map V.str, rfl, h, rfl, flat_strs ys, by rw [inV_strs]; exact q⟩
theorem keptT (T : Tx K mg aK aF) (H : Hp) : SqT K H aK (keptL.map V.str) := T.keptS H
theorem figT (T : Tx K mg aK aF) (H : Hp) : SqT K H aF (figL.map V.str) := T.figsS H
abbrev s_is_name : Stmt := top 10
theorem sc_is_name : FnScope ["value"] ["value"] (defScope s_is_name) := ⟨rfl, rfl, rfl, by decide +kernel, rfl, by decide +kernel, by decide +kernel⟩
theorem ok_is_name {f : Addr} {fd : FuncData} (F : Fun K "is_name" "is_name" s_is_name f fd) (T : Tx K mg aK aF) (D_is_word : Df PP w K mg base 1 "is_word" ["value"] spIsWord) : FnOk PP w K mg base (L2.CX PP w) 2 f fd ["value"] spIsName := by
  refine F.okX sc_is_name (fun vs H Q E h => ?_) (fun cdv A outer s H vs Q E hr h => ?_)
  · obtain ⟨z, rfl, _⟩ := h
    rfl
  · obtain ⟨z, rfl, hz, k⟩ := h
    refine ⟨_, (pss_one (ps_ret (pe_and (pe_df D_is_word (hr.mono (by decide)) passL (pa_cons (pv 0) pa_nil)) (pe_one (pe_cmpR op_notIn_seq (pv 0) (pe_glob (v := .ref aK) rfl T.kept rfl) (by rfl)))))), ?_⟩
    simp only [tSeq, tIfS, tOr, tAnd, tNot, tB, tTest, tCB, tCons, tNil, tVar, tC, tOp, tUn, tRet, tRetN, tDrop, tAsg, tPar, tPar3, tNext, tNever, tBreak, tCont, tAug, tChain, tAndV, tOrV, tNotV, tIf, tIsN, tNotN, tTup, tLst, tCallD, tMethD, tMakeD, tFld, tCon, sFld, sFldAug, tCallK, tSl, tPart, tNoPart, tBM, tBM0, tDGet, tDIn, tDNotIn, sDPut, tDNewK, tM0, tM1, tOrT, tAndT, tNotT, tAsg2, tAsg3, gName, rI0, rI, rU, tYes, L2.start, NdefX.startF, List.set_cons_zero, List.set_cons_succ, List.map_cons, List.map_nil, List.length_cons, List.length_nil, Nat.sub_zero, Nat.reduceSub, Nat.reduceAdd, List.replicate_succ, List.replicate_zero, List.cons_append, List.nil_append, List.append_nil, List.getElem?_cons_zero, List.getElem?_cons_succ, Option.some.injEq, exists_eq_left', exists_eq_left, exists_eq_right, exists_eq_right', exists_and_left, exists_and_right, exists_eq, exists_eq', true_and, and_true, V.int.injEq, V.str.injEq, V.bl.injEq, V.ref.injEq, V.ty.injEq, HO.ins.injEq, HO.lst.injEq, HO.tup.injEq, and_assoc, List.cons.injEq, Bool.not_true, Bool.not_false, Bool.false_eq_true, if_false, if_true, cx_K, upd_same, upd_upd, isi_str, req_ii, req_ss, rne_ii, rne_ss, radd_ii, rsub_ii, atI_at, atI_0, atI_1, atI_2, atI_3, atI_4, rLenL, rLenU, rIxLL, rIxU, reduceCtorEq, spIsWord]
    refine ⟨hz, fun H' s' => ?_⟩
    unfold isNameM at k
    cases e : isWordM z with
    | false =>
      rw [e] at k
      exact k H' s'
    | true =>
      rw [e] at k
      exact rIn_strs (.inr (keptT T H')) (k H' s')

/-! ### Words -/
def wF (lw : Addr) (i : Nat) (ob : Int) : List (Str × V) := [("words", .ref lw), ("spot", .int i), ("open_blocks", .int ob)]
theorem wF_words (lw : Addr) (i : Nat) (ob : Int) : (wF lw i ob).lookup ("words" : Str) = some (.ref lw) := by kernel_rfl
theorem wF_spot (lw : Addr) (i : Nat) (ob : Int) : (wF lw i ob).lookup ("spot" : Str) = some (.int i) := by kernel_rfl
theorem wF_put (lw : Addr) (i j : Nat) (ob : Int) : putF "spot" (.int (j : Nat)) (wF lw i ob) = wF lw j ob := by kernel_rfl
theorem wF_new (lw : Addr) : putF "open_blocks" (.int 0) (putF "spot" (.int 0) (putF "words" (.ref lw) [])) = wF lw 0 0 := by kernel_rfl
theorem wF_no (lw : Addr) (i : Nat) (ob : Int) {m : Str} (h : m ≠ "words") (h2 : m ≠ "spot") (h3 : m ≠ "open_blocks") : (wF lw i ob).lookup m = none := by
  unfold wF
  have n1 : (m == ("words" : Str)) = false := beq_false_of_ne h
  have n2 : (m == ("spot" : Str)) = false := beq_false_of_ne h2
  have n3 : (m == ("open_blocks" : Str)) = false := beq_false_of_ne h3
  simp only [List.lookup_cons, n1, n2, n3, List.lookup_nil]
/-- all but what stands at S is as it was -/
def Keep (S : List Addr) (H H' : Hp) : Prop := ∀ b o, H b = some o → b ∉ S → H' b = some o
theorem Keep.of {S : List Addr} {H H' : Hp} (h : Same H H') : Keep S H H' := fun b o e _ => h b o e
theorem Keep.trans {S T U : List Addr} {H H1 H2 : Hp} (a : Keep S H H1) (b : Keep T H1 H2) (h1 : ∀ x ∈ S, x ∈ U) (h2 : ∀ x ∈ T, x ∈ U) : Keep U H H2 := fun c o e n => b c o (a c o e fun z => n (h1 c z)) fun z => n (h2 c z)
theorem Keep.mono {S U : List Addr} {H H1 : Hp} (a : Keep S H H1) (h1 : ∀ x ∈ S, x ∈ U) : Keep U H H1 := fun c o e n => a c o e fun z => n (h1 c z)
structure WdAt (CW : Addr) (H : Hp) (p lw : Addr) (ws : List Str) (i : Nat) (ob : Int) : Prop where
  ob : ∃ dx, H p = some (.ins CW dx (wF lw i ob))
  li : H lw = some (.lst (ws.map V.str))
  le : i ≤ ws.length
  sz : ws.length ≤ 100000
  wz : ∀ x ∈ ws, x.length ≤ 100000
theorem WdAt.keep {CW : Addr} {H H' : Hp} {p lw : Addr} {ws : List Str} {i : Nat} {ob : Int} {S : List Addr} (W : WdAt CW H p lw ws i ob) (k : Keep S H H') (h1 : p ∉ S) (h2 : lw ∉ S) : WdAt CW H' p lw ws i ob :=
  ⟨let ⟨dx, e⟩ := W.ob; ⟨dx, k _ _ e h1⟩, k _ _ W.li h2, W.le, W.sz, W.wz⟩
theorem WdAt.same {CW : Addr} {H H' : Hp} {p lw : Addr} {ws : List Str} {i : Nat} {ob : Int} (W : WdAt CW H p lw ws i ob) (k : Same H H') : WdAt CW H' p lw ws i ob := W.keep (Keep.of (S := []) k) (fun z => nomatch z) (fun z => nomatch z)
theorem WdAt.ne {CW : Addr} {H : Hp} {p lw : Addr} {ws : List Str} {i : Nat} {ob : Int} (W : WdAt CW H p lw ws i ob) : p ≠ lw := by
  obtain ⟨dx, e⟩ := W.ob
  exact ne_of e W.li (by intro z; cases z)
/-- the class Words, as the top has made it -/
structure WC (K : PySem.W.Frag) (CW : Addr) : Prop where
  cl : Cls K CW
  nW : NoAttr K CW "words"
  nS : NoAttr K CW "spot"
  nO : NoAttr K CW "open_blocks"
/-- the error BadText(0, k) -/
def Err (E : XK) (CB : Addr) (S : List Addr) (k : Nat) (H : Hp) : Prop := ∀ d H', Keep S H H' → H' d = some (.xd [("word", .int k), ("line", .int 0)]) → E (.ref CB) (some d) H'
theorem Err.after {E : XK} {CB : Addr} {S T U : List Addr} {k : Nat} {H H1 : Hp} (e : Err E CB U k H) (a : Keep S H H1) (h1 : ∀ x ∈ S, x ∈ U) (h2 : ∀ x ∈ T, x ∈ U) : Err E CB T k H1 := fun d H' kp hd => e d H' (a.trans kp h1 h2) hd

abbrev spBT (K : PySem.W.Frag) (CB : Addr) : Sp := spErr2 K CB CB "line" "word"
def spWI (CW CB : Addr) : Sp := fun vs H Q E => ∃ (p dx : Addr) (x : V), vs = [.ref p, x] ∧ H p = some (.ins CW dx []) ∧
  ((∃ s : Str, x = .str s ∧ s.length ≤ 90000 ∧ ∀ lw H', Keep [p] H H' → H lw = none → WdAt CW H' p lw (Txt.split s " ") 0 0 → Q .non H') ∨
    (∃ t, TyX K H x t ∧ PySem.W.kitOne K t (.type "str") = some false ∧ Err E CB [] 0 H))
def spNext (CW : Addr) : Sp := fun vs H Q _ => ∃ (p lw : Addr) (ws : List Str) (i : Nat) (ob : Int) (x : Str), vs = [.ref p, .str x] ∧ WdAt CW H p lw ws i ob ∧ Q (.bl (decide (ws[i]? = some x))) H
def spRefuse (CW CB : Addr) : Sp := fun vs H _ E => ∃ (p lw : Addr) (ws : List Str) (i : Nat) (ob : Int), vs = [.ref p] ∧ WdAt CW H p lw ws i ob ∧ Err E CB [] i H
/-- the next word, if it is as c says -/
def Taken (Q : VK) (E : XK) (CW CB : Addr) (c : Str → Bool) (p lw : Addr) (ws : List Str) (i : Nat) (ob : Int) (H : Hp) (f : Str → V) : Prop :=
  (∀ x, ws[i]? = some x → c x = true → ∀ H', Keep [p] H H' → WdAt CW H' p lw ws (i + 1) ob → Q (f x) H') ∧ ((∀ x, ws[i]? = some x → c x = false) → Err E CB [p] i H)
def spTake (CW CB : Addr) (c : Str → Bool) : Sp := fun vs H Q E => ∃ (p lw : Addr) (ws : List Str) (i : Nat) (ob : Int), vs = [.ref p] ∧ WdAt CW H p lw ws i ob ∧ Taken Q E CW CB c p lw ws i ob H V.str
def spTakeOne (K : PySem.W.Frag) (CW CB : Addr) : Sp := fun vs H Q E => ∃ (p lw t : Addr) (ws ys : List Str) (i : Nat) (ob : Int), vs = [.ref p, .ref t] ∧ SqT K H t (ys.map V.str) ∧ WdAt CW H p lw ws i ob ∧ Taken Q E CW CB (fun x => decide (x ∈ ys)) p lw ws i ob H V.str
def figV (x : Str) : Int := if x = "0" then 0 else if x = "1" then 1 else if x = "2" then 2 else 3
def spFig (CW CB : Addr) : Sp := fun vs H Q E => ∃ (p lw : Addr) (ws : List Str) (i : Nat) (ob : Int), vs = [.ref p] ∧ WdAt CW H p lw ws i ob ∧ Taken Q E CW CB (fun x => decide (x ∈ figL)) p lw ws i ob H fun x => .int (figV x)
def spEnd (CW CB : Addr) : Sp := fun vs H Q E => ∃ (p lw : Addr) (ws : List Str) (i : Nat) (ob : Int), vs = [.ref p] ∧ WdAt CW H p lw ws i ob ∧ (i = ws.length → Q .non H) ∧ (i < ws.length → Err E CB [] i H)

variable {CW CB : Addr}
abbrev s_Words___init__ : Stmt := inClass (top 13) 0
theorem sc_Words___init__ : FnScope ["self", "text"] ["self", "text"] (defScope s_Words___init__) := ⟨rfl, rfl, rfl, by decide +kernel, rfl, by decide +kernel, by decide +kernel⟩
theorem ok_WI {f : Addr} {fd : FuncData} (F : Fun K "__init__" "Words.__init__" s_Words___init__ f fd) (T : Tx K mg aK aF) (C : WC K CW) (S : SupX K CB CB) (E_BadText : De PP w K mg base 1 "BadText" CB ["self", "line", "word"] (spBT K CB)) :
    FnOk PP w K mg base (L2.CX PP w) 3 f fd ["self", "text"] (spWI (K := K) CW CB) := by
  refine F.okX sc_Words___init__ (fun vs H Q E h => ?_) (fun cdv A outer s H vs Q E hr h => ?_)
  · obtain ⟨p, dx, x, rfl, _⟩ := h
    rfl
  · obtain ⟨p, dx, x, rfl, hp, h⟩ := h
    refine ⟨_, (pss_cons (ps_if (pt_not (pt_val (pe_callB call_isi (by rfl) T.isinstance (by decide +kernel) (pa_cons (pv 1) (pa_cons (pe_bltn (v := .ty "str") (by rfl) T.str (by decide +kernel) rfl) pa_nil))))) (pss_one (ps_raise rfl (takes_of rfl rfl rfl rfl) (pmk_de E_BadText (hr.mono (by decide)) (pa_cons pe_int (pa_cons pe_int pa_nil))))) pss_nil)
      (pss_cons (ps_fld (pv 0) (pe_split (pv 1) pe_str) rfl)
      (pss_cons (ps_fld (pv 0) pe_int rfl)
      (pss_one (ps_fld (pv 0) pe_int rfl))))), ?_⟩
    rcases h with ⟨z, rfl, hz, k⟩ | ⟨t, ty, kt, er⟩
    · simp only [tSeq, tIfS, tOr, tAnd, tNot, tB, tTest, tCB, tCons, tNil, tVar, tC, tOp, tUn, tRet, tRetN, tDrop, tAsg, tPar, tPar3, tNext, tNever, tBreak, tCont, tAug, tChain, tAndV, tOrV, tNotV, tIf, tIsN, tNotN, tTup, tLst, tCallD, tMethD, tMakeD, tFld, tCon, sFld, sFldAug, tCallK, tSl, tPart, tNoPart, tBM, tBM0, tDGet, tDIn, tDNotIn, sDPut, tDNewK, tM0, tM1, tOrT, tAndT, tNotT, tAsg2, tAsg3, gName, rI0, rI, rU, tYes, L2.start, NdefX.startF, List.set_cons_zero, List.set_cons_succ, List.map_cons, List.map_nil, List.length_cons, List.length_nil, Nat.sub_zero, Nat.reduceSub, Nat.reduceAdd, List.replicate_succ, List.replicate_zero, List.cons_append, List.nil_append, List.append_nil, List.getElem?_cons_zero, List.getElem?_cons_succ, Option.some.injEq, exists_eq_left', exists_eq_left, exists_eq_right, exists_eq_right', exists_and_left, exists_and_right, exists_eq, exists_eq', true_and, and_true, V.int.injEq, V.str.injEq, V.bl.injEq, V.ref.injEq, V.ty.injEq, HO.ins.injEq, HO.lst.injEq, HO.tup.injEq, and_assoc, List.cons.injEq, Bool.not_true, Bool.not_false, Bool.false_eq_true, if_false, if_true, cx_K, upd_same, upd_upd, isi_str, req_ii, req_ss, rne_ii, rne_ss, radd_ii, rsub_ii, atI_at, atI_0, atI_1, atI_2, atI_3, atI_4, rLenL, rLenU, rIxLL, rIxU, reduceCtorEq, rNewStrs]
      refine ⟨by decide +kernel, sz_le (by omega), fun lw hl => ?_⟩
      have ne : p ≠ lw := ne_of_none hp hl
      have l1 := putF_len "words" (.ref lw) []
      have l2 := putF_len "spot" (.int 0) (putF "words" (.ref lw) [])
      simp only [List.length_nil] at l1
      refine ⟨CW, dx, [], by rw [upd_ne ne]; exact hp, C.cl, C.nW, by decide, C.cl, C.nS, by omega, C.cl, C.nO, by omega, ?_⟩
      have kp : Keep [p] H (upd (upd H lw (.lst ((Txt.split z " ").map V.str))) p (.ins CW dx (wF lw 0 0))) := fun b o e n => by
        rw [upd_ne (fun q => n (by rw [q]; exact .head _)), upd_ne (ne_of_none e hl)]
        exact e
      rw [wF_new]
      exact k lw _ kp hl ⟨⟨dx, upd_same⟩, by rw [upd_ne ne.symm, upd_same], Nat.zero_le _, by have := words_len z; omega, fun x hx => by have := (words_at z hx).1; omega⟩
    · simp only [tSeq, tIfS, tOr, tAnd, tNot, tB, tTest, tCB, tCons, tNil, tVar, tC, tOp, tUn, tRet, tRetN, tDrop, tAsg, tPar, tPar3, tNext, tNever, tBreak, tCont, tAug, tChain, tAndV, tOrV, tNotV, tIf, tIsN, tNotN, tTup, tLst, tCallD, tMethD, tMakeD, tFld, tCon, sFld, sFldAug, tCallK, tSl, tPart, tNoPart, tBM, tBM0, tDGet, tDIn, tDNotIn, sDPut, tDNewK, tM0, tM1, tOrT, tAndT, tNotT, tAsg2, tAsg3, gName, rI0, rI, rU, tYes, L2.start, NdefX.startF, List.set_cons_zero, List.set_cons_succ, List.map_cons, List.map_nil, List.length_cons, List.length_nil, Nat.sub_zero, Nat.reduceSub, Nat.reduceAdd, List.replicate_succ, List.replicate_zero, List.cons_append, List.nil_append, List.append_nil, List.getElem?_cons_zero, List.getElem?_cons_succ, Option.some.injEq, exists_eq_left', exists_eq_left, exists_eq_right, exists_eq_right', exists_and_left, exists_and_right, exists_eq, exists_eq', true_and, and_true, V.int.injEq, V.str.injEq, V.bl.injEq, V.ref.injEq, V.ty.injEq, HO.ins.injEq, HO.lst.injEq, HO.tup.injEq, and_assoc, List.cons.injEq, Bool.not_true, Bool.not_false, Bool.false_eq_true, if_false, if_true, cx_K, upd_same, upd_upd, isi_str, req_ii, req_ss, rne_ii, rne_ss, radd_ii, rsub_ii, atI_at, atI_0, atI_1, atI_2, atI_3, atI_4, rLenL, rLenU, rIxLL, rIxU, reduceCtorEq]
      refine ⟨x, .ty "str", t, .type "str", false, rfl, ClsV.ty _, ty, kt, ?_⟩
      simp only [tSeq, tIfS, tOr, tAnd, tNot, tB, tTest, tCB, tCons, tNil, tVar, tC, tOp, tUn, tRet, tRetN, tDrop, tAsg, tPar, tPar3, tNext, tNever, tBreak, tCont, tAug, tChain, tAndV, tOrV, tNotV, tIf, tIsN, tNotN, tTup, tLst, tCallD, tMethD, tMakeD, tFld, tCon, sFld, sFldAug, tCallK, tSl, tPart, tNoPart, tBM, tBM0, tDGet, tDIn, tDNotIn, sDPut, tDNewK, tM0, tM1, tOrT, tAndT, tNotT, tAsg2, tAsg3, gName, rI0, rI, rU, tYes, L2.start, NdefX.startF, List.set_cons_zero, List.set_cons_succ, List.map_cons, List.map_nil, List.length_cons, List.length_nil, Nat.sub_zero, Nat.reduceSub, Nat.reduceAdd, List.replicate_succ, List.replicate_zero, List.cons_append, List.nil_append, List.append_nil, List.getElem?_cons_zero, List.getElem?_cons_succ, Option.some.injEq, exists_eq_left', exists_eq_left, exists_eq_right, exists_eq_right', exists_and_left, exists_and_right, exists_eq, exists_eq', true_and, and_true, V.int.injEq, V.str.injEq, V.bl.injEq, V.ref.injEq, V.ty.injEq, HO.ins.injEq, HO.lst.injEq, HO.tup.injEq, and_assoc, List.cons.injEq, Bool.not_true, Bool.not_false, Bool.false_eq_true, if_false, if_true, cx_K, upd_same, upd_upd, isi_str, req_ii, req_ss, rne_ii, rne_ss, radd_ii, rsub_ii, atI_at, atI_0, atI_1, atI_2, atI_3, atI_4, rLenL, rLenU, rIxLL, rIxU, reduceCtorEq, tMkO]
      exact ⟨by decide, mk_two S fun d H' s2 _ e => er d H' (Keep.of s2) e⟩
abbrev s_Words_is_next : Stmt := inClass (top 13) 1
theorem sc_Words_is_next : FnScope ["self", "word"] ["self", "word"] (defScope s_Words_is_next) := ⟨rfl, rfl, rfl, by decide +kernel, rfl, by decide +kernel, by decide +kernel⟩
theorem ok_WN {f : Addr} {fd : FuncData} (F : Fun K "is_next" "Words.is_next" s_Words_is_next f fd) (T : Tx K mg aK aF) (C : WC K CW) : FnOk PP w K mg base (L2.CX PP w) 1 f fd ["self", "word"] (spNext CW) := by
  refine F.okX sc_Words_is_next (fun vs H Q E h => ?_) (fun cdv A outer s H vs Q E hr h => ?_)
  · obtain ⟨p, lw, ws, i, ob, x, rfl, _⟩ := h
    rfl
  · obtain ⟨p, lw, ws, i, ob, x, rfl, W, k⟩ := h
    obtain ⟨dx, hp⟩ := W.ob
    have hl := W.li
    refine ⟨_, (pss_one (ps_ret (pe_and (pe_cmpR op_lt (pe_fld (pv 0) rfl) (pe_callB call_lenL (by rfl) T.len (by decide +kernel) (pa_cons (pe_fld (pv 0) rfl) pa_nil)) (nomark _)) (pe_one (pe_cmpR op_eq (pe_ix ix_LL (pe_fld (pv 0) rfl) (pe_fld (pv 0) rfl) (fun _ _ => rfl)) (pv 1) (nomark _)))))), ?_⟩
    simp only [tSeq, tIfS, tOr, tAnd, tNot, tB, tTest, tCB, tCons, tNil, tVar, tC, tOp, tUn, tRet, tRetN, tDrop, tAsg, tPar, tPar3, tNext, tNever, tBreak, tCont, tAug, tChain, tAndV, tOrV, tNotV, tIf, tIsN, tNotN, tTup, tLst, tCallD, tMethD, tMakeD, tFld, tCon, sFld, sFldAug, tCallK, tSl, tPart, tNoPart, tBM, tBM0, tDGet, tDIn, tDNotIn, sDPut, tDNewK, tM0, tM1, tOrT, tAndT, tNotT, tAsg2, tAsg3, gName, rI0, rI, rU, tYes, L2.start, NdefX.startF, List.set_cons_zero, List.set_cons_succ, List.map_cons, List.map_nil, List.length_cons, List.length_nil, Nat.sub_zero, Nat.reduceSub, Nat.reduceAdd, List.replicate_succ, List.replicate_zero, List.cons_append, List.nil_append, List.append_nil, List.getElem?_cons_zero, List.getElem?_cons_succ, Option.some.injEq, exists_eq_left', exists_eq_left, exists_eq_right, exists_eq_right', exists_and_left, exists_and_right, exists_eq, exists_eq', true_and, and_true, V.int.injEq, V.str.injEq, V.bl.injEq, V.ref.injEq, V.ty.injEq, HO.ins.injEq, HO.lst.injEq, HO.tup.injEq, and_assoc, List.cons.injEq, Bool.not_true, Bool.not_false, Bool.false_eq_true, if_false, if_true, cx_K, upd_same, upd_upd, isi_str, req_ii, req_ss, rne_ii, rne_ss, radd_ii, rsub_ii, atI_at, atI_0, atI_1, atI_2, atI_3, atI_4, rLenL, rLenU, rIxLL, rIxU, reduceCtorEq, hp, hl, C.cl, C.nS, C.nW, wF_words, wF_spot, List.length_map, List.getElem?_map]
    refine ite2 (fun e => ?_) fun e => ?_
    · have hi : i < ws.length := by simpa using e
      rw [List.getElem?_eq_getElem hi] at k ⊢
      simp only [tSeq, tIfS, tOr, tAnd, tNot, tB, tTest, tCB, tCons, tNil, tVar, tC, tOp, tUn, tRet, tRetN, tDrop, tAsg, tPar, tPar3, tNext, tNever, tBreak, tCont, tAug, tChain, tAndV, tOrV, tNotV, tIf, tIsN, tNotN, tTup, tLst, tCallD, tMethD, tMakeD, tFld, tCon, sFld, sFldAug, tCallK, tSl, tPart, tNoPart, tBM, tBM0, tDGet, tDIn, tDNotIn, sDPut, tDNewK, tM0, tM1, tOrT, tAndT, tNotT, tAsg2, tAsg3, gName, rI0, rI, rU, tYes, L2.start, NdefX.startF, List.set_cons_zero, List.set_cons_succ, List.map_cons, List.map_nil, List.length_cons, List.length_nil, Nat.sub_zero, Nat.reduceSub, Nat.reduceAdd, List.replicate_succ, List.replicate_zero, List.cons_append, List.nil_append, List.append_nil, List.getElem?_cons_zero, List.getElem?_cons_succ, Option.some.injEq, exists_eq_left', exists_eq_left, exists_eq_right, exists_eq_right', exists_and_left, exists_and_right, exists_eq, exists_eq', true_and, and_true, V.int.injEq, V.str.injEq, V.bl.injEq, V.ref.injEq, V.ty.injEq, HO.ins.injEq, HO.lst.injEq, HO.tup.injEq, and_assoc, List.cons.injEq, Bool.not_true, Bool.not_false, Bool.false_eq_true, if_false, if_true, cx_K, upd_same, upd_upd, isi_str, req_ii, req_ss, rne_ii, rne_ss, radd_ii, rsub_ii, atI_at, atI_0, atI_1, atI_2, atI_3, atI_4, rLenL, rLenU, rIxLL, rIxU, reduceCtorEq, Option.map_some]
      simpa only [Option.some.injEq] using k
    · have hi : ¬ i < ws.length := by simpa using e
      rw [List.getElem?_eq_none (by omega)] at k
      exact k
abbrev s_Words_refuse : Stmt := inClass (top 13) 2
theorem sc_Words_refuse : FnScope ["self"] ["self"] (defScope s_Words_refuse) := ⟨rfl, rfl, rfl, by decide +kernel, rfl, by decide +kernel, by decide +kernel⟩
theorem ok_WR {f : Addr} {fd : FuncData} (F : Fun K "refuse" "Words.refuse" s_Words_refuse f fd) (T : Tx K mg aK aF) (C : WC K CW) (S : SupX K CB CB) (E_BadText : De PP w K mg base 1 "BadText" CB ["self", "line", "word"] (spBT K CB)) :
    FnOk PP w K mg base (L2.CX PP w) 3 f fd ["self"] (spRefuse CW CB) := by
  refine F.okX sc_Words_refuse (fun vs H Q E h => ?_) (fun cdv A outer s H vs Q E hr h => ?_)
  · obtain ⟨p, lw, ws, i, ob, rfl, _⟩ := h
    rfl
  · obtain ⟨p, lw, ws, i, ob, rfl, W, er⟩ := h
    obtain ⟨dx, hp⟩ := W.ob
    refine ⟨_, (pss_one (ps_raise rfl (takes_of rfl rfl rfl rfl) (pmk_de E_BadText (hr.mono (by decide)) (pa_cons pe_int (pa_cons (pe_fld (pv 0) rfl) pa_nil))))), ?_⟩
    simp only [tSeq, tIfS, tOr, tAnd, tNot, tB, tTest, tCB, tCons, tNil, tVar, tC, tOp, tUn, tRet, tRetN, tDrop, tAsg, tPar, tPar3, tNext, tNever, tBreak, tCont, tAug, tChain, tAndV, tOrV, tNotV, tIf, tIsN, tNotN, tTup, tLst, tCallD, tMethD, tMakeD, tFld, tCon, sFld, sFldAug, tCallK, tSl, tPart, tNoPart, tBM, tBM0, tDGet, tDIn, tDNotIn, sDPut, tDNewK, tM0, tM1, tOrT, tAndT, tNotT, tAsg2, tAsg3, gName, rI0, rI, rU, tYes, L2.start, NdefX.startF, List.set_cons_zero, List.set_cons_succ, List.map_cons, List.map_nil, List.length_cons, List.length_nil, Nat.sub_zero, Nat.reduceSub, Nat.reduceAdd, List.replicate_succ, List.replicate_zero, List.cons_append, List.nil_append, List.append_nil, List.getElem?_cons_zero, List.getElem?_cons_succ, Option.some.injEq, exists_eq_left', exists_eq_left, exists_eq_right, exists_eq_right', exists_and_left, exists_and_right, exists_eq, exists_eq', true_and, and_true, V.int.injEq, V.str.injEq, V.bl.injEq, V.ref.injEq, V.ty.injEq, HO.ins.injEq, HO.lst.injEq, HO.tup.injEq, and_assoc, List.cons.injEq, Bool.not_true, Bool.not_false, Bool.false_eq_true, if_false, if_true, cx_K, upd_same, upd_upd, isi_str, req_ii, req_ss, rne_ii, rne_ss, radd_ii, rsub_ii, atI_at, atI_0, atI_1, atI_2, atI_3, atI_4, rLenL, rLenU, rIxLL, rIxU, reduceCtorEq, hp, C.cl, C.nS, C.nW, wF_words, wF_spot, tMkO]
    exact ⟨by decide, mk_two S fun d H' s2 _ e => er d H' (Keep.of s2) e⟩
theorem wF_refuse (lw : Addr) (i : Nat) (ob : Int) : (wF lw i ob).lookup ("refuse" : Str) = none := by kernel_rfl
theorem wF_take (lw : Addr) (i : Nat) (ob : Int) : (wF lw i ob).lookup ("take" : Str) = none := by kernel_rfl
theorem wF_take_one (lw : Addr) (i : Nat) (ob : Int) : (wF lw i ob).lookup ("take_one" : Str) = none := by kernel_rfl
theorem wF_len (lw : Addr) (i : Nat) (ob : Int) : (wF lw i ob).length < 1000 := by show 3 < 1000; decide
theorem wF_put1 (lw : Addr) (i : Nat) (ob : Int) : putF "spot" (.int ((i : Int) + 1)) (wF lw i ob) = wF lw (i + 1) ob := wF_put lw i (i + 1) ob
theorem keep_upd {H : Hp} {p : Addr} {o : HO} : Keep [p] H (upd H p o) := fun b u e n => by
  rw [upd_ne (fun q => n (by rw [q]; exact .head _))]
  exact e
theorem pred_cast (i : Nat) : ((i + 1 : Nat) : Int) - 1 = (i : Int) := by omega
abbrev s_Words_take : Stmt := inClass (top 13) 3
theorem sc_Words_take : FnScope ["self"] ["self"] (defScope s_Words_take) := ⟨rfl, rfl, rfl, by decide +kernel, rfl, by decide +kernel, by decide +kernel⟩
theorem ok_WT {f : Addr} {fd : FuncData} (F : Fun K "take" "Words.take" s_Words_take f fd) (T : Tx K mg aK aF) (C : WC K CW) (M_refuse : Dm PP w K mg base 3 CW "refuse" ["self"] (spRefuse CW CB)) :
    FnOk PP w K mg base (L2.CX PP w) 4 f fd ["self"] (spTake CW CB fun _ => true) := by
  refine F.okX sc_Words_take (fun vs H Q E h => ?_) (fun cdv A outer s H vs Q E hr h => ?_)
  · obtain ⟨p, lw, ws, i, ob, rfl, _⟩ := h
    rfl
  · obtain ⟨p, lw, ws, i, ob, rfl, W, k, er⟩ := h
    obtain ⟨dx, hp⟩ := W.ob
    have hl := W.li
    have hle := W.le
    refine ⟨_, (pss_cons (ps_if (pt_cmpR op_eq (pe_fld (pv 0) rfl) (pe_callB call_lenL (by rfl) T.len (by decide +kernel) (pa_cons (pe_fld (pv 0) rfl) pa_nil)) (nomark _)) (pss_one (ps_expr (pe_dm0 M_refuse (hr.mono (by decide)) (passE (E := E)) (pv 0)))) pss_nil)
      (pss_cons (ps_fldaug (pv 0) pe_int in_add)
      (pss_one (ps_ret (pe_ix ix_LL (pe_fld (pv 0) rfl) (pe_op op_sub (pe_fld (pv 0) rfl) pe_int) (fun _ _ => rfl)))))), ?_⟩
    simp only [tSeq, tIfS, tOr, tAnd, tNot, tB, tTest, tCB, tCons, tNil, tVar, tC, tOp, tUn, tRet, tRetN, tDrop, tAsg, tPar, tPar3, tNext, tNever, tBreak, tCont, tAug, tChain, tAndV, tOrV, tNotV, tIf, tIsN, tNotN, tTup, tLst, tCallD, tMethD, tMakeD, tFld, tCon, sFld, sFldAug, tCallK, tSl, tPart, tNoPart, tBM, tBM0, tDGet, tDIn, tDNotIn, sDPut, tDNewK, tM0, tM1, tOrT, tAndT, tNotT, tAsg2, tAsg3, gName, rI0, rI, rU, tYes, L2.start, NdefX.startF, List.set_cons_zero, List.set_cons_succ, List.map_cons, List.map_nil, List.length_cons, List.length_nil, Nat.sub_zero, Nat.reduceSub, Nat.reduceAdd, List.replicate_succ, List.replicate_zero, List.cons_append, List.nil_append, List.append_nil, List.getElem?_cons_zero, List.getElem?_cons_succ, Option.some.injEq, exists_eq_left', exists_eq_left, exists_eq_right, exists_eq_right', exists_and_left, exists_and_right, exists_eq, exists_eq', true_and, and_true, V.int.injEq, V.str.injEq, V.bl.injEq, V.ref.injEq, V.ty.injEq, HO.ins.injEq, HO.lst.injEq, HO.tup.injEq, and_assoc, List.cons.injEq, Bool.not_true, Bool.not_false, Bool.false_eq_true, if_false, if_true, cx_K, upd_same, upd_upd, isi_str, req_ii, req_ss, rne_ii, rne_ss, radd_ii, rsub_ii, atI_at, atI_0, atI_1, atI_2, atI_3, atI_4, rLenL, rLenU, rIxLL, rIxU, reduceCtorEq, hp, hl, C.cl, C.nS, C.nW, wF_words, wF_spot, wF_refuse, List.length_map]
    refine ite2 (fun e => ?_) fun e => ?_
    · have hi : i = ws.length := by have := of_decide_eq_true e; omega
      exact ⟨p, lw, ws, i, ob, rfl, W, fun d H' kp hd => er (fun x hx => by rw [hi, List.getElem?_eq_none (Nat.le_refl _)] at hx; cases hx) d H' (kp.mono (by simp)) hd⟩
    · have hi : i < ws.length := by
        have : ¬ (i : Int) = (ws.length : Int) := by simpa using e
        omega
      have ne := W.ne
      refine ⟨wF_len _ _ _, ?_⟩
      rw [wF_put1]
      have hl2 : upd H p (.ins CW dx (wF lw (i + 1) ob)) lw = some (.lst (ws.map V.str)) := by rw [upd_ne ne.symm]; exact hl
      simp only [tSeq, tIfS, tOr, tAnd, tNot, tB, tTest, tCB, tCons, tNil, tVar, tC, tOp, tUn, tRet, tRetN, tDrop, tAsg, tPar, tPar3, tNext, tNever, tBreak, tCont, tAug, tChain, tAndV, tOrV, tNotV, tIf, tIsN, tNotN, tTup, tLst, tCallD, tMethD, tMakeD, tFld, tCon, sFld, sFldAug, tCallK, tSl, tPart, tNoPart, tBM, tBM0, tDGet, tDIn, tDNotIn, sDPut, tDNewK, tM0, tM1, tOrT, tAndT, tNotT, tAsg2, tAsg3, gName, rI0, rI, rU, tYes, L2.start, NdefX.startF, List.set_cons_zero, List.set_cons_succ, List.map_cons, List.map_nil, List.length_cons, List.length_nil, Nat.sub_zero, Nat.reduceSub, Nat.reduceAdd, List.replicate_succ, List.replicate_zero, List.cons_append, List.nil_append, List.append_nil, List.getElem?_cons_zero, List.getElem?_cons_succ, Option.some.injEq, exists_eq_left', exists_eq_left, exists_eq_right, exists_eq_right', exists_and_left, exists_and_right, exists_eq, exists_eq', true_and, and_true, V.int.injEq, V.str.injEq, V.bl.injEq, V.ref.injEq, V.ty.injEq, HO.ins.injEq, HO.lst.injEq, HO.tup.injEq, and_assoc, List.cons.injEq, Bool.not_true, Bool.not_false, Bool.false_eq_true, if_false, if_true, cx_K, upd_same, upd_upd, isi_str, req_ii, req_ss, rne_ii, rne_ss, radd_ii, rsub_ii, atI_at, atI_0, atI_1, atI_2, atI_3, atI_4, rLenL, rLenU, rIxLL, rIxU, reduceCtorEq, hl2, wF_words, wF_spot, pred_cast, List.getElem?_map, C.cl, C.nS, C.nW]
      rw [List.getElem?_eq_getElem hi]
      simp only [tSeq, tIfS, tOr, tAnd, tNot, tB, tTest, tCB, tCons, tNil, tVar, tC, tOp, tUn, tRet, tRetN, tDrop, tAsg, tPar, tPar3, tNext, tNever, tBreak, tCont, tAug, tChain, tAndV, tOrV, tNotV, tIf, tIsN, tNotN, tTup, tLst, tCallD, tMethD, tMakeD, tFld, tCon, sFld, sFldAug, tCallK, tSl, tPart, tNoPart, tBM, tBM0, tDGet, tDIn, tDNotIn, sDPut, tDNewK, tM0, tM1, tOrT, tAndT, tNotT, tAsg2, tAsg3, gName, rI0, rI, rU, tYes, L2.start, NdefX.startF, List.set_cons_zero, List.set_cons_succ, List.map_cons, List.map_nil, List.length_cons, List.length_nil, Nat.sub_zero, Nat.reduceSub, Nat.reduceAdd, List.replicate_succ, List.replicate_zero, List.cons_append, List.nil_append, List.append_nil, List.getElem?_cons_zero, List.getElem?_cons_succ, Option.some.injEq, exists_eq_left', exists_eq_left, exists_eq_right, exists_eq_right', exists_and_left, exists_and_right, exists_eq, exists_eq', true_and, and_true, V.int.injEq, V.str.injEq, V.bl.injEq, V.ref.injEq, V.ty.injEq, HO.ins.injEq, HO.lst.injEq, HO.tup.injEq, and_assoc, List.cons.injEq, Bool.not_true, Bool.not_false, Bool.false_eq_true, if_false, if_true, cx_K, upd_same, upd_upd, isi_str, req_ii, req_ss, rne_ii, rne_ss, radd_ii, rsub_ii, atI_at, atI_0, atI_1, atI_2, atI_3, atI_4, rLenL, rLenU, rIxLL, rIxU, reduceCtorEq, Option.map_some]
      exact k _ (List.getElem?_eq_getElem hi) rfl _ keep_upd ⟨⟨dx, upd_same⟩, hl2, hi, W.sz, W.wz⟩
abbrev s_Words_take_one : Stmt := inClass (top 13) 4
theorem sc_Words_take_one : FnScope ["self", "words"] ["self", "words"] (defScope s_Words_take_one) := ⟨rfl, rfl, rfl, by decide +kernel, rfl, by decide +kernel, by decide +kernel⟩
theorem ok_WO {f : Addr} {fd : FuncData} (F : Fun K "take_one" "Words.take_one" s_Words_take_one f fd) (T : Tx K mg aK aF) (C : WC K CW) (M_refuse : Dm PP w K mg base 3 CW "refuse" ["self"] (spRefuse CW CB)) (M_take : Dm PP w K mg base 4 CW "take" ["self"] (spTake CW CB fun _ => true)) :
    FnOk PP w K mg base (L2.CX PP w) 5 f fd ["self", "words"] (spTakeOne K CW CB) := by
  refine F.okX sc_Words_take_one (fun vs H Q E h => ?_) (fun cdv A outer s H vs Q E hr h => ?_)
  · obtain ⟨p, lw, t, ws, ys, i, ob, rfl, _⟩ := h
    rfl
  · obtain ⟨p, lw, t, ws, ys, i, ob, rfl, ht, W, k, er⟩ := h
    obtain ⟨dx, hp⟩ := W.ob
    have hl := W.li
    have hle := W.le
    refine ⟨_, (pss_cons (ps_if (PW.pt (pw_or (pt_cmpR op_eq (pe_fld (pv 0) rfl) (pe_callB call_lenL (by rfl) T.len (by decide +kernel) (pa_cons (pe_fld (pv 0) rfl) pa_nil)) (nomark _)) (pw_or1 (pt_cmpR op_notIn_seq (pe_ix ix_LL (pe_fld (pv 0) rfl) (pe_fld (pv 0) rfl) (fun _ _ => rfl)) (pv 1) (by rfl))))) (pss_one (ps_expr (pe_dm0 M_refuse (hr.mono (by decide)) (passE (E := E)) (pv 0)))) pss_nil)
      (pss_one (ps_ret (pe_dm0 M_take (hr.mono (by decide)) (passE (E := E)) (pv 0))))), ?_⟩
    simp only [tSeq, tIfS, tOr, tAnd, tNot, tB, tTest, tCB, tCons, tNil, tVar, tC, tOp, tUn, tRet, tRetN, tDrop, tAsg, tPar, tPar3, tNext, tNever, tBreak, tCont, tAug, tChain, tAndV, tOrV, tNotV, tIf, tIsN, tNotN, tTup, tLst, tCallD, tMethD, tMakeD, tFld, tCon, sFld, sFldAug, tCallK, tSl, tPart, tNoPart, tBM, tBM0, tDGet, tDIn, tDNotIn, sDPut, tDNewK, tM0, tM1, tOrT, tAndT, tNotT, tAsg2, tAsg3, gName, rI0, rI, rU, tYes, L2.start, NdefX.startF, List.set_cons_zero, List.set_cons_succ, List.map_cons, List.map_nil, List.length_cons, List.length_nil, Nat.sub_zero, Nat.reduceSub, Nat.reduceAdd, List.replicate_succ, List.replicate_zero, List.cons_append, List.nil_append, List.append_nil, List.getElem?_cons_zero, List.getElem?_cons_succ, Option.some.injEq, exists_eq_left', exists_eq_left, exists_eq_right, exists_eq_right', exists_and_left, exists_and_right, exists_eq, exists_eq', true_and, and_true, V.int.injEq, V.str.injEq, V.bl.injEq, V.ref.injEq, V.ty.injEq, HO.ins.injEq, HO.lst.injEq, HO.tup.injEq, and_assoc, List.cons.injEq, Bool.not_true, Bool.not_false, Bool.false_eq_true, if_false, if_true, cx_K, upd_same, upd_upd, isi_str, req_ii, req_ss, rne_ii, rne_ss, radd_ii, rsub_ii, atI_at, atI_0, atI_1, atI_2, atI_3, atI_4, rLenL, rLenU, rIxLL, rIxU, reduceCtorEq, hp, hl, C.cl, C.nS, C.nW, wF_words, wF_spot, wF_refuse, wF_take, List.length_map, List.getElem?_map]
    refine ite2 (fun e => ?_) fun e => ?_
    · have hi : i = ws.length := by have := of_decide_eq_true e; omega
      exact ⟨p, lw, ws, i, ob, rfl, W, fun d H' kp hd => er (fun x hx => by rw [hi, List.getElem?_eq_none (Nat.le_refl _)] at hx; cases hx) d H' (kp.mono (by simp)) hd⟩
    · have hi : i < ws.length := by
        have : ¬ (i : Int) = (ws.length : Int) := by simpa using e
        omega
      have hx := List.getElem?_eq_getElem hi
      refine ⟨.str ws[i], by rw [hx]; rfl, rIn_strs (.inr ht) ?_⟩
      simp only [tSeq, tIfS, tOr, tAnd, tNot, tB, tTest, tCB, tCons, tNil, tVar, tC, tOp, tUn, tRet, tRetN, tDrop, tAsg, tPar, tPar3, tNext, tNever, tBreak, tCont, tAug, tChain, tAndV, tOrV, tNotV, tIf, tIsN, tNotN, tTup, tLst, tCallD, tMethD, tMakeD, tFld, tCon, sFld, sFldAug, tCallK, tSl, tPart, tNoPart, tBM, tBM0, tDGet, tDIn, tDNotIn, sDPut, tDNewK, tM0, tM1, tOrT, tAndT, tNotT, tAsg2, tAsg3, gName, rI0, rI, rU, tYes, L2.start, NdefX.startF, List.set_cons_zero, List.set_cons_succ, List.map_cons, List.map_nil, List.length_cons, List.length_nil, Nat.sub_zero, Nat.reduceSub, Nat.reduceAdd, List.replicate_succ, List.replicate_zero, List.cons_append, List.nil_append, List.append_nil, List.getElem?_cons_zero, List.getElem?_cons_succ, Option.some.injEq, exists_eq_left', exists_eq_left, exists_eq_right, exists_eq_right', exists_and_left, exists_and_right, exists_eq, exists_eq', true_and, and_true, V.int.injEq, V.str.injEq, V.bl.injEq, V.ref.injEq, V.ty.injEq, HO.ins.injEq, HO.lst.injEq, HO.tup.injEq, and_assoc, List.cons.injEq, Bool.not_true, Bool.not_false, Bool.false_eq_true, if_false, if_true, cx_K, upd_same, upd_upd, isi_str, req_ii, req_ss, rne_ii, rne_ss, radd_ii, rsub_ii, atI_at, atI_0, atI_1, atI_2, atI_3, atI_4, rLenL, rLenU, rIxLL, rIxU, reduceCtorEq, hp, wF_refuse, wF_take]
      by_cases hin : ws[i] ∈ ys
      · simp only [tSeq, tIfS, tOr, tAnd, tNot, tB, tTest, tCB, tCons, tNil, tVar, tC, tOp, tUn, tRet, tRetN, tDrop, tAsg, tPar, tPar3, tNext, tNever, tBreak, tCont, tAug, tChain, tAndV, tOrV, tNotV, tIf, tIsN, tNotN, tTup, tLst, tCallD, tMethD, tMakeD, tFld, tCon, sFld, sFldAug, tCallK, tSl, tPart, tNoPart, tBM, tBM0, tDGet, tDIn, tDNotIn, sDPut, tDNewK, tM0, tM1, tOrT, tAndT, tNotT, tAsg2, tAsg3, gName, rI0, rI, rU, tYes, L2.start, NdefX.startF, List.set_cons_zero, List.set_cons_succ, List.map_cons, List.map_nil, List.length_cons, List.length_nil, Nat.sub_zero, Nat.reduceSub, Nat.reduceAdd, List.replicate_succ, List.replicate_zero, List.cons_append, List.nil_append, List.append_nil, List.getElem?_cons_zero, List.getElem?_cons_succ, Option.some.injEq, exists_eq_left', exists_eq_left, exists_eq_right, exists_eq_right', exists_and_left, exists_and_right, exists_eq, exists_eq', true_and, and_true, V.int.injEq, V.str.injEq, V.bl.injEq, V.ref.injEq, V.ty.injEq, HO.ins.injEq, HO.lst.injEq, HO.tup.injEq, and_assoc, List.cons.injEq, Bool.not_true, Bool.not_false, Bool.false_eq_true, if_false, if_true, cx_K, upd_same, upd_upd, isi_str, req_ii, req_ss, rne_ii, rne_ss, radd_ii, rsub_ii, atI_at, atI_0, atI_1, atI_2, atI_3, atI_4, rLenL, rLenU, rIxLL, rIxU, reduceCtorEq, hin, decide_true]
        exact ⟨p, lw, ws, i, ob, rfl, W, fun x e1 _ H' kp W' => k x e1 (by rw [hx] at e1; cases e1; simpa using hin) H' kp W', fun z => absurd (z _ hx) (by simp)⟩
      · simp only [tSeq, tIfS, tOr, tAnd, tNot, tB, tTest, tCB, tCons, tNil, tVar, tC, tOp, tUn, tRet, tRetN, tDrop, tAsg, tPar, tPar3, tNext, tNever, tBreak, tCont, tAug, tChain, tAndV, tOrV, tNotV, tIf, tIsN, tNotN, tTup, tLst, tCallD, tMethD, tMakeD, tFld, tCon, sFld, sFldAug, tCallK, tSl, tPart, tNoPart, tBM, tBM0, tDGet, tDIn, tDNotIn, sDPut, tDNewK, tM0, tM1, tOrT, tAndT, tNotT, tAsg2, tAsg3, gName, rI0, rI, rU, tYes, L2.start, NdefX.startF, List.set_cons_zero, List.set_cons_succ, List.map_cons, List.map_nil, List.length_cons, List.length_nil, Nat.sub_zero, Nat.reduceSub, Nat.reduceAdd, List.replicate_succ, List.replicate_zero, List.cons_append, List.nil_append, List.append_nil, List.getElem?_cons_zero, List.getElem?_cons_succ, Option.some.injEq, exists_eq_left', exists_eq_left, exists_eq_right, exists_eq_right', exists_and_left, exists_and_right, exists_eq, exists_eq', true_and, and_true, V.int.injEq, V.str.injEq, V.bl.injEq, V.ref.injEq, V.ty.injEq, HO.ins.injEq, HO.lst.injEq, HO.tup.injEq, and_assoc, List.cons.injEq, Bool.not_true, Bool.not_false, Bool.false_eq_true, if_false, if_true, cx_K, upd_same, upd_upd, isi_str, req_ii, req_ss, rne_ii, rne_ss, radd_ii, rsub_ii, atI_at, atI_0, atI_1, atI_2, atI_3, atI_4, rLenL, rLenU, rIxLL, rIxU, reduceCtorEq, hin, decide_false]
        exact ⟨p, lw, ws, i, ob, rfl, W, fun d H' kp hd => er (fun x e1 => by rw [hx] at e1; cases e1; simpa using hin) d H' (kp.mono (by simp)) hd⟩
def spTakeNm (CW CB : Addr) (c : Str → Bool) : Sp := spTake CW CB c
abbrev s_Words_take_name : Stmt := inClass (top 13) 5
theorem sc_Words_take_name : FnScope ["self"] ["self"] (defScope s_Words_take_name) := ⟨rfl, rfl, rfl, by decide +kernel, rfl, by decide +kernel, by decide +kernel⟩
theorem ok_WNm {f : Addr} {fd : FuncData} (F : Fun K "take_name" "Words.take_name" s_Words_take_name f fd) (T : Tx K mg aK aF) (C : WC K CW) (D_is_name : Df PP w K mg base 2 "is_name" ["value"] spIsName) (M_refuse : Dm PP w K mg base 3 CW "refuse" ["self"] (spRefuse CW CB)) (M_take : Dm PP w K mg base 4 CW "take" ["self"] (spTake CW CB fun _ => true)) :
    FnOk PP w K mg base (L2.CX PP w) 5 f fd ["self"] (spTake CW CB isNameM) := by
  refine F.okX sc_Words_take_name (fun vs H Q E h => ?_) (fun cdv A outer s H vs Q E hr h => ?_)
  · obtain ⟨p, lw, ws, i, ob, rfl, _⟩ := h
    rfl
  · obtain ⟨p, lw, ws, i, ob, rfl, W, k, er⟩ := h
    obtain ⟨dx, hp⟩ := W.ob
    have hl := W.li
    have hle := W.le
    refine ⟨_, (pss_cons (ps_if (PW.pt (pw_or (pt_cmpR op_eq (pe_fld (pv 0) rfl) (pe_callB call_lenL (by rfl) T.len (by decide +kernel) (pa_cons (pe_fld (pv 0) rfl) pa_nil)) (nomark _)) (pw_or1 (pt_not (pt_val (pe_df D_is_name (hr.mono (by decide)) passL (pa_cons (pe_ix ix_LL (pe_fld (pv 0) rfl) (pe_fld (pv 0) rfl) (fun _ _ => rfl)) pa_nil))))))) (pss_one (ps_expr (pe_dm0 M_refuse (hr.mono (by decide)) (passE (E := E)) (pv 0)))) pss_nil)
      (pss_one (ps_ret (pe_dm0 M_take (hr.mono (by decide)) (passE (E := E)) (pv 0))))), ?_⟩
    simp only [tSeq, tIfS, tOr, tAnd, tNot, tB, tTest, tCB, tCons, tNil, tVar, tC, tOp, tUn, tRet, tRetN, tDrop, tAsg, tPar, tPar3, tNext, tNever, tBreak, tCont, tAug, tChain, tAndV, tOrV, tNotV, tIf, tIsN, tNotN, tTup, tLst, tCallD, tMethD, tMakeD, tFld, tCon, sFld, sFldAug, tCallK, tSl, tPart, tNoPart, tBM, tBM0, tDGet, tDIn, tDNotIn, sDPut, tDNewK, tM0, tM1, tOrT, tAndT, tNotT, tAsg2, tAsg3, gName, rI0, rI, rU, tYes, L2.start, NdefX.startF, List.set_cons_zero, List.set_cons_succ, List.map_cons, List.map_nil, List.length_cons, List.length_nil, Nat.sub_zero, Nat.reduceSub, Nat.reduceAdd, List.replicate_succ, List.replicate_zero, List.cons_append, List.nil_append, List.append_nil, List.getElem?_cons_zero, List.getElem?_cons_succ, Option.some.injEq, exists_eq_left', exists_eq_left, exists_eq_right, exists_eq_right', exists_and_left, exists_and_right, exists_eq, exists_eq', true_and, and_true, V.int.injEq, V.str.injEq, V.bl.injEq, V.ref.injEq, V.ty.injEq, HO.ins.injEq, HO.lst.injEq, HO.tup.injEq, and_assoc, List.cons.injEq, Bool.not_true, Bool.not_false, Bool.false_eq_true, if_false, if_true, cx_K, upd_same, upd_upd, isi_str, req_ii, req_ss, rne_ii, rne_ss, radd_ii, rsub_ii, atI_at, atI_0, atI_1, atI_2, atI_3, atI_4, rLenL, rLenU, rIxLL, rIxU, reduceCtorEq, hp, hl, C.cl, C.nS, C.nW, wF_words, wF_spot, wF_refuse, wF_take, List.length_map, List.getElem?_map]
    refine ite2 (fun e => ?_) fun e => ?_
    · have hi : i = ws.length := by have := of_decide_eq_true e; omega
      exact ⟨p, lw, ws, i, ob, rfl, W, fun d H' kp hd => er (fun x hx => by rw [hi, List.getElem?_eq_none (Nat.le_refl _)] at hx; cases hx) d H' (kp.mono (by simp)) hd⟩
    · have hi : i < ws.length := by
        have : ¬ (i : Int) = (ws.length : Int) := by simpa using e
        omega
      have hx := List.getElem?_eq_getElem hi
      refine ⟨.str ws[i], by rw [hx]; rfl, ws[i], rfl, W.wz _ (List.getElem_mem hi), fun H1 s1 => ?_⟩
      have hp1 := s1 _ _ hp
      have W1 := W.same s1
      simp only [tSeq, tIfS, tOr, tAnd, tNot, tB, tTest, tCB, tCons, tNil, tVar, tC, tOp, tUn, tRet, tRetN, tDrop, tAsg, tPar, tPar3, tNext, tNever, tBreak, tCont, tAug, tChain, tAndV, tOrV, tNotV, tIf, tIsN, tNotN, tTup, tLst, tCallD, tMethD, tMakeD, tFld, tCon, sFld, sFldAug, tCallK, tSl, tPart, tNoPart, tBM, tBM0, tDGet, tDIn, tDNotIn, sDPut, tDNewK, tM0, tM1, tOrT, tAndT, tNotT, tAsg2, tAsg3, gName, rI0, rI, rU, tYes, L2.start, NdefX.startF, List.set_cons_zero, List.set_cons_succ, List.map_cons, List.map_nil, List.length_cons, List.length_nil, Nat.sub_zero, Nat.reduceSub, Nat.reduceAdd, List.replicate_succ, List.replicate_zero, List.cons_append, List.nil_append, List.append_nil, List.getElem?_cons_zero, List.getElem?_cons_succ, Option.some.injEq, exists_eq_left', exists_eq_left, exists_eq_right, exists_eq_right', exists_and_left, exists_and_right, exists_eq, exists_eq', true_and, and_true, V.int.injEq, V.str.injEq, V.bl.injEq, V.ref.injEq, V.ty.injEq, HO.ins.injEq, HO.lst.injEq, HO.tup.injEq, and_assoc, List.cons.injEq, Bool.not_true, Bool.not_false, Bool.false_eq_true, if_false, if_true, cx_K, upd_same, upd_upd, isi_str, req_ii, req_ss, rne_ii, rne_ss, radd_ii, rsub_ii, atI_at, atI_0, atI_1, atI_2, atI_3, atI_4, rLenL, rLenU, rIxLL, rIxU, reduceCtorEq, hp1, wF_refuse, wF_take]
      cases hn : isNameM ws[i] with
      | true => exact ⟨p, lw, ws, i, ob, rfl, W1, fun x e1 _ H' kp W' => k x e1 (by rw [hx] at e1; cases e1; exact hn) H' ((Keep.of (S := []) s1).trans kp (by simp) (by simp)) W', fun z => absurd (z _ hx) (by simp)⟩
      | false => exact ⟨p, lw, ws, i, ob, rfl, W1, fun d H' kp hd => er (fun x e1 => by rw [hx] at e1; cases e1; exact hn) d H' ((Keep.of (S := []) s1).trans kp (by simp) (by simp)) hd⟩
abbrev s_Words_take_said : Stmt := inClass (top 13) 6
theorem sc_Words_take_said : FnScope ["self"] ["self"] (defScope s_Words_take_said) := ⟨rfl, rfl, rfl, by decide +kernel, rfl, by decide +kernel, by decide +kernel⟩
theorem ok_WSd {f : Addr} {fd : FuncData} (F : Fun K "take_said" "Words.take_said" s_Words_take_said f fd) (T : Tx K mg aK aF) (C : WC K CW) (D_is_word : Df PP w K mg base 1 "is_word" ["value"] spIsWord) (M_refuse : Dm PP w K mg base 3 CW "refuse" ["self"] (spRefuse CW CB)) (M_take : Dm PP w K mg base 4 CW "take" ["self"] (spTake CW CB fun _ => true)) :
    FnOk PP w K mg base (L2.CX PP w) 5 f fd ["self"] (spTake CW CB isWordM) := by
  refine F.okX sc_Words_take_said (fun vs H Q E h => ?_) (fun cdv A outer s H vs Q E hr h => ?_)
  · obtain ⟨p, lw, ws, i, ob, rfl, _⟩ := h
    rfl
  · obtain ⟨p, lw, ws, i, ob, rfl, W, k, er⟩ := h
    obtain ⟨dx, hp⟩ := W.ob
    have hl := W.li
    have hle := W.le
    refine ⟨_, (pss_cons (ps_if (PW.pt (pw_or (pt_cmpR op_eq (pe_fld (pv 0) rfl) (pe_callB call_lenL (by rfl) T.len (by decide +kernel) (pa_cons (pe_fld (pv 0) rfl) pa_nil)) (nomark _)) (pw_or1 (pt_not (pt_val (pe_df D_is_word (hr.mono (by decide)) passL (pa_cons (pe_ix ix_LL (pe_fld (pv 0) rfl) (pe_fld (pv 0) rfl) (fun _ _ => rfl)) pa_nil))))))) (pss_one (ps_expr (pe_dm0 M_refuse (hr.mono (by decide)) (passE (E := E)) (pv 0)))) pss_nil)
      (pss_one (ps_ret (pe_dm0 M_take (hr.mono (by decide)) (passE (E := E)) (pv 0))))), ?_⟩
    simp only [tSeq, tIfS, tOr, tAnd, tNot, tB, tTest, tCB, tCons, tNil, tVar, tC, tOp, tUn, tRet, tRetN, tDrop, tAsg, tPar, tPar3, tNext, tNever, tBreak, tCont, tAug, tChain, tAndV, tOrV, tNotV, tIf, tIsN, tNotN, tTup, tLst, tCallD, tMethD, tMakeD, tFld, tCon, sFld, sFldAug, tCallK, tSl, tPart, tNoPart, tBM, tBM0, tDGet, tDIn, tDNotIn, sDPut, tDNewK, tM0, tM1, tOrT, tAndT, tNotT, tAsg2, tAsg3, gName, rI0, rI, rU, tYes, L2.start, NdefX.startF, List.set_cons_zero, List.set_cons_succ, List.map_cons, List.map_nil, List.length_cons, List.length_nil, Nat.sub_zero, Nat.reduceSub, Nat.reduceAdd, List.replicate_succ, List.replicate_zero, List.cons_append, List.nil_append, List.append_nil, List.getElem?_cons_zero, List.getElem?_cons_succ, Option.some.injEq, exists_eq_left', exists_eq_left, exists_eq_right, exists_eq_right', exists_and_left, exists_and_right, exists_eq, exists_eq', true_and, and_true, V.int.injEq, V.str.injEq, V.bl.injEq, V.ref.injEq, V.ty.injEq, HO.ins.injEq, HO.lst.injEq, HO.tup.injEq, and_assoc, List.cons.injEq, Bool.not_true, Bool.not_false, Bool.false_eq_true, if_false, if_true, cx_K, upd_same, upd_upd, isi_str, req_ii, req_ss, rne_ii, rne_ss, radd_ii, rsub_ii, atI_at, atI_0, atI_1, atI_2, atI_3, atI_4, rLenL, rLenU, rIxLL, rIxU, reduceCtorEq, hp, hl, C.cl, C.nS, C.nW, wF_words, wF_spot, wF_refuse, wF_take, List.length_map, List.getElem?_map]
    refine ite2 (fun e => ?_) fun e => ?_
    · have hi : i = ws.length := by have := of_decide_eq_true e; omega
      exact ⟨p, lw, ws, i, ob, rfl, W, fun d H' kp hd => er (fun x hx => by rw [hi, List.getElem?_eq_none (Nat.le_refl _)] at hx; cases hx) d H' (kp.mono (by simp)) hd⟩
    · have hi : i < ws.length := by
        have : ¬ (i : Int) = (ws.length : Int) := by simpa using e
        omega
      have hx := List.getElem?_eq_getElem hi
      refine ⟨.str ws[i], by rw [hx]; rfl, ws[i], rfl, W.wz _ (List.getElem_mem hi), fun H1 s1 => ?_⟩
      have hp1 := s1 _ _ hp
      have W1 := W.same s1
      simp only [tSeq, tIfS, tOr, tAnd, tNot, tB, tTest, tCB, tCons, tNil, tVar, tC, tOp, tUn, tRet, tRetN, tDrop, tAsg, tPar, tPar3, tNext, tNever, tBreak, tCont, tAug, tChain, tAndV, tOrV, tNotV, tIf, tIsN, tNotN, tTup, tLst, tCallD, tMethD, tMakeD, tFld, tCon, sFld, sFldAug, tCallK, tSl, tPart, tNoPart, tBM, tBM0, tDGet, tDIn, tDNotIn, sDPut, tDNewK, tM0, tM1, tOrT, tAndT, tNotT, tAsg2, tAsg3, gName, rI0, rI, rU, tYes, L2.start, NdefX.startF, List.set_cons_zero, List.set_cons_succ, List.map_cons, List.map_nil, List.length_cons, List.length_nil, Nat.sub_zero, Nat.reduceSub, Nat.reduceAdd, List.replicate_succ, List.replicate_zero, List.cons_append, List.nil_append, List.append_nil, List.getElem?_cons_zero, List.getElem?_cons_succ, Option.some.injEq, exists_eq_left', exists_eq_left, exists_eq_right, exists_eq_right', exists_and_left, exists_and_right, exists_eq, exists_eq', true_and, and_true, V.int.injEq, V.str.injEq, V.bl.injEq, V.ref.injEq, V.ty.injEq, HO.ins.injEq, HO.lst.injEq, HO.tup.injEq, and_assoc, List.cons.injEq, Bool.not_true, Bool.not_false, Bool.false_eq_true, if_false, if_true, cx_K, upd_same, upd_upd, isi_str, req_ii, req_ss, rne_ii, rne_ss, radd_ii, rsub_ii, atI_at, atI_0, atI_1, atI_2, atI_3, atI_4, rLenL, rLenU, rIxLL, rIxU, reduceCtorEq, hp1, wF_refuse, wF_take]
      cases hn : isWordM ws[i] with
      | true => exact ⟨p, lw, ws, i, ob, rfl, W1, fun x e1 _ H' kp W' => k x e1 (by rw [hx] at e1; cases e1; exact hn) H' ((Keep.of (S := []) s1).trans kp (by simp) (by simp)) W', fun z => absurd (z _ hx) (by simp)⟩
      | false => exact ⟨p, lw, ws, i, ob, rfl, W1, fun d H' kp hd => er (fun x e1 => by rw [hx] at e1; cases e1; exact hn) d H' ((Keep.of (S := []) s1).trans kp (by simp) (by simp)) hd⟩
abbrev s_Words_take_figure : Stmt := inClass (top 13) 7
theorem sc_Words_take_figure : FnScope ["self"] ["self"] (defScope s_Words_take_figure) := ⟨rfl, rfl, rfl, by decide +kernel, rfl, by decide +kernel, by decide +kernel⟩
theorem ok_WFg {f : Addr} {fd : FuncData} (F : Fun K "take_figure" "Words.take_figure" s_Words_take_figure f fd) (T : Tx K mg aK aF) (C : WC K CW) (M_take_one : Dm PP w K mg base 5 CW "take_one" ["self", "words"] (spTakeOne K CW CB)) :
    FnOk PP w K mg base (L2.CX PP w) 6 f fd ["self"] (spFig CW CB) := by
  refine F.okX sc_Words_take_figure (fun vs H Q E h => ?_) (fun cdv A outer s H vs Q E hr h => ?_)
  · obtain ⟨p, lw, ws, i, ob, rfl, _⟩ := h
    rfl
  · obtain ⟨p, lw, ws, i, ob, rfl, W, k, er⟩ := h
    obtain ⟨dx, hp⟩ := W.ob
    refine ⟨_, (pss_one (ps_ret (pe_callTy call_int_str (by rfl) T.int (by decide +kernel) (pa_cons (pe_dm M_take_one (hr.mono (by decide)) (passE (E := E)) (pv 0) (pa_cons (pe_glob (v := .ref aF) rfl T.figs rfl) pa_nil)) pa_nil)))), ?_⟩
    simp only [tSeq, tIfS, tOr, tAnd, tNot, tB, tTest, tCB, tCons, tNil, tVar, tC, tOp, tUn, tRet, tRetN, tDrop, tAsg, tPar, tPar3, tNext, tNever, tBreak, tCont, tAug, tChain, tAndV, tOrV, tNotV, tIf, tIsN, tNotN, tTup, tLst, tCallD, tMethD, tMakeD, tFld, tCon, sFld, sFldAug, tCallK, tSl, tPart, tNoPart, tBM, tBM0, tDGet, tDIn, tDNotIn, sDPut, tDNewK, tM0, tM1, tOrT, tAndT, tNotT, tAsg2, tAsg3, gName, rI0, rI, rU, tYes, L2.start, NdefX.startF, List.set_cons_zero, List.set_cons_succ, List.map_cons, List.map_nil, List.length_cons, List.length_nil, Nat.sub_zero, Nat.reduceSub, Nat.reduceAdd, List.replicate_succ, List.replicate_zero, List.cons_append, List.nil_append, List.append_nil, List.getElem?_cons_zero, List.getElem?_cons_succ, Option.some.injEq, exists_eq_left', exists_eq_left, exists_eq_right, exists_eq_right', exists_and_left, exists_and_right, exists_eq, exists_eq', true_and, and_true, V.int.injEq, V.str.injEq, V.bl.injEq, V.ref.injEq, V.ty.injEq, HO.ins.injEq, HO.lst.injEq, HO.tup.injEq, and_assoc, List.cons.injEq, Bool.not_true, Bool.not_false, Bool.false_eq_true, if_false, if_true, cx_K, upd_same, upd_upd, isi_str, req_ii, req_ss, rne_ii, rne_ss, radd_ii, rsub_ii, atI_at, atI_0, atI_1, atI_2, atI_3, atI_4, rLenL, rLenU, rIxLL, rIxU, reduceCtorEq, hp, wF_take_one]
    refine ⟨p, lw, aF, ws, figL, i, ob, rfl, figT T H, W, fun x e1 hc H' kp W' => ?_, er⟩
    simp only [tSeq, tIfS, tOr, tAnd, tNot, tB, tTest, tCB, tCons, tNil, tVar, tC, tOp, tUn, tRet, tRetN, tDrop, tAsg, tPar, tPar3, tNext, tNever, tBreak, tCont, tAug, tChain, tAndV, tOrV, tNotV, tIf, tIsN, tNotN, tTup, tLst, tCallD, tMethD, tMakeD, tFld, tCon, sFld, sFldAug, tCallK, tSl, tPart, tNoPart, tBM, tBM0, tDGet, tDIn, tDNotIn, sDPut, tDNewK, tM0, tM1, tOrT, tAndT, tNotT, tAsg2, tAsg3, gName, rI0, rI, rU, tYes, L2.start, NdefX.startF, List.set_cons_zero, List.set_cons_succ, List.map_cons, List.map_nil, List.length_cons, List.length_nil, Nat.sub_zero, Nat.reduceSub, Nat.reduceAdd, List.replicate_succ, List.replicate_zero, List.cons_append, List.nil_append, List.append_nil, List.getElem?_cons_zero, List.getElem?_cons_succ, Option.some.injEq, exists_eq_left', exists_eq_left, exists_eq_right, exists_eq_right', exists_and_left, exists_and_right, exists_eq, exists_eq', true_and, and_true, V.int.injEq, V.str.injEq, V.bl.injEq, V.ref.injEq, V.ty.injEq, HO.ins.injEq, HO.lst.injEq, HO.tup.injEq, and_assoc, List.cons.injEq, Bool.not_true, Bool.not_false, Bool.false_eq_true, if_false, if_true, cx_K, upd_same, upd_upd, isi_str, req_ii, req_ss, rne_ii, rne_ss, radd_ii, rsub_ii, atI_at, atI_0, atI_1, atI_2, atI_3, atI_4, rLenL, rLenU, rIxLL, rIxU, reduceCtorEq]
    have q := k x e1 hc H' kp W'
    have hm : x ∈ figL := of_decide_eq_true hc
    simp only [figL, List.mem_cons, List.not_mem_nil, or_false] at hm
    rcases hm with rfl | rfl | rfl | rfl
    · exact ⟨0, by decide +kernel, by decide, q⟩
    · exact ⟨1, by decide +kernel, by decide, q⟩
    · exact ⟨2, by decide +kernel, by decide, q⟩
    · exact ⟨3, by decide +kernel, by decide, q⟩
abbrev s_Words_end : Stmt := inClass (top 13) 8
theorem sc_Words_end : FnScope ["self"] ["self"] (defScope s_Words_end) := ⟨rfl, rfl, rfl, by decide +kernel, rfl, by decide +kernel, by decide +kernel⟩
theorem ok_WE {f : Addr} {fd : FuncData} (F : Fun K "end" "Words.end" s_Words_end f fd) (T : Tx K mg aK aF) (C : WC K CW) (M_refuse : Dm PP w K mg base 3 CW "refuse" ["self"] (spRefuse CW CB)) :
    FnOk PP w K mg base (L2.CX PP w) 4 f fd ["self"] (spEnd CW CB) := by
  refine F.okX sc_Words_end (fun vs H Q E h => ?_) (fun cdv A outer s H vs Q E hr h => ?_)
  · obtain ⟨p, lw, ws, i, ob, rfl, _⟩ := h
    rfl
  · obtain ⟨p, lw, ws, i, ob, rfl, W, k, er⟩ := h
    obtain ⟨dx, hp⟩ := W.ob
    have hl := W.li
    have hle := W.le
    refine ⟨_, (pss_one (ps_if (pt_cmpR op_lt (pe_fld (pv 0) rfl) (pe_callB call_lenL (by rfl) T.len (by decide +kernel) (pa_cons (pe_fld (pv 0) rfl) pa_nil)) (nomark _)) (pss_one (ps_expr (pe_dm0 M_refuse (hr.mono (by decide)) (passE (E := E)) (pv 0)))) pss_nil)), ?_⟩
    simp only [tSeq, tIfS, tOr, tAnd, tNot, tB, tTest, tCB, tCons, tNil, tVar, tC, tOp, tUn, tRet, tRetN, tDrop, tAsg, tPar, tPar3, tNext, tNever, tBreak, tCont, tAug, tChain, tAndV, tOrV, tNotV, tIf, tIsN, tNotN, tTup, tLst, tCallD, tMethD, tMakeD, tFld, tCon, sFld, sFldAug, tCallK, tSl, tPart, tNoPart, tBM, tBM0, tDGet, tDIn, tDNotIn, sDPut, tDNewK, tM0, tM1, tOrT, tAndT, tNotT, tAsg2, tAsg3, gName, rI0, rI, rU, tYes, L2.start, NdefX.startF, List.set_cons_zero, List.set_cons_succ, List.map_cons, List.map_nil, List.length_cons, List.length_nil, Nat.sub_zero, Nat.reduceSub, Nat.reduceAdd, List.replicate_succ, List.replicate_zero, List.cons_append, List.nil_append, List.append_nil, List.getElem?_cons_zero, List.getElem?_cons_succ, Option.some.injEq, exists_eq_left', exists_eq_left, exists_eq_right, exists_eq_right', exists_and_left, exists_and_right, exists_eq, exists_eq', true_and, and_true, V.int.injEq, V.str.injEq, V.bl.injEq, V.ref.injEq, V.ty.injEq, HO.ins.injEq, HO.lst.injEq, HO.tup.injEq, and_assoc, List.cons.injEq, Bool.not_true, Bool.not_false, Bool.false_eq_true, if_false, if_true, cx_K, upd_same, upd_upd, isi_str, req_ii, req_ss, rne_ii, rne_ss, radd_ii, rsub_ii, atI_at, atI_0, atI_1, atI_2, atI_3, atI_4, rLenL, rLenU, rIxLL, rIxU, reduceCtorEq, hp, hl, C.cl, C.nS, C.nW, wF_words, wF_spot, wF_refuse, List.length_map]
    refine ite2 (fun e => ?_) fun e => ?_
    · exact ⟨p, lw, ws, i, ob, rfl, W, er (by have := of_decide_eq_true e; omega)⟩
    · exact k (by have : ¬ (i : Int) < (ws.length : Int) := by simpa using e
                  omega)
end
end Ky

set_option Elab.async false
set_option maxRecDepth 100000
set_option maxHeartbeats 4000000
set_option linter.all false
namespace Ky
open PySem L2 Ly
/-! ### the errors' and papers' __init__ -/
section
variable {w : World} {K : PySem.W.Frag} {mg : Str → Option Value} {base : Heap} {aK aF CB CP CE : Addr}
abbrev s_BadText___init__ : Stmt := inClass (top 2) 0
theorem sc_BadText___init__ : NdefX.NScope ["self", "line", "word", "__class__"] ["self", "line", "word"] ["__class__"] (defScope s_BadText___init__) := NdefX.nscope_by (by decide +kernel)
theorem ok_BT {f cc cda : Addr} {fd : FuncData} (F : SFun PP K mg "__init__" "BadText.__init__" s_BadText___init__ f cc cda CB fd) (nl : PySem.W.findIn K (.ref CB) "line" = some none) (nw : PySem.W.findIn K (.ref CB) "word" = some none) :
    FnOk PP w K mg base (L2.CX PP w) 1 f fd ["self", "line", "word"] (spBT K CB) := by
  refine F.ok sc_BadText___init__ rfl rfl rfl (by decide) rfl rfl (fun vs H Q E h => ?_) fun A outer s H vs Q E hr h S0 => ?_
  · obtain ⟨a, x, y, rfl, _⟩ := h; rfl
  · obtain ⟨a, x, y, rfl, ha, S, k⟩ := h
    refine ⟨_, (ps_supX S0 (pa_cons (pv 1) (pa_cons (pv 2) pa_nil))
      (pss_cons (ps_ost (pv 0) (pv 1))
      (pss_one (ps_ost (pv 0) (pv 2))))), ?_⟩
    refine ⟨a, CB, rfl, ha, S, ?_⟩
    simp only [tSeq, tIfS, tOr, tAnd, tNot, tB, tTest, tCB, tCons, tNil, tVar, tC, tOp, tUn, tRet, tRetN, tDrop, tAsg, tPar, tPar3, tNext, tNever, tBreak, tCont, tAug, tChain, tAndV, tOrV, tNotV, tIf, tIsN, tNotN, tTup, tLst, tCallD, tMethD, tMakeD, tFld, tCon, sFld, sFldAug, tCallK, tSl, tPart, tNoPart, tBM, tBM0, tDGet, tDIn, tDNotIn, sDPut, tDNewK, tM0, tM1, tOrT, tAndT, tNotT, tAsg2, tAsg3, gName, rI0, rI, rU, tYes, L2.start, NdefX.startF, List.set_cons_zero, List.set_cons_succ, List.map_cons, List.map_nil, List.length_cons, List.length_nil, Nat.sub_zero, Nat.reduceSub, Nat.reduceAdd, List.replicate_succ, List.replicate_zero, List.cons_append, List.nil_append, List.append_nil, List.getElem?_cons_zero, List.getElem?_cons_succ, Option.some.injEq, exists_eq_left', exists_eq_left, exists_eq_right, exists_eq_right', exists_and_left, exists_and_right, exists_eq, exists_eq', true_and, and_true, V.int.injEq, V.str.injEq, V.bl.injEq, V.ref.injEq, V.ty.injEq, HO.ins.injEq, HO.lst.injEq, HO.tup.injEq, and_assoc, List.cons.injEq, Bool.not_true, Bool.not_false, Bool.false_eq_true, if_false, if_true, cx_K, upd_same, upd_upd, isi_str, req_ii, req_ss, rne_ii, rne_ss, radd_ii, rsub_ii, atI_at, atI_0, atI_1, atI_2, atI_3, atI_4, rLenL, rLenU, rIxLL, rIxU, reduceCtorEq, tCons]
    refine ⟨by decide, ha, ?_⟩
    unfold tOst
    simp only [tSeq, tIfS, tOr, tAnd, tNot, tB, tTest, tCB, tCons, tNil, tVar, tC, tOp, tUn, tRet, tRetN, tDrop, tAsg, tPar, tPar3, tNext, tNever, tBreak, tCont, tAug, tChain, tAndV, tOrV, tNotV, tIf, tIsN, tNotN, tTup, tLst, tCallD, tMethD, tMakeD, tFld, tCon, sFld, sFldAug, tCallK, tSl, tPart, tNoPart, tBM, tBM0, tDGet, tDIn, tDNotIn, sDPut, tDNewK, tM0, tM1, tOrT, tAndT, tNotT, tAsg2, tAsg3, gName, rI0, rI, rU, tYes, L2.start, NdefX.startF, List.set_cons_zero, List.set_cons_succ, List.map_cons, List.map_nil, List.length_cons, List.length_nil, Nat.sub_zero, Nat.reduceSub, Nat.reduceAdd, List.replicate_succ, List.replicate_zero, List.cons_append, List.nil_append, List.append_nil, List.getElem?_cons_zero, List.getElem?_cons_succ, Option.some.injEq, exists_eq_left', exists_eq_left, exists_eq_right, exists_eq_right', exists_and_left, exists_and_right, exists_eq, exists_eq', true_and, and_true, V.int.injEq, V.str.injEq, V.bl.injEq, V.ref.injEq, V.ty.injEq, HO.ins.injEq, HO.lst.injEq, HO.tup.injEq, and_assoc, List.cons.injEq, Bool.not_true, Bool.not_false, Bool.false_eq_true, if_false, if_true, cx_K, upd_same, upd_upd, isi_str, req_ii, req_ss, rne_ii, rne_ss, radd_ii, rsub_ii, atI_at, atI_0, atI_1, atI_2, atI_3, atI_4, rLenL, rLenU, rIxLL, rIxU, reduceCtorEq]
    refine ⟨CB, S.oe, nl, .inl ⟨ha, fun dx h1 h2 => ⟨CB, S.oe, nw, .inr ⟨dx, rfl, [(("line" : Str), x)], ?_, ?_, ?_⟩⟩⟩⟩
    · rw [upd_ne h2, upd_same]
    · show 1 ≤ 900; decide
    · exact k dx h1 h2
def spPI (CE : Addr) : Sp := fun vs H Q _ => ∃ (a t dx : Addr), vs = [.ref a, .ref t] ∧ H a = some (.ins CE dx []) ∧ Q .non (upd H a (.ins CE dx [("own_parts", .ref t)]))
abbrev s_Paper___init__ : Stmt := inClass (top 4) 2
theorem sc_Paper___init__ : FnScope ["self", "parts"] ["self", "parts"] (defScope s_Paper___init__) := ⟨rfl, rfl, rfl, by decide +kernel, rfl, by decide +kernel, by decide +kernel⟩
theorem ok_PI {f : Addr} {fd : FuncData} (F : Fun K "__init__" "Paper.__init__" s_Paper___init__ f fd) (c : Cls K CE) (n : NoAttr K CE "own_parts") (E0 : XK)
    (hb : ∀ (kV doc pm : Value) (an : Option Addr) (cdv ct : Value) (us rest : List Value), us.length = (["self"] : List Str).length → bindArgs (PySem.W.fnOf "__init__" "Paper.__init__" (defArgs s_Paper___init__) (defBody s_Paper___init__) (defScope s_Paper___init__) .none kV doc pm an cdv ct) ⟨us ++ rest, []⟩ = (newTuple rest >>= fun t => pure ((["self"] : List Str).zip us ++ [(("parts" : Str), t)]))) :
    FnR PP w K mg base (L2.CX PP w) 1 f (fun vs H Q E => ∃ ws rest, vs = ws ++ rest ∧ ws.length = (["self"] : List Str).length ∧ rest.length ≤ sizeLine ∧ ∀ p, H p = Option.none → spPI CE (ws ++ [V.ref p]) (upd H p (.tup rest)) Q E) := by
  obtain ⟨oc, od, kV, doc, pm, an, cdv, ct, osl, rfl, lk, hcd⟩ := F.ex
  refine StX.fn_star (ps := ["self"]) lk hcd sc_Paper___init__ StX.cxUp (hb _ _ _ _ _ _) fun A outer s H vs Q E hr h => ?_
  obtain ⟨a, t, dx, rfl, ha, k⟩ := h
  refine ⟨_, (pss_one (ps_fld (pv 0) (pv 1) rfl)), ?_⟩
  simp only [tSeq, tIfS, tOr, tAnd, tNot, tB, tTest, tCB, tCons, tNil, tVar, tC, tOp, tUn, tRet, tRetN, tDrop, tAsg, tPar, tPar3, tNext, tNever, tBreak, tCont, tAug, tChain, tAndV, tOrV, tNotV, tIf, tIsN, tNotN, tTup, tLst, tCallD, tMethD, tMakeD, tFld, tCon, sFld, sFldAug, tCallK, tSl, tPart, tNoPart, tBM, tBM0, tDGet, tDIn, tDNotIn, sDPut, tDNewK, tM0, tM1, tOrT, tAndT, tNotT, tAsg2, tAsg3, gName, rI0, rI, rU, tYes, L2.start, NdefX.startF, List.set_cons_zero, List.set_cons_succ, List.map_cons, List.map_nil, List.length_cons, List.length_nil, Nat.sub_zero, Nat.reduceSub, Nat.reduceAdd, List.replicate_succ, List.replicate_zero, List.cons_append, List.nil_append, List.append_nil, List.getElem?_cons_zero, List.getElem?_cons_succ, Option.some.injEq, exists_eq_left', exists_eq_left, exists_eq_right, exists_eq_right', exists_and_left, exists_and_right, exists_eq, exists_eq', true_and, and_true, V.int.injEq, V.str.injEq, V.bl.injEq, V.ref.injEq, V.ty.injEq, HO.ins.injEq, HO.lst.injEq, HO.tup.injEq, and_assoc, List.cons.injEq, Bool.not_true, Bool.not_false, Bool.false_eq_true, if_false, if_true, cx_K, upd_same, upd_upd, isi_str, req_ii, req_ss, rne_ii, rne_ss, radd_ii, rsub_ii, atI_at, atI_0, atI_1, atI_2, atI_3, atI_4, rLenL, rLenU, rIxLL, rIxU, reduceCtorEq, ha, c, n]
  refine ⟨by decide, k⟩
def eF (t : Addr) (fv : V) (c l : Addr) : List (Str × V) := [("own_parts", .ref t), ("failed", fv), ("cells", .ref c), ("logs", .ref l)]
theorem eF2 (t : Addr) (fv : V) : putF "failed" fv [(("own_parts" : Str), .ref t)] = [(("own_parts" : Str), .ref t), (("failed" : Str), fv)] := by kernel_rfl
theorem eF3 (t c : Addr) (fv : V) : putF "cells" (.ref c) [(("own_parts" : Str), .ref t), (("failed" : Str), fv)] = [(("own_parts" : Str), .ref t), (("failed" : Str), fv), (("cells" : Str), .ref c)] := by kernel_rfl
theorem eF4 (t c l : Addr) (fv : V) : putF "logs" (.ref l) [(("own_parts" : Str), .ref t), (("failed" : Str), fv), (("cells" : Str), .ref c)] = eF t fv c l := by kernel_rfl
def spEI (CE : Addr) : Sp := fun vs H Q _ => ∃ (a dx c l : Addr) (fv : V), vs = [.ref a, fv, .ref c, .ref l] ∧ H a = some (.ins CE dx []) ∧ ∀ t, H t = none → Q .non (upd (upd H t (.tup [fv, .ref c, .ref l])) a (.ins CE dx (eF t fv c l)))
abbrev s_End___init__ : Stmt := inClass (top 15) 1
theorem sc_End___init__ : NdefX.NScope ["self", "failed", "cells", "logs", "__class__"] ["self", "failed", "cells", "logs"] ["__class__"] (defScope s_End___init__) := NdefX.nscope_by (by decide +kernel)
theorem ok_EI {f cc cda g : Addr} {fd : FuncData} (F : SFun PP K mg "__init__" "End.__init__" s_End___init__ f cc cda CE fd) (M : SupM K CE CE g) (c : Cls K CE) (n1 : NoAttr K CE "failed") (n2 : NoAttr K CE "cells") (n3 : NoAttr K CE "logs")
    (FR : FnR PP w K mg base (L2.CX PP w) 1 g (fun vs H Q E => ∃ ws rest, vs = ws ++ rest ∧ ws.length = (["self"] : List Str).length ∧ rest.length ≤ sizeLine ∧ ∀ p, H p = Option.none → spPI CE (ws ++ [V.ref p]) (upd H p (.tup rest)) Q E)) :
    FnOk PP w K mg base (L2.CX PP w) 2 f fd ["self", "failed", "cells", "logs"] (spEI CE) := by
  refine F.ok sc_End___init__ rfl rfl rfl (by decide) rfl rfl (fun vs H Q E h => ?_) fun A outer s H vs Q E hr h S0 => ?_
  · obtain ⟨a, dx, cc, l, fv, rfl, _⟩ := h; rfl
  · obtain ⟨a, dx, cc, l, fv, rfl, ha, k⟩ := h
    refine ⟨_, (ps_sup S0 FR (hr.mono (by decide)) passL (pa_cons (pv 1) (pa_cons (pv 2) (pa_cons (pv 3) pa_nil)))
      (pss_cons (ps_fld (pv 0) (pv 1) rfl)
      (pss_cons (ps_fld (pv 0) (pv 2) rfl)
      (pss_one (ps_fld (pv 0) (pv 3) rfl))))), ?_⟩
    refine ⟨a, CE, dx, [], rfl, ha, M, ?_⟩
    simp only [tSeq, tIfS, tOr, tAnd, tNot, tB, tTest, tCB, tCons, tNil, tVar, tC, tOp, tUn, tRet, tRetN, tDrop, tAsg, tPar, tPar3, tNext, tNever, tBreak, tCont, tAug, tChain, tAndV, tOrV, tNotV, tIf, tIsN, tNotN, tTup, tLst, tCallD, tMethD, tMakeD, tFld, tCon, sFld, sFldAug, tCallK, tSl, tPart, tNoPart, tBM, tBM0, tDGet, tDIn, tDNotIn, sDPut, tDNewK, tM0, tM1, tOrT, tAndT, tNotT, tAsg2, tAsg3, gName, rI0, rI, rU, tYes, L2.start, NdefX.startF, List.set_cons_zero, List.set_cons_succ, List.map_cons, List.map_nil, List.length_cons, List.length_nil, Nat.sub_zero, Nat.reduceSub, Nat.reduceAdd, List.replicate_succ, List.replicate_zero, List.cons_append, List.nil_append, List.append_nil, List.getElem?_cons_zero, List.getElem?_cons_succ, Option.some.injEq, exists_eq_left', exists_eq_left, exists_eq_right, exists_eq_right', exists_and_left, exists_and_right, exists_eq, exists_eq', true_and, and_true, V.int.injEq, V.str.injEq, V.bl.injEq, V.ref.injEq, V.ty.injEq, HO.ins.injEq, HO.lst.injEq, HO.tup.injEq, and_assoc, List.cons.injEq, Bool.not_true, Bool.not_false, Bool.false_eq_true, if_false, if_true, cx_K, upd_same, upd_upd, isi_str, req_ii, req_ss, rne_ii, rne_ss, radd_ii, rsub_ii, atI_at, atI_0, atI_1, atI_2, atI_3, atI_4, rLenL, rLenU, rIxLL, rIxU, reduceCtorEq, tCons]
    refine ⟨[.ref a], [fv, .ref cc, .ref l], rfl, rfl, by rw [sizeLine_eq]; show 3 ≤ 16777216; decide, fun t ht => ⟨a, t, dx, rfl, ?_, ?_⟩⟩
    · rw [upd_ne (ne_of_none ha ht)]; exact ha
    · refine ⟨CE, dx, _, upd_same, c, n1, by show 1 < 1000; decide, c, n2, ?_, c, n3, ?_, ?_⟩
      · rw [eF2]; show 2 < 1000; decide
      · rw [eF2, eF3]; show 3 < 1000; decide
      · rw [eF2, eF3, eF4, upd_upd]; exact k t ht
end
end Ky

set_option Elab.async false
set_option maxRecDepth 100000
set_option maxHeartbeats 4000000
set_option linter.all false
namespace Ky
open PySem L2 Ly
/-! ### ends as data -/
structure EndD where
  failed : Option Str
  cells : List (Str × Int)
  logs : List (Str × List Str)
def failV : Option Str → V
  | none => .non
  | some s => .str s
def cK (cs : List (Str × Int)) : List (Key × V) := cs.map fun x => (.inr x.1, .int x.2)
def lK (ls : List (Str × Addr × List Str)) : List (Key × V) := ls.map fun x => (.inr x.1, .ref x.2.1)
def lD (ls : List (Str × Addr × List Str)) : List (Str × List Str) := ls.map fun x => (x.1, x.2.2)
structure TabAt (H : Hp) (c l : Addr) (cs : List (Str × Int)) (ls : List (Str × Addr × List Str)) : Prop where
  atC : H c = some (.dK (cK cs))
  atL : H l = some (.dK (lK ls))
  ne : c ≠ l
  atT : ∀ x ∈ ls, H x.2.1 = some (.tup (x.2.2.map V.str))
theorem TabAt.same {H H' : Hp} {c l : Addr} {cs : List (Str × Int)} {ls : List (Str × Addr × List Str)} (T : TabAt H c l cs ls) (s : Same H H') : TabAt H' c l cs ls := ⟨s _ _ T.atC, s _ _ T.atL, T.ne, fun x hx => s _ _ (T.atT x hx)⟩
structure EndAt (CE : Addr) (H : Hp) (p : Addr) (e : EndD) : Prop where
  ex : ∃ dx t c l ls, H p = some (.ins CE dx (eF t (failV e.failed) c l)) ∧ H t = some (.tup [failV e.failed, .ref c, .ref l]) ∧ TabAt H c l e.cells ls ∧ lD ls = e.logs
theorem EndAt.same {CE : Addr} {H H' : Hp} {p : Addr} {e : EndD} (T : EndAt CE H p e) (s : Same H H') : EndAt CE H' p e := by
  obtain ⟨dx, t, c, l, ls, h1, h2, h3, h4⟩ := T.ex
  exact ⟨dx, t, c, l, ls, s _ _ h1, s _ _ h2, h3.same s, h4⟩
/-! ### their texts -/
def cellS (x : Str × Int) : Str := Str.empty ++ x.1 ++ " " ++ ((toString x.2 : String) : Str)
def logS (x : Str × List Str) : Str := if Txt.join " " x.2 = "" then Str.empty ++ x.1 ++ " -" else Str.empty ++ x.1 ++ " " ++ Txt.join " " x.2
def headS : Option Str → Str
  | none => "done"
  | some s => Str.empty ++ "failed " ++ s
def endText (e : EndD) : Str := Txt.join " ; " ([headS e.failed] ++ e.cells.map cellS ++ e.logs.map logS)
def endsText (es : List EndD) : Str := if es.length = 0 then "-" else Txt.join " / " (es.map endText)
structure FitE (e : EndD) : Prop where
  f : ∀ x, e.failed = some x → x.length ≤ 8
  c : ∀ x ∈ e.cells, x.1.length ≤ 8 ∧ 0 ≤ x.2 ∧ x.2 ≤ 3
  l : ∀ x ∈ e.logs, x.1.length ≤ 8 ∧ ∀ y ∈ x.2, y.length ≤ 8
  dc : (e.cells.map (·.1)).Nodup
  dl : (e.logs.map (·.1)).Nodup
  n : e.cells.length + (e.logs.map fun x => x.2.length + 1).sum ≤ 100000
theorem val_of {α : Type} (g : Str × α → V) : ∀ (l : List (Str × α)) (x : Str × α), x ∈ l → (l.map (·.1)).Nodup → valV (l.map fun x => ((.inr x.1 : Key), g x)) (.inr x.1) = some (g x)
  | y :: r, x, h, nd => by
    rw [List.map_cons] at nd ⊢
    rcases List.mem_cons.mp h with rfl | h
    · exact valV_pos rfl
    · rw [valV_neg (fun z => (List.nodup_cons.mp nd).1 (by have q : y.1 = x.1 := Sum.inr.inj z; rw [q]; exact List.mem_map_of_mem h))]
      exact val_of g r x h (List.nodup_cons.mp nd).2
theorem lD_fst : ∀ ls : List (Str × Addr × List Str), (lD ls).map (·.1) = ls.map (·.1) := fun ls => by unfold lD; rw [List.map_map]; rfl
theorem range_get {α : Type} (xs : List α) (d : α) (f : α → V) : (List.range xs.length).map (fun i => f (xs.getD i d)) = xs.map f := by
  refine List.ext_getElem (by simp) fun i h1 h2 => ?_
  simp at h1
  simp [h1]
theorem fig_len {i : Int} (h0 : 0 ≤ i) (h3 : i ≤ 3) : (((toString i : String) : Str)).length ≤ 1 ∧ i.natAbs.log2 < 1920 := by
  have : i = 0 ∨ i = 1 ∨ i = 2 ∨ i = 3 := by omega
  rcases this with rfl | rfl | rfl | rfl <;> decide +kernel
theorem nd_len {α : Type} {f : α → Nat} : ∀ l : List α, l.length ≤ (l.map fun x => f x + 1).sum
  | [] => Nat.le_refl _
  | a :: r => by have := nd_len (f := f) r; simp only [List.length_cons, List.map_cons, List.sum_cons]; omega
theorem le_sum {α : Type} (f : α → Nat) : ∀ (l : List α) (x : α), x ∈ l → f x ≤ (l.map f).sum
  | y :: r, x, h => by
    rw [List.map_cons, List.sum_cons]
    rcases List.mem_cons.mp h with rfl | h
    · omega
    · have := le_sum f r x h; omega
theorem sum_le2 {α : Type} (f g : α → Nat) (b : Nat) : ∀ l : List α, (∀ x ∈ l, f x ≤ b * g x) → (l.map f).sum ≤ b * (l.map g).sum
  | [], _ => Nat.zero_le _
  | a :: r, h => by
    have ih := sum_le2 f g b r fun x hx => h x (.tail _ hx)
    have h0 := h a (.head _)
    rw [List.map_cons, List.sum_cons, List.map_cons, List.sum_cons, Nat.mul_add]
    omega
theorem headS_len {e : EndD} (fit : FitE e) : (headS e.failed).length ≤ 15 := by
  have fl := fit.f
  cases hf : e.failed with
  | none => show ("done" : Str).length ≤ 15; decide +kernel
  | some x =>
    have := fl x hf
    show (Str.empty ++ "failed " ++ x).length ≤ 15
    rw [app_len, app_len, show ("failed " : Str).length = 7 by decide +kernel, show Str.empty.length = 0 from rfl]
    omega
theorem cellS_len {x : Str × Int} (h : x.1.length ≤ 8 ∧ 0 ≤ x.2 ∧ x.2 ≤ 3) : (cellS x).length ≤ 10 := by
  have := (fig_len h.2.1 h.2.2).1
  unfold cellS
  rw [app_len, app_len, app_len, show (" " : Str).length = 1 by decide +kernel, show Str.empty.length = 0 from rfl]
  omega
theorem logS_len {x : Str × List Str} (h : x.1.length ≤ 8 ∧ ∀ y ∈ x.2, y.length ≤ 8) : (logS x).length ≤ 10 * (x.2.length + 1) := by
  have hs : (x.2.map (·.length)).sum ≤ x.2.length * 8 := sum_le _ _ _ h.2
  have hj := join_len " " x.2
  rw [show (" " : Str).length = 1 by decide +kernel] at hj
  unfold logS
  split
  · rw [app_len, app_len, show (" -" : Str).length = 2 by decide +kernel, show Str.empty.length = 0 from rfl]
    omega
  · rw [app_len, app_len, app_len, show (" " : Str).length = 1 by decide +kernel, show Str.empty.length = 0 from rfl]
    omega
theorem parts_len {e : EndD} (fit : FitE e) : (([headS e.failed] ++ e.cells.map cellS ++ e.logs.map logS).map (·.length)).sum + ([headS e.failed] ++ e.cells.map cellS ++ e.logs.map logS).length * 3 ≤ 2000000 ∧ (endText e).length ≤ 2000000 := by
  have a : (([headS e.failed] ++ e.cells.map cellS ++ e.logs.map logS).map (·.length)).sum + ([headS e.failed] ++ e.cells.map cellS ++ e.logs.map logS).length * 3 ≤ 2000000 := by
    have h1 := headS_len fit
    have h2 : ((e.cells.map cellS).map (·.length)).sum ≤ e.cells.length * 10 := by
      rw [List.map_map]
      exact sum_le _ _ _ fun x hx => cellS_len (fit.c x hx)
    have h3 : ((e.logs.map logS).map (·.length)).sum ≤ 10 * (e.logs.map fun x => x.2.length + 1).sum := by
      rw [List.map_map]
      exact sum_le2 _ _ _ _ fun x hx => logS_len (fit.l x hx)
    have h4 := fit.n
    have h5 := nd_len (f := fun x : Str × List Str => x.2.length) e.logs
    simp only [List.map_append, List.sum_append, List.length_append, List.length_map, List.map_cons, List.map_nil, List.sum_cons, List.sum_nil, List.length_cons, List.length_nil] at h2 h3 ⊢
    omega
  refine ⟨a, ?_⟩
  have hj := join_len " ; " ([headS e.failed] ++ e.cells.map cellS ++ e.logs.map logS)
  rw [show (" ; " : Str).length = 3 by decide +kernel] at hj
  unfold endText
  omega
def lastS (ns : List Str) : Str := (ns.getLast?).getD ""
section
variable {w : World} {K : PySem.W.Frag} {mg : Str → Option Value} {base : Heap} {aK aF CB CP CE : Addr}
/-- the class End -/
structure EC (K : PySem.W.Frag) (CE : Addr) : Prop where
  cl : Cls K CE
  nP : NoAttr K CE "own_parts"
  nF : NoAttr K CE "failed"
  nC : NoAttr K CE "cells"
  nL : NoAttr K CE "logs"
theorem keep_unlock {S : List Addr} {H H' : Hp} {c : Addr} {u o : HO} (hc : H c = some u) (k : Keep S (upd H c o) H') : Keep S H (upd H' c u) := fun b x e n => by
  by_cases h : b = c
  · subst h
    rw [hc] at e
    rw [upd_same]; exact e
  · rw [upd_ne h]
    exact k b x (by rw [upd_ne h]; exact e) n
def spLast : Sp := fun vs H Q _ => ∃ (d : Addr) (kvs : List (Key × V)) (ns : List Str), vs = [.ref d] ∧ H d = some (.dK kvs) ∧ kvs.map (fun kv => kV kv.1) = ns.map V.str ∧ kvs.length ≤ 200000 ∧ ∀ H', Same H H' → Q (.str (lastS ns)) H'
theorem last_at (ns : List Str) : atI (.str "" :: ns.map V.str) (-1) = some (.str (lastS ns)) := by
  unfold atI ixN
  rw [if_neg (by omega)]
  simp only [List.length_cons, List.length_map]
  rw [if_pos (by omega), Option.bind_some]
  rw [show ((-1 : Int) + ((ns.length + 1 : Nat) : Int)).toNat = ns.length by omega]
  unfold lastS
  cases ns with
  | nil => rfl
  | cons a r => rw [List.getElem?_cons, List.length_cons, if_neg (by omega)]; simp only [List.map_cons, List.getLast?_eq_getElem?, List.length_cons, Nat.add_sub_cancel]; rw [show (V.str a :: List.map V.str r) = (a :: r).map V.str from rfl, List.getElem?_map, List.getElem?_eq_getElem (by simp)]; rfl
abbrev s_last_of : Stmt := top 18
theorem sc_last_of : FnScope ["table"] ["table"] (defScope s_last_of) := ⟨rfl, rfl, rfl, by decide +kernel, rfl, by decide +kernel, by decide +kernel⟩
theorem ok_last {f : Addr} {fd : FuncData} (F : Fun K "last_of" "last_of" s_last_of f fd) (T : Tx K mg aK aF) : FnOk PP w K mg base (L2.CX PP w) 1 f fd ["table"] spLast := by
  refine F.okX sc_last_of (fun vs H Q E h => ?_) (fun cdv A outer s H vs Q E hr h => ?_)
  · obtain ⟨d, kvs, ns, rfl, _⟩ := h; rfl
  · obtain ⟨d, kvs, ns, rfl, hd, hk, hn, k⟩ := h
    refine ⟨_, (pss_one (ps_ret (pe_ix ix_LL (pe_op op_cat (pe_lst (pa_cons pe_str pa_nil)) (pe_callTy (call_listD rfl) (by rfl) T.list (by decide +kernel) (pa_cons (pv 0) pa_nil))) (pe_un un_neg pe_int) (fun _ _ => rfl)))), ?_⟩
    simp only [tSeq, tIfS, tOr, tAnd, tNot, tB, tTest, tCB, tCons, tNil, tVar, tC, tOp, tUn, tRet, tRetN, tDrop, tAsg, tPar, tPar3, tNext, tNever, tBreak, tCont, tAug, tChain, tAndV, tOrV, tNotV, tIf, tIsN, tNotN, tTup, tLst, tCallD, tMethD, tMakeD, tFld, tCon, sFld, sFldAug, tCallK, tSl, tPart, tNoPart, tBM, tBM0, tDGet, tDIn, tDNotIn, sDPut, tDNewK, tM0, tM1, tOrT, tAndT, tNotT, tAsg2, tAsg3, gName, rI0, rI, rU, tYes, L2.start, NdefX.startF, List.set_cons_zero, List.set_cons_succ, List.map_cons, List.map_nil, List.length_cons, List.length_nil, Nat.sub_zero, Nat.reduceSub, Nat.reduceAdd, List.replicate_succ, List.replicate_zero, List.cons_append, List.nil_append, List.append_nil, List.getElem?_cons_zero, List.getElem?_cons_succ, Option.some.injEq, exists_eq_left', exists_eq_left, exists_eq_right, exists_eq_right', exists_and_left, exists_and_right, exists_eq, exists_eq', true_and, and_true, V.int.injEq, V.str.injEq, V.bl.injEq, V.ref.injEq, V.ty.injEq, HO.ins.injEq, HO.lst.injEq, HO.tup.injEq, and_assoc, List.cons.injEq, Bool.not_true, Bool.not_false, Bool.false_eq_true, if_false, if_true, cx_K, upd_same, upd_upd, isi_str, req_ii, req_ss, rne_ii, rne_ss, radd_ii, rsub_ii, atI_at, atI_0, atI_1, atI_2, atI_3, atI_4, rLenL, rLenU, rIxLL, rIxU, reduceCtorEq, gTup, gCons, gNil, tFmt_eq, fmtV_str, fmtV_int, tJs_nil, tJs_cons, jsV_str, iKeys_eq, gSub, rSetL, tPart, tNoPart, tSl, rSlL, false_and, exists_false, or_false, false_or, List.set_cons_zero, List.set_cons_succ, rCat]
    refine ⟨sz_le (by decide), fun p hp => ⟨kvs, .inl (by rw [upd_ne (ne_of_none hd hp)]; exact hd), fun q hq => ?_⟩⟩
    have hpq : p ≠ q := fun z => by rw [← z, upd_same] at hq; cases hq
    simp only [tSeq, tIfS, tOr, tAnd, tNot, tB, tTest, tCB, tCons, tNil, tVar, tC, tOp, tUn, tRet, tRetN, tDrop, tAsg, tPar, tPar3, tNext, tNever, tBreak, tCont, tAug, tChain, tAndV, tOrV, tNotV, tIf, tIsN, tNotN, tTup, tLst, tCallD, tMethD, tMakeD, tFld, tCon, sFld, sFldAug, tCallK, tSl, tPart, tNoPart, tBM, tBM0, tDGet, tDIn, tDNotIn, sDPut, tDNewK, tM0, tM1, tOrT, tAndT, tNotT, tAsg2, tAsg3, gName, rI0, rI, rU, tYes, L2.start, NdefX.startF, List.set_cons_zero, List.set_cons_succ, List.map_cons, List.map_nil, List.length_cons, List.length_nil, Nat.sub_zero, Nat.reduceSub, Nat.reduceAdd, List.replicate_succ, List.replicate_zero, List.cons_append, List.nil_append, List.append_nil, List.getElem?_cons_zero, List.getElem?_cons_succ, Option.some.injEq, exists_eq_left', exists_eq_left, exists_eq_right, exists_eq_right', exists_and_left, exists_and_right, exists_eq, exists_eq', true_and, and_true, V.int.injEq, V.str.injEq, V.bl.injEq, V.ref.injEq, V.ty.injEq, HO.ins.injEq, HO.lst.injEq, HO.tup.injEq, and_assoc, List.cons.injEq, Bool.not_true, Bool.not_false, Bool.false_eq_true, if_false, if_true, cx_K, upd_same, upd_upd, isi_str, req_ii, req_ss, rne_ii, rne_ss, radd_ii, rsub_ii, atI_at, atI_0, atI_1, atI_2, atI_3, atI_4, rLenL, rLenU, rIxLL, rIxU, reduceCtorEq, gTup, gCons, gNil, tFmt_eq, fmtV_str, fmtV_int, tJs_nil, tJs_cons, jsV_str, iKeys_eq, gSub, rSetL, tPart, tNoPart, tSl, rSlL, false_and, exists_false, or_false, false_or, List.set_cons_zero, List.set_cons_succ, upd_ne hpq]
    refine ⟨sz_le (by simp; omega), fun r hr2 => ⟨.str (lastS ns), ?_, ?_⟩⟩
    · rw [hk]; exact last_at ns
    · exact k _ (same_new (same_new (same_upd hp) hq) hr2)
def spStr (CE : Addr) : Sp := fun vs H Q _ => ∃ (p : Addr) (e : EndD), vs = [.ref p] ∧ EndAt CE H p e ∧ FitE e ∧ ∀ H', Same H H' → Q (.str (endText e)) H'
theorem eF_P (t c l : Addr) (v : V) : (eF t v c l).lookup ("own_parts" : Str) = some (.ref t) := by kernel_rfl
theorem eF_F (t c l : Addr) (v : V) : (eF t v c l).lookup ("failed" : Str) = some v := by kernel_rfl
theorem eF_C (t c l : Addr) (v : V) : (eF t v c l).lookup ("cells" : Str) = some (.ref c) := by kernel_rfl
theorem eF_L (t c l : Addr) (v : V) : (eF t v c l).lookup ("logs" : Str) = some (.ref l) := by kernel_rfl
abbrev s_End___str__ : Stmt := inClass (top 15) 2
theorem sc_End___str__ : FnScope ["self", "parts", "name", "said"] ["self"] (defScope s_End___str__) := ⟨rfl, rfl, rfl, by decide +kernel, rfl, by decide +kernel, by decide +kernel⟩
theorem ok_str {f : Addr} {fd : FuncData} (F : Fun K "__str__" "End.__str__" s_End___str__ f fd) (T : Tx K mg aK aF) (C : EC K CE) : FnOk PP w K mg base (L2.CX PP w) 1 f fd ["self"] (spStr CE) := by
  refine F.okX sc_End___str__ (fun vs H Q E h => ?_) (fun cdv A outer s H vs Q E hr h => ?_)
  · obtain ⟨p, e, rfl, _⟩ := h; rfl
  · obtain ⟨p, e, rfl, W, fit, k⟩ := h
    obtain ⟨dx, t, c, l, ls, hp, ht, tab, el⟩ := W.ex
    have hu := hu_of hr
    refine ⟨_, (pss_cons (ps_set (i := 1) sc_End___str__.nd rfl (Or.inl rfl) (pe_lst (pa_cons (pe_ifExp (pt_cmpR op_isN (pe_fld (pv 0) rfl) pe_non (nomark _)) pe_str (pe_joined (PJ.cons pe_str (PJ.cons (pe_fmt (pe_fld (pv 0) rfl)) PJ.nil)))) pa_nil)))
      (pss_cons (ps_expr (pe_bm PySem.F.plainAttrs_list PySem.F.slot_list_extend PySem.F.type_list_extend mt_extend (pv 1) (pa_cons (pe_lock (pe_lc (own := [("name", 2)]) (g := gName 2) (tt := tYes) rfl sc_End___str__.nd (pi_keys (pe_fld (pv 0) rfl)) (blkOk_by (N := ["self", "parts", "name", "said"]) (sc := defScope s_End___str__) (by decide +kernel)) (fun _ _ _ _ _ => pg_name (i := 2) sc_End___str__.nd rfl (Or.inl rfl)) (fun _ _ _ _ _ => pts_nil) (fun _ _ _ _ _ => (pe_joined (PJ.cons (pe_fmt (pv 2)) (PJ.cons pe_str (PJ.cons (pe_fmt (pe_dget (by exact hu) (pe_fldK (K := K) rfl (pv 0) rfl) (pv 2) (fun _ _ => rfl))) PJ.nil))))))) pa_nil)))
      (pss_cons (ps_lock (ps_for (passes_of rfl) rfl (pi_keys (pe_fld (pv 0) rfl)) (pg_name (i := 2) sc_End___str__.nd rfl (Or.inl rfl)) (pss_cons (ps_set (i := 3) sc_End___str__.nd rfl (Or.inl rfl) (pe_join pe_str (pe_dget (by exact hu) (pe_fld (pv 0) rfl) (pv 2) (fun _ _ => rfl))))
      (pss_one (ps_expr (pe_bm PySem.F.plainAttrs_list PySem.F.slot_list_append PySem.F.type_list_append mt_append (pv 1) (pa_cons (pe_ifExp (pt_cmpR op_eq (pv 3) pe_str (nomark _)) (pe_joined (PJ.cons (pe_fmt (pv 2)) (PJ.cons pe_str PJ.nil))) (pe_joined (PJ.cons (pe_fmt (pv 2)) (PJ.cons pe_str (PJ.cons (pe_fmt (pv 3)) PJ.nil))))) pa_nil)))))))
      (pss_one (ps_ret (pe_join pe_str (pv 1))))))), ?_⟩
    obtain ⟨X, hX⟩ : ∃ X, X = headS e.failed := ⟨_, rfl⟩
    have hv : (failV e.failed = .non ∧ X = "done") ∨ ∃ x : Str, failV e.failed = .str x ∧ X = Str.empty ++ "failed " ++ x ∧ x.length ≤ 8 := by
      have fl := fit.f
      cases hf : e.failed with
      | none => exact .inl ⟨rfl, by rw [hX, hf]; rfl⟩
      | some x => exact .inr ⟨x, rfl, by rw [hX, hf]; rfl, fl x hf⟩
    have h7 : ("failed " : Str).length = 7 := by decide +kernel
    have h1s : (" " : Str).length = 1 := by decide +kernel
    have h2s : (" -" : Str).length = 2 := by decide +kernel
    have h0s : Str.empty.length = 0 := rfl
    have hXl : X.length ≤ 15 := by
      rcases hv with ⟨_, h⟩ | ⟨x, _, h, hx⟩
      · rw [h]; decide +kernel
      · rw [h, app_len, app_len, h7, h0s]; omega
    simp only [tSeq, tIfS, tOr, tAnd, tNot, tB, tTest, tCB, tCons, tNil, tVar, tC, tOp, tUn, tRet, tRetN, tDrop, tAsg, tPar, tPar3, tNext, tNever, tBreak, tCont, tAug, tChain, tAndV, tOrV, tNotV, tIf, tIsN, tNotN, tTup, tLst, tCallD, tMethD, tMakeD, tFld, tCon, sFld, sFldAug, tCallK, tSl, tPart, tNoPart, tBM, tBM0, tDGet, tDIn, tDNotIn, sDPut, tDNewK, tM0, tM1, tOrT, tAndT, tNotT, tAsg2, tAsg3, gName, rI0, rI, rU, tYes, L2.start, NdefX.startF, List.set_cons_zero, List.set_cons_succ, List.map_cons, List.map_nil, List.length_cons, List.length_nil, Nat.sub_zero, Nat.reduceSub, Nat.reduceAdd, List.replicate_succ, List.replicate_zero, List.cons_append, List.nil_append, List.append_nil, List.getElem?_cons_zero, List.getElem?_cons_succ, Option.some.injEq, exists_eq_left', exists_eq_left, exists_eq_right, exists_eq_right', exists_and_left, exists_and_right, exists_eq, exists_eq', true_and, and_true, V.int.injEq, V.str.injEq, V.bl.injEq, V.ref.injEq, V.ty.injEq, HO.ins.injEq, HO.lst.injEq, HO.tup.injEq, and_assoc, List.cons.injEq, Bool.not_true, Bool.not_false, Bool.false_eq_true, if_false, if_true, cx_K, upd_same, upd_upd, isi_str, req_ii, req_ss, rne_ii, rne_ss, radd_ii, rsub_ii, atI_at, atI_0, atI_1, atI_2, atI_3, atI_4, rLenL, rLenU, rIxLL, rIxU, reduceCtorEq, gTup, gCons, gNil, tFmt_eq, fmtV_str, fmtV_int, tJs_nil, tJs_cons, jsV_str, iKeys_eq, gSub, rSetL, tPart, tNoPart, tSl, rSlL, false_and, exists_false, or_false, false_or, List.set_cons_zero, List.set_cons_succ, hp, C.cl, C.nF, eF_F]
    rcases hv with ⟨hv, hX'⟩ | ⟨x, hv, hX', hx⟩
    case' inl =>
      simp only [tSeq, tIfS, tOr, tAnd, tNot, tB, tTest, tCB, tCons, tNil, tVar, tC, tOp, tUn, tRet, tRetN, tDrop, tAsg, tPar, tPar3, tNext, tNever, tBreak, tCont, tAug, tChain, tAndV, tOrV, tNotV, tIf, tIsN, tNotN, tTup, tLst, tCallD, tMethD, tMakeD, tFld, tCon, sFld, sFldAug, tCallK, tSl, tPart, tNoPart, tBM, tBM0, tDGet, tDIn, tDNotIn, sDPut, tDNewK, tM0, tM1, tOrT, tAndT, tNotT, tAsg2, tAsg3, gName, rI0, rI, rU, tYes, L2.start, NdefX.startF, List.set_cons_zero, List.set_cons_succ, List.map_cons, List.map_nil, List.length_cons, List.length_nil, Nat.sub_zero, Nat.reduceSub, Nat.reduceAdd, List.replicate_succ, List.replicate_zero, List.cons_append, List.nil_append, List.append_nil, List.getElem?_cons_zero, List.getElem?_cons_succ, Option.some.injEq, exists_eq_left', exists_eq_left, exists_eq_right, exists_eq_right', exists_and_left, exists_and_right, exists_eq, exists_eq', true_and, and_true, V.int.injEq, V.str.injEq, V.bl.injEq, V.ref.injEq, V.ty.injEq, HO.ins.injEq, HO.lst.injEq, HO.tup.injEq, and_assoc, List.cons.injEq, Bool.not_true, Bool.not_false, Bool.false_eq_true, if_false, if_true, cx_K, upd_same, upd_upd, isi_str, req_ii, req_ss, rne_ii, rne_ss, radd_ii, rsub_ii, atI_at, atI_0, atI_1, atI_2, atI_3, atI_4, rLenL, rLenU, rIxLL, rIxU, reduceCtorEq, gTup, gCons, gNil, tFmt_eq, fmtV_str, fmtV_int, tJs_nil, tJs_cons, jsV_str, iKeys_eq, gSub, rSetL, tPart, tNoPart, tSl, rSlL, false_and, exists_false, or_false, false_or, List.set_cons_zero, List.set_cons_succ, hv, decide_true]
      refine ⟨sz_le (by decide), ?_⟩
      rw [← hX']
      clear hX' hv
    case' inr =>
      simp only [tSeq, tIfS, tOr, tAnd, tNot, tB, tTest, tCB, tCons, tNil, tVar, tC, tOp, tUn, tRet, tRetN, tDrop, tAsg, tPar, tPar3, tNext, tNever, tBreak, tCont, tAug, tChain, tAndV, tOrV, tNotV, tIf, tIsN, tNotN, tTup, tLst, tCallD, tMethD, tMakeD, tFld, tCon, sFld, sFldAug, tCallK, tSl, tPart, tNoPart, tBM, tBM0, tDGet, tDIn, tDNotIn, sDPut, tDNewK, tM0, tM1, tOrT, tAndT, tNotT, tAsg2, tAsg3, gName, rI0, rI, rU, tYes, L2.start, NdefX.startF, List.set_cons_zero, List.set_cons_succ, List.map_cons, List.map_nil, List.length_cons, List.length_nil, Nat.sub_zero, Nat.reduceSub, Nat.reduceAdd, List.replicate_succ, List.replicate_zero, List.cons_append, List.nil_append, List.append_nil, List.getElem?_cons_zero, List.getElem?_cons_succ, Option.some.injEq, exists_eq_left', exists_eq_left, exists_eq_right, exists_eq_right', exists_and_left, exists_and_right, exists_eq, exists_eq', true_and, and_true, V.int.injEq, V.str.injEq, V.bl.injEq, V.ref.injEq, V.ty.injEq, HO.ins.injEq, HO.lst.injEq, HO.tup.injEq, and_assoc, List.cons.injEq, Bool.not_true, Bool.not_false, Bool.false_eq_true, if_false, if_true, cx_K, upd_same, upd_upd, isi_str, req_ii, req_ss, rne_ii, rne_ss, radd_ii, rsub_ii, atI_at, atI_0, atI_1, atI_2, atI_3, atI_4, rLenL, rLenU, rIxLL, rIxU, reduceCtorEq, gTup, gCons, gNil, tFmt_eq, fmtV_str, fmtV_int, tJs_nil, tJs_cons, jsV_str, iKeys_eq, gSub, rSetL, tPart, tNoPart, tSl, rSlL, false_and, exists_false, or_false, false_or, List.set_cons_zero, List.set_cons_succ, hv, decide_false]
      refine ⟨sz_le (by rw [app_len, h7]; decide), sz_le (by omega), sz_le (by rw [app_len, app_len, h7, h0s]; omega), sz_le (by decide), ?_⟩
      rw [← hX']
      clear hX' hv
    all_goals (
      intro p1 h1
      have np : p ≠ p1 := ne_of_none hp h1
      have nc : c ≠ p1 := ne_of_none tab.atC h1
      have nl : l ≠ p1 := ne_of_none tab.atL h1
      have npc : p ≠ c := ne_of hp tab.atC (by intro z; cases z)
      have npl : p ≠ l := ne_of hp tab.atL (by intro z; cases z)
      have ncl := tab.ne
      refine ⟨tyV_lst upd_same, c, .dK (cK e.cells), by rw [upd_ne nc]; exact tab.atC, trivial, fun od => ?_⟩
      have s1 : Same H (upd H p1 (.lst [.str X])) := same_upd h1
      obtain ⟨A2, eA, k2, g_c, g_P⟩ : ∃ A2, upd (upd H p1 (.lst [.str X])) c (.frz od (.dK (cK e.cells))) = A2 ∧ (∀ b o, H b = some o → b ≠ c → A2 b = some o) ∧ A2 c = some (.frz od (.dK (cK e.cells))) ∧ A2 p1 = some (.lst [.str X]) :=
        ⟨_, rfl, fun b o q n => by rw [upd_ne n]; exact s1 b o q, upd_same, by rw [upd_ne nc.symm, upd_same]⟩
      have g_p := k2 _ _ hp npc
      rw [eA]
      refine tLc_grow walk_keys (hw_keys (d := c) (fun Q q => ⟨.ref p, rfl, p, CE, dx, _, .ref c, rfl, g_p, C.cl, C.nC, eF_C _ _ _ _, q⟩) g_c) (fun i => .str (cellS (e.cells.getD i ("", 0)))) ?_ (fun _ s => s _ _ g_c) (fun i x H1 H2 hi s y R hR => ?_) fun D H1 hD s eD => ?_
      · have := fit.n
        simp only [cK, List.length_map]
        omega
      · obtain ⟨rfl, k0, v, hk, rfl⟩ := y
        simp only [cK, List.length_map] at hi
        simp only [cK, List.getElem?_map, List.getElem?_eq_getElem hi, Option.map_some, Option.some.injEq, Prod.mk.injEq] at hk
        obtain ⟨rfl, rfl⟩ := hk
        have hm := List.getElem_mem hi
        obtain ⟨c1, c2, c3⟩ := fit.c _ hm
        have e1 := s _ _ g_p
        have e2 := s _ _ g_c
        simp only [tSeq, tIfS, tOr, tAnd, tNot, tB, tTest, tCB, tCons, tNil, tVar, tC, tOp, tUn, tRet, tRetN, tDrop, tAsg, tPar, tPar3, tNext, tNever, tBreak, tCont, tAug, tChain, tAndV, tOrV, tNotV, tIf, tIsN, tNotN, tTup, tLst, tCallD, tMethD, tMakeD, tFld, tCon, sFld, sFldAug, tCallK, tSl, tPart, tNoPart, tBM, tBM0, tDGet, tDIn, tDNotIn, sDPut, tDNewK, tM0, tM1, tOrT, tAndT, tNotT, tAsg2, tAsg3, gName, rI0, rI, rU, tYes, L2.start, NdefX.startF, List.set_cons_zero, List.set_cons_succ, List.map_cons, List.map_nil, List.length_cons, List.length_nil, Nat.sub_zero, Nat.reduceSub, Nat.reduceAdd, List.replicate_succ, List.replicate_zero, List.cons_append, List.nil_append, List.append_nil, List.getElem?_cons_zero, List.getElem?_cons_succ, Option.some.injEq, exists_eq_left', exists_eq_left, exists_eq_right, exists_eq_right', exists_and_left, exists_and_right, exists_eq, exists_eq', true_and, and_true, V.int.injEq, V.str.injEq, V.bl.injEq, V.ref.injEq, V.ty.injEq, HO.ins.injEq, HO.lst.injEq, HO.tup.injEq, and_assoc, List.cons.injEq, Bool.not_true, Bool.not_false, Bool.false_eq_true, if_false, if_true, cx_K, upd_same, upd_upd, isi_str, req_ii, req_ss, rne_ii, rne_ss, radd_ii, rsub_ii, atI_at, atI_0, atI_1, atI_2, atI_3, atI_4, rLenL, rLenU, rIxLL, rIxU, reduceCtorEq, gTup, gCons, gNil, tFmt_eq, fmtV_str, fmtV_int, tJs_nil, tJs_cons, jsV_str, iKeys_eq, gSub, rSetL, tPart, tNoPart, tSl, rSlL, false_and, exists_false, or_false, false_or, List.set_cons_zero, List.set_cons_succ, wipe, e1, C.cl, C.nC, eF_C, kV]
        have hlen := fig_len c2 c3
        have hR2 := hR _ (Same.refl _)
        rw [show e.cells.getD i (("" : Str), (0 : Int)) = e.cells[i] by rw [List.getD_eq_getElem?_getD, List.getElem?_eq_getElem hi, Option.getD_some]] at hR2
        refine ⟨sz_le (by omega), sz_le (by rw [app_len, h0s]; omega), sz_le (by rw [app_len, app_len, h0s, h1s]; omega), .int (e.cells[i]).2, .inl ⟨_, .inr (e.cells[i]).1, .inr ⟨od, e2⟩, rfl, (val_of (fun x => V.int x.2) e.cells _ hm fit.dc).symm⟩, ?_⟩
        simp only [tSeq, tIfS, tOr, tAnd, tNot, tB, tTest, tCB, tCons, tNil, tVar, tC, tOp, tUn, tRet, tRetN, tDrop, tAsg, tPar, tPar3, tNext, tNever, tBreak, tCont, tAug, tChain, tAndV, tOrV, tNotV, tIf, tIsN, tNotN, tTup, tLst, tCallD, tMethD, tMakeD, tFld, tCon, sFld, sFldAug, tCallK, tSl, tPart, tNoPart, tBM, tBM0, tDGet, tDIn, tDNotIn, sDPut, tDNewK, tM0, tM1, tOrT, tAndT, tNotT, tAsg2, tAsg3, gName, rI0, rI, rU, tYes, L2.start, NdefX.startF, List.set_cons_zero, List.set_cons_succ, List.map_cons, List.map_nil, List.length_cons, List.length_nil, Nat.sub_zero, Nat.reduceSub, Nat.reduceAdd, List.replicate_succ, List.replicate_zero, List.cons_append, List.nil_append, List.append_nil, List.getElem?_cons_zero, List.getElem?_cons_succ, Option.some.injEq, exists_eq_left', exists_eq_left, exists_eq_right, exists_eq_right', exists_and_left, exists_and_right, exists_eq, exists_eq', true_and, and_true, V.int.injEq, V.str.injEq, V.bl.injEq, V.ref.injEq, V.ty.injEq, HO.ins.injEq, HO.lst.injEq, HO.tup.injEq, and_assoc, List.cons.injEq, Bool.not_true, Bool.not_false, Bool.false_eq_true, if_false, if_true, cx_K, upd_same, upd_upd, isi_str, req_ii, req_ss, rne_ii, rne_ss, radd_ii, rsub_ii, atI_at, atI_0, atI_1, atI_2, atI_3, atI_4, rLenL, rLenU, rIxLL, rIxU, reduceCtorEq, gTup, gCons, gNil, tFmt_eq, fmtV_str, fmtV_int, tJs_nil, tJs_cons, jsV_str, iKeys_eq, gSub, rSetL, tPart, tNoPart, tSl, rSlL, false_and, exists_false, or_false, false_or, List.set_cons_zero, List.set_cons_succ]
        exact ⟨hlen.2, sz_le (by rw [app_len, app_len, app_len, h0s, h1s]; omega), hR2⟩
      · have e2 := s _ _ g_c
        have nDc : D ≠ c := fun z => by rw [z, g_c] at hD; cases hD
        have nDP : D ≠ p1 := fun z => by rw [z, g_P] at hD; cases hD
        have eD2 : H1 D = some (.lst (e.cells.map fun x => .str (cellS x))) := by
          rw [eD, ← range_get e.cells ("", 0) (fun x => .str (cellS x))]
          simp only [cK, List.length_map]
        refine ⟨e2, p1, D, [.str X], _, rfl, rfl, by rw [upd_ne nc.symm]; exact s _ _ g_P, by rw [upd_ne nDc]; exact eD2, ?_, ?_⟩
        · have := fit.n
          refine sz_le ?_
          simp only [List.length_map, List.length_cons, List.length_nil]; omega
        · have sB : Same H (upd (upd H1 c (.dK (cK e.cells))) p1 (.lst ([V.str X] ++ e.cells.map fun x => V.str (cellS x)))) := fun b o q => by
            rw [upd_ne (ne_of_none q h1)]
            by_cases hb : b = c
            · subst hb
              rw [upd_same, ← tab.atC, q]
            · rw [upd_ne hb]
              exact s _ _ (k2 b o q hb)
          have eB : upd (upd H1 c (.dK (cK e.cells))) p1 (.lst ([V.str X] ++ e.cells.map fun x => V.str (cellS x))) p1 = some (.lst ([V.str X] ++ e.cells.map fun x => V.str (cellS x))) := upd_same
          generalize upd (upd H1 c (.dK (cK e.cells))) p1 (.lst ([V.str X] ++ e.cells.map fun x => V.str (cellS x))) = B at sB eB ⊢
          refine ⟨l, .dK (lK ls), sB _ _ tab.atL, trivial, fun od2 => ?_⟩
          have k6 : ∀ b o, H b = some o → b ≠ l → upd B l (.frz od2 (.dK (lK ls))) b = some o := fun b o q n => by rw [upd_ne n]; exact sB b o q
          have g6 : upd B l (.frz od2 (.dK (lK ls))) l = some (.frz od2 (.dK (lK ls))) := upd_same
          have g6P : upd B l (.frz od2 (.dK (lK ls))) p1 = some (.lst ([V.str X] ++ e.cells.map fun x => V.str (cellS x))) := by rw [upd_ne nl.symm]; exact eB
          generalize hA6 : upd B l (.frz od2 (.dK (lK ls))) = A6 at k6 g6 g6P ⊢
          have g6p := k6 _ _ hp npl
          refine tFor_it walk_keys (hw_keys (d := l) (fun Q q => ⟨.ref p, rfl, p, CE, dx, _, .ref l, rfl, g6p, C.cl, C.nL, eF_L _ _ _ _, q⟩) g6)
            (fun i σ H' => (∃ u v, σ = [some (.ref p), some (.ref p1), u, v]) ∧ Keep [p1] A6 H' ∧ H' p1 = some (.lst ([V.str X] ++ (e.cells.map fun x => V.str (cellS x)) ++ ((lD ls).take i).map fun x => V.str (logS x))))
            ⟨⟨_, _, rfl⟩, Keep.of (S := [p1]) (Same.refl _), by rw [g6P]; simp⟩ (fun i σ H' _ q => q.2.1 _ _ g6 (by simpa using nl)) (fun i x σ H' H2 hi q y => ?_) fun σ H' q => ?_
          · obtain ⟨⟨u, v, rfl⟩, kq, eq⟩ := q
            obtain ⟨rfl, k0, v0, hk, rfl⟩ := y
            simp only [lK, List.length_map] at hi
            simp only [lK, List.getElem?_map, List.getElem?_eq_getElem hi, Option.map_some, Option.some.injEq, Prod.mk.injEq] at hk
            obtain ⟨rfl, rfl⟩ := hk
            have hm := List.getElem_mem hi
            have hm2 : ((ls[i]).1, (ls[i]).2.2) ∈ e.logs := by rw [← el]; exact List.mem_map_of_mem (f := fun x => (x.1, x.2.2)) hm
            obtain ⟨c1, c2⟩ := fit.l _ hm2
            replace c1 : (ls[i]).1.length ≤ 8 := c1
            have e1 := kq _ _ g6p (by simpa using np)
            have e2 := kq _ _ g6 (by simpa using nl)
            have ntl : (ls[i]).2.1 ≠ l := ne_of (tab.atT _ hm) tab.atL (by intro z; cases z)
            have ntP : (ls[i]).2.1 ≠ p1 := ne_of_none (tab.atT _ hm) h1
            have e3 := kq _ _ (k6 _ _ (tab.atT _ hm) ntl) (by simpa using ntP)
            have hn : (ls[i]).2.2.length ≤ 100000 := by
              have := fit.n
              have h2 : (ls[i]).2.2.length + 1 ≤ (e.logs.map fun x => x.2.length + 1).sum := by
                rw [← el]
                exact le_sum (fun x : Str × List Str => x.2.length + 1) _ _ (List.mem_map_of_mem (f := fun x : Str × Addr × List Str => (x.1, x.2.2)) hm)
              omega
            have hs : ((ls[i]).2.2.map (·.length)).sum ≤ (ls[i]).2.2.length * 8 := sum_le _ _ _ c2
            have hj := join_len " " (ls[i]).2.2
            have nd : (ls.map (·.1)).Nodup := by rw [← lD_fst, el]; exact fit.dl
            simp only [tSeq, tIfS, tOr, tAnd, tNot, tB, tTest, tCB, tCons, tNil, tVar, tC, tOp, tUn, tRet, tRetN, tDrop, tAsg, tPar, tPar3, tNext, tNever, tBreak, tCont, tAug, tChain, tAndV, tOrV, tNotV, tIf, tIsN, tNotN, tTup, tLst, tCallD, tMethD, tMakeD, tFld, tCon, sFld, sFldAug, tCallK, tSl, tPart, tNoPart, tBM, tBM0, tDGet, tDIn, tDNotIn, sDPut, tDNewK, tM0, tM1, tOrT, tAndT, tNotT, tAsg2, tAsg3, gName, rI0, rI, rU, tYes, L2.start, NdefX.startF, List.set_cons_zero, List.set_cons_succ, List.map_cons, List.map_nil, List.length_cons, List.length_nil, Nat.sub_zero, Nat.reduceSub, Nat.reduceAdd, List.replicate_succ, List.replicate_zero, List.cons_append, List.nil_append, List.append_nil, List.getElem?_cons_zero, List.getElem?_cons_succ, Option.some.injEq, exists_eq_left', exists_eq_left, exists_eq_right, exists_eq_right', exists_and_left, exists_and_right, exists_eq, exists_eq', true_and, and_true, V.int.injEq, V.str.injEq, V.bl.injEq, V.ref.injEq, V.ty.injEq, HO.ins.injEq, HO.lst.injEq, HO.tup.injEq, and_assoc, List.cons.injEq, Bool.not_true, Bool.not_false, Bool.false_eq_true, if_false, if_true, cx_K, upd_same, upd_upd, isi_str, req_ii, req_ss, rne_ii, rne_ss, radd_ii, rsub_ii, atI_at, atI_0, atI_1, atI_2, atI_3, atI_4, rLenL, rLenU, rIxLL, rIxU, reduceCtorEq, gTup, gCons, gNil, tFmt_eq, fmtV_str, fmtV_int, tJs_nil, tJs_cons, jsV_str, iKeys_eq, gSub, rSetL, tPart, tNoPart, tSl, rSlL, false_and, exists_false, or_false, false_or, List.set_cons_zero, List.set_cons_succ, wipe, e1, C.cl, C.nL, eF_L, kV]
            refine ⟨.ref (ls[i]).2.1, .inl ⟨_, .inr (ls[i]).1, .inr ⟨od2, e2⟩, rfl, (val_of (fun x => V.ref x.2.1) ls _ hm nd).symm⟩, (ls[i]).2.1, rfl, (ls[i]).2.2, .inr (SqT.of e3), by rw [h1s]; omega, tyV_lst eq, ?_⟩
            have hLn : ([V.str X] ++ (e.cells.map fun x => V.str (cellS x)) ++ ((lD ls).take i).map fun x => V.str (logS x)).length < sizeLine := by
              have := fit.n
              have := nd_len (f := fun x : Str × List Str => x.2.length) e.logs
              refine sz_lt ?_
              simp only [List.length_append, List.length_map, List.length_cons, List.length_nil, List.length_take, el]
              omega
            have fin : ∀ Y : Str, Y = logS ((ls[i]).1, (ls[i]).2.2) → rAppend (.ref p1) [.str Y] H2 fun _ H1 => Keep [p1] A6 H1 ∧ H1 p1 = some (.lst (V.str X :: ((e.cells.map fun x => V.str (cellS x)) ++ ((lD ls).take (i + 1)).map fun x => V.str (logS x)))) := fun Y hY => by
              refine ⟨p1, _, .str Y, rfl, rfl, eq, hLn, fun b o q n => ?_, ?_⟩
              · rw [upd_ne (by simpa using n)]; exact kq b o q n
              · rw [upd_same, List.take_succ, hY]
                have hi2 : (lD ls)[i]? = some ((ls[i]).1, (ls[i]).2.2) := by unfold lD; rw [List.getElem?_map, List.getElem?_eq_getElem hi]; rfl
                rw [hi2]
                simp
            refine ite2 (fun z => ?_) fun z => ?_
            · exact ⟨sz_le (by omega), sz_le (by rw [app_len, h0s]; omega), sz_le (by rw [app_len, app_len, h0s, h2s]; omega), fin _ (by unfold logS; rw [if_pos (of_decide_eq_true z)])⟩
            · have hz : ¬ Txt.join " " (ls[i]).2.2 = "" := fun q => by rw [decide_eq_true q] at z; exact z rfl
              rw [h1s] at hj
              exact ⟨sz_le (by omega), sz_le (by rw [app_len, h0s]; omega), sz_le (by rw [app_len, app_len, h0s, h1s]; omega), sz_le (by omega), sz_le (by rw [app_len, app_len, app_len, h0s, h1s]; omega), fin _ (by unfold logS; rw [if_neg hz])⟩
          · obtain ⟨⟨u, v, rfl⟩, kq, eq⟩ := q
            have e2 := kq _ _ g6 (by simpa using nl)
            refine ⟨e2, ?_⟩
            have eq2 : upd H' l (.dK (lK ls)) p1 = some (.lst (([headS e.failed] ++ e.cells.map cellS ++ e.logs.map logS).map V.str)) := by
              rw [upd_ne nl.symm, eq]
              have : (lK ls).length = (lD ls).length := by simp [lK, lD]
              rw [this, List.take_length, el, hX]
              simp
              rfl
            have sE : Same H (upd H' l (.dK (lK ls))) := fun b o q => by
              by_cases hb : b = l
              · subst hb
                rw [upd_same, ← tab.atL, q]
              · rw [upd_ne hb]
                exact kq _ _ (k6 b o q hb) (by simpa using ne_of_none q h1)
            have hk := k _ sE
            simp only [tSeq, tIfS, tOr, tAnd, tNot, tB, tTest, tCB, tCons, tNil, tVar, tC, tOp, tUn, tRet, tRetN, tDrop, tAsg, tPar, tPar3, tNext, tNever, tBreak, tCont, tAug, tChain, tAndV, tOrV, tNotV, tIf, tIsN, tNotN, tTup, tLst, tCallD, tMethD, tMakeD, tFld, tCon, sFld, sFldAug, tCallK, tSl, tPart, tNoPart, tBM, tBM0, tDGet, tDIn, tDNotIn, sDPut, tDNewK, tM0, tM1, tOrT, tAndT, tNotT, tAsg2, tAsg3, gName, rI0, rI, rU, tYes, L2.start, NdefX.startF, List.set_cons_zero, List.set_cons_succ, List.map_cons, List.map_nil, List.length_cons, List.length_nil, Nat.sub_zero, Nat.reduceSub, Nat.reduceAdd, List.replicate_succ, List.replicate_zero, List.cons_append, List.nil_append, List.append_nil, List.getElem?_cons_zero, List.getElem?_cons_succ, Option.some.injEq, exists_eq_left', exists_eq_left, exists_eq_right, exists_eq_right', exists_and_left, exists_and_right, exists_eq, exists_eq', true_and, and_true, V.int.injEq, V.str.injEq, V.bl.injEq, V.ref.injEq, V.ty.injEq, HO.ins.injEq, HO.lst.injEq, HO.tup.injEq, and_assoc, List.cons.injEq, Bool.not_true, Bool.not_false, Bool.false_eq_true, if_false, if_true, cx_K, upd_same, upd_upd, isi_str, req_ii, req_ss, rne_ii, rne_ss, radd_ii, rsub_ii, atI_at, atI_0, atI_1, atI_2, atI_3, atI_4, rLenL, rLenU, rIxLL, rIxU, reduceCtorEq, gTup, gCons, gNil, tFmt_eq, fmtV_str, fmtV_int, tJs_nil, tJs_cons, jsV_str, iKeys_eq, gSub, rSetL, tPart, tNoPart, tSl, rSlL, false_and, exists_false, or_false, false_or, List.set_cons_zero, List.set_cons_succ]
            exact ⟨[headS e.failed] ++ e.cells.map cellS ++ e.logs.map logS, .inl (SqL.of eq2), by have := (parts_len fit).1; rw [show (" ; " : Str).length = 3 by decide +kernel]; omega, hk⟩)
end
end Ky

set_option Elab.async false
set_option maxRecDepth 100000
set_option maxHeartbeats 4000000
set_option linter.all false
namespace Ky
open PySem L2 Ly
abbrev EndsAt (CE : Addr) (H : Hp) (ps : List Addr) (es : List EndD) : Prop := Paired (EndAt CE H) ps es
theorem EndsAt.same {CE : Addr} {H H' : Hp} (s : Same H H') : ∀ {ps : List Addr} {es : List EndD}, EndsAt CE H ps es → EndsAt CE H' ps es
  | _, _, .nil => .nil
  | _, _, .cons a r => .cons (a.same s) (EndsAt.same s r)
theorem EndsAt.get {CE : Addr} {H : Hp} : ∀ {ps : List Addr} {es : List EndD}, EndsAt CE H ps es → ps.length = es.length ∧ ∀ i (h : i < es.length) (h2 : i < ps.length), EndAt CE H ps[i] es[i]
  | _, _, .nil => ⟨rfl, fun i h => absurd h (Nat.not_lt_zero _)⟩
  | _, _, .cons a r => ⟨congrArg (· + 1) (EndsAt.get r).1, fun i h h2 => match i with
    | 0 => a
    | i + 1 => (EndsAt.get r).2 i (Nat.lt_of_succ_lt_succ h) (Nat.lt_of_succ_lt_succ h2)⟩
def spEnds (CE : Addr) : Sp := fun vs H Q _ => ∃ (t : Addr) (ps : List Addr) (es : List EndD), vs = [.ref t] ∧ H t = some (.tup (ps.map V.ref)) ∧ EndsAt CE H ps es ∧ (∀ e ∈ es, FitE e) ∧ es.length ≤ 200000 ∧ (es.map fun e => (endText e).length).sum + es.length * 3 ≤ 16000000 ∧ ∀ H', Same H H' → Q (.str (endsText es)) H'
section
variable {w : World} {K : PySem.W.Frag} {mg : Str → Option Value} {base : Heap} {aK aF CB CP CE : Addr}
abbrev s_ends_text : Stmt := top 16
theorem sc_ends_text : FnScope ["ends", "end"] ["ends"] (defScope s_ends_text) := ⟨rfl, rfl, rfl, by decide +kernel, rfl, by decide +kernel, by decide +kernel⟩
theorem ok_ends {f : Addr} {fd : FuncData} (F : Fun K "ends_text" "ends_text" s_ends_text f fd) (T : Tx K mg aK aF) (S_End : DsC PP w K mg base 1 CE ["self"] (spStr CE)) : FnOk PP w K mg base (L2.CX PP w) 4 f fd ["ends"] (spEnds CE) := by
  refine F.okX sc_ends_text (fun vs H Q E h => ?_) (fun cdv A outer s H vs Q E hr h => ?_)
  · obtain ⟨t, ps, es, rfl, _⟩ := h; rfl
  · obtain ⟨t, ps, es, rfl, ht, at_, fit, hn, hsum, k⟩ := h
    obtain ⟨hl, hat⟩ := at_.get
    refine ⟨_, (pss_one (ps_ret (pe_ifExp (pt_cmpR op_gt (pe_callB call_lenU (by rfl) T.len (by decide +kernel) (pa_cons (pv 0) pa_nil)) pe_int (nomark _)) (pe_join pe_str (pe_lc (own := [("end", 1)]) (g := gName 1) (tt := tYes) rfl sc_ends_text.nd (pi_tup (pv 0)) (blkOk_by (N := ["ends", "end"]) (sc := defScope s_ends_text) (by decide +kernel)) (fun _ _ _ _ _ => pg_name (i := 1) sc_ends_text.nd rfl (Or.inl rfl)) (fun _ _ _ _ _ => pts_nil) (fun _ _ _ _ _ => (pe_callTy (call_strO S_End (hr.mono (by decide))) (by rfl) T.str (by decide +kernel) (pa_cons (pv 1) pa_nil))))) pe_str))), ?_⟩
    simp only [tSeq, tIfS, tOr, tAnd, tNot, tB, tTest, tCB, tCons, tNil, tVar, tC, tOp, tUn, tRet, tRetN, tDrop, tAsg, tPar, tPar3, tNext, tNever, tBreak, tCont, tAug, tChain, tAndV, tOrV, tNotV, tIf, tIsN, tNotN, tTup, tLst, tCallD, tMethD, tMakeD, tFld, tCon, sFld, sFldAug, tCallK, tSl, tPart, tNoPart, tBM, tBM0, tDGet, tDIn, tDNotIn, sDPut, tDNewK, tM0, tM1, tOrT, tAndT, tNotT, tAsg2, tAsg3, gName, rI0, rI, rU, tYes, L2.start, NdefX.startF, List.set_cons_zero, List.set_cons_succ, List.map_cons, List.map_nil, List.length_cons, List.length_nil, Nat.sub_zero, Nat.reduceSub, Nat.reduceAdd, List.replicate_succ, List.replicate_zero, List.cons_append, List.nil_append, List.append_nil, List.getElem?_cons_zero, List.getElem?_cons_succ, Option.some.injEq, exists_eq_left', exists_eq_left, exists_eq_right, exists_eq_right', exists_and_left, exists_and_right, exists_eq, exists_eq', true_and, and_true, V.int.injEq, V.str.injEq, V.bl.injEq, V.ref.injEq, V.ty.injEq, HO.ins.injEq, HO.lst.injEq, HO.tup.injEq, and_assoc, List.cons.injEq, Bool.not_true, Bool.not_false, Bool.false_eq_true, if_false, if_true, cx_K, upd_same, upd_upd, isi_str, req_ii, req_ss, rne_ii, rne_ss, radd_ii, rsub_ii, atI_at, atI_0, atI_1, atI_2, atI_3, atI_4, rLenL, rLenU, rIxLL, rIxU, reduceCtorEq, gTup, gCons, gNil, tFmt_eq, fmtV_str, fmtV_int, tJs_nil, tJs_cons, jsV_str, iKeys_eq, gSub, rSetL, tPart, tNoPart, tSl, rSlL, false_and, exists_false, or_false, false_or, List.set_cons_zero, List.set_cons_succ, ht, List.length_map]
    refine ite2 (fun z => ?_) fun z => ?_
    · have hpos : ¬ es.length = 0 := by
        have := of_decide_eq_true z
        omega
      refine tLc_grow (walk_tup (xs := ps.map V.ref)) (hw_tup (fun Q q => ⟨.ref t, rfl, q⟩) ht) (fun i => .str (endText (es.getD i ⟨none, [], []⟩))) ?_ (fun _ s => SqT.of (s _ _ ht)) (fun i x H1 H2 hi s y R hR => ?_) fun D H1 hD s eD => ?_
      · simp only [List.length_map]; omega
      · obtain ⟨rfl, hx⟩ := y
        simp only [List.length_map] at hi
        simp only [List.getElem?_map, List.getElem?_eq_getElem hi, Option.map_some, Option.some.injEq] at hx
        subst hx
        have a := (hat i (by omega) hi).same s
        have fi := fit _ (List.getElem_mem (h := (by omega : i < es.length)))
        have hg : es.getD i ⟨none, [], []⟩ = es[i]'(by omega) := by rw [List.getD_eq_getElem?_getD, List.getElem?_eq_getElem (by omega), Option.getD_some]
        rw [hg] at hR
        obtain ⟨dx, _, _, _, _, hp, _⟩ := a.ex
        simp only [tSeq, tIfS, tOr, tAnd, tNot, tB, tTest, tCB, tCons, tNil, tVar, tC, tOp, tUn, tRet, tRetN, tDrop, tAsg, tPar, tPar3, tNext, tNever, tBreak, tCont, tAug, tChain, tAndV, tOrV, tNotV, tIf, tIsN, tNotN, tTup, tLst, tCallD, tMethD, tMakeD, tFld, tCon, sFld, sFldAug, tCallK, tSl, tPart, tNoPart, tBM, tBM0, tDGet, tDIn, tDNotIn, sDPut, tDNewK, tM0, tM1, tOrT, tAndT, tNotT, tAsg2, tAsg3, gName, rI0, rI, rU, tYes, L2.start, NdefX.startF, List.set_cons_zero, List.set_cons_succ, List.map_cons, List.map_nil, List.length_cons, List.length_nil, Nat.sub_zero, Nat.reduceSub, Nat.reduceAdd, List.replicate_succ, List.replicate_zero, List.cons_append, List.nil_append, List.append_nil, List.getElem?_cons_zero, List.getElem?_cons_succ, Option.some.injEq, exists_eq_left', exists_eq_left, exists_eq_right, exists_eq_right', exists_and_left, exists_and_right, exists_eq, exists_eq', true_and, and_true, V.int.injEq, V.str.injEq, V.bl.injEq, V.ref.injEq, V.ty.injEq, HO.ins.injEq, HO.lst.injEq, HO.tup.injEq, and_assoc, List.cons.injEq, Bool.not_true, Bool.not_false, Bool.false_eq_true, if_false, if_true, cx_K, upd_same, upd_upd, isi_str, req_ii, req_ss, rne_ii, rne_ss, radd_ii, rsub_ii, atI_at, atI_0, atI_1, atI_2, atI_3, atI_4, rLenL, rLenU, rIxLL, rIxU, reduceCtorEq, gTup, gCons, gNil, tFmt_eq, fmtV_str, fmtV_int, tJs_nil, tJs_cons, jsV_str, iKeys_eq, gSub, rSetL, tPart, tNoPart, tSl, rSlL, false_and, exists_false, or_false, false_or, List.set_cons_zero, List.set_cons_succ, wipe]
        exact ⟨ps[i], dx, _, rfl, hp, ps[i], _, rfl, a, fi, fun H' s' => ⟨⟨_, rfl⟩, hR _ s'⟩⟩
      · have eD2 : H1 D = some (.lst ((es.map endText).map V.str)) := by
          rw [eD, List.length_map, hl, range_get es _ (fun e => .str (endText e)), List.map_map]
          rfl
        refine ⟨D, rfl, es.map endText, .inl (SqL.of eD2), ?_, ?_⟩
        · rw [List.map_map, List.length_map, show (" / " : Str).length = 3 by decide +kernel]
          have : (es.map ((fun x : Str => x.length) ∘ endText)).sum = (es.map fun e => (endText e).length).sum := rfl
          omega
        · have := k H1 s
          unfold endsText at this
          rwa [if_neg hpos] at this
    · have hpos : es.length = 0 := by
        have : ¬ (ps.length : Int) > 0 := by simpa using z
        omega
      have := k H (Same.refl H)
      unfold endsText at this
      rwa [if_pos hpos] at this
end
end Ky

set_option Elab.async false
set_option maxRecDepth 100000
set_option maxHeartbeats 4000000
set_option linter.all false
/-! the reader of ends, in plain Lean -/
namespace Ky
open PySem L2 Ly
def ltS (a b : Str) : Bool := decide (a.cps.toList < b.cps.toList)
abbrev CsL := List (Str × Int)
abbrev LsL := List (Str × List Str)
def wAt (ws : List Str) (i : Nat) : Str := (ws[i]?).getD ""
def isCM (cs : CsL) (ls : LsL) (name : Str) : Bool := decide (ls.length = 0) && ltS (lastS (cs.map (·.1))) name
def isLM (cs : CsL) (ls : LsL) (name : Str) : Bool := ltS (lastS (ls.map (·.1))) name && !decide (name ∈ cs.map (·.1))
def saidM (ws : List Str) (i : Nat) : List Str := (ws.drop i).takeWhile isWordM
def thingM (ws : List Str) (i : Nat) (cs : CsL) (ls : LsL) : Nat ⊕ (Nat × CsL × LsL) :=
  if !isCM cs ls (wAt ws i) && !isLM cs ls (wAt ws i) then .inl i
  else if isNameM (wAt ws i) = false then .inl i
  else if isCM cs ls (wAt ws i) && decide (wAt ws (i + 1) ∈ figL) then .inr (i + 2, cs ++ [(wAt ws i, figV (wAt ws (i + 1)))], ls)
  else if isLM cs ls (wAt ws i) && decide (wAt ws (i + 1) = "-") then .inr (i + 2, cs, ls ++ [(wAt ws i, [])])
  else if isLM cs ls (wAt ws i) then
    (if isWordM (wAt ws (i + 1)) then .inr (i + 1 + (saidM ws (i + 1)).length, cs, ls ++ [(wAt ws i, saidM ws (i + 1))]) else .inl (i + 1))
  else .inl (i + 1)
def loopM (ws : List Str) (f : Option Str) : Nat → Nat → CsL → LsL → Nat ⊕ (Nat × EndD)
  | 0, i, cs, ls => .inr (i, ⟨f, cs, ls⟩)
  | n + 1, i, cs, ls => if ws[i]? = some (";" : Str) then (match thingM ws (i + 1) cs ls with
      | .inl k => .inl k
      | .inr (j, cs', ls') => loopM ws f n j cs' ls') else .inr (i, ⟨f, cs, ls⟩)
def endM (ws : List Str) (i : Nat) : Nat ⊕ (Nat × EndD) :=
  if wAt ws i = "done" then loopM ws none (ws.length + 1) (i + 1) [] []
  else if wAt ws i = "failed" then (if isNameM (wAt ws (i + 1)) then loopM ws (some (wAt ws (i + 1))) (ws.length + 1) (i + 2) [] [] else .inl (i + 1))
  else .inl i
def loopE (ws : List Str) : Nat → Nat → List EndD → Nat ⊕ List EndD
  | 0, i, es => .inr es
  | n + 1, i, es => if ws[i]? = some ("/" : Str) then (match endM ws (i + 1) with
      | .inl k => .inl k
      | .inr (j, e) => loopE ws n j (es ++ [e])) else if i < ws.length then .inl i else .inr es
def endsM (ws : List Str) : Nat ⊕ List EndD :=
  if ws[0]? = some ("-" : Str) then (if 1 < ws.length then .inl 1 else .inr [])
  else match endM ws 0 with
    | .inl k => .inl k
    | .inr (j, e) => loopE ws (ws.length + 1) j [e]
abbrev UpS (ns : List Str) : Prop := ns.Pairwise fun a b => a.cps.toList < b.cps.toList
structure TabOk (i : Nat) (cs : CsL) (ls : LsL) : Prop where
  pc : UpS (cs.map (·.1))
  pl : UpS (ls.map (·.1))
  nc : ∀ x ∈ cs, isNameM x.1 = true ∧ 0 ≤ x.2 ∧ x.2 ≤ 3
  nl : ∀ x ∈ ls, isNameM x.1 = true ∧ ∀ y ∈ x.2, isWordM y = true
  n : cs.length + (ls.map fun x => x.2.length + 1).sum ≤ i
theorem TabOk.nil (i : Nat) : TabOk i [] [] := ⟨.nil, .nil, (fun _ h => nomatch h), (fun _ h => nomatch h), Nat.zero_le _⟩
theorem last_snoc (ns : List Str) (a : Str) : lastS (ns ++ [a]) = a := by unfold lastS; simp
theorem up_last {ns : List Str} (h : UpS ns) {a : Str} (ha : a ∈ ns) : a = lastS ns ∨ a.cps.toList < (lastS ns).cps.toList := by
  rcases List.eq_nil_or_concat ns with rfl | ⟨r, b, rfl⟩
  · cases ha
  · rw [List.concat_eq_append] at h ha ⊢
    rw [last_snoc]
    rcases List.mem_append.mp ha with h1 | h1
    · exact .inr ((List.pairwise_append.mp h).2.2 a h1 b (.head _))
    · exact .inl (List.mem_singleton.mp h1)
theorem up_new {ns : List Str} (h : UpS ns) {a : Str} (l : ltS (lastS ns) a = true) : a ∉ ns ∧ UpS (ns ++ [a]) := by
  have l := of_decide_eq_true l
  refine ⟨fun z => ?_, List.pairwise_append.mpr ⟨h, List.pairwise_singleton _ _, fun b hb c hc => ?_⟩⟩
  · rcases up_last h z with e | e
    · rw [← e] at l
      exact List.lt_irrefl _ l
    · exact List.lt_irrefl _ (List.lt_trans e l)
  · rw [List.mem_singleton.mp hc]
    rcases up_last h hb with e | e
    · rw [e]; exact l
    · exact List.lt_trans e l
theorem up_nodup {ns : List Str} (h : UpS ns) : ns.Nodup := h.imp fun {a b} l e => by rw [e] at l; exact List.lt_irrefl _ l
theorem word_len {x : Str} (h : isWordM x = true) : 1 ≤ x.length ∧ x.length ≤ 8 := by
  unfold isWordM at h
  simp only [Bool.and_eq_true, decide_eq_true_eq] at h
  exact h.1
theorem name_word {x : Str} (h : isNameM x = true) : isWordM x = true := by
  unfold isNameM at h
  simp only [Bool.and_eq_true] at h
  exact h.1
theorem TabOk.fit {i : Nat} {cs : CsL} {ls : LsL} (T : TabOk i cs ls) (hi : i ≤ 100000) {f : Option Str} (hf : ∀ x, f = some x → isNameM x = true) : FitE ⟨f, cs, ls⟩ :=
  ⟨fun x h => (word_len (name_word (hf x h))).2, fun x h => ⟨(word_len (name_word (T.nc x h).1)).2, (T.nc x h).2⟩, fun x h => ⟨(word_len (name_word (T.nl x h).1)).2, fun y hy => (word_len ((T.nl x h).2 y hy)).2⟩,
    up_nodup T.pc, up_nodup T.pl, Nat.le_trans T.n hi⟩
theorem figV_ok (x : Str) : 0 ≤ figV x ∧ figV x ≤ 3 := by unfold figV; split; · decide
                                                          · split; · decide
                                                            · split <;> decide
theorem TabOk.cell {i j : Nat} {cs : CsL} {ls : LsL} (T : TabOk i cs ls) {a : Str} {x : Int} (hx : 0 ≤ x ∧ x ≤ 3) (hn : isNameM a = true) (hl : ltS (lastS (cs.map (·.1))) a = true) (hj : i + 1 ≤ j) : TabOk j (cs ++ [(a, x)]) ls := by
  refine ⟨by rw [List.map_append]; exact (up_new T.pc hl).2, T.pl, fun y hy => ?_, T.nl, ?_⟩
  · rcases List.mem_append.mp hy with h | h
    · exact T.nc y h
    · rw [List.mem_singleton.mp h]; exact ⟨hn, hx⟩
  · have := T.n
    rw [List.length_append, List.length_singleton]
    omega
theorem TabOk.log {i j : Nat} {cs : CsL} {ls : LsL} (T : TabOk i cs ls) {a : Str} {ws : List Str} (hw : ∀ y ∈ ws, isWordM y = true) (hn : isNameM a = true) (hl : ltS (lastS (ls.map (·.1))) a = true) (hj : i + 1 + ws.length ≤ j) : TabOk j cs (ls ++ [(a, ws)]) := by
  refine ⟨T.pc, by rw [List.map_append]; exact (up_new T.pl hl).2, T.nc, fun y hy => ?_, ?_⟩
  · rcases List.mem_append.mp hy with h | h
    · exact T.nl y h
    · rw [List.mem_singleton.mp h]; exact ⟨hn, hw⟩
  · have := T.n
    rw [List.map_append, List.sum_append, List.map_singleton, List.sum_singleton]
    show cs.length + ((ls.map fun x => x.2.length + 1).sum + (ws.length + 1)) ≤ j
    omega
theorem tw_all {α : Type} (p : α → Bool) : ∀ (l : List α) (y : α), y ∈ l.takeWhile p → p y = true
  | a :: r, y, h => by
    rw [List.takeWhile_cons] at h
    split at h
    · rename_i ha
      rcases List.mem_cons.mp h with rfl | h
      · exact ha
      · exact tw_all p r y h
    · cases h
theorem said_all (ws : List Str) (i : Nat) : ∀ y ∈ saidM ws i, isWordM y = true := fun y hy => by
  unfold saidM at hy
  exact tw_all _ _ _ hy
theorem said_pos {ws : List Str} {i : Nat} (h : isWordM (wAt ws i) = true) : 1 ≤ (saidM ws i).length ∧ i < ws.length := by
  unfold wAt at h
  cases e : ws[i]? with
  | none => rw [e] at h; exact absurd (word_len h).1 (by decide)
  | some x =>
    obtain ⟨hi, ex⟩ := List.getElem?_eq_some_iff.mp e
    rw [e] at h
    replace h : isWordM x = true := h
    refine ⟨?_, hi⟩
    unfold saidM
    rw [List.drop_eq_getElem_cons hi, ex, List.takeWhile_cons_of_pos h]
    simp
theorem said_le (ws : List Str) (i : Nat) : i + (saidM ws i).length ≤ max i ws.length := by
  have : (saidM ws i).length ≤ (ws.drop i).length := (List.takeWhile_sublist _).length_le
  rw [List.length_drop] at this
  omega
theorem tw_step {α : Type} (p : α → Bool) : ∀ (l : List α) (k : Nat), k ≤ (l.takeWhile p).length → (k < (l.takeWhile p).length → ∃ x, l[k]? = some x ∧ p x = true ∧ (l.takeWhile p)[k]? = some x) ∧ ∀ x, l[k]? = some x → p x = true → k < (l.takeWhile p).length
  | [], k, h => ⟨fun z => absurd z (Nat.not_lt_zero _), fun x e => by simp at e⟩
  | a :: r, k, h => by
    cases ha : p a with
    | false =>
      rw [List.takeWhile_cons_of_neg (by simp [ha])] at h ⊢
      refine ⟨fun z => absurd z (Nat.not_lt_zero _), fun x e hx => ?_⟩
      have : k = 0 := Nat.le_zero.mp h
      subst this
      simp at e
      subst e
      rw [ha] at hx
      cases hx
    | true =>
      rw [List.takeWhile_cons_of_pos ha] at h ⊢
      match k with
      | 0 => exact ⟨fun _ => ⟨a, rfl, ha, rfl⟩, fun _ _ _ => by simp⟩
      | k + 1 =>
        have ih := tw_step p r k (by simpa using h)
        simp only [List.length_cons, List.getElem?_cons_succ] at h ⊢
        exact ⟨fun z => ih.1 (by omega), fun x e hx => by have := ih.2 x e hx; omega⟩
theorem said_step {ws : List Str} {a k : Nat} (h : k ≤ (saidM ws a).length) : (k < (saidM ws a).length → ∃ x, ws[a + k]? = some x ∧ isWordM x = true ∧ (saidM ws a)[k]? = some x) ∧ ∀ x, ws[a + k]? = some x → isWordM x = true → k < (saidM ws a).length := by
  have := tw_step isWordM (ws.drop a) k h
  rw [List.getElem?_drop] at this
  exact this
theorem TabOk.thing {ws : List Str} {i j : Nat} {cs cs' : CsL} {ls ls' : LsL} (T : TabOk i cs ls) (h : thingM ws i cs ls = .inr (j, cs', ls')) : TabOk j cs' ls' ∧ i + 2 ≤ j ∧ j ≤ ws.length := by
  unfold thingM at h
  split at h
  · cases h
  · rename_i h1
    split at h
    · cases h
    · rename_i hn
      have hn : isNameM (wAt ws i) = true := by simpa using hn
      have hlt : ∀ k x, ws[k]? = some x → k < ws.length := fun k x e => (List.getElem?_eq_some_iff.mp e).1
      split at h
      · rename_i hc
        simp only [Bool.and_eq_true, isCM, decide_eq_true_eq] at hc
        cases h
        refine ⟨T.cell (figV_ok _) hn hc.1.2 (by omega), by omega, ?_⟩
        unfold wAt at hc
        cases e : ws[i + 1]? with
        | none => rw [e] at hc; exact absurd hc.2 (by decide +kernel)
        | some x => exact hlt _ _ e
      · split at h
        · rename_i hc
          simp only [Bool.and_eq_true, isLM, decide_eq_true_eq] at hc
          cases h
          refine ⟨T.log (fun _ z => nomatch z) hn hc.1.1 (by simp only [List.length_nil]; omega), by omega, ?_⟩
          unfold wAt at hc
          cases e : ws[i + 1]? with
          | none => rw [e] at hc; exact absurd hc.2 (by decide +kernel)
          | some x => exact hlt _ _ e
        · split at h
          · rename_i hl
            split at h
            · rename_i hw
              cases h
              simp only [isLM, Bool.and_eq_true] at hl
              have hp := said_pos hw
              have hle := said_le ws (i + 1)
              exact ⟨T.log (said_all _ _) hn hl.1 (by omega), by omega, by omega⟩
            · cases h
          · cases h
end Ky

set_option Elab.async false
set_option maxRecDepth 100000
set_option maxHeartbeats 4000000
set_option linter.all false
namespace Ky
open PySem L2 Ly
theorem name_at {ws : List Str} {i : Nat} {R : V → Prop} (h : R (.str (wAt ws i))) : if decide ((i : Int) < (ws.length : Int)) = true then ∃ v, (ws.map V.str)[i]? = some v ∧ R v else R (.str "") := by
  refine ite2 (fun z => ?_) fun z => ?_
  · have hi : i < ws.length := by have := of_decide_eq_true z; omega
    refine ⟨.str ws[i], by rw [List.getElem?_map, List.getElem?_eq_getElem hi]; rfl, ?_⟩
    have e : wAt ws i = ws[i] := by unfold wAt; rw [List.getElem?_eq_getElem hi]; rfl
    rwa [e] at h
  · have hi : ¬ i < ws.length := by have : ¬ (i : Int) < (ws.length : Int) := by simpa using z
                                    omega
    have e : wAt ws i = "" := by unfold wAt; rw [List.getElem?_eq_none (by omega)]; rfl
    rwa [e] at h
theorem andV {ta tb : TE} {σ : L2.St} {H : Hp} {Q : VK} {a b : Bool} (ha : ∀ Q : VK, (∀ H', Same H H' → Q (.bl a) H') → ta σ H Q) (hb : ∀ H1, Same H H1 → ∀ Q : VK, (∀ H', Same H1 H' → Q (.bl b) H') → tb σ H1 Q) (k : ∀ H', Same H H' → Q (.bl (a && b)) H') : tAndV ta tb σ H Q := by
  refine ha _ fun H1 s1 => ⟨a, rfl, ?_⟩
  cases a with
  | true => exact hb H1 s1 _ fun H2 s2 => k H2 (s1.trans s2)
  | false => exact k H1 s1
theorem and_pure {t u : TT} {σ : L2.St} {H : Hp} {Q : Bool → Hp → Prop} {a b : Bool} (ha : ∀ Q : Bool → Hp → Prop, Q a H → t σ H Q) (hb : ∀ Q : Bool → Hp → Prop, Q b H → u σ H Q) (k : Q (a && b) H) : tAnd t u σ H Q := by
  refine ha _ ?_
  cases a with
  | true => exact hb _ k
  | false => exact k
theorem val_some (cs : CsL) (x : Str) : (!(valV (cK cs) (.inr x)).isSome) = !decide (x ∈ cs.map (·.1)) := by
  congr 1
  rw [← valV_any]
  induction cs with
  | nil => rfl
  | cons y r ih =>
    show (decide ((Sum.inr y.1 : Key) = Sum.inr x) || (cK r).any fun kv => decide (kv.1 = .inr x)) = _
    rw [ih]
    by_cases e : y.1 = x
    · simp [e]
    · have e2 : ¬ x = y.1 := fun z => e z.symm
      simp [e, e2]
theorem TabAt.keep {S : List Addr} {H H' : Hp} {c l : Addr} {cs : CsL} {ls : List (Str × Addr × List Str)} (T : TabAt H c l cs ls) (s : Keep S H H') (hc : c ∉ S) (hl : l ∉ S) (ht : ∀ x ∈ ls, x.2.1 ∉ S) : TabAt H' c l cs ls := ⟨s _ _ T.atC hc, s _ _ T.atL hl, T.ne, fun x hx => s _ _ (T.atT x hx) (ht x hx)⟩
theorem wF_take_name (lw : Addr) (i : Nat) (ob : Int) : (wF lw i ob).lookup ("take_name" : Str) = none := by kernel_rfl
theorem wF_take_said (lw : Addr) (i : Nat) (ob : Int) : (wF lw i ob).lookup ("take_said" : Str) = none := by kernel_rfl
theorem wF_take_figure (lw : Addr) (i : Nat) (ob : Int) : (wF lw i ob).lookup ("take_figure" : Str) = none := by kernel_rfl
theorem wF_is_next (lw : Addr) (i : Nat) (ob : Int) : (wF lw i ob).lookup ("is_next" : Str) = none := by kernel_rfl
theorem wF_end (lw : Addr) (i : Nat) (ob : Int) : (wF lw i ob).lookup ("end" : Str) = none := by kernel_rfl
theorem valL_none : ∀ (ls : List (Str × Addr × List Str)) (x : Str), x ∉ ls.map (·.1) → valV (lK ls) (.inr x) = none
  | [], _, _ => rfl
  | y :: r, x, h => by
    rw [List.map_cons, List.mem_cons, not_or] at h
    show valV ((.inr y.1, .ref y.2.1) :: lK r) (.inr x) = none
    rw [valV_neg (fun z => h.1 (Sum.inr.inj z).symm)]
    exact valL_none r x h.2
theorem Err.bare {E : XK} {CB : Addr} {U : List Addr} {k : Nat} {H : Hp} (e : Err E CB U k H) : Err E CB [] k H := fun d H' kp hd => e d H' (kp.mono (by simp)) hd
def spThing (K : PySem.W.Frag) (CW CB : Addr) : Sp := fun vs H Q E => ∃ (p c l lw : Addr) (ws : List Str) (i : Nat) (ob : Int) (cs : CsL) (ls : List (Str × Addr × List Str)), vs = [.ref p, .ref c, .ref l] ∧ WdAt CW H p lw ws i ob ∧ TabAt H c l cs ls ∧ TabOk i cs (lD ls) ∧
  (∀ k, thingM ws i cs (lD ls) = .inl k → Err E CB [p] k H) ∧
  ∀ j cs' ls2, thingM ws i cs (lD ls) = .inr (j, cs', lD ls2) → ∀ H', Keep [p, c, l] H H' → WdAt CW H' p lw ws j ob → TabAt H' c l cs' ls2 → Q .non H'
section
variable {w : World} {K : PySem.W.Frag} {mg : Str → Option Value} {base : Heap} {aK aF CB CP CE CW : Addr}
abbrev s_read_thing : Stmt := top 19
theorem sc_read_thing : FnScope ["words", "cells", "logs", "name", "is_cell", "is_log", "word", "said"] ["words", "cells", "logs"] (defScope s_read_thing) := ⟨rfl, rfl, rfl, by decide +kernel, rfl, by decide +kernel, by decide +kernel⟩
theorem ok_thing {f : Addr} {fd : FuncData} (F : Fun K "read_thing" "read_thing" s_read_thing f fd) (T : Tx K mg aK aF) (C : WC K CW) (D_last_of : Df PP w K mg base 1 "last_of" ["table"] spLast) (D_is_word : Df PP w K mg base 1 "is_word" ["value"] spIsWord) (M_refuse : Dm PP w K mg base 3 CW "refuse" ["self"] (spRefuse CW CB))
    (M_take : Dm PP w K mg base 4 CW "take" ["self"] (spTake CW CB fun _ => true)) (M_take_name : Dm PP w K mg base 5 CW "take_name" ["self"] (spTake CW CB isNameM)) (M_take_said : Dm PP w K mg base 5 CW "take_said" ["self"] (spTake CW CB isWordM)) (M_take_figure : Dm PP w K mg base 6 CW "take_figure" ["self"] (spFig CW CB)) :
    FnOk PP w K mg base (L2.CX PP w) 7 f fd ["words", "cells", "logs"] (spThing K CW CB) := by
  refine F.okX sc_read_thing (fun vs H Q E h => ?_) (fun cdv A outer s H vs Q E hr h => ?_)
  · obtain ⟨p, c, l, lw, ws, i, ob, cs, ls, rfl, _⟩ := h; rfl
  · obtain ⟨p, c, l, lw, ws, i, ob, cs, ls, rfl, W, tab, ok, er, k⟩ := h
    obtain ⟨dx, hp⟩ := W.ob
    have hl := W.li
    have hu := hu_of hr
    refine ⟨_, (pss_cons (ps_set (i := 3) sc_read_thing.nd rfl (Or.inl rfl) (pe_ifExp (pt_cmpR op_lt (pe_fld (pv 0) rfl) (pe_callB call_lenL (by rfl) T.len (by decide +kernel) (pa_cons (pe_fld (pv 0) rfl) pa_nil)) (nomark _)) (pe_ix ix_LL (pe_fld (pv 0) rfl) (pe_fld (pv 0) rfl) (fun _ _ => rfl)) pe_str))
      (pss_hid (pss_cons (ps_set (i := 4) sc_read_thing.nd rfl (Or.inl rfl) (pe_and (pe_cmpR op_eq (pe_callB call_lenD (by rfl) T.len (by decide +kernel) (pa_cons (pv 2) pa_nil)) pe_int (nomark _)) (pe_one (pe_cmpR op_gt_str (pv 3) (pe_df D_last_of (hr.mono (by decide)) passL (pa_cons (pv 1) pa_nil)) (nomark _)))))
      (pss_hid (pss_cons (ps_set (i := 5) sc_read_thing.nd rfl (Or.inl rfl) (pe_and (pe_cmpR op_gt_str (pv 3) (pe_df D_last_of (hr.mono (by decide)) passL (pa_cons (pv 2) pa_nil)) (nomark _)) (pe_one (pe_cmp (pc_dnotin (by exact hu) (pv 3) (pv 1))))))
      (pss_hid (pss_cons (ps_if (PW.pt (pw_and (pt_not (pt_val (pv 4))) (pw_and1 (pt_not (pt_val (pv 5)))))) (pss_one (ps_expr (pe_dm0 M_refuse (hr.mono (by decide)) (passE (E := E)) (pv 0)))) pss_nil)
      (pss_hid (pss_cons (ps_expr (pe_dm0 M_take_name (hr.mono (by decide)) (passE (E := E)) (pv 0)))
      (pss_hid (pss_cons (ps_set (i := 6) sc_read_thing.nd rfl (Or.inl rfl) (pe_ifExp (pt_cmpR op_lt (pe_fld (pv 0) rfl) (pe_callB call_lenL (by rfl) T.len (by decide +kernel) (pa_cons (pe_fld (pv 0) rfl) pa_nil)) (nomark _)) (pe_ix ix_LL (pe_fld (pv 0) rfl) (pe_fld (pv 0) rfl) (fun _ _ => rfl)) pe_str))
      (pss_hid (pss_one (ps_if (PW.pt (pw_and (pt_val (pv 4)) (pw_and1 (pt_cmpR op_in_seq (pv 6) (pe_glob (v := .ref aF) rfl T.figs rfl) (by rfl))))) (pss_one (ps_dput (by exact hu) (pv 1) (pv 3) (pe_dm0 M_take_figure (hr.mono (by decide)) (passE (E := E)) (pv 0)) rfl)) (pss_one (ps_if (PW.pt (pw_and (pt_val (pv 5)) (pw_and1 (pt_cmpR op_eq (pv 6) pe_str (nomark _))))) (pss_cons (ps_expr (pe_dm0 M_take (hr.mono (by decide)) (passE (E := E)) (pv 0)))
      (pss_hid (pss_one (ps_dput (by exact hu) (pv 2) (pv 3) (pe_tup pa_nil) rfl)))) (pss_one (ps_if (pt_val (pv 5)) (pss_cons (ps_set (i := 7) sc_read_thing.nd rfl (Or.inl rfl) (pe_lst (pa_cons (pe_dm0 M_take_said (hr.mono (by decide)) (passE (E := E)) (pv 0)) pa_nil)))
      (pss_hid (pss_cons (ps_while (passes_of rfl) (PW.pt (pw_and (pt_cmpR op_lt (pe_fld (pv 0) rfl) (pe_callB call_lenL (by rfl) T.len (by decide +kernel) (pa_cons (pe_fld (pv 0) rfl) pa_nil)) (nomark _)) (pw_and1 (pt_val (pe_df D_is_word (hr.mono (by decide)) passL (pa_cons (pe_ix ix_LL (pe_fld (pv 0) rfl) (pe_fld (pv 0) rfl) (fun _ _ => rfl)) pa_nil)))))) (pss_one (ps_expr (pe_bm PySem.F.plainAttrs_list PySem.F.slot_list_append PySem.F.type_list_append mt_append (pv 7) (pa_cons (pe_dm0 M_take (hr.mono (by decide)) (passE (E := E)) (pv 0)) pa_nil)))))
      (pss_hid (pss_one (ps_dput (by exact hu) (pv 2) (pv 3) (pe_callTy call_tuple_of (by rfl) T.tuple (by decide +kernel) (pa_cons (pv 7) pa_nil)) rfl)))))) (pss_one (ps_expr (pe_dm0 M_refuse (hr.mono (by decide)) (passE (E := E)) (pv 0)))))))))))))))))))))), ?_⟩
    simp only [tSeq, tIfS, tOr, tNot, tB, tTest, tCB, tCons, tNil, tVar, tC, tOp, tUn, tRet, tRetN, tDrop, tAsg, tPar, tPar3, tNext, tNever, tBreak, tCont, tAug, tChain, tAndV, tOrV, tNotV, tIf, tIsN, tNotN, tTup, tLst, tCallD, tMethD, tMakeD, tFld, tCon, sFld, sFldAug, tCallK, tSl, tPart, tNoPart, tBM, tBM0, tDGet, tDIn, tDNotIn, sDPut, tDNewK, tM0, tM1, tOrT, tAndT, tNotT, tAsg2, tAsg3, gName, rI0, rI, rU, tYes, L2.start, NdefX.startF, List.set_cons_zero, List.set_cons_succ, List.map_cons, List.map_nil, List.length_cons, List.length_nil, Nat.sub_zero, Nat.reduceSub, Nat.reduceAdd, List.replicate_succ, List.replicate_zero, List.cons_append, List.nil_append, List.append_nil, List.getElem?_cons_zero, List.getElem?_cons_succ, Option.some.injEq, exists_eq_left', exists_eq_left, exists_eq_right, exists_eq_right', exists_and_left, exists_and_right, exists_eq, exists_eq', true_and, and_true, V.int.injEq, V.str.injEq, V.bl.injEq, V.ref.injEq, V.ty.injEq, HO.ins.injEq, HO.lst.injEq, HO.tup.injEq, and_assoc, List.cons.injEq, Bool.not_true, Bool.not_false, Bool.false_eq_true, if_false, if_true, cx_K, upd_same, upd_upd, isi_str, req_ii, req_ss, rne_ii, rne_ss, radd_ii, rsub_ii, atI_at, atI_0, atI_1, atI_2, atI_3, atI_4, rLenL, rLenU, rIxLL, rIxU, reduceCtorEq, gTup, gCons, gNil, tFmt_eq, fmtV_str, fmtV_int, tJs_nil, tJs_cons, jsV_str, iKeys_eq, gSub, rSetL, tPart, tNoPart, tSl, rSlL, false_and, exists_false, or_false, false_or, List.set_cons_zero, List.set_cons_succ, hp, hl, C.cl, C.nS, C.nW, wF_words, wF_spot, List.length_map]
    refine name_at ?_
    refine hid_in ?_
    simp only [tSeq, tIfS, tOr, tAnd, tNot, tB, tTest, tCB, tCons, tNil, tVar, tC, tOp, tUn, tRet, tRetN, tDrop, tAsg, tPar, tPar3, tNext, tNever, tBreak, tCont, tAug, tChain, tOrV, tNotV, tIf, tIsN, tNotN, tTup, tLst, tCallD, tMethD, tMakeD, tFld, tCon, sFld, sFldAug, tCallK, tSl, tPart, tNoPart, tBM, tBM0, tDGet, tDIn, tDNotIn, sDPut, tDNewK, tM0, tM1, tOrT, tAndT, tNotT, tAsg2, tAsg3, gName, rI0, rI, rU, tYes, L2.start, NdefX.startF, List.set_cons_zero, List.set_cons_succ, List.map_cons, List.map_nil, List.length_cons, List.length_nil, Nat.sub_zero, Nat.reduceSub, Nat.reduceAdd, List.replicate_succ, List.replicate_zero, List.cons_append, List.nil_append, List.append_nil, List.getElem?_cons_zero, List.getElem?_cons_succ, Option.some.injEq, exists_eq_left', exists_eq_left, exists_eq_right, exists_eq_right', exists_and_left, exists_and_right, exists_eq, exists_eq', true_and, and_true, V.int.injEq, V.str.injEq, V.bl.injEq, V.ref.injEq, V.ty.injEq, HO.ins.injEq, HO.lst.injEq, HO.tup.injEq, and_assoc, List.cons.injEq, Bool.not_true, Bool.not_false, Bool.false_eq_true, if_false, if_true, cx_K, upd_same, upd_upd, isi_str, req_ii, req_ss, rne_ii, rne_ss, radd_ii, rsub_ii, atI_at, atI_0, atI_1, atI_2, atI_3, atI_4, rLenL, rLenU, rIxLL, rIxU, reduceCtorEq, gTup, gCons, gNil, tFmt_eq, fmtV_str, fmtV_int, tJs_nil, tJs_cons, jsV_str, iKeys_eq, gSub, rSetL, tPart, tNoPart, tSl, rSlL, false_and, exists_false, or_false, false_or, List.set_cons_zero, List.set_cons_succ]
    have hn1 : cs.length ≤ 100000 := by have := ok.n; have := W.sz; have := W.le; omega
    have hn2 : ls.length ≤ 100000 := by
      have := ok.n
      have := W.sz
      have := W.le
      have := nd_len (f := fun x : Str × List Str => x.2.length) (lD ls)
      have : (lD ls).length = ls.length := by simp [lD]
      omega
    refine andV (a := decide ((lD ls).length = 0)) (b := ltS (lastS (cs.map (·.1))) (wAt ws i)) (fun Q q => ?_) (fun H1 s1 Q q => ?_) fun H1 s1 => ?_
    · simp only [tSeq, tIfS, tOr, tAnd, tNot, tB, tTest, tCB, tCons, tNil, tVar, tC, tOp, tUn, tRet, tRetN, tDrop, tAsg, tPar, tPar3, tNext, tNever, tBreak, tCont, tAug, tChain, tAndV, tOrV, tNotV, tIf, tIsN, tNotN, tTup, tLst, tCallD, tMethD, tMakeD, tFld, tCon, sFld, sFldAug, tCallK, tSl, tPart, tNoPart, tBM, tBM0, tDGet, tDIn, tDNotIn, sDPut, tDNewK, tM0, tM1, tOrT, tAndT, tNotT, tAsg2, tAsg3, gName, rI0, rI, rU, tYes, L2.start, NdefX.startF, List.set_cons_zero, List.set_cons_succ, List.map_cons, List.map_nil, List.length_cons, List.length_nil, Nat.sub_zero, Nat.reduceSub, Nat.reduceAdd, List.replicate_succ, List.replicate_zero, List.cons_append, List.nil_append, List.append_nil, List.getElem?_cons_zero, List.getElem?_cons_succ, Option.some.injEq, exists_eq_left', exists_eq_left, exists_eq_right, exists_eq_right', exists_and_left, exists_and_right, exists_eq, exists_eq', true_and, and_true, V.int.injEq, V.str.injEq, V.bl.injEq, V.ref.injEq, V.ty.injEq, HO.ins.injEq, HO.lst.injEq, HO.tup.injEq, and_assoc, List.cons.injEq, Bool.not_true, Bool.not_false, Bool.false_eq_true, if_false, if_true, cx_K, upd_same, upd_upd, isi_str, req_ii, req_ss, rne_ii, rne_ss, radd_ii, rsub_ii, atI_at, atI_0, atI_1, atI_2, atI_3, atI_4, rLenL, rLenU, rIxLL, rIxU, reduceCtorEq, gTup, gCons, gNil, tFmt_eq, fmtV_str, fmtV_int, tJs_nil, tJs_cons, jsV_str, iKeys_eq, gSub, rSetL, tPart, tNoPart, tSl, rSlL, false_and, exists_false, or_false, false_or, List.set_cons_zero, List.set_cons_succ]
      refine ⟨lK ls, tab.atL, ?_⟩
      have := q H (Same.refl H)
      rw [show decide ((((lK ls).length : Nat) : Int) = 0) = decide ((lD ls).length = 0) by rw [decide_eq_decide]; simp only [lK, lD, List.length_map]; omega]
      exact this
    · simp only [tSeq, tIfS, tOr, tAnd, tNot, tB, tTest, tCB, tCons, tNil, tVar, tC, tOp, tUn, tRet, tRetN, tDrop, tAsg, tPar, tPar3, tNext, tNever, tBreak, tCont, tAug, tChain, tAndV, tOrV, tNotV, tIf, tIsN, tNotN, tTup, tLst, tCallD, tMethD, tMakeD, tFld, tCon, sFld, sFldAug, tCallK, tSl, tPart, tNoPart, tBM, tBM0, tDGet, tDIn, tDNotIn, sDPut, tDNewK, tM0, tM1, tOrT, tAndT, tNotT, tAsg2, tAsg3, gName, rI0, rI, rU, tYes, L2.start, NdefX.startF, List.set_cons_zero, List.set_cons_succ, List.map_cons, List.map_nil, List.length_cons, List.length_nil, Nat.sub_zero, Nat.reduceSub, Nat.reduceAdd, List.replicate_succ, List.replicate_zero, List.cons_append, List.nil_append, List.append_nil, List.getElem?_cons_zero, List.getElem?_cons_succ, Option.some.injEq, exists_eq_left', exists_eq_left, exists_eq_right, exists_eq_right', exists_and_left, exists_and_right, exists_eq, exists_eq', true_and, and_true, V.int.injEq, V.str.injEq, V.bl.injEq, V.ref.injEq, V.ty.injEq, HO.ins.injEq, HO.lst.injEq, HO.tup.injEq, and_assoc, List.cons.injEq, Bool.not_true, Bool.not_false, Bool.false_eq_true, if_false, if_true, cx_K, upd_same, upd_upd, isi_str, req_ii, req_ss, rne_ii, rne_ss, radd_ii, rsub_ii, atI_at, atI_0, atI_1, atI_2, atI_3, atI_4, rLenL, rLenU, rIxLL, rIxU, reduceCtorEq, gTup, gCons, gNil, tFmt_eq, fmtV_str, fmtV_int, tJs_nil, tJs_cons, jsV_str, iKeys_eq, gSub, rSetL, tPart, tNoPart, tSl, rSlL, false_and, exists_false, or_false, false_or, List.set_cons_zero, List.set_cons_succ, spLast]
      exact ⟨cK cs, s1 _ _ tab.atC, List.map (fun x : Str × Int => x.1) cs, by simp [cK, kV], by simp only [cK, List.length_map]; omega, fun H' s' => q H' s'⟩
    rw [show (decide ((lD ls).length = 0) && ltS (lastS (cs.map (·.1))) (wAt ws i)) = isCM cs (lD ls) (wAt ws i) from rfl]
    refine hid_in ?_
    simp only [tSeq, tIfS, tOr, tAnd, tNot, tB, tTest, tCB, tCons, tNil, tVar, tC, tOp, tUn, tRet, tRetN, tDrop, tAsg, tPar, tPar3, tNext, tNever, tBreak, tCont, tAug, tChain, tOrV, tNotV, tIf, tIsN, tNotN, tTup, tLst, tCallD, tMethD, tMakeD, tFld, tCon, sFld, sFldAug, tCallK, tSl, tPart, tNoPart, tBM, tBM0, tDGet, tDIn, tDNotIn, sDPut, tDNewK, tM0, tM1, tOrT, tAndT, tNotT, tAsg2, tAsg3, gName, rI0, rI, rU, tYes, L2.start, NdefX.startF, List.set_cons_zero, List.set_cons_succ, List.map_cons, List.map_nil, List.length_cons, List.length_nil, Nat.sub_zero, Nat.reduceSub, Nat.reduceAdd, List.replicate_succ, List.replicate_zero, List.cons_append, List.nil_append, List.append_nil, List.getElem?_cons_zero, List.getElem?_cons_succ, Option.some.injEq, exists_eq_left', exists_eq_left, exists_eq_right, exists_eq_right', exists_and_left, exists_and_right, exists_eq, exists_eq', true_and, and_true, V.int.injEq, V.str.injEq, V.bl.injEq, V.ref.injEq, V.ty.injEq, HO.ins.injEq, HO.lst.injEq, HO.tup.injEq, and_assoc, List.cons.injEq, Bool.not_true, Bool.not_false, Bool.false_eq_true, if_false, if_true, cx_K, upd_same, upd_upd, isi_str, req_ii, req_ss, rne_ii, rne_ss, radd_ii, rsub_ii, atI_at, atI_0, atI_1, atI_2, atI_3, atI_4, rLenL, rLenU, rIxLL, rIxU, reduceCtorEq, gTup, gCons, gNil, tFmt_eq, fmtV_str, fmtV_int, tJs_nil, tJs_cons, jsV_str, iKeys_eq, gSub, rSetL, tPart, tNoPart, tSl, rSlL, false_and, exists_false, or_false, false_or, List.set_cons_zero, List.set_cons_succ]
    refine andV (a := ltS (lastS ((lD ls).map (·.1))) (wAt ws i)) (b := !decide (wAt ws i ∈ cs.map (·.1))) (fun Q q => ?_) (fun H2 s2 Q q => ?_) fun H2 s2 => ?_
    · simp only [tSeq, tIfS, tOr, tAnd, tNot, tB, tTest, tCB, tCons, tNil, tVar, tC, tOp, tUn, tRet, tRetN, tDrop, tAsg, tPar, tPar3, tNext, tNever, tBreak, tCont, tAug, tChain, tAndV, tOrV, tNotV, tIf, tIsN, tNotN, tTup, tLst, tCallD, tMethD, tMakeD, tFld, tCon, sFld, sFldAug, tCallK, tSl, tPart, tNoPart, tBM, tBM0, tDGet, tDIn, tDNotIn, sDPut, tDNewK, tM0, tM1, tOrT, tAndT, tNotT, tAsg2, tAsg3, gName, rI0, rI, rU, tYes, L2.start, NdefX.startF, List.set_cons_zero, List.set_cons_succ, List.map_cons, List.map_nil, List.length_cons, List.length_nil, Nat.sub_zero, Nat.reduceSub, Nat.reduceAdd, List.replicate_succ, List.replicate_zero, List.cons_append, List.nil_append, List.append_nil, List.getElem?_cons_zero, List.getElem?_cons_succ, Option.some.injEq, exists_eq_left', exists_eq_left, exists_eq_right, exists_eq_right', exists_and_left, exists_and_right, exists_eq, exists_eq', true_and, and_true, V.int.injEq, V.str.injEq, V.bl.injEq, V.ref.injEq, V.ty.injEq, HO.ins.injEq, HO.lst.injEq, HO.tup.injEq, and_assoc, List.cons.injEq, Bool.not_true, Bool.not_false, Bool.false_eq_true, if_false, if_true, cx_K, upd_same, upd_upd, isi_str, req_ii, req_ss, rne_ii, rne_ss, radd_ii, rsub_ii, atI_at, atI_0, atI_1, atI_2, atI_3, atI_4, rLenL, rLenU, rIxLL, rIxU, reduceCtorEq, gTup, gCons, gNil, tFmt_eq, fmtV_str, fmtV_int, tJs_nil, tJs_cons, jsV_str, iKeys_eq, gSub, rSetL, tPart, tNoPart, tSl, rSlL, false_and, exists_false, or_false, false_or, List.set_cons_zero, List.set_cons_succ, spLast]
      exact ⟨lK ls, s1 _ _ tab.atL, List.map (fun x : Str × List Str => x.1) (lD ls), by simp [lK, lD, kV], by simp only [lK, List.length_map]; omega, fun H' s' => q H' s'⟩
    · simp only [tSeq, tIfS, tOr, tAnd, tNot, tB, tTest, tCB, tCons, tNil, tVar, tC, tOp, tUn, tRet, tRetN, tDrop, tAsg, tPar, tPar3, tNext, tNever, tBreak, tCont, tAug, tChain, tAndV, tOrV, tNotV, tIf, tIsN, tNotN, tTup, tLst, tCallD, tMethD, tMakeD, tFld, tCon, sFld, sFldAug, tCallK, tSl, tPart, tNoPart, tBM, tBM0, tDGet, tDIn, tDNotIn, sDPut, tDNewK, tM0, tM1, tOrT, tAndT, tNotT, tAsg2, tAsg3, gName, rI0, rI, rU, tYes, L2.start, NdefX.startF, List.set_cons_zero, List.set_cons_succ, List.map_cons, List.map_nil, List.length_cons, List.length_nil, Nat.sub_zero, Nat.reduceSub, Nat.reduceAdd, List.replicate_succ, List.replicate_zero, List.cons_append, List.nil_append, List.append_nil, List.getElem?_cons_zero, List.getElem?_cons_succ, Option.some.injEq, exists_eq_left', exists_eq_left, exists_eq_right, exists_eq_right', exists_and_left, exists_and_right, exists_eq, exists_eq', true_and, and_true, V.int.injEq, V.str.injEq, V.bl.injEq, V.ref.injEq, V.ty.injEq, HO.ins.injEq, HO.lst.injEq, HO.tup.injEq, and_assoc, List.cons.injEq, Bool.not_true, Bool.not_false, Bool.false_eq_true, if_false, if_true, cx_K, upd_same, upd_upd, isi_str, req_ii, req_ss, rne_ii, rne_ss, radd_ii, rsub_ii, atI_at, atI_0, atI_1, atI_2, atI_3, atI_4, rLenL, rLenU, rIxLL, rIxU, reduceCtorEq, gTup, gCons, gNil, tFmt_eq, fmtV_str, fmtV_int, tJs_nil, tJs_cons, jsV_str, iKeys_eq, gSub, rSetL, tPart, tNoPart, tSl, rSlL, false_and, exists_false, or_false, false_or, List.set_cons_zero, List.set_cons_succ]
      refine ⟨valV (cK cs) (.inr (wAt ws i)), DGet.k (k := .inr (wAt ws i)) (s2 _ _ (s1 _ _ tab.atC)), ?_⟩
      rw [val_some]
      exact q _ (Same.refl _)
    rw [show (ltS (lastS ((lD ls).map (·.1))) (wAt ws i) && !decide (wAt ws i ∈ cs.map (·.1))) = isLM cs (lD ls) (wAt ws i) from rfl]
    have s12 := s1.trans s2
    have hp2 := s12 _ _ hp
    have er2 : ∀ k, thingM ws i cs (lD ls) = .inl k → Err E CB [p] k H2 := fun k hk => (er k hk).after (Keep.of (S := []) s12) (by simp) (by simp)
    have W2 := W.same s12
    have tab2 := tab.same s12
    refine hid_in ?_
    simp only [tSeq, tIfS, tOr, tNot, tB, tTest, tCB, tCons, tNil, tVar, tC, tOp, tUn, tRet, tRetN, tDrop, tAsg, tPar, tPar3, tNext, tNever, tBreak, tCont, tAug, tChain, tAndV, tOrV, tNotV, tIf, tIsN, tNotN, tTup, tLst, tCallD, tMethD, tMakeD, tFld, tCon, sFld, sFldAug, tCallK, tSl, tPart, tNoPart, tBM, tBM0, tDGet, tDIn, tDNotIn, sDPut, tDNewK, tM0, tM1, tOrT, tAndT, tNotT, tAsg2, tAsg3, gName, rI0, rI, rU, tYes, L2.start, NdefX.startF, List.set_cons_zero, List.set_cons_succ, List.map_cons, List.map_nil, List.length_cons, List.length_nil, Nat.sub_zero, Nat.reduceSub, Nat.reduceAdd, List.replicate_succ, List.replicate_zero, List.cons_append, List.nil_append, List.append_nil, List.getElem?_cons_zero, List.getElem?_cons_succ, Option.some.injEq, exists_eq_left', exists_eq_left, exists_eq_right, exists_eq_right', exists_and_left, exists_and_right, exists_eq, exists_eq', true_and, and_true, V.int.injEq, V.str.injEq, V.bl.injEq, V.ref.injEq, V.ty.injEq, HO.ins.injEq, HO.lst.injEq, HO.tup.injEq, and_assoc, List.cons.injEq, Bool.not_true, Bool.not_false, Bool.false_eq_true, if_false, if_true, cx_K, upd_same, upd_upd, isi_str, req_ii, req_ss, rne_ii, rne_ss, radd_ii, rsub_ii, atI_at, atI_0, atI_1, atI_2, atI_3, atI_4, rLenL, rLenU, rIxLL, rIxU, reduceCtorEq, gTup, gCons, gNil, tFmt_eq, fmtV_str, fmtV_int, tJs_nil, tJs_cons, jsV_str, iKeys_eq, gSub, rSetL, tPart, tNoPart, tSl, rSlL, false_and, exists_false, or_false, false_or, List.set_cons_zero, List.set_cons_succ, hp2, wF_refuse]
    refine and_pure (a := !isCM cs (lD ls) (wAt ws i)) (b := !isLM cs (lD ls) (wAt ws i)) (fun Q q => by simp only [tSeq, tIfS, tOr, tAnd, tNot, tB, tTest, tCB, tCons, tNil, tVar, tC, tOp, tUn, tRet, tRetN, tDrop, tAsg, tPar, tPar3, tNext, tNever, tBreak, tCont, tAug, tChain, tAndV, tOrV, tNotV, tIf, tIsN, tNotN, tTup, tLst, tCallD, tMethD, tMakeD, tFld, tCon, sFld, sFldAug, tCallK, tSl, tPart, tNoPart, tBM, tBM0, tDGet, tDIn, tDNotIn, sDPut, tDNewK, tM0, tM1, tOrT, tAndT, tNotT, tAsg2, tAsg3, gName, rI0, rI, rU, tYes, L2.start, NdefX.startF, List.set_cons_zero, List.set_cons_succ, List.map_cons, List.map_nil, List.length_cons, List.length_nil, Nat.sub_zero, Nat.reduceSub, Nat.reduceAdd, List.replicate_succ, List.replicate_zero, List.cons_append, List.nil_append, List.append_nil, List.getElem?_cons_zero, List.getElem?_cons_succ, Option.some.injEq, exists_eq_left', exists_eq_left, exists_eq_right, exists_eq_right', exists_and_left, exists_and_right, exists_eq, exists_eq', true_and, and_true, V.int.injEq, V.str.injEq, V.bl.injEq, V.ref.injEq, V.ty.injEq, HO.ins.injEq, HO.lst.injEq, HO.tup.injEq, and_assoc, List.cons.injEq, Bool.not_true, Bool.not_false, Bool.false_eq_true, if_false, if_true, cx_K, upd_same, upd_upd, isi_str, req_ii, req_ss, rne_ii, rne_ss, radd_ii, rsub_ii, atI_at, atI_0, atI_1, atI_2, atI_3, atI_4, rLenL, rLenU, rIxLL, rIxU, reduceCtorEq, gTup, gCons, gNil, tFmt_eq, fmtV_str, fmtV_int, tJs_nil, tJs_cons, jsV_str, iKeys_eq, gSub, rSetL, tPart, tNoPart, tSl, rSlL, false_and, exists_false, or_false, false_or, List.set_cons_zero, List.set_cons_succ]; exact q) (fun Q q => by simp only [tSeq, tIfS, tOr, tAnd, tNot, tB, tTest, tCB, tCons, tNil, tVar, tC, tOp, tUn, tRet, tRetN, tDrop, tAsg, tPar, tPar3, tNext, tNever, tBreak, tCont, tAug, tChain, tAndV, tOrV, tNotV, tIf, tIsN, tNotN, tTup, tLst, tCallD, tMethD, tMakeD, tFld, tCon, sFld, sFldAug, tCallK, tSl, tPart, tNoPart, tBM, tBM0, tDGet, tDIn, tDNotIn, sDPut, tDNewK, tM0, tM1, tOrT, tAndT, tNotT, tAsg2, tAsg3, gName, rI0, rI, rU, tYes, L2.start, NdefX.startF, List.set_cons_zero, List.set_cons_succ, List.map_cons, List.map_nil, List.length_cons, List.length_nil, Nat.sub_zero, Nat.reduceSub, Nat.reduceAdd, List.replicate_succ, List.replicate_zero, List.cons_append, List.nil_append, List.append_nil, List.getElem?_cons_zero, List.getElem?_cons_succ, Option.some.injEq, exists_eq_left', exists_eq_left, exists_eq_right, exists_eq_right', exists_and_left, exists_and_right, exists_eq, exists_eq', true_and, and_true, V.int.injEq, V.str.injEq, V.bl.injEq, V.ref.injEq, V.ty.injEq, HO.ins.injEq, HO.lst.injEq, HO.tup.injEq, and_assoc, List.cons.injEq, Bool.not_true, Bool.not_false, Bool.false_eq_true, if_false, if_true, cx_K, upd_same, upd_upd, isi_str, req_ii, req_ss, rne_ii, rne_ss, radd_ii, rsub_ii, atI_at, atI_0, atI_1, atI_2, atI_3, atI_4, rLenL, rLenU, rIxLL, rIxU, reduceCtorEq, gTup, gCons, gNil, tFmt_eq, fmtV_str, fmtV_int, tJs_nil, tJs_cons, jsV_str, iKeys_eq, gSub, rSetL, tPart, tNoPart, tSl, rSlL, false_and, exists_false, or_false, false_or, List.set_cons_zero, List.set_cons_succ]; exact q) ?_
    refine ite2 (fun z => ?_) fun z => ?_
    · simp only [tSeq, tIfS, tOr, tAnd, tNot, tB, tTest, tCB, tCons, tNil, tVar, tC, tOp, tUn, tRet, tRetN, tDrop, tAsg, tPar, tPar3, tNext, tNever, tBreak, tCont, tAug, tChain, tAndV, tOrV, tNotV, tIf, tIsN, tNotN, tTup, tLst, tCallD, tMethD, tMakeD, tFld, tCon, sFld, sFldAug, tCallK, tSl, tPart, tNoPart, tBM, tBM0, tDGet, tDIn, tDNotIn, sDPut, tDNewK, tM0, tM1, tOrT, tAndT, tNotT, tAsg2, tAsg3, gName, rI0, rI, rU, tYes, L2.start, NdefX.startF, List.set_cons_zero, List.set_cons_succ, List.map_cons, List.map_nil, List.length_cons, List.length_nil, Nat.sub_zero, Nat.reduceSub, Nat.reduceAdd, List.replicate_succ, List.replicate_zero, List.cons_append, List.nil_append, List.append_nil, List.getElem?_cons_zero, List.getElem?_cons_succ, Option.some.injEq, exists_eq_left', exists_eq_left, exists_eq_right, exists_eq_right', exists_and_left, exists_and_right, exists_eq, exists_eq', true_and, and_true, V.int.injEq, V.str.injEq, V.bl.injEq, V.ref.injEq, V.ty.injEq, HO.ins.injEq, HO.lst.injEq, HO.tup.injEq, and_assoc, List.cons.injEq, Bool.not_true, Bool.not_false, Bool.false_eq_true, if_false, if_true, cx_K, upd_same, upd_upd, isi_str, req_ii, req_ss, rne_ii, rne_ss, radd_ii, rsub_ii, atI_at, atI_0, atI_1, atI_2, atI_3, atI_4, rLenL, rLenU, rIxLL, rIxU, reduceCtorEq, gTup, gCons, gNil, tFmt_eq, fmtV_str, fmtV_int, tJs_nil, tJs_cons, jsV_str, iKeys_eq, gSub, rSetL, tPart, tNoPart, tSl, rSlL, false_and, exists_false, or_false, false_or, List.set_cons_zero, List.set_cons_succ, hp2, wF_refuse]
      exact ⟨p, lw, ws, i, ob, rfl, W2, (er2 i (by unfold thingM; rw [if_pos z])).bare⟩
    refine hid_in ?_
    simp only [tSeq, tIfS, tOr, tAnd, tNot, tB, tTest, tCB, tCons, tNil, tVar, tC, tOp, tUn, tRet, tRetN, tDrop, tAsg, tPar, tPar3, tNext, tNever, tBreak, tCont, tAug, tChain, tAndV, tOrV, tNotV, tIf, tIsN, tNotN, tTup, tLst, tCallD, tMethD, tMakeD, tFld, tCon, sFld, sFldAug, tCallK, tSl, tPart, tNoPart, tBM, tBM0, tDGet, tDIn, tDNotIn, sDPut, tDNewK, tM0, tM1, tOrT, tAndT, tNotT, tAsg2, tAsg3, gName, rI0, rI, rU, tYes, L2.start, NdefX.startF, List.set_cons_zero, List.set_cons_succ, List.map_cons, List.map_nil, List.length_cons, List.length_nil, Nat.sub_zero, Nat.reduceSub, Nat.reduceAdd, List.replicate_succ, List.replicate_zero, List.cons_append, List.nil_append, List.append_nil, List.getElem?_cons_zero, List.getElem?_cons_succ, Option.some.injEq, exists_eq_left', exists_eq_left, exists_eq_right, exists_eq_right', exists_and_left, exists_and_right, exists_eq, exists_eq', true_and, and_true, V.int.injEq, V.str.injEq, V.bl.injEq, V.ref.injEq, V.ty.injEq, HO.ins.injEq, HO.lst.injEq, HO.tup.injEq, and_assoc, List.cons.injEq, Bool.not_true, Bool.not_false, Bool.false_eq_true, if_false, if_true, cx_K, upd_same, upd_upd, isi_str, req_ii, req_ss, rne_ii, rne_ss, radd_ii, rsub_ii, atI_at, atI_0, atI_1, atI_2, atI_3, atI_4, rLenL, rLenU, rIxLL, rIxU, reduceCtorEq, gTup, gCons, gNil, tFmt_eq, fmtV_str, fmtV_int, tJs_nil, tJs_cons, jsV_str, iKeys_eq, gSub, rSetL, tPart, tNoPart, tSl, rSlL, false_and, exists_false, or_false, false_or, List.set_cons_zero, List.set_cons_succ, hp2, wF_take_name]
    refine ⟨p, lw, ws, i, ob, rfl, W2, fun x hx hnx H3 k3 W3 => ?_, fun hno => er2 i ?_⟩
    case refine_2 =>
      unfold thingM
      rw [if_neg z, if_pos]
      unfold wAt
      cases e : ws[i]? with
      | none => decide +kernel
      | some x => exact hno x e
    have ex : wAt ws i = x := by unfold wAt; rw [hx]; rfl
    rw [ex]
    have hnpc : c ≠ p := ne_of tab2.atC hp2 (by intro z; cases z)
    have hnpl : l ≠ p := ne_of tab2.atL hp2 (by intro z; cases z)
    have tab3 : TabAt H3 c l cs ls := tab2.keep k3 (by simpa using hnpc) (by simpa using hnpl) fun y hy => by simpa using ne_of (tab2.atT y hy) hp2 (by intro z; cases z)
    obtain ⟨dx3, hp3⟩ := W3.ob
    have hl3 := W3.li
    have thm : ∀ r, (if isCM cs (lD ls) x && decide (wAt ws (i + 1) ∈ figL) then (.inr (i + 2, cs ++ [(x, figV (wAt ws (i + 1)))], lD ls) : Nat ⊕ (Nat × CsL × LsL))
      else if isLM cs (lD ls) x && decide (wAt ws (i + 1) = "-") then .inr (i + 2, cs, lD ls ++ [(x, [])])
      else if isLM cs (lD ls) x then (if isWordM (wAt ws (i + 1)) then .inr (i + 1 + (saidM ws (i + 1)).length, cs, lD ls ++ [(x, saidM ws (i + 1))]) else .inl (i + 1)) else .inl (i + 1)) = r → thingM ws i cs (lD ls) = r := fun r hr => by
      rw [← hr]
      unfold thingM
      rw [if_neg z, if_neg (by rw [ex, hnx]; simp), ex]
    have k13 : Keep [p] H H3 := (Keep.of (S := []) s12).trans k3 (by simp) (by simp)
    have er3 : ∀ k, thingM ws i cs (lD ls) = .inl k → Err E CB [p] k H3 := fun k hk => (er k hk).after k13 (by simp) (by simp)
    refine hid_in ?_
    simp only [tSeq, tIfS, tOr, tAnd, tNot, tB, tTest, tCB, tCons, tNil, tVar, tC, tOp, tUn, tRet, tRetN, tDrop, tAsg, tPar, tPar3, tNext, tNever, tBreak, tCont, tAug, tChain, tAndV, tOrV, tNotV, tIf, tIsN, tNotN, tTup, tLst, tCallD, tMethD, tMakeD, tFld, tCon, sFld, sFldAug, tCallK, tSl, tPart, tNoPart, tBM, tBM0, tDGet, tDIn, tDNotIn, sDPut, tDNewK, tM0, tM1, tOrT, tAndT, tNotT, tAsg2, tAsg3, gName, rI0, rI, rU, tYes, L2.start, NdefX.startF, List.set_cons_zero, List.set_cons_succ, List.map_cons, List.map_nil, List.length_cons, List.length_nil, Nat.sub_zero, Nat.reduceSub, Nat.reduceAdd, List.replicate_succ, List.replicate_zero, List.cons_append, List.nil_append, List.append_nil, List.getElem?_cons_zero, List.getElem?_cons_succ, Option.some.injEq, exists_eq_left', exists_eq_left, exists_eq_right, exists_eq_right', exists_and_left, exists_and_right, exists_eq, exists_eq', true_and, and_true, V.int.injEq, V.str.injEq, V.bl.injEq, V.ref.injEq, V.ty.injEq, HO.ins.injEq, HO.lst.injEq, HO.tup.injEq, and_assoc, List.cons.injEq, Bool.not_true, Bool.not_false, Bool.false_eq_true, if_false, if_true, cx_K, upd_same, upd_upd, isi_str, req_ii, req_ss, rne_ii, rne_ss, radd_ii, rsub_ii, atI_at, atI_0, atI_1, atI_2, atI_3, atI_4, rLenL, rLenU, rIxLL, rIxU, reduceCtorEq, gTup, gCons, gNil, tFmt_eq, fmtV_str, fmtV_int, tJs_nil, tJs_cons, jsV_str, iKeys_eq, gSub, rSetL, tPart, tNoPart, tSl, rSlL, false_and, exists_false, or_false, false_or, List.set_cons_zero, List.set_cons_succ, hp3, hl3, C.cl, C.nS, C.nW, wF_words, wF_spot, List.length_map]
    refine name_at ?_
    refine hid_in ?_
    simp only [tSeq, tIfS, tOr, tNot, tB, tTest, tCB, tCons, tNil, tVar, tC, tOp, tUn, tRet, tRetN, tDrop, tAsg, tPar, tPar3, tNext, tNever, tBreak, tCont, tAug, tChain, tAndV, tOrV, tNotV, tIf, tIsN, tNotN, tTup, tLst, tCallD, tMethD, tMakeD, tFld, tCon, sFld, sFldAug, tCallK, tSl, tPart, tNoPart, tBM, tBM0, tDGet, tDIn, tDNotIn, sDPut, tDNewK, tM0, tM1, tOrT, tAndT, tNotT, tAsg2, tAsg3, gName, rI0, rI, rU, tYes, L2.start, NdefX.startF, List.set_cons_zero, List.set_cons_succ, List.map_cons, List.map_nil, List.length_cons, List.length_nil, Nat.sub_zero, Nat.reduceSub, Nat.reduceAdd, List.replicate_succ, List.replicate_zero, List.cons_append, List.nil_append, List.append_nil, List.getElem?_cons_zero, List.getElem?_cons_succ, Option.some.injEq, exists_eq_left', exists_eq_left, exists_eq_right, exists_eq_right', exists_and_left, exists_and_right, exists_eq, exists_eq', true_and, and_true, V.int.injEq, V.str.injEq, V.bl.injEq, V.ref.injEq, V.ty.injEq, HO.ins.injEq, HO.lst.injEq, HO.tup.injEq, and_assoc, List.cons.injEq, Bool.not_true, Bool.not_false, Bool.false_eq_true, if_false, if_true, cx_K, upd_same, upd_upd, isi_str, req_ii, req_ss, rne_ii, rne_ss, radd_ii, rsub_ii, atI_at, atI_0, atI_1, atI_2, atI_3, atI_4, rLenL, rLenU, rIxLL, rIxU, reduceCtorEq, gTup, gCons, gNil, tFmt_eq, fmtV_str, fmtV_int, tJs_nil, tJs_cons, jsV_str, iKeys_eq, gSub, rSetL, tPart, tNoPart, tSl, rSlL, false_and, exists_false, or_false, false_or, List.set_cons_zero, List.set_cons_succ]
    refine and_pure (a := isCM cs (lD ls) (wAt ws i)) (b := decide (wAt ws (i + 1) ∈ figL)) (fun Q q => by simp only [tSeq, tIfS, tOr, tAnd, tNot, tB, tTest, tCB, tCons, tNil, tVar, tC, tOp, tUn, tRet, tRetN, tDrop, tAsg, tPar, tPar3, tNext, tNever, tBreak, tCont, tAug, tChain, tAndV, tOrV, tNotV, tIf, tIsN, tNotN, tTup, tLst, tCallD, tMethD, tMakeD, tFld, tCon, sFld, sFldAug, tCallK, tSl, tPart, tNoPart, tBM, tBM0, tDGet, tDIn, tDNotIn, sDPut, tDNewK, tM0, tM1, tOrT, tAndT, tNotT, tAsg2, tAsg3, gName, rI0, rI, rU, tYes, L2.start, NdefX.startF, List.set_cons_zero, List.set_cons_succ, List.map_cons, List.map_nil, List.length_cons, List.length_nil, Nat.sub_zero, Nat.reduceSub, Nat.reduceAdd, List.replicate_succ, List.replicate_zero, List.cons_append, List.nil_append, List.append_nil, List.getElem?_cons_zero, List.getElem?_cons_succ, Option.some.injEq, exists_eq_left', exists_eq_left, exists_eq_right, exists_eq_right', exists_and_left, exists_and_right, exists_eq, exists_eq', true_and, and_true, V.int.injEq, V.str.injEq, V.bl.injEq, V.ref.injEq, V.ty.injEq, HO.ins.injEq, HO.lst.injEq, HO.tup.injEq, and_assoc, List.cons.injEq, Bool.not_true, Bool.not_false, Bool.false_eq_true, if_false, if_true, cx_K, upd_same, upd_upd, isi_str, req_ii, req_ss, rne_ii, rne_ss, radd_ii, rsub_ii, atI_at, atI_0, atI_1, atI_2, atI_3, atI_4, rLenL, rLenU, rIxLL, rIxU, reduceCtorEq, gTup, gCons, gNil, tFmt_eq, fmtV_str, fmtV_int, tJs_nil, tJs_cons, jsV_str, iKeys_eq, gSub, rSetL, tPart, tNoPart, tSl, rSlL, false_and, exists_false, or_false, false_or, List.set_cons_zero, List.set_cons_succ]; rw [← ex]; exact q) (fun Q q => by simp only [tSeq, tIfS, tOr, tAnd, tNot, tB, tTest, tCB, tCons, tNil, tVar, tC, tOp, tUn, tRet, tRetN, tDrop, tAsg, tPar, tPar3, tNext, tNever, tBreak, tCont, tAug, tChain, tAndV, tOrV, tNotV, tIf, tIsN, tNotN, tTup, tLst, tCallD, tMethD, tMakeD, tFld, tCon, sFld, sFldAug, tCallK, tSl, tPart, tNoPart, tBM, tBM0, tDGet, tDIn, tDNotIn, sDPut, tDNewK, tM0, tM1, tOrT, tAndT, tNotT, tAsg2, tAsg3, gName, rI0, rI, rU, tYes, L2.start, NdefX.startF, List.set_cons_zero, List.set_cons_succ, List.map_cons, List.map_nil, List.length_cons, List.length_nil, Nat.sub_zero, Nat.reduceSub, Nat.reduceAdd, List.replicate_succ, List.replicate_zero, List.cons_append, List.nil_append, List.append_nil, List.getElem?_cons_zero, List.getElem?_cons_succ, Option.some.injEq, exists_eq_left', exists_eq_left, exists_eq_right, exists_eq_right', exists_and_left, exists_and_right, exists_eq, exists_eq', true_and, and_true, V.int.injEq, V.str.injEq, V.bl.injEq, V.ref.injEq, V.ty.injEq, HO.ins.injEq, HO.lst.injEq, HO.tup.injEq, and_assoc, List.cons.injEq, Bool.not_true, Bool.not_false, Bool.false_eq_true, if_false, if_true, cx_K, upd_same, upd_upd, isi_str, req_ii, req_ss, rne_ii, rne_ss, radd_ii, rsub_ii, atI_at, atI_0, atI_1, atI_2, atI_3, atI_4, rLenL, rLenU, rIxLL, rIxU, reduceCtorEq, gTup, gCons, gNil, tFmt_eq, fmtV_str, fmtV_int, tJs_nil, tJs_cons, jsV_str, iKeys_eq, gSub, rSetL, tPart, tNoPart, tSl, rSlL, false_and, exists_false, or_false, false_or, List.set_cons_zero, List.set_cons_succ]; exact rIn_strs (.inr (figT T H3)) (by simp only [tSeq, tIfS, tOr, tAnd, tNot, tB, tTest, tCB, tCons, tNil, tVar, tC, tOp, tUn, tRet, tRetN, tDrop, tAsg, tPar, tPar3, tNext, tNever, tBreak, tCont, tAug, tChain, tAndV, tOrV, tNotV, tIf, tIsN, tNotN, tTup, tLst, tCallD, tMethD, tMakeD, tFld, tCon, sFld, sFldAug, tCallK, tSl, tPart, tNoPart, tBM, tBM0, tDGet, tDIn, tDNotIn, sDPut, tDNewK, tM0, tM1, tOrT, tAndT, tNotT, tAsg2, tAsg3, gName, rI0, rI, rU, tYes, L2.start, NdefX.startF, List.set_cons_zero, List.set_cons_succ, List.map_cons, List.map_nil, List.length_cons, List.length_nil, Nat.sub_zero, Nat.reduceSub, Nat.reduceAdd, List.replicate_succ, List.replicate_zero, List.cons_append, List.nil_append, List.append_nil, List.getElem?_cons_zero, List.getElem?_cons_succ, Option.some.injEq, exists_eq_left', exists_eq_left, exists_eq_right, exists_eq_right', exists_and_left, exists_and_right, exists_eq, exists_eq', true_and, and_true, V.int.injEq, V.str.injEq, V.bl.injEq, V.ref.injEq, V.ty.injEq, HO.ins.injEq, HO.lst.injEq, HO.tup.injEq, and_assoc, List.cons.injEq, Bool.not_true, Bool.not_false, Bool.false_eq_true, if_false, if_true, cx_K, upd_same, upd_upd, isi_str, req_ii, req_ss, rne_ii, rne_ss, radd_ii, rsub_ii, atI_at, atI_0, atI_1, atI_2, atI_3, atI_4, rLenL, rLenU, rIxLL, rIxU, reduceCtorEq, gTup, gCons, gNil, tFmt_eq, fmtV_str, fmtV_int, tJs_nil, tJs_cons, jsV_str, iKeys_eq, gSub, rSetL, tPart, tNoPart, tSl, rSlL, false_and, exists_false, or_false, false_or, List.set_cons_zero, List.set_cons_succ]; exact q)) ?_
    rw [ex]
    refine ite2 (fun zf => ?_) fun zf => ?_
    · have zf' := zf
      simp only [Bool.and_eq_true, isCM, decide_eq_true_eq] at zf'
      simp only [tSeq, tIfS, tOr, tAnd, tNot, tB, tTest, tCB, tCons, tNil, tVar, tC, tOp, tUn, tRet, tRetN, tDrop, tAsg, tPar, tPar3, tNext, tNever, tBreak, tCont, tAug, tChain, tAndV, tOrV, tNotV, tIf, tIsN, tNotN, tTup, tLst, tCallD, tMethD, tMakeD, tFld, tCon, sFld, sFldAug, tCallK, tSl, tPart, tNoPart, tBM, tBM0, tDGet, tDIn, tDNotIn, sDPut, tDNewK, tM0, tM1, tOrT, tAndT, tNotT, tAsg2, tAsg3, gName, rI0, rI, rU, tYes, L2.start, NdefX.startF, List.set_cons_zero, List.set_cons_succ, List.map_cons, List.map_nil, List.length_cons, List.length_nil, Nat.sub_zero, Nat.reduceSub, Nat.reduceAdd, List.replicate_succ, List.replicate_zero, List.cons_append, List.nil_append, List.append_nil, List.getElem?_cons_zero, List.getElem?_cons_succ, Option.some.injEq, exists_eq_left', exists_eq_left, exists_eq_right, exists_eq_right', exists_and_left, exists_and_right, exists_eq, exists_eq', true_and, and_true, V.int.injEq, V.str.injEq, V.bl.injEq, V.ref.injEq, V.ty.injEq, HO.ins.injEq, HO.lst.injEq, HO.tup.injEq, and_assoc, List.cons.injEq, Bool.not_true, Bool.not_false, Bool.false_eq_true, if_false, if_true, cx_K, upd_same, upd_upd, isi_str, req_ii, req_ss, rne_ii, rne_ss, radd_ii, rsub_ii, atI_at, atI_0, atI_1, atI_2, atI_3, atI_4, rLenL, rLenU, rIxLL, rIxU, reduceCtorEq, gTup, gCons, gNil, tFmt_eq, fmtV_str, fmtV_int, tJs_nil, tJs_cons, jsV_str, iKeys_eq, gSub, rSetL, tPart, tNoPart, tSl, rSlL, false_and, exists_false, or_false, false_or, List.set_cons_zero, List.set_cons_succ, hp3, wF_take_figure]
      have hno : ¬ (∀ x, ws[i + 1]? = some x → decide (x ∈ figL) = false) := fun q => by
        have hf := zf'.2
        unfold wAt at hf
        cases e : ws[i + 1]? with
        | none => rw [e] at hf; exact absurd hf (by decide +kernel)
        | some y => rw [e] at hf; have := q y e; simp at this; exact this hf
      refine ⟨p, lw, ws, i + 1, ob, rfl, W3, fun y hy _ H4 k4 W4 => ?_, fun q => absurd q hno⟩
      have ey : wAt ws (i + 1) = y := by unfold wAt; rw [hy]; rfl
      have tab4 : TabAt H4 c l cs ls := tab3.keep k4 (by simpa using hnpc) (by simpa using hnpl) fun y hy => by simpa using ne_of (tab2.atT y hy) hp2 (by intro z; cases z)
      have hnew : valV (cK cs) (.inr x) = none := by
        have h1 := val_some cs x
        have h2 := (up_new ok.pc zf'.1.2).1
        rw [decide_eq_false h2] at h1
        cases hv : valV (cK cs) (.inr x) with
        | none => rfl
        | some v => rw [hv] at h1; cases h1
      refine ⟨_, DPut.k (k := .inr x) tab4.atC (by have := hn1; exact sz_lt (by simp only [cK, List.length_map]; omega)), ?_⟩
      rw [putK_new _ hnew]
      have hpc4 : p ≠ c := hnpc.symm
      refine k (i + 2) (cs ++ [(x, figV (wAt ws (i + 1)))]) ls (thm _ (if_pos zf)) _ ?_ ?_ ?_
      · refine Keep.trans (S := [p]) (T := [c]) (k13.trans k4 (by simp) (by simp)) keep_upd (by simp) (by simp)
      · exact W4.keep (S := [c]) keep_upd (by simpa using hpc4) (by simpa using ne_of W4.li tab4.atC (by intro z; cases z))
      · refine ⟨by rw [upd_same, ey]; simp [cK], by rw [upd_ne tab4.ne.symm]; exact tab4.atL, tab4.ne, fun y hy => by rw [upd_ne (ne_of (tab4.atT y hy) tab4.atC (by intro z; cases z))]; exact tab4.atT y hy⟩
    · have hnp : ∀ y ∈ ls, y.2.1 ≠ p := fun y hy => ne_of (tab2.atT y hy) hp2 (by intro z; cases z)
      have put : ∀ (j : Nat) (said : List Str) (t : Addr) (H5 : Hp), isLM cs (lD ls) x = true → thingM ws i cs (lD ls) = .inr (j, cs, lD ls ++ [(x, said)]) → Keep [p] H H5 → WdAt CW H5 p lw ws j ob → H5 t = some (.tup (said.map V.str)) → ∃ H6, DPut H5 l (.str x) (.ref t) H6 ∧ Q .non H6 := fun j said t H5 hL hth k5 W5 ht5 => by
        have tab5 : TabAt H5 c l cs ls := tab.keep k5 (by simpa using hnpc) (by simpa using hnpl) fun y hy => by simpa using hnp y hy
        simp only [isLM, Bool.and_eq_true] at hL
        have hnew : valV (lK ls) (.inr x) = none := by
          have h1 := valL_none ls x
          rw [← lD_fst] at h1
          exact h1 (up_new ok.pl hL.1).1
        refine ⟨_, DPut.k (k := .inr x) tab5.atL (by have := hn2; exact sz_lt (by simp only [lK, List.length_map]; omega)), ?_⟩
        rw [putK_new _ hnew]
        refine k j cs (ls ++ [(x, t, said)]) (by rw [hth]; simp [lD]) _ ?_ ?_ ?_
        · exact Keep.trans (S := [p]) (T := [l]) k5 keep_upd (by simp) (by simp)
        · exact W5.keep (S := [l]) keep_upd (by simpa using hnpl.symm) (by simpa using ne_of W5.li tab5.atL (by intro z; cases z))
        · refine ⟨by rw [upd_ne tab5.ne]; exact tab5.atC, by rw [upd_same]; simp [lK], tab5.ne, fun y hy => ?_⟩
          have hy2 : H5 y.2.1 = some (.tup (y.2.2.map V.str)) := by
            rcases List.mem_append.mp hy with h | h
            · exact tab5.atT y h
            · rw [List.mem_singleton.mp h]; exact ht5
          rw [upd_ne (ne_of hy2 tab5.atL (by intro z; cases z))]
          exact hy2
      refine and_pure (a := isLM cs (lD ls) x) (b := decide (wAt ws (i + 1) = "-")) (fun Q q => by simp only [tSeq, tIfS, tOr, tAnd, tNot, tB, tTest, tCB, tCons, tNil, tVar, tC, tOp, tUn, tRet, tRetN, tDrop, tAsg, tPar, tPar3, tNext, tNever, tBreak, tCont, tAug, tChain, tAndV, tOrV, tNotV, tIf, tIsN, tNotN, tTup, tLst, tCallD, tMethD, tMakeD, tFld, tCon, sFld, sFldAug, tCallK, tSl, tPart, tNoPart, tBM, tBM0, tDGet, tDIn, tDNotIn, sDPut, tDNewK, tM0, tM1, tOrT, tAndT, tNotT, tAsg2, tAsg3, gName, rI0, rI, rU, tYes, L2.start, NdefX.startF, List.set_cons_zero, List.set_cons_succ, List.map_cons, List.map_nil, List.length_cons, List.length_nil, Nat.sub_zero, Nat.reduceSub, Nat.reduceAdd, List.replicate_succ, List.replicate_zero, List.cons_append, List.nil_append, List.append_nil, List.getElem?_cons_zero, List.getElem?_cons_succ, Option.some.injEq, exists_eq_left', exists_eq_left, exists_eq_right, exists_eq_right', exists_and_left, exists_and_right, exists_eq, exists_eq', true_and, and_true, V.int.injEq, V.str.injEq, V.bl.injEq, V.ref.injEq, V.ty.injEq, HO.ins.injEq, HO.lst.injEq, HO.tup.injEq, and_assoc, List.cons.injEq, Bool.not_true, Bool.not_false, Bool.false_eq_true, if_false, if_true, cx_K, upd_same, upd_upd, isi_str, req_ii, req_ss, rne_ii, rne_ss, radd_ii, rsub_ii, atI_at, atI_0, atI_1, atI_2, atI_3, atI_4, rLenL, rLenU, rIxLL, rIxU, reduceCtorEq, gTup, gCons, gNil, tFmt_eq, fmtV_str, fmtV_int, tJs_nil, tJs_cons, jsV_str, iKeys_eq, gSub, rSetL, tPart, tNoPart, tSl, rSlL, false_and, exists_false, or_false, false_or, List.set_cons_zero, List.set_cons_succ]; exact q) (fun Q q => by simp only [tSeq, tIfS, tOr, tAnd, tNot, tB, tTest, tCB, tCons, tNil, tVar, tC, tOp, tUn, tRet, tRetN, tDrop, tAsg, tPar, tPar3, tNext, tNever, tBreak, tCont, tAug, tChain, tAndV, tOrV, tNotV, tIf, tIsN, tNotN, tTup, tLst, tCallD, tMethD, tMakeD, tFld, tCon, sFld, sFldAug, tCallK, tSl, tPart, tNoPart, tBM, tBM0, tDGet, tDIn, tDNotIn, sDPut, tDNewK, tM0, tM1, tOrT, tAndT, tNotT, tAsg2, tAsg3, gName, rI0, rI, rU, tYes, L2.start, NdefX.startF, List.set_cons_zero, List.set_cons_succ, List.map_cons, List.map_nil, List.length_cons, List.length_nil, Nat.sub_zero, Nat.reduceSub, Nat.reduceAdd, List.replicate_succ, List.replicate_zero, List.cons_append, List.nil_append, List.append_nil, List.getElem?_cons_zero, List.getElem?_cons_succ, Option.some.injEq, exists_eq_left', exists_eq_left, exists_eq_right, exists_eq_right', exists_and_left, exists_and_right, exists_eq, exists_eq', true_and, and_true, V.int.injEq, V.str.injEq, V.bl.injEq, V.ref.injEq, V.ty.injEq, HO.ins.injEq, HO.lst.injEq, HO.tup.injEq, and_assoc, List.cons.injEq, Bool.not_true, Bool.not_false, Bool.false_eq_true, if_false, if_true, cx_K, upd_same, upd_upd, isi_str, req_ii, req_ss, rne_ii, rne_ss, radd_ii, rsub_ii, atI_at, atI_0, atI_1, atI_2, atI_3, atI_4, rLenL, rLenU, rIxLL, rIxU, reduceCtorEq, gTup, gCons, gNil, tFmt_eq, fmtV_str, fmtV_int, tJs_nil, tJs_cons, jsV_str, iKeys_eq, gSub, rSetL, tPart, tNoPart, tSl, rSlL, false_and, exists_false, or_false, false_or, List.set_cons_zero, List.set_cons_succ]; exact q) ?_
      refine ite2 (fun zd => ?_) fun zd => ?_
      · have zd' := zd
        simp only [Bool.and_eq_true, decide_eq_true_eq] at zd'
        have hsome : ws[i + 1]? = some ("-" : Str) := by
          have hf := zd'.2
          unfold wAt at hf
          cases e : ws[i + 1]? with
          | none => rw [e] at hf; exact absurd hf (by decide +kernel)
          | some y => rw [e] at hf; exact congrArg some hf
        simp only [tSeq, tIfS, tOr, tAnd, tNot, tB, tTest, tCB, tCons, tNil, tVar, tC, tOp, tUn, tRet, tRetN, tDrop, tAsg, tPar, tPar3, tNext, tNever, tBreak, tCont, tAug, tChain, tAndV, tOrV, tNotV, tIf, tIsN, tNotN, tTup, tLst, tCallD, tMethD, tMakeD, tFld, tCon, sFld, sFldAug, tCallK, tSl, tPart, tNoPart, tBM, tBM0, tDGet, tDIn, tDNotIn, sDPut, tDNewK, tM0, tM1, tOrT, tAndT, tNotT, tAsg2, tAsg3, gName, rI0, rI, rU, tYes, L2.start, NdefX.startF, List.set_cons_zero, List.set_cons_succ, List.map_cons, List.map_nil, List.length_cons, List.length_nil, Nat.sub_zero, Nat.reduceSub, Nat.reduceAdd, List.replicate_succ, List.replicate_zero, List.cons_append, List.nil_append, List.append_nil, List.getElem?_cons_zero, List.getElem?_cons_succ, Option.some.injEq, exists_eq_left', exists_eq_left, exists_eq_right, exists_eq_right', exists_and_left, exists_and_right, exists_eq, exists_eq', true_and, and_true, V.int.injEq, V.str.injEq, V.bl.injEq, V.ref.injEq, V.ty.injEq, HO.ins.injEq, HO.lst.injEq, HO.tup.injEq, and_assoc, List.cons.injEq, Bool.not_true, Bool.not_false, Bool.false_eq_true, if_false, if_true, cx_K, upd_same, upd_upd, isi_str, req_ii, req_ss, rne_ii, rne_ss, radd_ii, rsub_ii, atI_at, atI_0, atI_1, atI_2, atI_3, atI_4, rLenL, rLenU, rIxLL, rIxU, reduceCtorEq, gTup, gCons, gNil, tFmt_eq, fmtV_str, fmtV_int, tJs_nil, tJs_cons, jsV_str, iKeys_eq, gSub, rSetL, tPart, tNoPart, tSl, rSlL, false_and, exists_false, or_false, false_or, List.set_cons_zero, List.set_cons_succ, hp3, wF_take]
        refine ⟨p, lw, ws, i + 1, ob, rfl, W3, fun y hy _ H4 k4 W4 => ?_, fun q => absurd (q _ hsome) (by decide)⟩
        refine hid_in ?_
        simp only [tSeq, tIfS, tOr, tAnd, tNot, tB, tTest, tCB, tCons, tNil, tVar, tC, tOp, tUn, tRet, tRetN, tDrop, tAsg, tPar, tPar3, tNext, tNever, tBreak, tCont, tAug, tChain, tAndV, tOrV, tNotV, tIf, tIsN, tNotN, tTup, tLst, tCallD, tMethD, tMakeD, tFld, tCon, sFld, sFldAug, tCallK, tSl, tPart, tNoPart, tBM, tBM0, tDGet, tDIn, tDNotIn, sDPut, tDNewK, tM0, tM1, tOrT, tAndT, tNotT, tAsg2, tAsg3, gName, rI0, rI, rU, tYes, L2.start, NdefX.startF, List.set_cons_zero, List.set_cons_succ, List.map_cons, List.map_nil, List.length_cons, List.length_nil, Nat.sub_zero, Nat.reduceSub, Nat.reduceAdd, List.replicate_succ, List.replicate_zero, List.cons_append, List.nil_append, List.append_nil, List.getElem?_cons_zero, List.getElem?_cons_succ, Option.some.injEq, exists_eq_left', exists_eq_left, exists_eq_right, exists_eq_right', exists_and_left, exists_and_right, exists_eq, exists_eq', true_and, and_true, V.int.injEq, V.str.injEq, V.bl.injEq, V.ref.injEq, V.ty.injEq, HO.ins.injEq, HO.lst.injEq, HO.tup.injEq, and_assoc, List.cons.injEq, Bool.not_true, Bool.not_false, Bool.false_eq_true, if_false, if_true, cx_K, upd_same, upd_upd, isi_str, req_ii, req_ss, rne_ii, rne_ss, radd_ii, rsub_ii, atI_at, atI_0, atI_1, atI_2, atI_3, atI_4, rLenL, rLenU, rIxLL, rIxU, reduceCtorEq, gTup, gCons, gNil, tFmt_eq, fmtV_str, fmtV_int, tJs_nil, tJs_cons, jsV_str, iKeys_eq, gSub, rSetL, tPart, tNoPart, tSl, rSlL, false_and, exists_false, or_false, false_or, List.set_cons_zero, List.set_cons_succ]
        refine ⟨sz_le (by decide), fun t ht => ?_⟩
        exact put (i + 2) [] t _ zd'.1 (thm _ (by rw [if_neg zf, if_pos zd])) (Keep.trans (S := [p]) (U := [p]) (Keep.trans (U := [p]) k13 k4 (by simp) (by simp)) (Keep.of (S := []) (same_upd ht)) (by simp) (by simp)) (W4.same (same_upd ht)) upd_same
      · refine ite2 (fun zl => ?_) fun zl => ?_
        · simp only [tSeq, tIfS, tOr, tAnd, tNot, tB, tTest, tCB, tCons, tNil, tVar, tC, tOp, tUn, tRet, tRetN, tDrop, tAsg, tPar, tPar3, tNext, tNever, tBreak, tCont, tAug, tChain, tAndV, tOrV, tNotV, tIf, tIsN, tNotN, tTup, tLst, tCallD, tMethD, tMakeD, tFld, tCon, sFld, sFldAug, tCallK, tSl, tPart, tNoPart, tBM, tBM0, tDGet, tDIn, tDNotIn, sDPut, tDNewK, tM0, tM1, tOrT, tAndT, tNotT, tAsg2, tAsg3, gName, rI0, rI, rU, tYes, L2.start, NdefX.startF, List.set_cons_zero, List.set_cons_succ, List.map_cons, List.map_nil, List.length_cons, List.length_nil, Nat.sub_zero, Nat.reduceSub, Nat.reduceAdd, List.replicate_succ, List.replicate_zero, List.cons_append, List.nil_append, List.append_nil, List.getElem?_cons_zero, List.getElem?_cons_succ, Option.some.injEq, exists_eq_left', exists_eq_left, exists_eq_right, exists_eq_right', exists_and_left, exists_and_right, exists_eq, exists_eq', true_and, and_true, V.int.injEq, V.str.injEq, V.bl.injEq, V.ref.injEq, V.ty.injEq, HO.ins.injEq, HO.lst.injEq, HO.tup.injEq, and_assoc, List.cons.injEq, Bool.not_true, Bool.not_false, Bool.false_eq_true, if_false, if_true, cx_K, upd_same, upd_upd, isi_str, req_ii, req_ss, rne_ii, rne_ss, radd_ii, rsub_ii, atI_at, atI_0, atI_1, atI_2, atI_3, atI_4, rLenL, rLenU, rIxLL, rIxU, reduceCtorEq, gTup, gCons, gNil, tFmt_eq, fmtV_str, fmtV_int, tJs_nil, tJs_cons, jsV_str, iKeys_eq, gSub, rSetL, tPart, tNoPart, tSl, rSlL, false_and, exists_false, or_false, false_or, List.set_cons_zero, List.set_cons_succ, hp3, wF_take_said]
          refine ⟨p, lw, ws, i + 1, ob, rfl, W3, fun y hy hwy H4 k4 W4 => ?_, fun hno => er3 _ (thm _ ?_)⟩
          case refine_2 =>
            rw [if_neg zf, if_neg zd, if_pos zl, if_neg]
            unfold wAt
            cases e : ws[i + 1]? with
            | none => decide +kernel
            | some y => rw [show (some y).getD ("" : Str) = y from rfl, hno y e]; simp
          refine ⟨sz_le (by decide), fun q hq => ?_⟩
          have hthing : thingM ws i cs (lD ls) = .inr (i + 1 + (saidM ws (i + 1)).length, cs, lD ls ++ [(x, saidM ws (i + 1))]) := thm _ (by
            rw [if_neg zf, if_neg zd, if_pos zl, if_pos]
            unfold wAt; rw [hy]; exact hwy)
          have hs := said_pos (ws := ws) (i := i + 1) (by unfold wAt; rw [hy]; exact hwy)
          have ey : ws[i + 1]'hs.2 = y := by rw [List.getElem?_eq_getElem hs.2] at hy; exact Option.some.inj hy
          have sz := W.sz
          have nqp : q ≠ p := fun e => by
            obtain ⟨_, e2⟩ := W4.ob
            rw [← e, hq] at e2
            cases e2
          have k4' : Keep [p] H H4 := Keep.trans (U := [p]) k13 k4 (by simp) (by simp)
          have kq0 : H q = none := by
            cases e : H q with
            | none => rfl
            | some o => rw [k4' q o e (by simpa using nqp)] at hq; cases hq
          refine hid_in ?_
          refine ⟨fun m σ H' => ∃ n, n + 1 + m = (saidM ws (i + 1)).length ∧ σ = [some (.ref p), some (.ref c), some (.ref l), some (.str x), some (.bl (isCM cs (lD ls) x)), some (.bl (isLM cs (lD ls) x)), some (.str (wAt ws (i + 1))), some (.ref q)] ∧
            Keep [p] H H' ∧ WdAt CW H' p lw ws (i + 1 + (n + 1)) ob ∧ H' q = some (.lst (((saidM ws (i + 1)).take (n + 1)).map V.str)), ⟨(saidM ws (i + 1)).length - 1, 0, by omega, rfl, ?_, ?_, ?_⟩, ?_⟩
          · exact Keep.trans (U := [p]) k4' (Keep.of (S := []) (same_upd hq)) (by simp) (by simp)
          · exact W4.same (same_upd hq)
          · rw [upd_same]
            have : (saidM ws (i + 1)).take 1 = [y] := by
              unfold saidM
              rw [List.drop_eq_getElem_cons hs.2, ey, List.takeWhile_cons_of_pos hwy]
              rfl
            rw [this]
            rfl
          rintro m σ H5 ⟨n, hm, rfl, k5, W5, hq5⟩
          obtain ⟨dx5, hp5⟩ := W5.ob
          have hl5 := W5.li
          have fin : ∀ H6, Same H5 H6 → n + 1 = (saidM ws (i + 1)).length → hid (sDPut (tVar 2) (tVar 3) (tCB (fun xs H Q => ∃ p, xs = [V.ref p] ∧ ∃ x, (SqL K H p x ∧ ∀ (l : Addr), H l = none → Q (V.ref l) (upd H l (HO.tup x))) ∨ SqT K H p x ∧ Q (V.ref p) H) (tCons (tVar 7) tNil))) { nx := fun x H' => Q V.non H', rt := Q }
              [some (.ref p), some (.ref c), some (.ref l), some (.str x), some (.bl (isCM cs (lD ls) x)), some (.bl (isLM cs (lD ls) x)), some (.str (wAt ws (i + 1))), some (.ref q)] H6 := fun H6 s6 hn => by
            refine hid_in ?_
            simp only [tSeq, tIfS, tOr, tAnd, tNot, tB, tTest, tCB, tCons, tNil, tVar, tC, tOp, tUn, tRet, tRetN, tDrop, tAsg, tPar, tPar3, tNext, tNever, tBreak, tCont, tAug, tChain, tAndV, tOrV, tNotV, tIf, tIsN, tNotN, tTup, tLst, tCallD, tMethD, tMakeD, tFld, tCon, sFld, sFldAug, tCallK, tSl, tPart, tNoPart, tBM, tBM0, tDGet, tDIn, tDNotIn, sDPut, tDNewK, tM0, tM1, tOrT, tAndT, tNotT, tAsg2, tAsg3, gName, rI0, rI, rU, tYes, L2.start, NdefX.startF, List.set_cons_zero, List.set_cons_succ, List.map_cons, List.map_nil, List.length_cons, List.length_nil, Nat.sub_zero, Nat.reduceSub, Nat.reduceAdd, List.replicate_succ, List.replicate_zero, List.cons_append, List.nil_append, List.append_nil, List.getElem?_cons_zero, List.getElem?_cons_succ, Option.some.injEq, exists_eq_left', exists_eq_left, exists_eq_right, exists_eq_right', exists_and_left, exists_and_right, exists_eq, exists_eq', true_and, and_true, V.int.injEq, V.str.injEq, V.bl.injEq, V.ref.injEq, V.ty.injEq, HO.ins.injEq, HO.lst.injEq, HO.tup.injEq, and_assoc, List.cons.injEq, Bool.not_true, Bool.not_false, Bool.false_eq_true, if_false, if_true, cx_K, upd_same, upd_upd, isi_str, req_ii, req_ss, rne_ii, rne_ss, radd_ii, rsub_ii, atI_at, atI_0, atI_1, atI_2, atI_3, atI_4, rLenL, rLenU, rIxLL, rIxU, reduceCtorEq, gTup, gCons, gNil, tFmt_eq, fmtV_str, fmtV_int, tJs_nil, tJs_cons, jsV_str, iKeys_eq, gSub, rSetL, tPart, tNoPart, tSl, rSlL, false_and, exists_false, or_false, false_or, List.set_cons_zero, List.set_cons_succ]
            refine ⟨_, .inl ⟨SqL.of (s6 _ _ hq5), fun t ht => ?_⟩⟩
            rw [hn, List.take_length]
            exact put (i + 1 + (saidM ws (i + 1)).length) _ t _ zl hthing (Keep.trans (U := [p]) k5 (Keep.of (S := []) (same_new s6 ht)) (by simp) (by simp)) (by rw [← hn]; exact W5.same (same_new s6 ht)) upd_same
          have st := said_step (ws := ws) (a := i + 1) (k := n + 1) (by omega)
          simp only [tSeq, tIfS, tOr, tAnd, tNot, tB, tTest, tCB, tCons, tNil, tVar, tC, tOp, tUn, tRet, tRetN, tDrop, tAsg, tPar, tPar3, tNext, tNever, tBreak, tCont, tAug, tChain, tAndV, tOrV, tNotV, tIf, tIsN, tNotN, tTup, tLst, tCallD, tMethD, tMakeD, tFld, tCon, sFld, sFldAug, tCallK, tSl, tPart, tNoPart, tBM, tBM0, tDGet, tDIn, tDNotIn, sDPut, tDNewK, tM0, tM1, tOrT, tAndT, tNotT, tAsg2, tAsg3, gName, rI0, rI, rU, tYes, L2.start, NdefX.startF, List.set_cons_zero, List.set_cons_succ, List.map_cons, List.map_nil, List.length_cons, List.length_nil, Nat.sub_zero, Nat.reduceSub, Nat.reduceAdd, List.replicate_succ, List.replicate_zero, List.cons_append, List.nil_append, List.append_nil, List.getElem?_cons_zero, List.getElem?_cons_succ, Option.some.injEq, exists_eq_left', exists_eq_left, exists_eq_right, exists_eq_right', exists_and_left, exists_and_right, exists_eq, exists_eq', true_and, and_true, V.int.injEq, V.str.injEq, V.bl.injEq, V.ref.injEq, V.ty.injEq, HO.ins.injEq, HO.lst.injEq, HO.tup.injEq, and_assoc, List.cons.injEq, Bool.not_true, Bool.not_false, Bool.false_eq_true, if_false, if_true, cx_K, upd_same, upd_upd, isi_str, req_ii, req_ss, rne_ii, rne_ss, radd_ii, rsub_ii, atI_at, atI_0, atI_1, atI_2, atI_3, atI_4, rLenL, rLenU, rIxLL, rIxU, reduceCtorEq, gTup, gCons, gNil, tFmt_eq, fmtV_str, fmtV_int, tJs_nil, tJs_cons, jsV_str, iKeys_eq, gSub, rSetL, tPart, tNoPart, tSl, rSlL, false_and, exists_false, or_false, false_or, List.set_cons_zero, List.set_cons_succ, hp5, hl5, C.cl, C.nS, C.nW, wF_words, wF_spot, wF_take, List.length_map]
          refine ite2 (fun zj => ?_) fun zj => ?_
          · have hj : i + 1 + (n + 1) < ws.length := by have := of_decide_eq_true zj; omega
            have hx5 := List.getElem?_eq_getElem hj
            refine ⟨.str (ws[i + 1 + (n + 1)]), by rw [List.getElem?_map, hx5]; rfl, ws[i + 1 + (n + 1)], rfl, W.wz _ (List.getElem_mem hj), fun H6 s6 => ?_⟩
            have hp6 := s6 _ _ hp5
            simp only [tSeq, tIfS, tOr, tAnd, tNot, tB, tTest, tCB, tCons, tNil, tVar, tC, tOp, tUn, tRet, tRetN, tDrop, tAsg, tPar, tPar3, tNext, tNever, tBreak, tCont, tAug, tChain, tAndV, tOrV, tNotV, tIf, tIsN, tNotN, tTup, tLst, tCallD, tMethD, tMakeD, tFld, tCon, sFld, sFldAug, tCallK, tSl, tPart, tNoPart, tBM, tBM0, tDGet, tDIn, tDNotIn, sDPut, tDNewK, tM0, tM1, tOrT, tAndT, tNotT, tAsg2, tAsg3, gName, rI0, rI, rU, tYes, L2.start, NdefX.startF, List.set_cons_zero, List.set_cons_succ, List.map_cons, List.map_nil, List.length_cons, List.length_nil, Nat.sub_zero, Nat.reduceSub, Nat.reduceAdd, List.replicate_succ, List.replicate_zero, List.cons_append, List.nil_append, List.append_nil, List.getElem?_cons_zero, List.getElem?_cons_succ, Option.some.injEq, exists_eq_left', exists_eq_left, exists_eq_right, exists_eq_right', exists_and_left, exists_and_right, exists_eq, exists_eq', true_and, and_true, V.int.injEq, V.str.injEq, V.bl.injEq, V.ref.injEq, V.ty.injEq, HO.ins.injEq, HO.lst.injEq, HO.tup.injEq, and_assoc, List.cons.injEq, Bool.not_true, Bool.not_false, Bool.false_eq_true, if_false, if_true, cx_K, upd_same, upd_upd, isi_str, req_ii, req_ss, rne_ii, rne_ss, radd_ii, rsub_ii, atI_at, atI_0, atI_1, atI_2, atI_3, atI_4, rLenL, rLenU, rIxLL, rIxU, reduceCtorEq, gTup, gCons, gNil, tFmt_eq, fmtV_str, fmtV_int, tJs_nil, tJs_cons, jsV_str, iKeys_eq, gSub, rSetL, tPart, tNoPart, tSl, rSlL, false_and, exists_false, or_false, false_or, List.set_cons_zero, List.set_cons_succ, hp6, wF_take]
            refine ite2 (fun zw => ?_) fun zw => ?_
            · have hlt := st.2 _ hx5 zw
              obtain ⟨x6, hx6, _, hs6⟩ := st.1 hlt
              rw [hx5] at hx6
              cases hx6
              refine ⟨fun σ' H' => ∃ m', m' < m ∧ ∃ n, n + 1 + m' = (saidM ws (i + 1)).length ∧ σ' = [some (.ref p), some (.ref c), some (.ref l), some (.str x), some (.bl (isCM cs (lD ls) x)), some (.bl (isLM cs (lD ls) x)), some (.str (wAt ws (i + 1))), some (.ref q)] ∧
                Keep [p] H H' ∧ WdAt CW H' p lw ws (i + 1 + (n + 1)) ob ∧ H' q = some (.lst (((saidM ws (i + 1)).take (n + 1)).map V.str)), fun _ _ h => h, tyV_lst (s6 _ _ hq5), p, lw, ws, i + 1 + (n + 1), ob, rfl, W5.same s6, fun x7 hx7 _ H7 k7 W7 => ?_, fun qq => absurd (qq _ hx5) (by simp)⟩
              rw [hx5] at hx7
              cases hx7
              have hq7 := k7 _ _ (s6 _ _ hq5) (by simpa using nqp)
              refine ⟨q, _, _, rfl, rfl, hq7, ?_, m - 1, by omega, n + 1, by omega, rfl, ?_, ?_, ?_⟩
              · refine sz_lt ?_
                rw [List.length_map, List.length_take]
                have := said_le ws (i + 1)
                omega
              · have k57 : Keep [p] H H7 := Keep.trans (U := [p]) (Keep.trans (U := [p]) k5 (Keep.of (S := []) s6) (by simp) (by simp)) k7 (by simp) (by simp)
                exact fun b o e nb => by rw [upd_ne (ne_of_none e kq0)]; exact k57 b o e nb
              · exact W7.keep (S := [q]) keep_upd (by simpa using nqp.symm) (by simpa using ne_of_none W.li kq0)
              · rw [upd_same, List.take_succ (i := n + 1), hs6]
                simp
            · exact fin H6 s6 (by
                have : ¬ n + 1 < (saidM ws (i + 1)).length := fun h => by
                  obtain ⟨x6, hx6, hw6, _⟩ := st.1 h
                  rw [hx5] at hx6
                  cases hx6
                  exact zw hw6
                omega)
          · exact fin H5 (Same.refl H5) (by
              have : ¬ n + 1 < (saidM ws (i + 1)).length := fun h => by
                obtain ⟨x6, hx6, _, _⟩ := st.1 h
                have hj := (List.getElem?_eq_some_iff.mp hx6).1
                exact absurd (decide_eq_true (show ((i + 1 + (n + 1) : Nat) : Int) < (ws.length : Int) by omega)) (by simpa using zj)
              omega)
        · simp only [tSeq, tIfS, tOr, tAnd, tNot, tB, tTest, tCB, tCons, tNil, tVar, tC, tOp, tUn, tRet, tRetN, tDrop, tAsg, tPar, tPar3, tNext, tNever, tBreak, tCont, tAug, tChain, tAndV, tOrV, tNotV, tIf, tIsN, tNotN, tTup, tLst, tCallD, tMethD, tMakeD, tFld, tCon, sFld, sFldAug, tCallK, tSl, tPart, tNoPart, tBM, tBM0, tDGet, tDIn, tDNotIn, sDPut, tDNewK, tM0, tM1, tOrT, tAndT, tNotT, tAsg2, tAsg3, gName, rI0, rI, rU, tYes, L2.start, NdefX.startF, List.set_cons_zero, List.set_cons_succ, List.map_cons, List.map_nil, List.length_cons, List.length_nil, Nat.sub_zero, Nat.reduceSub, Nat.reduceAdd, List.replicate_succ, List.replicate_zero, List.cons_append, List.nil_append, List.append_nil, List.getElem?_cons_zero, List.getElem?_cons_succ, Option.some.injEq, exists_eq_left', exists_eq_left, exists_eq_right, exists_eq_right', exists_and_left, exists_and_right, exists_eq, exists_eq', true_and, and_true, V.int.injEq, V.str.injEq, V.bl.injEq, V.ref.injEq, V.ty.injEq, HO.ins.injEq, HO.lst.injEq, HO.tup.injEq, and_assoc, List.cons.injEq, Bool.not_true, Bool.not_false, Bool.false_eq_true, if_false, if_true, cx_K, upd_same, upd_upd, isi_str, req_ii, req_ss, rne_ii, rne_ss, radd_ii, rsub_ii, atI_at, atI_0, atI_1, atI_2, atI_3, atI_4, rLenL, rLenU, rIxLL, rIxU, reduceCtorEq, gTup, gCons, gNil, tFmt_eq, fmtV_str, fmtV_int, tJs_nil, tJs_cons, jsV_str, iKeys_eq, gSub, rSetL, tPart, tNoPart, tSl, rSlL, false_and, exists_false, or_false, false_or, List.set_cons_zero, List.set_cons_succ, hp3, wF_refuse]
          exact ⟨p, lw, ws, i + 1, ob, rfl, W3, (er3 (i + 1) (thm _ (by rw [if_neg zf, if_neg zd, if_neg zl]))).bare⟩
end
end Ky

set_option Elab.async false
set_option maxRecDepth 100000
set_option maxHeartbeats 4000000
set_option linter.all false
namespace Ky
open PySem L2 Ly
theorem TabOk.mono {i j : Nat} {cs : CsL} {ls : LsL} (T : TabOk i cs ls) (h : i ≤ j) : TabOk j cs ls := ⟨T.pc, T.pl, T.nc, T.nl, Nat.le_trans T.n h⟩
theorem none_of {S : List Addr} {H H' : Hp} {b : Addr} (k : Keep S H H') (h : H' b = none) (hb : b ∉ S) : H b = none := by
  cases e : H b with
  | none => rfl
  | some o => rw [k b o e hb] at h; cases h
def REI (CW : Addr) (H : Hp) (p lw : Addr) (ws : List Str) (i : Nat) (ob : Int) (c l : Addr) (x : Str) (f : Option Str) (m : Nat) (σ : L2.St) (H' : Hp) : Prop :=
  ∃ (j : Nat) (cs : CsL) (ls : List (Str × Addr × List Str)), σ = [some (.ref p), some (.str x), some (failV f), some (.ref c), some (.ref l)] ∧ Keep [p] H H' ∧ WdAt CW H' p lw ws j ob ∧ TabAt H' c l cs ls ∧ TabOk j cs (lD ls) ∧
        loopM ws f m j cs (lD ls) = endM ws i ∧ ws.length < j + m ∧ i < j
def spRE (CW CB CE : Addr) : Sp := fun vs H Q E => ∃ (p lw : Addr) (ws : List Str) (i : Nat) (ob : Int), vs = [.ref p] ∧ WdAt CW H p lw ws i ob ∧ (∀ k, endM ws i = .inl k → Err E CB [p] k H) ∧
  ∀ j e, endM ws i = .inr (j, e) → ∀ q H', Keep [p] H H' → H q = none → WdAt CW H' p lw ws j ob → EndAt CE H' q e → FitE e → i < j → Q (.ref q) H'
section
variable {w : World} {K : PySem.W.Frag} {mg : Str → Option Value} {base : Heap} {aK aF CB CP CE CW : Addr}
abbrev s_read_end : Stmt := top 20
theorem sc_read_end : FnScope ["words", "begin", "failed", "cells", "logs"] ["words"] (defScope s_read_end) := ⟨rfl, rfl, rfl, by decide +kernel, rfl, by decide +kernel, by decide +kernel⟩
theorem ok_read_end {f : Addr} {fd : FuncData} (F : Fun K "read_end" "read_end" s_read_end f fd) (T : Tx K mg aK aF) (C : WC K CW) (CEc : EC K CE) (D_read_thing : Df PP w K mg base 7 "read_thing" ["words", "cells", "logs"] (spThing K CW CB)) (C_End : Dc PP w K mg base 2 "End" CE ["self", "failed", "cells", "logs"] (spEI CE))
    (M_take : Dm PP w K mg base 4 CW "take" ["self"] (spTake CW CB fun _ => true)) (M_take_name : Dm PP w K mg base 5 CW "take_name" ["self"] (spTake CW CB isNameM)) (M_take_one : Dm PP w K mg base 5 CW "take_one" ["self", "words"] (spTakeOne K CW CB)) (M_is_next : Dm PP w K mg base 1 CW "is_next" ["self", "word"] (spNext CW)) :
    FnOk PP w K mg base (L2.CX PP w) 8 f fd ["words"] (spRE CW CB CE) := by
  refine F.okX sc_read_end (fun vs H Q E h => ?_) (fun cdv A outer s H vs Q E hr h => ?_)
  · obtain ⟨p, lw, ws, i, ob, rfl, _⟩ := h; rfl
  · obtain ⟨p, lw, ws, i, ob, rfl, W, er, k⟩ := h
    obtain ⟨dx, hp⟩ := W.ob
    have hu := hu_of hr
    refine ⟨_, (pss_cons (ps_set (i := 1) sc_read_end.nd rfl (Or.inl rfl) (pe_dm M_take_one (hr.mono (by decide)) (passE (E := E)) (pv 0) (pa_cons (pe_tup (pa_cons pe_str (pa_cons pe_str pa_nil))) pa_nil)))
      (pss_hid (pss_cons (ps_par3 (i := 2) (j := 3) (l := 4) (by rfl) sc_read_end.nd rfl rfl rfl (by decide) (by decide) (by decide) rfl rfl rfl (pa_cons pe_non (pa_cons pe_dnewK (pa_cons pe_dnewK pa_nil))) (by rfl))
      (pss_hid (pss_cons (ps_if (pt_cmpR op_eq (pv 1) pe_str (nomark _)) (pss_one (ps_set (i := 2) sc_read_end.nd rfl (Or.inl rfl) (pe_dm0 M_take_name (hr.mono (by decide)) (passE (E := E)) (pv 0)))) pss_nil)
      (pss_hid (pss_cons (ps_while (passes_of rfl) (pt_val (pe_dm M_is_next (hr.mono (by decide)) passL (pv 0) (pa_cons pe_str pa_nil))) (pss_cons (ps_expr (pe_dm0 M_take (hr.mono (by decide)) (passE (E := E)) (pv 0)))
      (pss_hid (pss_one (ps_expr (pe_df D_read_thing (hr.mono (by decide)) (passE (E := E)) (pa_cons (pv 0) (pa_cons (pv 3) (pa_cons (pv 4) pa_nil)))))))))
      (pss_hid (pss_one (ps_ret (pe_dc C_End (hr.mono (by decide)) passL (pa_cons (pv 2) (pa_cons (pv 3) (pa_cons (pv 4) pa_nil)))))))))))))), ?_⟩
    simp only [tSeq, tIfS, tOr, tAnd, tNot, tB, tTest, tCB, tCons, tNil, tVar, tC, tOp, tUn, tRet, tRetN, tDrop, tAsg, tPar, tPar3, tNext, tNever, tBreak, tCont, tAug, tChain, tAndV, tOrV, tNotV, tIf, tIsN, tNotN, tTup, tLst, tCallD, tMethD, tMakeD, tFld, tCon, sFld, sFldAug, tCallK, tSl, tPart, tNoPart, tBM, tBM0, tDGet, tDIn, tDNotIn, sDPut, tDNewK, tM0, tM1, tOrT, tAndT, tNotT, tAsg2, tAsg3, gName, rI0, rI, rU, tYes, L2.start, NdefX.startF, List.set_cons_zero, List.set_cons_succ, List.map_cons, List.map_nil, List.length_cons, List.length_nil, Nat.sub_zero, Nat.reduceSub, Nat.reduceAdd, List.replicate_succ, List.replicate_zero, List.cons_append, List.nil_append, List.append_nil, List.getElem?_cons_zero, List.getElem?_cons_succ, Option.some.injEq, exists_eq_left', exists_eq_left, exists_eq_right, exists_eq_right', exists_and_left, exists_and_right, exists_eq, exists_eq', true_and, and_true, V.int.injEq, V.str.injEq, V.bl.injEq, V.ref.injEq, V.ty.injEq, HO.ins.injEq, HO.lst.injEq, HO.tup.injEq, and_assoc, List.cons.injEq, Bool.not_true, Bool.not_false, Bool.false_eq_true, if_false, if_true, cx_K, upd_same, upd_upd, isi_str, req_ii, req_ss, rne_ii, rne_ss, radd_ii, rsub_ii, atI_at, atI_0, atI_1, atI_2, atI_3, atI_4, rLenL, rLenU, rIxLL, rIxU, reduceCtorEq, gTup, gCons, gNil, tFmt_eq, fmtV_str, fmtV_int, tJs_nil, tJs_cons, jsV_str, iKeys_eq, gSub, rSetL, tPart, tNoPart, tSl, rSlL, false_and, exists_false, or_false, false_or, List.set_cons_zero, List.set_cons_succ, hp, wF_take_one]
    refine ⟨sz_le (by decide), fun t ht => ?_⟩
    have ntp : p ≠ t := ne_of_none hp ht
    have W0 := W.same (same_upd (o := .tup [.str "done", .str "failed"]) ht)
    have er0 : ∀ k, endM ws i = .inl k → Err E CB [p] k (upd H t (.tup [.str "done", .str "failed"])) := fun k hk => (er k hk).after (Keep.of (S := []) (same_upd ht)) (by simp) (by simp)
    refine ⟨p, lw, t, ws, ["done", "failed"], i, ob, rfl, SqT.of upd_same, W0, fun x hx hxb H1 k1 W1 => ?_, fun hno => er0 i ?_⟩
    case refine_2 =>
      unfold endM wAt
      cases e : ws[i]? with
      | none => rw [if_neg (by decide +kernel), if_neg (by decide +kernel)]
      | some x =>
        have := hno x e
        simp only [List.mem_cons, List.not_mem_nil, or_false, decide_eq_false_iff_not, not_or] at this
        rw [if_neg (by exact this.1), if_neg (by exact this.2)]
    have ex : wAt ws i = x := by unfold wAt; rw [hx]; rfl
    have kH1 : Keep [p] H H1 := Keep.trans (U := [p]) (Keep.of (S := []) (same_upd ht)) k1 (by simp) (by simp)
    obtain ⟨dx1, hp1⟩ := W1.ob
    refine hid_in ?_
    simp only [tSeq, tIfS, tOr, tAnd, tNot, tB, tTest, tCB, tCons, tNil, tVar, tC, tOp, tUn, tRet, tRetN, tDrop, tAsg, tPar, tPar3, tNext, tNever, tBreak, tCont, tAug, tChain, tAndV, tOrV, tNotV, tIf, tIsN, tNotN, tTup, tLst, tCallD, tMethD, tMakeD, tFld, tCon, sFld, sFldAug, tCallK, tSl, tPart, tNoPart, tBM, tBM0, tDGet, tDIn, tDNotIn, sDPut, tDNewK, tM0, tM1, tOrT, tAndT, tNotT, tAsg2, tAsg3, gName, rI0, rI, rU, tYes, L2.start, NdefX.startF, List.set_cons_zero, List.set_cons_succ, List.map_cons, List.map_nil, List.length_cons, List.length_nil, Nat.sub_zero, Nat.reduceSub, Nat.reduceAdd, List.replicate_succ, List.replicate_zero, List.cons_append, List.nil_append, List.append_nil, List.getElem?_cons_zero, List.getElem?_cons_succ, Option.some.injEq, exists_eq_left', exists_eq_left, exists_eq_right, exists_eq_right', exists_and_left, exists_and_right, exists_eq, exists_eq', true_and, and_true, V.int.injEq, V.str.injEq, V.bl.injEq, V.ref.injEq, V.ty.injEq, HO.ins.injEq, HO.lst.injEq, HO.tup.injEq, and_assoc, List.cons.injEq, Bool.not_true, Bool.not_false, Bool.false_eq_true, if_false, if_true, cx_K, upd_same, upd_upd, isi_str, req_ii, req_ss, rne_ii, rne_ss, radd_ii, rsub_ii, atI_at, atI_0, atI_1, atI_2, atI_3, atI_4, rLenL, rLenU, rIxLL, rIxU, reduceCtorEq, gTup, gCons, gNil, tFmt_eq, fmtV_str, fmtV_int, tJs_nil, tJs_cons, jsV_str, iKeys_eq, gSub, rSetL, tPart, tNoPart, tSl, rSlL, false_and, exists_false, or_false, false_or, List.set_cons_zero, List.set_cons_succ, tPar3]
    refine fun c hc l hl => ?_
    refine hid_in ?_
    simp only [tSeq, tIfS, tOr, tAnd, tNot, tB, tTest, tCB, tCons, tNil, tVar, tC, tOp, tUn, tRet, tRetN, tDrop, tAsg, tPar, tPar3, tNext, tNever, tBreak, tCont, tAug, tChain, tAndV, tOrV, tNotV, tIf, tIsN, tNotN, tTup, tLst, tCallD, tMethD, tMakeD, tFld, tCon, sFld, sFldAug, tCallK, tSl, tPart, tNoPart, tBM, tBM0, tDGet, tDIn, tDNotIn, sDPut, tDNewK, tM0, tM1, tOrT, tAndT, tNotT, tAsg2, tAsg3, gName, rI0, rI, rU, tYes, L2.start, NdefX.startF, List.set_cons_zero, List.set_cons_succ, List.map_cons, List.map_nil, List.length_cons, List.length_nil, Nat.sub_zero, Nat.reduceSub, Nat.reduceAdd, List.replicate_succ, List.replicate_zero, List.cons_append, List.nil_append, List.append_nil, List.getElem?_cons_zero, List.getElem?_cons_succ, Option.some.injEq, exists_eq_left', exists_eq_left, exists_eq_right, exists_eq_right', exists_and_left, exists_and_right, exists_eq, exists_eq', true_and, and_true, V.int.injEq, V.str.injEq, V.bl.injEq, V.ref.injEq, V.ty.injEq, HO.ins.injEq, HO.lst.injEq, HO.tup.injEq, and_assoc, List.cons.injEq, Bool.not_true, Bool.not_false, Bool.false_eq_true, if_false, if_true, cx_K, upd_same, upd_upd, isi_str, req_ii, req_ss, rne_ii, rne_ss, radd_ii, rsub_ii, atI_at, atI_0, atI_1, atI_2, atI_3, atI_4, rLenL, rLenU, rIxLL, rIxU, reduceCtorEq, gTup, gCons, gNil, tFmt_eq, fmtV_str, fmtV_int, tJs_nil, tJs_cons, jsV_str, iKeys_eq, gSub, rSetL, tPart, tNoPart, tSl, rSlL, false_and, exists_false, or_false, false_or, List.set_cons_zero, List.set_cons_succ]
    generalize hR : hid _ = R
    have hc0 : H c = none := none_of kH1 hc (by simpa using (ne_of_none hp1 hc).symm)
    have hlc : l ≠ c := fun e => by rw [e, upd_same] at hl; cases hl
    have hl1 : H1 l = none := by rw [upd_ne hlc] at hl; exact hl
    have hl0 : H l = none := none_of kH1 hl1 (by simpa using (ne_of_none hp1 hl1).symm)
    have sz := W.sz
    have rest : ∀ (f : Option Str) (i1 : Nat) (H3 : Hp), (∀ x, f = some x → isNameM x = true) → endM ws i = loopM ws f (ws.length + 1) i1 [] [] → i < i1 → Keep [p] H H3 → WdAt CW H3 p lw ws i1 ob → H3 c = some (.dK []) → H3 l = some (.dK []) →
        R { nx := fun x H' => Q V.non H', rt := Q } [some (.ref p), some (.str x), some (failV f), some (.ref c), some (.ref l)] H3 := fun f i1 H3 hf hth hi1 k3 W3 hc3 hl3 => by
      rw [← hR]
      refine hid_in ?_
      refine ⟨REI CW H p lw ws i ob c l x f, ⟨ws.length + 1, i1, [], [], rfl, k3, W3, ⟨hc3, hl3, hlc.symm, (fun _ z => nomatch z)⟩, TabOk.nil _, hth.symm, by omega, hi1⟩, ?_⟩
      rintro m σ H4 ⟨j, cs, ls, rfl, k4, W4, tab4, ok4, hl4, hm, hij⟩
      obtain ⟨dx4, hp4⟩ := W4.ob
      simp only [tSeq, tIfS, tOr, tAnd, tNot, tB, tTest, tCB, tCons, tNil, tVar, tC, tOp, tUn, tRet, tRetN, tDrop, tAsg, tPar, tPar3, tNext, tNever, tBreak, tCont, tAug, tChain, tAndV, tOrV, tNotV, tIf, tIsN, tNotN, tTup, tLst, tCallD, tMethD, tMakeD, tFld, tCon, sFld, sFldAug, tCallK, tSl, tPart, tNoPart, tBM, tBM0, tDGet, tDIn, tDNotIn, sDPut, tDNewK, tM0, tM1, tOrT, tAndT, tNotT, tAsg2, tAsg3, gName, rI0, rI, rU, tYes, L2.start, NdefX.startF, List.set_cons_zero, List.set_cons_succ, List.map_cons, List.map_nil, List.length_cons, List.length_nil, Nat.sub_zero, Nat.reduceSub, Nat.reduceAdd, List.replicate_succ, List.replicate_zero, List.cons_append, List.nil_append, List.append_nil, List.getElem?_cons_zero, List.getElem?_cons_succ, Option.some.injEq, exists_eq_left', exists_eq_left, exists_eq_right, exists_eq_right', exists_and_left, exists_and_right, exists_eq, exists_eq', true_and, and_true, V.int.injEq, V.str.injEq, V.bl.injEq, V.ref.injEq, V.ty.injEq, HO.ins.injEq, HO.lst.injEq, HO.tup.injEq, and_assoc, List.cons.injEq, Bool.not_true, Bool.not_false, Bool.false_eq_true, if_false, if_true, cx_K, upd_same, upd_upd, isi_str, req_ii, req_ss, rne_ii, rne_ss, radd_ii, rsub_ii, atI_at, atI_0, atI_1, atI_2, atI_3, atI_4, rLenL, rLenU, rIxLL, rIxU, reduceCtorEq, gTup, gCons, gNil, tFmt_eq, fmtV_str, fmtV_int, tJs_nil, tJs_cons, jsV_str, iKeys_eq, gSub, rSetL, tPart, tNoPart, tSl, rSlL, false_and, exists_false, or_false, false_or, List.set_cons_zero, List.set_cons_succ, hp4, wF_is_next]
      refine ⟨p, lw, ws, j, ob, ";", rfl, W4, ?_⟩
      simp only [tSeq, tIfS, tOr, tAnd, tNot, tB, tTest, tCB, tCons, tNil, tVar, tC, tOp, tUn, tRet, tRetN, tDrop, tAsg, tPar, tPar3, tNext, tNever, tBreak, tCont, tAug, tChain, tAndV, tOrV, tNotV, tIf, tIsN, tNotN, tTup, tLst, tCallD, tMethD, tMakeD, tFld, tCon, sFld, sFldAug, tCallK, tSl, tPart, tNoPart, tBM, tBM0, tDGet, tDIn, tDNotIn, sDPut, tDNewK, tM0, tM1, tOrT, tAndT, tNotT, tAsg2, tAsg3, gName, rI0, rI, rU, tYes, L2.start, NdefX.startF, List.set_cons_zero, List.set_cons_succ, List.map_cons, List.map_nil, List.length_cons, List.length_nil, Nat.sub_zero, Nat.reduceSub, Nat.reduceAdd, List.replicate_succ, List.replicate_zero, List.cons_append, List.nil_append, List.append_nil, List.getElem?_cons_zero, List.getElem?_cons_succ, Option.some.injEq, exists_eq_left', exists_eq_left, exists_eq_right, exists_eq_right', exists_and_left, exists_and_right, exists_eq, exists_eq', true_and, and_true, V.int.injEq, V.str.injEq, V.bl.injEq, V.ref.injEq, V.ty.injEq, HO.ins.injEq, HO.lst.injEq, HO.tup.injEq, and_assoc, List.cons.injEq, Bool.not_true, Bool.not_false, Bool.false_eq_true, if_false, if_true, cx_K, upd_same, upd_upd, isi_str, req_ii, req_ss, rne_ii, rne_ss, radd_ii, rsub_ii, atI_at, atI_0, atI_1, atI_2, atI_3, atI_4, rLenL, rLenU, rIxLL, rIxU, reduceCtorEq, gTup, gCons, gNil, tFmt_eq, fmtV_str, fmtV_int, tJs_nil, tJs_cons, jsV_str, iKeys_eq, gSub, rSetL, tPart, tNoPart, tSl, rSlL, false_and, exists_false, or_false, false_or, List.set_cons_zero, List.set_cons_succ, hp4, wF_take]
      refine ite2 (fun z => ?_) fun z => ?_
      · have hs := of_decide_eq_true z
        have hj : j < ws.length := (List.getElem?_eq_some_iff.mp hs).1
        refine ⟨fun σ' H' => ∃ m', m' < m ∧ REI CW H p lw ws i ob c l x f m' σ' H', fun _ _ h => h, p, lw, ws, j, ob, rfl, W4, fun y hy _ H5 k5 W5 => ?_, fun q => absurd (q _ hs) (by simp)⟩
        refine hid_in ?_
        simp only [tSeq, tIfS, tOr, tAnd, tNot, tB, tTest, tCB, tCons, tNil, tVar, tC, tOp, tUn, tRet, tRetN, tDrop, tAsg, tPar, tPar3, tNext, tNever, tBreak, tCont, tAug, tChain, tAndV, tOrV, tNotV, tIf, tIsN, tNotN, tTup, tLst, tCallD, tMethD, tMakeD, tFld, tCon, sFld, sFldAug, tCallK, tSl, tPart, tNoPart, tBM, tBM0, tDGet, tDIn, tDNotIn, sDPut, tDNewK, tM0, tM1, tOrT, tAndT, tNotT, tAsg2, tAsg3, gName, rI0, rI, rU, tYes, L2.start, NdefX.startF, List.set_cons_zero, List.set_cons_succ, List.map_cons, List.map_nil, List.length_cons, List.length_nil, Nat.sub_zero, Nat.reduceSub, Nat.reduceAdd, List.replicate_succ, List.replicate_zero, List.cons_append, List.nil_append, List.append_nil, List.getElem?_cons_zero, List.getElem?_cons_succ, Option.some.injEq, exists_eq_left', exists_eq_left, exists_eq_right, exists_eq_right', exists_and_left, exists_and_right, exists_eq, exists_eq', true_and, and_true, V.int.injEq, V.str.injEq, V.bl.injEq, V.ref.injEq, V.ty.injEq, HO.ins.injEq, HO.lst.injEq, HO.tup.injEq, and_assoc, List.cons.injEq, Bool.not_true, Bool.not_false, Bool.false_eq_true, if_false, if_true, cx_K, upd_same, upd_upd, isi_str, req_ii, req_ss, rne_ii, rne_ss, radd_ii, rsub_ii, atI_at, atI_0, atI_1, atI_2, atI_3, atI_4, rLenL, rLenU, rIxLL, rIxU, reduceCtorEq, gTup, gCons, gNil, tFmt_eq, fmtV_str, fmtV_int, tJs_nil, tJs_cons, jsV_str, iKeys_eq, gSub, rSetL, tPart, tNoPart, tSl, rSlL, false_and, exists_false, or_false, false_or, List.set_cons_zero, List.set_cons_succ]
        obtain ⟨m1, rfl⟩ : ∃ m1, m = m1 + 1 := ⟨m - 1, by omega⟩
        unfold loopM at hl4
        rw [if_pos hs] at hl4
        have hnpc : c ≠ p := ne_of tab4.atC hp4 (by intro z; cases z)
        have hnpl : l ≠ p := ne_of tab4.atL hp4 (by intro z; cases z)
        have tab5 := tab4.keep k5 (by simpa using hnpc) (by simpa using hnpl) fun y hy => by simpa using ne_of (tab4.atT y hy) hp4 (by intro z; cases z)
        have kH5 : Keep [p] H H5 := Keep.trans (U := [p]) k4 k5 (by simp) (by simp)
        refine ⟨p, c, l, lw, ws, j + 1, ob, cs, ls, rfl, W5, tab5, ok4.mono (by omega), fun kk hkk => ?_, fun j2 cs2 ls2 h2 H6 k6 W6 tab6 => ?_⟩
        · rw [hkk] at hl4
          exact (er kk hl4.symm).after kH5 (by simp) (by simp)
        · rw [h2] at hl4
          obtain ⟨o1, o2, o3⟩ := TabOk.thing (ok4.mono (by omega)) h2
          refine ⟨m1, by omega, j2, cs2, ls2, rfl, ?_, W6, tab6, o1, hl4, by omega, by omega⟩
          exact fun b o e nb => k6 b o (kH5 b o e nb) (by
            simp only [List.mem_cons, List.not_mem_nil, or_false, not_or] at nb ⊢
            exact ⟨nb, ne_of_none e hc0, ne_of_none e hl0⟩)
      · have hs : ¬ ws[j]? = some (";" : Str) := by simpa using z
        have hth4 : endM ws i = .inr (j, ⟨f, cs, lD ls⟩) := by
          rw [← hl4]
          cases m with
          | zero => rfl
          | succ m => unfold loopM; rw [if_neg hs]
        refine hid_in ?_
        simp only [tSeq, tIfS, tOr, tAnd, tNot, tB, tTest, tCB, tCons, tNil, tVar, tC, tOp, tUn, tRet, tRetN, tDrop, tAsg, tPar, tPar3, tNext, tNever, tBreak, tCont, tAug, tChain, tAndV, tOrV, tNotV, tIf, tIsN, tNotN, tTup, tLst, tCallD, tMethD, tMakeD, tFld, tCon, sFld, sFldAug, tCallK, tSl, tPart, tNoPart, tBM, tBM0, tDGet, tDIn, tDNotIn, sDPut, tDNewK, tM0, tM1, tOrT, tAndT, tNotT, tAsg2, tAsg3, gName, rI0, rI, rU, tYes, L2.start, NdefX.startF, List.set_cons_zero, List.set_cons_succ, List.map_cons, List.map_nil, List.length_cons, List.length_nil, Nat.sub_zero, Nat.reduceSub, Nat.reduceAdd, List.replicate_succ, List.replicate_zero, List.cons_append, List.nil_append, List.append_nil, List.getElem?_cons_zero, List.getElem?_cons_succ, Option.some.injEq, exists_eq_left', exists_eq_left, exists_eq_right, exists_eq_right', exists_and_left, exists_and_right, exists_eq, exists_eq', true_and, and_true, V.int.injEq, V.str.injEq, V.bl.injEq, V.ref.injEq, V.ty.injEq, HO.ins.injEq, HO.lst.injEq, HO.tup.injEq, and_assoc, List.cons.injEq, Bool.not_true, Bool.not_false, Bool.false_eq_true, if_false, if_true, cx_K, upd_same, upd_upd, isi_str, req_ii, req_ss, rne_ii, rne_ss, radd_ii, rsub_ii, atI_at, atI_0, atI_1, atI_2, atI_3, atI_4, rLenL, rLenU, rIxLL, rIxU, reduceCtorEq, gTup, gCons, gNil, tFmt_eq, fmtV_str, fmtV_int, tJs_nil, tJs_cons, jsV_str, iKeys_eq, gSub, rSetL, tPart, tNoPart, tSl, rSlL, false_and, exists_false, or_false, false_or, List.set_cons_zero, List.set_cons_succ]
        refine fun q qd hq hqd hqq => ?_
        refine ⟨q, qd, c, l, failV f, rfl, upd_same, fun t2 ht2 => ⟨rfl, ?_⟩⟩
        have nt2q : t2 ≠ q := fun e => by rw [e, upd_same] at ht2; cases ht2
        have nt2d : t2 ≠ qd := fun e => by rw [e, upd_ne hqq, upd_same] at ht2; cases ht2
        have ht4 : H4 t2 = none := by rw [upd_ne nt2q, upd_ne nt2d] at ht2; exact ht2
        have s4 : Same H4 (upd (upd (upd (upd H4 qd (.own q)) q (.ins CE qd [])) t2 (.tup [failV f, .ref c, .ref l])) q (.ins CE qd (eF t2 (failV f) c l))) := fun b o e => by
          rw [upd_ne (ne_of_none e hq), upd_ne (ne_of_none e ht4), upd_ne (ne_of_none e hq), upd_ne (ne_of_none e hqd)]
          exact e
        have hq0 : H q = none := none_of k4 hq (by simpa using (ne_of_none hp4 hq).symm)
        refine k j ⟨f, cs, lD ls⟩ hth4 q _ (Keep.trans (U := [p]) k4 (Keep.of (S := []) s4) (by simp) (by simp)) hq0 (W4.same s4) ⟨qd, t2, c, l, ls, upd_same, ?_, tab4.same s4, rfl⟩ (ok4.fit (by have := W4.le; omega) hf) hij
        rw [upd_ne nt2q, upd_same]
    have s3 : Same H1 (upd (upd H1 c (.dK [])) l (.dK [])) := same_new (same_upd hc) hl
    have k3 : Keep [p] H (upd (upd H1 c (.dK [])) l (.dK [])) := Keep.trans (U := [p]) kH1 (Keep.of (S := []) s3) (by simp) (by simp)
    have W3 := W1.same s3
    have hp3 := s3 _ _ hp1
    have hc3 : upd (upd H1 c (.dK [])) l (.dK []) c = some (.dK []) := by rw [upd_ne hlc.symm, upd_same]
    have hl3 : upd (upd H1 c (.dK [])) l (.dK []) l = some (.dK []) := upd_same
    refine ite2 (fun z => ?_) fun z => ?_
    · have zf := of_decide_eq_true z
      have hd : ¬ wAt ws i = "done" := by rw [ex, zf]; decide +kernel
      have hff : wAt ws i = "failed" := by rw [ex, zf]
      refine ⟨dx1, _, hp3, wF_take_name _ _ _, p, lw, ws, i + 1, ob, rfl, W3, fun y hy hny H5 k5 W5 => ?_, fun hno => (er (i + 1) ?_).after k3 (by simp) (by simp)⟩
      · have ey : wAt ws (i + 1) = y := by unfold wAt; rw [hy]; rfl
        refine rest (some y) (i + 2) H5 (fun x hx => by cases hx; exact hny) ?_ (by omega) (Keep.trans (U := [p]) k3 k5 (by simp) (by simp)) W5 (k5 _ _ hc3 (by simpa using (ne_of_none hp1 hc).symm)) (k5 _ _ hl3 (by simpa using (ne_of_none hp1 hl1).symm))
        unfold endM
        rw [if_neg hd, if_pos hff, ey, if_pos hny]
      · unfold endM
        rw [if_neg hd, if_pos hff, if_neg]
        unfold wAt
        cases e : ws[i + 1]? with
        | none => decide +kernel
        | some y => rw [show (some y).getD ("" : Str) = y from rfl, hno y e]; simp
    · have zf : ¬ x = "failed" := by simpa using z
      have hd : x = "done" := by
        have := of_decide_eq_true hxb
        simp only [List.mem_cons, List.not_mem_nil, or_false] at this
        exact this.resolve_right zf
      exact rest none (i + 1) _ (fun x hx => nomatch hx) (by unfold endM; rw [if_pos (by rw [ex]; exact hd)]) (by omega) k3 W3 hc3 hl3
end
end Ky

set_option Elab.async false
set_option maxRecDepth 100000
set_option maxHeartbeats 4000000
set_option linter.all false
namespace Ky
open PySem L2 Ly
theorem TyOf.same {K : PySem.W.Frag} {H H' : Hp} {x : V} {t : Value} (s : Same H H') (h : TyOf K H x t) : TyOf K H' x t := by
  cases h with
  | non => exact .non
  | bl x => exact .bl x
  | int i => exact .int i
  | str x => exact .str x
  | flt x => exact .flt x
  | lst e => exact .lst (s _ _ e)
  | frz e => exact .frz (s _ _ e)
  | tup e => exact .tup (s _ _ e)
  | dK e => exact .dK (s _ _ e)
  | dT e => exact .dT (s _ _ e)
  | ins e a b c d f => exact .ins (s _ _ e) a b c d f
theorem TyX.same {K : PySem.W.Frag} {H H' : Hp} {x : V} {t : Value} (s : Same H H') (h : TyX K H x t) : TyX K H' x t := by
  cases h with
  | base h => exact .base (TyOf.same s h)
  | byt b => exact .byt b
  | set e => exact .set (s _ _ e)
  | kList e c => exact .kList e c
  | kTuple e c => exact .kTuple e c
  | kDict e c => exact .kDict e c
  | fTuple e => exact .fTuple (s _ _ e)
  | fDict e => exact .fDict (s _ _ e)
theorem same_of {S : List Addr} {H H' : Hp} (kk : Keep S H H') (hS : ∀ x ∈ S, H x = none) : Same H H' := fun b o e => kk b o e fun hb => by rw [hS b hb] at e; cases e
theorem Err.new {E : XK} {CB : Addr} {S T : List Addr} {k : Nat} {H H3 : Hp} (e : Err E CB [] k H) (kk : Keep S H H3) (hS : ∀ x ∈ S, H x = none) (hT : ∀ x ∈ T, H x = none) : Err E CB T k H3 := fun d H' kp hd =>
  e d H' (Keep.of (same_of (S := S ++ T) (kk.trans kp (by simp +contextual) (by simp +contextual)) (fun x hx => (List.mem_append.mp hx).elim (hS x) (hT x)))) hd
theorem EndAt.keep {CE b o : Addr} {H H' : Hp} {e : EndD} (a : EndAt CE H o e) (kk : Keep [b] H H') (hb : ∃ ob, H b = some ob ∧ (∀ dx fs, ob ≠ .ins CE dx fs) ∧ (∀ xs, ob ≠ .tup xs) ∧ ∀ kvs, ob ≠ .dK kvs) : EndAt CE H' o e := by
  obtain ⟨ob, h0, h1, h2, h3⟩ := hb
  obtain ⟨dx, t, c, l, ls, a1, a2, a3, a4⟩ := a.ex
  have n1 : ∀ {x : Addr} {u : HO}, H x = some u → ob ≠ u → x ∉ [b] := fun {x u} hx hu hm => by
    rw [List.mem_singleton.mp hm, h0] at hx
    cases hx
    exact hu rfl
  exact ⟨dx, t, c, l, ls, kk _ _ a1 (n1 a1 (h1 _ _)), kk _ _ a2 (n1 a2 (h2 _)), a3.keep kk (n1 a3.atC (h3 _)) (n1 a3.atL (h3 _)) fun y hy => n1 (a3.atT y hy) (h2 _), a4⟩
theorem EndsAt.keep {CE b : Addr} {H H' : Hp} (kk : Keep [b] H H') (hb : ∃ ob, H b = some ob ∧ (∀ dx fs, ob ≠ .ins CE dx fs) ∧ (∀ xs, ob ≠ .tup xs) ∧ ∀ kvs, ob ≠ .dK kvs) : ∀ {ps : List Addr} {es : List EndD}, EndsAt CE H ps es → EndsAt CE H' ps es
  | _, _, .nil => .nil
  | _, _, .cons a r => .cons (a.keep kk hb) (EndsAt.keep kk hb r)
def RSI (CW CE : Addr) (H : Hp) (p lw q : Addr) (ws : List Str) (z : Str) (m : Nat) (σ : L2.St) (H' : Hp) : Prop := ∃ (j : Nat) (es : List EndD) (ps : List Addr), σ = [some (.str z), some (.ref p), some (.ref q)] ∧ Keep [p, q] H H' ∧ WdAt CW H' p lw ws j 0 ∧ H' q = some (.lst (ps.map V.ref)) ∧
  EndsAt CE H' ps es ∧ (∀ e ∈ es, FitE e) ∧ es.length ≤ j ∧ loopE ws m j es = endsM ws ∧ ws.length < j + m
def spReadEnds (K : PySem.W.Frag) (CB CE : Addr) : Sp := fun vs H Q E => ∃ x : V, vs = [x] ∧
  ((∃ z : Str, x = .str z ∧ z.length ≤ 90000 ∧ (∀ k, endsM (Txt.split z " ") = .inl k → Err E CB [] k H) ∧
      ∀ es, endsM (Txt.split z " ") = .inr es → ∀ t ps H', Same H H' → H' t = some (.tup (ps.map V.ref)) → EndsAt CE H' ps es → (∀ e ∈ es, FitE e) → es.length ≤ 200000 → Q (.ref t) H') ∨
    (∃ t, TyX K H x t ∧ PySem.W.kitOne K t (.type "str") = some false ∧ Err E CB [] 0 H))
section
variable {w : World} {K : PySem.W.Frag} {mg : Str → Option Value} {base : Heap} {aK aF CB CP CE CW : Addr}
abbrev s_read_ends : Stmt := top 21
theorem sc_read_ends : FnScope ["text", "words", "found"] ["text"] (defScope s_read_ends) := ⟨rfl, rfl, rfl, by decide +kernel, rfl, by decide +kernel, by decide +kernel⟩
theorem ok_read_ends {f : Addr} {fd : FuncData} (F : Fun K "read_ends" "read_ends" s_read_ends f fd) (T : Tx K mg aK aF) (C : WC K CW) (hC : CE ≠ CW) (D_read_end : Df PP w K mg base 8 "read_end" ["words"] (spRE CW CB CE)) (C_Words : Dc PP w K mg base 3 "Words" CW ["self", "text"] (spWI (K := K) CW CB))
    (M_take : Dm PP w K mg base 4 CW "take" ["self"] (spTake CW CB fun _ => true)) (M_end : Dm PP w K mg base 4 CW "end" ["self"] (spEnd CW CB)) (M_is_next : Dm PP w K mg base 1 CW "is_next" ["self", "word"] (spNext CW)) :
    FnOk PP w K mg base (L2.CX PP w) 9 f fd ["text"] (spReadEnds K CB CE) := by
  refine F.okX sc_read_ends (fun vs H Q E h => ?_) (fun cdv A outer s H vs Q E hr h => ?_)
  · obtain ⟨x, rfl, _⟩ := h; rfl
  · obtain ⟨x, rfl, h⟩ := h
    refine ⟨_, (pss_cons (ps_par (i := 1) (j := 2) (by rfl) sc_read_ends.nd rfl rfl (by decide) rfl rfl (pa_cons (pe_dc C_Words (hr.mono (by decide)) (passE (E := E)) (pa_cons (pv 0) pa_nil)) (pa_cons (pe_lst pa_nil) pa_nil)) (by rfl))
      (pss_hid (pss_cons (ps_if (pt_val (pe_dm M_is_next (hr.mono (by decide)) passL (pv 1) (pa_cons pe_str pa_nil))) (pss_one (ps_expr (pe_dm0 M_take (hr.mono (by decide)) (passE (E := E)) (pv 1)))) (pss_cons (ps_expr (pe_bm PySem.F.plainAttrs_list PySem.F.slot_list_append PySem.F.type_list_append mt_append (pv 2) (pa_cons (pe_df D_read_end (hr.mono (by decide)) (passE (E := E)) (pa_cons (pv 1) pa_nil)) pa_nil)))
      (pss_hid (pss_one (ps_while (passes_of rfl) (pt_val (pe_dm M_is_next (hr.mono (by decide)) passL (pv 1) (pa_cons pe_str pa_nil))) (pss_cons (ps_expr (pe_dm0 M_take (hr.mono (by decide)) (passE (E := E)) (pv 1)))
      (pss_hid (pss_one (ps_expr (pe_bm PySem.F.plainAttrs_list PySem.F.slot_list_append PySem.F.type_list_append mt_append (pv 2) (pa_cons (pe_df D_read_end (hr.mono (by decide)) (passE (E := E)) (pa_cons (pv 1) pa_nil)) pa_nil)))))))))))
      (pss_hid (pss_cons (ps_expr (pe_dm0 M_end (hr.mono (by decide)) (passE (E := E)) (pv 1)))
      (pss_hid (pss_one (ps_ret (pe_callTy call_tuple_of (by rfl) T.tuple (by decide +kernel) (pa_cons (pv 2) pa_nil)))))))))), ?_⟩
    simp only [tSeq, tIfS, tOr, tAnd, tNot, tB, tTest, tCB, tCons, tNil, tVar, tC, tOp, tUn, tRet, tRetN, tDrop, tAsg, tPar, tPar3, tNext, tNever, tBreak, tCont, tAug, tChain, tAndV, tOrV, tNotV, tIf, tIsN, tNotN, tTup, tLst, tCallD, tMethD, tMakeD, tFld, tCon, sFld, sFldAug, tCallK, tSl, tPart, tNoPart, tBM, tBM0, tDGet, tDIn, tDNotIn, sDPut, tDNewK, tM0, tM1, tOrT, tAndT, tNotT, tAsg2, tAsg3, gName, rI0, rI, rU, tYes, L2.start, NdefX.startF, List.set_cons_zero, List.set_cons_succ, List.map_cons, List.map_nil, List.length_cons, List.length_nil, Nat.sub_zero, Nat.reduceSub, Nat.reduceAdd, List.replicate_succ, List.replicate_zero, List.cons_append, List.nil_append, List.append_nil, List.getElem?_cons_zero, List.getElem?_cons_succ, Option.some.injEq, exists_eq_left', exists_eq_left, exists_eq_right, exists_eq_right', exists_and_left, exists_and_right, exists_eq, exists_eq', true_and, and_true, V.int.injEq, V.str.injEq, V.bl.injEq, V.ref.injEq, V.ty.injEq, HO.ins.injEq, HO.lst.injEq, HO.tup.injEq, and_assoc, List.cons.injEq, Bool.not_true, Bool.not_false, Bool.false_eq_true, if_false, if_true, cx_K, upd_same, upd_upd, isi_str, req_ii, req_ss, rne_ii, rne_ss, radd_ii, rsub_ii, atI_at, atI_0, atI_1, atI_2, atI_3, atI_4, rLenL, rLenU, rIxLL, rIxU, reduceCtorEq, gTup, gCons, gNil, tFmt_eq, fmtV_str, fmtV_int, tJs_nil, tJs_cons, jsV_str, iKeys_eq, gSub, rSetL, tPart, tNoPart, tSl, rSlL, false_and, exists_false, or_false, false_or, List.set_cons_zero, List.set_cons_succ]
    refine fun p dx hp hdx hdp => ?_
    rcases h with ⟨z, rfl, hz, er, k⟩ | ⟨t, ty, kt, er⟩
    · refine ⟨p, dx, .str z, rfl, upd_same, .inl ⟨z, rfl, hz, fun lw H1 k1 hlw W1 => ?_⟩⟩
      simp only [tSeq, tIfS, tOr, tAnd, tNot, tB, tTest, tCB, tCons, tNil, tVar, tC, tOp, tUn, tRet, tRetN, tDrop, tAsg, tPar, tPar3, tNext, tNever, tBreak, tCont, tAug, tChain, tAndV, tOrV, tNotV, tIf, tIsN, tNotN, tTup, tLst, tCallD, tMethD, tMakeD, tFld, tCon, sFld, sFldAug, tCallK, tSl, tPart, tNoPart, tBM, tBM0, tDGet, tDIn, tDNotIn, sDPut, tDNewK, tM0, tM1, tOrT, tAndT, tNotT, tAsg2, tAsg3, gName, rI0, rI, rU, tYes, L2.start, NdefX.startF, List.set_cons_zero, List.set_cons_succ, List.map_cons, List.map_nil, List.length_cons, List.length_nil, Nat.sub_zero, Nat.reduceSub, Nat.reduceAdd, List.replicate_succ, List.replicate_zero, List.cons_append, List.nil_append, List.append_nil, List.getElem?_cons_zero, List.getElem?_cons_succ, Option.some.injEq, exists_eq_left', exists_eq_left, exists_eq_right, exists_eq_right', exists_and_left, exists_and_right, exists_eq, exists_eq', true_and, and_true, V.int.injEq, V.str.injEq, V.bl.injEq, V.ref.injEq, V.ty.injEq, HO.ins.injEq, HO.lst.injEq, HO.tup.injEq, and_assoc, List.cons.injEq, Bool.not_true, Bool.not_false, Bool.false_eq_true, if_false, if_true, cx_K, upd_same, upd_upd, isi_str, req_ii, req_ss, rne_ii, rne_ss, radd_ii, rsub_ii, atI_at, atI_0, atI_1, atI_2, atI_3, atI_4, rLenL, rLenU, rIxLL, rIxU, reduceCtorEq, gTup, gCons, gNil, tFmt_eq, fmtV_str, fmtV_int, tJs_nil, tJs_cons, jsV_str, iKeys_eq, gSub, rSetL, tPart, tNoPart, tSl, rSlL, false_and, exists_false, or_false, false_or, List.set_cons_zero, List.set_cons_succ]
      refine ⟨sz_le (by decide), fun q hq => ?_⟩
      refine hid_in ?_
      simp only [tSeq, tIfS, tOr, tAnd, tNot, tB, tTest, tCB, tCons, tNil, tVar, tC, tOp, tUn, tRet, tRetN, tDrop, tAsg, tPar, tPar3, tNext, tNever, tBreak, tCont, tAug, tChain, tAndV, tOrV, tNotV, tIf, tIsN, tNotN, tTup, tLst, tCallD, tMethD, tMakeD, tFld, tCon, sFld, sFldAug, tCallK, tSl, tPart, tNoPart, tBM, tBM0, tDGet, tDIn, tDNotIn, sDPut, tDNewK, tM0, tM1, tOrT, tAndT, tNotT, tAsg2, tAsg3, gName, rI0, rI, rU, tYes, L2.start, NdefX.startF, List.set_cons_zero, List.set_cons_succ, List.map_cons, List.map_nil, List.length_cons, List.length_nil, Nat.sub_zero, Nat.reduceSub, Nat.reduceAdd, List.replicate_succ, List.replicate_zero, List.cons_append, List.nil_append, List.append_nil, List.getElem?_cons_zero, List.getElem?_cons_succ, Option.some.injEq, exists_eq_left', exists_eq_left, exists_eq_right, exists_eq_right', exists_and_left, exists_and_right, exists_eq, exists_eq', true_and, and_true, V.int.injEq, V.str.injEq, V.bl.injEq, V.ref.injEq, V.ty.injEq, HO.ins.injEq, HO.lst.injEq, HO.tup.injEq, and_assoc, List.cons.injEq, Bool.not_true, Bool.not_false, Bool.false_eq_true, if_false, if_true, cx_K, upd_same, upd_upd, isi_str, req_ii, req_ss, rne_ii, rne_ss, radd_ii, rsub_ii, atI_at, atI_0, atI_1, atI_2, atI_3, atI_4, rLenL, rLenU, rIxLL, rIxU, reduceCtorEq, gTup, gCons, gNil, tFmt_eq, fmtV_str, fmtV_int, tJs_nil, tJs_cons, jsV_str, iKeys_eq, gSub, rSetL, tPart, tNoPart, tSl, rSlL, false_and, exists_false, or_false, false_or, List.set_cons_zero, List.set_cons_succ]
      have sH : Same H (upd (upd H dx (.own p)) p (.ins CW dx [])) := fun b o e => by rw [upd_ne (ne_of_none e hp), upd_ne (ne_of_none e hdx)]; exact e
      have sz := W1.sz
      generalize hWs : Txt.split z " " = ws at W1 er k sz
      have kp1 : Keep [p] H (upd H1 q (.lst [])) := Keep.trans (S := [p]) (T := []) (U := [p]) (Keep.trans (S := []) (U := [p]) (Keep.of sH) k1 (by simp) (by simp)) (Keep.of (S := []) (same_upd hq)) (by simp) (by simp)
      have W2 := W1.same (same_upd (o := .lst []) hq)
      have g2 : upd H1 q (.lst []) q = some (.lst (([] : List Addr).map V.ref)) := upd_same
      obtain ⟨dx1, hp1⟩ := W1.ob
      have nqp : q ≠ p := (ne_of_none hp1 hq).symm
      have hq0 : H q = none := none_of (Keep.trans (S := []) (U := [p]) (Keep.of sH) k1 (by simp) (by simp)) hq (by simpa using nqp)
      generalize upd H1 q (.lst []) = B at kp1 W2 g2 ⊢
      generalize hR : hid (tSeq (tDrop (tMethD CW "end" (spEnd CW CB) E (tVar 1) tNil)) (hid _)) = R
      obtain ⟨dx2, hp2⟩ := W2.ob
      have rest : ∀ (j : Nat) (es : List EndD) (ps : List Addr) (H3 : Hp), endsM ws = (if j < ws.length then .inl j else .inr es) → Keep [p, q] H H3 → WdAt CW H3 p lw ws j 0 → H3 q = some (.lst (ps.map V.ref)) → EndsAt CE H3 ps es → (∀ e ∈ es, FitE e) → es.length ≤ j →
          R { nx := fun x H' => Q V.non H', rt := Q } [some (.str z), some (.ref p), some (.ref q)] H3 := fun j es ps H3 hth k3 W3 hq3 at3 fit3 hn3 => by
        rw [← hR]
        refine hid_in ?_
        obtain ⟨dx3, hp3⟩ := W3.ob
        have s3 := same_of k3 (by simp [hp, hq0])
        simp only [tSeq, tIfS, tOr, tAnd, tNot, tB, tTest, tCB, tCons, tNil, tVar, tC, tOp, tUn, tRet, tRetN, tDrop, tAsg, tPar, tPar3, tNext, tNever, tBreak, tCont, tAug, tChain, tAndV, tOrV, tNotV, tIf, tIsN, tNotN, tTup, tLst, tCallD, tMethD, tMakeD, tFld, tCon, sFld, sFldAug, tCallK, tSl, tPart, tNoPart, tBM, tBM0, tDGet, tDIn, tDNotIn, sDPut, tDNewK, tM0, tM1, tOrT, tAndT, tNotT, tAsg2, tAsg3, gName, rI0, rI, rU, tYes, L2.start, NdefX.startF, List.set_cons_zero, List.set_cons_succ, List.map_cons, List.map_nil, List.length_cons, List.length_nil, Nat.sub_zero, Nat.reduceSub, Nat.reduceAdd, List.replicate_succ, List.replicate_zero, List.cons_append, List.nil_append, List.append_nil, List.getElem?_cons_zero, List.getElem?_cons_succ, Option.some.injEq, exists_eq_left', exists_eq_left, exists_eq_right, exists_eq_right', exists_and_left, exists_and_right, exists_eq, exists_eq', true_and, and_true, V.int.injEq, V.str.injEq, V.bl.injEq, V.ref.injEq, V.ty.injEq, HO.ins.injEq, HO.lst.injEq, HO.tup.injEq, and_assoc, List.cons.injEq, Bool.not_true, Bool.not_false, Bool.false_eq_true, if_false, if_true, cx_K, upd_same, upd_upd, isi_str, req_ii, req_ss, rne_ii, rne_ss, radd_ii, rsub_ii, atI_at, atI_0, atI_1, atI_2, atI_3, atI_4, rLenL, rLenU, rIxLL, rIxU, reduceCtorEq, gTup, gCons, gNil, tFmt_eq, fmtV_str, fmtV_int, tJs_nil, tJs_cons, jsV_str, iKeys_eq, gSub, rSetL, tPart, tNoPart, tSl, rSlL, false_and, exists_false, or_false, false_or, List.set_cons_zero, List.set_cons_succ, hp3, wF_end]
        refine ⟨p, lw, ws, j, 0, rfl, W3, fun hj => ?_, fun hj => ?_⟩
        · refine hid_in ?_
          simp only [tSeq, tIfS, tOr, tAnd, tNot, tB, tTest, tCB, tCons, tNil, tVar, tC, tOp, tUn, tRet, tRetN, tDrop, tAsg, tPar, tPar3, tNext, tNever, tBreak, tCont, tAug, tChain, tAndV, tOrV, tNotV, tIf, tIsN, tNotN, tTup, tLst, tCallD, tMethD, tMakeD, tFld, tCon, sFld, sFldAug, tCallK, tSl, tPart, tNoPart, tBM, tBM0, tDGet, tDIn, tDNotIn, sDPut, tDNewK, tM0, tM1, tOrT, tAndT, tNotT, tAsg2, tAsg3, gName, rI0, rI, rU, tYes, L2.start, NdefX.startF, List.set_cons_zero, List.set_cons_succ, List.map_cons, List.map_nil, List.length_cons, List.length_nil, Nat.sub_zero, Nat.reduceSub, Nat.reduceAdd, List.replicate_succ, List.replicate_zero, List.cons_append, List.nil_append, List.append_nil, List.getElem?_cons_zero, List.getElem?_cons_succ, Option.some.injEq, exists_eq_left', exists_eq_left, exists_eq_right, exists_eq_right', exists_and_left, exists_and_right, exists_eq, exists_eq', true_and, and_true, V.int.injEq, V.str.injEq, V.bl.injEq, V.ref.injEq, V.ty.injEq, HO.ins.injEq, HO.lst.injEq, HO.tup.injEq, and_assoc, List.cons.injEq, Bool.not_true, Bool.not_false, Bool.false_eq_true, if_false, if_true, cx_K, upd_same, upd_upd, isi_str, req_ii, req_ss, rne_ii, rne_ss, radd_ii, rsub_ii, atI_at, atI_0, atI_1, atI_2, atI_3, atI_4, rLenL, rLenU, rIxLL, rIxU, reduceCtorEq, gTup, gCons, gNil, tFmt_eq, fmtV_str, fmtV_int, tJs_nil, tJs_cons, jsV_str, iKeys_eq, gSub, rSetL, tPart, tNoPart, tSl, rSlL, false_and, exists_false, or_false, false_or, List.set_cons_zero, List.set_cons_succ]
          refine ⟨_, .inl ⟨SqL.of hq3, fun t ht => ?_⟩⟩
          have st := same_upd (o := .tup (ps.map V.ref)) ht
          exact k es (by rw [hth, if_neg (by omega)]) t ps _ (s3.trans st) upd_same (at3.same st) fit3 (by have := W3.le; omega)
        · exact (er j (by rw [hth, if_pos hj])).after (S := []) (Keep.of s3) (by simp) (by simp)
      simp only [tSeq, tIfS, tOr, tAnd, tNot, tB, tTest, tCB, tCons, tNil, tVar, tC, tOp, tUn, tRet, tRetN, tDrop, tAsg, tPar, tPar3, tNext, tNever, tBreak, tCont, tAug, tChain, tAndV, tOrV, tNotV, tIf, tIsN, tNotN, tTup, tLst, tCallD, tMethD, tMakeD, tFld, tCon, sFld, sFldAug, tCallK, tSl, tPart, tNoPart, tBM, tBM0, tDGet, tDIn, tDNotIn, sDPut, tDNewK, tM0, tM1, tOrT, tAndT, tNotT, tAsg2, tAsg3, gName, rI0, rI, rU, tYes, L2.start, NdefX.startF, List.set_cons_zero, List.set_cons_succ, List.map_cons, List.map_nil, List.length_cons, List.length_nil, Nat.sub_zero, Nat.reduceSub, Nat.reduceAdd, List.replicate_succ, List.replicate_zero, List.cons_append, List.nil_append, List.append_nil, List.getElem?_cons_zero, List.getElem?_cons_succ, Option.some.injEq, exists_eq_left', exists_eq_left, exists_eq_right, exists_eq_right', exists_and_left, exists_and_right, exists_eq, exists_eq', true_and, and_true, V.int.injEq, V.str.injEq, V.bl.injEq, V.ref.injEq, V.ty.injEq, HO.ins.injEq, HO.lst.injEq, HO.tup.injEq, and_assoc, List.cons.injEq, Bool.not_true, Bool.not_false, Bool.false_eq_true, if_false, if_true, cx_K, upd_same, upd_upd, isi_str, req_ii, req_ss, rne_ii, rne_ss, radd_ii, rsub_ii, atI_at, atI_0, atI_1, atI_2, atI_3, atI_4, rLenL, rLenU, rIxLL, rIxU, reduceCtorEq, gTup, gCons, gNil, tFmt_eq, fmtV_str, fmtV_int, tJs_nil, tJs_cons, jsV_str, iKeys_eq, gSub, rSetL, tPart, tNoPart, tSl, rSlL, false_and, exists_false, or_false, false_or, List.set_cons_zero, List.set_cons_succ, hp2, wF_is_next]
      refine ⟨p, lw, ws, 0, 0, "-", rfl, W2, ?_⟩
      simp only [tSeq, tIfS, tOr, tAnd, tNot, tB, tTest, tCB, tCons, tNil, tVar, tC, tOp, tUn, tRet, tRetN, tDrop, tAsg, tPar, tPar3, tNext, tNever, tBreak, tCont, tAug, tChain, tAndV, tOrV, tNotV, tIf, tIsN, tNotN, tTup, tLst, tCallD, tMethD, tMakeD, tFld, tCon, sFld, sFldAug, tCallK, tSl, tPart, tNoPart, tBM, tBM0, tDGet, tDIn, tDNotIn, sDPut, tDNewK, tM0, tM1, tOrT, tAndT, tNotT, tAsg2, tAsg3, gName, rI0, rI, rU, tYes, L2.start, NdefX.startF, List.set_cons_zero, List.set_cons_succ, List.map_cons, List.map_nil, List.length_cons, List.length_nil, Nat.sub_zero, Nat.reduceSub, Nat.reduceAdd, List.replicate_succ, List.replicate_zero, List.cons_append, List.nil_append, List.append_nil, List.getElem?_cons_zero, List.getElem?_cons_succ, Option.some.injEq, exists_eq_left', exists_eq_left, exists_eq_right, exists_eq_right', exists_and_left, exists_and_right, exists_eq, exists_eq', true_and, and_true, V.int.injEq, V.str.injEq, V.bl.injEq, V.ref.injEq, V.ty.injEq, HO.ins.injEq, HO.lst.injEq, HO.tup.injEq, and_assoc, List.cons.injEq, Bool.not_true, Bool.not_false, Bool.false_eq_true, if_false, if_true, cx_K, upd_same, upd_upd, isi_str, req_ii, req_ss, rne_ii, rne_ss, radd_ii, rsub_ii, atI_at, atI_0, atI_1, atI_2, atI_3, atI_4, rLenL, rLenU, rIxLL, rIxU, reduceCtorEq, gTup, gCons, gNil, tFmt_eq, fmtV_str, fmtV_int, tJs_nil, tJs_cons, jsV_str, iKeys_eq, gSub, rSetL, tPart, tNoPart, tSl, rSlL, false_and, exists_false, or_false, false_or, List.set_cons_zero, List.set_cons_succ, hp2, wF_take]
      refine ite2 (fun z0 => ?_) fun z0 => ?_
      · have hs := of_decide_eq_true z0
        refine ⟨p, lw, ws, 0, 0, rfl, W2, fun y hy _ H3 k3 W3 => ?_, fun q => absurd (q _ hs) (by simp)⟩
        exact rest 1 [] [] H3 (by unfold endsM; rw [if_pos hs]) (Keep.trans (S := [p]) (T := [p]) kp1 k3 (by simp) (by simp)) W3 (k3 _ _ g2 (by simpa using nqp)) .nil (fun _ h => nomatch h) (Nat.zero_le _)
      · have hs : ¬ ws[0]? = some ("-" : Str) := by simpa using z0
        refine ⟨tyV_lst g2, p, lw, ws, 0, 0, rfl, W2, fun k0 hk => (er k0 ?_).new (S := [p]) (T := [p]) kp1 (by simpa using hp) (by simpa using hp), fun j e he o H3 k3 ho W3 at3 fit3 hj3 => ?_⟩
        · unfold endsM; rw [if_neg hs, hk]
        have g3 := k3 _ _ g2 (by simpa using nqp)
        have hoq : o ≠ q := fun e => by rw [e, g2] at ho; cases ho
        have hop : o ≠ p := fun e => by rw [e, hp2] at ho; cases ho
        refine ⟨q, _, .ref o, rfl, rfl, g3, sz_lt (by decide), ?_⟩
        refine hid_in ?_
        refine ⟨RSI CW CE H p lw q ws z, ⟨ws.length + 1, j, [e], [o], rfl, ?_, ?_, ?_, ?_, ?_, ?_, ?_, ?_⟩, ?_⟩
        · exact Keep.trans (S := [p]) (T := [q]) (Keep.trans (U := [p]) kp1 k3 (by simp) (by simp)) keep_upd (by simp) (by simp)
        · exact W3.keep (S := [q]) keep_upd (by simpa using nqp.symm) (by simpa using ne_of_none W1.li hq)
        · exact upd_same
        · exact .cons (at3.keep keep_upd ⟨_, g3, by simp, by simp, by simp⟩) .nil
        · intro e' he'; rw [List.mem_singleton.mp he']; exact fit3
        · show 1 ≤ j; omega
        · unfold endsM; rw [if_neg hs, he]
        · omega
        rintro m σ H5 ⟨j5, es, ps, rfl, k5, W5, g5, at5, fit5, hn5, hl5, hm5⟩
        obtain ⟨dx5, hp5⟩ := W5.ob
        simp only [tSeq, tIfS, tOr, tAnd, tNot, tB, tTest, tCB, tCons, tNil, tVar, tC, tOp, tUn, tRet, tRetN, tDrop, tAsg, tPar, tPar3, tNext, tNever, tBreak, tCont, tAug, tChain, tAndV, tOrV, tNotV, tIf, tIsN, tNotN, tTup, tLst, tCallD, tMethD, tMakeD, tFld, tCon, sFld, sFldAug, tCallK, tSl, tPart, tNoPart, tBM, tBM0, tDGet, tDIn, tDNotIn, sDPut, tDNewK, tM0, tM1, tOrT, tAndT, tNotT, tAsg2, tAsg3, gName, rI0, rI, rU, tYes, L2.start, NdefX.startF, List.set_cons_zero, List.set_cons_succ, List.map_cons, List.map_nil, List.length_cons, List.length_nil, Nat.sub_zero, Nat.reduceSub, Nat.reduceAdd, List.replicate_succ, List.replicate_zero, List.cons_append, List.nil_append, List.append_nil, List.getElem?_cons_zero, List.getElem?_cons_succ, Option.some.injEq, exists_eq_left', exists_eq_left, exists_eq_right, exists_eq_right', exists_and_left, exists_and_right, exists_eq, exists_eq', true_and, and_true, V.int.injEq, V.str.injEq, V.bl.injEq, V.ref.injEq, V.ty.injEq, HO.ins.injEq, HO.lst.injEq, HO.tup.injEq, and_assoc, List.cons.injEq, Bool.not_true, Bool.not_false, Bool.false_eq_true, if_false, if_true, cx_K, upd_same, upd_upd, isi_str, req_ii, req_ss, rne_ii, rne_ss, radd_ii, rsub_ii, atI_at, atI_0, atI_1, atI_2, atI_3, atI_4, rLenL, rLenU, rIxLL, rIxU, reduceCtorEq, gTup, gCons, gNil, tFmt_eq, fmtV_str, fmtV_int, tJs_nil, tJs_cons, jsV_str, iKeys_eq, gSub, rSetL, tPart, tNoPart, tSl, rSlL, false_and, exists_false, or_false, false_or, List.set_cons_zero, List.set_cons_succ, hp5, wF_is_next]
        refine ⟨p, lw, ws, j5, 0, "/", rfl, W5, ?_⟩
        simp only [tSeq, tIfS, tOr, tAnd, tNot, tB, tTest, tCB, tCons, tNil, tVar, tC, tOp, tUn, tRet, tRetN, tDrop, tAsg, tPar, tPar3, tNext, tNever, tBreak, tCont, tAug, tChain, tAndV, tOrV, tNotV, tIf, tIsN, tNotN, tTup, tLst, tCallD, tMethD, tMakeD, tFld, tCon, sFld, sFldAug, tCallK, tSl, tPart, tNoPart, tBM, tBM0, tDGet, tDIn, tDNotIn, sDPut, tDNewK, tM0, tM1, tOrT, tAndT, tNotT, tAsg2, tAsg3, gName, rI0, rI, rU, tYes, L2.start, NdefX.startF, List.set_cons_zero, List.set_cons_succ, List.map_cons, List.map_nil, List.length_cons, List.length_nil, Nat.sub_zero, Nat.reduceSub, Nat.reduceAdd, List.replicate_succ, List.replicate_zero, List.cons_append, List.nil_append, List.append_nil, List.getElem?_cons_zero, List.getElem?_cons_succ, Option.some.injEq, exists_eq_left', exists_eq_left, exists_eq_right, exists_eq_right', exists_and_left, exists_and_right, exists_eq, exists_eq', true_and, and_true, V.int.injEq, V.str.injEq, V.bl.injEq, V.ref.injEq, V.ty.injEq, HO.ins.injEq, HO.lst.injEq, HO.tup.injEq, and_assoc, List.cons.injEq, Bool.not_true, Bool.not_false, Bool.false_eq_true, if_false, if_true, cx_K, upd_same, upd_upd, isi_str, req_ii, req_ss, rne_ii, rne_ss, radd_ii, rsub_ii, atI_at, atI_0, atI_1, atI_2, atI_3, atI_4, rLenL, rLenU, rIxLL, rIxU, reduceCtorEq, gTup, gCons, gNil, tFmt_eq, fmtV_str, fmtV_int, tJs_nil, tJs_cons, jsV_str, iKeys_eq, gSub, rSetL, tPart, tNoPart, tSl, rSlL, false_and, exists_false, or_false, false_or, List.set_cons_zero, List.set_cons_succ, hp5, wF_take]
        refine ite2 (fun z5 => ?_) fun z5 => ?_
        · have hs5 := of_decide_eq_true z5
          have hj5 : j5 < ws.length := (List.getElem?_eq_some_iff.mp hs5).1
          refine ⟨fun σ' H' => ∃ m', m' < m ∧ RSI CW CE H p lw q ws z m' σ' H', fun _ _ h => h, p, lw, ws, j5, 0, rfl, W5, fun y hy _ H6 k6 W6 => ?_, fun q => absurd (q _ hs5) (by simp)⟩
          refine hid_in ?_
          simp only [tSeq, tIfS, tOr, tAnd, tNot, tB, tTest, tCB, tCons, tNil, tVar, tC, tOp, tUn, tRet, tRetN, tDrop, tAsg, tPar, tPar3, tNext, tNever, tBreak, tCont, tAug, tChain, tAndV, tOrV, tNotV, tIf, tIsN, tNotN, tTup, tLst, tCallD, tMethD, tMakeD, tFld, tCon, sFld, sFldAug, tCallK, tSl, tPart, tNoPart, tBM, tBM0, tDGet, tDIn, tDNotIn, sDPut, tDNewK, tM0, tM1, tOrT, tAndT, tNotT, tAsg2, tAsg3, gName, rI0, rI, rU, tYes, L2.start, NdefX.startF, List.set_cons_zero, List.set_cons_succ, List.map_cons, List.map_nil, List.length_cons, List.length_nil, Nat.sub_zero, Nat.reduceSub, Nat.reduceAdd, List.replicate_succ, List.replicate_zero, List.cons_append, List.nil_append, List.append_nil, List.getElem?_cons_zero, List.getElem?_cons_succ, Option.some.injEq, exists_eq_left', exists_eq_left, exists_eq_right, exists_eq_right', exists_and_left, exists_and_right, exists_eq, exists_eq', true_and, and_true, V.int.injEq, V.str.injEq, V.bl.injEq, V.ref.injEq, V.ty.injEq, HO.ins.injEq, HO.lst.injEq, HO.tup.injEq, and_assoc, List.cons.injEq, Bool.not_true, Bool.not_false, Bool.false_eq_true, if_false, if_true, cx_K, upd_same, upd_upd, isi_str, req_ii, req_ss, rne_ii, rne_ss, radd_ii, rsub_ii, atI_at, atI_0, atI_1, atI_2, atI_3, atI_4, rLenL, rLenU, rIxLL, rIxU, reduceCtorEq, gTup, gCons, gNil, tFmt_eq, fmtV_str, fmtV_int, tJs_nil, tJs_cons, jsV_str, iKeys_eq, gSub, rSetL, tPart, tNoPart, tSl, rSlL, false_and, exists_false, or_false, false_or, List.set_cons_zero, List.set_cons_succ]
          have kH6 : Keep [p, q] H H6 := Keep.trans (U := [p, q]) k5 k6 (by simp) (by simp)
          have g6 := k6 _ _ g5 (by simpa using nqp)
          have at6 := EndsAt.keep k6 ⟨_, hp5, by simp; exact fun h => (hC h.symm).elim, by simp, by simp⟩ at5
          obtain ⟨m1, rfl⟩ : ∃ m1, m = m1 + 1 := ⟨m - 1, by have := W5.le; omega⟩
          unfold loopE at hl5
          rw [if_pos hs5] at hl5
          refine ⟨tyV_lst g6, p, lw, ws, j5 + 1, 0, rfl, W6, fun k0 hk => (er k0 ?_).new (S := [p, q]) (T := [p]) kH6 (by simp [hp, hq0]) (by simpa using hp), fun j7 e7 he7 o7 H7 k7 ho7 W7 at7 fit7 hj7 => ?_⟩
          · rw [hk] at hl5; exact hl5.symm
          rw [he7] at hl5
          have g7 := k7 _ _ g6 (by simpa using nqp)
          obtain ⟨dx6, hp6⟩ := W6.ob
          have at67 := EndsAt.keep k7 ⟨_, hp6, by simp; exact fun h => (hC h.symm).elim, by simp, by simp⟩ at6
          refine ⟨q, _, .ref o7, rfl, rfl, g7, sz_lt ?_, m1, by omega, j7, es ++ [e7], ps ++ [o7], rfl, ?_, ?_, ?_, ?_, ?_, ?_, hl5, by omega⟩
          · have := (EndsAt.get at5).1
            have := W6.le
            rw [List.length_map]; omega
          · exact Keep.trans (S := [p, q]) (T := [q]) (Keep.trans (U := [p, q]) kH6 k7 (by simp) (by simp)) keep_upd (by simp) (by simp)
          · exact W7.keep (S := [q]) keep_upd (by simpa using nqp.symm) (by simpa using ne_of_none W1.li hq)
          · rw [upd_same, List.map_append]; rfl
          · exact (EndsAt.keep keep_upd ⟨_, g7, by simp, by simp, by simp⟩ at67).snoc (at7.keep keep_upd ⟨_, g7, by simp, by simp, by simp⟩)
          · intro e' he'
            rcases List.mem_append.mp he' with h | h
            · exact fit5 e' h
            · rw [List.mem_singleton.mp h]; exact fit7
          · rw [List.length_append, List.length_singleton]; omega
        · have hs5 : ¬ ws[j5]? = some ("/" : Str) := by simpa using z5
          refine rest j5 es ps H5 ?_ k5 W5 g5 at5 fit5 hn5
          rw [← hl5]
          cases m with
          | zero => exact absurd W5.le (by omega)
          | succ m => unfold loopE; rw [if_neg hs5]
    · refine ⟨p, dx, x, rfl, upd_same, .inr ⟨t, ?_, kt, ?_⟩⟩
      · refine TyX.same (fun b o e => ?_) ty
        rw [upd_ne (ne_of_none e hp), upd_ne (ne_of_none e hdx)]; exact e
      · exact fun d H1 kp hd => er d H1 (fun b o e _ => kp b o (by rw [upd_ne (ne_of_none e hp), upd_ne (ne_of_none e hdx)]; exact e) (by simp)) hd
end
end Ky

set_option Elab.async false
set_option maxRecDepth 100000
set_option maxHeartbeats 4000000
set_option linter.all false
namespace Ky
open PySem L2 Ly
def REnd (CE : Addr) (a b : Addr) (H : Hp) : Prop := ∃ e, EndAt CE H a e ∧ EndAt CE H b e ∧ FitE e
theorem dict_eq {K : PySem.W.Frag} {H : Hp} {F : V → V → Prop} {a b : Addr} {ks ls : List (Key × V)} (ha : H a = some (.dK ks)) (hb : H b = some (.dK ls)) (hl : ks.length = ls.length) (h : ∀ p ∈ ks, ∃ u, valV ls p.1 = some u ∧ F p.2 u) : EqR K H F (.ref a) (.ref b) := .inr ⟨a, b, ks, ls, rfl, rfl, ha, hb, hl, h⟩
theorem lD_at : ∀ {l1 l2 : List (Str × Addr × List Str)}, lD l1 = lD l2 → l1.length = l2.length ∧ ∀ x ∈ l1, ∃ y ∈ l2, y.1 = x.1 ∧ y.2.2 = x.2.2
  | [], [], _ => ⟨rfl, fun _ h => nomatch h⟩
  | [], _ :: _, h => by simp [lD] at h
  | _ :: _, [], h => by simp [lD] at h
  | a :: r, b :: t, h => by
    simp only [lD, List.map_cons, List.cons.injEq, Prod.mk.injEq] at h
    obtain ⟨ih1, ih2⟩ := lD_at (l1 := r) (l2 := t) h.2
    refine ⟨by simp [ih1], fun x hx => ?_⟩
    rcases List.mem_cons.mp hx with rfl | hx
    · exact ⟨b, .head _, h.1.1.symm, h.1.2.symm⟩
    · obtain ⟨y, hy, e⟩ := ih2 x hx
      exact ⟨y, .tail _ hy, e⟩
theorem strs_paired {F : V → V → Prop} (h : ∀ s : Str, F (.str s) (.str s)) : ∀ l : List Str, Paired F (l.map V.str) (l.map V.str)
  | [] => .nil
  | a :: r => .cons (h a) (strs_paired h r)
/-- own_parts of two ends of the same data -/
theorem parts_eq {K : PySem.W.Frag} {H : Hp} {t1 t2 c1 c2 l1 l2 : Addr} {e : EndD} {ls1 ls2 : List (Str × Addr × List Str)} (fit : FitE e) (h1 : H t1 = some (.tup [failV e.failed, .ref c1, .ref l1])) (h2 : H t2 = some (.tup [failV e.failed, .ref c2, .ref l2]))
    (a1 : TabAt H c1 l1 e.cells ls1) (a2 : TabAt H c2 l2 e.cells ls2) (e1 : lD ls1 = e.logs) (e2 : lD ls2 = e.logs) : EqTup K H (EqW K H 4) (.ref t1) (.ref t2) := by
  have str1 : ∀ n (s : Str), EqW K H (n + 1) (.str s) (.str s) := fun n s => .inl ⟨rfl, rfl⟩
  refine ⟨t1, t2, _, _, rfl, rfl, SqT.of h1, SqT.of h2, .cons ?_ (.cons ?_ (.cons ?_ .nil))⟩
  · refine .inl ⟨rfl, ?_⟩
    cases e.failed <;> rfl
  · refine .inr (.inr (.inl (dict_eq a1.atC a2.atC rfl fun p hp => ?_)))
    obtain ⟨x, hx, rfl⟩ := List.mem_map.mp hp
    exact ⟨_, val_of (fun x => V.int x.2) e.cells x hx fit.dc, .inl ⟨rfl, rfl⟩⟩
  · obtain ⟨hl, hm⟩ := lD_at (e1.trans e2.symm)
    refine .inr (.inr (.inl (dict_eq a1.atL a2.atL (by simp [lK, hl]) fun p hp => ?_)))
    obtain ⟨x, hx, rfl⟩ := List.mem_map.mp hp
    obtain ⟨y, hy, ey, ey2⟩ := hm x hx
    have nd : (ls2.map (·.1)).Nodup := by rw [← lD_fst, e2]; exact fit.dl
    refine ⟨.ref y.2.1, by rw [show (Sum.inr x.1 : Key) = .inr y.1 by rw [ey]]; exact val_of (fun x => V.ref x.2.1) ls2 y hy nd, .inr (.inr (.inr ⟨x.2.1, y.2.1, _, _, rfl, rfl, SqT.of (a1.atT x hx), SqT.of (a2.atT y hy), ?_⟩))⟩
    rw [ey2]
    exact strs_paired (fun s => str1 _ s) _
section
variable {w : World} {K : PySem.W.Frag} {mg : Str → Option Value} {base : Heap} {aK aF CB CP CE CW : Addr}
/-- End for == and isinstance -/
structure EqC (K : PySem.W.Frag) (CE CP : Addr) : Prop where
  wd : ∃ u, Con K CE "WORD" (.str "end") u
  ty : ∀ (H : Hp) (a dx : Addr) (fs : List (Str × V)), H a = some (.ins CE dx fs) → TyX K H (.ref a) (.ref CE)
  kt : PySem.W.kitOne K (.ref CE) (.ref CP) = some true
theorem eF_W (t c l : Addr) (v : V) : (eF t v c l).lookup ("WORD" : Str) = none := by kernel_rfl
abbrev s_Paper___eq__ : Stmt := inClass (top 4) 3
theorem sc_Paper___eq__ : FnScope ["self", "other"] ["self", "other"] (defScope s_Paper___eq__) := ⟨rfl, rfl, rfl, by decide +kernel, rfl, by decide +kernel, by decide +kernel⟩
theorem ok_PE {f : Addr} {fd : FuncData} (F : Fun K "__eq__" "Paper.__eq__" s_Paper___eq__ f fd) (T : Tx K mg aK aF) (C : EC K CE) (CQ : EqC K CE CP) (hPap : mg "Paper" = some (.ref CP)) : FnOk PP w K mg base (L2.CX PP w) 1 f fd ["self", "other"] (spEq (REnd CE)) := by
  refine F.okX sc_Paper___eq__ (fun vs H Q E h => ?_) (fun cdv A outer s H vs Q E hr h => ?_)
  · obtain ⟨a, b, rfl, _⟩ := h; rfl
  · obtain ⟨a, b, rfl, ⟨e, ea, eb, fit⟩, k⟩ := h
    obtain ⟨dx1, t1, c1, l1, ls1, p1, p2, p3, p4⟩ := ea.ex
    obtain ⟨dx2, t2, c2, l2, ls2, q1, q2, q3, q4⟩ := eb.ex
    obtain ⟨uW, cW⟩ := CQ.wd
    refine ⟨_, (pss_one (ps_ret (pe_and (pe_callB call_isi (by rfl) T.isinstance (by decide +kernel) (pa_cons (pv 1) (pa_cons (pe_glob (v := .ref CP) rfl hPap rfl) pa_nil))) (pe_and (pe_cmpR op_eq (pe_con (pv 0) rfl) (pe_con (pv 1) rfl) (nomark _)) (pe_one (pe_cmpR (op_eqW hr.units) (pe_fld (pv 0) rfl) (pe_fld (pv 1) rfl) (nomark _))))))), ?_⟩
    simp only [tSeq, tIfS, tOr, tAnd, tNot, tB, tTest, tCB, tCons, tNil, tVar, tC, tOp, tUn, tRet, tRetN, tDrop, tAsg, tPar, tPar3, tNext, tNever, tBreak, tCont, tAug, tChain, tAndV, tOrV, tNotV, tIf, tIsN, tNotN, tTup, tLst, tCallD, tMethD, tMakeD, tFld, tCon, sFld, sFldAug, tCallK, tSl, tPart, tNoPart, tBM, tBM0, tDGet, tDIn, tDNotIn, sDPut, tDNewK, tM0, tM1, tOrT, tAndT, tNotT, tAsg2, tAsg3, gName, rI0, rI, rU, tYes, L2.start, NdefX.startF, List.set_cons_zero, List.set_cons_succ, List.map_cons, List.map_nil, List.length_cons, List.length_nil, Nat.sub_zero, Nat.reduceSub, Nat.reduceAdd, List.replicate_succ, List.replicate_zero, List.cons_append, List.nil_append, List.append_nil, List.getElem?_cons_zero, List.getElem?_cons_succ, Option.some.injEq, exists_eq_left', exists_eq_left, exists_eq_right, exists_eq_right', exists_and_left, exists_and_right, exists_eq, exists_eq', true_and, and_true, V.int.injEq, V.str.injEq, V.bl.injEq, V.ref.injEq, V.ty.injEq, HO.ins.injEq, HO.lst.injEq, HO.tup.injEq, and_assoc, List.cons.injEq, Bool.not_true, Bool.not_false, Bool.false_eq_true, if_false, if_true, cx_K, upd_same, upd_upd, isi_str, req_ii, req_ss, rne_ii, rne_ss, radd_ii, rsub_ii, atI_at, atI_0, atI_1, atI_2, atI_3, atI_4, rLenL, rLenU, rIxLL, rIxU, reduceCtorEq, gTup, gCons, gNil, tFmt_eq, fmtV_str, fmtV_int, tJs_nil, tJs_cons, jsV_str, iKeys_eq, gSub, rSetL, tPart, tNoPart, tSl, rSlL, false_and, exists_false, or_false, false_or, List.set_cons_zero, List.set_cons_succ, p1, q1, C.cl, C.nP, eF_P, eF_W]
    refine ⟨.ref b, .ref CP, .ref CE, .ref CP, true, rfl, .own CP, CQ.ty H b dx2 _ q1, CQ.kt, ?_⟩
    simp only [tSeq, tIfS, tOr, tAnd, tNot, tB, tTest, tCB, tCons, tNil, tVar, tC, tOp, tUn, tRet, tRetN, tDrop, tAsg, tPar, tPar3, tNext, tNever, tBreak, tCont, tAug, tChain, tAndV, tOrV, tNotV, tIf, tIsN, tNotN, tTup, tLst, tCallD, tMethD, tMakeD, tFld, tCon, sFld, sFldAug, tCallK, tSl, tPart, tNoPart, tBM, tBM0, tDGet, tDIn, tDNotIn, sDPut, tDNewK, tM0, tM1, tOrT, tAndT, tNotT, tAsg2, tAsg3, gName, rI0, rI, rU, tYes, L2.start, NdefX.startF, List.set_cons_zero, List.set_cons_succ, List.map_cons, List.map_nil, List.length_cons, List.length_nil, Nat.sub_zero, Nat.reduceSub, Nat.reduceAdd, List.replicate_succ, List.replicate_zero, List.cons_append, List.nil_append, List.append_nil, List.getElem?_cons_zero, List.getElem?_cons_succ, Option.some.injEq, exists_eq_left', exists_eq_left, exists_eq_right, exists_eq_right', exists_and_left, exists_and_right, exists_eq, exists_eq', true_and, and_true, V.int.injEq, V.str.injEq, V.bl.injEq, V.ref.injEq, V.ty.injEq, HO.ins.injEq, HO.lst.injEq, HO.tup.injEq, and_assoc, List.cons.injEq, Bool.not_true, Bool.not_false, Bool.false_eq_true, if_false, if_true, cx_K, upd_same, upd_upd, isi_str, req_ii, req_ss, rne_ii, rne_ss, radd_ii, rsub_ii, atI_at, atI_0, atI_1, atI_2, atI_3, atI_4, rLenL, rLenU, rIxLL, rIxU, reduceCtorEq, gTup, gCons, gNil, tFmt_eq, fmtV_str, fmtV_int, tJs_nil, tJs_cons, jsV_str, iKeys_eq, gSub, rSetL, tPart, tNoPart, tSl, rSlL, false_and, exists_false, or_false, false_or, List.set_cons_zero, List.set_cons_succ, p1, q1, C.cl, C.nP, eF_P, eF_W]
    refine ⟨.str "end", ⟨uW, cW⟩, .str "end", ⟨uW, cW⟩, ?_⟩
    simp only [tSeq, tIfS, tOr, tAnd, tNot, tB, tTest, tCB, tCons, tNil, tVar, tC, tOp, tUn, tRet, tRetN, tDrop, tAsg, tPar, tPar3, tNext, tNever, tBreak, tCont, tAug, tChain, tAndV, tOrV, tNotV, tIf, tIsN, tNotN, tTup, tLst, tCallD, tMethD, tMakeD, tFld, tCon, sFld, sFldAug, tCallK, tSl, tPart, tNoPart, tBM, tBM0, tDGet, tDIn, tDNotIn, sDPut, tDNewK, tM0, tM1, tOrT, tAndT, tNotT, tAsg2, tAsg3, gName, rI0, rI, rU, tYes, L2.start, NdefX.startF, List.set_cons_zero, List.set_cons_succ, List.map_cons, List.map_nil, List.length_cons, List.length_nil, Nat.sub_zero, Nat.reduceSub, Nat.reduceAdd, List.replicate_succ, List.replicate_zero, List.cons_append, List.nil_append, List.append_nil, List.getElem?_cons_zero, List.getElem?_cons_succ, Option.some.injEq, exists_eq_left', exists_eq_left, exists_eq_right, exists_eq_right', exists_and_left, exists_and_right, exists_eq, exists_eq', true_and, and_true, V.int.injEq, V.str.injEq, V.bl.injEq, V.ref.injEq, V.ty.injEq, HO.ins.injEq, HO.lst.injEq, HO.tup.injEq, and_assoc, List.cons.injEq, Bool.not_true, Bool.not_false, Bool.false_eq_true, if_false, if_true, cx_K, upd_same, upd_upd, isi_str, req_ii, req_ss, rne_ii, rne_ss, radd_ii, rsub_ii, atI_at, atI_0, atI_1, atI_2, atI_3, atI_4, rLenL, rLenU, rIxLL, rIxU, reduceCtorEq, gTup, gCons, gNil, tFmt_eq, fmtV_str, fmtV_int, tJs_nil, tJs_cons, jsV_str, iKeys_eq, gSub, rSetL, tPart, tNoPart, tSl, rSlL, false_and, exists_false, or_false, false_or, List.set_cons_zero, List.set_cons_succ, p1, q1, C.cl, C.nP, eF_P, eF_W, decide_true]
    exact ⟨4, by decide, parts_eq fit p2 q2 p3 q3 p4 q4, k H Ext.rfl'⟩
end
end Ky

set_option Elab.async false
set_option maxRecDepth 100000
set_option maxHeartbeats 4000000
set_option linter.all false
/-! == of plain data: lists and tuples of texts and ints -/
namespace Ly
open PySem PySem.Spec PyProof.Rows L2
structure DOk (n : Nat) (d : PyData) : Prop where
  lay : d.canLay0 = true
  dep : d.depth ≤ n
theorem DOk.mono {n m : Nat} {d : PyData} (h : DOk n d) (k : n ≤ m) : DOk m d := ⟨h.lay, Nat.le_trans h.dep k⟩
theorem DOk.non : DOk 0 .none := ⟨by simp [PyData.canLay0], by simp [PyData.depth]⟩
theorem DOk.int (i : Int) : DOk 0 (.int i) := ⟨by simp [PyData.canLay0], by simp [PyData.depth]⟩
theorem DOk.str {s : Str} (h : PyData.strOk s = true) : DOk 0 (.str s) := ⟨by simpa [PyData.canLay0] using h, by simp [PyData.depth]⟩
theorem all_ok {n : Nat} : ∀ {ds : List PyData}, (∀ d ∈ ds, DOk n d) → PyData.canLayAll0 ds = true ∧ PyData.depthAll ds ≤ n
  | [], _ => ⟨by simp [PyData.canLayAll0], by simp [PyData.depthAll]⟩
  | a :: r, h => by
    obtain ⟨h1, h2⟩ := all_ok (ds := r) fun d hd => h d (.tail _ hd)
    have h0 := h a (.head _)
    have := h0.dep
    exact ⟨by simp [PyData.canLayAll0, h0.lay, h1], by simp only [PyData.depthAll]; omega⟩
theorem DOk.list {n : Nat} {ds : List PyData} (h : ∀ d ∈ ds, DOk n d) : DOk (n + 1) (.list ds) := by
  obtain ⟨h1, h2⟩ := all_ok h
  exact ⟨by simpa [PyData.canLay0] using h1, by simp only [PyData.depth]; omega⟩
theorem DOk.tup {n : Nat} {ds : List PyData} (h : ∀ d ∈ ds, DOk n d) : DOk (n + 1) (.tuple ds) := by
  obtain ⟨h1, h2⟩ := all_ok h
  exact ⟨by simpa [PyData.canLay0] using h1, by simp only [PyData.depth]; omega⟩
theorem DOk.shaped {n : Nat} {d : PyData} (h : DOk n d) (hn : n ≤ 64) : SeqAt.shaped d = true := by
  unfold SeqAt.shaped
  rw [h.lay, Bool.true_and]
  exact decide_eq_true (Nat.le_trans h.dep hn)
section
variable {K : PySem.W.Frag} {H : Hp} {Q : VK} {x y : V} {d e : PyData} {n : Nat}
theorem ne_same (hx : Dp K H x d) (hy : Dp K H y d) (ok : DOk n d) (hn : n ≤ 64) (q : Q (.bl false) H) : rNeD K x y H Q := ⟨d, d, hx, hy, ok.shaped hn, ok.shaped hn, by rw [SeqAt.eqv_refl d ok.lay]; exact q⟩
theorem eq_same (hx : Dp K H x d) (hy : Dp K H y d) (ok : DOk n d) (hn : n ≤ 64) (q : Q (.bl true) H) : rEqD K x y H Q := ⟨d, d, hx, hy, ok.shaped hn, ok.shaped hn, by rw [SeqAt.eqv_refl d ok.lay]; exact q⟩
theorem dp_all {α : Type} (f : α → V) (g : α → PyData) : ∀ l : List α, (∀ x ∈ l, Dp K H (f x) (g x)) → DpAll K H (l.map f) (l.map g)
  | [], _ => .nil
  | a :: r, h => .cons (h a (.head _)) (dp_all f g r fun x hx => h x (.tail _ hx))
theorem dp_strs {a : Addr} {l : List Str} (h : SqL K H a (l.map V.str)) : Dp K H (.ref a) (.list (l.map PyData.str)) := .lst h (dp_all V.str PyData.str l fun x _ => .str x)
theorem dp_strsT {a : Addr} {l : List Str} (h : SqT K H a (l.map V.str)) : Dp K H (.ref a) (.tuple (l.map PyData.str)) := .tup h (dp_all V.str PyData.str l fun x _ => .str x)
theorem dp_ints {a : Addr} {l : List Int} (h : SqL K H a (l.map V.int)) : Dp K H (.ref a) (.list (l.map PyData.int)) := .lst h (dp_all V.int PyData.int l fun x _ => .int x)
theorem ok_strs {l : List Str} (h : ∀ x ∈ l, PyData.strOk x = true) : DOk 1 (.list (l.map PyData.str)) := .list fun d hd => by
  obtain ⟨x, hx, rfl⟩ := List.mem_map.mp hd
  exact .str (h x hx)
theorem ok_strsT {l : List Str} (h : ∀ x ∈ l, PyData.strOk x = true) : DOk 1 (.tuple (l.map PyData.str)) := .tup fun d hd => by
  obtain ⟨x, hx, rfl⟩ := List.mem_map.mp hd
  exact .str (h x hx)
theorem ok_ints (l : List Int) : DOk 1 (.list (l.map PyData.int)) := .list fun d hd => by
  obtain ⟨x, hx, rfl⟩ := List.mem_map.mp hd
  exact .int x
/-- list == [], list != [] -/
theorem eqv_nil : ∀ l : List PyData, PyData.eqv (.list l) (.list []) = l.isEmpty
  | [] => by simp [PyData.eqv, PyData.eqvAll]
  | _ :: _ => by simp [PyData.eqv, PyData.eqvAll]
theorem ne_nil {a b : Addr} {l : List PyData} (hx : Dp K H (.ref a) (.list l)) (ok : DOk n (.list l)) (hn : n ≤ 64) (hb : H b = some (.lst [])) (q : Q (.bl (!l.isEmpty)) H) : rNeD K (.ref a) (.ref b) H Q :=
  ⟨_, .list [], hx, .lst (SqL.of hb) .nil, ok.shaped hn, (DOk.list (n := 0) (ds := []) fun _ h => nomatch h).shaped (by decide), by rw [eqv_nil]; exact q⟩
theorem eq_nil {a b : Addr} {l : List PyData} (hx : Dp K H (.ref a) (.list l)) (ok : DOk n (.list l)) (hn : n ≤ 64) (hb : H b = some (.lst [])) (q : Q (.bl l.isEmpty) H) : rEqD K (.ref a) (.ref b) H Q :=
  ⟨_, .list [], hx, .lst (SqL.of hb) .nil, ok.shaped hn, (DOk.list (n := 0) (ds := []) fun _ h => nomatch h).shaped (by decide), by rw [eqv_nil]; exact q⟩
end
end Ly

set_option Elab.async false
set_option maxRecDepth 100000
set_option maxHeartbeats 4000000
set_option linter.all false
namespace Ky
open PySem L2 Ly
theorem cut_take (xs : List V) (k : Nat) : cutV xs none (some (k : Int)) = xs.take k := by
  unfold cutV
  rw [HT.sIx_none, HT.sIx_nat, List.drop_zero, Nat.sub_zero, Nat.min_comm, ← List.take_take, List.take_of_length_le (by rw [List.length_take]; omega)]
theorem cut_drop (xs : List V) (k : Nat) : cutV xs (some (k : Int)) none = xs.drop k := by
  unfold cutV
  rw [HT.sIx_none, HT.sIx_nat]
  by_cases h : k ≤ xs.length
  · rw [Nat.min_eq_left h, ← List.length_drop, List.take_length]
  · rw [Nat.min_eq_right (by omega), List.drop_length, List.drop_eq_nil_of_le (by omega), List.take_nil]
theorem cut_mid (xs : List V) (i j : Nat) : cutV xs (some (i : Int)) (some (j : Int)) = (xs.take j).drop i := by
  unfold cutV
  rw [HT.sIx_nat, HT.sIx_nat]
  by_cases h : i ≤ xs.length
  · rw [Nat.min_eq_left h, List.drop_take]
    by_cases h2 : j ≤ xs.length
    · rw [Nat.min_eq_left h2]
    · rw [Nat.min_eq_right (by omega), List.take_of_length_le (by rw [List.length_drop]; omega), List.take_of_length_le (by rw [List.length_drop]; omega)]
  · rw [List.drop_eq_nil_of_le (as := xs) (i := min i xs.length) (by omega), List.take_nil, List.drop_eq_nil_of_le (by rw [List.length_take]; omega)]
/-! ### the law's pen -/
structure Pen (H : Hp) (pen sl : Addr) (n : Nat) : Prop where
  ex : ∃ (ns : List Int) (b : Nat) (g : Int), H pen = some (.lst [.ref sl, .int b, .int g]) ∧ H sl = some (.lst (ns.map V.int)) ∧ ns.length ≤ 63 ∧ b ≤ n ∧ 0 ≤ g ∧ n ≤ 100000
def spPen (K : PySem.W.Frag) : Sp := fun vs H Q _ => ∃ (a : Addr) (ns : List Int), vs = [.ref a] ∧ SqL K H a (ns.map V.int) ∧ ns.length ≤ 63 ∧ ∀ pen sl H', Same H H' → H pen = none → H sl = none → Pen H' pen sl 0 → Q (.ref pen) H'
def spDraw : Sp := fun vs H Q _ => ∃ (pen sl : Addr) (n : Nat) (m : Nat), vs = [.ref pen, .int m] ∧ Pen H pen sl n ∧ n < 100000 ∧ 1 ≤ m ∧ m < 1073741824 ∧ ∀ (r : Nat) H', r < m → Keep [pen] H H' → Pen H' pen sl (n + 1) → Q (.int r) H'
section
variable {w : World} {K : PySem.W.Frag} {mg : Str → Option Value} {base : Heap} {aK aF CB CP CE CW : Addr}
abbrev s__law_pen : Stmt := top 23
theorem sc__law_pen : FnScope ["_law_script"] ["_law_script"] (defScope s__law_pen) := ⟨rfl, rfl, rfl, by decide +kernel, rfl, by decide +kernel, by decide +kernel⟩
theorem ok_pen {f : Addr} {fd : FuncData} (F : Fun K "_law_pen" "_law_pen" s__law_pen f fd) (T : Tx K mg aK aF) : FnOk PP w K mg base (L2.CX PP w) 1 f fd ["_law_script"] (spPen K) := by
  refine F.okX sc__law_pen (fun vs H Q E h => ?_) (fun cdv A outer s H vs Q E hr h => ?_)
  · obtain ⟨a, ns, rfl, _⟩ := h; rfl
  · obtain ⟨a, ns, rfl, ha, hn, k⟩ := h
    refine ⟨_, (pss_one (ps_ret (pe_lst (pa_cons (pe_callTy call_list_of (by rfl) T.list (by decide +kernel) (pa_cons (pe_slice sl_list (pv 0) po_none (po_some pe_int)) pa_nil)) (pa_cons pe_int (pa_cons pe_int pa_nil)))))), ?_⟩
    simp only [tSeq, tIfS, tOr, tAnd, tNot, tB, tTest, tCB, tCons, tNil, tVar, tC, tOp, tUn, tRet, tRetN, tDrop, tAsg, tPar, tPar3, tNext, tNever, tBreak, tCont, tAug, tChain, tAndV, tOrV, tNotV, tIf, tIsN, tNotN, tTup, tLst, tCallD, tMethD, tMakeD, tFld, tCon, sFld, sFldAug, tCallK, tSl, tPart, tNoPart, tBM, tBM0, tDGet, tDIn, tDNotIn, sDPut, tDNewK, tM0, tM1, tOrT, tAndT, tNotT, tAsg2, tAsg3, gName, rI0, rI, rU, tYes, L2.start, NdefX.startF, List.set_cons_zero, List.set_cons_succ, List.map_cons, List.map_nil, List.length_cons, List.length_nil, Nat.sub_zero, Nat.reduceSub, Nat.reduceAdd, List.replicate_succ, List.replicate_zero, List.cons_append, List.nil_append, List.append_nil, List.getElem?_cons_zero, List.getElem?_cons_succ, Option.some.injEq, exists_eq_left', exists_eq_left, exists_eq_right, exists_eq_right', exists_and_left, exists_and_right, exists_eq, exists_eq', true_and, and_true, V.int.injEq, V.str.injEq, V.bl.injEq, V.ref.injEq, V.ty.injEq, HO.ins.injEq, HO.lst.injEq, HO.tup.injEq, and_assoc, List.cons.injEq, Bool.not_true, Bool.not_false, Bool.false_eq_true, if_false, if_true, cx_K, upd_same, upd_upd, isi_str, req_ii, req_ss, rne_ii, rne_ss, radd_ii, rsub_ii, atI_at, atI_0, atI_1, atI_2, atI_3, atI_4, rLenL, rLenU, rIxLL, rIxU, reduceCtorEq, gTup, gCons, gNil, tFmt_eq, fmtV_str, fmtV_int, tJs_nil, tJs_cons, jsV_str, iKeys_eq, gSub, rSetL, tPart, tNoPart, tSl, rSlL, false_and, exists_false, or_false, false_or, List.set_cons_zero, List.set_cons_succ]
    refine ⟨_, ha, fun p hp => ⟨_, .inl (SqL.of upd_same), fun l hl => ⟨sz_le (by decide), fun q hq => ?_⟩⟩⟩
    have s2 := same_new (same_upd (o := .lst (cutV (ns.map V.int) none (some 63))) hp) hl (o := .lst (cutV (ns.map V.int) none (some 63)))
    have hlp : l ≠ p := fun e => by rw [e, upd_same] at hl; cases hl
    have hl0 : H l = none := by rw [upd_ne hlp] at hl; exact hl
    have s3 := same_new s2 hq (o := .lst [.ref l, .int 0, .int 0])
    have hql : q ≠ l := fun e => by rw [e, upd_same] at hq; cases hq
    have hqp : q ≠ p := fun e => by rw [e, upd_ne hlp.symm, upd_same] at hq; cases hq
    have hq0 : H q = none := by rw [upd_ne hql, upd_ne hqp] at hq; exact hq
    have hc : cutV (ns.map V.int) none (some 63) = (ns.take 63).map V.int := by
      rw [List.map_take]; exact cut_take _ 63
    refine k q l _ s3 hq0 hl0 ⟨ns.take 63, 0, 0, upd_same, by rw [upd_ne hql.symm, upd_same, hc], by simp [List.length_take]; omega, Nat.le_refl _, Int.le_refl _, by decide⟩
abbrev s__law_draw : Stmt := top 24
theorem sc__law_draw : FnScope ["_law_pen_here", "_law_many", "_law_digit", "_law_begun", "_law_raw", "_law_great", "_law_stirred"] ["_law_pen_here", "_law_many"] (defScope s__law_draw) := ⟨rfl, rfl, rfl, by decide +kernel, rfl, by decide +kernel, by decide +kernel⟩
theorem ok_draw {f : Addr} {fd : FuncData} (F : Fun K "_law_draw" "_law_draw" s__law_draw f fd) (T : Tx K mg aK aF) : FnOk PP w K mg base (L2.CX PP w) 1 f fd ["_law_pen_here", "_law_many"] spDraw := by
  refine F.okX sc__law_draw (fun vs H Q E h => ?_) (fun cdv A outer s H vs Q E hr h => ?_)
  · obtain ⟨pen, sl, n, m, rfl, _⟩ := h; rfl
  · obtain ⟨pen, sl, n, m, rfl, P, hn, hm1, hm2, k⟩ := h
    obtain ⟨ns, b, g, hp, hs, hl, hb, hg, _⟩ := P.ex
    refine ⟨_, (pss_cons (ps_if (pt_cmpR op_gt (pe_ix ix_LL (pv 0) pe_int (fun _ _ => rfl)) pe_int (nomark _)) (pss_cons (ps_set (i := 2) sc__law_draw.nd rfl (Or.inl rfl) (pe_op op_mod (pe_callTy call_int1 (by rfl) T.int (by decide +kernel) (pa_cons (pe_ix ix_LL (pv 0) pe_int (fun _ _ => rfl)) pa_nil)) (pv 1)))
      (pss_hid (pss_cons (ps_asg (pe_op op_fdiv (pe_callTy call_int1 (by rfl) T.int (by decide +kernel) (pa_cons (pe_ix ix_LL (pv 0) pe_int (fun _ _ => rfl)) pa_nil)) (pv 1)) (pg_sub (pv 0) pe_int set_list))
      (pss_hid (pss_one (ps_ret (pv 2))))))) pss_nil)
      (pss_hid (pss_cons (ps_set (i := 3) sc__law_draw.nd rfl (Or.inl rfl) (pe_ix ix_LL (pv 0) pe_int (fun _ _ => rfl)))
      (pss_hid (pss_cons (ps_asg (pe_op op_add (pv 3) pe_int) (pg_sub (pv 0) pe_int set_list))
      (pss_hid (pss_cons (ps_set (i := 4) sc__law_draw.nd rfl (Or.inl rfl) (pe_op op_add (pe_op op_mul pe_int (pv 3)) pe_int))
      (pss_hid (pss_cons (ps_if (pt_cmpR (op_neD hr.units) (pe_ix ix_LL (pv 0) pe_int (fun _ _ => rfl)) (pe_lst pa_nil) (nomark _)) (pss_one (ps_set (i := 4) sc__law_draw.nd rfl (Or.inl rfl) (pe_ix ix_LL (pe_ix ix_LL (pv 0) pe_int (fun _ _ => rfl)) (pe_op op_mod (pe_callTy call_int1 (by rfl) T.int (by decide +kernel) (pa_cons (pv 3) pa_nil)) (pe_callB call_lenL (by rfl) T.len (by decide +kernel) (pa_cons (pe_ix ix_LL (pv 0) pe_int (fun _ _ => rfl)) pa_nil))) (fun _ _ => rfl)))) pss_nil)
      (pss_hid (pss_cons (ps_if (PW.pt (pw_and (pt_cmpR op_lt (pv 3) (pe_callB call_lenL (by rfl) T.len (by decide +kernel) (pa_cons (pe_ix ix_LL (pv 0) pe_int (fun _ _ => rfl)) pa_nil)) (nomark _)) (pw_and1 (pt_cmpR op_ge (pe_callB call_abs (by rfl) T.abs (by decide +kernel) (pa_cons (pv 4) pa_nil)) (pe_op op_pow pe_int pe_int) (nomark _))))) (pss_cons (ps_set (i := 5) sc__law_draw.nd rfl (Or.inl rfl) (pe_op op_add (pe_op op_mul pe_int (pe_op op_sub (pe_callB call_abs (by rfl) T.abs (by decide +kernel) (pa_cons (pv 4) pa_nil)) (pe_op op_pow pe_int pe_int))) (pe_callTy call_int1 (by rfl) T.int (by decide +kernel) (pa_cons (pe_cmpR op_lt (pv 4) pe_int (nomark _)) pa_nil))))
      (pss_hid (pss_cons (ps_asg (pe_op op_fdiv (pe_callTy call_int1 (by rfl) T.int (by decide +kernel) (pa_cons (pv 5) pa_nil)) (pv 1)) (pg_sub (pv 0) pe_int set_list))
      (pss_hid (pss_one (ps_ret (pe_op op_mod (pe_callTy call_int1 (by rfl) T.int (by decide +kernel) (pa_cons (pv 5) pa_nil)) (pv 1)))))))) pss_nil)
      (pss_hid (pss_cons (ps_set (i := 6) sc__law_draw.nd rfl (Or.inl rfl) (pe_op op_mod (pe_callTy call_int1 (by rfl) T.int (by decide +kernel) (pa_cons (pe_op op_pow (pe_op op_add (pe_op op_add (pe_op op_mod (pe_callTy call_int1 (by rfl) T.int (by decide +kernel) (pa_cons (pv 4) pa_nil)) pe_int) (pe_op op_mul pe_int (pv 3))) pe_int) pe_int) pa_nil)) pe_int))
      (pss_hid (pss_cons (ps_set (i := 6) sc__law_draw.nd rfl (Or.inl rfl) (pe_op op_mod (pe_callTy call_int1 (by rfl) T.int (by decide +kernel) (pa_cons (pe_op op_pow (pe_op op_add (pe_op op_add (pe_op op_mul (pv 6) (pe_op op_add (pe_op op_mul pe_int (pv 3)) pe_int)) (pe_op op_mul (pe_op op_mul pe_int (pv 3)) (pv 3))) pe_int) pe_int) pa_nil)) pe_int))
      (pss_hid (pss_one (ps_ret (pe_op op_mod (pe_callTy call_int1 (by rfl) T.int (by decide +kernel) (pa_cons (pe_op op_fdiv (pv 6) pe_int) pa_nil)) (pv 1)))))))))))))))))))), ?_⟩
    have hmn : (0 : Int) < (m : Int) := by omega
    have nps : pen ≠ sl := fun e => by rw [e, hs] at hp; cases ns with
      | nil => cases hp
      | cons z r => cases hp
    have eint : ∀ x : Int, Keep [pen] H H → True := fun _ _ => trivial
    simp only [tSeq, tIfS, tOr, tAnd, tNot, tB, tTest, tCB, tCons, tNil, tVar, tC, tOp, tUn, tRet, tRetN, tDrop, tAsg, tPar, tPar3, tNext, tNever, tBreak, tCont, tAug, tChain, tAndV, tOrV, tNotV, tIf, tIsN, tNotN, tTup, tLst, tCallD, tMethD, tMakeD, tFld, tCon, sFld, sFldAug, tCallK, tSl, tPart, tNoPart, tBM, tBM0, tDGet, tDIn, tDNotIn, sDPut, tDNewK, tM0, tM1, tOrT, tAndT, tNotT, tAsg2, tAsg3, gName, rI0, rI, rU, tYes, L2.start, NdefX.startF, List.set_cons_zero, List.set_cons_succ, List.map_cons, List.map_nil, List.length_cons, List.length_nil, Nat.sub_zero, Nat.reduceSub, Nat.reduceAdd, List.replicate_succ, List.replicate_zero, List.cons_append, List.nil_append, List.append_nil, List.getElem?_cons_zero, List.getElem?_cons_succ, Option.some.injEq, exists_eq_left', exists_eq_left, exists_eq_right, exists_eq_right', exists_and_left, exists_and_right, exists_eq, exists_eq', true_and, and_true, V.int.injEq, V.str.injEq, V.bl.injEq, V.ref.injEq, V.ty.injEq, HO.ins.injEq, HO.lst.injEq, HO.tup.injEq, and_assoc, List.cons.injEq, Bool.not_true, Bool.not_false, Bool.false_eq_true, if_false, if_true, cx_K, upd_same, upd_upd, isi_str, req_ii, req_ss, rne_ii, rne_ss, radd_ii, rsub_ii, atI_at, atI_0, atI_1, atI_2, atI_3, atI_4, rLenL, rLenU, rIxLL, rIxU, reduceCtorEq, gTup, gCons, gNil, tFmt_eq, fmtV_str, fmtV_int, tJs_nil, tJs_cons, jsV_str, iKeys_eq, gSub, rSetL, tPart, tNoPart, tSl, rSlL, false_and, exists_false, or_false, false_or, List.set_cons_zero, List.set_cons_succ, hp]
    refine ite2 (fun z => ?_) fun z => ?_
    · refine ⟨hmn, ?_⟩
      refine hid_in ?_
      simp only [tSeq, tIfS, tOr, tAnd, tNot, tB, tTest, tCB, tCons, tNil, tVar, tC, tOp, tUn, tRet, tRetN, tDrop, tAsg, tPar, tPar3, tNext, tNever, tBreak, tCont, tAug, tChain, tAndV, tOrV, tNotV, tIf, tIsN, tNotN, tTup, tLst, tCallD, tMethD, tMakeD, tFld, tCon, sFld, sFldAug, tCallK, tSl, tPart, tNoPart, tBM, tBM0, tDGet, tDIn, tDNotIn, sDPut, tDNewK, tM0, tM1, tOrT, tAndT, tNotT, tAsg2, tAsg3, gName, rI0, rI, rU, tYes, L2.start, NdefX.startF, List.set_cons_zero, List.set_cons_succ, List.map_cons, List.map_nil, List.length_cons, List.length_nil, Nat.sub_zero, Nat.reduceSub, Nat.reduceAdd, List.replicate_succ, List.replicate_zero, List.cons_append, List.nil_append, List.append_nil, List.getElem?_cons_zero, List.getElem?_cons_succ, Option.some.injEq, exists_eq_left', exists_eq_left, exists_eq_right, exists_eq_right', exists_and_left, exists_and_right, exists_eq, exists_eq', true_and, and_true, V.int.injEq, V.str.injEq, V.bl.injEq, V.ref.injEq, V.ty.injEq, HO.ins.injEq, HO.lst.injEq, HO.tup.injEq, and_assoc, List.cons.injEq, Bool.not_true, Bool.not_false, Bool.false_eq_true, if_false, if_true, cx_K, upd_same, upd_upd, isi_str, req_ii, req_ss, rne_ii, rne_ss, radd_ii, rsub_ii, atI_at, atI_0, atI_1, atI_2, atI_3, atI_4, rLenL, rLenU, rIxLL, rIxU, reduceCtorEq, gTup, gCons, gNil, tFmt_eq, fmtV_str, fmtV_int, tJs_nil, tJs_cons, jsV_str, iKeys_eq, gSub, rSetL, tPart, tNoPart, tSl, rSlL, false_and, exists_false, or_false, false_or, List.set_cons_zero, List.set_cons_succ, hp]
      refine ⟨⟨hmn, by omega⟩, 2, rfl, ?_⟩
      refine hid_in ?_
      simp only [tSeq, tIfS, tOr, tAnd, tNot, tB, tTest, tCB, tCons, tNil, tVar, tC, tOp, tUn, tRet, tRetN, tDrop, tAsg, tPar, tPar3, tNext, tNever, tBreak, tCont, tAug, tChain, tAndV, tOrV, tNotV, tIf, tIsN, tNotN, tTup, tLst, tCallD, tMethD, tMakeD, tFld, tCon, sFld, sFldAug, tCallK, tSl, tPart, tNoPart, tBM, tBM0, tDGet, tDIn, tDNotIn, sDPut, tDNewK, tM0, tM1, tOrT, tAndT, tNotT, tAsg2, tAsg3, gName, rI0, rI, rU, tYes, L2.start, NdefX.startF, List.set_cons_zero, List.set_cons_succ, List.map_cons, List.map_nil, List.length_cons, List.length_nil, Nat.sub_zero, Nat.reduceSub, Nat.reduceAdd, List.replicate_succ, List.replicate_zero, List.cons_append, List.nil_append, List.append_nil, List.getElem?_cons_zero, List.getElem?_cons_succ, Option.some.injEq, exists_eq_left', exists_eq_left, exists_eq_right, exists_eq_right', exists_and_left, exists_and_right, exists_eq, exists_eq', true_and, and_true, V.int.injEq, V.str.injEq, V.bl.injEq, V.ref.injEq, V.ty.injEq, HO.ins.injEq, HO.lst.injEq, HO.tup.injEq, and_assoc, List.cons.injEq, Bool.not_true, Bool.not_false, Bool.false_eq_true, if_false, if_true, cx_K, upd_same, upd_upd, isi_str, req_ii, req_ss, rne_ii, rne_ss, radd_ii, rsub_ii, atI_at, atI_0, atI_1, atI_2, atI_3, atI_4, rLenL, rLenU, rIxLL, rIxU, reduceCtorEq, gTup, gCons, gNil, tFmt_eq, fmtV_str, fmtV_int, tJs_nil, tJs_cons, jsV_str, iKeys_eq, gSub, rSetL, tPart, tNoPart, tSl, rSlL, false_and, exists_false, or_false, false_or, List.set_cons_zero, List.set_cons_succ, hp]
      have hr0 := Int.emod_nonneg g (by omega : (m : Int) ≠ 0)
      have hr1 := Int.emod_lt_of_pos g hmn
      have := k (g % m).toNat (upd H pen (.lst [.ref sl, .int b, .int (g / m)])) (by omega) keep_upd ⟨ns, b, g / m, upd_same, by rw [upd_ne nps.symm]; exact hs, hl, by omega, Int.ediv_nonneg hg (by omega), by omega⟩
      rw [Int.toNat_of_nonneg hr0] at this
      exact this
    · refine hid_in ?_
      simp only [tSeq, tIfS, tOr, tAnd, tNot, tB, tTest, tCB, tCons, tNil, tVar, tC, tOp, tUn, tRet, tRetN, tDrop, tAsg, tPar, tPar3, tNext, tNever, tBreak, tCont, tAug, tChain, tAndV, tOrV, tNotV, tIf, tIsN, tNotN, tTup, tLst, tCallD, tMethD, tMakeD, tFld, tCon, sFld, sFldAug, tCallK, tSl, tPart, tNoPart, tBM, tBM0, tDGet, tDIn, tDNotIn, sDPut, tDNewK, tM0, tM1, tOrT, tAndT, tNotT, tAsg2, tAsg3, gName, rI0, rI, rU, tYes, L2.start, NdefX.startF, List.set_cons_zero, List.set_cons_succ, List.map_cons, List.map_nil, List.length_cons, List.length_nil, Nat.sub_zero, Nat.reduceSub, Nat.reduceAdd, List.replicate_succ, List.replicate_zero, List.cons_append, List.nil_append, List.append_nil, List.getElem?_cons_zero, List.getElem?_cons_succ, Option.some.injEq, exists_eq_left', exists_eq_left, exists_eq_right, exists_eq_right', exists_and_left, exists_and_right, exists_eq, exists_eq', true_and, and_true, V.int.injEq, V.str.injEq, V.bl.injEq, V.ref.injEq, V.ty.injEq, HO.ins.injEq, HO.lst.injEq, HO.tup.injEq, and_assoc, List.cons.injEq, Bool.not_true, Bool.not_false, Bool.false_eq_true, if_false, if_true, cx_K, upd_same, upd_upd, isi_str, req_ii, req_ss, rne_ii, rne_ss, radd_ii, rsub_ii, atI_at, atI_0, atI_1, atI_2, atI_3, atI_4, rLenL, rLenU, rIxLL, rIxU, reduceCtorEq, gTup, gCons, gNil, tFmt_eq, fmtV_str, fmtV_int, tJs_nil, tJs_cons, jsV_str, iKeys_eq, gSub, rSetL, tPart, tNoPart, tSl, rSlL, false_and, exists_false, or_false, false_or, List.set_cons_zero, List.set_cons_succ, hp]
      refine hid_in ?_
      simp only [tSeq, tIfS, tOr, tAnd, tNot, tB, tTest, tCB, tCons, tNil, tVar, tC, tOp, tUn, tRet, tRetN, tDrop, tAsg, tPar, tPar3, tNext, tNever, tBreak, tCont, tAug, tChain, tAndV, tOrV, tNotV, tIf, tIsN, tNotN, tTup, tLst, tCallD, tMethD, tMakeD, tFld, tCon, sFld, sFldAug, tCallK, tSl, tPart, tNoPart, tBM, tBM0, tDGet, tDIn, tDNotIn, sDPut, tDNewK, tM0, tM1, tOrT, tAndT, tNotT, tAsg2, tAsg3, gName, rI0, rI, rU, tYes, L2.start, NdefX.startF, List.set_cons_zero, List.set_cons_succ, List.map_cons, List.map_nil, List.length_cons, List.length_nil, Nat.sub_zero, Nat.reduceSub, Nat.reduceAdd, List.replicate_succ, List.replicate_zero, List.cons_append, List.nil_append, List.append_nil, List.getElem?_cons_zero, List.getElem?_cons_succ, Option.some.injEq, exists_eq_left', exists_eq_left, exists_eq_right, exists_eq_right', exists_and_left, exists_and_right, exists_eq, exists_eq', true_and, and_true, V.int.injEq, V.str.injEq, V.bl.injEq, V.ref.injEq, V.ty.injEq, HO.ins.injEq, HO.lst.injEq, HO.tup.injEq, and_assoc, List.cons.injEq, Bool.not_true, Bool.not_false, Bool.false_eq_true, if_false, if_true, cx_K, upd_same, upd_upd, isi_str, req_ii, req_ss, rne_ii, rne_ss, radd_ii, rsub_ii, atI_at, atI_0, atI_1, atI_2, atI_3, atI_4, rLenL, rLenU, rIxLL, rIxU, reduceCtorEq, gTup, gCons, gNil, tFmt_eq, fmtV_str, fmtV_int, tJs_nil, tJs_cons, jsV_str, iKeys_eq, gSub, rSetL, tPart, tNoPart, tSl, rSlL, false_and, exists_false, or_false, false_or, List.set_cons_zero, List.set_cons_succ, hp]
      refine ⟨1, rfl, ?_⟩
      have g1 : upd H pen (.lst ([V.ref sl, V.int b, V.int g].set 1 (.int ((b : Int) + 1)))) pen = some (.lst [.ref sl, .int ((b + 1 : Nat) : Int), .int g]) := upd_same
      have gs : upd H pen (.lst ([V.ref sl, V.int b, V.int g].set 1 (.int ((b : Int) + 1)))) sl = some (.lst (ns.map V.int)) := by rw [upd_ne nps.symm]; exact hs
      have gk : Keep [pen] H (upd H pen (.lst ([V.ref sl, V.int b, V.int g].set 1 (.int ((b : Int) + 1))))) := keep_upd
      generalize upd H pen (.lst ([V.ref sl, V.int b, V.int g].set 1 (.int ((b : Int) + 1)))) = H1 at g1 gs gk ⊢
      have hP : Pen H1 pen sl (n + 1) := ⟨ns, b + 1, g, g1, gs, hl, by omega, hg, by omega⟩
      refine hid_in ?_
      simp only [tSeq, tIfS, tOr, tAnd, tNot, tB, tTest, tCB, tCons, tNil, tVar, tC, tOp, tUn, tRet, tRetN, tDrop, tAsg, tPar, tPar3, tNext, tNever, tBreak, tCont, tAug, tChain, tAndV, tOrV, tNotV, tIf, tIsN, tNotN, tTup, tLst, tCallD, tMethD, tMakeD, tFld, tCon, sFld, sFldAug, tCallK, tSl, tPart, tNoPart, tBM, tBM0, tDGet, tDIn, tDNotIn, sDPut, tDNewK, tM0, tM1, tOrT, tAndT, tNotT, tAsg2, tAsg3, gName, rI0, rI, rU, tYes, L2.start, NdefX.startF, List.set_cons_zero, List.set_cons_succ, List.map_cons, List.map_nil, List.length_cons, List.length_nil, Nat.sub_zero, Nat.reduceSub, Nat.reduceAdd, List.replicate_succ, List.replicate_zero, List.cons_append, List.nil_append, List.append_nil, List.getElem?_cons_zero, List.getElem?_cons_succ, Option.some.injEq, exists_eq_left', exists_eq_left, exists_eq_right, exists_eq_right', exists_and_left, exists_and_right, exists_eq, exists_eq', true_and, and_true, V.int.injEq, V.str.injEq, V.bl.injEq, V.ref.injEq, V.ty.injEq, HO.ins.injEq, HO.lst.injEq, HO.tup.injEq, and_assoc, List.cons.injEq, Bool.not_true, Bool.not_false, Bool.false_eq_true, if_false, if_true, cx_K, upd_same, upd_upd, isi_str, req_ii, req_ss, rne_ii, rne_ss, radd_ii, rsub_ii, atI_at, atI_0, atI_1, atI_2, atI_3, atI_4, rLenL, rLenU, rIxLL, rIxU, reduceCtorEq, gTup, gCons, gNil, tFmt_eq, fmtV_str, fmtV_int, tJs_nil, tJs_cons, jsV_str, iKeys_eq, gSub, rSetL, tPart, tNoPart, tSl, rSlL, false_and, exists_false, or_false, false_or, List.set_cons_zero, List.set_cons_succ]
      refine ⟨.inl ⟨by omega, by omega⟩, ?_⟩
      refine hid_in ?_
      simp only [tSeq, tIfS, tOr, tAnd, tNot, tB, tTest, tCB, tCons, tNil, tVar, tC, tOp, tUn, tRet, tRetN, tDrop, tAsg, tPar, tPar3, tNext, tNever, tBreak, tCont, tAug, tChain, tAndV, tOrV, tNotV, tIf, tIsN, tNotN, tTup, tLst, tCallD, tMethD, tMakeD, tFld, tCon, sFld, sFldAug, tCallK, tSl, tPart, tNoPart, tBM, tBM0, tDGet, tDIn, tDNotIn, sDPut, tDNewK, tM0, tM1, tOrT, tAndT, tNotT, tAsg2, tAsg3, gName, rI0, rI, rU, tYes, L2.start, NdefX.startF, List.set_cons_zero, List.set_cons_succ, List.map_cons, List.map_nil, List.length_cons, List.length_nil, Nat.sub_zero, Nat.reduceSub, Nat.reduceAdd, List.replicate_succ, List.replicate_zero, List.cons_append, List.nil_append, List.append_nil, List.getElem?_cons_zero, List.getElem?_cons_succ, Option.some.injEq, exists_eq_left', exists_eq_left, exists_eq_right, exists_eq_right', exists_and_left, exists_and_right, exists_eq, exists_eq', true_and, and_true, V.int.injEq, V.str.injEq, V.bl.injEq, V.ref.injEq, V.ty.injEq, HO.ins.injEq, HO.lst.injEq, HO.tup.injEq, and_assoc, List.cons.injEq, Bool.not_true, Bool.not_false, Bool.false_eq_true, if_false, if_true, cx_K, upd_same, upd_upd, isi_str, req_ii, req_ss, rne_ii, rne_ss, radd_ii, rsub_ii, atI_at, atI_0, atI_1, atI_2, atI_3, atI_4, rLenL, rLenU, rIxLL, rIxU, reduceCtorEq, gTup, gCons, gNil, tFmt_eq, fmtV_str, fmtV_int, tJs_nil, tJs_cons, jsV_str, iKeys_eq, gSub, rSetL, tPart, tNoPart, tSl, rSlL, false_and, exists_false, or_false, false_or, List.set_cons_zero, List.set_cons_succ, g1]
      refine ⟨Nat.zero_le _, fun p hp0 => ?_⟩
      have s2 : Same H1 (upd H1 p (.lst [])) := same_upd hp0
      refine ne_nil (dp_ints (SqL.of (s2 _ _ gs))) (ok_ints ns) (by decide) upd_same ⟨_, rfl, ?_⟩
      generalize hR : hid _ = R
      have rest : ∀ (raw : Int) (H2 : Hp), Same H1 H2 → R { nx := fun x H' => Q V.non H', rt := Q } [some (.ref pen), some (.int m), none, some (.int b), some (.int raw), none, none] H2 := fun raw H2 s2 => by
        rw [← hR]
        have h2p := s2 _ _ g1
        have h2s := s2 _ _ gs
        have k2 : Keep [pen] H H2 := Keep.trans (U := [pen]) gk (Keep.of (S := []) s2) (by simp) (by simp)
        refine hid_in ?_
        simp only [tSeq, tIfS, tOr, tAnd, tNot, tB, tTest, tCB, tCons, tNil, tVar, tC, tOp, tUn, tRet, tRetN, tDrop, tAsg, tPar, tPar3, tNext, tNever, tBreak, tCont, tAug, tChain, tAndV, tOrV, tNotV, tIf, tIsN, tNotN, tTup, tLst, tCallD, tMethD, tMakeD, tFld, tCon, sFld, sFldAug, tCallK, tSl, tPart, tNoPart, tBM, tBM0, tDGet, tDIn, tDNotIn, sDPut, tDNewK, tM0, tM1, tOrT, tAndT, tNotT, tAsg2, tAsg3, gName, rI0, rI, rU, tYes, L2.start, NdefX.startF, List.set_cons_zero, List.set_cons_succ, List.map_cons, List.map_nil, List.length_cons, List.length_nil, Nat.sub_zero, Nat.reduceSub, Nat.reduceAdd, List.replicate_succ, List.replicate_zero, List.cons_append, List.nil_append, List.append_nil, List.getElem?_cons_zero, List.getElem?_cons_succ, Option.some.injEq, exists_eq_left', exists_eq_left, exists_eq_right, exists_eq_right', exists_and_left, exists_and_right, exists_eq, exists_eq', true_and, and_true, V.int.injEq, V.str.injEq, V.bl.injEq, V.ref.injEq, V.ty.injEq, HO.ins.injEq, HO.lst.injEq, HO.tup.injEq, and_assoc, List.cons.injEq, Bool.not_true, Bool.not_false, Bool.false_eq_true, if_false, if_true, cx_K, upd_same, upd_upd, isi_str, req_ii, req_ss, rne_ii, rne_ss, radd_ii, rsub_ii, atI_at, atI_0, atI_1, atI_2, atI_3, atI_4, rLenL, rLenU, rIxLL, rIxU, reduceCtorEq, gTup, gCons, gNil, tFmt_eq, fmtV_str, fmtV_int, tJs_nil, tJs_cons, jsV_str, iKeys_eq, gSub, rSetL, tPart, tNoPart, tSl, rSlL, false_and, exists_false, or_false, false_or, List.set_cons_zero, List.set_cons_succ, h2p, h2s]
        generalize hR2 : hid (tSeq (tAsg (tOp (rI (fun x j => 0 < j) fun i j => V.int (i % j)) _ (tC (V.int 2147483629))) _) _) = R2
        have hb5 : b < 100000 := by omega
        have rest2 : R2 { nx := fun x H' => Q V.non H', rt := Q } [some (.ref pen), some (.int m), none, some (.int b), some (.int raw), none, none] H2 := by
          rw [← hR2]
          refine hid_in ?_
          simp only [tSeq, tIfS, tOr, tAnd, tNot, tB, tTest, tCB, tCons, tNil, tVar, tC, tOp, tUn, tRet, tRetN, tDrop, tAsg, tPar, tPar3, tNext, tNever, tBreak, tCont, tAug, tChain, tAndV, tOrV, tNotV, tIf, tIsN, tNotN, tTup, tLst, tCallD, tMethD, tMakeD, tFld, tCon, sFld, sFldAug, tCallK, tSl, tPart, tNoPart, tBM, tBM0, tDGet, tDIn, tDNotIn, sDPut, tDNewK, tM0, tM1, tOrT, tAndT, tNotT, tAsg2, tAsg3, gName, rI0, rI, rU, tYes, L2.start, NdefX.startF, List.set_cons_zero, List.set_cons_succ, List.map_cons, List.map_nil, List.length_cons, List.length_nil, Nat.sub_zero, Nat.reduceSub, Nat.reduceAdd, List.replicate_succ, List.replicate_zero, List.cons_append, List.nil_append, List.append_nil, List.getElem?_cons_zero, List.getElem?_cons_succ, Option.some.injEq, exists_eq_left', exists_eq_left, exists_eq_right, exists_eq_right', exists_and_left, exists_and_right, exists_eq, exists_eq', true_and, and_true, V.int.injEq, V.str.injEq, V.bl.injEq, V.ref.injEq, V.ty.injEq, HO.ins.injEq, HO.lst.injEq, HO.tup.injEq, and_assoc, List.cons.injEq, Bool.not_true, Bool.not_false, Bool.false_eq_true, if_false, if_true, cx_K, upd_same, upd_upd, isi_str, req_ii, req_ss, rne_ii, rne_ss, radd_ii, rsub_ii, atI_at, atI_0, atI_1, atI_2, atI_3, atI_4, rLenL, rLenU, rIxLL, rIxU, reduceCtorEq, gTup, gCons, gNil, tFmt_eq, fmtV_str, fmtV_int, tJs_nil, tJs_cons, jsV_str, iKeys_eq, gSub, rSetL, tPart, tNoPart, tSl, rSlL, false_and, exists_false, or_false, false_or, List.set_cons_zero, List.set_cons_succ]
          have hr0 := Int.emod_nonneg raw (by decide : (2147483549 : Int) ≠ 0)
          have hr1 := Int.emod_lt_of_pos raw (by decide : (0 : Int) < 2147483549)
          refine ⟨by decide, .inl ⟨by decide, by decide⟩, ⟨by decide, by decide, by omega⟩, by decide, ?_⟩
          have q0 := Int.emod_nonneg ((raw % 2147483549 + 60029 * (b : Int) + 2503) ^ Int.toNat 5) (by decide : (2147483629 : Int) ≠ 0)
          have q1 := Int.emod_lt_of_pos ((raw % 2147483549 + 60029 * (b : Int) + 2503) ^ Int.toNat 5) (by decide : (0 : Int) < 2147483629)
          generalize (raw % 2147483549 + 60029 * (b : Int) + 2503) ^ Int.toNat 5 % 2147483629 = s1 at q0 q1 ⊢
          refine hid_in ?_
          simp only [tSeq, tIfS, tOr, tAnd, tNot, tB, tTest, tCB, tCons, tNil, tVar, tC, tOp, tUn, tRet, tRetN, tDrop, tAsg, tPar, tPar3, tNext, tNever, tBreak, tCont, tAug, tChain, tAndV, tOrV, tNotV, tIf, tIsN, tNotN, tTup, tLst, tCallD, tMethD, tMakeD, tFld, tCon, sFld, sFldAug, tCallK, tSl, tPart, tNoPart, tBM, tBM0, tDGet, tDIn, tDNotIn, sDPut, tDNewK, tM0, tM1, tOrT, tAndT, tNotT, tAsg2, tAsg3, gName, rI0, rI, rU, tYes, L2.start, NdefX.startF, List.set_cons_zero, List.set_cons_succ, List.map_cons, List.map_nil, List.length_cons, List.length_nil, Nat.sub_zero, Nat.reduceSub, Nat.reduceAdd, List.replicate_succ, List.replicate_zero, List.cons_append, List.nil_append, List.append_nil, List.getElem?_cons_zero, List.getElem?_cons_succ, Option.some.injEq, exists_eq_left', exists_eq_left, exists_eq_right, exists_eq_right', exists_and_left, exists_and_right, exists_eq, exists_eq', true_and, and_true, V.int.injEq, V.str.injEq, V.bl.injEq, V.ref.injEq, V.ty.injEq, HO.ins.injEq, HO.lst.injEq, HO.tup.injEq, and_assoc, List.cons.injEq, Bool.not_true, Bool.not_false, Bool.false_eq_true, if_false, if_true, cx_K, upd_same, upd_upd, isi_str, req_ii, req_ss, rne_ii, rne_ss, radd_ii, rsub_ii, atI_at, atI_0, atI_1, atI_2, atI_3, atI_4, rLenL, rLenU, rIxLL, rIxU, reduceCtorEq, gTup, gCons, gNil, tFmt_eq, fmtV_str, fmtV_int, tJs_nil, tJs_cons, jsV_str, iKeys_eq, gSub, rSetL, tPart, tNoPart, tSl, rSlL, false_and, exists_false, or_false, false_or, List.set_cons_zero, List.set_cons_succ]
          have m1 : 0 ≤ s1 * (2 * (b : Int) + 2017) := Int.mul_nonneg q0 (by omega)
          have m2 : s1 * (2 * (b : Int) + 2017) ≤ 2147483629 * 202017 := Int.mul_le_mul (by omega) (by omega) (by omega) (by decide)
          have m3 : 0 ≤ 83009 * (b : Int) * (b : Int) := Int.mul_nonneg (by omega) (by omega)
          have m4 : 83009 * (b : Int) * (b : Int) ≤ 8300900000 * 100000 := Int.mul_le_mul (by omega) (by omega) (by omega) (by decide)
          refine ⟨.inl ⟨by decide, by decide⟩, .inl ⟨by omega, by omega⟩, .inl ⟨by decide, by decide⟩, .inl ⟨by omega, by omega⟩, ⟨by decide, by decide, by omega⟩, by decide, ?_⟩
          have u0 := Int.emod_nonneg ((s1 * (2 * (b : Int) + 2017) + 83009 * (b : Int) * (b : Int) + 91121) ^ Int.toNat 3) (by decide : (2147483587 : Int) ≠ 0)
          generalize (s1 * (2 * (b : Int) + 2017) + 83009 * (b : Int) * (b : Int) + 91121) ^ Int.toNat 3 % 2147483587 = s2 at u0 ⊢
          refine hid_in ?_
          simp only [tSeq, tIfS, tOr, tAnd, tNot, tB, tTest, tCB, tCons, tNil, tVar, tC, tOp, tUn, tRet, tRetN, tDrop, tAsg, tPar, tPar3, tNext, tNever, tBreak, tCont, tAug, tChain, tAndV, tOrV, tNotV, tIf, tIsN, tNotN, tTup, tLst, tCallD, tMethD, tMakeD, tFld, tCon, sFld, sFldAug, tCallK, tSl, tPart, tNoPart, tBM, tBM0, tDGet, tDIn, tDNotIn, sDPut, tDNewK, tM0, tM1, tOrT, tAndT, tNotT, tAsg2, tAsg3, gName, rI0, rI, rU, tYes, L2.start, NdefX.startF, List.set_cons_zero, List.set_cons_succ, List.map_cons, List.map_nil, List.length_cons, List.length_nil, Nat.sub_zero, Nat.reduceSub, Nat.reduceAdd, List.replicate_succ, List.replicate_zero, List.cons_append, List.nil_append, List.append_nil, List.getElem?_cons_zero, List.getElem?_cons_succ, Option.some.injEq, exists_eq_left', exists_eq_left, exists_eq_right, exists_eq_right', exists_and_left, exists_and_right, exists_eq, exists_eq', true_and, and_true, V.int.injEq, V.str.injEq, V.bl.injEq, V.ref.injEq, V.ty.injEq, HO.ins.injEq, HO.lst.injEq, HO.tup.injEq, and_assoc, List.cons.injEq, Bool.not_true, Bool.not_false, Bool.false_eq_true, if_false, if_true, cx_K, upd_same, upd_upd, isi_str, req_ii, req_ss, rne_ii, rne_ss, radd_ii, rsub_ii, atI_at, atI_0, atI_1, atI_2, atI_3, atI_4, rLenL, rLenU, rIxLL, rIxU, reduceCtorEq, gTup, gCons, gNil, tFmt_eq, fmtV_str, fmtV_int, tJs_nil, tJs_cons, jsV_str, iKeys_eq, gSub, rSetL, tPart, tNoPart, tSl, rSlL, false_and, exists_false, or_false, false_or, List.set_cons_zero, List.set_cons_succ]
          refine ⟨⟨by decide, by decide⟩, hmn, ?_⟩
          have v0 := Int.emod_nonneg (s2 / 32) (by omega : (m : Int) ≠ 0)
          have v1 := Int.emod_lt_of_pos (s2 / 32) hmn
          have := k (s2 / 32 % m).toNat H2 (by omega) k2 ⟨ns, b + 1, g, h2p, h2s, hl, by omega, hg, by omega⟩
          rw [Int.toNat_of_nonneg v0] at this
          exact this
        refine ite2 (fun z3 => ?_) fun _ => rest2
        refine ⟨⟨by decide, by decide, by decide⟩, ite2 (fun z4 => ?_) fun _ => rest2⟩
        have h4 := of_decide_eq_true z4
        refine ⟨⟨by decide, by decide, by decide⟩, .inl ⟨by decide, by decide⟩, ?_⟩
        have e18 : (10 : Int) ^ Int.toNat 18 = 1000000000000000000 := by decide
        have hg0 : 0 ≤ 2 * ((if raw < 0 then -raw else raw) - 10 ^ Int.toNat 18) + (if decide (raw < 0) = true then 1 else 0) := by
          have : (0 : Int) ≤ (if decide (raw < 0) = true then 1 else 0) := by split <;> decide
          rw [e18] at h4 ⊢
          omega
        generalize 2 * ((if raw < 0 then -raw else raw) - 10 ^ Int.toNat 18) + (if decide (raw < 0) = true then 1 else 0) = gr at hg0 ⊢
        refine hid_in ?_
        simp only [tSeq, tIfS, tOr, tAnd, tNot, tB, tTest, tCB, tCons, tNil, tVar, tC, tOp, tUn, tRet, tRetN, tDrop, tAsg, tPar, tPar3, tNext, tNever, tBreak, tCont, tAug, tChain, tAndV, tOrV, tNotV, tIf, tIsN, tNotN, tTup, tLst, tCallD, tMethD, tMakeD, tFld, tCon, sFld, sFldAug, tCallK, tSl, tPart, tNoPart, tBM, tBM0, tDGet, tDIn, tDNotIn, sDPut, tDNewK, tM0, tM1, tOrT, tAndT, tNotT, tAsg2, tAsg3, gName, rI0, rI, rU, tYes, L2.start, NdefX.startF, List.set_cons_zero, List.set_cons_succ, List.map_cons, List.map_nil, List.length_cons, List.length_nil, Nat.sub_zero, Nat.reduceSub, Nat.reduceAdd, List.replicate_succ, List.replicate_zero, List.cons_append, List.nil_append, List.append_nil, List.getElem?_cons_zero, List.getElem?_cons_succ, Option.some.injEq, exists_eq_left', exists_eq_left, exists_eq_right, exists_eq_right', exists_and_left, exists_and_right, exists_eq, exists_eq', true_and, and_true, V.int.injEq, V.str.injEq, V.bl.injEq, V.ref.injEq, V.ty.injEq, HO.ins.injEq, HO.lst.injEq, HO.tup.injEq, and_assoc, List.cons.injEq, Bool.not_true, Bool.not_false, Bool.false_eq_true, if_false, if_true, cx_K, upd_same, upd_upd, isi_str, req_ii, req_ss, rne_ii, rne_ss, radd_ii, rsub_ii, atI_at, atI_0, atI_1, atI_2, atI_3, atI_4, rLenL, rLenU, rIxLL, rIxU, reduceCtorEq, gTup, gCons, gNil, tFmt_eq, fmtV_str, fmtV_int, tJs_nil, tJs_cons, jsV_str, iKeys_eq, gSub, rSetL, tPart, tNoPart, tSl, rSlL, false_and, exists_false, or_false, false_or, List.set_cons_zero, List.set_cons_succ, h2p]
        refine ⟨⟨hmn, by omega⟩, 2, rfl, ?_⟩
        refine hid_in ?_
        simp only [tSeq, tIfS, tOr, tAnd, tNot, tB, tTest, tCB, tCons, tNil, tVar, tC, tOp, tUn, tRet, tRetN, tDrop, tAsg, tPar, tPar3, tNext, tNever, tBreak, tCont, tAug, tChain, tAndV, tOrV, tNotV, tIf, tIsN, tNotN, tTup, tLst, tCallD, tMethD, tMakeD, tFld, tCon, sFld, sFldAug, tCallK, tSl, tPart, tNoPart, tBM, tBM0, tDGet, tDIn, tDNotIn, sDPut, tDNewK, tM0, tM1, tOrT, tAndT, tNotT, tAsg2, tAsg3, gName, rI0, rI, rU, tYes, L2.start, NdefX.startF, List.set_cons_zero, List.set_cons_succ, List.map_cons, List.map_nil, List.length_cons, List.length_nil, Nat.sub_zero, Nat.reduceSub, Nat.reduceAdd, List.replicate_succ, List.replicate_zero, List.cons_append, List.nil_append, List.append_nil, List.getElem?_cons_zero, List.getElem?_cons_succ, Option.some.injEq, exists_eq_left', exists_eq_left, exists_eq_right, exists_eq_right', exists_and_left, exists_and_right, exists_eq, exists_eq', true_and, and_true, V.int.injEq, V.str.injEq, V.bl.injEq, V.ref.injEq, V.ty.injEq, HO.ins.injEq, HO.lst.injEq, HO.tup.injEq, and_assoc, List.cons.injEq, Bool.not_true, Bool.not_false, Bool.false_eq_true, if_false, if_true, cx_K, upd_same, upd_upd, isi_str, req_ii, req_ss, rne_ii, rne_ss, radd_ii, rsub_ii, atI_at, atI_0, atI_1, atI_2, atI_3, atI_4, rLenL, rLenU, rIxLL, rIxU, reduceCtorEq, gTup, gCons, gNil, tFmt_eq, fmtV_str, fmtV_int, tJs_nil, tJs_cons, jsV_str, iKeys_eq, gSub, rSetL, tPart, tNoPart, tSl, rSlL, false_and, exists_false, or_false, false_or, List.set_cons_zero, List.set_cons_succ]
        refine ⟨hmn, ?_⟩
        have v0 := Int.emod_nonneg gr (by omega : (m : Int) ≠ 0)
        have v1 := Int.emod_lt_of_pos gr hmn
        have := k (gr % m).toNat (upd H2 pen (.lst [.ref sl, .int ((b + 1 : Nat) : Int), .int (gr / m)])) (by omega) (Keep.trans (U := [pen]) k2 (keep_upd (p := pen)) (by simp) (by simp)) ⟨ns, b + 1, gr / m, upd_same, by rw [upd_ne nps.symm]; exact h2s, hl, by omega, Int.ediv_nonneg hg0 (by omega), by omega⟩
        rw [Int.toNat_of_nonneg v0] at this
        exact this
      have h2p := s2 _ _ g1
      have h2s := s2 _ _ gs
      refine ite2 (fun z2 => ?_) fun z2 => ?_
      · refine ⟨_, h2p, .ref sl, rfl, _, h2p, .ref sl, rfl, sl, rfl, _, h2s, ?_, sl, rfl, _, h2s, ?_⟩
        · have : ns ≠ [] := fun e => by rw [e] at z2; simp at z2
          have := List.length_pos_iff.mpr this
          rw [List.length_map]; omega
        · have : ns ≠ [] := fun e => by rw [e] at z2; simp at z2
          have hpos := List.length_pos_iff.mpr this
          rw [List.length_map, show ((b : Int) % ((ns.length : Nat) : Int)) = ((b % ns.length : Nat) : Int) by omega, atI_at, List.getElem?_map, List.getElem?_eq_getElem (Nat.mod_lt _ hpos)]
          exact ⟨_, rfl, rest _ _ s2⟩
      · exact rest _ _ s2
end
end Ky

set_option Elab.async false
set_option maxRecDepth 100000
set_option maxHeartbeats 4000000
set_option linter.all false
namespace Ky
open PySem L2 Ly
def spPick : Sp := fun vs H Q _ => ∃ (pen sl a : Addr) (n : Nat) (xs : List V), vs = [.ref pen, .ref a] ∧ Pen H pen sl n ∧ n < 100000 ∧ H a = some (.lst xs) ∧ a ≠ pen ∧ 1 ≤ xs.length ∧ xs.length ≤ 1000000 ∧ ∀ (r : Nat) (h : r < xs.length) H', Keep [pen] H H' → Pen H' pen sl (n + 1) → Q (xs[r]) H'
section
variable {w : World} {K : PySem.W.Frag} {mg : Str → Option Value} {base : Heap} {aK aF CB CP CE CW : Addr}
abbrev s__law_pick : Stmt := top 25
theorem sc__law_pick : FnScope ["_law_pen_here", "_law_some"] ["_law_pen_here", "_law_some"] (defScope s__law_pick) := ⟨rfl, rfl, rfl, by decide +kernel, rfl, by decide +kernel, by decide +kernel⟩
theorem ok_pick {f : Addr} {fd : FuncData} (F : Fun K "_law_pick" "_law_pick" s__law_pick f fd) (T : Tx K mg aK aF) (D__law_draw : Df PP w K mg base 1 "_law_draw" ["_law_pen_here", "_law_many"] spDraw) : FnOk PP w K mg base (L2.CX PP w) 2 f fd ["_law_pen_here", "_law_some"] spPick := by
  refine F.okX sc__law_pick (fun vs H Q E h => ?_) (fun cdv A outer s H vs Q E hr h => ?_)
  · obtain ⟨pen, sl, a, n, xs, rfl, _⟩ := h; rfl
  · obtain ⟨pen, sl, a, n, xs, rfl, P, hn, ha, hap, h1, h2, k⟩ := h
    refine ⟨_, (pss_one (ps_ret (pe_ix ix_LL (pv 1) (pe_df D__law_draw (hr.mono (by decide)) passL (pa_cons (pv 0) (pa_cons (pe_callB call_lenL (by rfl) T.len (by decide +kernel) (pa_cons (pv 1) pa_nil)) pa_nil))) (fun _ _ => rfl)))), ?_⟩
    simp only [tSeq, tIfS, tOr, tAnd, tNot, tB, tTest, tCB, tCons, tNil, tVar, tC, tOp, tUn, tRet, tRetN, tDrop, tAsg, tPar, tPar3, tNext, tNever, tBreak, tCont, tAug, tChain, tAndV, tOrV, tNotV, tIf, tIsN, tNotN, tTup, tLst, tCallD, tMethD, tMakeD, tFld, tCon, sFld, sFldAug, tCallK, tSl, tPart, tNoPart, tBM, tBM0, tDGet, tDIn, tDNotIn, sDPut, tDNewK, tM0, tM1, tOrT, tAndT, tNotT, tAsg2, tAsg3, gName, rI0, rI, rU, tYes, L2.start, NdefX.startF, List.set_cons_zero, List.set_cons_succ, List.map_cons, List.map_nil, List.length_cons, List.length_nil, Nat.sub_zero, Nat.reduceSub, Nat.reduceAdd, List.replicate_succ, List.replicate_zero, List.cons_append, List.nil_append, List.append_nil, List.getElem?_cons_zero, List.getElem?_cons_succ, Option.some.injEq, exists_eq_left', exists_eq_left, exists_eq_right, exists_eq_right', exists_and_left, exists_and_right, exists_eq, exists_eq', true_and, and_true, V.int.injEq, V.str.injEq, V.bl.injEq, V.ref.injEq, V.ty.injEq, HO.ins.injEq, HO.lst.injEq, HO.tup.injEq, and_assoc, List.cons.injEq, Bool.not_true, Bool.not_false, Bool.false_eq_true, if_false, if_true, cx_K, upd_same, upd_upd, isi_str, req_ii, req_ss, rne_ii, rne_ss, radd_ii, rsub_ii, atI_at, atI_0, atI_1, atI_2, atI_3, atI_4, rLenL, rLenU, rIxLL, rIxU, reduceCtorEq, gTup, gCons, gNil, tFmt_eq, fmtV_str, fmtV_int, tJs_nil, tJs_cons, jsV_str, iKeys_eq, gSub, rSetL, tPart, tNoPart, tSl, rSlL, false_and, exists_false, or_false, false_or, List.set_cons_zero, List.set_cons_succ, ha]
    refine ⟨pen, sl, n, xs.length, rfl, P, hn, h1, by omega, fun r H1 hr1 k1 P1 => ?_⟩
    simp only [tSeq, tIfS, tOr, tAnd, tNot, tB, tTest, tCB, tCons, tNil, tVar, tC, tOp, tUn, tRet, tRetN, tDrop, tAsg, tPar, tPar3, tNext, tNever, tBreak, tCont, tAug, tChain, tAndV, tOrV, tNotV, tIf, tIsN, tNotN, tTup, tLst, tCallD, tMethD, tMakeD, tFld, tCon, sFld, sFldAug, tCallK, tSl, tPart, tNoPart, tBM, tBM0, tDGet, tDIn, tDNotIn, sDPut, tDNewK, tM0, tM1, tOrT, tAndT, tNotT, tAsg2, tAsg3, gName, rI0, rI, rU, tYes, L2.start, NdefX.startF, List.set_cons_zero, List.set_cons_succ, List.map_cons, List.map_nil, List.length_cons, List.length_nil, Nat.sub_zero, Nat.reduceSub, Nat.reduceAdd, List.replicate_succ, List.replicate_zero, List.cons_append, List.nil_append, List.append_nil, List.getElem?_cons_zero, List.getElem?_cons_succ, Option.some.injEq, exists_eq_left', exists_eq_left, exists_eq_right, exists_eq_right', exists_and_left, exists_and_right, exists_eq, exists_eq', true_and, and_true, V.int.injEq, V.str.injEq, V.bl.injEq, V.ref.injEq, V.ty.injEq, HO.ins.injEq, HO.lst.injEq, HO.tup.injEq, and_assoc, List.cons.injEq, Bool.not_true, Bool.not_false, Bool.false_eq_true, if_false, if_true, cx_K, upd_same, upd_upd, isi_str, req_ii, req_ss, rne_ii, rne_ss, radd_ii, rsub_ii, atI_at, atI_0, atI_1, atI_2, atI_3, atI_4, rLenL, rLenU, rIxLL, rIxU, reduceCtorEq, gTup, gCons, gNil, tFmt_eq, fmtV_str, fmtV_int, tJs_nil, tJs_cons, jsV_str, iKeys_eq, gSub, rSetL, tPart, tNoPart, tSl, rSlL, false_and, exists_false, or_false, false_or, List.set_cons_zero, List.set_cons_succ]
    refine ⟨_, k1 _ _ ha (by simpa using hap), xs[r], List.getElem?_eq_getElem hr1, k r hr1 H1 k1 P1⟩
def titlesC : List Str := ["a", "done", "y"]
def titlesL : List Str := ["failed", "l"]
def saidW : List Str := ["a", "stop", "zzzzzzzz", "l", "done"]
/-- (title, tuple of words) or (title, figure) pairs, told by tuples at ps -/
structure PlainA (H : Hp) (t cl ll : Addr) (e : EndD) : Prop where
  ex : ∃ cps ls lps, H t = some (.tup [failV e.failed, .ref cl, .ref ll]) ∧ H cl = some (.lst (cps.map V.ref)) ∧ H ll = some (.lst (lps.map V.ref)) ∧
    Paired (fun (p : Addr) (x : Str × Int) => H p = some (.tup [.str x.1, .int x.2])) cps e.cells ∧
    Paired (fun (p : Addr) (x : Str × Addr × List Str) => H p = some (.tup [.str x.1, .ref x.2.1]) ∧ H x.2.1 = some (.tup (x.2.2.map V.str))) lps ls ∧ lD ls = e.logs
structure PlainAt (H : Hp) (t : Addr) (e : EndD) : Prop where
  ex : ∃ cl ll cps ls lps, H t = some (.tup [failV e.failed, .ref cl, .ref ll]) ∧ H cl = some (.lst (cps.map V.ref)) ∧ H ll = some (.lst (lps.map V.ref)) ∧
    Paired (fun (p : Addr) (x : Str × Int) => H p = some (.tup [.str x.1, .int x.2])) cps e.cells ∧
    Paired (fun (p : Addr) (x : Str × Addr × List Str) => H p = some (.tup [.str x.1, .ref x.2.1]) ∧ H x.2.1 = some (.tup (x.2.2.map V.str))) lps ls ∧ lD ls = e.logs
theorem PlainA.at_ {H : Hp} {t cl ll : Addr} {e : EndD} (p : PlainA H t cl ll e) : PlainAt H t e := ⟨⟨cl, ll, p.ex⟩⟩
structure PlainOk (e : EndD) : Prop where
  f : e.failed = none ∨ e.failed = some ("f" : Str) ∨ e.failed = some ("g" : Str) ∨ e.failed = some ("done" : Str)
  c : (e.cells.map (·.1)).Sublist titlesC ∧ ∀ x ∈ e.cells, 0 ≤ x.2 ∧ x.2 ≤ 3
  l : (e.logs.map (·.1)).Sublist titlesL ∧ ∀ x ∈ e.logs, x.2.length ≤ 3 ∧ ∀ y ∈ x.2, y ∈ saidW
def CInv (pen sl q : Addr) (n : Nat) (B : Hp) (D : Addr) (i : Nat) (H' : Hp) : Prop := ∃ (cs : CsL) (cps : List Addr), H' D = some (.lst (cps.map V.ref)) ∧ Paired (fun (p : Addr) (x : Str × Int) => H' p = some (.tup [.str x.1, .int x.2])) cps cs ∧ (cs.map (·.1)).Sublist (titlesC.take i) ∧ (∀ x ∈ cs, 0 ≤ x.2 ∧ x.2 ≤ 3) ∧ cps.length ≤ i ∧
        Pen H' pen sl (n + 1 + 2 * i) ∧ Keep [pen, D] B H' ∧ D ≠ pen ∧ D ≠ q ∧ D ≠ sl
def LF (H : Hp) (p : Addr) (x : Str × Addr × List Str) : Prop := H p = some (.tup [.str x.1, .ref x.2.1]) ∧ H x.2.1 = some (.tup (x.2.2.map V.str))
theorem LF.keep {S : List Addr} {H H' : Hp} (k : Keep S H H') (hS : ∀ b ∈ S, ∀ xs, H b ≠ some (.tup xs)) {p : Addr} {x : Str × Addr × List Str} (h : LF H p x) : LF H' p x := ⟨k _ _ h.1 fun z => hS _ z _ h.1, k _ _ h.2 fun z => hS _ z _ h.2⟩
def LInv (pen sl D L : Addr) (gv : V) (n : Nat) (B : Hp) (i : Nat) (σ : L2.St) (H' : Hp) : Prop := ∃ (u v : Option V) (ls : List (Str × Addr × List Str)) (lps : List Addr), σ = [some (.ref pen), some gv, some (.ref D), some (.ref L), u, v, none] ∧ H' L = some (.lst (lps.map V.ref)) ∧ Paired (LF H') lps ls ∧
  (ls.map (·.1)).Sublist (titlesL.take i) ∧ (∀ x ∈ ls, x.2.2.length ≤ 3 ∧ ∀ y ∈ x.2.2, y ∈ saidW) ∧ lps.length ≤ i ∧ Pen H' pen sl (n + 7 + 6 * i) ∧ Keep [pen, L] B H'
def WInv (pen sl : Addr) (m : Nat) (B : Hp) (D : Addr) (j : Nat) (H' : Hp) : Prop := ∃ said : List Str, H' D = some (.lst (said.map V.str)) ∧ said.length = j ∧ (∀ y ∈ said, y ∈ saidW) ∧ Pen H' pen sl (m + j) ∧ Keep [pen, D] B H' ∧ D ≠ pen ∧ D ≠ sl
def spPlain : Sp := fun vs H Q _ => ∃ (pen sl : Addr) (n : Nat), vs = [.ref pen] ∧ Pen H pen sl n ∧ n < 99900 ∧ ∀ t cl ll e H', Keep [pen] H H' → H t = none → H cl = none → H ll = none → Pen H' pen sl (n + 20) → PlainA H' t cl ll e → PlainOk e → Q (.ref t) H'
theorem Pen.mono {H : Hp} {pen sl : Addr} {n m : Nat} (P : Pen H pen sl n) (h : n ≤ m) (hm : m ≤ 100000) : Pen H pen sl m := by
  obtain ⟨ns, b, g, h1, h2, h3, h4, h5, h6⟩ := P.ex
  exact ⟨ns, b, g, h1, h2, h3, by omega, h5, hm⟩
theorem Pen.same {H H' : Hp} {pen sl : Addr} {n : Nat} (P : Pen H pen sl n) (s : Same H H') : Pen H' pen sl n := by
  obtain ⟨ns, b, g, h1, h2, h3, h4, h5, h6⟩ := P.ex
  exact ⟨ns, b, g, s _ _ h1, s _ _ h2, h3, h4, h5, h6⟩
theorem Pen.new {H : Hp} {pen sl p : Addr} {n : Nat} {o : HO} (P : Pen H pen sl n) (h : H p = none) : Pen (upd H p o) pen sl n := P.same (same_upd h)
theorem Pen.at_ {H : Hp} {pen sl p : Addr} {n : Nat} {o : HO} (P : Pen H pen sl n) (h : p ≠ pen) (h2 : p ≠ sl) : Pen (upd H p o) pen sl n := by
  obtain ⟨ns, b, g, h1, h2', h3⟩ := P.ex
  exact ⟨ns, b, g, by rw [upd_ne h.symm]; exact h1, by rw [upd_ne h2.symm]; exact h2', h3⟩
abbrev s__law_plain : Stmt := top 26
theorem sc__law_plain : FnScope ["_law_pen_here", "_law_gone", "_law_cells_so", "_law_logs_so", "_law_title", "_law_said", "_law_turn"] ["_law_pen_here"] (defScope s__law_plain) := ⟨rfl, rfl, rfl, by decide +kernel, rfl, by decide +kernel, by decide +kernel⟩
theorem ok_plain {f : Addr} {fd : FuncData} (F : Fun K "_law_plain" "_law_plain" s__law_plain f fd) (T : Tx K mg aK aF) (D__law_draw : Df PP w K mg base 1 "_law_draw" ["_law_pen_here", "_law_many"] spDraw) (D__law_pick : Df PP w K mg base 2 "_law_pick" ["_law_pen_here", "_law_some"] spPick) : FnOk PP w K mg base (L2.CX PP w) 3 f fd ["_law_pen_here"] spPlain := by
  refine F.okX sc__law_plain (fun vs H Q E h => ?_) (fun cdv A outer s H vs Q E hr h => ?_)
  · obtain ⟨pen, sl, n, rfl, _⟩ := h; rfl
  · obtain ⟨pen, sl, n, rfl, P, hn, k⟩ := h
    refine ⟨_, (pss_cons (ps_set (i := 1) sc__law_plain.nd rfl (Or.inl rfl) (pe_df D__law_pick (hr.mono (by decide)) passL (pa_cons (pv 0) (pa_cons (pe_lst (pa_cons pe_non (pa_cons pe_non (pa_cons pe_str (pa_cons pe_str (pa_cons pe_str pa_nil)))))) pa_nil))))
      (pss_hid (pss_cons (ps_setLc (i := 2) (own := [("_law_title", 4)]) (g := gName 4) rfl sc__law_plain.nd rfl rfl (sw_true rfl rfl rfl (by decide +kernel)) (pi_list (pe_lst (pa_cons pe_str (pa_cons pe_str (pa_cons pe_str pa_nil))))) (blkOk_by (N := ["_law_pen_here", "_law_gone", "_law_cells_so", "_law_logs_so", "_law_title", "_law_said", "_law_turn"]) (sc := defScope s__law_plain) (by decide +kernel)) (fun _ _ _ _ _ => pg_name (i := 4) sc__law_plain.nd rfl (Or.inl rfl)) (fun _ _ _ _ _ => pts_one (pt_cmpR op_eq (pe_df D__law_draw (hr.mono (by decide)) passL (pa_cons (pv 0) (pa_cons pe_int pa_nil))) pe_int (nomark _))) (fun _ _ _ _ _ => (pe_tup (pa_cons (pv 4) (pa_cons (pe_df D__law_draw (hr.mono (by decide)) passL (pa_cons (pv 0) (pa_cons pe_int pa_nil))) pa_nil)))))
      (pss_hid (pss_cons (ps_set (i := 3) sc__law_plain.nd rfl (Or.inl rfl) (pe_lst pa_nil))
      (pss_hid (pss_cons (ps_for (passes_of rfl) rfl (pi_list (pe_lst (pa_cons pe_str (pa_cons pe_str pa_nil)))) (pg_name (i := 4) sc__law_plain.nd rfl (Or.inl rfl)) (pss_one (ps_if (pt_cmpR op_eq (pe_df D__law_draw (hr.mono (by decide)) passL (pa_cons (pv 0) (pa_cons pe_int pa_nil))) pe_int (nomark _)) (pss_cons (ps_setLc (i := 5) (own := [("_law_turn", 6)]) (g := gName 6) (tt := tYes) rfl sc__law_plain.nd rfl rfl (sw_true rfl rfl rfl (by decide +kernel)) (pi_range1 (by rfl) T.range (pa_cons (pe_df D__law_draw (hr.mono (by decide)) passL (pa_cons (pv 0) (pa_cons pe_int pa_nil))) pa_nil)) (blkOk_by (N := ["_law_pen_here", "_law_gone", "_law_cells_so", "_law_logs_so", "_law_title", "_law_said", "_law_turn"]) (sc := defScope s__law_plain) (by decide +kernel)) (fun _ _ _ _ _ => pg_name (i := 6) sc__law_plain.nd rfl (Or.inl rfl)) (fun _ _ _ _ _ => pts_nil) (fun _ _ _ _ _ => (pe_df D__law_pick (hr.mono (by decide)) passL (pa_cons (pv 0) (pa_cons (pe_lst (pa_cons pe_str (pa_cons pe_str (pa_cons pe_str (pa_cons pe_str (pa_cons pe_str pa_nil)))))) pa_nil)))))
      (pss_hid (pss_one (ps_expr (pe_bm PySem.F.plainAttrs_list PySem.F.slot_list_append PySem.F.type_list_append mt_append (pv 3) (pa_cons (pe_tup (pa_cons (pv 4) (pa_cons (pe_callTy call_tuple_of (by rfl) T.tuple (by decide +kernel) (pa_cons (pv 5) pa_nil)) pa_nil))) pa_nil)))))) pss_nil)))
      (pss_hid (pss_one (ps_ret (pe_tup (pa_cons (pv 1) (pa_cons (pv 2) (pa_cons (pv 3) pa_nil)))))))))))))), ?_⟩
    simp only [tSeq, tIfS, tOr, tAnd, tNot, tB, tTest, tCB, tCons, tNil, tVar, tC, tOp, tUn, tRet, tRetN, tDrop, tAsg, tPar, tPar3, tNext, tNever, tBreak, tCont, tAug, tChain, tAndV, tOrV, tNotV, tIf, tIsN, tNotN, tTup, tLst, tCallD, tMethD, tMakeD, tFld, tCon, sFld, sFldAug, tCallK, tSl, tPart, tNoPart, tBM, tBM0, tDGet, tDIn, tDNotIn, sDPut, tDNewK, tM0, tM1, tOrT, tAndT, tNotT, tAsg2, tAsg3, gName, rI0, rI, rU, tYes, L2.start, NdefX.startF, List.set_cons_zero, List.set_cons_succ, List.map_cons, List.map_nil, List.length_cons, List.length_nil, Nat.sub_zero, Nat.reduceSub, Nat.reduceAdd, List.replicate_succ, List.replicate_zero, List.cons_append, List.nil_append, List.append_nil, List.getElem?_cons_zero, List.getElem?_cons_succ, Option.some.injEq, exists_eq_left', exists_eq_left, exists_eq_right, exists_eq_right', exists_and_left, exists_and_right, exists_eq, exists_eq', true_and, and_true, V.int.injEq, V.str.injEq, V.bl.injEq, V.ref.injEq, V.ty.injEq, HO.ins.injEq, HO.lst.injEq, HO.tup.injEq, and_assoc, List.cons.injEq, Bool.not_true, Bool.not_false, Bool.false_eq_true, if_false, if_true, cx_K, upd_same, upd_upd, isi_str, req_ii, req_ss, rne_ii, rne_ss, radd_ii, rsub_ii, atI_at, atI_0, atI_1, atI_2, atI_3, atI_4, rLenL, rLenU, rIxLL, rIxU, reduceCtorEq, gTup, gCons, gNil, tFmt_eq, fmtV_str, fmtV_int, tJs_nil, tJs_cons, jsV_str, iKeys_eq, gSub, rSetL, tPart, tNoPart, tSl, rSlL, false_and, exists_false, or_false, false_or, List.set_cons_zero, List.set_cons_succ]
    refine ⟨sz_le (by decide), fun p0 hp0 => ?_⟩
    obtain ⟨_, _, _, hpen0, _⟩ := P.ex
    have np0 : p0 ≠ pen := (ne_of_none hpen0 hp0).symm
    refine ⟨pen, sl, p0, n, _, rfl, P.new hp0, by omega, upd_same, np0, by decide, by decide, fun r hr0 H1 k1 P1 => ?_⟩
    have kH1 : Keep [pen] H H1 := Keep.trans (S := []) (T := [pen]) (U := [pen]) (Keep.of (same_upd hp0)) k1 (by simp) (by simp)
    obtain ⟨gone, hgone, hg2⟩ : ∃ g : Option Str, ([V.non, V.non, V.str "f", V.str "g", V.str "done"] : List V)[r] = failV g ∧ (g = none ∨ g = some ("f" : Str) ∨ g = some ("g" : Str) ∨ g = some ("done" : Str)) := by
      match r, hr0 with
      | 0, _ => exact ⟨none, rfl, .inl rfl⟩
      | 1, _ => exact ⟨none, rfl, .inl rfl⟩
      | 2, _ => exact ⟨some "f", rfl, .inr (.inl rfl)⟩
      | 3, _ => exact ⟨some "g", rfl, .inr (.inr (.inl rfl))⟩
      | 4, _ => exact ⟨some "done", rfl, .inr (.inr (.inr rfl))⟩
    rw [hgone]
    refine hid_in ?_
    simp only [tSeq, tIfS, tOr, tAnd, tNot, tB, tTest, tCB, tCons, tNil, tVar, tC, tOp, tUn, tRet, tRetN, tDrop, tAsg, tPar, tPar3, tNext, tNever, tBreak, tCont, tAug, tChain, tAndV, tOrV, tNotV, tIf, tIsN, tNotN, tTup, tLst, tCallD, tMethD, tMakeD, tFld, tCon, sFld, sFldAug, tCallK, tSl, tPart, tNoPart, tBM, tBM0, tDGet, tDIn, tDNotIn, sDPut, tDNewK, tM0, tM1, tOrT, tAndT, tNotT, tAsg2, tAsg3, gName, rI0, rI, rU, tYes, L2.start, NdefX.startF, List.set_cons_zero, List.set_cons_succ, List.map_cons, List.map_nil, List.length_cons, List.length_nil, Nat.sub_zero, Nat.reduceSub, Nat.reduceAdd, List.replicate_succ, List.replicate_zero, List.cons_append, List.nil_append, List.append_nil, List.getElem?_cons_zero, List.getElem?_cons_succ, Option.some.injEq, exists_eq_left', exists_eq_left, exists_eq_right, exists_eq_right', exists_and_left, exists_and_right, exists_eq, exists_eq', true_and, and_true, V.int.injEq, V.str.injEq, V.bl.injEq, V.ref.injEq, V.ty.injEq, HO.ins.injEq, HO.lst.injEq, HO.tup.injEq, and_assoc, List.cons.injEq, Bool.not_true, Bool.not_false, Bool.false_eq_true, if_false, if_true, cx_K, upd_same, upd_upd, isi_str, req_ii, req_ss, rne_ii, rne_ss, radd_ii, rsub_ii, atI_at, atI_0, atI_1, atI_2, atI_3, atI_4, rLenL, rLenU, rIxLL, rIxU, reduceCtorEq, gTup, gCons, gNil, tFmt_eq, fmtV_str, fmtV_int, tJs_nil, tJs_cons, jsV_str, iKeys_eq, gSub, rSetL, tPart, tNoPart, tSl, rSlL, false_and, exists_false, or_false, false_or, List.set_cons_zero, List.set_cons_succ]
    refine tLc_mk (S := fun J H2 => ∃ q, H1 q = none ∧ J = Itl K q ∧ H2 = upd H1 q (.lst (titlesC.map V.str))) (fun R h => ⟨sz_le (by decide), fun q hq => ⟨q, rfl, ⟨_, SqL.of upd_same⟩, h _ _ ⟨q, hq, rfl, rfl⟩⟩⟩) ?_
    rintro J H2 ⟨q, hq, rfl, rfl⟩
    obtain ⟨_, _, _, hpen1, _⟩ := P1.ex
    have nq : q ≠ pen := (ne_of_none hpen1 hq).symm
    refine tLcIf_it (walk_list (xs := titlesC.map V.str)) (fun R h => h)
      (CInv pen sl q n (upd H1 q (.lst (titlesC.map V.str))))
      (fun D hD => ?_) (fun D i H' _ p => ?_) (fun D i x H3 H4 hi p y => ?_) fun D H3 hD p => ?_
    · have hDp : D ≠ pen := fun e => by rw [e, upd_ne nq.symm, hpen1] at hD; cases hD
      have hDq : D ≠ q := fun e => by rw [e, upd_same] at hD; cases hD
      exact ⟨[], [], upd_same, .nil, by simp, (fun _ h => nomatch h), Nat.le_refl _, (P1.new hq).new hD, keep_upd.mono (by simp), hDp, hDq, fun e => by obtain ⟨_, _, _, _, a4, _⟩ := (P1.new hq (o := .lst (titlesC.map V.str))).ex; rw [e, a4] at hD; cases hD⟩
    · obtain ⟨cs, cps, h1, h2, h3, h4, h5, h6, h7, h8, h9, h10⟩ := p
      exact SqL.of (h7 _ _ upd_same (by simp; exact ⟨nq, h9.symm⟩))
    · obtain ⟨cs, cps, h1, h2, h3, h4, h5, h6, h7, h8, h9, h10⟩ := p
      obtain ⟨rfl, hx⟩ := y
      simp only [List.length_map] at hi
      simp only [List.getElem?_map, List.getElem?_eq_getElem hi, Option.map_some, Option.some.injEq] at hx
      subst hx
      have hi3 : i < 3 := hi
      simp only [tSeq, tIfS, tOr, tAnd, tNot, tB, tTest, tCB, tCons, tNil, tVar, tC, tOp, tUn, tRet, tRetN, tDrop, tAsg, tPar, tPar3, tNext, tNever, tBreak, tCont, tAug, tChain, tAndV, tOrV, tNotV, tIf, tIsN, tNotN, tTup, tLst, tCallD, tMethD, tMakeD, tFld, tCon, sFld, sFldAug, tCallK, tSl, tPart, tNoPart, tBM, tBM0, tDGet, tDIn, tDNotIn, sDPut, tDNewK, tM0, tM1, tOrT, tAndT, tNotT, tAsg2, tAsg3, gName, rI0, rI, rU, tYes, L2.start, NdefX.startF, List.set_cons_zero, List.set_cons_succ, List.map_cons, List.map_nil, List.length_cons, List.length_nil, Nat.sub_zero, Nat.reduceSub, Nat.reduceAdd, List.replicate_succ, List.replicate_zero, List.cons_append, List.nil_append, List.append_nil, List.getElem?_cons_zero, List.getElem?_cons_succ, Option.some.injEq, exists_eq_left', exists_eq_left, exists_eq_right, exists_eq_right', exists_and_left, exists_and_right, exists_eq, exists_eq', true_and, and_true, V.int.injEq, V.str.injEq, V.bl.injEq, V.ref.injEq, V.ty.injEq, HO.ins.injEq, HO.lst.injEq, HO.tup.injEq, and_assoc, List.cons.injEq, Bool.not_true, Bool.not_false, Bool.false_eq_true, if_false, if_true, cx_K, upd_same, upd_upd, isi_str, req_ii, req_ss, rne_ii, rne_ss, radd_ii, rsub_ii, atI_at, atI_0, atI_1, atI_2, atI_3, atI_4, rLenL, rLenU, rIxLL, rIxU, reduceCtorEq, gTup, gCons, gNil, tFmt_eq, fmtV_str, fmtV_int, tJs_nil, tJs_cons, jsV_str, iKeys_eq, gSub, rSetL, tPart, tNoPart, tSl, rSlL, false_and, exists_false, or_false, false_or, List.set_cons_zero, List.set_cons_succ, wipe]
      refine ⟨pen, sl, n + 1 + 2 * i, 2, rfl, h6, by omega, by decide, by decide, fun r5 H5 hr5 k5 P5 => ?_⟩
      simp only [tSeq, tIfS, tOr, tAnd, tNot, tB, tTest, tCB, tCons, tNil, tVar, tC, tOp, tUn, tRet, tRetN, tDrop, tAsg, tPar, tPar3, tNext, tNever, tBreak, tCont, tAug, tChain, tAndV, tOrV, tNotV, tIf, tIsN, tNotN, tTup, tLst, tCallD, tMethD, tMakeD, tFld, tCon, sFld, sFldAug, tCallK, tSl, tPart, tNoPart, tBM, tBM0, tDGet, tDIn, tDNotIn, sDPut, tDNewK, tM0, tM1, tOrT, tAndT, tNotT, tAsg2, tAsg3, gName, rI0, rI, rU, tYes, L2.start, NdefX.startF, List.set_cons_zero, List.set_cons_succ, List.map_cons, List.map_nil, List.length_cons, List.length_nil, Nat.sub_zero, Nat.reduceSub, Nat.reduceAdd, List.replicate_succ, List.replicate_zero, List.cons_append, List.nil_append, List.append_nil, List.getElem?_cons_zero, List.getElem?_cons_succ, Option.some.injEq, exists_eq_left', exists_eq_left, exists_eq_right, exists_eq_right', exists_and_left, exists_and_right, exists_eq, exists_eq', true_and, and_true, V.int.injEq, V.str.injEq, V.bl.injEq, V.ref.injEq, V.ty.injEq, HO.ins.injEq, HO.lst.injEq, HO.tup.injEq, and_assoc, List.cons.injEq, Bool.not_true, Bool.not_false, Bool.false_eq_true, if_false, if_true, cx_K, upd_same, upd_upd, isi_str, req_ii, req_ss, rne_ii, rne_ss, radd_ii, rsub_ii, atI_at, atI_0, atI_1, atI_2, atI_3, atI_4, rLenL, rLenU, rIxLL, rIxU, reduceCtorEq, gTup, gCons, gNil, tFmt_eq, fmtV_str, fmtV_int, tJs_nil, tJs_cons, jsV_str, iKeys_eq, gSub, rSetL, tPart, tNoPart, tSl, rSlL, false_and, exists_false, or_false, false_or, List.set_cons_zero, List.set_cons_succ]
      have e5D := k5 _ _ h1 (by simpa using h8)
      have pr5 : Paired (fun (p : Addr) (x : Str × Int) => H5 p = some (.tup [.str x.1, .int x.2])) cps cs := paired_imp (fun p x e => k5 _ _ e (by
        obtain ⟨_, _, _, hpen, _⟩ := h6.ex
        simpa using ne_of e hpen (by intro z; cases z))) h2
      have kk5 : Keep [pen, D] (upd H1 q (.lst (titlesC.map V.str))) H5 := Keep.trans (T := [pen]) (U := [pen, D]) h7 k5 (by simp) (by simp)
      have sub1 : ∀ {l : List Str}, l.Sublist (titlesC.take i) → l.Sublist (titlesC.take (i + 1)) := fun h => h.trans (by rw [List.take_succ]; exact List.sublist_append_left _ _)
      refine ite2 (fun z => ?_) fun z => ?_
      · refine ⟨pen, sl, n + 1 + 2 * i + 1, 4, rfl, P5, by omega, by decide, by decide, fun r6 H6 hr6 k6 P6 => ⟨sz_le (by decide), fun b hb => ?_⟩⟩
        have e6D := k6 _ _ e5D (by simpa using h8)
        have nbD : b ≠ D := fun e => by rw [e, e6D] at hb; cases hb
        obtain ⟨_, _, _, hpen6, _⟩ := P6.ex
        have nbp : b ≠ pen := fun e => by rw [e, hpen6] at hb; cases hb
        obtain ⟨_, _, _, hpen5, _⟩ := P5.ex
        refine ⟨_, by rw [upd_ne nbD.symm]; exact e6D, by rw [List.length_map]; exact sz_lt (by omega), cs ++ [(titlesC[i], (r6 : Int))], cps ++ [b], by rw [upd_same, List.map_append]; rfl, ?_, ?_, ?_, by simp; omega, ?_, ?_, h8, h9, h10⟩
        · have pp : ∀ (p : Addr) (x : Str × Int), H5 p = some (.tup [.str x.1, .int x.2]) → upd (upd H6 b (.tup [.str titlesC[i], .int r6])) D (.lst (cps.map V.ref ++ [V.ref b])) p = some (.tup [.str x.1, .int x.2]) := fun p x e => by
            rw [upd_ne (ne_of e e5D (by intro z; cases z)), upd_ne (ne_of_none (k6 _ _ e (by simpa using ne_of e hpen5 (by intro z; cases z))) hb)]
            exact k6 _ _ e (by simpa using ne_of e hpen5 (by intro z; cases z))
          exact (paired_imp pp pr5).snoc (by rw [upd_ne nbD, upd_same])
        · rw [List.map_append, List.take_succ, List.getElem?_eq_getElem hi]
          exact h3.append (List.Sublist.refl _)
        · intro x hx
          rcases List.mem_append.mp hx with h | h
          · exact h4 x h
          · rw [List.mem_singleton.mp h]; exact ⟨by show (0 : Int) ≤ r6; omega, by show (r6 : Int) ≤ 3; omega⟩
        · exact ((P6.new hb (o := .tup [.str titlesC[i], .int r6])).mono (m := n + 1 + 2 * (i + 1)) (by omega) (by omega)).at_ h8 h10
        · exact Keep.trans (S := [pen, D]) (T := [D]) (U := [pen, D]) (Keep.trans (S := [pen, D]) (T := []) (U := [pen, D]) (Keep.trans (T := [pen]) (U := [pen, D]) kk5 k6 (by simp) (by simp)) (Keep.of (same_upd hb)) (by simp) (by simp)) keep_upd (by simp) (by simp)
      · exact ⟨cs, cps, e5D, pr5, sub1 h3, h4, by omega, P5.mono (by omega) (by omega), kk5, h8, h9, h10⟩
    · obtain ⟨cs, cps, h1, h2, h3, h4, h5, h6, h7, h8, h9, h10⟩ := p
      have kD : Keep [pen] H1 H3 := fun b o e nb => h7 b o (by rw [upd_ne (ne_of_none e hq)]; exact e) (by
        simp only [List.mem_cons, List.not_mem_nil, or_false, not_or] at nb ⊢
        exact ⟨nb, fun e2 => by rw [← e2, upd_ne (ne_of_none e hq), e] at hD; cases hD⟩)
      have kH3 : Keep [pen] H H3 := Keep.trans (U := [pen]) kH1 kD (by simp) (by simp)
      replace h6 := h6.mono (m := n + 7) (by show n + 1 + 2 * 3 ≤ n + 7; omega) (by omega)
      replace h3 : (cs.map (·.1)).Sublist titlesC := by rw [show titlesC = titlesC.take (List.length (titlesC.map V.str)) from rfl]; exact h3
      have hD0 : H D = none := none_of kH1 (by
        have hDq : D ≠ q := h9
        rw [upd_ne hDq] at hD; exact hD) (by simpa using h8)
      clear h5 h7 kD
      refine hid_in ?_
      simp only [tSeq, tIfS, tOr, tAnd, tNot, tB, tTest, tCB, tCons, tNil, tVar, tC, tOp, tUn, tRet, tRetN, tDrop, tAsg, tPar, tPar3, tNext, tNever, tBreak, tCont, tAug, tChain, tAndV, tOrV, tNotV, tIf, tIsN, tNotN, tTup, tLst, tCallD, tMethD, tMakeD, tFld, tCon, sFld, sFldAug, tCallK, tSl, tPart, tNoPart, tBM, tBM0, tDGet, tDIn, tDNotIn, sDPut, tDNewK, tM0, tM1, tOrT, tAndT, tNotT, tAsg2, tAsg3, gName, rI0, rI, rU, tYes, L2.start, NdefX.startF, List.set_cons_zero, List.set_cons_succ, List.map_cons, List.map_nil, List.length_cons, List.length_nil, Nat.sub_zero, Nat.reduceSub, Nat.reduceAdd, List.replicate_succ, List.replicate_zero, List.cons_append, List.nil_append, List.append_nil, List.getElem?_cons_zero, List.getElem?_cons_succ, Option.some.injEq, exists_eq_left', exists_eq_left, exists_eq_right, exists_eq_right', exists_and_left, exists_and_right, exists_eq, exists_eq', true_and, and_true, V.int.injEq, V.str.injEq, V.bl.injEq, V.ref.injEq, V.ty.injEq, HO.ins.injEq, HO.lst.injEq, HO.tup.injEq, and_assoc, List.cons.injEq, Bool.not_true, Bool.not_false, Bool.false_eq_true, if_false, if_true, cx_K, upd_same, upd_upd, isi_str, req_ii, req_ss, rne_ii, rne_ss, radd_ii, rsub_ii, atI_at, atI_0, atI_1, atI_2, atI_3, atI_4, rLenL, rLenU, rIxLL, rIxU, reduceCtorEq, gTup, gCons, gNil, tFmt_eq, fmtV_str, fmtV_int, tJs_nil, tJs_cons, jsV_str, iKeys_eq, gSub, rSetL, tPart, tNoPart, tSl, rSlL, false_and, exists_false, or_false, false_or, List.set_cons_zero, List.set_cons_succ]
      refine ⟨Nat.zero_le _, fun L hL => ?_⟩
      refine hid_in ?_
      obtain ⟨_, _, _, hpen3, hsl3, _⟩ := h6.ex
      have nLp : L ≠ pen := (ne_of_none hpen3 hL).symm
      have nLs : L ≠ sl := (ne_of_none hsl3 hL).symm
      have P4 := h6.new hL (o := .lst [])
      have gL : upd H3 L (.lst []) L = some (.lst (([] : List Addr).map V.ref)) := upd_same
      have s34 : Same H3 (upd H3 L (.lst [])) := same_upd hL
      have hL0 : H L = none := none_of kH3 hL (by simpa using nLp)
      generalize upd H3 L (.lst []) = H4 at P4 gL s34 ⊢
      refine tFor_mk (S := fun J H5 => ∃ q, H4 q = none ∧ J = Itl K q ∧ H5 = upd H4 q (.lst (titlesL.map V.str))) (fun R h => ⟨sz_le (by decide), fun q hq => ⟨q, rfl, ⟨_, SqL.of upd_same⟩, h _ _ ⟨q, hq, rfl, rfl⟩⟩⟩) ?_
      rintro J H5 ⟨q2, hq2, rfl, rfl⟩
      obtain ⟨_, _, _, hpen4, hsl4, _⟩ := P4.ex
      have nq2p : q2 ≠ pen := (ne_of_none hpen4 hq2).symm
      have nq2L : q2 ≠ L := (ne_of_none gL hq2).symm
      refine tFor_it (walk_list (xs := titlesL.map V.str)) (fun R h => h) (LInv pen sl D L (failV gone) n (upd H4 q2 (.lst (titlesL.map V.str))))
        ⟨none, none, [], [], rfl, by rw [upd_ne nq2L.symm]; exact gL, .nil, by simp, (fun _ h => nomatch h), Nat.le_refl _, P4.new hq2, fun b o e _ => e⟩ (fun i σ H' _ p => ?_) (fun i x σ H6 H7 hi p y => ?_) fun σ H6 p => ?_
      · obtain ⟨u, v, ls, lps, _, _, _, _, _, _, _, kk⟩ := p
        exact SqL.of (kk _ _ upd_same (by simp; exact ⟨nq2p, nq2L⟩))
      · obtain ⟨u, v, ls, lps, rfl, e1, e2, e3, e4, e5, e6, e7⟩ := p
        obtain ⟨rfl, hx⟩ := y
        simp only [List.length_map] at hi
        simp only [List.getElem?_map, List.getElem?_eq_getElem hi, Option.map_some, Option.some.injEq] at hx
        subst hx
        have hi2 : i < 2 := hi
        obtain ⟨_, _, _, hpen6, hsl6, _⟩ := e6.ex
        simp only [tSeq, tIfS, tOr, tAnd, tNot, tB, tTest, tCB, tCons, tNil, tVar, tC, tOp, tUn, tRet, tRetN, tDrop, tAsg, tPar, tPar3, tNext, tNever, tBreak, tCont, tAug, tChain, tAndV, tOrV, tNotV, tIf, tIsN, tNotN, tTup, tLst, tCallD, tMethD, tMakeD, tFld, tCon, sFld, sFldAug, tCallK, tSl, tPart, tNoPart, tBM, tBM0, tDGet, tDIn, tDNotIn, sDPut, tDNewK, tM0, tM1, tOrT, tAndT, tNotT, tAsg2, tAsg3, gName, rI0, rI, rU, tYes, L2.start, NdefX.startF, List.set_cons_zero, List.set_cons_succ, List.map_cons, List.map_nil, List.length_cons, List.length_nil, Nat.sub_zero, Nat.reduceSub, Nat.reduceAdd, List.replicate_succ, List.replicate_zero, List.cons_append, List.nil_append, List.append_nil, List.getElem?_cons_zero, List.getElem?_cons_succ, Option.some.injEq, exists_eq_left', exists_eq_left, exists_eq_right, exists_eq_right', exists_and_left, exists_and_right, exists_eq, exists_eq', true_and, and_true, V.int.injEq, V.str.injEq, V.bl.injEq, V.ref.injEq, V.ty.injEq, HO.ins.injEq, HO.lst.injEq, HO.tup.injEq, and_assoc, List.cons.injEq, Bool.not_true, Bool.not_false, Bool.false_eq_true, if_false, if_true, cx_K, upd_same, upd_upd, isi_str, req_ii, req_ss, rne_ii, rne_ss, radd_ii, rsub_ii, atI_at, atI_0, atI_1, atI_2, atI_3, atI_4, rLenL, rLenU, rIxLL, rIxU, reduceCtorEq, gTup, gCons, gNil, tFmt_eq, fmtV_str, fmtV_int, tJs_nil, tJs_cons, jsV_str, iKeys_eq, gSub, rSetL, tPart, tNoPart, tSl, rSlL, false_and, exists_false, or_false, false_or, List.set_cons_zero, List.set_cons_succ]
        refine ⟨pen, sl, n + 7 + 6 * i, 2, rfl, e6, by omega, by decide, by decide, fun r8 H8 hr8 k8 P8 => ?_⟩
        simp only [tSeq, tIfS, tOr, tAnd, tNot, tB, tTest, tCB, tCons, tNil, tVar, tC, tOp, tUn, tRet, tRetN, tDrop, tAsg, tPar, tPar3, tNext, tNever, tBreak, tCont, tAug, tChain, tAndV, tOrV, tNotV, tIf, tIsN, tNotN, tTup, tLst, tCallD, tMethD, tMakeD, tFld, tCon, sFld, sFldAug, tCallK, tSl, tPart, tNoPart, tBM, tBM0, tDGet, tDIn, tDNotIn, sDPut, tDNewK, tM0, tM1, tOrT, tAndT, tNotT, tAsg2, tAsg3, gName, rI0, rI, rU, tYes, L2.start, NdefX.startF, List.set_cons_zero, List.set_cons_succ, List.map_cons, List.map_nil, List.length_cons, List.length_nil, Nat.sub_zero, Nat.reduceSub, Nat.reduceAdd, List.replicate_succ, List.replicate_zero, List.cons_append, List.nil_append, List.append_nil, List.getElem?_cons_zero, List.getElem?_cons_succ, Option.some.injEq, exists_eq_left', exists_eq_left, exists_eq_right, exists_eq_right', exists_and_left, exists_and_right, exists_eq, exists_eq', true_and, and_true, V.int.injEq, V.str.injEq, V.bl.injEq, V.ref.injEq, V.ty.injEq, HO.ins.injEq, HO.lst.injEq, HO.tup.injEq, and_assoc, List.cons.injEq, Bool.not_true, Bool.not_false, Bool.false_eq_true, if_false, if_true, cx_K, upd_same, upd_upd, isi_str, req_ii, req_ss, rne_ii, rne_ss, radd_ii, rsub_ii, atI_at, atI_0, atI_1, atI_2, atI_3, atI_4, rLenL, rLenU, rIxLL, rIxU, reduceCtorEq, gTup, gCons, gNil, tFmt_eq, fmtV_str, fmtV_int, tJs_nil, tJs_cons, jsV_str, iKeys_eq, gSub, rSetL, tPart, tNoPart, tSl, rSlL, false_and, exists_false, or_false, false_or, List.set_cons_zero, List.set_cons_succ]
        have sub1 : ∀ {l : List Str}, l.Sublist (titlesL.take i) → l.Sublist (titlesL.take (i + 1)) := fun h => h.trans (by rw [List.take_succ]; exact List.sublist_append_left _ _)
        have k78 : Keep [pen, L] (upd H4 q2 (.lst (titlesL.map V.str))) H8 := Keep.trans (T := [pen]) (U := [pen, L]) e7 k8 (by simp) (by simp)
        have noT : ∀ {Hx : Hp} {m : Nat}, Pen Hx pen sl m → ∀ b ∈ [pen], ∀ xs, Hx b ≠ some (.tup xs) := fun {Hx m} PP b hb xs e => by
          obtain ⟨_, _, _, hh, _⟩ := PP.ex
          rw [List.mem_singleton.mp hb, hh] at e
          cases e
        have p8 : Paired (LF H8) lps ls := paired_imp (fun p x h => h.keep k8 (noT e6)) e2
        have e8 := k8 _ _ e1 (by simpa using nLp)
        refine ite2 (fun z => ?_) fun z => ?_
        · refine tLc_mk (S := fun J H9 => ∃ r : Nat, r < 4 ∧ J = Itr 0 r ∧ Keep [pen] H8 H9 ∧ Pen H9 pen sl (n + 7 + 6 * i + 2)) (fun R h => ?_) ?_
          · simp only [tSeq, tIfS, tOr, tAnd, tNot, tB, tTest, tCB, tCons, tNil, tVar, tC, tOp, tUn, tRet, tRetN, tDrop, tAsg, tPar, tPar3, tNext, tNever, tBreak, tCont, tAug, tChain, tAndV, tOrV, tNotV, tIf, tIsN, tNotN, tTup, tLst, tCallD, tMethD, tMakeD, tFld, tCon, sFld, sFldAug, tCallK, tSl, tPart, tNoPart, tBM, tBM0, tDGet, tDIn, tDNotIn, sDPut, tDNewK, tM0, tM1, tOrT, tAndT, tNotT, tAsg2, tAsg3, gName, rI0, rI, rU, tYes, L2.start, NdefX.startF, List.set_cons_zero, List.set_cons_succ, List.map_cons, List.map_nil, List.length_cons, List.length_nil, Nat.sub_zero, Nat.reduceSub, Nat.reduceAdd, List.replicate_succ, List.replicate_zero, List.cons_append, List.nil_append, List.append_nil, List.getElem?_cons_zero, List.getElem?_cons_succ, Option.some.injEq, exists_eq_left', exists_eq_left, exists_eq_right, exists_eq_right', exists_and_left, exists_and_right, exists_eq, exists_eq', true_and, and_true, V.int.injEq, V.str.injEq, V.bl.injEq, V.ref.injEq, V.ty.injEq, HO.ins.injEq, HO.lst.injEq, HO.tup.injEq, and_assoc, List.cons.injEq, Bool.not_true, Bool.not_false, Bool.false_eq_true, if_false, if_true, cx_K, upd_same, upd_upd, isi_str, req_ii, req_ss, rne_ii, rne_ss, radd_ii, rsub_ii, atI_at, atI_0, atI_1, atI_2, atI_3, atI_4, rLenL, rLenU, rIxLL, rIxU, reduceCtorEq, gTup, gCons, gNil, tFmt_eq, fmtV_str, fmtV_int, tJs_nil, tJs_cons, jsV_str, iKeys_eq, gSub, rSetL, tPart, tNoPart, tSl, rSlL, false_and, exists_false, or_false, false_or, List.set_cons_zero, List.set_cons_succ, iRng1]
            refine ⟨pen, sl, _, 4, rfl, P8, by omega, by decide, by decide, fun r9 H9 hr9 k9 P9 => ⟨_, rfl, by omega, by omega, h _ _ ⟨r9, hr9, by rw [Int.toNat_natCast], k9, P9⟩⟩⟩
          rintro J H9 ⟨r, hr, rfl, k9, P9⟩
          obtain ⟨_, _, _, hpen9, hsl9, _⟩ := P9.ex
          refine tLcIf_it (walk_range (lo := 0) (n := r)) (fun R h => h) (WInv pen sl (n + 7 + 6 * i + 2) H9) (fun D2 hD2 => ⟨[], upd_same, rfl, (fun _ h => nomatch h), P9.new hD2, keep_upd.mono (by simp), (ne_of_none hpen9 hD2).symm, (ne_of_none hsl9 hD2).symm⟩) (fun _ _ _ _ _ => trivial) (fun D2 j x Ha Hb hj p y => ?_) fun D2 Ha hD2 p => ?_
          · obtain ⟨said, w1, w2, w3, w4, w5, w6, w7⟩ := p
            obtain ⟨rfl, rfl⟩ := y
            simp only [tSeq, tIfS, tOr, tAnd, tNot, tB, tTest, tCB, tCons, tNil, tVar, tC, tOp, tUn, tRet, tRetN, tDrop, tAsg, tPar, tPar3, tNext, tNever, tBreak, tCont, tAug, tChain, tAndV, tOrV, tNotV, tIf, tIsN, tNotN, tTup, tLst, tCallD, tMethD, tMakeD, tFld, tCon, sFld, sFldAug, tCallK, tSl, tPart, tNoPart, tBM, tBM0, tDGet, tDIn, tDNotIn, sDPut, tDNewK, tM0, tM1, tOrT, tAndT, tNotT, tAsg2, tAsg3, gName, rI0, rI, rU, tYes, L2.start, NdefX.startF, List.set_cons_zero, List.set_cons_succ, List.map_cons, List.map_nil, List.length_cons, List.length_nil, Nat.sub_zero, Nat.reduceSub, Nat.reduceAdd, List.replicate_succ, List.replicate_zero, List.cons_append, List.nil_append, List.append_nil, List.getElem?_cons_zero, List.getElem?_cons_succ, Option.some.injEq, exists_eq_left', exists_eq_left, exists_eq_right, exists_eq_right', exists_and_left, exists_and_right, exists_eq, exists_eq', true_and, and_true, V.int.injEq, V.str.injEq, V.bl.injEq, V.ref.injEq, V.ty.injEq, HO.ins.injEq, HO.lst.injEq, HO.tup.injEq, and_assoc, List.cons.injEq, Bool.not_true, Bool.not_false, Bool.false_eq_true, if_false, if_true, cx_K, upd_same, upd_upd, isi_str, req_ii, req_ss, rne_ii, rne_ss, radd_ii, rsub_ii, atI_at, atI_0, atI_1, atI_2, atI_3, atI_4, rLenL, rLenU, rIxLL, rIxU, reduceCtorEq, gTup, gCons, gNil, tFmt_eq, fmtV_str, fmtV_int, tJs_nil, tJs_cons, jsV_str, iKeys_eq, gSub, rSetL, tPart, tNoPart, tSl, rSlL, false_and, exists_false, or_false, false_or, List.set_cons_zero, List.set_cons_succ, wipe]
            refine ⟨sz_le (by decide), fun l5 hl5 => ⟨pen, sl, l5, n + 7 + 6 * i + 2 + j, _, rfl, w4.new hl5, by omega, upd_same, ?_, by decide, by decide, fun rr hrr Hc kc Pc => ?_⟩⟩
            · obtain ⟨_, _, _, hh, _⟩ := w4.ex
              exact (ne_of_none hh hl5).symm
            · have kbc : Keep [pen] Hb Hc := Keep.trans (S := []) (T := [pen]) (U := [pen]) (Keep.of (same_upd hl5)) kc (by simp) (by simp)
              obtain ⟨sw, hsw, hsm⟩ : ∃ sw : Str, ([V.str "a", V.str "stop", V.str "zzzzzzzz", V.str "l", V.str "done"] : List V)[rr] = .str sw ∧ sw ∈ saidW := by
                match rr, hrr with
                | 0, _ => exact ⟨"a", rfl, by decide +kernel⟩
                | 1, _ => exact ⟨"stop", rfl, by decide +kernel⟩
                | 2, _ => exact ⟨"zzzzzzzz", rfl, by decide +kernel⟩
                | 3, _ => exact ⟨"l", rfl, by decide +kernel⟩
                | 4, _ => exact ⟨"done", rfl, by decide +kernel⟩
              rw [hsw]
              have wc := kbc _ _ w1 (by simpa using w6)
              refine ⟨_, wc, sz_lt (by rw [List.length_map, w2]; omega), said ++ [sw], by rw [upd_same, List.map_append]; rfl, by rw [List.length_append, w2]; rfl, fun y hy => ?_, (Pc.at_ w6 w7).mono (by omega) (by omega), ?_, w6, w7⟩
              · rcases List.mem_append.mp hy with h | h
                · exact w3 y h
                · rw [List.mem_singleton.mp h]; exact hsm
              · exact Keep.trans (S := [pen, D2]) (T := [D2]) (U := [pen, D2]) (Keep.trans (T := [pen]) (U := [pen, D2]) w5 kbc (by simp) (by simp)) keep_upd (by simp) (by simp)
          · obtain ⟨said, w1, w2, w3, w4, w5, w6, w7⟩ := p
            have k8a : Keep [pen] H8 Ha := Keep.trans (T := [pen]) (U := [pen]) k9 (fun b o e nb => w5 b o e (by
              simp only [List.mem_cons, List.not_mem_nil, or_false, not_or] at nb ⊢
              exact ⟨nb, ne_of_none e hD2⟩)) (by simp) (by simp)
            refine hid_in ?_
            have ea := k8a _ _ e8 (by simpa using nLp)
            simp only [tSeq, tIfS, tOr, tAnd, tNot, tB, tTest, tCB, tCons, tNil, tVar, tC, tOp, tUn, tRet, tRetN, tDrop, tAsg, tPar, tPar3, tNext, tNever, tBreak, tCont, tAug, tChain, tAndV, tOrV, tNotV, tIf, tIsN, tNotN, tTup, tLst, tCallD, tMethD, tMakeD, tFld, tCon, sFld, sFldAug, tCallK, tSl, tPart, tNoPart, tBM, tBM0, tDGet, tDIn, tDNotIn, sDPut, tDNewK, tM0, tM1, tOrT, tAndT, tNotT, tAsg2, tAsg3, gName, rI0, rI, rU, tYes, L2.start, NdefX.startF, List.set_cons_zero, List.set_cons_succ, List.map_cons, List.map_nil, List.length_cons, List.length_nil, Nat.sub_zero, Nat.reduceSub, Nat.reduceAdd, List.replicate_succ, List.replicate_zero, List.cons_append, List.nil_append, List.append_nil, List.getElem?_cons_zero, List.getElem?_cons_succ, Option.some.injEq, exists_eq_left', exists_eq_left, exists_eq_right, exists_eq_right', exists_and_left, exists_and_right, exists_eq, exists_eq', true_and, and_true, V.int.injEq, V.str.injEq, V.bl.injEq, V.ref.injEq, V.ty.injEq, HO.ins.injEq, HO.lst.injEq, HO.tup.injEq, and_assoc, List.cons.injEq, Bool.not_true, Bool.not_false, Bool.false_eq_true, if_false, if_true, cx_K, upd_same, upd_upd, isi_str, req_ii, req_ss, rne_ii, rne_ss, radd_ii, rsub_ii, atI_at, atI_0, atI_1, atI_2, atI_3, atI_4, rLenL, rLenU, rIxLL, rIxU, reduceCtorEq, gTup, gCons, gNil, tFmt_eq, fmtV_str, fmtV_int, tJs_nil, tJs_cons, jsV_str, iKeys_eq, gSub, rSetL, tPart, tNoPart, tSl, rSlL, false_and, exists_false, or_false, false_or, List.set_cons_zero, List.set_cons_succ]
            refine ⟨tyV_lst ea, _, .inl ⟨SqL.of w1, fun ts hts => ⟨sz_le (by decide), fun tt htt => ?_⟩⟩⟩
            have ntt : tt ≠ ts := fun e => by rw [e, upd_same] at htt; cases htt
            have htt0 : Ha tt = none := by rw [upd_ne ntt] at htt; exact htt
            have sE : Same Ha (upd (upd Ha ts (.tup (said.map V.str))) tt (.tup [.str titlesL[i], .ref ts])) := same_new (same_upd hts) htt
            have eE := sE _ _ ea
            have nttL : tt ≠ L := (ne_of_none ea htt0).symm
            have ntsL : ts ≠ L := (ne_of_none ea hts).symm
            refine ⟨L, _, .ref tt, rfl, rfl, eE, by rw [List.length_map]; exact sz_lt (by omega), _, _, ls ++ [(titlesL[i], ts, said)], lps ++ [tt], rfl, by rw [upd_same, List.map_append]; rfl, ?_, ?_, ?_, by simp; omega, ?_, ?_⟩
            · have pp : ∀ (p : Addr) (x : Str × Addr × List Str), LF H8 p x → LF (upd (upd (upd Ha ts (.tup (said.map V.str))) tt (.tup [.str titlesL[i], .ref ts])) L (.lst (lps.map V.ref ++ [V.ref tt]))) p x := fun p x h =>
                ((h.keep k8a (noT P8)).keep (Keep.of (S := []) sE) (by simp)).keep (S := [L]) keep_upd (fun b hb xs e => by rw [List.mem_singleton.mp hb, eE] at e; cases e)
              exact (paired_imp pp p8).snoc ⟨by rw [upd_ne nttL, upd_same], by rw [upd_ne ntsL, upd_ne ntt.symm, upd_same]⟩
            · rw [List.map_append, List.take_succ, List.getElem?_eq_getElem hi]
              exact e3.append (List.Sublist.refl _)
            · intro x hx
              rcases List.mem_append.mp hx with h | h
              · exact e4 x h
              · rw [List.mem_singleton.mp h]; exact ⟨by show said.length ≤ 3; omega, w3⟩
            · exact ((w4.same sE).at_ nLp nLs).mono (by omega) (by omega)
            · exact Keep.trans (S := [pen, L]) (T := [L]) (U := [pen, L]) (Keep.trans (T := []) (U := [pen, L]) (Keep.trans (T := [pen]) (U := [pen, L]) k78 k8a (by simp) (by simp)) (Keep.of sE) (by simp) (by simp)) keep_upd (by simp) (by simp)
        · exact ⟨some (.str titlesL[i]), v, ls, lps, rfl, e8, p8, sub1 e3, e4, by omega, P8.mono (by omega) (by omega), k78⟩
      · obtain ⟨u, v, ls, lps, rfl, e1, e2, e3, e4, e5, e6, e7⟩ := p
        dsimp only
        refine hid_in ?_
        simp only [tSeq, tIfS, tOr, tAnd, tNot, tB, tTest, tCB, tCons, tNil, tVar, tC, tOp, tUn, tRet, tRetN, tDrop, tAsg, tPar, tPar3, tNext, tNever, tBreak, tCont, tAug, tChain, tAndV, tOrV, tNotV, tIf, tIsN, tNotN, tTup, tLst, tCallD, tMethD, tMakeD, tFld, tCon, sFld, sFldAug, tCallK, tSl, tPart, tNoPart, tBM, tBM0, tDGet, tDIn, tDNotIn, sDPut, tDNewK, tM0, tM1, tOrT, tAndT, tNotT, tAsg2, tAsg3, gName, rI0, rI, rU, tYes, L2.start, NdefX.startF, List.set_cons_zero, List.set_cons_succ, List.map_cons, List.map_nil, List.length_cons, List.length_nil, Nat.sub_zero, Nat.reduceSub, Nat.reduceAdd, List.replicate_succ, List.replicate_zero, List.cons_append, List.nil_append, List.append_nil, List.getElem?_cons_zero, List.getElem?_cons_succ, Option.some.injEq, exists_eq_left', exists_eq_left, exists_eq_right, exists_eq_right', exists_and_left, exists_and_right, exists_eq, exists_eq', true_and, and_true, V.int.injEq, V.str.injEq, V.bl.injEq, V.ref.injEq, V.ty.injEq, HO.ins.injEq, HO.lst.injEq, HO.tup.injEq, and_assoc, List.cons.injEq, Bool.not_true, Bool.not_false, Bool.false_eq_true, if_false, if_true, cx_K, upd_same, upd_upd, isi_str, req_ii, req_ss, rne_ii, rne_ss, radd_ii, rsub_ii, atI_at, atI_0, atI_1, atI_2, atI_3, atI_4, rLenL, rLenU, rIxLL, rIxU, reduceCtorEq, gTup, gCons, gNil, tFmt_eq, fmtV_str, fmtV_int, tJs_nil, tJs_cons, jsV_str, iKeys_eq, gSub, rSetL, tPart, tNoPart, tSl, rSlL, false_and, exists_false, or_false, false_or, List.set_cons_zero, List.set_cons_succ]
        refine ⟨sz_le (by decide), fun t ht => ?_⟩
        obtain ⟨_, _, _, hpen6, _⟩ := e6.ex
        have k46 : Keep [pen, L] H4 H6 := fun b o e nb => e7 b o (by rw [upd_ne (ne_of_none e hq2)]; exact e) nb
        have k36 : Keep [pen, L] H3 H6 := fun b o e nb => k46 b o (s34 b o e) nb
        have k6 : Keep [pen] H H6 := fun b o e nb => k46 b o (s34 _ _ (kH3 b o e nb)) (by
          simp only [List.mem_cons, List.not_mem_nil, or_false, not_or] at nb ⊢
          exact ⟨nb, ne_of_none e hL0⟩)
        have st : Same H6 (upd H6 t (.tup [failV gone, .ref D, .ref L])) := same_upd ht
        have htp : t ≠ pen := (ne_of_none hpen6 ht).symm
        have hDL : D ≠ L := ne_of_none h1 hL
        refine k t D L ⟨gone, cs, lD ls⟩ _ (Keep.trans (U := [pen]) k6 (Keep.of (S := []) st) (by simp) (by simp)) (none_of k6 ht (by simpa using htp)) hD0 hL0 ((e6.mono (by show n + 7 + 6 * 2 ≤ n + 20; omega) (by omega)).same st)
          ⟨cps, ls, lps, upd_same, st _ _ (k36 _ _ h1 (by simp; exact ⟨h8, hDL⟩)), st _ _ e1, ?_, ?_, rfl⟩ ⟨hg2, ⟨h3, h4⟩, ?_, ?_⟩
        · refine paired_imp (fun p x e => st _ _ (k36 _ _ e ?_)) h2
          simp only [List.mem_cons, List.not_mem_nil, or_false, not_or]
          exact ⟨ne_of e hpen3 (by intro z; cases z), ne_of_none e hL⟩
        · exact paired_imp (fun p x h => h.keep (Keep.of (S := []) st) (by simp)) e2
        · rw [lD_fst]; exact e3
        · intro x hx
          obtain ⟨y, hy, rfl⟩ := List.mem_map.mp hx
          exact e4 y hy
end
end Ky

set_option Elab.async false
set_option maxRecDepth 100000
set_option maxHeartbeats 4000000
set_option linter.all false
namespace Ky
open PySem L2 Ly
def spIsSaid : Sp := fun vs H Q _ => ∃ s : Str, vs = [.str s] ∧ s.length ≤ 100000 ∧ PyData.strOk s = true ∧ ∀ H', Same H H' → Q (.bl (isWordM s)) H'
def spLIsName : Sp := fun vs H Q _ => ∃ s : Str, vs = [.str s] ∧ s.length ≤ 100000 ∧ PyData.strOk s = true ∧ ∀ H', Same H H' → Q (.bl (isNameM s)) H'
section
variable {w : World} {K : PySem.W.Frag} {mg : Str → Option Value} {base : Heap} {aK aF CB CP CE CW : Addr}
abbrev s__law_is_said : Stmt := top 28
theorem sc__law_is_said : FnScope ["_law_word", "_law_sign"] ["_law_word"] (defScope s__law_is_said) := ⟨rfl, rfl, rfl, by decide +kernel, rfl, by decide +kernel, by decide +kernel⟩
theorem ok_lsaid {f : Addr} {fd : FuncData} (F : Fun K "_law_is_said" "_law_is_said" s__law_is_said f fd) (T : Tx K mg aK aF) : FnOk PP w K mg base (L2.CX PP w) 1 f fd ["_law_word"] spIsSaid := by
  refine F.okX sc__law_is_said (fun vs H Q E h => ?_) (fun cdv A outer s H vs Q E hr h => ?_)
  · obtain ⟨z, rfl, _⟩ := h; rfl
  · obtain ⟨z, rfl, hz, hok, k⟩ := h
    refine ⟨_, (pss_one (ps_ret (pe_and (pe_chain op_le op_le pe_int (pe_callB call_len_str (by rfl) T.len (by decide +kernel) (pa_cons (pv 0) pa_nil)) pe_int) (pe_one (pe_cmpR (op_eqD hr.units) (pe_lc (own := [("_law_sign", 1)]) (g := gName 1) rfl sc__law_is_said.nd (pi_str (pv 0)) (blkOk_by (N := ["_law_word", "_law_sign"]) (sc := defScope s__law_is_said) (by decide +kernel)) (fun _ _ _ _ _ => pg_name (i := 1) sc__law_is_said.nd rfl (Or.inl rfl)) (fun _ _ _ _ _ => pts_one (pt_cmpR op_notIn_sign (pv 1) pe_str (by rfl))) (fun _ _ _ _ _ => (pv 1))) (pe_lst pa_nil) (nomark _)))))), ?_⟩
    simp only [tSeq, tIfS, tOr, tAnd, tNot, tB, tTest, tCB, tCons, tNil, tVar, tC, tOp, tUn, tRet, tRetN, tDrop, tAsg, tPar, tPar3, tNext, tNever, tBreak, tCont, tAug, tChain, tAndV, tOrV, tNotV, tIf, tIsN, tNotN, tTup, tLst, tCallD, tMethD, tMakeD, tFld, tCon, sFld, sFldAug, tCallK, tSl, tPart, tNoPart, tBM, tBM0, tDGet, tDIn, tDNotIn, sDPut, tDNewK, tM0, tM1, tOrT, tAndT, tNotT, tAsg2, tAsg3, gName, rI0, rI, rU, tYes, L2.start, NdefX.startF, List.set_cons_zero, List.set_cons_succ, List.map_cons, List.map_nil, List.length_cons, List.length_nil, Nat.sub_zero, Nat.reduceSub, Nat.reduceAdd, List.replicate_succ, List.replicate_zero, List.cons_append, List.nil_append, List.append_nil, List.getElem?_cons_zero, List.getElem?_cons_succ, Option.some.injEq, exists_eq_left', exists_eq_left, exists_eq_right, exists_eq_right', exists_and_left, exists_and_right, exists_eq, exists_eq', true_and, and_true, V.int.injEq, V.str.injEq, V.bl.injEq, V.ref.injEq, V.ty.injEq, HO.ins.injEq, HO.lst.injEq, HO.tup.injEq, and_assoc, List.cons.injEq, Bool.not_true, Bool.not_false, Bool.false_eq_true, if_false, if_true, cx_K, upd_same, upd_upd, isi_str, req_ii, req_ss, rne_ii, rne_ss, radd_ii, rsub_ii, atI_at, atI_0, atI_1, atI_2, atI_3, atI_4, rLenL, rLenU, rIxLL, rIxU, reduceCtorEq, gTup, gCons, gNil, tFmt_eq, fmtV_str, fmtV_int, tJs_nil, tJs_cons, jsV_str, iKeys_eq, gSub, rSetL, tPart, tNoPart, tSl, rSlL, false_and, exists_false, or_false, false_or, List.set_cons_zero, List.set_cons_succ]
    refine ⟨sz_le (by omega), ?_⟩
    have e1 : isWordM z = (decide ((1 : Int) ≤ (z.length : Int)) && (decide ((z.length : Int) ≤ 8) && z.cps.toList.all letterC)) := by
      unfold isWordM
      rw [decide_eq_decide.mpr (show (1 ≤ z.length) ↔ ((1 : Int) ≤ (z.length : Int)) by omega), decide_eq_decide.mpr (show (z.length ≤ 8) ↔ ((z.length : Int) ≤ 8) by omega), Bool.and_assoc]
    rw [e1] at k
    refine ite2 (fun h1 => ite2 (fun h2 => ?_) fun h2 => ?_) fun h1 => ?_
    · rw [h1, h2, Bool.true_and, Bool.true_and] at k
      refine tLcIf_it walk_str (fun R h => ⟨.str z, rfl, z, rfl, h⟩) (fun D i H' => Same H H' ∧ H' D = some (.lst (((z.cps.toList.take i).filter fun c => !letterC c).map fun c => V.str ⟨#[c]⟩)) ∧ H D = none)
        (fun D hD => ⟨same_upd hD, upd_same, hD⟩) (fun _ _ _ _ _ => trivial) (fun D i x H1 H2 hi p y => ?_) fun D H1 hD p => ?_
      · obtain ⟨s1, p1, p2⟩ := p
        obtain ⟨rfl, c, hc, rfl⟩ := y
        have hcl : z.cps.toList[i]? = some c := by rw [Array.getElem?_toList]; exact hc
        simp only [tSeq, tIfS, tOr, tAnd, tNot, tB, tTest, tCB, tCons, tNil, tVar, tC, tOp, tUn, tRet, tRetN, tDrop, tAsg, tPar, tPar3, tNext, tNever, tBreak, tCont, tAug, tChain, tAndV, tOrV, tNotV, tIf, tIsN, tNotN, tTup, tLst, tCallD, tMethD, tMakeD, tFld, tCon, sFld, sFldAug, tCallK, tSl, tPart, tNoPart, tBM, tBM0, tDGet, tDIn, tDNotIn, sDPut, tDNewK, tM0, tM1, tOrT, tAndT, tNotT, tAsg2, tAsg3, gName, rI0, rI, rU, tYes, L2.start, NdefX.startF, List.set_cons_zero, List.set_cons_succ, List.map_cons, List.map_nil, List.length_cons, List.length_nil, Nat.sub_zero, Nat.reduceSub, Nat.reduceAdd, List.replicate_succ, List.replicate_zero, List.cons_append, List.nil_append, List.append_nil, List.getElem?_cons_zero, List.getElem?_cons_succ, Option.some.injEq, exists_eq_left', exists_eq_left, exists_eq_right, exists_eq_right', exists_and_left, exists_and_right, exists_eq, exists_eq', true_and, and_true, V.int.injEq, V.str.injEq, V.bl.injEq, V.ref.injEq, V.ty.injEq, HO.ins.injEq, HO.lst.injEq, HO.tup.injEq, and_assoc, List.cons.injEq, Bool.not_true, Bool.not_false, Bool.false_eq_true, if_false, if_true, cx_K, upd_same, upd_upd, isi_str, req_ii, req_ss, rne_ii, rne_ss, radd_ii, rsub_ii, atI_at, atI_0, atI_1, atI_2, atI_3, atI_4, rLenL, rLenU, rIxLL, rIxU, reduceCtorEq, gTup, gCons, gNil, tFmt_eq, fmtV_str, fmtV_int, tJs_nil, tJs_cons, jsV_str, iKeys_eq, gSub, rSetL, tPart, tNoPart, tSl, rSlL, false_and, exists_false, or_false, false_or, List.set_cons_zero, List.set_cons_succ, wipe]
        have tk : (z.cps.toList.take (i + 1)).filter (fun c => !letterC c) = (z.cps.toList.take i).filter (fun c => !letterC c) ++ (if letterC c then [] else [c]) := by
          rw [List.take_succ, hcl, List.filter_append]
          cases hL : letterC c with
          | true => simp [hL]
          | false => simp [hL]
        refine ⟨c, rfl, ?_⟩
        refine ite2 (fun zc => ?_) fun zc => ?_
        · have hl : letterC c = false := by unfold letterC; simpa using zc
          refine ⟨_, p1, ?_, same_upd2 s1 p2, ?_, p2⟩
          · refine sz_lt ?_
            rw [List.length_map]
            have := List.length_filter_le (fun c => !letterC c) (z.cps.toList.take i)
            rw [List.length_take] at this
            have e : z.cps.toList.length = z.length := Array.length_toList
            omega
          · rw [tk, hl]; simp
        · have hl : letterC c = true := by unfold letterC; simpa using zc
          refine ⟨s1, ?_, p2⟩
          rw [p1, tk, hl]; simp
      · obtain ⟨s1, p1, p2⟩ := p
        refine ⟨Nat.zero_le _, fun p hp => ?_⟩
        have ef : (z.cps.toList.take z.cps.size) = z.cps.toList := List.take_of_length_le (by rw [Array.length_toList]; exact Nat.le_refl _)
        rw [ef] at p1
        have hall : ∀ c ∈ z.cps.toList, c < 0x110000 := fun c hc => by
          unfold PyData.strOk at hok
          rw [← Array.all_toList] at hok
          simpa using List.all_eq_true.mp hok c hc
        have dp : Dp K (upd H1 p (.lst [])) (.ref D) (.list (((z.cps.toList.filter fun c => !letterC c).map fun c => (⟨#[c]⟩ : Str)).map PyData.str)) := dp_strs (SqL.of (by
          rw [upd_ne (ne_of_none p1 hp), p1, List.map_map]; rfl))
        refine eq_nil dp (ok_strs (fun x hx => ?_)) (by decide) upd_same ?_
        · obtain ⟨c, hc, rfl⟩ := List.mem_map.mp hx
          have := hall c (List.mem_filter.mp hc).1
          unfold PyData.strOk
          simpa using this
        · have := k _ (same_new s1 hp (o := .lst []))
          have ee : ((((z.cps.toList.filter fun c => !letterC c).map fun c => (⟨#[c]⟩ : Str)).map PyData.str).isEmpty) = z.cps.toList.all letterC := by
            rw [List.isEmpty_map, List.isEmpty_map]
            rw [Bool.eq_iff_iff, List.isEmpty_iff, List.filter_eq_nil_iff, List.all_eq_true]
            simp
          rw [ee]
          exact this
    · have h2' : decide ((z.length : Int) ≤ 8) = false := by simpa using h2
      rw [h1, h2'] at k
      exact k H (Same.refl H)
    · have h1' : decide ((1 : Int) ≤ (z.length : Int)) = false := by simpa using h1
      rw [h1'] at k
      exact k H (Same.refl H)
abbrev s__law_is_name : Stmt := top 29
theorem sc__law_is_name : FnScope ["_law_word", "_law_some"] ["_law_word"] (defScope s__law_is_name) := ⟨rfl, rfl, rfl, by decide +kernel, rfl, by decide +kernel, by decide +kernel⟩
theorem ok_lname {f : Addr} {fd : FuncData} (F : Fun K "_law_is_name" "_law_is_name" s__law_is_name f fd) (T : Tx K mg aK aF) (D__law_is_said : Df PP w K mg base 1 "_law_is_said" ["_law_word"] spIsSaid) : FnOk PP w K mg base (L2.CX PP w) 2 f fd ["_law_word"] spLIsName := by
  refine F.okX sc__law_is_name (fun vs H Q E h => ?_) (fun cdv A outer s H vs Q E hr h => ?_)
  · obtain ⟨z, rfl, _⟩ := h; rfl
  · obtain ⟨z, rfl, hz, hok, k⟩ := h
    refine ⟨_, (pss_cons (ps_set (i := 1) sc__law_is_name.nd rfl (Or.inl rfl) pe_str)
      (pss_hid (pss_one (ps_ret (pe_and (pe_df D__law_is_said (hr.mono (by decide)) passL (pa_cons (pv 0) pa_nil)) (pe_one (pe_cmpR op_notIn_seq (pv 0) (pe_split (pv 1) pe_str) (by rfl)))))))), ?_⟩
    simp only [tSeq, tIfS, tOr, tAnd, tNot, tB, tTest, tCB, tCons, tNil, tVar, tC, tOp, tUn, tRet, tRetN, tDrop, tAsg, tPar, tPar3, tNext, tNever, tBreak, tCont, tAug, tChain, tAndV, tOrV, tNotV, tIf, tIsN, tNotN, tTup, tLst, tCallD, tMethD, tMakeD, tFld, tCon, sFld, sFldAug, tCallK, tSl, tPart, tNoPart, tBM, tBM0, tDGet, tDIn, tDNotIn, sDPut, tDNewK, tM0, tM1, tOrT, tAndT, tNotT, tAsg2, tAsg3, gName, rI0, rI, rU, tYes, L2.start, NdefX.startF, List.set_cons_zero, List.set_cons_succ, List.map_cons, List.map_nil, List.length_cons, List.length_nil, Nat.sub_zero, Nat.reduceSub, Nat.reduceAdd, List.replicate_succ, List.replicate_zero, List.cons_append, List.nil_append, List.append_nil, List.getElem?_cons_zero, List.getElem?_cons_succ, Option.some.injEq, exists_eq_left', exists_eq_left, exists_eq_right, exists_eq_right', exists_and_left, exists_and_right, exists_eq, exists_eq', true_and, and_true, V.int.injEq, V.str.injEq, V.bl.injEq, V.ref.injEq, V.ty.injEq, HO.ins.injEq, HO.lst.injEq, HO.tup.injEq, and_assoc, List.cons.injEq, Bool.not_true, Bool.not_false, Bool.false_eq_true, if_false, if_true, cx_K, upd_same, upd_upd, isi_str, req_ii, req_ss, rne_ii, rne_ss, radd_ii, rsub_ii, atI_at, atI_0, atI_1, atI_2, atI_3, atI_4, rLenL, rLenU, rIxLL, rIxU, reduceCtorEq, gTup, gCons, gNil, tFmt_eq, fmtV_str, fmtV_int, tJs_nil, tJs_cons, jsV_str, iKeys_eq, gSub, rSetL, tPart, tNoPart, tSl, rSlL, false_and, exists_false, or_false, false_or, List.set_cons_zero, List.set_cons_succ]
    refine hid_in ?_
    simp only [tSeq, tIfS, tOr, tAnd, tNot, tB, tTest, tCB, tCons, tNil, tVar, tC, tOp, tUn, tRet, tRetN, tDrop, tAsg, tPar, tPar3, tNext, tNever, tBreak, tCont, tAug, tChain, tAndV, tOrV, tNotV, tIf, tIsN, tNotN, tTup, tLst, tCallD, tMethD, tMakeD, tFld, tCon, sFld, sFldAug, tCallK, tSl, tPart, tNoPart, tBM, tBM0, tDGet, tDIn, tDNotIn, sDPut, tDNewK, tM0, tM1, tOrT, tAndT, tNotT, tAsg2, tAsg3, gName, rI0, rI, rU, tYes, L2.start, NdefX.startF, List.set_cons_zero, List.set_cons_succ, List.map_cons, List.map_nil, List.length_cons, List.length_nil, Nat.sub_zero, Nat.reduceSub, Nat.reduceAdd, List.replicate_succ, List.replicate_zero, List.cons_append, List.nil_append, List.append_nil, List.getElem?_cons_zero, List.getElem?_cons_succ, Option.some.injEq, exists_eq_left', exists_eq_left, exists_eq_right, exists_eq_right', exists_and_left, exists_and_right, exists_eq, exists_eq', true_and, and_true, V.int.injEq, V.str.injEq, V.bl.injEq, V.ref.injEq, V.ty.injEq, HO.ins.injEq, HO.lst.injEq, HO.tup.injEq, and_assoc, List.cons.injEq, Bool.not_true, Bool.not_false, Bool.false_eq_true, if_false, if_true, cx_K, upd_same, upd_upd, isi_str, req_ii, req_ss, rne_ii, rne_ss, radd_ii, rsub_ii, atI_at, atI_0, atI_1, atI_2, atI_3, atI_4, rLenL, rLenU, rIxLL, rIxU, reduceCtorEq, gTup, gCons, gNil, tFmt_eq, fmtV_str, fmtV_int, tJs_nil, tJs_cons, jsV_str, iKeys_eq, gSub, rSetL, tPart, tNoPart, tSl, rSlL, false_and, exists_false, or_false, false_or, List.set_cons_zero, List.set_cons_succ]
    refine ⟨z, rfl, hz, hok, fun H1 s1 => ?_⟩
    simp only [tSeq, tIfS, tOr, tAnd, tNot, tB, tTest, tCB, tCons, tNil, tVar, tC, tOp, tUn, tRet, tRetN, tDrop, tAsg, tPar, tPar3, tNext, tNever, tBreak, tCont, tAug, tChain, tAndV, tOrV, tNotV, tIf, tIsN, tNotN, tTup, tLst, tCallD, tMethD, tMakeD, tFld, tCon, sFld, sFldAug, tCallK, tSl, tPart, tNoPart, tBM, tBM0, tDGet, tDIn, tDNotIn, sDPut, tDNewK, tM0, tM1, tOrT, tAndT, tNotT, tAsg2, tAsg3, gName, rI0, rI, rU, tYes, L2.start, NdefX.startF, List.set_cons_zero, List.set_cons_succ, List.map_cons, List.map_nil, List.length_cons, List.length_nil, Nat.sub_zero, Nat.reduceSub, Nat.reduceAdd, List.replicate_succ, List.replicate_zero, List.cons_append, List.nil_append, List.append_nil, List.getElem?_cons_zero, List.getElem?_cons_succ, Option.some.injEq, exists_eq_left', exists_eq_left, exists_eq_right, exists_eq_right', exists_and_left, exists_and_right, exists_eq, exists_eq', true_and, and_true, V.int.injEq, V.str.injEq, V.bl.injEq, V.ref.injEq, V.ty.injEq, HO.ins.injEq, HO.lst.injEq, HO.tup.injEq, and_assoc, List.cons.injEq, Bool.not_true, Bool.not_false, Bool.false_eq_true, if_false, if_true, cx_K, upd_same, upd_upd, isi_str, req_ii, req_ss, rne_ii, rne_ss, radd_ii, rsub_ii, atI_at, atI_0, atI_1, atI_2, atI_3, atI_4, rLenL, rLenU, rIxLL, rIxU, reduceCtorEq, gTup, gCons, gNil, tFmt_eq, fmtV_str, fmtV_int, tJs_nil, tJs_cons, jsV_str, iKeys_eq, gSub, rSetL, tPart, tNoPart, tSl, rSlL, false_and, exists_false, or_false, false_or, List.set_cons_zero, List.set_cons_succ]
    have e1 : isNameM z = (isWordM z && !decide (z ∈ keptL)) := rfl
    rw [e1] at k
    refine ite2 (fun h1 => ?_) fun h1 => ?_
    · rw [h1, Bool.true_and] at k
      refine ⟨by decide +kernel, sz_le (by decide +kernel), ?_⟩
      rw [show Txt.split "put copy if else say fail catch choose or none stop skip cell log failure choice" " " = keptL by decide +kernel]
      refine fun p hp => ?_
      refine rIn_strs (.inl (SqL.of upd_same)) ?_
      exact k _ (same_new s1 hp)
    · have h1' : isWordM z = false := by simpa using h1
      rw [h1', Bool.false_and] at k
      exact k _ s1
/-- a list of words as the law keeps it -/
structure Wds (H : Hp) (a : Addr) (ws : List Str) : Prop where
  at_ : H a = some (.lst (ws.map V.str))
  ok : ∀ x ∈ ws, x.length ≤ 90000 ∧ PyData.strOk x = true
theorem Wds.wAt {H : Hp} {a : Addr} {ws : List Str} (W : Wds H a ws) (i : Nat) : (wAt ws i).length ≤ 100000 ∧ PyData.strOk (wAt ws i) = true := by
  unfold Ky.wAt
  cases e : ws[i]? with
  | none => exact ⟨by decide +kernel, by decide +kernel⟩
  | some x => have := W.ok x (List.mem_of_getElem? e); exact ⟨by show x.length ≤ 100000; omega, this.2⟩
theorem orV {ta tb : TE} {σ : L2.St} {H : Hp} {Q : VK} {a b : Bool} (ha : ∀ Q : VK, (∀ H', Same H H' → Q (.bl a) H') → ta σ H Q) (hb : a = false → ∀ H1, Same H H1 → ∀ Q : VK, (∀ H', Same H1 H' → Q (.bl b) H') → tb σ H1 Q) (k : ∀ H', Same H H' → Q (.bl (a || b)) H') : tOrV ta tb σ H Q := by
  refine ha _ fun H1 s1 => ⟨a, rfl, ?_⟩
  cases a with
  | true => exact k H1 s1
  | false => exact hb rfl H1 s1 _ fun H2 s2 => k H2 (s1.trans s2)
theorem andT {t u : TT} {σ : L2.St} {H : Hp} {Q : Bool → Hp → Prop} {a b : Bool} (ha : ∀ Q : Bool → Hp → Prop, Q a H → t σ H Q) (hb : a = true → ∀ Q : Bool → Hp → Prop, (∀ H', Same H H' → Q b H') → u σ H Q) (k : ∀ H', Same H H' → Q (a && b) H') : tAnd t u σ H Q := by
  refine ha _ ?_
  cases a with
  | true => exact hb rfl _ k
  | false => exact k H (Same.refl H)
theorem orT {t u : TT} {σ : L2.St} {H : Hp} {Q : Bool → Hp → Prop} {a b : Bool} (ha : ∀ Q : Bool → Hp → Prop, Q a H → t σ H Q) (hb : a = false → ∀ Q : Bool → Hp → Prop, (∀ H', Same H H' → Q b H') → u σ H Q) (k : ∀ H', Same H H' → Q (a || b) H') : tOr t u σ H Q := by
  refine ha _ ?_
  cases a with
  | true => exact k H (Same.refl H)
  | false => exact hb rfl _ k
theorem word_ok {x : Str} (h : isWordM x = true) : PyData.strOk x = true := by
  unfold isWordM at h
  simp only [Bool.and_eq_true] at h
  unfold PyData.strOk
  rw [← Array.all_toList]
  refine List.all_eq_true.mpr fun c hc => decide_eq_true ?_
  have := List.all_eq_true.mp h.2 c hc
  have hb : ("abcdefghijklmnopqrstuvwxyz" : Str).cps.toList.all (fun c => decide (c < 1114112)) = true := by decide +kernel
  exact of_decide_eq_true (List.all_eq_true.mp hb c (of_decide_eq_true this))
theorem nil_at {K : PySem.W.Frag} {H : Hp} {c : Addr} {ns : List Str} (h : H c = some (.lst (ns.map V.str))) (ok : ∀ x ∈ ns, PyData.strOk x = true) {Q : VK} (q : ∀ H', Same H H' → Q (.bl ns.isEmpty) H') : ∀ p, H p = none → rEqD K (.ref c) (.ref p) (upd H p (.lst [])) Q := fun p hp => by
  refine eq_nil (dp_strs (SqL.of (same_upd hp _ _ h))) (ok_strs ok) (by decide) upd_same ?_
  rw [List.isEmpty_map]
  exact q _ (same_upd hp)
theorem last_get {ns : List Str} (h : ns.isEmpty = false) : atI (ns.map V.str) (-1) = some (.str (lastS ns)) := by
  unfold atI ixN
  cases ns with
  | nil => cases h
  | cons a r =>
    rw [if_neg (by omega)]
    simp only [List.length_map, List.length_cons]
    rw [if_pos (by omega), Option.bind_some, show ((-1 : Int) + ((r.length + 1 : Nat) : Int)).toNat = r.length by omega]
    unfold lastS
    rw [List.getLast?_eq_getElem?, List.length_cons, Nat.add_sub_cancel, List.getElem?_map, List.getElem?_eq_getElem (by simp)]
    rfl
def pairV (x : Int) (b : Bool) : HO := .tup [.int x, .bl b]
def spAfterThing : Sp := fun vs H Q _ => ∃ (a c l : Addr) (ws : List Str) (i : Nat) (cs : CsL) (ls : LsL), vs = [.ref a, .int i, .ref c, .ref l] ∧ Wds H a ws ∧ H c = some (.lst ((cs.map (·.1)).map V.str)) ∧ H l = some (.lst ((ls.map (·.1)).map V.str)) ∧ c ≠ l ∧ c ≠ a ∧ l ≠ a ∧
  ws.length ≤ 100000 ∧ TabOk i cs ls ∧ i ≤ 100000 ∧
  (∀ k, thingM ws i cs ls = .inl k → ∀ t H', Same H H' → H' t = some (pairV k false) → Q (.ref t) H') ∧
  ∀ j cs' ls', thingM ws i cs ls = .inr (j, cs', ls') → ∀ t H', Keep [c, l] H H' → H' c = some (.lst ((cs'.map (·.1)).map V.str)) → H' l = some (.lst ((ls'.map (·.1)).map V.str)) → H' t = some (pairV j true) → Q (.ref t) H'
def lcell (cs : CsL) (ls : LsL) (x : Str) : Bool := decide (ls = []) && (isNameM x && (decide (cs = []) || ltS (lastS (cs.map (·.1))) x))
theorem lcell_eq (cs : CsL) (ls : LsL) (x : Str) : (ls.isEmpty && (isNameM x && (cs.isEmpty || ltS (lastS (cs.map (·.1))) x))) = (isCM cs ls x && isNameM x) := by
  unfold isCM
  have e : decide (ls.length = 0) = ls.isEmpty := by cases ls <;> rfl
  rw [e]
  cases hN : isNameM x with
  | false => cases ls.isEmpty <;> simp
  | true =>
    have h1 := (word_len (name_word hN)).1
    cases cs with
    | nil =>
      have : ltS (lastS []) x = true := by
        unfold ltS lastS
        refine decide_eq_true ?_
        show ("" : Str).cps.toList < x.cps.toList
        cases hx : x.cps.toList with
        | nil => rw [show x.length = x.cps.toList.length from Array.length_toList.symm, hx] at h1; cases h1
        | cons a r => exact List.nil_lt_cons a r
      simp [this]
    | cons c r => simp
theorem llog_eq (cs : CsL) (ls : LsL) (x : Str) : (isNameM x && (!decide (x ∈ cs.map (·.1)) && (ls.isEmpty || ltS (lastS (ls.map (·.1))) x))) = (isLM cs ls x && isNameM x) := by
  unfold isLM
  cases hN : isNameM x with
  | false => simp
  | true =>
    have h1 := (word_len (name_word hN)).1
    cases ls with
    | nil =>
      have : ltS (lastS []) x = true := by
        unfold ltS lastS
        refine decide_eq_true ?_
        show ("" : Str).cps.toList < x.cps.toList
        cases hx : x.cps.toList with
        | nil => rw [show x.length = x.cps.toList.length from Array.length_toList.symm, hx] at h1; cases h1
        | cons a r => exact List.nil_lt_cons a r
      simp [this]
    | cons c r => simp [Bool.and_comm]
abbrev s__law_after_thing : Stmt := top 30
theorem sc__law_after_thing : FnScope ["_law_words", "_law_spot", "_law_cells_so", "_law_logs_so", "_law_title", "_law_is_cell", "_law_is_log", "_law_after", "_law_behind"] ["_law_words", "_law_spot", "_law_cells_so", "_law_logs_so"] (defScope s__law_after_thing) := ⟨rfl, rfl, rfl, by decide +kernel, rfl, by decide +kernel, by decide +kernel⟩
theorem ok_lthing {f : Addr} {fd : FuncData} (F : Fun K "_law_after_thing" "_law_after_thing" s__law_after_thing f fd) (T : Tx K mg aK aF) (D__law_is_said : Df PP w K mg base 1 "_law_is_said" ["_law_word"] spIsSaid) (D__law_is_name : Df PP w K mg base 2 "_law_is_name" ["_law_word"] spLIsName) :
    FnOk PP w K mg base (L2.CX PP w) 3 f fd ["_law_words", "_law_spot", "_law_cells_so", "_law_logs_so"] spAfterThing := by
  refine F.okX sc__law_after_thing (fun vs H Q E h => ?_) (fun cdv A outer s H vs Q E hr h => ?_)
  · obtain ⟨a, c, l, ws, i, cs, ls, rfl, _⟩ := h; rfl
  · obtain ⟨a, c, l, ws, i, cs, ls, rfl, W, hc, hl, ncl, nca, nla, hn, ok, hi, er, k⟩ := h
    have ha := W.at_
    refine ⟨_, (pss_cons (ps_set (i := 4) sc__law_after_thing.nd rfl (Or.inl rfl) (pe_ifExp (pt_cmpR op_lt (pv 1) (pe_callB call_lenL (by rfl) T.len (by decide +kernel) (pa_cons (pv 0) pa_nil)) (nomark _)) (pe_ix ix_LL (pv 0) (pv 1) (fun _ _ => rfl)) pe_str))
      (pss_hid (pss_cons (ps_set (i := 5) sc__law_after_thing.nd rfl (Or.inl rfl) (pe_and (pe_cmpR (op_eqD hr.units) (pv 3) (pe_lst pa_nil) (nomark _)) (pe_and (pe_df D__law_is_name (hr.mono (by decide)) passL (pa_cons (pv 4) pa_nil)) (pe_one (pe_or (pe_cmpR (op_eqD hr.units) (pv 2) (pe_lst pa_nil) (nomark _)) (pe_one (pe_cmpR op_gt_str (pv 4) (pe_ix ix_LL (pv 2) (pe_un un_neg pe_int) (fun _ _ => rfl)) (nomark _))))))))
      (pss_hid (pss_cons (ps_set (i := 6) sc__law_after_thing.nd rfl (Or.inl rfl) (pe_and (pe_df D__law_is_name (hr.mono (by decide)) passL (pa_cons (pv 4) pa_nil)) (pe_and (pe_cmpR op_notIn_seq (pv 4) (pv 2) (by rfl)) (pe_one (pe_or (pe_cmpR (op_eqD hr.units) (pv 3) (pe_lst pa_nil) (nomark _)) (pe_one (pe_cmpR op_gt_str (pv 4) (pe_ix ix_LL (pv 3) (pe_un un_neg pe_int) (fun _ _ => rfl)) (nomark _))))))))
      (pss_hid (pss_cons (ps_if (PW.pt (pw_and (pt_not (pt_val (pv 5))) (pw_and1 (pt_not (pt_val (pv 6)))))) (pss_one (ps_ret (pe_tup (pa_cons (pv 1) (pa_cons pe_bl pa_nil))))) pss_nil)
      (pss_hid (pss_cons (ps_set (i := 7) sc__law_after_thing.nd rfl (Or.inl rfl) (pe_ifExp (pt_cmpR op_lt (pe_op op_add (pv 1) pe_int) (pe_callB call_lenL (by rfl) T.len (by decide +kernel) (pa_cons (pv 0) pa_nil)) (nomark _)) (pe_ix ix_LL (pv 0) (pe_op op_add (pv 1) pe_int) (fun _ _ => rfl)) pe_str))
      (pss_hid (pss_cons (ps_if (PW.pt (pw_and (pt_val (pv 5)) (pw_and1 (pt_cmpR op_in_seq (pv 7) (pe_tup (pa_cons pe_str (pa_cons pe_str (pa_cons pe_str (pa_cons pe_str pa_nil))))) (by rfl))))) (pss_cons (ps_expr (pe_bm PySem.F.plainAttrs_list PySem.F.slot_list_append PySem.F.type_list_append mt_append (pv 2) (pa_cons (pv 4) pa_nil)))
      (pss_hid (pss_one (ps_ret (pe_tup (pa_cons (pe_op op_add (pv 1) pe_int) (pa_cons pe_bl pa_nil))))))) pss_nil)
      (pss_hid (pss_cons (ps_if (PW.pt (pw_or (pt_not (pt_val (pv 6))) (pw_or1 (PW.pt (pw_and (pt_cmpR op_ne (pv 7) pe_str (nomark _)) (pw_and1 (pt_not (pt_val (pe_df D__law_is_said (hr.mono (by decide)) passL (pa_cons (pv 7) pa_nil)))))))))) (pss_one (ps_ret (pe_tup (pa_cons (pe_op op_add (pv 1) pe_int) (pa_cons pe_bl pa_nil))))) pss_nil)
      (pss_hid (pss_cons (ps_expr (pe_bm PySem.F.plainAttrs_list PySem.F.slot_list_append PySem.F.type_list_append mt_append (pv 3) (pa_cons (pv 4) pa_nil)))
      (pss_hid (pss_cons (ps_set (i := 8) sc__law_after_thing.nd rfl (Or.inl rfl) (pe_op op_add (pv 1) pe_int))
      (pss_hid (pss_cons (ps_while (passes_of rfl) (PW.pt (pw_and (pt_cmpR op_ne (pv 7) pe_str (nomark _)) (pw_and (pt_cmpR op_lt (pv 8) (pe_callB call_lenL (by rfl) T.len (by decide +kernel) (pa_cons (pv 0) pa_nil)) (nomark _)) (pw_and1 (pt_val (pe_df D__law_is_said (hr.mono (by decide)) passL (pa_cons (pe_ix ix_LL (pv 0) (pv 8) (fun _ _ => rfl)) pa_nil))))))) (pss_one (ps_set (i := 8) sc__law_after_thing.nd rfl (Or.inl rfl) (pe_op op_add (pv 8) pe_int))))
      (pss_hid (pss_one (ps_ret (pe_tup (pa_cons (pv 8) (pa_cons pe_bl pa_nil))))))))))))))))))))))))), ?_⟩
    simp only [tSeq, tIfS, tOr, tNot, tB, tTest, tCB, tCons, tNil, tVar, tC, tOp, tUn, tRet, tRetN, tDrop, tAsg, tPar, tPar3, tNext, tNever, tBreak, tCont, tAug, tChain, tAndV, tOrV, tNotV, tIf, tIsN, tNotN, tTup, tLst, tCallD, tMethD, tMakeD, tFld, tCon, sFld, sFldAug, tCallK, tSl, tPart, tNoPart, tBM, tBM0, tDGet, tDIn, tDNotIn, sDPut, tDNewK, tM0, tM1, tOrT, tAndT, tNotT, tAsg2, tAsg3, gName, rI0, rI, rU, tYes, L2.start, NdefX.startF, List.set_cons_zero, List.set_cons_succ, List.map_cons, List.map_nil, List.length_cons, List.length_nil, Nat.sub_zero, Nat.reduceSub, Nat.reduceAdd, List.replicate_succ, List.replicate_zero, List.cons_append, List.nil_append, List.append_nil, List.getElem?_cons_zero, List.getElem?_cons_succ, Option.some.injEq, exists_eq_left', exists_eq_left, exists_eq_right, exists_eq_right', exists_and_left, exists_and_right, exists_eq, exists_eq', true_and, and_true, V.int.injEq, V.str.injEq, V.bl.injEq, V.ref.injEq, V.ty.injEq, HO.ins.injEq, HO.lst.injEq, HO.tup.injEq, and_assoc, List.cons.injEq, Bool.not_true, Bool.not_false, Bool.false_eq_true, if_false, if_true, cx_K, upd_same, upd_upd, isi_str, req_ii, req_ss, rne_ii, rne_ss, radd_ii, rsub_ii, atI_at, atI_0, atI_1, atI_2, atI_3, atI_4, rLenL, rLenU, rIxLL, rIxU, reduceCtorEq, gTup, gCons, gNil, tFmt_eq, fmtV_str, fmtV_int, tJs_nil, tJs_cons, jsV_str, iKeys_eq, gSub, rSetL, tPart, tNoPart, tSl, rSlL, false_and, exists_false, or_false, false_or, List.set_cons_zero, List.set_cons_succ, ha, List.length_map]
    refine name_at ?_
    refine hid_in ?_
    simp only [tSeq, tIfS, tOr, tAnd, tNot, tB, tTest, tCB, tCons, tNil, tVar, tC, tOp, tUn, tRet, tRetN, tDrop, tAsg, tPar, tPar3, tNext, tNever, tBreak, tCont, tAug, tChain, tNotV, tIf, tIsN, tNotN, tTup, tLst, tCallD, tMethD, tMakeD, tFld, tCon, sFld, sFldAug, tCallK, tSl, tPart, tNoPart, tBM, tBM0, tDGet, tDIn, tDNotIn, sDPut, tDNewK, tM0, tM1, tOrT, tAndT, tNotT, tAsg2, tAsg3, gName, rI0, rI, rU, tYes, L2.start, NdefX.startF, List.set_cons_zero, List.set_cons_succ, List.map_cons, List.map_nil, List.length_cons, List.length_nil, Nat.sub_zero, Nat.reduceSub, Nat.reduceAdd, List.replicate_succ, List.replicate_zero, List.cons_append, List.nil_append, List.append_nil, List.getElem?_cons_zero, List.getElem?_cons_succ, Option.some.injEq, exists_eq_left', exists_eq_left, exists_eq_right, exists_eq_right', exists_and_left, exists_and_right, exists_eq, exists_eq', true_and, and_true, V.int.injEq, V.str.injEq, V.bl.injEq, V.ref.injEq, V.ty.injEq, HO.ins.injEq, HO.lst.injEq, HO.tup.injEq, and_assoc, List.cons.injEq, Bool.not_true, Bool.not_false, Bool.false_eq_true, if_false, if_true, cx_K, upd_same, upd_upd, isi_str, req_ii, req_ss, rne_ii, rne_ss, radd_ii, rsub_ii, atI_at, atI_0, atI_1, atI_2, atI_3, atI_4, rLenL, rLenU, rIxLL, rIxU, reduceCtorEq, gTup, gCons, gNil, tFmt_eq, fmtV_str, fmtV_int, tJs_nil, tJs_cons, jsV_str, iKeys_eq, gSub, rSetL, tPart, tNoPart, tSl, rSlL, false_and, exists_false, or_false, false_or, List.set_cons_zero, List.set_cons_succ]
    have okc : ∀ x ∈ cs.map (·.1), PyData.strOk x = true := fun x hx => by
      obtain ⟨y, hy, rfl⟩ := List.mem_map.mp hx
      exact word_ok (name_word (ok.nc y hy).1)
    have okl : ∀ x ∈ ls.map (·.1), PyData.strOk x = true := fun x hx => by
      obtain ⟨y, hy, rfl⟩ := List.mem_map.mp hx
      exact word_ok (name_word (ok.nl y hy).1)
    have hw := W.wAt i
    have hnm : ∀ {H1 : Hp} {Q : VK}, Same H H1 → (∀ H', Same H1 H' → Q (.bl (isNameM (wAt ws i))) H') → spLIsName [.str (wAt ws i)] H1 Q E0 := fun {H1 Q} s q => ⟨_, rfl, hw.1, hw.2, q⟩
    refine andV (a := ls.isEmpty) (b := isNameM (wAt ws i) && (cs.isEmpty || ltS (lastS (cs.map (·.1))) (wAt ws i))) (fun Q q => ?_) (fun H1 s1 Q q => ?_) fun H1 s1 => ?_
    · simp only [tSeq, tIfS, tOr, tAnd, tNot, tB, tTest, tCB, tCons, tNil, tVar, tC, tOp, tUn, tRet, tRetN, tDrop, tAsg, tPar, tPar3, tNext, tNever, tBreak, tCont, tAug, tChain, tAndV, tOrV, tNotV, tIf, tIsN, tNotN, tTup, tLst, tCallD, tMethD, tMakeD, tFld, tCon, sFld, sFldAug, tCallK, tSl, tPart, tNoPart, tBM, tBM0, tDGet, tDIn, tDNotIn, sDPut, tDNewK, tM0, tM1, tOrT, tAndT, tNotT, tAsg2, tAsg3, gName, rI0, rI, rU, tYes, L2.start, NdefX.startF, List.set_cons_zero, List.set_cons_succ, List.map_cons, List.map_nil, List.length_cons, List.length_nil, Nat.sub_zero, Nat.reduceSub, Nat.reduceAdd, List.replicate_succ, List.replicate_zero, List.cons_append, List.nil_append, List.append_nil, List.getElem?_cons_zero, List.getElem?_cons_succ, Option.some.injEq, exists_eq_left', exists_eq_left, exists_eq_right, exists_eq_right', exists_and_left, exists_and_right, exists_eq, exists_eq', true_and, and_true, V.int.injEq, V.str.injEq, V.bl.injEq, V.ref.injEq, V.ty.injEq, HO.ins.injEq, HO.lst.injEq, HO.tup.injEq, and_assoc, List.cons.injEq, Bool.not_true, Bool.not_false, Bool.false_eq_true, if_false, if_true, cx_K, upd_same, upd_upd, isi_str, req_ii, req_ss, rne_ii, rne_ss, radd_ii, rsub_ii, atI_at, atI_0, atI_1, atI_2, atI_3, atI_4, rLenL, rLenU, rIxLL, rIxU, reduceCtorEq, gTup, gCons, gNil, tFmt_eq, fmtV_str, fmtV_int, tJs_nil, tJs_cons, jsV_str, iKeys_eq, gSub, rSetL, tPart, tNoPart, tSl, rSlL, false_and, exists_false, or_false, false_or, List.set_cons_zero, List.set_cons_succ]
      exact ⟨Nat.zero_le _, nil_at hl okl fun H' s => by rw [List.isEmpty_map]; exact q H' s⟩
    · refine andV (a := isNameM (wAt ws i)) (b := cs.isEmpty || ltS (lastS (cs.map (·.1))) (wAt ws i)) (fun Q q => ?_) (fun H2 s2 Q q => ?_) q
      · simp only [tSeq, tIfS, tOr, tAnd, tNot, tB, tTest, tCB, tCons, tNil, tVar, tC, tOp, tUn, tRet, tRetN, tDrop, tAsg, tPar, tPar3, tNext, tNever, tBreak, tCont, tAug, tChain, tAndV, tOrV, tNotV, tIf, tIsN, tNotN, tTup, tLst, tCallD, tMethD, tMakeD, tFld, tCon, sFld, sFldAug, tCallK, tSl, tPart, tNoPart, tBM, tBM0, tDGet, tDIn, tDNotIn, sDPut, tDNewK, tM0, tM1, tOrT, tAndT, tNotT, tAsg2, tAsg3, gName, rI0, rI, rU, tYes, L2.start, NdefX.startF, List.set_cons_zero, List.set_cons_succ, List.map_cons, List.map_nil, List.length_cons, List.length_nil, Nat.sub_zero, Nat.reduceSub, Nat.reduceAdd, List.replicate_succ, List.replicate_zero, List.cons_append, List.nil_append, List.append_nil, List.getElem?_cons_zero, List.getElem?_cons_succ, Option.some.injEq, exists_eq_left', exists_eq_left, exists_eq_right, exists_eq_right', exists_and_left, exists_and_right, exists_eq, exists_eq', true_and, and_true, V.int.injEq, V.str.injEq, V.bl.injEq, V.ref.injEq, V.ty.injEq, HO.ins.injEq, HO.lst.injEq, HO.tup.injEq, and_assoc, List.cons.injEq, Bool.not_true, Bool.not_false, Bool.false_eq_true, if_false, if_true, cx_K, upd_same, upd_upd, isi_str, req_ii, req_ss, rne_ii, rne_ss, radd_ii, rsub_ii, atI_at, atI_0, atI_1, atI_2, atI_3, atI_4, rLenL, rLenU, rIxLL, rIxU, reduceCtorEq, gTup, gCons, gNil, tFmt_eq, fmtV_str, fmtV_int, tJs_nil, tJs_cons, jsV_str, iKeys_eq, gSub, rSetL, tPart, tNoPart, tSl, rSlL, false_and, exists_false, or_false, false_or, List.set_cons_zero, List.set_cons_succ]
        exact hnm s1 q
      · refine orV (a := cs.isEmpty) (b := ltS (lastS (cs.map (·.1))) (wAt ws i)) (fun Q q => ?_) (fun hne H3 s3 Q q => ?_) q
        · simp only [tSeq, tIfS, tOr, tAnd, tNot, tB, tTest, tCB, tCons, tNil, tVar, tC, tOp, tUn, tRet, tRetN, tDrop, tAsg, tPar, tPar3, tNext, tNever, tBreak, tCont, tAug, tChain, tAndV, tOrV, tNotV, tIf, tIsN, tNotN, tTup, tLst, tCallD, tMethD, tMakeD, tFld, tCon, sFld, sFldAug, tCallK, tSl, tPart, tNoPart, tBM, tBM0, tDGet, tDIn, tDNotIn, sDPut, tDNewK, tM0, tM1, tOrT, tAndT, tNotT, tAsg2, tAsg3, gName, rI0, rI, rU, tYes, L2.start, NdefX.startF, List.set_cons_zero, List.set_cons_succ, List.map_cons, List.map_nil, List.length_cons, List.length_nil, Nat.sub_zero, Nat.reduceSub, Nat.reduceAdd, List.replicate_succ, List.replicate_zero, List.cons_append, List.nil_append, List.append_nil, List.getElem?_cons_zero, List.getElem?_cons_succ, Option.some.injEq, exists_eq_left', exists_eq_left, exists_eq_right, exists_eq_right', exists_and_left, exists_and_right, exists_eq, exists_eq', true_and, and_true, V.int.injEq, V.str.injEq, V.bl.injEq, V.ref.injEq, V.ty.injEq, HO.ins.injEq, HO.lst.injEq, HO.tup.injEq, and_assoc, List.cons.injEq, Bool.not_true, Bool.not_false, Bool.false_eq_true, if_false, if_true, cx_K, upd_same, upd_upd, isi_str, req_ii, req_ss, rne_ii, rne_ss, radd_ii, rsub_ii, atI_at, atI_0, atI_1, atI_2, atI_3, atI_4, rLenL, rLenU, rIxLL, rIxU, reduceCtorEq, gTup, gCons, gNil, tFmt_eq, fmtV_str, fmtV_int, tJs_nil, tJs_cons, jsV_str, iKeys_eq, gSub, rSetL, tPart, tNoPart, tSl, rSlL, false_and, exists_false, or_false, false_or, List.set_cons_zero, List.set_cons_succ]
          exact ⟨Nat.zero_le _, nil_at ((s1.trans s2) _ _ hc) okc fun H' s => by rw [List.isEmpty_map]; exact q H' s⟩
        · have h3 := s3 _ _ ((s1.trans s2) _ _ hc)
          simp only [tSeq, tIfS, tOr, tAnd, tNot, tB, tTest, tCB, tCons, tNil, tVar, tC, tOp, tUn, tRet, tRetN, tDrop, tAsg, tPar, tPar3, tNext, tNever, tBreak, tCont, tAug, tChain, tAndV, tOrV, tNotV, tIf, tIsN, tNotN, tTup, tLst, tCallD, tMethD, tMakeD, tFld, tCon, sFld, sFldAug, tCallK, tSl, tPart, tNoPart, tBM, tBM0, tDGet, tDIn, tDNotIn, sDPut, tDNewK, tM0, tM1, tOrT, tAndT, tNotT, tAsg2, tAsg3, gName, rI0, rI, rU, tYes, L2.start, NdefX.startF, List.set_cons_zero, List.set_cons_succ, List.map_cons, List.map_nil, List.length_cons, List.length_nil, Nat.sub_zero, Nat.reduceSub, Nat.reduceAdd, List.replicate_succ, List.replicate_zero, List.cons_append, List.nil_append, List.append_nil, List.getElem?_cons_zero, List.getElem?_cons_succ, Option.some.injEq, exists_eq_left', exists_eq_left, exists_eq_right, exists_eq_right', exists_and_left, exists_and_right, exists_eq, exists_eq', true_and, and_true, V.int.injEq, V.str.injEq, V.bl.injEq, V.ref.injEq, V.ty.injEq, HO.ins.injEq, HO.lst.injEq, HO.tup.injEq, and_assoc, List.cons.injEq, Bool.not_true, Bool.not_false, Bool.false_eq_true, if_false, if_true, cx_K, upd_same, upd_upd, isi_str, req_ii, req_ss, rne_ii, rne_ss, radd_ii, rsub_ii, atI_at, atI_0, atI_1, atI_2, atI_3, atI_4, rLenL, rLenU, rIxLL, rIxU, reduceCtorEq, gTup, gCons, gNil, tFmt_eq, fmtV_str, fmtV_int, tJs_nil, tJs_cons, jsV_str, iKeys_eq, gSub, rSetL, tPart, tNoPart, tSl, rSlL, false_and, exists_false, or_false, false_or, List.set_cons_zero, List.set_cons_succ, h3]
          exact ⟨.str (lastS (List.map (fun x : Str × Int => x.1) cs)), last_get (by rw [List.isEmpty_map]; exact hne), lastS (List.map (fun x : Str × Int => x.1) cs), rfl, q _ (Same.refl _)⟩
    rw [lcell_eq]
    refine hid_in ?_
    simp only [tSeq, tIfS, tOr, tAnd, tNot, tB, tTest, tCB, tCons, tNil, tVar, tC, tOp, tUn, tRet, tRetN, tDrop, tAsg, tPar, tPar3, tNext, tNever, tBreak, tCont, tAug, tChain, tNotV, tIf, tIsN, tNotN, tTup, tLst, tCallD, tMethD, tMakeD, tFld, tCon, sFld, sFldAug, tCallK, tSl, tPart, tNoPart, tBM, tBM0, tDGet, tDIn, tDNotIn, sDPut, tDNewK, tM0, tM1, tOrT, tAndT, tNotT, tAsg2, tAsg3, gName, rI0, rI, rU, tYes, L2.start, NdefX.startF, List.set_cons_zero, List.set_cons_succ, List.map_cons, List.map_nil, List.length_cons, List.length_nil, Nat.sub_zero, Nat.reduceSub, Nat.reduceAdd, List.replicate_succ, List.replicate_zero, List.cons_append, List.nil_append, List.append_nil, List.getElem?_cons_zero, List.getElem?_cons_succ, Option.some.injEq, exists_eq_left', exists_eq_left, exists_eq_right, exists_eq_right', exists_and_left, exists_and_right, exists_eq, exists_eq', true_and, and_true, V.int.injEq, V.str.injEq, V.bl.injEq, V.ref.injEq, V.ty.injEq, HO.ins.injEq, HO.lst.injEq, HO.tup.injEq, and_assoc, List.cons.injEq, Bool.not_true, Bool.not_false, Bool.false_eq_true, if_false, if_true, cx_K, upd_same, upd_upd, isi_str, req_ii, req_ss, rne_ii, rne_ss, radd_ii, rsub_ii, atI_at, atI_0, atI_1, atI_2, atI_3, atI_4, rLenL, rLenU, rIxLL, rIxU, reduceCtorEq, gTup, gCons, gNil, tFmt_eq, fmtV_str, fmtV_int, tJs_nil, tJs_cons, jsV_str, iKeys_eq, gSub, rSetL, tPart, tNoPart, tSl, rSlL, false_and, exists_false, or_false, false_or, List.set_cons_zero, List.set_cons_succ]
    refine andV (a := isNameM (wAt ws i)) (b := !decide (wAt ws i ∈ cs.map (·.1)) && (ls.isEmpty || ltS (lastS (ls.map (·.1))) (wAt ws i))) (fun Q q => ?_) (fun H2 s2 Q q => ?_) fun H2 s2 => ?_
    · simp only [tSeq, tIfS, tOr, tAnd, tNot, tB, tTest, tCB, tCons, tNil, tVar, tC, tOp, tUn, tRet, tRetN, tDrop, tAsg, tPar, tPar3, tNext, tNever, tBreak, tCont, tAug, tChain, tAndV, tOrV, tNotV, tIf, tIsN, tNotN, tTup, tLst, tCallD, tMethD, tMakeD, tFld, tCon, sFld, sFldAug, tCallK, tSl, tPart, tNoPart, tBM, tBM0, tDGet, tDIn, tDNotIn, sDPut, tDNewK, tM0, tM1, tOrT, tAndT, tNotT, tAsg2, tAsg3, gName, rI0, rI, rU, tYes, L2.start, NdefX.startF, List.set_cons_zero, List.set_cons_succ, List.map_cons, List.map_nil, List.length_cons, List.length_nil, Nat.sub_zero, Nat.reduceSub, Nat.reduceAdd, List.replicate_succ, List.replicate_zero, List.cons_append, List.nil_append, List.append_nil, List.getElem?_cons_zero, List.getElem?_cons_succ, Option.some.injEq, exists_eq_left', exists_eq_left, exists_eq_right, exists_eq_right', exists_and_left, exists_and_right, exists_eq, exists_eq', true_and, and_true, V.int.injEq, V.str.injEq, V.bl.injEq, V.ref.injEq, V.ty.injEq, HO.ins.injEq, HO.lst.injEq, HO.tup.injEq, and_assoc, List.cons.injEq, Bool.not_true, Bool.not_false, Bool.false_eq_true, if_false, if_true, cx_K, upd_same, upd_upd, isi_str, req_ii, req_ss, rne_ii, rne_ss, radd_ii, rsub_ii, atI_at, atI_0, atI_1, atI_2, atI_3, atI_4, rLenL, rLenU, rIxLL, rIxU, reduceCtorEq, gTup, gCons, gNil, tFmt_eq, fmtV_str, fmtV_int, tJs_nil, tJs_cons, jsV_str, iKeys_eq, gSub, rSetL, tPart, tNoPart, tSl, rSlL, false_and, exists_false, or_false, false_or, List.set_cons_zero, List.set_cons_succ]
      exact hnm s1 q
    · refine andV (a := !decide (wAt ws i ∈ cs.map (·.1))) (b := ls.isEmpty || ltS (lastS (ls.map (·.1))) (wAt ws i)) (fun Q q => ?_) (fun H3 s3 Q q => ?_) q
      · simp only [tSeq, tIfS, tOr, tAnd, tNot, tB, tTest, tCB, tCons, tNil, tVar, tC, tOp, tUn, tRet, tRetN, tDrop, tAsg, tPar, tPar3, tNext, tNever, tBreak, tCont, tAug, tChain, tAndV, tOrV, tNotV, tIf, tIsN, tNotN, tTup, tLst, tCallD, tMethD, tMakeD, tFld, tCon, sFld, sFldAug, tCallK, tSl, tPart, tNoPart, tBM, tBM0, tDGet, tDIn, tDNotIn, sDPut, tDNewK, tM0, tM1, tOrT, tAndT, tNotT, tAsg2, tAsg3, gName, rI0, rI, rU, tYes, L2.start, NdefX.startF, List.set_cons_zero, List.set_cons_succ, List.map_cons, List.map_nil, List.length_cons, List.length_nil, Nat.sub_zero, Nat.reduceSub, Nat.reduceAdd, List.replicate_succ, List.replicate_zero, List.cons_append, List.nil_append, List.append_nil, List.getElem?_cons_zero, List.getElem?_cons_succ, Option.some.injEq, exists_eq_left', exists_eq_left, exists_eq_right, exists_eq_right', exists_and_left, exists_and_right, exists_eq, exists_eq', true_and, and_true, V.int.injEq, V.str.injEq, V.bl.injEq, V.ref.injEq, V.ty.injEq, HO.ins.injEq, HO.lst.injEq, HO.tup.injEq, and_assoc, List.cons.injEq, Bool.not_true, Bool.not_false, Bool.false_eq_true, if_false, if_true, cx_K, upd_same, upd_upd, isi_str, req_ii, req_ss, rne_ii, rne_ss, radd_ii, rsub_ii, atI_at, atI_0, atI_1, atI_2, atI_3, atI_4, rLenL, rLenU, rIxLL, rIxU, reduceCtorEq, gTup, gCons, gNil, tFmt_eq, fmtV_str, fmtV_int, tJs_nil, tJs_cons, jsV_str, iKeys_eq, gSub, rSetL, tPart, tNoPart, tSl, rSlL, false_and, exists_false, or_false, false_or, List.set_cons_zero, List.set_cons_succ]
        exact rIn_strs (.inl (SqL.of ((s1.trans s2) _ _ hc))) (q _ (Same.refl _))
      · refine orV (a := ls.isEmpty) (b := ltS (lastS (ls.map (·.1))) (wAt ws i)) (fun Q q => ?_) (fun hne H4 s4 Q q => ?_) q
        · simp only [tSeq, tIfS, tOr, tAnd, tNot, tB, tTest, tCB, tCons, tNil, tVar, tC, tOp, tUn, tRet, tRetN, tDrop, tAsg, tPar, tPar3, tNext, tNever, tBreak, tCont, tAug, tChain, tAndV, tOrV, tNotV, tIf, tIsN, tNotN, tTup, tLst, tCallD, tMethD, tMakeD, tFld, tCon, sFld, sFldAug, tCallK, tSl, tPart, tNoPart, tBM, tBM0, tDGet, tDIn, tDNotIn, sDPut, tDNewK, tM0, tM1, tOrT, tAndT, tNotT, tAsg2, tAsg3, gName, rI0, rI, rU, tYes, L2.start, NdefX.startF, List.set_cons_zero, List.set_cons_succ, List.map_cons, List.map_nil, List.length_cons, List.length_nil, Nat.sub_zero, Nat.reduceSub, Nat.reduceAdd, List.replicate_succ, List.replicate_zero, List.cons_append, List.nil_append, List.append_nil, List.getElem?_cons_zero, List.getElem?_cons_succ, Option.some.injEq, exists_eq_left', exists_eq_left, exists_eq_right, exists_eq_right', exists_and_left, exists_and_right, exists_eq, exists_eq', true_and, and_true, V.int.injEq, V.str.injEq, V.bl.injEq, V.ref.injEq, V.ty.injEq, HO.ins.injEq, HO.lst.injEq, HO.tup.injEq, and_assoc, List.cons.injEq, Bool.not_true, Bool.not_false, Bool.false_eq_true, if_false, if_true, cx_K, upd_same, upd_upd, isi_str, req_ii, req_ss, rne_ii, rne_ss, radd_ii, rsub_ii, atI_at, atI_0, atI_1, atI_2, atI_3, atI_4, rLenL, rLenU, rIxLL, rIxU, reduceCtorEq, gTup, gCons, gNil, tFmt_eq, fmtV_str, fmtV_int, tJs_nil, tJs_cons, jsV_str, iKeys_eq, gSub, rSetL, tPart, tNoPart, tSl, rSlL, false_and, exists_false, or_false, false_or, List.set_cons_zero, List.set_cons_succ]
          exact ⟨Nat.zero_le _, nil_at ((s1.trans (s2.trans s3)) _ _ hl) okl fun H' s => by rw [List.isEmpty_map]; exact q H' s⟩
        · have h3 := s4 _ _ ((s1.trans (s2.trans s3)) _ _ hl)
          simp only [tSeq, tIfS, tOr, tAnd, tNot, tB, tTest, tCB, tCons, tNil, tVar, tC, tOp, tUn, tRet, tRetN, tDrop, tAsg, tPar, tPar3, tNext, tNever, tBreak, tCont, tAug, tChain, tAndV, tOrV, tNotV, tIf, tIsN, tNotN, tTup, tLst, tCallD, tMethD, tMakeD, tFld, tCon, sFld, sFldAug, tCallK, tSl, tPart, tNoPart, tBM, tBM0, tDGet, tDIn, tDNotIn, sDPut, tDNewK, tM0, tM1, tOrT, tAndT, tNotT, tAsg2, tAsg3, gName, rI0, rI, rU, tYes, L2.start, NdefX.startF, List.set_cons_zero, List.set_cons_succ, List.map_cons, List.map_nil, List.length_cons, List.length_nil, Nat.sub_zero, Nat.reduceSub, Nat.reduceAdd, List.replicate_succ, List.replicate_zero, List.cons_append, List.nil_append, List.append_nil, List.getElem?_cons_zero, List.getElem?_cons_succ, Option.some.injEq, exists_eq_left', exists_eq_left, exists_eq_right, exists_eq_right', exists_and_left, exists_and_right, exists_eq, exists_eq', true_and, and_true, V.int.injEq, V.str.injEq, V.bl.injEq, V.ref.injEq, V.ty.injEq, HO.ins.injEq, HO.lst.injEq, HO.tup.injEq, and_assoc, List.cons.injEq, Bool.not_true, Bool.not_false, Bool.false_eq_true, if_false, if_true, cx_K, upd_same, upd_upd, isi_str, req_ii, req_ss, rne_ii, rne_ss, radd_ii, rsub_ii, atI_at, atI_0, atI_1, atI_2, atI_3, atI_4, rLenL, rLenU, rIxLL, rIxU, reduceCtorEq, gTup, gCons, gNil, tFmt_eq, fmtV_str, fmtV_int, tJs_nil, tJs_cons, jsV_str, iKeys_eq, gSub, rSetL, tPart, tNoPart, tSl, rSlL, false_and, exists_false, or_false, false_or, List.set_cons_zero, List.set_cons_succ, h3]
          exact ⟨.str (lastS (List.map (fun x : Str × List Str => x.1) ls)), last_get (by rw [List.isEmpty_map]; exact hne), lastS (List.map (fun x : Str × List Str => x.1) ls), rfl, q _ (Same.refl _)⟩
    rw [llog_eq]
    have s12 := s1.trans s2
    have ha2 := s12 _ _ ha
    have hc2 := s12 _ _ hc
    have hl2 := s12 _ _ hl
    refine hid_in ?_
    simp only [tSeq, tIfS, tOr, tNot, tB, tTest, tCB, tCons, tNil, tVar, tC, tOp, tUn, tRet, tRetN, tDrop, tAsg, tPar, tPar3, tNext, tNever, tBreak, tCont, tAug, tChain, tAndV, tOrV, tNotV, tIf, tIsN, tNotN, tTup, tLst, tCallD, tMethD, tMakeD, tFld, tCon, sFld, sFldAug, tCallK, tSl, tPart, tNoPart, tBM, tBM0, tDGet, tDIn, tDNotIn, sDPut, tDNewK, tM0, tM1, tOrT, tAndT, tNotT, tAsg2, tAsg3, gName, rI0, rI, rU, tYes, L2.start, NdefX.startF, List.set_cons_zero, List.set_cons_succ, List.map_cons, List.map_nil, List.length_cons, List.length_nil, Nat.sub_zero, Nat.reduceSub, Nat.reduceAdd, List.replicate_succ, List.replicate_zero, List.cons_append, List.nil_append, List.append_nil, List.getElem?_cons_zero, List.getElem?_cons_succ, Option.some.injEq, exists_eq_left', exists_eq_left, exists_eq_right, exists_eq_right', exists_and_left, exists_and_right, exists_eq, exists_eq', true_and, and_true, V.int.injEq, V.str.injEq, V.bl.injEq, V.ref.injEq, V.ty.injEq, HO.ins.injEq, HO.lst.injEq, HO.tup.injEq, and_assoc, List.cons.injEq, Bool.not_true, Bool.not_false, Bool.false_eq_true, if_false, if_true, cx_K, upd_same, upd_upd, isi_str, req_ii, req_ss, rne_ii, rne_ss, radd_ii, rsub_ii, atI_at, atI_0, atI_1, atI_2, atI_3, atI_4, rLenL, rLenU, rIxLL, rIxU, reduceCtorEq, gTup, gCons, gNil, tFmt_eq, fmtV_str, fmtV_int, tJs_nil, tJs_cons, jsV_str, iKeys_eq, gSub, rSetL, tPart, tNoPart, tSl, rSlL, false_and, exists_false, or_false, false_or, List.set_cons_zero, List.set_cons_succ]
    refine and_pure (a := !(isCM cs ls (wAt ws i) && isNameM (wAt ws i))) (b := !(isLM cs ls (wAt ws i) && isNameM (wAt ws i))) (fun Q q => by simp only [tSeq, tIfS, tOr, tAnd, tNot, tB, tTest, tCB, tCons, tNil, tVar, tC, tOp, tUn, tRet, tRetN, tDrop, tAsg, tPar, tPar3, tNext, tNever, tBreak, tCont, tAug, tChain, tAndV, tOrV, tNotV, tIf, tIsN, tNotN, tTup, tLst, tCallD, tMethD, tMakeD, tFld, tCon, sFld, sFldAug, tCallK, tSl, tPart, tNoPart, tBM, tBM0, tDGet, tDIn, tDNotIn, sDPut, tDNewK, tM0, tM1, tOrT, tAndT, tNotT, tAsg2, tAsg3, gName, rI0, rI, rU, tYes, L2.start, NdefX.startF, List.set_cons_zero, List.set_cons_succ, List.map_cons, List.map_nil, List.length_cons, List.length_nil, Nat.sub_zero, Nat.reduceSub, Nat.reduceAdd, List.replicate_succ, List.replicate_zero, List.cons_append, List.nil_append, List.append_nil, List.getElem?_cons_zero, List.getElem?_cons_succ, Option.some.injEq, exists_eq_left', exists_eq_left, exists_eq_right, exists_eq_right', exists_and_left, exists_and_right, exists_eq, exists_eq', true_and, and_true, V.int.injEq, V.str.injEq, V.bl.injEq, V.ref.injEq, V.ty.injEq, HO.ins.injEq, HO.lst.injEq, HO.tup.injEq, and_assoc, List.cons.injEq, Bool.not_true, Bool.not_false, Bool.false_eq_true, if_false, if_true, cx_K, upd_same, upd_upd, isi_str, req_ii, req_ss, rne_ii, rne_ss, radd_ii, rsub_ii, atI_at, atI_0, atI_1, atI_2, atI_3, atI_4, rLenL, rLenU, rIxLL, rIxU, reduceCtorEq, gTup, gCons, gNil, tFmt_eq, fmtV_str, fmtV_int, tJs_nil, tJs_cons, jsV_str, iKeys_eq, gSub, rSetL, tPart, tNoPart, tSl, rSlL, false_and, exists_false, or_false, false_or, List.set_cons_zero, List.set_cons_succ]; exact q) (fun Q q => by simp only [tSeq, tIfS, tOr, tAnd, tNot, tB, tTest, tCB, tCons, tNil, tVar, tC, tOp, tUn, tRet, tRetN, tDrop, tAsg, tPar, tPar3, tNext, tNever, tBreak, tCont, tAug, tChain, tAndV, tOrV, tNotV, tIf, tIsN, tNotN, tTup, tLst, tCallD, tMethD, tMakeD, tFld, tCon, sFld, sFldAug, tCallK, tSl, tPart, tNoPart, tBM, tBM0, tDGet, tDIn, tDNotIn, sDPut, tDNewK, tM0, tM1, tOrT, tAndT, tNotT, tAsg2, tAsg3, gName, rI0, rI, rU, tYes, L2.start, NdefX.startF, List.set_cons_zero, List.set_cons_succ, List.map_cons, List.map_nil, List.length_cons, List.length_nil, Nat.sub_zero, Nat.reduceSub, Nat.reduceAdd, List.replicate_succ, List.replicate_zero, List.cons_append, List.nil_append, List.append_nil, List.getElem?_cons_zero, List.getElem?_cons_succ, Option.some.injEq, exists_eq_left', exists_eq_left, exists_eq_right, exists_eq_right', exists_and_left, exists_and_right, exists_eq, exists_eq', true_and, and_true, V.int.injEq, V.str.injEq, V.bl.injEq, V.ref.injEq, V.ty.injEq, HO.ins.injEq, HO.lst.injEq, HO.tup.injEq, and_assoc, List.cons.injEq, Bool.not_true, Bool.not_false, Bool.false_eq_true, if_false, if_true, cx_K, upd_same, upd_upd, isi_str, req_ii, req_ss, rne_ii, rne_ss, radd_ii, rsub_ii, atI_at, atI_0, atI_1, atI_2, atI_3, atI_4, rLenL, rLenU, rIxLL, rIxU, reduceCtorEq, gTup, gCons, gNil, tFmt_eq, fmtV_str, fmtV_int, tJs_nil, tJs_cons, jsV_str, iKeys_eq, gSub, rSetL, tPart, tNoPart, tSl, rSlL, false_and, exists_false, or_false, false_or, List.set_cons_zero, List.set_cons_succ]; exact q) ?_
    refine ite2 (fun z => ?_) fun z => ?_
    · refine ⟨sz_le (by decide), fun t ht => er i ?_ t _ (same_new s12 ht) upd_same⟩
      unfold thingM
      cases hN : isNameM (wAt ws i) with
      | false =>
        split
        · rfl
        · rw [if_pos rfl]
      | true =>
        rw [hN, Bool.and_true, Bool.and_true] at z
        rw [if_pos z]
    have hN : isNameM (wAt ws i) = true := by
      cases hN : isNameM (wAt ws i) with
      | true => rfl
      | false => rw [hN] at z; simp at z
    rw [hN] at z ⊢
    simp only [Bool.and_true] at z ⊢
    have thm : ∀ r, (if isCM cs ls (wAt ws i) && decide (wAt ws (i + 1) ∈ figL) then (.inr (i + 2, cs ++ [(wAt ws i, figV (wAt ws (i + 1)))], ls) : Nat ⊕ (Nat × CsL × LsL))
      else if isLM cs ls (wAt ws i) && decide (wAt ws (i + 1) = "-") then .inr (i + 2, cs, ls ++ [(wAt ws i, [])])
      else if isLM cs ls (wAt ws i) then (if isWordM (wAt ws (i + 1)) then .inr (i + 1 + (saidM ws (i + 1)).length, cs, ls ++ [(wAt ws i, saidM ws (i + 1))]) else .inl (i + 1)) else .inl (i + 1)) = r → thingM ws i cs ls = r := fun r hr => by
      rw [← hr]
      unfold thingM
      rw [if_neg z, if_neg (by rw [hN]; simp)]
    refine hid_in ?_
    simp only [tSeq, tIfS, tOr, tNot, tB, tTest, tCB, tCons, tNil, tVar, tC, tOp, tUn, tRet, tRetN, tDrop, tAsg, tPar, tPar3, tNext, tNever, tBreak, tCont, tAug, tChain, tAndV, tOrV, tNotV, tIf, tIsN, tNotN, tTup, tLst, tCallD, tMethD, tMakeD, tFld, tCon, sFld, sFldAug, tCallK, tSl, tPart, tNoPart, tBM, tBM0, tDGet, tDIn, tDNotIn, sDPut, tDNewK, tM0, tM1, tOrT, tAndT, tNotT, tAsg2, tAsg3, gName, rI0, rI, rU, tYes, L2.start, NdefX.startF, List.set_cons_zero, List.set_cons_succ, List.map_cons, List.map_nil, List.length_cons, List.length_nil, Nat.sub_zero, Nat.reduceSub, Nat.reduceAdd, List.replicate_succ, List.replicate_zero, List.cons_append, List.nil_append, List.append_nil, List.getElem?_cons_zero, List.getElem?_cons_succ, Option.some.injEq, exists_eq_left', exists_eq_left, exists_eq_right, exists_eq_right', exists_and_left, exists_and_right, exists_eq, exists_eq', true_and, and_true, V.int.injEq, V.str.injEq, V.bl.injEq, V.ref.injEq, V.ty.injEq, HO.ins.injEq, HO.lst.injEq, HO.tup.injEq, and_assoc, List.cons.injEq, Bool.not_true, Bool.not_false, Bool.false_eq_true, if_false, if_true, cx_K, upd_same, upd_upd, isi_str, req_ii, req_ss, rne_ii, rne_ss, radd_ii, rsub_ii, atI_at, atI_0, atI_1, atI_2, atI_3, atI_4, rLenL, rLenU, rIxLL, rIxU, reduceCtorEq, gTup, gCons, gNil, tFmt_eq, fmtV_str, fmtV_int, tJs_nil, tJs_cons, jsV_str, iKeys_eq, gSub, rSetL, tPart, tNoPart, tSl, rSlL, false_and, exists_false, or_false, false_or, List.set_cons_zero, List.set_cons_succ, ha2, List.length_map]
    rw [show ((i : Int) + 1) = ((i + 1 : Nat) : Int) by omega, atI_at]
    refine name_at ?_
    refine hid_in ?_
    simp only [tSeq, tIfS, tOr, tNot, tB, tTest, tCB, tCons, tNil, tVar, tC, tOp, tUn, tRet, tRetN, tDrop, tAsg, tPar, tPar3, tNext, tNever, tBreak, tCont, tAug, tChain, tAndV, tOrV, tNotV, tIf, tIsN, tNotN, tTup, tLst, tCallD, tMethD, tMakeD, tFld, tCon, sFld, sFldAug, tCallK, tSl, tPart, tNoPart, tBM, tBM0, tDGet, tDIn, tDNotIn, sDPut, tDNewK, tM0, tM1, tOrT, tAndT, tNotT, tAsg2, tAsg3, gName, rI0, rI, rU, tYes, L2.start, NdefX.startF, List.set_cons_zero, List.set_cons_succ, List.map_cons, List.map_nil, List.length_cons, List.length_nil, Nat.sub_zero, Nat.reduceSub, Nat.reduceAdd, List.replicate_succ, List.replicate_zero, List.cons_append, List.nil_append, List.append_nil, List.getElem?_cons_zero, List.getElem?_cons_succ, Option.some.injEq, exists_eq_left', exists_eq_left, exists_eq_right, exists_eq_right', exists_and_left, exists_and_right, exists_eq, exists_eq', true_and, and_true, V.int.injEq, V.str.injEq, V.bl.injEq, V.ref.injEq, V.ty.injEq, HO.ins.injEq, HO.lst.injEq, HO.tup.injEq, and_assoc, List.cons.injEq, Bool.not_true, Bool.not_false, Bool.false_eq_true, if_false, if_true, cx_K, upd_same, upd_upd, isi_str, req_ii, req_ss, rne_ii, rne_ss, radd_ii, rsub_ii, atI_at, atI_0, atI_1, atI_2, atI_3, atI_4, rLenL, rLenU, rIxLL, rIxU, reduceCtorEq, gTup, gCons, gNil, tFmt_eq, fmtV_str, fmtV_int, tJs_nil, tJs_cons, jsV_str, iKeys_eq, gSub, rSetL, tPart, tNoPart, tSl, rSlL, false_and, exists_false, or_false, false_or, List.set_cons_zero, List.set_cons_succ]
    have hw1 := W.wAt (i + 1)
    refine andT (a := isCM cs ls (wAt ws i)) (b := decide (wAt ws (i + 1) ∈ figL)) (fun Q q => by simp only [tSeq, tIfS, tOr, tAnd, tNot, tB, tTest, tCB, tCons, tNil, tVar, tC, tOp, tUn, tRet, tRetN, tDrop, tAsg, tPar, tPar3, tNext, tNever, tBreak, tCont, tAug, tChain, tAndV, tOrV, tNotV, tIf, tIsN, tNotN, tTup, tLst, tCallD, tMethD, tMakeD, tFld, tCon, sFld, sFldAug, tCallK, tSl, tPart, tNoPart, tBM, tBM0, tDGet, tDIn, tDNotIn, sDPut, tDNewK, tM0, tM1, tOrT, tAndT, tNotT, tAsg2, tAsg3, gName, rI0, rI, rU, tYes, L2.start, NdefX.startF, List.set_cons_zero, List.set_cons_succ, List.map_cons, List.map_nil, List.length_cons, List.length_nil, Nat.sub_zero, Nat.reduceSub, Nat.reduceAdd, List.replicate_succ, List.replicate_zero, List.cons_append, List.nil_append, List.append_nil, List.getElem?_cons_zero, List.getElem?_cons_succ, Option.some.injEq, exists_eq_left', exists_eq_left, exists_eq_right, exists_eq_right', exists_and_left, exists_and_right, exists_eq, exists_eq', true_and, and_true, V.int.injEq, V.str.injEq, V.bl.injEq, V.ref.injEq, V.ty.injEq, HO.ins.injEq, HO.lst.injEq, HO.tup.injEq, and_assoc, List.cons.injEq, Bool.not_true, Bool.not_false, Bool.false_eq_true, if_false, if_true, cx_K, upd_same, upd_upd, isi_str, req_ii, req_ss, rne_ii, rne_ss, radd_ii, rsub_ii, atI_at, atI_0, atI_1, atI_2, atI_3, atI_4, rLenL, rLenU, rIxLL, rIxU, reduceCtorEq, gTup, gCons, gNil, tFmt_eq, fmtV_str, fmtV_int, tJs_nil, tJs_cons, jsV_str, iKeys_eq, gSub, rSetL, tPart, tNoPart, tSl, rSlL, false_and, exists_false, or_false, false_or, List.set_cons_zero, List.set_cons_succ]; exact q) (fun _ Q q => ?_) fun H3 s3 => ?_
    · simp only [tSeq, tIfS, tOr, tAnd, tNot, tB, tTest, tCB, tCons, tNil, tVar, tC, tOp, tUn, tRet, tRetN, tDrop, tAsg, tPar, tPar3, tNext, tNever, tBreak, tCont, tAug, tChain, tAndV, tOrV, tNotV, tIf, tIsN, tNotN, tTup, tLst, tCallD, tMethD, tMakeD, tFld, tCon, sFld, sFldAug, tCallK, tSl, tPart, tNoPart, tBM, tBM0, tDGet, tDIn, tDNotIn, sDPut, tDNewK, tM0, tM1, tOrT, tAndT, tNotT, tAsg2, tAsg3, gName, rI0, rI, rU, tYes, L2.start, NdefX.startF, List.set_cons_zero, List.set_cons_succ, List.map_cons, List.map_nil, List.length_cons, List.length_nil, Nat.sub_zero, Nat.reduceSub, Nat.reduceAdd, List.replicate_succ, List.replicate_zero, List.cons_append, List.nil_append, List.append_nil, List.getElem?_cons_zero, List.getElem?_cons_succ, Option.some.injEq, exists_eq_left', exists_eq_left, exists_eq_right, exists_eq_right', exists_and_left, exists_and_right, exists_eq, exists_eq', true_and, and_true, V.int.injEq, V.str.injEq, V.bl.injEq, V.ref.injEq, V.ty.injEq, HO.ins.injEq, HO.lst.injEq, HO.tup.injEq, and_assoc, List.cons.injEq, Bool.not_true, Bool.not_false, Bool.false_eq_true, if_false, if_true, cx_K, upd_same, upd_upd, isi_str, req_ii, req_ss, rne_ii, rne_ss, radd_ii, rsub_ii, atI_at, atI_0, atI_1, atI_2, atI_3, atI_4, rLenL, rLenU, rIxLL, rIxU, reduceCtorEq, gTup, gCons, gNil, tFmt_eq, fmtV_str, fmtV_int, tJs_nil, tJs_cons, jsV_str, iKeys_eq, gSub, rSetL, tPart, tNoPart, tSl, rSlL, false_and, exists_false, or_false, false_or, List.set_cons_zero, List.set_cons_succ]
      exact ⟨sz_le (by decide), fun p hp => rIn_strs (ys := figL) (.inr (SqT.of upd_same)) (by simp only [tSeq, tIfS, tOr, tAnd, tNot, tB, tTest, tCB, tCons, tNil, tVar, tC, tOp, tUn, tRet, tRetN, tDrop, tAsg, tPar, tPar3, tNext, tNever, tBreak, tCont, tAug, tChain, tAndV, tOrV, tNotV, tIf, tIsN, tNotN, tTup, tLst, tCallD, tMethD, tMakeD, tFld, tCon, sFld, sFldAug, tCallK, tSl, tPart, tNoPart, tBM, tBM0, tDGet, tDIn, tDNotIn, sDPut, tDNewK, tM0, tM1, tOrT, tAndT, tNotT, tAsg2, tAsg3, gName, rI0, rI, rU, tYes, L2.start, NdefX.startF, List.set_cons_zero, List.set_cons_succ, List.map_cons, List.map_nil, List.length_cons, List.length_nil, Nat.sub_zero, Nat.reduceSub, Nat.reduceAdd, List.replicate_succ, List.replicate_zero, List.cons_append, List.nil_append, List.append_nil, List.getElem?_cons_zero, List.getElem?_cons_succ, Option.some.injEq, exists_eq_left', exists_eq_left, exists_eq_right, exists_eq_right', exists_and_left, exists_and_right, exists_eq, exists_eq', true_and, and_true, V.int.injEq, V.str.injEq, V.bl.injEq, V.ref.injEq, V.ty.injEq, HO.ins.injEq, HO.lst.injEq, HO.tup.injEq, and_assoc, List.cons.injEq, Bool.not_true, Bool.not_false, Bool.false_eq_true, if_false, if_true, cx_K, upd_same, upd_upd, isi_str, req_ii, req_ss, rne_ii, rne_ss, radd_ii, rsub_ii, atI_at, atI_0, atI_1, atI_2, atI_3, atI_4, rLenL, rLenU, rIxLL, rIxU, reduceCtorEq, gTup, gCons, gNil, tFmt_eq, fmtV_str, fmtV_int, tJs_nil, tJs_cons, jsV_str, iKeys_eq, gSub, rSetL, tPart, tNoPart, tSl, rSlL, false_and, exists_false, or_false, false_or, List.set_cons_zero, List.set_cons_succ]; exact q _ (same_upd hp))⟩
    have hc3 := s3 _ _ hc2
    have hl3 := s3 _ _ hl2
    have ha3 := s3 _ _ ha2
    have s13 := s12.trans s3
    refine ite2 (fun zf => ?_) fun zf => ?_
    · have zf' := zf
      simp only [Bool.and_eq_true, isCM, decide_eq_true_eq] at zf'
      refine ⟨tyV_lst hc3, c, _, .str (wAt ws i), rfl, rfl, hc3, ?_, ?_⟩
      · have := ok.n
        refine sz_lt ?_
        rw [List.length_map, List.length_map]
        omega
      refine hid_in ?_
      simp only [tSeq, tIfS, tOr, tAnd, tNot, tB, tTest, tCB, tCons, tNil, tVar, tC, tOp, tUn, tRet, tRetN, tDrop, tAsg, tPar, tPar3, tNext, tNever, tBreak, tCont, tAug, tChain, tAndV, tOrV, tNotV, tIf, tIsN, tNotN, tTup, tLst, tCallD, tMethD, tMakeD, tFld, tCon, sFld, sFldAug, tCallK, tSl, tPart, tNoPart, tBM, tBM0, tDGet, tDIn, tDNotIn, sDPut, tDNewK, tM0, tM1, tOrT, tAndT, tNotT, tAsg2, tAsg3, gName, rI0, rI, rU, tYes, L2.start, NdefX.startF, List.set_cons_zero, List.set_cons_succ, List.map_cons, List.map_nil, List.length_cons, List.length_nil, Nat.sub_zero, Nat.reduceSub, Nat.reduceAdd, List.replicate_succ, List.replicate_zero, List.cons_append, List.nil_append, List.append_nil, List.getElem?_cons_zero, List.getElem?_cons_succ, Option.some.injEq, exists_eq_left', exists_eq_left, exists_eq_right, exists_eq_right', exists_and_left, exists_and_right, exists_eq, exists_eq', true_and, and_true, V.int.injEq, V.str.injEq, V.bl.injEq, V.ref.injEq, V.ty.injEq, HO.ins.injEq, HO.lst.injEq, HO.tup.injEq, and_assoc, List.cons.injEq, Bool.not_true, Bool.not_false, Bool.false_eq_true, if_false, if_true, cx_K, upd_same, upd_upd, isi_str, req_ii, req_ss, rne_ii, rne_ss, radd_ii, rsub_ii, atI_at, atI_0, atI_1, atI_2, atI_3, atI_4, rLenL, rLenU, rIxLL, rIxU, reduceCtorEq, gTup, gCons, gNil, tFmt_eq, fmtV_str, fmtV_int, tJs_nil, tJs_cons, jsV_str, iKeys_eq, gSub, rSetL, tPart, tNoPart, tSl, rSlL, false_and, exists_false, or_false, false_or, List.set_cons_zero, List.set_cons_succ]
      refine ⟨sz_le (by decide), fun t ht => ?_⟩
      have htc : t ≠ c := fun e => by rw [e, upd_same] at ht; cases ht
      have ht3 : H3 t = none := by rw [upd_ne htc] at ht; exact ht
      refine k (i + 2) _ ls (thm _ (if_pos zf)) t _ (fun b o e nb => ?_) ?_ ?_ upd_same
      · simp only [List.mem_cons, List.not_mem_nil, or_false, not_or] at nb
        have e3 := s13 _ _ e
        rw [upd_ne (ne_of_none e3 ht3), upd_ne nb.1]
        exact e3
      · rw [upd_ne htc.symm, upd_same, List.map_append, List.map_append]; rfl
      · rw [upd_ne (ne_of_none hl3 ht3), upd_ne ncl.symm]; exact hl3
    · refine hid_in ?_
      simp only [tSeq, tIfS, tNot, tB, tTest, tCB, tCons, tNil, tVar, tC, tOp, tUn, tRet, tRetN, tDrop, tAsg, tPar, tPar3, tNext, tNever, tBreak, tCont, tAug, tChain, tAndV, tOrV, tNotV, tIf, tIsN, tNotN, tTup, tLst, tCallD, tMethD, tMakeD, tFld, tCon, sFld, sFldAug, tCallK, tSl, tPart, tNoPart, tBM, tBM0, tDGet, tDIn, tDNotIn, sDPut, tDNewK, tM0, tM1, tOrT, tAndT, tNotT, tAsg2, tAsg3, gName, rI0, rI, rU, tYes, L2.start, NdefX.startF, List.set_cons_zero, List.set_cons_succ, List.map_cons, List.map_nil, List.length_cons, List.length_nil, Nat.sub_zero, Nat.reduceSub, Nat.reduceAdd, List.replicate_succ, List.replicate_zero, List.cons_append, List.nil_append, List.append_nil, List.getElem?_cons_zero, List.getElem?_cons_succ, Option.some.injEq, exists_eq_left', exists_eq_left, exists_eq_right, exists_eq_right', exists_and_left, exists_and_right, exists_eq, exists_eq', true_and, and_true, V.int.injEq, V.str.injEq, V.bl.injEq, V.ref.injEq, V.ty.injEq, HO.ins.injEq, HO.lst.injEq, HO.tup.injEq, and_assoc, List.cons.injEq, Bool.not_true, Bool.not_false, Bool.false_eq_true, if_false, if_true, cx_K, upd_same, upd_upd, isi_str, req_ii, req_ss, rne_ii, rne_ss, radd_ii, rsub_ii, atI_at, atI_0, atI_1, atI_2, atI_3, atI_4, rLenL, rLenU, rIxLL, rIxU, reduceCtorEq, gTup, gCons, gNil, tFmt_eq, fmtV_str, fmtV_int, tJs_nil, tJs_cons, jsV_str, iKeys_eq, gSub, rSetL, tPart, tNoPart, tSl, rSlL, false_and, exists_false, or_false, false_or, List.set_cons_zero, List.set_cons_succ]
      refine orT (a := !isLM cs ls (wAt ws i)) (b := !decide (wAt ws (i + 1) = "-") && !isWordM (wAt ws (i + 1))) (fun Q q => by simp only [tSeq, tIfS, tOr, tAnd, tNot, tB, tTest, tCB, tCons, tNil, tVar, tC, tOp, tUn, tRet, tRetN, tDrop, tAsg, tPar, tPar3, tNext, tNever, tBreak, tCont, tAug, tChain, tAndV, tOrV, tNotV, tIf, tIsN, tNotN, tTup, tLst, tCallD, tMethD, tMakeD, tFld, tCon, sFld, sFldAug, tCallK, tSl, tPart, tNoPart, tBM, tBM0, tDGet, tDIn, tDNotIn, sDPut, tDNewK, tM0, tM1, tOrT, tAndT, tNotT, tAsg2, tAsg3, gName, rI0, rI, rU, tYes, L2.start, NdefX.startF, List.set_cons_zero, List.set_cons_succ, List.map_cons, List.map_nil, List.length_cons, List.length_nil, Nat.sub_zero, Nat.reduceSub, Nat.reduceAdd, List.replicate_succ, List.replicate_zero, List.cons_append, List.nil_append, List.append_nil, List.getElem?_cons_zero, List.getElem?_cons_succ, Option.some.injEq, exists_eq_left', exists_eq_left, exists_eq_right, exists_eq_right', exists_and_left, exists_and_right, exists_eq, exists_eq', true_and, and_true, V.int.injEq, V.str.injEq, V.bl.injEq, V.ref.injEq, V.ty.injEq, HO.ins.injEq, HO.lst.injEq, HO.tup.injEq, and_assoc, List.cons.injEq, Bool.not_true, Bool.not_false, Bool.false_eq_true, if_false, if_true, cx_K, upd_same, upd_upd, isi_str, req_ii, req_ss, rne_ii, rne_ss, radd_ii, rsub_ii, atI_at, atI_0, atI_1, atI_2, atI_3, atI_4, rLenL, rLenU, rIxLL, rIxU, reduceCtorEq, gTup, gCons, gNil, tFmt_eq, fmtV_str, fmtV_int, tJs_nil, tJs_cons, jsV_str, iKeys_eq, gSub, rSetL, tPart, tNoPart, tSl, rSlL, false_and, exists_false, or_false, false_or, List.set_cons_zero, List.set_cons_succ]; exact q) (fun _ Q q => ?_) fun H4 s4 => ?_
      · refine andT (a := !decide (wAt ws (i + 1) = "-")) (b := !isWordM (wAt ws (i + 1))) (fun Q q => by simp only [tSeq, tIfS, tOr, tAnd, tNot, tB, tTest, tCB, tCons, tNil, tVar, tC, tOp, tUn, tRet, tRetN, tDrop, tAsg, tPar, tPar3, tNext, tNever, tBreak, tCont, tAug, tChain, tAndV, tOrV, tNotV, tIf, tIsN, tNotN, tTup, tLst, tCallD, tMethD, tMakeD, tFld, tCon, sFld, sFldAug, tCallK, tSl, tPart, tNoPart, tBM, tBM0, tDGet, tDIn, tDNotIn, sDPut, tDNewK, tM0, tM1, tOrT, tAndT, tNotT, tAsg2, tAsg3, gName, rI0, rI, rU, tYes, L2.start, NdefX.startF, List.set_cons_zero, List.set_cons_succ, List.map_cons, List.map_nil, List.length_cons, List.length_nil, Nat.sub_zero, Nat.reduceSub, Nat.reduceAdd, List.replicate_succ, List.replicate_zero, List.cons_append, List.nil_append, List.append_nil, List.getElem?_cons_zero, List.getElem?_cons_succ, Option.some.injEq, exists_eq_left', exists_eq_left, exists_eq_right, exists_eq_right', exists_and_left, exists_and_right, exists_eq, exists_eq', true_and, and_true, V.int.injEq, V.str.injEq, V.bl.injEq, V.ref.injEq, V.ty.injEq, HO.ins.injEq, HO.lst.injEq, HO.tup.injEq, and_assoc, List.cons.injEq, Bool.not_true, Bool.not_false, Bool.false_eq_true, if_false, if_true, cx_K, upd_same, upd_upd, isi_str, req_ii, req_ss, rne_ii, rne_ss, radd_ii, rsub_ii, atI_at, atI_0, atI_1, atI_2, atI_3, atI_4, rLenL, rLenU, rIxLL, rIxU, reduceCtorEq, gTup, gCons, gNil, tFmt_eq, fmtV_str, fmtV_int, tJs_nil, tJs_cons, jsV_str, iKeys_eq, gSub, rSetL, tPart, tNoPart, tSl, rSlL, false_and, exists_false, or_false, false_or, List.set_cons_zero, List.set_cons_succ]; exact q) (fun _ Q q => ?_) q
        simp only [tSeq, tIfS, tOr, tAnd, tNot, tB, tTest, tCB, tCons, tNil, tVar, tC, tOp, tUn, tRet, tRetN, tDrop, tAsg, tPar, tPar3, tNext, tNever, tBreak, tCont, tAug, tChain, tAndV, tOrV, tNotV, tIf, tIsN, tNotN, tTup, tLst, tCallD, tMethD, tMakeD, tFld, tCon, sFld, sFldAug, tCallK, tSl, tPart, tNoPart, tBM, tBM0, tDGet, tDIn, tDNotIn, sDPut, tDNewK, tM0, tM1, tOrT, tAndT, tNotT, tAsg2, tAsg3, gName, rI0, rI, rU, tYes, L2.start, NdefX.startF, List.set_cons_zero, List.set_cons_succ, List.map_cons, List.map_nil, List.length_cons, List.length_nil, Nat.sub_zero, Nat.reduceSub, Nat.reduceAdd, List.replicate_succ, List.replicate_zero, List.cons_append, List.nil_append, List.append_nil, List.getElem?_cons_zero, List.getElem?_cons_succ, Option.some.injEq, exists_eq_left', exists_eq_left, exists_eq_right, exists_eq_right', exists_and_left, exists_and_right, exists_eq, exists_eq', true_and, and_true, V.int.injEq, V.str.injEq, V.bl.injEq, V.ref.injEq, V.ty.injEq, HO.ins.injEq, HO.lst.injEq, HO.tup.injEq, and_assoc, List.cons.injEq, Bool.not_true, Bool.not_false, Bool.false_eq_true, if_false, if_true, cx_K, upd_same, upd_upd, isi_str, req_ii, req_ss, rne_ii, rne_ss, radd_ii, rsub_ii, atI_at, atI_0, atI_1, atI_2, atI_3, atI_4, rLenL, rLenU, rIxLL, rIxU, reduceCtorEq, gTup, gCons, gNil, tFmt_eq, fmtV_str, fmtV_int, tJs_nil, tJs_cons, jsV_str, iKeys_eq, gSub, rSetL, tPart, tNoPart, tSl, rSlL, false_and, exists_false, or_false, false_or, List.set_cons_zero, List.set_cons_succ]
        exact ⟨_, rfl, hw1.1, hw1.2, fun H' s' => by simp only [tSeq, tIfS, tOr, tAnd, tNot, tB, tTest, tCB, tCons, tNil, tVar, tC, tOp, tUn, tRet, tRetN, tDrop, tAsg, tPar, tPar3, tNext, tNever, tBreak, tCont, tAug, tChain, tAndV, tOrV, tNotV, tIf, tIsN, tNotN, tTup, tLst, tCallD, tMethD, tMakeD, tFld, tCon, sFld, sFldAug, tCallK, tSl, tPart, tNoPart, tBM, tBM0, tDGet, tDIn, tDNotIn, sDPut, tDNewK, tM0, tM1, tOrT, tAndT, tNotT, tAsg2, tAsg3, gName, rI0, rI, rU, tYes, L2.start, NdefX.startF, List.set_cons_zero, List.set_cons_succ, List.map_cons, List.map_nil, List.length_cons, List.length_nil, Nat.sub_zero, Nat.reduceSub, Nat.reduceAdd, List.replicate_succ, List.replicate_zero, List.cons_append, List.nil_append, List.append_nil, List.getElem?_cons_zero, List.getElem?_cons_succ, Option.some.injEq, exists_eq_left', exists_eq_left, exists_eq_right, exists_eq_right', exists_and_left, exists_and_right, exists_eq, exists_eq', true_and, and_true, V.int.injEq, V.str.injEq, V.bl.injEq, V.ref.injEq, V.ty.injEq, HO.ins.injEq, HO.lst.injEq, HO.tup.injEq, and_assoc, List.cons.injEq, Bool.not_true, Bool.not_false, Bool.false_eq_true, if_false, if_true, cx_K, upd_same, upd_upd, isi_str, req_ii, req_ss, rne_ii, rne_ss, radd_ii, rsub_ii, atI_at, atI_0, atI_1, atI_2, atI_3, atI_4, rLenL, rLenU, rIxLL, rIxU, reduceCtorEq, gTup, gCons, gNil, tFmt_eq, fmtV_str, fmtV_int, tJs_nil, tJs_cons, jsV_str, iKeys_eq, gSub, rSetL, tPart, tNoPart, tSl, rSlL, false_and, exists_false, or_false, false_or, List.set_cons_zero, List.set_cons_succ]; exact q H' s'⟩
      have hc4 := s4 _ _ hc3
      have hl4 := s4 _ _ hl3
      have ha4 := s4 _ _ ha3
      have s14 := s13.trans s4
      refine ite2 (fun zr => ?_) fun zr => ?_
      · refine ⟨sz_le (by decide), fun t ht => er (i + 1) (thm _ ?_) t _ (same_new s14 ht) upd_same⟩
        rw [if_neg zf]
        simp only [Bool.or_eq_true, Bool.not_eq_true', Bool.and_eq_true, decide_eq_false_iff_not] at zr
        rcases zr with h | ⟨h1, h2⟩
        · rw [if_neg (by rw [h]; simp), if_neg (by rw [h]; simp)]
        · rw [if_neg (by simp [h1]), h2]
          split <;> rfl
      · simp only [Bool.or_eq_true, Bool.not_eq_true', Bool.and_eq_true, decide_eq_false_iff_not, not_or, not_and, Bool.not_eq_false] at zr
        obtain ⟨hL, hor⟩ := zr
        refine hid_in ?_
        simp only [tSeq, tIfS, tOr, tAnd, tNot, tB, tTest, tCB, tCons, tNil, tVar, tC, tOp, tUn, tRet, tRetN, tDrop, tAsg, tPar, tPar3, tNext, tNever, tBreak, tCont, tAug, tChain, tAndV, tOrV, tNotV, tIf, tIsN, tNotN, tTup, tLst, tCallD, tMethD, tMakeD, tFld, tCon, sFld, sFldAug, tCallK, tSl, tPart, tNoPart, tBM, tBM0, tDGet, tDIn, tDNotIn, sDPut, tDNewK, tM0, tM1, tOrT, tAndT, tNotT, tAsg2, tAsg3, gName, rI0, rI, rU, tYes, L2.start, NdefX.startF, List.set_cons_zero, List.set_cons_succ, List.map_cons, List.map_nil, List.length_cons, List.length_nil, Nat.sub_zero, Nat.reduceSub, Nat.reduceAdd, List.replicate_succ, List.replicate_zero, List.cons_append, List.nil_append, List.append_nil, List.getElem?_cons_zero, List.getElem?_cons_succ, Option.some.injEq, exists_eq_left', exists_eq_left, exists_eq_right, exists_eq_right', exists_and_left, exists_and_right, exists_eq, exists_eq', true_and, and_true, V.int.injEq, V.str.injEq, V.bl.injEq, V.ref.injEq, V.ty.injEq, HO.ins.injEq, HO.lst.injEq, HO.tup.injEq, and_assoc, List.cons.injEq, Bool.not_true, Bool.not_false, Bool.false_eq_true, if_false, if_true, cx_K, upd_same, upd_upd, isi_str, req_ii, req_ss, rne_ii, rne_ss, radd_ii, rsub_ii, atI_at, atI_0, atI_1, atI_2, atI_3, atI_4, rLenL, rLenU, rIxLL, rIxU, reduceCtorEq, gTup, gCons, gNil, tFmt_eq, fmtV_str, fmtV_int, tJs_nil, tJs_cons, jsV_str, iKeys_eq, gSub, rSetL, tPart, tNoPart, tSl, rSlL, false_and, exists_false, or_false, false_or, List.set_cons_zero, List.set_cons_succ]
        refine ⟨tyV_lst hl4, l, _, .str (wAt ws i), rfl, rfl, hl4, ?_, ?_⟩
        · have := ok.n
          have := nd_len (f := fun x : Str × List Str => x.2.length) ls
          refine sz_lt ?_
          rw [List.length_map, List.length_map]
          omega
        refine hid_in ?_
        simp only [tSeq, tIfS, tOr, tAnd, tNot, tB, tTest, tCB, tCons, tNil, tVar, tC, tOp, tUn, tRet, tRetN, tDrop, tAsg, tPar, tPar3, tNext, tNever, tBreak, tCont, tAug, tChain, tAndV, tOrV, tNotV, tIf, tIsN, tNotN, tTup, tLst, tCallD, tMethD, tMakeD, tFld, tCon, sFld, sFldAug, tCallK, tSl, tPart, tNoPart, tBM, tBM0, tDGet, tDIn, tDNotIn, sDPut, tDNewK, tM0, tM1, tOrT, tAndT, tNotT, tAsg2, tAsg3, gName, rI0, rI, rU, tYes, L2.start, NdefX.startF, List.set_cons_zero, List.set_cons_succ, List.map_cons, List.map_nil, List.length_cons, List.length_nil, Nat.sub_zero, Nat.reduceSub, Nat.reduceAdd, List.replicate_succ, List.replicate_zero, List.cons_append, List.nil_append, List.append_nil, List.getElem?_cons_zero, List.getElem?_cons_succ, Option.some.injEq, exists_eq_left', exists_eq_left, exists_eq_right, exists_eq_right', exists_and_left, exists_and_right, exists_eq, exists_eq', true_and, and_true, V.int.injEq, V.str.injEq, V.bl.injEq, V.ref.injEq, V.ty.injEq, HO.ins.injEq, HO.lst.injEq, HO.tup.injEq, and_assoc, List.cons.injEq, Bool.not_true, Bool.not_false, Bool.false_eq_true, if_false, if_true, cx_K, upd_same, upd_upd, isi_str, req_ii, req_ss, rne_ii, rne_ss, radd_ii, rsub_ii, atI_at, atI_0, atI_1, atI_2, atI_3, atI_4, rLenL, rLenU, rIxLL, rIxU, reduceCtorEq, gTup, gCons, gNil, tFmt_eq, fmtV_str, fmtV_int, tJs_nil, tJs_cons, jsV_str, iKeys_eq, gSub, rSetL, tPart, tNoPart, tSl, rSlL, false_and, exists_false, or_false, false_or, List.set_cons_zero, List.set_cons_succ]
        refine hid_in ?_
        have e5l : upd H4 l (.lst ((ls.map (·.1)).map V.str ++ [V.str (wAt ws i)])) l = some (.lst (((ls.map (·.1)) ++ [wAt ws i]).map V.str)) := by rw [upd_same, List.map_append]; rfl
        have e5c : upd H4 l (.lst ((ls.map (·.1)).map V.str ++ [V.str (wAt ws i)])) c = some (.lst ((cs.map (·.1)).map V.str)) := by rw [upd_ne ncl]; exact hc4
        have e5a : upd H4 l (.lst ((ls.map (·.1)).map V.str ++ [V.str (wAt ws i)])) a = some (.lst (ws.map V.str)) := by rw [upd_ne nla.symm]; exact ha4
        have k5 : Keep [c, l] H (upd H4 l (.lst ((ls.map (·.1)).map V.str ++ [V.str (wAt ws i)]))) := fun b o e nb => by
          simp only [List.mem_cons, List.not_mem_nil, or_false, not_or] at nb
          rw [upd_ne nb.2]
          exact s14 _ _ e
        generalize upd H4 l (.lst ((ls.map (·.1)).map V.str ++ [V.str (wAt ws i)])) = H5 at e5l e5c e5a k5 ⊢
        obtain ⟨L, hL0, hL1⟩ : ∃ L : Nat, 1 ≤ L ∧ ((wAt ws (i + 1) = "-" ∧ L = 1) ∨ (¬ wAt ws (i + 1) = "-" ∧ isWordM (wAt ws (i + 1)) = true ∧ L = (saidM ws (i + 1)).length)) := by
          by_cases h : wAt ws (i + 1) = "-"
          · exact ⟨1, Nat.le_refl _, .inl ⟨h, rfl⟩⟩
          · exact ⟨_, (said_pos (hor h)).1, .inr ⟨h, hor h, rfl⟩⟩
        have fin : ∀ t H6, Same H5 H6 → H6 t = some (pairV ((i + 1 + L : Nat) : Int) true) → Q (.ref t) H6 := fun t H6 s6 ht => by
          have kH6 : Keep [c, l] H H6 := Keep.trans (S := [c, l]) (T := []) (U := [c, l]) k5 (Keep.of s6) (by simp) (by simp)
          rcases hL1 with ⟨h1, rfl⟩ | ⟨h1, h2, rfl⟩
          · exact k (i + 2) cs (ls ++ [(wAt ws i, [])]) (thm _ (by rw [if_neg zf, if_pos (by simp [hL, h1])])) t H6 kH6 (s6 _ _ e5c) (by rw [List.map_append]; exact s6 _ _ e5l) ht
          · exact k _ cs (ls ++ [(wAt ws i, saidM ws (i + 1))]) (thm _ (by rw [if_neg zf, if_neg (by simp [h1]), if_pos hL, if_pos h2])) t H6 kH6 (s6 _ _ e5c) (by rw [List.map_append]; exact s6 _ _ e5l) ht
        refine ⟨fun m σ H' => ∃ n : Nat, n + 1 + m = L ∧ σ = [some (.ref a), some (.int i), some (.ref c), some (.ref l), some (.str (wAt ws i)), some (.bl (isCM cs ls (wAt ws i))), some (.bl (isLM cs ls (wAt ws i))), some (.str (wAt ws (i + 1))), some (.int ((i + 2 + n : Nat) : Int))] ∧ Same H5 H', ⟨L - 1, 0, by omega, rfl, Same.refl _⟩, ?_⟩
        rintro m σ H6 ⟨n, hm, rfl, s6⟩
        have ha6 := s6 _ _ e5a
        have hst : 1 ≤ (saidM ws (i + 1)).length → n + 1 ≤ (saidM ws (i + 1)).length → _ := fun _ h => said_step (ws := ws) (a := i + 1) (k := n + 1) h
        refine andT (a := !decide (wAt ws (i + 1) = "-")) (b := decide (((i + 2 + n : Nat) : Int) < (ws.length : Int)) && isWordM (wAt ws (i + 2 + n))) (fun Q q => by simp only [tSeq, tIfS, tOr, tAnd, tNot, tB, tTest, tCB, tCons, tNil, tVar, tC, tOp, tUn, tRet, tRetN, tDrop, tAsg, tPar, tPar3, tNext, tNever, tBreak, tCont, tAug, tChain, tAndV, tOrV, tNotV, tIf, tIsN, tNotN, tTup, tLst, tCallD, tMethD, tMakeD, tFld, tCon, sFld, sFldAug, tCallK, tSl, tPart, tNoPart, tBM, tBM0, tDGet, tDIn, tDNotIn, sDPut, tDNewK, tM0, tM1, tOrT, tAndT, tNotT, tAsg2, tAsg3, gName, rI0, rI, rU, tYes, L2.start, NdefX.startF, List.set_cons_zero, List.set_cons_succ, List.map_cons, List.map_nil, List.length_cons, List.length_nil, Nat.sub_zero, Nat.reduceSub, Nat.reduceAdd, List.replicate_succ, List.replicate_zero, List.cons_append, List.nil_append, List.append_nil, List.getElem?_cons_zero, List.getElem?_cons_succ, Option.some.injEq, exists_eq_left', exists_eq_left, exists_eq_right, exists_eq_right', exists_and_left, exists_and_right, exists_eq, exists_eq', true_and, and_true, V.int.injEq, V.str.injEq, V.bl.injEq, V.ref.injEq, V.ty.injEq, HO.ins.injEq, HO.lst.injEq, HO.tup.injEq, and_assoc, List.cons.injEq, Bool.not_true, Bool.not_false, Bool.false_eq_true, if_false, if_true, cx_K, upd_same, upd_upd, isi_str, req_ii, req_ss, rne_ii, rne_ss, radd_ii, rsub_ii, atI_at, atI_0, atI_1, atI_2, atI_3, atI_4, rLenL, rLenU, rIxLL, rIxU, reduceCtorEq, gTup, gCons, gNil, tFmt_eq, fmtV_str, fmtV_int, tJs_nil, tJs_cons, jsV_str, iKeys_eq, gSub, rSetL, tPart, tNoPart, tSl, rSlL, false_and, exists_false, or_false, false_or, List.set_cons_zero, List.set_cons_succ]; exact q) (fun _ Q q => ?_) fun H7 s7 => ?_
        · refine andT (a := decide (((i + 2 + n : Nat) : Int) < (ws.length : Int))) (b := isWordM (wAt ws (i + 2 + n))) (fun Q q => by simp only [tSeq, tIfS, tOr, tAnd, tNot, tB, tTest, tCB, tCons, tNil, tVar, tC, tOp, tUn, tRet, tRetN, tDrop, tAsg, tPar, tPar3, tNext, tNever, tBreak, tCont, tAug, tChain, tAndV, tOrV, tNotV, tIf, tIsN, tNotN, tTup, tLst, tCallD, tMethD, tMakeD, tFld, tCon, sFld, sFldAug, tCallK, tSl, tPart, tNoPart, tBM, tBM0, tDGet, tDIn, tDNotIn, sDPut, tDNewK, tM0, tM1, tOrT, tAndT, tNotT, tAsg2, tAsg3, gName, rI0, rI, rU, tYes, L2.start, NdefX.startF, List.set_cons_zero, List.set_cons_succ, List.map_cons, List.map_nil, List.length_cons, List.length_nil, Nat.sub_zero, Nat.reduceSub, Nat.reduceAdd, List.replicate_succ, List.replicate_zero, List.cons_append, List.nil_append, List.append_nil, List.getElem?_cons_zero, List.getElem?_cons_succ, Option.some.injEq, exists_eq_left', exists_eq_left, exists_eq_right, exists_eq_right', exists_and_left, exists_and_right, exists_eq, exists_eq', true_and, and_true, V.int.injEq, V.str.injEq, V.bl.injEq, V.ref.injEq, V.ty.injEq, HO.ins.injEq, HO.lst.injEq, HO.tup.injEq, and_assoc, List.cons.injEq, Bool.not_true, Bool.not_false, Bool.false_eq_true, if_false, if_true, cx_K, upd_same, upd_upd, isi_str, req_ii, req_ss, rne_ii, rne_ss, radd_ii, rsub_ii, atI_at, atI_0, atI_1, atI_2, atI_3, atI_4, rLenL, rLenU, rIxLL, rIxU, reduceCtorEq, gTup, gCons, gNil, tFmt_eq, fmtV_str, fmtV_int, tJs_nil, tJs_cons, jsV_str, iKeys_eq, gSub, rSetL, tPart, tNoPart, tSl, rSlL, false_and, exists_false, or_false, false_or, List.set_cons_zero, List.set_cons_succ, ha6, List.length_map]; exact q) (fun hlt Q q => ?_) q
          have hj : i + 2 + n < ws.length := by have := of_decide_eq_true hlt; omega
          have hx := List.getElem?_eq_getElem hj
          have hwj := W.wAt (i + 2 + n)
          simp only [tSeq, tIfS, tOr, tAnd, tNot, tB, tTest, tCB, tCons, tNil, tVar, tC, tOp, tUn, tRet, tRetN, tDrop, tAsg, tPar, tPar3, tNext, tNever, tBreak, tCont, tAug, tChain, tAndV, tOrV, tNotV, tIf, tIsN, tNotN, tTup, tLst, tCallD, tMethD, tMakeD, tFld, tCon, sFld, sFldAug, tCallK, tSl, tPart, tNoPart, tBM, tBM0, tDGet, tDIn, tDNotIn, sDPut, tDNewK, tM0, tM1, tOrT, tAndT, tNotT, tAsg2, tAsg3, gName, rI0, rI, rU, tYes, L2.start, NdefX.startF, List.set_cons_zero, List.set_cons_succ, List.map_cons, List.map_nil, List.length_cons, List.length_nil, Nat.sub_zero, Nat.reduceSub, Nat.reduceAdd, List.replicate_succ, List.replicate_zero, List.cons_append, List.nil_append, List.append_nil, List.getElem?_cons_zero, List.getElem?_cons_succ, Option.some.injEq, exists_eq_left', exists_eq_left, exists_eq_right, exists_eq_right', exists_and_left, exists_and_right, exists_eq, exists_eq', true_and, and_true, V.int.injEq, V.str.injEq, V.bl.injEq, V.ref.injEq, V.ty.injEq, HO.ins.injEq, HO.lst.injEq, HO.tup.injEq, and_assoc, List.cons.injEq, Bool.not_true, Bool.not_false, Bool.false_eq_true, if_false, if_true, cx_K, upd_same, upd_upd, isi_str, req_ii, req_ss, rne_ii, rne_ss, radd_ii, rsub_ii, atI_at, atI_0, atI_1, atI_2, atI_3, atI_4, rLenL, rLenU, rIxLL, rIxU, reduceCtorEq, gTup, gCons, gNil, tFmt_eq, fmtV_str, fmtV_int, tJs_nil, tJs_cons, jsV_str, iKeys_eq, gSub, rSetL, tPart, tNoPart, tSl, rSlL, false_and, exists_false, or_false, false_or, List.set_cons_zero, List.set_cons_succ, ha6]
          refine ⟨.str (wAt ws (i + 2 + n)), by unfold wAt; rw [List.getElem?_map, hx]; rfl, _, rfl, hwj.1, hwj.2, fun H' s' => by simp only [tSeq, tIfS, tOr, tAnd, tNot, tB, tTest, tCB, tCons, tNil, tVar, tC, tOp, tUn, tRet, tRetN, tDrop, tAsg, tPar, tPar3, tNext, tNever, tBreak, tCont, tAug, tChain, tAndV, tOrV, tNotV, tIf, tIsN, tNotN, tTup, tLst, tCallD, tMethD, tMakeD, tFld, tCon, sFld, sFldAug, tCallK, tSl, tPart, tNoPart, tBM, tBM0, tDGet, tDIn, tDNotIn, sDPut, tDNewK, tM0, tM1, tOrT, tAndT, tNotT, tAsg2, tAsg3, gName, rI0, rI, rU, tYes, L2.start, NdefX.startF, List.set_cons_zero, List.set_cons_succ, List.map_cons, List.map_nil, List.length_cons, List.length_nil, Nat.sub_zero, Nat.reduceSub, Nat.reduceAdd, List.replicate_succ, List.replicate_zero, List.cons_append, List.nil_append, List.append_nil, List.getElem?_cons_zero, List.getElem?_cons_succ, Option.some.injEq, exists_eq_left', exists_eq_left, exists_eq_right, exists_eq_right', exists_and_left, exists_and_right, exists_eq, exists_eq', true_and, and_true, V.int.injEq, V.str.injEq, V.bl.injEq, V.ref.injEq, V.ty.injEq, HO.ins.injEq, HO.lst.injEq, HO.tup.injEq, and_assoc, List.cons.injEq, Bool.not_true, Bool.not_false, Bool.false_eq_true, if_false, if_true, cx_K, upd_same, upd_upd, isi_str, req_ii, req_ss, rne_ii, rne_ss, radd_ii, rsub_ii, atI_at, atI_0, atI_1, atI_2, atI_3, atI_4, rLenL, rLenU, rIxLL, rIxU, reduceCtorEq, gTup, gCons, gNil, tFmt_eq, fmtV_str, fmtV_int, tJs_nil, tJs_cons, jsV_str, iKeys_eq, gSub, rSetL, tPart, tNoPart, tSl, rSlL, false_and, exists_false, or_false, false_or, List.set_cons_zero, List.set_cons_succ]; exact q H' s'⟩
        refine ite2 (fun zw => ?_) fun zw => ?_
        · simp only [Bool.and_eq_true, Bool.not_eq_true', decide_eq_false_iff_not, decide_eq_true_eq] at zw
          obtain ⟨hnd, hlt, hwd⟩ := zw
          have hj : i + 2 + n < ws.length := by omega
          have hlt2 : n + 1 < L := by
            rcases hL1 with ⟨h1, _⟩ | ⟨_, _, rfl⟩
            · exact absurd h1 hnd
            · refine (hst hL0 (by omega)).2 ws[i + 2 + n] ?_ ?_
              · rw [show i + 1 + (n + 1) = i + 2 + n by omega]; exact List.getElem?_eq_getElem hj
              · unfold wAt at hwd; rw [List.getElem?_eq_getElem hj] at hwd; exact hwd
          refine ⟨fun σ' H' => ∃ m', m' < m ∧ ∃ n : Nat, n + 1 + m' = L ∧ σ' = [some (.ref a), some (.int i), some (.ref c), some (.ref l), some (.str (wAt ws i)), some (.bl (isCM cs ls (wAt ws i))), some (.bl (isLM cs ls (wAt ws i))), some (.str (wAt ws (i + 1))), some (.int ((i + 2 + n : Nat) : Int))] ∧ Same H5 H', fun _ _ h => h, ?_⟩
          simp only [tSeq, tIfS, tOr, tAnd, tNot, tB, tTest, tCB, tCons, tNil, tVar, tC, tOp, tUn, tRet, tRetN, tDrop, tAsg, tPar, tPar3, tNext, tNever, tBreak, tCont, tAug, tChain, tAndV, tOrV, tNotV, tIf, tIsN, tNotN, tTup, tLst, tCallD, tMethD, tMakeD, tFld, tCon, sFld, sFldAug, tCallK, tSl, tPart, tNoPart, tBM, tBM0, tDGet, tDIn, tDNotIn, sDPut, tDNewK, tM0, tM1, tOrT, tAndT, tNotT, tAsg2, tAsg3, gName, rI0, rI, rU, tYes, L2.start, NdefX.startF, List.set_cons_zero, List.set_cons_succ, List.map_cons, List.map_nil, List.length_cons, List.length_nil, Nat.sub_zero, Nat.reduceSub, Nat.reduceAdd, List.replicate_succ, List.replicate_zero, List.cons_append, List.nil_append, List.append_nil, List.getElem?_cons_zero, List.getElem?_cons_succ, Option.some.injEq, exists_eq_left', exists_eq_left, exists_eq_right, exists_eq_right', exists_and_left, exists_and_right, exists_eq, exists_eq', true_and, and_true, V.int.injEq, V.str.injEq, V.bl.injEq, V.ref.injEq, V.ty.injEq, HO.ins.injEq, HO.lst.injEq, HO.tup.injEq, and_assoc, List.cons.injEq, Bool.not_true, Bool.not_false, Bool.false_eq_true, if_false, if_true, cx_K, upd_same, upd_upd, isi_str, req_ii, req_ss, rne_ii, rne_ss, radd_ii, rsub_ii, atI_at, atI_0, atI_1, atI_2, atI_3, atI_4, rLenL, rLenU, rIxLL, rIxU, reduceCtorEq, gTup, gCons, gNil, tFmt_eq, fmtV_str, fmtV_int, tJs_nil, tJs_cons, jsV_str, iKeys_eq, gSub, rSetL, tPart, tNoPart, tSl, rSlL, false_and, exists_false, or_false, false_or, List.set_cons_zero, List.set_cons_succ]
          exact ⟨m - 1, by omega, n + 1, by omega, by rw [show ((i + 2 + n : Nat) : Int) + 1 = ((i + 2 + (n + 1) : Nat) : Int) by omega], s6.trans s7⟩
        · have hLe : n + 1 = L := by
            rcases hL1 with ⟨h1, rfl⟩ | ⟨h1, h2, rfl⟩
            · omega
            · have : ¬ n + 1 < (saidM ws (i + 1)).length := fun h => by
                obtain ⟨x, hx, hwx, _⟩ := (hst hL0 (by omega)).1 h
                rw [show i + 1 + (n + 1) = i + 2 + n by omega] at hx
                have hj := (List.getElem?_eq_some_iff.mp hx).1
                refine zw ?_
                simp only [Bool.and_eq_true, Bool.not_eq_true', decide_eq_false_iff_not, decide_eq_true_eq]
                exact ⟨h1, by omega, by unfold wAt; rw [hx]; exact hwx⟩
              omega
          dsimp only
          refine hid_in ?_
          simp only [tSeq, tIfS, tOr, tAnd, tNot, tB, tTest, tCB, tCons, tNil, tVar, tC, tOp, tUn, tRet, tRetN, tDrop, tAsg, tPar, tPar3, tNext, tNever, tBreak, tCont, tAug, tChain, tAndV, tOrV, tNotV, tIf, tIsN, tNotN, tTup, tLst, tCallD, tMethD, tMakeD, tFld, tCon, sFld, sFldAug, tCallK, tSl, tPart, tNoPart, tBM, tBM0, tDGet, tDIn, tDNotIn, sDPut, tDNewK, tM0, tM1, tOrT, tAndT, tNotT, tAsg2, tAsg3, gName, rI0, rI, rU, tYes, L2.start, NdefX.startF, List.set_cons_zero, List.set_cons_succ, List.map_cons, List.map_nil, List.length_cons, List.length_nil, Nat.sub_zero, Nat.reduceSub, Nat.reduceAdd, List.replicate_succ, List.replicate_zero, List.cons_append, List.nil_append, List.append_nil, List.getElem?_cons_zero, List.getElem?_cons_succ, Option.some.injEq, exists_eq_left', exists_eq_left, exists_eq_right, exists_eq_right', exists_and_left, exists_and_right, exists_eq, exists_eq', true_and, and_true, V.int.injEq, V.str.injEq, V.bl.injEq, V.ref.injEq, V.ty.injEq, HO.ins.injEq, HO.lst.injEq, HO.tup.injEq, and_assoc, List.cons.injEq, Bool.not_true, Bool.not_false, Bool.false_eq_true, if_false, if_true, cx_K, upd_same, upd_upd, isi_str, req_ii, req_ss, rne_ii, rne_ss, radd_ii, rsub_ii, atI_at, atI_0, atI_1, atI_2, atI_3, atI_4, rLenL, rLenU, rIxLL, rIxU, reduceCtorEq, gTup, gCons, gNil, tFmt_eq, fmtV_str, fmtV_int, tJs_nil, tJs_cons, jsV_str, iKeys_eq, gSub, rSetL, tPart, tNoPart, tSl, rSlL, false_and, exists_false, or_false, false_or, List.set_cons_zero, List.set_cons_succ]
          refine ⟨sz_le (by decide), fun t ht => fin t _ (s6.trans (same_new s7 ht)) ?_⟩
          rw [upd_same, show i + 1 + L = i + 2 + n by omega]
          rfl
end
end Ky

set_option Elab.async false
set_option maxRecDepth 100000
set_option maxHeartbeats 4000000
set_option linter.all false
namespace Ky
open PySem L2 Ly
def spAfterEnd : Sp := fun vs H Q _ => ∃ (a : Addr) (ws : List Str) (i : Nat), vs = [.ref a, .int i] ∧ Wds H a ws ∧ ws.length ≤ 50000 ∧ i ≤ ws.length ∧
  (∀ k, endM ws i = .inl k → ∀ t H', Same H H' → H' t = some (pairV k false) → Q (.ref t) H') ∧
  ∀ j e, endM ws i = .inr (j, e) → ∀ t H', Same H H' → H' t = some (pairV j true) → i < j → j ≤ ws.length → Q (.ref t) H'
def dueV : Nat ⊕ List EndD → V
  | .inl k => .int k
  | .inr _ => .non
def spDue : Sp := fun vs H Q _ => ∃ z : Str, vs = [.str z] ∧ z.length ≤ 40000 ∧ (∀ x ∈ Txt.split z " ", PyData.strOk x = true) ∧ ∀ H', Same H H' → Q (dueV (endsM (Txt.split z " "))) H'
section
variable {w : World} {K : PySem.W.Frag} {mg : Str → Option Value} {base : Heap} {aK aF CB CP CE CW : Addr}
theorem wAt_ne {ws : List Str} {i : Nat} (h : ws.length ≤ i) : wAt ws i = "" := by unfold wAt; rw [List.getElem?_eq_none h]; rfl
theorem wAt_at {ws : List Str} {i : Nat} (h : i < ws.length) : (ws.map V.str)[i]? = some (.str (wAt ws i)) ∧ ws[i]? = some (wAt ws i) := by
  unfold wAt
  rw [List.getElem?_map, List.getElem?_eq_getElem h]
  exact ⟨rfl, rfl⟩
def EInv (a c l : Addr) (ws : List Str) (i : Nat) (f : Option Str) (rv : Option V) (H : Hp) (m : Nat) (σ : L2.St) (H' : Hp) : Prop := ∃ (j : Nat) (cs : CsL) (ls : LsL) (rv : Option V), σ = [some (.ref a), some (.int i), some (.int j), some (.ref c), some (.ref l), rv] ∧ Same H H' ∧ H' c = some (.lst ((cs.map (·.1)).map V.str)) ∧ H' l = some (.lst ((ls.map (·.1)).map V.str)) ∧
  TabOk j cs ls ∧ loopM ws f m j cs ls = endM ws i ∧ ws.length < j + m ∧ i < j ∧ j ≤ ws.length
abbrev s__law_after_end : Stmt := top 31
theorem sc__law_after_end : FnScope ["_law_words", "_law_spot", "_law_behind", "_law_cells_so", "_law_logs_so", "_law_is_right"] ["_law_words", "_law_spot"] (defScope s__law_after_end) := ⟨rfl, rfl, rfl, by decide +kernel, rfl, by decide +kernel, by decide +kernel⟩
theorem ok_lend {f : Addr} {fd : FuncData} (F : Fun K "_law_after_end" "_law_after_end" s__law_after_end f fd) (T : Tx K mg aK aF) (D__law_is_name : Df PP w K mg base 2 "_law_is_name" ["_law_word"] spLIsName) (D__law_after_thing : Df PP w K mg base 3 "_law_after_thing" ["_law_words", "_law_spot", "_law_cells_so", "_law_logs_so"] spAfterThing) :
    FnOk PP w K mg base (L2.CX PP w) 4 f fd ["_law_words", "_law_spot"] spAfterEnd := by
  refine F.okX sc__law_after_end (fun vs H Q E h => ?_) (fun cdv A outer s H vs Q E hr h => ?_)
  · obtain ⟨a, ws, i, rfl, _⟩ := h; rfl
  · obtain ⟨a, ws, i, rfl, W, hn, hi, er, k⟩ := h
    have ha := W.at_
    refine ⟨_, (pss_cons (ps_if (PW.pt (pw_or (pt_cmpR op_ge (pv 1) (pe_callB call_lenL (by rfl) T.len (by decide +kernel) (pa_cons (pv 0) pa_nil)) (nomark _)) (pw_or1 (pt_cmpR op_notIn_seq (pe_ix ix_LL (pv 0) (pv 1) (fun _ _ => rfl)) (pe_tup (pa_cons pe_str (pa_cons pe_str pa_nil))) (by rfl))))) (pss_one (ps_ret (pe_tup (pa_cons (pv 1) (pa_cons pe_bl pa_nil))))) pss_nil)
      (pss_hid (pss_cons (ps_par3 (i := 2) (j := 3) (l := 4) (by rfl) sc__law_after_end.nd rfl rfl rfl (by decide) (by decide) (by decide) rfl rfl rfl (pa_cons (pe_op op_add (pv 1) pe_int) (pa_cons (pe_lst pa_nil) (pa_cons (pe_lst pa_nil) pa_nil))) (by rfl))
      (pss_hid (pss_cons (ps_if (pt_cmpR op_eq (pe_ix ix_LL (pv 0) (pv 1) (fun _ _ => rfl)) pe_str (nomark _)) (pss_cons (ps_if (PW.pt (pw_or (pt_cmpR op_ge (pv 2) (pe_callB call_lenL (by rfl) T.len (by decide +kernel) (pa_cons (pv 0) pa_nil)) (nomark _)) (pw_or1 (pt_not (pt_val (pe_df D__law_is_name (hr.mono (by decide)) passL (pa_cons (pe_ix ix_LL (pv 0) (pv 2) (fun _ _ => rfl)) pa_nil))))))) (pss_one (ps_ret (pe_tup (pa_cons (pv 2) (pa_cons pe_bl pa_nil))))) pss_nil)
      (pss_hid (pss_one (ps_set (i := 2) sc__law_after_end.nd rfl (Or.inl rfl) (pe_op op_add (pv 2) pe_int))))) pss_nil)
      (pss_hid (pss_cons (ps_while (passes_of rfl) (PW.pt (pw_and (pt_cmpR op_lt (pv 2) (pe_callB call_lenL (by rfl) T.len (by decide +kernel) (pa_cons (pv 0) pa_nil)) (nomark _)) (pw_and1 (pt_cmpR op_eq (pe_ix ix_LL (pv 0) (pv 2) (fun _ _ => rfl)) pe_str (nomark _))))) (pss_cons (ps_asg (pe_df D__law_after_thing (hr.mono (by decide)) passL (pa_cons (pv 0) (pa_cons (pe_op op_add (pv 2) pe_int) (pa_cons (pv 3) (pa_cons (pv 4) pa_nil))))) (pg_tup (n := 2) (by rfl) (pgs_cons (pg_name (i := 2) sc__law_after_end.nd rfl (Or.inl rfl)) (pgs_cons (pg_name (i := 5) sc__law_after_end.nd rfl (Or.inl rfl)) pgs_nil))))
      (pss_hid (pss_one (ps_if (pt_not (pt_val (pv 5))) (pss_one (ps_ret (pe_tup (pa_cons (pv 2) (pa_cons pe_bl pa_nil))))) pss_nil)))))
      (pss_hid (pss_one (ps_ret (pe_tup (pa_cons (pv 2) (pa_cons pe_bl pa_nil))))))))))))), ?_⟩
    simp only [tSeq, tIfS, tNot, tB, tTest, tCB, tCons, tNil, tVar, tC, tOp, tUn, tRet, tRetN, tDrop, tAsg, tPar, tPar3, tNext, tNever, tBreak, tCont, tAug, tChain, tAndV, tOrV, tNotV, tIf, tIsN, tNotN, tTup, tLst, tCallD, tMethD, tMakeD, tFld, tCon, sFld, sFldAug, tCallK, tSl, tPart, tNoPart, tBM, tBM0, tDGet, tDIn, tDNotIn, sDPut, tDNewK, tM0, tM1, tOrT, tAndT, tNotT, tAsg2, tAsg3, gName, rI0, rI, rU, tYes, L2.start, NdefX.startF, List.set_cons_zero, List.set_cons_succ, List.map_cons, List.map_nil, List.length_cons, List.length_nil, Nat.sub_zero, Nat.reduceSub, Nat.reduceAdd, List.replicate_succ, List.replicate_zero, List.cons_append, List.nil_append, List.append_nil, List.getElem?_cons_zero, List.getElem?_cons_succ, Option.some.injEq, exists_eq_left', exists_eq_left, exists_eq_right, exists_eq_right', exists_and_left, exists_and_right, exists_eq, exists_eq', true_and, and_true, V.int.injEq, V.str.injEq, V.bl.injEq, V.ref.injEq, V.ty.injEq, HO.ins.injEq, HO.lst.injEq, HO.tup.injEq, and_assoc, List.cons.injEq, Bool.not_true, Bool.not_false, Bool.false_eq_true, if_false, if_true, cx_K, upd_same, upd_upd, isi_str, req_ii, req_ss, rne_ii, rne_ss, radd_ii, rsub_ii, atI_at, atI_0, atI_1, atI_2, atI_3, atI_4, rLenL, rLenU, rIxLL, rIxU, reduceCtorEq, gTup, gCons, gNil, tFmt_eq, fmtV_str, fmtV_int, tJs_nil, tJs_cons, jsV_str, iKeys_eq, gSub, rSetL, tPart, tNoPart, tSl, rSlL, false_and, exists_false, or_false, false_or, List.set_cons_zero, List.set_cons_succ, ha, List.length_map]
    refine orT (a := decide ((ws.length : Int) ≤ (i : Int))) (b := !decide (wAt ws i ∈ (["done", "failed"] : List Str))) (fun Q q => by simp only [tSeq, tIfS, tOr, tAnd, tNot, tB, tTest, tCB, tCons, tNil, tVar, tC, tOp, tUn, tRet, tRetN, tDrop, tAsg, tPar, tPar3, tNext, tNever, tBreak, tCont, tAug, tChain, tAndV, tOrV, tNotV, tIf, tIsN, tNotN, tTup, tLst, tCallD, tMethD, tMakeD, tFld, tCon, sFld, sFldAug, tCallK, tSl, tPart, tNoPart, tBM, tBM0, tDGet, tDIn, tDNotIn, sDPut, tDNewK, tM0, tM1, tOrT, tAndT, tNotT, tAsg2, tAsg3, gName, rI0, rI, rU, tYes, L2.start, NdefX.startF, List.set_cons_zero, List.set_cons_succ, List.map_cons, List.map_nil, List.length_cons, List.length_nil, Nat.sub_zero, Nat.reduceSub, Nat.reduceAdd, List.replicate_succ, List.replicate_zero, List.cons_append, List.nil_append, List.append_nil, List.getElem?_cons_zero, List.getElem?_cons_succ, Option.some.injEq, exists_eq_left', exists_eq_left, exists_eq_right, exists_eq_right', exists_and_left, exists_and_right, exists_eq, exists_eq', true_and, and_true, V.int.injEq, V.str.injEq, V.bl.injEq, V.ref.injEq, V.ty.injEq, HO.ins.injEq, HO.lst.injEq, HO.tup.injEq, and_assoc, List.cons.injEq, Bool.not_true, Bool.not_false, Bool.false_eq_true, if_false, if_true, cx_K, upd_same, upd_upd, isi_str, req_ii, req_ss, rne_ii, rne_ss, radd_ii, rsub_ii, atI_at, atI_0, atI_1, atI_2, atI_3, atI_4, rLenL, rLenU, rIxLL, rIxU, reduceCtorEq, gTup, gCons, gNil, tFmt_eq, fmtV_str, fmtV_int, tJs_nil, tJs_cons, jsV_str, iKeys_eq, gSub, rSetL, tPart, tNoPart, tSl, rSlL, false_and, exists_false, or_false, false_or, List.set_cons_zero, List.set_cons_succ, ha, List.length_map]; exact q) (fun hlt Q q => ?_) fun H1 s1 => ?_
    · have hi2 : i < ws.length := by have := of_decide_eq_false hlt; omega
      simp only [tSeq, tIfS, tOr, tAnd, tNot, tB, tTest, tCB, tCons, tNil, tVar, tC, tOp, tUn, tRet, tRetN, tDrop, tAsg, tPar, tPar3, tNext, tNever, tBreak, tCont, tAug, tChain, tAndV, tOrV, tNotV, tIf, tIsN, tNotN, tTup, tLst, tCallD, tMethD, tMakeD, tFld, tCon, sFld, sFldAug, tCallK, tSl, tPart, tNoPart, tBM, tBM0, tDGet, tDIn, tDNotIn, sDPut, tDNewK, tM0, tM1, tOrT, tAndT, tNotT, tAsg2, tAsg3, gName, rI0, rI, rU, tYes, L2.start, NdefX.startF, List.set_cons_zero, List.set_cons_succ, List.map_cons, List.map_nil, List.length_cons, List.length_nil, Nat.sub_zero, Nat.reduceSub, Nat.reduceAdd, List.replicate_succ, List.replicate_zero, List.cons_append, List.nil_append, List.append_nil, List.getElem?_cons_zero, List.getElem?_cons_succ, Option.some.injEq, exists_eq_left', exists_eq_left, exists_eq_right, exists_eq_right', exists_and_left, exists_and_right, exists_eq, exists_eq', true_and, and_true, V.int.injEq, V.str.injEq, V.bl.injEq, V.ref.injEq, V.ty.injEq, HO.ins.injEq, HO.lst.injEq, HO.tup.injEq, and_assoc, List.cons.injEq, Bool.not_true, Bool.not_false, Bool.false_eq_true, if_false, if_true, cx_K, upd_same, upd_upd, isi_str, req_ii, req_ss, rne_ii, rne_ss, radd_ii, rsub_ii, atI_at, atI_0, atI_1, atI_2, atI_3, atI_4, rLenL, rLenU, rIxLL, rIxU, reduceCtorEq, gTup, gCons, gNil, tFmt_eq, fmtV_str, fmtV_int, tJs_nil, tJs_cons, jsV_str, iKeys_eq, gSub, rSetL, tPart, tNoPart, tSl, rSlL, false_and, exists_false, or_false, false_or, List.set_cons_zero, List.set_cons_succ, ha]
      refine ⟨_, (wAt_at hi2).1, sz_le (by decide), fun p hp => rIn_strs (ys := ["done", "failed"]) (.inr (SqT.of upd_same)) ?_⟩
      simp only [tSeq, tIfS, tOr, tAnd, tNot, tB, tTest, tCB, tCons, tNil, tVar, tC, tOp, tUn, tRet, tRetN, tDrop, tAsg, tPar, tPar3, tNext, tNever, tBreak, tCont, tAug, tChain, tAndV, tOrV, tNotV, tIf, tIsN, tNotN, tTup, tLst, tCallD, tMethD, tMakeD, tFld, tCon, sFld, sFldAug, tCallK, tSl, tPart, tNoPart, tBM, tBM0, tDGet, tDIn, tDNotIn, sDPut, tDNewK, tM0, tM1, tOrT, tAndT, tNotT, tAsg2, tAsg3, gName, rI0, rI, rU, tYes, L2.start, NdefX.startF, List.set_cons_zero, List.set_cons_succ, List.map_cons, List.map_nil, List.length_cons, List.length_nil, Nat.sub_zero, Nat.reduceSub, Nat.reduceAdd, List.replicate_succ, List.replicate_zero, List.cons_append, List.nil_append, List.append_nil, List.getElem?_cons_zero, List.getElem?_cons_succ, Option.some.injEq, exists_eq_left', exists_eq_left, exists_eq_right, exists_eq_right', exists_and_left, exists_and_right, exists_eq, exists_eq', true_and, and_true, V.int.injEq, V.str.injEq, V.bl.injEq, V.ref.injEq, V.ty.injEq, HO.ins.injEq, HO.lst.injEq, HO.tup.injEq, and_assoc, List.cons.injEq, Bool.not_true, Bool.not_false, Bool.false_eq_true, if_false, if_true, cx_K, upd_same, upd_upd, isi_str, req_ii, req_ss, rne_ii, rne_ss, radd_ii, rsub_ii, atI_at, atI_0, atI_1, atI_2, atI_3, atI_4, rLenL, rLenU, rIxLL, rIxU, reduceCtorEq, gTup, gCons, gNil, tFmt_eq, fmtV_str, fmtV_int, tJs_nil, tJs_cons, jsV_str, iKeys_eq, gSub, rSetL, tPart, tNoPart, tSl, rSlL, false_and, exists_false, or_false, false_or, List.set_cons_zero, List.set_cons_succ]
      exact q _ (same_upd hp)
    have hd0 : ¬ ("" : Str) = "done" := by decide +kernel
    have hf0 : ¬ ("" : Str) = "failed" := by decide +kernel
    refine ite2 (fun z => ?_) fun z => ?_
    · refine ⟨sz_le (by decide), fun t ht => er i ?_ t _ (same_new s1 ht) upd_same⟩
      simp only [Bool.or_eq_true, decide_eq_true_eq, Bool.not_eq_true', decide_eq_false_iff_not, List.mem_cons, List.not_mem_nil, or_false, not_or] at z
      unfold endM
      rcases z with h | ⟨h1, h2⟩
      · rw [wAt_ne (by omega), if_neg hd0, if_neg hf0]
      · rw [if_neg h1, if_neg h2]
    simp only [Bool.or_eq_true, decide_eq_true_eq, Bool.not_eq_true', decide_eq_false_iff_not, List.mem_cons, List.not_mem_nil, or_false, not_or, Decidable.not_not] at z
    obtain ⟨hi1, hdf⟩ := z
    have hi2 : i < ws.length := by omega
    refine hid_in ?_
    simp only [tSeq, tIfS, tOr, tAnd, tNot, tB, tTest, tCB, tCons, tNil, tVar, tC, tOp, tUn, tRet, tRetN, tDrop, tAsg, tPar, tPar3, tNext, tNever, tBreak, tCont, tAug, tChain, tAndV, tOrV, tNotV, tIf, tIsN, tNotN, tTup, tLst, tCallD, tMethD, tMakeD, tFld, tCon, sFld, sFldAug, tCallK, tSl, tPart, tNoPart, tBM, tBM0, tDGet, tDIn, tDNotIn, sDPut, tDNewK, tM0, tM1, tOrT, tAndT, tNotT, tAsg2, tAsg3, gName, rI0, rI, rU, tYes, L2.start, NdefX.startF, List.set_cons_zero, List.set_cons_succ, List.map_cons, List.map_nil, List.length_cons, List.length_nil, Nat.sub_zero, Nat.reduceSub, Nat.reduceAdd, List.replicate_succ, List.replicate_zero, List.cons_append, List.nil_append, List.append_nil, List.getElem?_cons_zero, List.getElem?_cons_succ, Option.some.injEq, exists_eq_left', exists_eq_left, exists_eq_right, exists_eq_right', exists_and_left, exists_and_right, exists_eq, exists_eq', true_and, and_true, V.int.injEq, V.str.injEq, V.bl.injEq, V.ref.injEq, V.ty.injEq, HO.ins.injEq, HO.lst.injEq, HO.tup.injEq, and_assoc, List.cons.injEq, Bool.not_true, Bool.not_false, Bool.false_eq_true, if_false, if_true, cx_K, upd_same, upd_upd, isi_str, req_ii, req_ss, rne_ii, rne_ss, radd_ii, rsub_ii, atI_at, atI_0, atI_1, atI_2, atI_3, atI_4, rLenL, rLenU, rIxLL, rIxU, reduceCtorEq, gTup, gCons, gNil, tFmt_eq, fmtV_str, fmtV_int, tJs_nil, tJs_cons, jsV_str, iKeys_eq, gSub, rSetL, tPart, tNoPart, tSl, rSlL, false_and, exists_false, or_false, false_or, List.set_cons_zero, List.set_cons_succ]
    refine ⟨Nat.zero_le _, fun c hc => ⟨Nat.zero_le _, fun l hl => ?_⟩⟩
    have hlc : l ≠ c := fun e => by rw [e, upd_same] at hl; cases hl
    have hl1 : H1 l = none := by rw [upd_ne hlc] at hl; exact hl
    have hc0 : H c = none := by
      cases e : H c with
      | none => rfl
      | some o => rw [s1 _ _ e] at hc; cases hc
    have hl0 : H l = none := by
      cases e : H l with
      | none => rfl
      | some o => rw [s1 _ _ e] at hl1; cases hl1
    have s2 : Same H (upd (upd H1 c (.lst [])) l (.lst [])) := s1.trans (same_new (same_upd hc) hl)
    have gc : upd (upd H1 c (.lst [])) l (.lst []) c = some (.lst []) := by rw [upd_ne hlc.symm, upd_same]
    have gl : upd (upd H1 c (.lst [])) l (.lst []) l = some (.lst []) := upd_same
    generalize upd (upd H1 c (.lst [])) l (.lst []) = H2 at s2 gc gl ⊢
    have ha2 := s2 _ _ ha
    refine hid_in ?_
    simp only [tSeq, tIfS, tNot, tB, tTest, tCB, tCons, tNil, tVar, tC, tOp, tUn, tRet, tRetN, tDrop, tAsg, tPar, tPar3, tNext, tNever, tBreak, tCont, tAug, tChain, tAndV, tOrV, tNotV, tIf, tIsN, tNotN, tTup, tLst, tCallD, tMethD, tMakeD, tFld, tCon, sFld, sFldAug, tCallK, tSl, tPart, tNoPart, tBM, tBM0, tDGet, tDIn, tDNotIn, sDPut, tDNewK, tM0, tM1, tOrT, tAndT, tNotT, tAsg2, tAsg3, gName, rI0, rI, rU, tYes, L2.start, NdefX.startF, List.set_cons_zero, List.set_cons_succ, List.map_cons, List.map_nil, List.length_cons, List.length_nil, Nat.sub_zero, Nat.reduceSub, Nat.reduceAdd, List.replicate_succ, List.replicate_zero, List.cons_append, List.nil_append, List.append_nil, List.getElem?_cons_zero, List.getElem?_cons_succ, Option.some.injEq, exists_eq_left', exists_eq_left, exists_eq_right, exists_eq_right', exists_and_left, exists_and_right, exists_eq, exists_eq', true_and, and_true, V.int.injEq, V.str.injEq, V.bl.injEq, V.ref.injEq, V.ty.injEq, HO.ins.injEq, HO.lst.injEq, HO.tup.injEq, and_assoc, List.cons.injEq, Bool.not_true, Bool.not_false, Bool.false_eq_true, if_false, if_true, cx_K, upd_same, upd_upd, isi_str, req_ii, req_ss, rne_ii, rne_ss, radd_ii, rsub_ii, atI_at, atI_0, atI_1, atI_2, atI_3, atI_4, rLenL, rLenU, rIxLL, rIxU, reduceCtorEq, gTup, gCons, gNil, tFmt_eq, fmtV_str, fmtV_int, tJs_nil, tJs_cons, jsV_str, iKeys_eq, gSub, rSetL, tPart, tNoPart, tSl, rSlL, false_and, exists_false, or_false, false_or, List.set_cons_zero, List.set_cons_succ, ha2, List.length_map]
    generalize hR : hid (tSeq (tWhile _ _) _) = R
    have rest : ∀ (f : Option Str) (j0 : Nat) (H3 : Hp), Same H2 H3 → endM ws i = loopM ws f (ws.length + 1) j0 [] [] → i < j0 → j0 ≤ ws.length →
        R { nx := fun x H' => Q V.non H', rt := Q } [some (.ref a), some (.int i), some (.int j0), some (.ref c), some (.ref l), none] H3 := fun f j0 H3 s3 hth hi0 hj0 => by
      rw [← hR]
      refine hid_in ?_
      refine ⟨EInv a c l ws i f none H, ⟨ws.length + 1, j0, [], [], none, rfl, s2.trans s3, s3 _ _ gc, s3 _ _ gl, TabOk.nil _, hth.symm, by omega, hi0, hj0⟩, ?_⟩
      rintro m σ H4 ⟨j, cs, ls, rv, rfl, s4, g4c, g4l, ok4, hl4, hm, hij, hjl⟩
      have ha4 := s4 _ _ ha
      refine andT (a := decide ((j : Int) < (ws.length : Int))) (b := decide (wAt ws j = ";")) (fun Q q => by simp only [tSeq, tIfS, tOr, tAnd, tNot, tB, tTest, tCB, tCons, tNil, tVar, tC, tOp, tUn, tRet, tRetN, tDrop, tAsg, tPar, tPar3, tNext, tNever, tBreak, tCont, tAug, tChain, tAndV, tOrV, tNotV, tIf, tIsN, tNotN, tTup, tLst, tCallD, tMethD, tMakeD, tFld, tCon, sFld, sFldAug, tCallK, tSl, tPart, tNoPart, tBM, tBM0, tDGet, tDIn, tDNotIn, sDPut, tDNewK, tM0, tM1, tOrT, tAndT, tNotT, tAsg2, tAsg3, gName, rI0, rI, rU, tYes, L2.start, NdefX.startF, List.set_cons_zero, List.set_cons_succ, List.map_cons, List.map_nil, List.length_cons, List.length_nil, Nat.sub_zero, Nat.reduceSub, Nat.reduceAdd, List.replicate_succ, List.replicate_zero, List.cons_append, List.nil_append, List.append_nil, List.getElem?_cons_zero, List.getElem?_cons_succ, Option.some.injEq, exists_eq_left', exists_eq_left, exists_eq_right, exists_eq_right', exists_and_left, exists_and_right, exists_eq, exists_eq', true_and, and_true, V.int.injEq, V.str.injEq, V.bl.injEq, V.ref.injEq, V.ty.injEq, HO.ins.injEq, HO.lst.injEq, HO.tup.injEq, and_assoc, List.cons.injEq, Bool.not_true, Bool.not_false, Bool.false_eq_true, if_false, if_true, cx_K, upd_same, upd_upd, isi_str, req_ii, req_ss, rne_ii, rne_ss, radd_ii, rsub_ii, atI_at, atI_0, atI_1, atI_2, atI_3, atI_4, rLenL, rLenU, rIxLL, rIxU, reduceCtorEq, gTup, gCons, gNil, tFmt_eq, fmtV_str, fmtV_int, tJs_nil, tJs_cons, jsV_str, iKeys_eq, gSub, rSetL, tPart, tNoPart, tSl, rSlL, false_and, exists_false, or_false, false_or, List.set_cons_zero, List.set_cons_succ, ha4, List.length_map]; exact q) (fun hlt Q q => ?_) fun H5 s5 => ?_
      · have hj2 : j < ws.length := by have := of_decide_eq_true hlt; omega
        simp only [tSeq, tIfS, tOr, tAnd, tNot, tB, tTest, tCB, tCons, tNil, tVar, tC, tOp, tUn, tRet, tRetN, tDrop, tAsg, tPar, tPar3, tNext, tNever, tBreak, tCont, tAug, tChain, tAndV, tOrV, tNotV, tIf, tIsN, tNotN, tTup, tLst, tCallD, tMethD, tMakeD, tFld, tCon, sFld, sFldAug, tCallK, tSl, tPart, tNoPart, tBM, tBM0, tDGet, tDIn, tDNotIn, sDPut, tDNewK, tM0, tM1, tOrT, tAndT, tNotT, tAsg2, tAsg3, gName, rI0, rI, rU, tYes, L2.start, NdefX.startF, List.set_cons_zero, List.set_cons_succ, List.map_cons, List.map_nil, List.length_cons, List.length_nil, Nat.sub_zero, Nat.reduceSub, Nat.reduceAdd, List.replicate_succ, List.replicate_zero, List.cons_append, List.nil_append, List.append_nil, List.getElem?_cons_zero, List.getElem?_cons_succ, Option.some.injEq, exists_eq_left', exists_eq_left, exists_eq_right, exists_eq_right', exists_and_left, exists_and_right, exists_eq, exists_eq', true_and, and_true, V.int.injEq, V.str.injEq, V.bl.injEq, V.ref.injEq, V.ty.injEq, HO.ins.injEq, HO.lst.injEq, HO.tup.injEq, and_assoc, List.cons.injEq, Bool.not_true, Bool.not_false, Bool.false_eq_true, if_false, if_true, cx_K, upd_same, upd_upd, isi_str, req_ii, req_ss, rne_ii, rne_ss, radd_ii, rsub_ii, atI_at, atI_0, atI_1, atI_2, atI_3, atI_4, rLenL, rLenU, rIxLL, rIxU, reduceCtorEq, gTup, gCons, gNil, tFmt_eq, fmtV_str, fmtV_int, tJs_nil, tJs_cons, jsV_str, iKeys_eq, gSub, rSetL, tPart, tNoPart, tSl, rSlL, false_and, exists_false, or_false, false_or, List.set_cons_zero, List.set_cons_succ, ha4]
        refine ⟨_, (wAt_at hj2).1, ?_⟩
        simp only [tSeq, tIfS, tOr, tAnd, tNot, tB, tTest, tCB, tCons, tNil, tVar, tC, tOp, tUn, tRet, tRetN, tDrop, tAsg, tPar, tPar3, tNext, tNever, tBreak, tCont, tAug, tChain, tAndV, tOrV, tNotV, tIf, tIsN, tNotN, tTup, tLst, tCallD, tMethD, tMakeD, tFld, tCon, sFld, sFldAug, tCallK, tSl, tPart, tNoPart, tBM, tBM0, tDGet, tDIn, tDNotIn, sDPut, tDNewK, tM0, tM1, tOrT, tAndT, tNotT, tAsg2, tAsg3, gName, rI0, rI, rU, tYes, L2.start, NdefX.startF, List.set_cons_zero, List.set_cons_succ, List.map_cons, List.map_nil, List.length_cons, List.length_nil, Nat.sub_zero, Nat.reduceSub, Nat.reduceAdd, List.replicate_succ, List.replicate_zero, List.cons_append, List.nil_append, List.append_nil, List.getElem?_cons_zero, List.getElem?_cons_succ, Option.some.injEq, exists_eq_left', exists_eq_left, exists_eq_right, exists_eq_right', exists_and_left, exists_and_right, exists_eq, exists_eq', true_and, and_true, V.int.injEq, V.str.injEq, V.bl.injEq, V.ref.injEq, V.ty.injEq, HO.ins.injEq, HO.lst.injEq, HO.tup.injEq, and_assoc, List.cons.injEq, Bool.not_true, Bool.not_false, Bool.false_eq_true, if_false, if_true, cx_K, upd_same, upd_upd, isi_str, req_ii, req_ss, rne_ii, rne_ss, radd_ii, rsub_ii, atI_at, atI_0, atI_1, atI_2, atI_3, atI_4, rLenL, rLenU, rIxLL, rIxU, reduceCtorEq, gTup, gCons, gNil, tFmt_eq, fmtV_str, fmtV_int, tJs_nil, tJs_cons, jsV_str, iKeys_eq, gSub, rSetL, tPart, tNoPart, tSl, rSlL, false_and, exists_false, or_false, false_or, List.set_cons_zero, List.set_cons_succ]
        exact q _ (Same.refl _)
      have s45 := s4.trans s5
      have ha5 := s45 _ _ ha
      have hs0 : ¬ ("" : Str) = ";" := by decide +kernel
      refine ite2 (fun z => ?_) fun z => ?_
      · simp only [Bool.and_eq_true, decide_eq_true_eq] at z
        have hj2 : j < ws.length := by omega
        have hs : ws[j]? = some (";" : Str) := by rw [(wAt_at hj2).2, z.2]
        obtain ⟨m1, rfl⟩ : ∃ m1, m = m1 + 1 := ⟨m - 1, by omega⟩
        unfold loopM at hl4
        rw [if_pos hs] at hl4
        refine ⟨fun σ' H' => ∃ m', m' < m1 + 1 ∧ EInv a c l ws i f none H m' σ' H', fun _ _ h => h, ?_⟩
        simp only [tSeq, tIfS, tOr, tAnd, tNot, tB, tTest, tCB, tCons, tNil, tVar, tC, tOp, tUn, tRet, tRetN, tDrop, tAsg, tPar, tPar3, tNext, tNever, tBreak, tCont, tAug, tChain, tAndV, tOrV, tNotV, tIf, tIsN, tNotN, tTup, tLst, tCallD, tMethD, tMakeD, tFld, tCon, sFld, sFldAug, tCallK, tSl, tPart, tNoPart, tBM, tBM0, tDGet, tDIn, tDNotIn, sDPut, tDNewK, tM0, tM1, tOrT, tAndT, tNotT, tAsg2, tAsg3, gName, rI0, rI, rU, tYes, L2.start, NdefX.startF, List.set_cons_zero, List.set_cons_succ, List.map_cons, List.map_nil, List.length_cons, List.length_nil, Nat.sub_zero, Nat.reduceSub, Nat.reduceAdd, List.replicate_succ, List.replicate_zero, List.cons_append, List.nil_append, List.append_nil, List.getElem?_cons_zero, List.getElem?_cons_succ, Option.some.injEq, exists_eq_left', exists_eq_left, exists_eq_right, exists_eq_right', exists_and_left, exists_and_right, exists_eq, exists_eq', true_and, and_true, V.int.injEq, V.str.injEq, V.bl.injEq, V.ref.injEq, V.ty.injEq, HO.ins.injEq, HO.lst.injEq, HO.tup.injEq, and_assoc, List.cons.injEq, Bool.not_true, Bool.not_false, Bool.false_eq_true, if_false, if_true, cx_K, upd_same, upd_upd, isi_str, req_ii, req_ss, rne_ii, rne_ss, radd_ii, rsub_ii, atI_at, atI_0, atI_1, atI_2, atI_3, atI_4, rLenL, rLenU, rIxLL, rIxU, reduceCtorEq, gTup, gCons, gNil, tFmt_eq, fmtV_str, fmtV_int, tJs_nil, tJs_cons, jsV_str, iKeys_eq, gSub, rSetL, tPart, tNoPart, tSl, rSlL, false_and, exists_false, or_false, false_or, List.set_cons_zero, List.set_cons_succ]
        have hca : c ≠ a := ne_of_none ha hc0 |>.symm
        have hla : l ≠ a := ne_of_none ha hl0 |>.symm
        refine ⟨a, c, l, ws, j + 1, cs, ls, by rw [show ((j + 1 : Nat) : Int) = (j : Int) + 1 by omega], ⟨ha5, W.ok⟩, s5 _ _ g4c, s5 _ _ g4l, hlc.symm, hca, hla, by omega, ok4.mono (by omega), by omega, fun kk hkk t H6 s6 ht => ?_, fun j2 cs2 ls2 h2 t H6 k6 e6c e6l ht => ?_⟩
        · refine ⟨t, rfl, _, SqT.of ht, rfl, ?_⟩
          simp only [tSeq, tIfS, tOr, tAnd, tNot, tB, tTest, tCB, tCons, tNil, tVar, tC, tOp, tUn, tRet, tRetN, tDrop, tAsg, tPar, tPar3, tNext, tNever, tBreak, tCont, tAug, tChain, tAndV, tOrV, tNotV, tIf, tIsN, tNotN, tTup, tLst, tCallD, tMethD, tMakeD, tFld, tCon, sFld, sFldAug, tCallK, tSl, tPart, tNoPart, tBM, tBM0, tDGet, tDIn, tDNotIn, sDPut, tDNewK, tM0, tM1, tOrT, tAndT, tNotT, tAsg2, tAsg3, gName, rI0, rI, rU, tYes, L2.start, NdefX.startF, List.set_cons_zero, List.set_cons_succ, List.map_cons, List.map_nil, List.length_cons, List.length_nil, Nat.sub_zero, Nat.reduceSub, Nat.reduceAdd, List.replicate_succ, List.replicate_zero, List.cons_append, List.nil_append, List.append_nil, List.getElem?_cons_zero, List.getElem?_cons_succ, Option.some.injEq, exists_eq_left', exists_eq_left, exists_eq_right, exists_eq_right', exists_and_left, exists_and_right, exists_eq, exists_eq', true_and, and_true, V.int.injEq, V.str.injEq, V.bl.injEq, V.ref.injEq, V.ty.injEq, HO.ins.injEq, HO.lst.injEq, HO.tup.injEq, and_assoc, List.cons.injEq, Bool.not_true, Bool.not_false, Bool.false_eq_true, if_false, if_true, cx_K, upd_same, upd_upd, isi_str, req_ii, req_ss, rne_ii, rne_ss, radd_ii, rsub_ii, atI_at, atI_0, atI_1, atI_2, atI_3, atI_4, rLenL, rLenU, rIxLL, rIxU, reduceCtorEq, gTup, gCons, gNil, tFmt_eq, fmtV_str, fmtV_int, tJs_nil, tJs_cons, jsV_str, iKeys_eq, gSub, rSetL, tPart, tNoPart, tSl, rSlL, false_and, exists_false, or_false, false_or, List.set_cons_zero, List.set_cons_succ]
          refine hid_in ?_
          simp only [tSeq, tIfS, tOr, tAnd, tNot, tB, tTest, tCB, tCons, tNil, tVar, tC, tOp, tUn, tRet, tRetN, tDrop, tAsg, tPar, tPar3, tNext, tNever, tBreak, tCont, tAug, tChain, tAndV, tOrV, tNotV, tIf, tIsN, tNotN, tTup, tLst, tCallD, tMethD, tMakeD, tFld, tCon, sFld, sFldAug, tCallK, tSl, tPart, tNoPart, tBM, tBM0, tDGet, tDIn, tDNotIn, sDPut, tDNewK, tM0, tM1, tOrT, tAndT, tNotT, tAsg2, tAsg3, gName, rI0, rI, rU, tYes, L2.start, NdefX.startF, List.set_cons_zero, List.set_cons_succ, List.map_cons, List.map_nil, List.length_cons, List.length_nil, Nat.sub_zero, Nat.reduceSub, Nat.reduceAdd, List.replicate_succ, List.replicate_zero, List.cons_append, List.nil_append, List.append_nil, List.getElem?_cons_zero, List.getElem?_cons_succ, Option.some.injEq, exists_eq_left', exists_eq_left, exists_eq_right, exists_eq_right', exists_and_left, exists_and_right, exists_eq, exists_eq', true_and, and_true, V.int.injEq, V.str.injEq, V.bl.injEq, V.ref.injEq, V.ty.injEq, HO.ins.injEq, HO.lst.injEq, HO.tup.injEq, and_assoc, List.cons.injEq, Bool.not_true, Bool.not_false, Bool.false_eq_true, if_false, if_true, cx_K, upd_same, upd_upd, isi_str, req_ii, req_ss, rne_ii, rne_ss, radd_ii, rsub_ii, atI_at, atI_0, atI_1, atI_2, atI_3, atI_4, rLenL, rLenU, rIxLL, rIxU, reduceCtorEq, gTup, gCons, gNil, tFmt_eq, fmtV_str, fmtV_int, tJs_nil, tJs_cons, jsV_str, iKeys_eq, gSub, rSetL, tPart, tNoPart, tSl, rSlL, false_and, exists_false, or_false, false_or, List.set_cons_zero, List.set_cons_succ]
          rw [hkk] at hl4
          refine ⟨sz_le (by decide), fun t2 ht2 => er kk hl4.symm t2 _ (same_new (s45.trans s6) ht2) ?_⟩
          rw [upd_same]; rfl
        · refine ⟨t, rfl, _, SqT.of ht, rfl, ?_⟩
          simp only [tSeq, tIfS, tOr, tAnd, tNot, tB, tTest, tCB, tCons, tNil, tVar, tC, tOp, tUn, tRet, tRetN, tDrop, tAsg, tPar, tPar3, tNext, tNever, tBreak, tCont, tAug, tChain, tAndV, tOrV, tNotV, tIf, tIsN, tNotN, tTup, tLst, tCallD, tMethD, tMakeD, tFld, tCon, sFld, sFldAug, tCallK, tSl, tPart, tNoPart, tBM, tBM0, tDGet, tDIn, tDNotIn, sDPut, tDNewK, tM0, tM1, tOrT, tAndT, tNotT, tAsg2, tAsg3, gName, rI0, rI, rU, tYes, L2.start, NdefX.startF, List.set_cons_zero, List.set_cons_succ, List.map_cons, List.map_nil, List.length_cons, List.length_nil, Nat.sub_zero, Nat.reduceSub, Nat.reduceAdd, List.replicate_succ, List.replicate_zero, List.cons_append, List.nil_append, List.append_nil, List.getElem?_cons_zero, List.getElem?_cons_succ, Option.some.injEq, exists_eq_left', exists_eq_left, exists_eq_right, exists_eq_right', exists_and_left, exists_and_right, exists_eq, exists_eq', true_and, and_true, V.int.injEq, V.str.injEq, V.bl.injEq, V.ref.injEq, V.ty.injEq, HO.ins.injEq, HO.lst.injEq, HO.tup.injEq, and_assoc, List.cons.injEq, Bool.not_true, Bool.not_false, Bool.false_eq_true, if_false, if_true, cx_K, upd_same, upd_upd, isi_str, req_ii, req_ss, rne_ii, rne_ss, radd_ii, rsub_ii, atI_at, atI_0, atI_1, atI_2, atI_3, atI_4, rLenL, rLenU, rIxLL, rIxU, reduceCtorEq, gTup, gCons, gNil, tFmt_eq, fmtV_str, fmtV_int, tJs_nil, tJs_cons, jsV_str, iKeys_eq, gSub, rSetL, tPart, tNoPart, tSl, rSlL, false_and, exists_false, or_false, false_or, List.set_cons_zero, List.set_cons_succ]
          refine hid_in ?_
          simp only [tSeq, tIfS, tOr, tAnd, tNot, tB, tTest, tCB, tCons, tNil, tVar, tC, tOp, tUn, tRet, tRetN, tDrop, tAsg, tPar, tPar3, tNext, tNever, tBreak, tCont, tAug, tChain, tAndV, tOrV, tNotV, tIf, tIsN, tNotN, tTup, tLst, tCallD, tMethD, tMakeD, tFld, tCon, sFld, sFldAug, tCallK, tSl, tPart, tNoPart, tBM, tBM0, tDGet, tDIn, tDNotIn, sDPut, tDNewK, tM0, tM1, tOrT, tAndT, tNotT, tAsg2, tAsg3, gName, rI0, rI, rU, tYes, L2.start, NdefX.startF, List.set_cons_zero, List.set_cons_succ, List.map_cons, List.map_nil, List.length_cons, List.length_nil, Nat.sub_zero, Nat.reduceSub, Nat.reduceAdd, List.replicate_succ, List.replicate_zero, List.cons_append, List.nil_append, List.append_nil, List.getElem?_cons_zero, List.getElem?_cons_succ, Option.some.injEq, exists_eq_left', exists_eq_left, exists_eq_right, exists_eq_right', exists_and_left, exists_and_right, exists_eq, exists_eq', true_and, and_true, V.int.injEq, V.str.injEq, V.bl.injEq, V.ref.injEq, V.ty.injEq, HO.ins.injEq, HO.lst.injEq, HO.tup.injEq, and_assoc, List.cons.injEq, Bool.not_true, Bool.not_false, Bool.false_eq_true, if_false, if_true, cx_K, upd_same, upd_upd, isi_str, req_ii, req_ss, rne_ii, rne_ss, radd_ii, rsub_ii, atI_at, atI_0, atI_1, atI_2, atI_3, atI_4, rLenL, rLenU, rIxLL, rIxU, reduceCtorEq, gTup, gCons, gNil, tFmt_eq, fmtV_str, fmtV_int, tJs_nil, tJs_cons, jsV_str, iKeys_eq, gSub, rSetL, tPart, tNoPart, tSl, rSlL, false_and, exists_false, or_false, false_or, List.set_cons_zero, List.set_cons_succ]
          rw [h2] at hl4
          obtain ⟨o1, o2, o3⟩ := TabOk.thing (ok4.mono (by omega)) h2
          refine ⟨m1, by omega, j2, cs2, ls2, _, rfl, ?_, e6c, e6l, o1, hl4, by omega, by omega, o3⟩
          exact fun b o e => k6 b o (s45 _ _ e) (by
            simp only [List.mem_cons, List.not_mem_nil, or_false, not_or]
            exact ⟨ne_of_none e hc0, ne_of_none e hl0⟩)
      · have hs : ¬ ws[j]? = some (";" : Str) := fun h => by
          refine z ?_
          have hj2 := (List.getElem?_eq_some_iff.mp h).1
          simp only [Bool.and_eq_true, decide_eq_true_eq]
          exact ⟨by omega, by unfold wAt; rw [h]; rfl⟩
        have hth4 : endM ws i = .inr (j, ⟨f, cs, ls⟩) := by
          rw [← hl4]
          cases m with
          | zero => rfl
          | succ m => unfold loopM; rw [if_neg hs]
        dsimp only
        refine hid_in ?_
        simp only [tSeq, tIfS, tOr, tAnd, tNot, tB, tTest, tCB, tCons, tNil, tVar, tC, tOp, tUn, tRet, tRetN, tDrop, tAsg, tPar, tPar3, tNext, tNever, tBreak, tCont, tAug, tChain, tAndV, tOrV, tNotV, tIf, tIsN, tNotN, tTup, tLst, tCallD, tMethD, tMakeD, tFld, tCon, sFld, sFldAug, tCallK, tSl, tPart, tNoPart, tBM, tBM0, tDGet, tDIn, tDNotIn, sDPut, tDNewK, tM0, tM1, tOrT, tAndT, tNotT, tAsg2, tAsg3, gName, rI0, rI, rU, tYes, L2.start, NdefX.startF, List.set_cons_zero, List.set_cons_succ, List.map_cons, List.map_nil, List.length_cons, List.length_nil, Nat.sub_zero, Nat.reduceSub, Nat.reduceAdd, List.replicate_succ, List.replicate_zero, List.cons_append, List.nil_append, List.append_nil, List.getElem?_cons_zero, List.getElem?_cons_succ, Option.some.injEq, exists_eq_left', exists_eq_left, exists_eq_right, exists_eq_right', exists_and_left, exists_and_right, exists_eq, exists_eq', true_and, and_true, V.int.injEq, V.str.injEq, V.bl.injEq, V.ref.injEq, V.ty.injEq, HO.ins.injEq, HO.lst.injEq, HO.tup.injEq, and_assoc, List.cons.injEq, Bool.not_true, Bool.not_false, Bool.false_eq_true, if_false, if_true, cx_K, upd_same, upd_upd, isi_str, req_ii, req_ss, rne_ii, rne_ss, radd_ii, rsub_ii, atI_at, atI_0, atI_1, atI_2, atI_3, atI_4, rLenL, rLenU, rIxLL, rIxU, reduceCtorEq, gTup, gCons, gNil, tFmt_eq, fmtV_str, fmtV_int, tJs_nil, tJs_cons, jsV_str, iKeys_eq, gSub, rSetL, tPart, tNoPart, tSl, rSlL, false_and, exists_false, or_false, false_or, List.set_cons_zero, List.set_cons_succ]
        refine ⟨sz_le (by decide), fun t ht => k j _ hth4 t _ (same_new s45 ht) ?_ hij hjl⟩
        rw [upd_same]; rfl
    have hi1e : ((i : Int) + 1) = ((i + 1 : Nat) : Int) := by omega
    rw [hi1e]
    refine ⟨_, (wAt_at hi2).1, ?_⟩
    simp only [tSeq, tIfS, tNot, tB, tTest, tCB, tCons, tNil, tVar, tC, tOp, tUn, tRet, tRetN, tDrop, tAsg, tPar, tPar3, tNext, tNever, tBreak, tCont, tAug, tChain, tAndV, tOrV, tNotV, tIf, tIsN, tNotN, tTup, tLst, tCallD, tMethD, tMakeD, tFld, tCon, sFld, sFldAug, tCallK, tSl, tPart, tNoPart, tBM, tBM0, tDGet, tDIn, tDNotIn, sDPut, tDNewK, tM0, tM1, tOrT, tAndT, tNotT, tAsg2, tAsg3, gName, rI0, rI, rU, tYes, L2.start, NdefX.startF, List.set_cons_zero, List.set_cons_succ, List.map_cons, List.map_nil, List.length_cons, List.length_nil, Nat.sub_zero, Nat.reduceSub, Nat.reduceAdd, List.replicate_succ, List.replicate_zero, List.cons_append, List.nil_append, List.append_nil, List.getElem?_cons_zero, List.getElem?_cons_succ, Option.some.injEq, exists_eq_left', exists_eq_left, exists_eq_right, exists_eq_right', exists_and_left, exists_and_right, exists_eq, exists_eq', true_and, and_true, V.int.injEq, V.str.injEq, V.bl.injEq, V.ref.injEq, V.ty.injEq, HO.ins.injEq, HO.lst.injEq, HO.tup.injEq, and_assoc, List.cons.injEq, Bool.not_true, Bool.not_false, Bool.false_eq_true, if_false, if_true, cx_K, upd_same, upd_upd, isi_str, req_ii, req_ss, rne_ii, rne_ss, radd_ii, rsub_ii, atI_at, atI_0, atI_1, atI_2, atI_3, atI_4, rLenL, rLenU, rIxLL, rIxU, reduceCtorEq, gTup, gCons, gNil, tFmt_eq, fmtV_str, fmtV_int, tJs_nil, tJs_cons, jsV_str, iKeys_eq, gSub, rSetL, tPart, tNoPart, tSl, rSlL, false_and, exists_false, or_false, false_or, List.set_cons_zero, List.set_cons_succ]
    refine ite2 (fun zf => ?_) fun zf => ?_
    · have hff := of_decide_eq_true zf
      have hnd : ¬ wAt ws i = "done" := by rw [hff]; decide +kernel
      refine orT (a := decide ((ws.length : Int) ≤ ((i + 1 : Nat) : Int))) (b := !isNameM (wAt ws (i + 1))) (fun Q q => by simp only [tSeq, tIfS, tOr, tAnd, tNot, tB, tTest, tCB, tCons, tNil, tVar, tC, tOp, tUn, tRet, tRetN, tDrop, tAsg, tPar, tPar3, tNext, tNever, tBreak, tCont, tAug, tChain, tAndV, tOrV, tNotV, tIf, tIsN, tNotN, tTup, tLst, tCallD, tMethD, tMakeD, tFld, tCon, sFld, sFldAug, tCallK, tSl, tPart, tNoPart, tBM, tBM0, tDGet, tDIn, tDNotIn, sDPut, tDNewK, tM0, tM1, tOrT, tAndT, tNotT, tAsg2, tAsg3, gName, rI0, rI, rU, tYes, L2.start, NdefX.startF, List.set_cons_zero, List.set_cons_succ, List.map_cons, List.map_nil, List.length_cons, List.length_nil, Nat.sub_zero, Nat.reduceSub, Nat.reduceAdd, List.replicate_succ, List.replicate_zero, List.cons_append, List.nil_append, List.append_nil, List.getElem?_cons_zero, List.getElem?_cons_succ, Option.some.injEq, exists_eq_left', exists_eq_left, exists_eq_right, exists_eq_right', exists_and_left, exists_and_right, exists_eq, exists_eq', true_and, and_true, V.int.injEq, V.str.injEq, V.bl.injEq, V.ref.injEq, V.ty.injEq, HO.ins.injEq, HO.lst.injEq, HO.tup.injEq, and_assoc, List.cons.injEq, Bool.not_true, Bool.not_false, Bool.false_eq_true, if_false, if_true, cx_K, upd_same, upd_upd, isi_str, req_ii, req_ss, rne_ii, rne_ss, radd_ii, rsub_ii, atI_at, atI_0, atI_1, atI_2, atI_3, atI_4, rLenL, rLenU, rIxLL, rIxU, reduceCtorEq, gTup, gCons, gNil, tFmt_eq, fmtV_str, fmtV_int, tJs_nil, tJs_cons, jsV_str, iKeys_eq, gSub, rSetL, tPart, tNoPart, tSl, rSlL, false_and, exists_false, or_false, false_or, List.set_cons_zero, List.set_cons_succ, ha2, List.length_map]; exact q) (fun hlt Q q => ?_) fun H3 s3 => ?_
      · have hj2 : i + 1 < ws.length := by have := of_decide_eq_false hlt; omega
        have hwj := W.wAt (i + 1)
        simp only [tSeq, tIfS, tOr, tAnd, tNot, tB, tTest, tCB, tCons, tNil, tVar, tC, tOp, tUn, tRet, tRetN, tDrop, tAsg, tPar, tPar3, tNext, tNever, tBreak, tCont, tAug, tChain, tAndV, tOrV, tNotV, tIf, tIsN, tNotN, tTup, tLst, tCallD, tMethD, tMakeD, tFld, tCon, sFld, sFldAug, tCallK, tSl, tPart, tNoPart, tBM, tBM0, tDGet, tDIn, tDNotIn, sDPut, tDNewK, tM0, tM1, tOrT, tAndT, tNotT, tAsg2, tAsg3, gName, rI0, rI, rU, tYes, L2.start, NdefX.startF, List.set_cons_zero, List.set_cons_succ, List.map_cons, List.map_nil, List.length_cons, List.length_nil, Nat.sub_zero, Nat.reduceSub, Nat.reduceAdd, List.replicate_succ, List.replicate_zero, List.cons_append, List.nil_append, List.append_nil, List.getElem?_cons_zero, List.getElem?_cons_succ, Option.some.injEq, exists_eq_left', exists_eq_left, exists_eq_right, exists_eq_right', exists_and_left, exists_and_right, exists_eq, exists_eq', true_and, and_true, V.int.injEq, V.str.injEq, V.bl.injEq, V.ref.injEq, V.ty.injEq, HO.ins.injEq, HO.lst.injEq, HO.tup.injEq, and_assoc, List.cons.injEq, Bool.not_true, Bool.not_false, Bool.false_eq_true, if_false, if_true, cx_K, upd_same, upd_upd, isi_str, req_ii, req_ss, rne_ii, rne_ss, radd_ii, rsub_ii, atI_at, atI_0, atI_1, atI_2, atI_3, atI_4, rLenL, rLenU, rIxLL, rIxU, reduceCtorEq, gTup, gCons, gNil, tFmt_eq, fmtV_str, fmtV_int, tJs_nil, tJs_cons, jsV_str, iKeys_eq, gSub, rSetL, tPart, tNoPart, tSl, rSlL, false_and, exists_false, or_false, false_or, List.set_cons_zero, List.set_cons_succ, ha2]
        refine ⟨_, (wAt_at hj2).1, _, rfl, hwj.1, hwj.2, fun H' s' => ?_⟩
        simp only [tSeq, tIfS, tOr, tAnd, tNot, tB, tTest, tCB, tCons, tNil, tVar, tC, tOp, tUn, tRet, tRetN, tDrop, tAsg, tPar, tPar3, tNext, tNever, tBreak, tCont, tAug, tChain, tAndV, tOrV, tNotV, tIf, tIsN, tNotN, tTup, tLst, tCallD, tMethD, tMakeD, tFld, tCon, sFld, sFldAug, tCallK, tSl, tPart, tNoPart, tBM, tBM0, tDGet, tDIn, tDNotIn, sDPut, tDNewK, tM0, tM1, tOrT, tAndT, tNotT, tAsg2, tAsg3, gName, rI0, rI, rU, tYes, L2.start, NdefX.startF, List.set_cons_zero, List.set_cons_succ, List.map_cons, List.map_nil, List.length_cons, List.length_nil, Nat.sub_zero, Nat.reduceSub, Nat.reduceAdd, List.replicate_succ, List.replicate_zero, List.cons_append, List.nil_append, List.append_nil, List.getElem?_cons_zero, List.getElem?_cons_succ, Option.some.injEq, exists_eq_left', exists_eq_left, exists_eq_right, exists_eq_right', exists_and_left, exists_and_right, exists_eq, exists_eq', true_and, and_true, V.int.injEq, V.str.injEq, V.bl.injEq, V.ref.injEq, V.ty.injEq, HO.ins.injEq, HO.lst.injEq, HO.tup.injEq, and_assoc, List.cons.injEq, Bool.not_true, Bool.not_false, Bool.false_eq_true, if_false, if_true, cx_K, upd_same, upd_upd, isi_str, req_ii, req_ss, rne_ii, rne_ss, radd_ii, rsub_ii, atI_at, atI_0, atI_1, atI_2, atI_3, atI_4, rLenL, rLenU, rIxLL, rIxU, reduceCtorEq, gTup, gCons, gNil, tFmt_eq, fmtV_str, fmtV_int, tJs_nil, tJs_cons, jsV_str, iKeys_eq, gSub, rSetL, tPart, tNoPart, tSl, rSlL, false_and, exists_false, or_false, false_or, List.set_cons_zero, List.set_cons_succ]
        exact q H' s'
      refine ite2 (fun z => ?_) fun z => ?_
      · refine ⟨sz_le (by decide), fun t ht => er (i + 1) ?_ t _ (same_new (s2.trans s3) ht) upd_same⟩
        unfold endM
        rw [if_neg hnd, if_pos hff, if_neg]
        simp only [Bool.or_eq_true, decide_eq_true_eq, Bool.not_eq_true'] at z
        rcases z with h | h
        · rw [wAt_ne (by omega)]; decide +kernel
        · rw [h]; simp
      · simp only [Bool.or_eq_true, decide_eq_true_eq, Bool.not_eq_true', not_or, Bool.not_eq_false] at z
        refine hid_in ?_
        simp only [tSeq, tIfS, tOr, tAnd, tNot, tB, tTest, tCB, tCons, tNil, tVar, tC, tOp, tUn, tRet, tRetN, tDrop, tAsg, tPar, tPar3, tNext, tNever, tBreak, tCont, tAug, tChain, tAndV, tOrV, tNotV, tIf, tIsN, tNotN, tTup, tLst, tCallD, tMethD, tMakeD, tFld, tCon, sFld, sFldAug, tCallK, tSl, tPart, tNoPart, tBM, tBM0, tDGet, tDIn, tDNotIn, sDPut, tDNewK, tM0, tM1, tOrT, tAndT, tNotT, tAsg2, tAsg3, gName, rI0, rI, rU, tYes, L2.start, NdefX.startF, List.set_cons_zero, List.set_cons_succ, List.map_cons, List.map_nil, List.length_cons, List.length_nil, Nat.sub_zero, Nat.reduceSub, Nat.reduceAdd, List.replicate_succ, List.replicate_zero, List.cons_append, List.nil_append, List.append_nil, List.getElem?_cons_zero, List.getElem?_cons_succ, Option.some.injEq, exists_eq_left', exists_eq_left, exists_eq_right, exists_eq_right', exists_and_left, exists_and_right, exists_eq, exists_eq', true_and, and_true, V.int.injEq, V.str.injEq, V.bl.injEq, V.ref.injEq, V.ty.injEq, HO.ins.injEq, HO.lst.injEq, HO.tup.injEq, and_assoc, List.cons.injEq, Bool.not_true, Bool.not_false, Bool.false_eq_true, if_false, if_true, cx_K, upd_same, upd_upd, isi_str, req_ii, req_ss, rne_ii, rne_ss, radd_ii, rsub_ii, atI_at, atI_0, atI_1, atI_2, atI_3, atI_4, rLenL, rLenU, rIxLL, rIxU, reduceCtorEq, gTup, gCons, gNil, tFmt_eq, fmtV_str, fmtV_int, tJs_nil, tJs_cons, jsV_str, iKeys_eq, gSub, rSetL, tPart, tNoPart, tSl, rSlL, false_and, exists_false, or_false, false_or, List.set_cons_zero, List.set_cons_succ]
        rw [show (((i + 1 : Nat) : Int) + 1) = ((i + 2 : Nat) : Int) by omega]
        refine rest (some (wAt ws (i + 1))) (i + 2) H3 s3 ?_ (by omega) (by omega)
        unfold endM
        rw [if_neg hnd, if_pos hff, if_pos z.2]
    · have hnf : ¬ wAt ws i = "failed" := by simpa using zf
      have hdn : wAt ws i = "done" := Decidable.byContradiction fun h => hdf ⟨h, hnf⟩
      refine rest none (i + 1) H2 (Same.refl _) ?_ (by omega) (by omega)
      unfold endM
      rw [if_pos hdn]
def DInv (z : Str) (a : Addr) (ws : List Str) (H : Hp) (m : Nat) (σ : L2.St) (H' : Hp) : Prop := ∃ (j : Nat) (r : Bool), σ = [some (.str z), some (.ref a), some (.int j), some (.bl r)] ∧ Same H H' ∧ ((r = false ∧ endsM ws = .inl j) ∨ (r = true ∧ (∃ es, loopE ws m j es = endsM ws) ∧ ws.length < j + m ∧ j ≤ ws.length))
abbrev s__law_due : Stmt := top 32
theorem sc__law_due : FnScope ["_law_line_here", "_law_words", "_law_spot", "_law_is_right"] ["_law_line_here"] (defScope s__law_due) := ⟨rfl, rfl, rfl, by decide +kernel, rfl, by decide +kernel, by decide +kernel⟩
theorem ok_ldue {f : Addr} {fd : FuncData} (F : Fun K "_law_due" "_law_due" s__law_due f fd) (T : Tx K mg aK aF) (D__law_after_end : Df PP w K mg base 4 "_law_after_end" ["_law_words", "_law_spot"] spAfterEnd) :
    FnOk PP w K mg base (L2.CX PP w) 5 f fd ["_law_line_here"] spDue := by
  refine F.okX sc__law_due (fun vs H Q E h => ?_) (fun cdv A outer s H vs Q E hr h => ?_)
  · obtain ⟨z, rfl, _⟩ := h; rfl
  · obtain ⟨z, rfl, hz, hok, k⟩ := h
    refine ⟨_, (pss_cons (ps_set (i := 1) sc__law_due.nd rfl (Or.inl rfl) (pe_split (pv 0) pe_str))
      (pss_hid (pss_cons (ps_if (pt_cmpR op_eq (pe_ix ix_LL (pv 1) pe_int (fun _ _ => rfl)) pe_str (nomark _)) (pss_one (ps_ret (pe_ifExp (pt_cmpR op_gt (pe_callB call_lenL (by rfl) T.len (by decide +kernel) (pa_cons (pv 1) pa_nil)) pe_int (nomark _)) pe_int pe_non))) pss_nil)
      (pss_hid (pss_cons (ps_asg (pe_df D__law_after_end (hr.mono (by decide)) passL (pa_cons (pv 1) (pa_cons pe_int pa_nil))) (pg_tup (n := 2) (by rfl) (pgs_cons (pg_name (i := 2) sc__law_due.nd rfl (Or.inl rfl)) (pgs_cons (pg_name (i := 3) sc__law_due.nd rfl (Or.inl rfl)) pgs_nil))))
      (pss_hid (pss_cons (ps_while (passes_of rfl) (PW.pt (pw_and (pt_val (pv 3)) (pw_and (pt_cmpR op_lt (pv 2) (pe_callB call_lenL (by rfl) T.len (by decide +kernel) (pa_cons (pv 1) pa_nil)) (nomark _)) (pw_and1 (pt_cmpR op_eq (pe_ix ix_LL (pv 1) (pv 2) (fun _ _ => rfl)) pe_str (nomark _)))))) (pss_one (ps_asg (pe_df D__law_after_end (hr.mono (by decide)) passL (pa_cons (pv 1) (pa_cons (pe_op op_add (pv 2) pe_int) pa_nil))) (pg_tup (n := 2) (by rfl) (pgs_cons (pg_name (i := 2) sc__law_due.nd rfl (Or.inl rfl)) (pgs_cons (pg_name (i := 3) sc__law_due.nd rfl (Or.inl rfl)) pgs_nil))))))
      (pss_hid (pss_one (ps_ret (pe_ifExp (PW.pt (pw_and (pt_val (pv 3)) (pw_and1 (pt_cmpR op_eq (pv 2) (pe_callB call_lenL (by rfl) T.len (by decide +kernel) (pa_cons (pv 1) pa_nil)) (nomark _))))) pe_non (pv 2)))))))))))), ?_⟩
    simp only [tSeq, tIfS, tOr, tAnd, tNot, tB, tTest, tCB, tCons, tNil, tVar, tC, tOp, tUn, tRet, tRetN, tDrop, tAsg, tPar, tPar3, tNext, tNever, tBreak, tCont, tAug, tChain, tAndV, tOrV, tNotV, tIf, tIsN, tNotN, tTup, tLst, tCallD, tMethD, tMakeD, tFld, tCon, sFld, sFldAug, tCallK, tSl, tPart, tNoPart, tBM, tBM0, tDGet, tDIn, tDNotIn, sDPut, tDNewK, tM0, tM1, tOrT, tAndT, tNotT, tAsg2, tAsg3, gName, rI0, rI, rU, tYes, L2.start, NdefX.startF, List.set_cons_zero, List.set_cons_succ, List.map_cons, List.map_nil, List.length_cons, List.length_nil, Nat.sub_zero, Nat.reduceSub, Nat.reduceAdd, List.replicate_succ, List.replicate_zero, List.cons_append, List.nil_append, List.append_nil, List.getElem?_cons_zero, List.getElem?_cons_succ, Option.some.injEq, exists_eq_left', exists_eq_left, exists_eq_right, exists_eq_right', exists_and_left, exists_and_right, exists_eq, exists_eq', true_and, and_true, V.int.injEq, V.str.injEq, V.bl.injEq, V.ref.injEq, V.ty.injEq, HO.ins.injEq, HO.lst.injEq, HO.tup.injEq, and_assoc, List.cons.injEq, Bool.not_true, Bool.not_false, Bool.false_eq_true, if_false, if_true, cx_K, upd_same, upd_upd, isi_str, req_ii, req_ss, rne_ii, rne_ss, radd_ii, rsub_ii, atI_at, atI_0, atI_1, atI_2, atI_3, atI_4, rLenL, rLenU, rIxLL, rIxU, reduceCtorEq, gTup, gCons, gNil, tFmt_eq, fmtV_str, fmtV_int, tJs_nil, tJs_cons, jsV_str, iKeys_eq, gSub, rSetL, tPart, tNoPart, tSl, rSlL, false_and, exists_false, or_false, false_or, List.set_cons_zero, List.set_cons_succ]
    refine ⟨by decide +kernel, sz_le (by omega), fun a ha0 => ?_⟩
    have hlen := words_len z
    have hat : ∀ x ∈ Txt.split z " ", x.length ≤ 90000 ∧ PyData.strOk x = true := fun x hx => ⟨by have := (words_at z hx).1; omega, hok x hx⟩
    have hne := words_ne z
    have s1 : Same H (upd H a (.lst ((Txt.split z " ").map V.str))) := same_upd ha0
    have ha : upd H a (.lst ((Txt.split z " ").map V.str)) a = some (.lst ((Txt.split z " ").map V.str)) := upd_same
    generalize upd H a (.lst ((Txt.split z " ").map V.str)) = H1 at s1 ha ⊢
    generalize Txt.split z " " = ws at hlen hat hne k ha ⊢
    have hpos : 0 < ws.length := List.length_pos_iff.mpr hne
    refine hid_in ?_
    simp only [tSeq, tIfS, tOr, tNot, tB, tTest, tCB, tCons, tNil, tVar, tC, tOp, tUn, tRet, tRetN, tDrop, tAsg, tPar, tPar3, tNext, tNever, tBreak, tCont, tAug, tChain, tAndV, tOrV, tNotV, tIf, tIsN, tNotN, tTup, tLst, tCallD, tMethD, tMakeD, tFld, tCon, sFld, sFldAug, tCallK, tSl, tPart, tNoPart, tBM, tBM0, tDGet, tDIn, tDNotIn, sDPut, tDNewK, tM0, tM1, tOrT, tAndT, tNotT, tAsg2, tAsg3, gName, rI0, rI, rU, tYes, L2.start, NdefX.startF, List.set_cons_zero, List.set_cons_succ, List.map_cons, List.map_nil, List.length_cons, List.length_nil, Nat.sub_zero, Nat.reduceSub, Nat.reduceAdd, List.replicate_succ, List.replicate_zero, List.cons_append, List.nil_append, List.append_nil, List.getElem?_cons_zero, List.getElem?_cons_succ, Option.some.injEq, exists_eq_left', exists_eq_left, exists_eq_right, exists_eq_right', exists_and_left, exists_and_right, exists_eq, exists_eq', true_and, and_true, V.int.injEq, V.str.injEq, V.bl.injEq, V.ref.injEq, V.ty.injEq, HO.ins.injEq, HO.lst.injEq, HO.tup.injEq, and_assoc, List.cons.injEq, Bool.not_true, Bool.not_false, Bool.false_eq_true, if_false, if_true, cx_K, upd_same, upd_upd, isi_str, req_ii, req_ss, rne_ii, rne_ss, radd_ii, rsub_ii, atI_at, atI_0, atI_1, atI_2, atI_3, atI_4, rLenL, rLenU, rIxLL, rIxU, reduceCtorEq, gTup, gCons, gNil, tFmt_eq, fmtV_str, fmtV_int, tJs_nil, tJs_cons, jsV_str, iKeys_eq, gSub, rSetL, tPart, tNoPart, tSl, rSlL, false_and, exists_false, or_false, false_or, List.set_cons_zero, List.set_cons_succ, ha, List.length_map]
    refine ⟨_, (wAt_at hpos).1, ?_⟩
    simp only [tSeq, tIfS, tOr, tNot, tB, tTest, tCB, tCons, tNil, tVar, tC, tOp, tUn, tRet, tRetN, tDrop, tAsg, tPar, tPar3, tNext, tNever, tBreak, tCont, tAug, tChain, tAndV, tOrV, tNotV, tIf, tIsN, tNotN, tTup, tLst, tCallD, tMethD, tMakeD, tFld, tCon, sFld, sFldAug, tCallK, tSl, tPart, tNoPart, tBM, tBM0, tDGet, tDIn, tDNotIn, sDPut, tDNewK, tM0, tM1, tOrT, tAndT, tNotT, tAsg2, tAsg3, gName, rI0, rI, rU, tYes, L2.start, NdefX.startF, List.set_cons_zero, List.set_cons_succ, List.map_cons, List.map_nil, List.length_cons, List.length_nil, Nat.sub_zero, Nat.reduceSub, Nat.reduceAdd, List.replicate_succ, List.replicate_zero, List.cons_append, List.nil_append, List.append_nil, List.getElem?_cons_zero, List.getElem?_cons_succ, Option.some.injEq, exists_eq_left', exists_eq_left, exists_eq_right, exists_eq_right', exists_and_left, exists_and_right, exists_eq, exists_eq', true_and, and_true, V.int.injEq, V.str.injEq, V.bl.injEq, V.ref.injEq, V.ty.injEq, HO.ins.injEq, HO.lst.injEq, HO.tup.injEq, and_assoc, List.cons.injEq, Bool.not_true, Bool.not_false, Bool.false_eq_true, if_false, if_true, cx_K, upd_same, upd_upd, isi_str, req_ii, req_ss, rne_ii, rne_ss, radd_ii, rsub_ii, atI_at, atI_0, atI_1, atI_2, atI_3, atI_4, rLenL, rLenU, rIxLL, rIxU, reduceCtorEq, gTup, gCons, gNil, tFmt_eq, fmtV_str, fmtV_int, tJs_nil, tJs_cons, jsV_str, iKeys_eq, gSub, rSetL, tPart, tNoPart, tSl, rSlL, false_and, exists_false, or_false, false_or, List.set_cons_zero, List.set_cons_succ, ha, List.length_map]
    refine ite2 (fun zd => ?_) fun zd => ?_
    · have hs : ws[0]? = some ("-" : Str) := by rw [(wAt_at hpos).2, of_decide_eq_true zd]
      have := k H1 s1
      unfold endsM at this
      rw [if_pos hs] at this
      refine ite2 (fun z1 => ?_) fun z1 => ?_
      · rw [if_pos (by have := of_decide_eq_true z1; omega)] at this
        exact this
      · rw [if_neg (by have : ¬ (1 : Int) < (ws.length : Int) := by simpa using z1
                       omega)] at this
        exact this
    · have hs : ¬ ws[0]? = some ("-" : Str) := fun h => by
        rw [(wAt_at hpos).2] at h
        exact zd (decide_eq_true (Option.some.inj h))
      refine hid_in ?_
      simp only [tSeq, tIfS, tOr, tNot, tB, tTest, tCB, tCons, tNil, tVar, tC, tOp, tUn, tRet, tRetN, tDrop, tAsg, tPar, tPar3, tNext, tNever, tBreak, tCont, tAug, tChain, tAndV, tOrV, tNotV, tIf, tIsN, tNotN, tTup, tLst, tCallD, tMethD, tMakeD, tFld, tCon, sFld, sFldAug, tCallK, tSl, tPart, tNoPart, tBM, tBM0, tDGet, tDIn, tDNotIn, sDPut, tDNewK, tM0, tM1, tOrT, tAndT, tNotT, tAsg2, tAsg3, gName, rI0, rI, rU, tYes, L2.start, NdefX.startF, List.set_cons_zero, List.set_cons_succ, List.map_cons, List.map_nil, List.length_cons, List.length_nil, Nat.sub_zero, Nat.reduceSub, Nat.reduceAdd, List.replicate_succ, List.replicate_zero, List.cons_append, List.nil_append, List.append_nil, List.getElem?_cons_zero, List.getElem?_cons_succ, Option.some.injEq, exists_eq_left', exists_eq_left, exists_eq_right, exists_eq_right', exists_and_left, exists_and_right, exists_eq, exists_eq', true_and, and_true, V.int.injEq, V.str.injEq, V.bl.injEq, V.ref.injEq, V.ty.injEq, HO.ins.injEq, HO.lst.injEq, HO.tup.injEq, and_assoc, List.cons.injEq, Bool.not_true, Bool.not_false, Bool.false_eq_true, if_false, if_true, cx_K, upd_same, upd_upd, isi_str, req_ii, req_ss, rne_ii, rne_ss, radd_ii, rsub_ii, atI_at, atI_0, atI_1, atI_2, atI_3, atI_4, rLenL, rLenU, rIxLL, rIxU, reduceCtorEq, gTup, gCons, gNil, tFmt_eq, fmtV_str, fmtV_int, tJs_nil, tJs_cons, jsV_str, iKeys_eq, gSub, rSetL, tPart, tNoPart, tSl, rSlL, false_and, exists_false, or_false, false_or, List.set_cons_zero, List.set_cons_succ]
      generalize hR : hid (tSeq (tWhile _ _) _) = R
      have rest : ∀ (m : Nat) (j : Nat) (r : Bool) (H2 : Hp), DInv z a ws H1 m [some (.str z), some (.ref a), some (.int j), some (.bl r)] H2 → R { nx := fun x H' => Q V.non H', rt := Q } [some (.str z), some (.ref a), some (.int j), some (.bl r)] H2 := fun m j r H2 h0 => by
        rw [← hR]
        refine hid_in ?_
        refine ⟨DInv z a ws H1, ⟨m, h0⟩, ?_⟩
        rintro m σ H3 ⟨j, r, rfl, s3, hor⟩
        have ha3 := s3 _ _ ha
        have W3 : Wds H3 a ws := ⟨ha3, hat⟩
        refine andT (a := r) (b := decide ((j : Int) < (ws.length : Int)) && decide (wAt ws j = "/")) (fun Q q => by simp only [tSeq, tIfS, tOr, tAnd, tNot, tB, tTest, tCB, tCons, tNil, tVar, tC, tOp, tUn, tRet, tRetN, tDrop, tAsg, tPar, tPar3, tNext, tNever, tBreak, tCont, tAug, tChain, tAndV, tOrV, tNotV, tIf, tIsN, tNotN, tTup, tLst, tCallD, tMethD, tMakeD, tFld, tCon, sFld, sFldAug, tCallK, tSl, tPart, tNoPart, tBM, tBM0, tDGet, tDIn, tDNotIn, sDPut, tDNewK, tM0, tM1, tOrT, tAndT, tNotT, tAsg2, tAsg3, gName, rI0, rI, rU, tYes, L2.start, NdefX.startF, List.set_cons_zero, List.set_cons_succ, List.map_cons, List.map_nil, List.length_cons, List.length_nil, Nat.sub_zero, Nat.reduceSub, Nat.reduceAdd, List.replicate_succ, List.replicate_zero, List.cons_append, List.nil_append, List.append_nil, List.getElem?_cons_zero, List.getElem?_cons_succ, Option.some.injEq, exists_eq_left', exists_eq_left, exists_eq_right, exists_eq_right', exists_and_left, exists_and_right, exists_eq, exists_eq', true_and, and_true, V.int.injEq, V.str.injEq, V.bl.injEq, V.ref.injEq, V.ty.injEq, HO.ins.injEq, HO.lst.injEq, HO.tup.injEq, and_assoc, List.cons.injEq, Bool.not_true, Bool.not_false, Bool.false_eq_true, if_false, if_true, cx_K, upd_same, upd_upd, isi_str, req_ii, req_ss, rne_ii, rne_ss, radd_ii, rsub_ii, atI_at, atI_0, atI_1, atI_2, atI_3, atI_4, rLenL, rLenU, rIxLL, rIxU, reduceCtorEq, gTup, gCons, gNil, tFmt_eq, fmtV_str, fmtV_int, tJs_nil, tJs_cons, jsV_str, iKeys_eq, gSub, rSetL, tPart, tNoPart, tSl, rSlL, false_and, exists_false, or_false, false_or, List.set_cons_zero, List.set_cons_succ]; exact q) (fun hr Q q => ?_) fun H4 s4 => ?_
        · refine andT (a := decide ((j : Int) < (ws.length : Int))) (b := decide (wAt ws j = "/")) (fun Q q => by simp only [tSeq, tIfS, tOr, tAnd, tNot, tB, tTest, tCB, tCons, tNil, tVar, tC, tOp, tUn, tRet, tRetN, tDrop, tAsg, tPar, tPar3, tNext, tNever, tBreak, tCont, tAug, tChain, tAndV, tOrV, tNotV, tIf, tIsN, tNotN, tTup, tLst, tCallD, tMethD, tMakeD, tFld, tCon, sFld, sFldAug, tCallK, tSl, tPart, tNoPart, tBM, tBM0, tDGet, tDIn, tDNotIn, sDPut, tDNewK, tM0, tM1, tOrT, tAndT, tNotT, tAsg2, tAsg3, gName, rI0, rI, rU, tYes, L2.start, NdefX.startF, List.set_cons_zero, List.set_cons_succ, List.map_cons, List.map_nil, List.length_cons, List.length_nil, Nat.sub_zero, Nat.reduceSub, Nat.reduceAdd, List.replicate_succ, List.replicate_zero, List.cons_append, List.nil_append, List.append_nil, List.getElem?_cons_zero, List.getElem?_cons_succ, Option.some.injEq, exists_eq_left', exists_eq_left, exists_eq_right, exists_eq_right', exists_and_left, exists_and_right, exists_eq, exists_eq', true_and, and_true, V.int.injEq, V.str.injEq, V.bl.injEq, V.ref.injEq, V.ty.injEq, HO.ins.injEq, HO.lst.injEq, HO.tup.injEq, and_assoc, List.cons.injEq, Bool.not_true, Bool.not_false, Bool.false_eq_true, if_false, if_true, cx_K, upd_same, upd_upd, isi_str, req_ii, req_ss, rne_ii, rne_ss, radd_ii, rsub_ii, atI_at, atI_0, atI_1, atI_2, atI_3, atI_4, rLenL, rLenU, rIxLL, rIxU, reduceCtorEq, gTup, gCons, gNil, tFmt_eq, fmtV_str, fmtV_int, tJs_nil, tJs_cons, jsV_str, iKeys_eq, gSub, rSetL, tPart, tNoPart, tSl, rSlL, false_and, exists_false, or_false, false_or, List.set_cons_zero, List.set_cons_succ, ha3, List.length_map]; exact q) (fun hlt Q q => ?_) q
          have hj2 : j < ws.length := by have := of_decide_eq_true hlt; omega
          simp only [tSeq, tIfS, tOr, tAnd, tNot, tB, tTest, tCB, tCons, tNil, tVar, tC, tOp, tUn, tRet, tRetN, tDrop, tAsg, tPar, tPar3, tNext, tNever, tBreak, tCont, tAug, tChain, tAndV, tOrV, tNotV, tIf, tIsN, tNotN, tTup, tLst, tCallD, tMethD, tMakeD, tFld, tCon, sFld, sFldAug, tCallK, tSl, tPart, tNoPart, tBM, tBM0, tDGet, tDIn, tDNotIn, sDPut, tDNewK, tM0, tM1, tOrT, tAndT, tNotT, tAsg2, tAsg3, gName, rI0, rI, rU, tYes, L2.start, NdefX.startF, List.set_cons_zero, List.set_cons_succ, List.map_cons, List.map_nil, List.length_cons, List.length_nil, Nat.sub_zero, Nat.reduceSub, Nat.reduceAdd, List.replicate_succ, List.replicate_zero, List.cons_append, List.nil_append, List.append_nil, List.getElem?_cons_zero, List.getElem?_cons_succ, Option.some.injEq, exists_eq_left', exists_eq_left, exists_eq_right, exists_eq_right', exists_and_left, exists_and_right, exists_eq, exists_eq', true_and, and_true, V.int.injEq, V.str.injEq, V.bl.injEq, V.ref.injEq, V.ty.injEq, HO.ins.injEq, HO.lst.injEq, HO.tup.injEq, and_assoc, List.cons.injEq, Bool.not_true, Bool.not_false, Bool.false_eq_true, if_false, if_true, cx_K, upd_same, upd_upd, isi_str, req_ii, req_ss, rne_ii, rne_ss, radd_ii, rsub_ii, atI_at, atI_0, atI_1, atI_2, atI_3, atI_4, rLenL, rLenU, rIxLL, rIxU, reduceCtorEq, gTup, gCons, gNil, tFmt_eq, fmtV_str, fmtV_int, tJs_nil, tJs_cons, jsV_str, iKeys_eq, gSub, rSetL, tPart, tNoPart, tSl, rSlL, false_and, exists_false, or_false, false_or, List.set_cons_zero, List.set_cons_succ, ha3]
          refine ⟨_, (wAt_at hj2).1, ?_⟩
          simp only [tSeq, tIfS, tOr, tAnd, tNot, tB, tTest, tCB, tCons, tNil, tVar, tC, tOp, tUn, tRet, tRetN, tDrop, tAsg, tPar, tPar3, tNext, tNever, tBreak, tCont, tAug, tChain, tAndV, tOrV, tNotV, tIf, tIsN, tNotN, tTup, tLst, tCallD, tMethD, tMakeD, tFld, tCon, sFld, sFldAug, tCallK, tSl, tPart, tNoPart, tBM, tBM0, tDGet, tDIn, tDNotIn, sDPut, tDNewK, tM0, tM1, tOrT, tAndT, tNotT, tAsg2, tAsg3, gName, rI0, rI, rU, tYes, L2.start, NdefX.startF, List.set_cons_zero, List.set_cons_succ, List.map_cons, List.map_nil, List.length_cons, List.length_nil, Nat.sub_zero, Nat.reduceSub, Nat.reduceAdd, List.replicate_succ, List.replicate_zero, List.cons_append, List.nil_append, List.append_nil, List.getElem?_cons_zero, List.getElem?_cons_succ, Option.some.injEq, exists_eq_left', exists_eq_left, exists_eq_right, exists_eq_right', exists_and_left, exists_and_right, exists_eq, exists_eq', true_and, and_true, V.int.injEq, V.str.injEq, V.bl.injEq, V.ref.injEq, V.ty.injEq, HO.ins.injEq, HO.lst.injEq, HO.tup.injEq, and_assoc, List.cons.injEq, Bool.not_true, Bool.not_false, Bool.false_eq_true, if_false, if_true, cx_K, upd_same, upd_upd, isi_str, req_ii, req_ss, rne_ii, rne_ss, radd_ii, rsub_ii, atI_at, atI_0, atI_1, atI_2, atI_3, atI_4, rLenL, rLenU, rIxLL, rIxU, reduceCtorEq, gTup, gCons, gNil, tFmt_eq, fmtV_str, fmtV_int, tJs_nil, tJs_cons, jsV_str, iKeys_eq, gSub, rSetL, tPart, tNoPart, tSl, rSlL, false_and, exists_false, or_false, false_or, List.set_cons_zero, List.set_cons_succ]
          exact q _ (Same.refl _)
        have ha4 := s4 _ _ ha3
        have s14 := s3.trans s4
        refine ite2 (fun zz => ?_) fun zz => ?_
        · simp only [Bool.and_eq_true, decide_eq_true_eq] at zz
          obtain ⟨rfl, hj, hs⟩ := zz
          have hj2 : j < ws.length := by omega
          have hs2 : ws[j]? = some ("/" : Str) := by rw [(wAt_at hj2).2, hs]
          rcases hor with ⟨h, _⟩ | ⟨_, ⟨es, hes⟩, hm, hjl⟩
          · cases h
          obtain ⟨m1, rfl⟩ : ∃ m1, m = m1 + 1 := ⟨m - 1, by omega⟩
          unfold loopE at hes
          rw [if_pos hs2] at hes
          refine ⟨fun σ' H' => ∃ m', m' < m1 + 1 ∧ DInv z a ws H1 m' σ' H', fun _ _ h => h, ?_⟩
          simp only [tSeq, tIfS, tOr, tAnd, tNot, tB, tTest, tCB, tCons, tNil, tVar, tC, tOp, tUn, tRet, tRetN, tDrop, tAsg, tPar, tPar3, tNext, tNever, tBreak, tCont, tAug, tChain, tAndV, tOrV, tNotV, tIf, tIsN, tNotN, tTup, tLst, tCallD, tMethD, tMakeD, tFld, tCon, sFld, sFldAug, tCallK, tSl, tPart, tNoPart, tBM, tBM0, tDGet, tDIn, tDNotIn, sDPut, tDNewK, tM0, tM1, tOrT, tAndT, tNotT, tAsg2, tAsg3, gName, rI0, rI, rU, tYes, L2.start, NdefX.startF, List.set_cons_zero, List.set_cons_succ, List.map_cons, List.map_nil, List.length_cons, List.length_nil, Nat.sub_zero, Nat.reduceSub, Nat.reduceAdd, List.replicate_succ, List.replicate_zero, List.cons_append, List.nil_append, List.append_nil, List.getElem?_cons_zero, List.getElem?_cons_succ, Option.some.injEq, exists_eq_left', exists_eq_left, exists_eq_right, exists_eq_right', exists_and_left, exists_and_right, exists_eq, exists_eq', true_and, and_true, V.int.injEq, V.str.injEq, V.bl.injEq, V.ref.injEq, V.ty.injEq, HO.ins.injEq, HO.lst.injEq, HO.tup.injEq, and_assoc, List.cons.injEq, Bool.not_true, Bool.not_false, Bool.false_eq_true, if_false, if_true, cx_K, upd_same, upd_upd, isi_str, req_ii, req_ss, rne_ii, rne_ss, radd_ii, rsub_ii, atI_at, atI_0, atI_1, atI_2, atI_3, atI_4, rLenL, rLenU, rIxLL, rIxU, reduceCtorEq, gTup, gCons, gNil, tFmt_eq, fmtV_str, fmtV_int, tJs_nil, tJs_cons, jsV_str, iKeys_eq, gSub, rSetL, tPart, tNoPart, tSl, rSlL, false_and, exists_false, or_false, false_or, List.set_cons_zero, List.set_cons_succ]
          refine ⟨a, ws, j + 1, by rw [show ((j + 1 : Nat) : Int) = (j : Int) + 1 by omega], ⟨ha4, hat⟩, by omega, by omega, fun kk hkk t H6 s6 ht => ?_, fun j2 e2 h2 t H6 s6 ht hj3 hj4 => ?_⟩
          · rw [hkk] at hes
            refine ⟨t, rfl, _, SqT.of ht, rfl, ?_⟩
            simp only [tSeq, tIfS, tOr, tAnd, tNot, tB, tTest, tCB, tCons, tNil, tVar, tC, tOp, tUn, tRet, tRetN, tDrop, tAsg, tPar, tPar3, tNext, tNever, tBreak, tCont, tAug, tChain, tAndV, tOrV, tNotV, tIf, tIsN, tNotN, tTup, tLst, tCallD, tMethD, tMakeD, tFld, tCon, sFld, sFldAug, tCallK, tSl, tPart, tNoPart, tBM, tBM0, tDGet, tDIn, tDNotIn, sDPut, tDNewK, tM0, tM1, tOrT, tAndT, tNotT, tAsg2, tAsg3, gName, rI0, rI, rU, tYes, L2.start, NdefX.startF, List.set_cons_zero, List.set_cons_succ, List.map_cons, List.map_nil, List.length_cons, List.length_nil, Nat.sub_zero, Nat.reduceSub, Nat.reduceAdd, List.replicate_succ, List.replicate_zero, List.cons_append, List.nil_append, List.append_nil, List.getElem?_cons_zero, List.getElem?_cons_succ, Option.some.injEq, exists_eq_left', exists_eq_left, exists_eq_right, exists_eq_right', exists_and_left, exists_and_right, exists_eq, exists_eq', true_and, and_true, V.int.injEq, V.str.injEq, V.bl.injEq, V.ref.injEq, V.ty.injEq, HO.ins.injEq, HO.lst.injEq, HO.tup.injEq, and_assoc, List.cons.injEq, Bool.not_true, Bool.not_false, Bool.false_eq_true, if_false, if_true, cx_K, upd_same, upd_upd, isi_str, req_ii, req_ss, rne_ii, rne_ss, radd_ii, rsub_ii, atI_at, atI_0, atI_1, atI_2, atI_3, atI_4, rLenL, rLenU, rIxLL, rIxU, reduceCtorEq, gTup, gCons, gNil, tFmt_eq, fmtV_str, fmtV_int, tJs_nil, tJs_cons, jsV_str, iKeys_eq, gSub, rSetL, tPart, tNoPart, tSl, rSlL, false_and, exists_false, or_false, false_or, List.set_cons_zero, List.set_cons_succ]
            exact ⟨0, by omega, kk, false, rfl, s14.trans s6, .inl ⟨rfl, hes.symm⟩⟩
          · rw [h2] at hes
            refine ⟨t, rfl, _, SqT.of ht, rfl, ?_⟩
            simp only [tSeq, tIfS, tOr, tAnd, tNot, tB, tTest, tCB, tCons, tNil, tVar, tC, tOp, tUn, tRet, tRetN, tDrop, tAsg, tPar, tPar3, tNext, tNever, tBreak, tCont, tAug, tChain, tAndV, tOrV, tNotV, tIf, tIsN, tNotN, tTup, tLst, tCallD, tMethD, tMakeD, tFld, tCon, sFld, sFldAug, tCallK, tSl, tPart, tNoPart, tBM, tBM0, tDGet, tDIn, tDNotIn, sDPut, tDNewK, tM0, tM1, tOrT, tAndT, tNotT, tAsg2, tAsg3, gName, rI0, rI, rU, tYes, L2.start, NdefX.startF, List.set_cons_zero, List.set_cons_succ, List.map_cons, List.map_nil, List.length_cons, List.length_nil, Nat.sub_zero, Nat.reduceSub, Nat.reduceAdd, List.replicate_succ, List.replicate_zero, List.cons_append, List.nil_append, List.append_nil, List.getElem?_cons_zero, List.getElem?_cons_succ, Option.some.injEq, exists_eq_left', exists_eq_left, exists_eq_right, exists_eq_right', exists_and_left, exists_and_right, exists_eq, exists_eq', true_and, and_true, V.int.injEq, V.str.injEq, V.bl.injEq, V.ref.injEq, V.ty.injEq, HO.ins.injEq, HO.lst.injEq, HO.tup.injEq, and_assoc, List.cons.injEq, Bool.not_true, Bool.not_false, Bool.false_eq_true, if_false, if_true, cx_K, upd_same, upd_upd, isi_str, req_ii, req_ss, rne_ii, rne_ss, radd_ii, rsub_ii, atI_at, atI_0, atI_1, atI_2, atI_3, atI_4, rLenL, rLenU, rIxLL, rIxU, reduceCtorEq, gTup, gCons, gNil, tFmt_eq, fmtV_str, fmtV_int, tJs_nil, tJs_cons, jsV_str, iKeys_eq, gSub, rSetL, tPart, tNoPart, tSl, rSlL, false_and, exists_false, or_false, false_or, List.set_cons_zero, List.set_cons_succ]
            exact ⟨m1, by omega, j2, true, rfl, s14.trans s6, .inr ⟨rfl, ⟨_, hes⟩, by omega, hj4⟩⟩
        · dsimp only
          refine hid_in ?_
          have hk := k H4 (s1.trans s14)
          rcases hor with ⟨rfl, he⟩ | ⟨rfl, ⟨es, hes⟩, hm, hjl⟩
          · rw [he] at hk
            simp only [tSeq, tIfS, tOr, tAnd, tNot, tB, tTest, tCB, tCons, tNil, tVar, tC, tOp, tUn, tRet, tRetN, tDrop, tAsg, tPar, tPar3, tNext, tNever, tBreak, tCont, tAug, tChain, tAndV, tOrV, tNotV, tIf, tIsN, tNotN, tTup, tLst, tCallD, tMethD, tMakeD, tFld, tCon, sFld, sFldAug, tCallK, tSl, tPart, tNoPart, tBM, tBM0, tDGet, tDIn, tDNotIn, sDPut, tDNewK, tM0, tM1, tOrT, tAndT, tNotT, tAsg2, tAsg3, gName, rI0, rI, rU, tYes, L2.start, NdefX.startF, List.set_cons_zero, List.set_cons_succ, List.map_cons, List.map_nil, List.length_cons, List.length_nil, Nat.sub_zero, Nat.reduceSub, Nat.reduceAdd, List.replicate_succ, List.replicate_zero, List.cons_append, List.nil_append, List.append_nil, List.getElem?_cons_zero, List.getElem?_cons_succ, Option.some.injEq, exists_eq_left', exists_eq_left, exists_eq_right, exists_eq_right', exists_and_left, exists_and_right, exists_eq, exists_eq', true_and, and_true, V.int.injEq, V.str.injEq, V.bl.injEq, V.ref.injEq, V.ty.injEq, HO.ins.injEq, HO.lst.injEq, HO.tup.injEq, and_assoc, List.cons.injEq, Bool.not_true, Bool.not_false, Bool.false_eq_true, if_false, if_true, cx_K, upd_same, upd_upd, isi_str, req_ii, req_ss, rne_ii, rne_ss, radd_ii, rsub_ii, atI_at, atI_0, atI_1, atI_2, atI_3, atI_4, rLenL, rLenU, rIxLL, rIxU, reduceCtorEq, gTup, gCons, gNil, tFmt_eq, fmtV_str, fmtV_int, tJs_nil, tJs_cons, jsV_str, iKeys_eq, gSub, rSetL, tPart, tNoPart, tSl, rSlL, false_and, exists_false, or_false, false_or, List.set_cons_zero, List.set_cons_succ]
            exact hk
          · have hns : ¬ ws[j]? = some ("/" : Str) := fun h => by
              refine zz ?_
              have hj2 := (List.getElem?_eq_some_iff.mp h).1
              simp only [Bool.and_eq_true, decide_eq_true_eq]
              exact ⟨trivial, by omega, by unfold wAt; rw [h]; rfl⟩
            obtain ⟨m1, rfl⟩ : ∃ m1, m = m1 + 1 := ⟨m - 1, by omega⟩
            unfold loopE at hes
            rw [if_neg hns] at hes
            simp only [tSeq, tIfS, tOr, tAnd, tNot, tB, tTest, tCB, tCons, tNil, tVar, tC, tOp, tUn, tRet, tRetN, tDrop, tAsg, tPar, tPar3, tNext, tNever, tBreak, tCont, tAug, tChain, tAndV, tOrV, tNotV, tIf, tIsN, tNotN, tTup, tLst, tCallD, tMethD, tMakeD, tFld, tCon, sFld, sFldAug, tCallK, tSl, tPart, tNoPart, tBM, tBM0, tDGet, tDIn, tDNotIn, sDPut, tDNewK, tM0, tM1, tOrT, tAndT, tNotT, tAsg2, tAsg3, gName, rI0, rI, rU, tYes, L2.start, NdefX.startF, List.set_cons_zero, List.set_cons_succ, List.map_cons, List.map_nil, List.length_cons, List.length_nil, Nat.sub_zero, Nat.reduceSub, Nat.reduceAdd, List.replicate_succ, List.replicate_zero, List.cons_append, List.nil_append, List.append_nil, List.getElem?_cons_zero, List.getElem?_cons_succ, Option.some.injEq, exists_eq_left', exists_eq_left, exists_eq_right, exists_eq_right', exists_and_left, exists_and_right, exists_eq, exists_eq', true_and, and_true, V.int.injEq, V.str.injEq, V.bl.injEq, V.ref.injEq, V.ty.injEq, HO.ins.injEq, HO.lst.injEq, HO.tup.injEq, and_assoc, List.cons.injEq, Bool.not_true, Bool.not_false, Bool.false_eq_true, if_false, if_true, cx_K, upd_same, upd_upd, isi_str, req_ii, req_ss, rne_ii, rne_ss, radd_ii, rsub_ii, atI_at, atI_0, atI_1, atI_2, atI_3, atI_4, rLenL, rLenU, rIxLL, rIxU, reduceCtorEq, gTup, gCons, gNil, tFmt_eq, fmtV_str, fmtV_int, tJs_nil, tJs_cons, jsV_str, iKeys_eq, gSub, rSetL, tPart, tNoPart, tSl, rSlL, false_and, exists_false, or_false, false_or, List.set_cons_zero, List.set_cons_succ, ha4, List.length_map]
            refine ite2 (fun ze => ?_) fun ze => ?_
            · rw [if_neg (by have := of_decide_eq_true ze; omega)] at hes
              rw [← hes] at hk
              exact hk
            · rw [if_pos (by have : ¬ (j : Int) = (ws.length : Int) := by simpa using ze
                             omega)] at hes
              rw [← hes] at hk
              exact hk
      have e0 : endsM ws = match endM ws 0 with
          | .inl k => .inl k
          | .inr (j, e) => loopE ws (ws.length + 1) j [e] := by unfold endsM; rw [if_neg hs] <;> (cases endM ws 0 <;> rfl)
      refine ⟨a, ws, 0, rfl, ⟨ha, hat⟩, by omega, Nat.zero_le _, fun kk hkk t H6 s6 ht => ?_, fun j2 e2 h2 t H6 s6 ht hj3 hj4 => ?_⟩
      · rw [hkk] at e0
        refine ⟨t, rfl, _, SqT.of ht, rfl, .int kk, _, rfl, .bl false, _, rfl, rfl, ?_⟩
        exact rest 0 kk false H6 ⟨kk, false, rfl, s6, .inl ⟨rfl, e0⟩⟩
      · rw [h2] at e0
        refine ⟨t, rfl, _, SqT.of ht, rfl, .int j2, _, rfl, .bl true, _, rfl, rfl, ?_⟩
        exact rest (ws.length + 1) j2 true H6 ⟨j2, true, rfl, s6, .inr ⟨rfl, ⟨_, e0.symm⟩, by omega, hj4⟩⟩
end
end Ky

set_option Elab.async false
set_option maxRecDepth 100000
set_option maxHeartbeats 4000000
set_option linter.all false
namespace Ky
open PySem L2 Ly
theorem empty_app (x : Str) : Str.empty ++ x = x := TL.ext_tl (by rw [TL.tl_append]; rfl)
theorem app_assoc (x y z : Str) : x ++ y ++ z = x ++ (y ++ z) := TL.ext_tl (by simp only [TL.tl_append, List.append_assoc])
theorem pget {α β : Type} {F : α → β → Prop} : ∀ {xs : List α} {ys : List β}, Paired F xs ys → xs.length = ys.length ∧ ∀ i (h : i < xs.length) (h2 : i < ys.length), F xs[i] ys[i]
  | _, _, .nil => ⟨rfl, fun i h => absurd h (Nat.not_lt_zero _)⟩
  | _, _, .cons a r => ⟨congrArg (· + 1) (pget r).1, fun i h h2 => match i with
    | 0 => a
    | i + 1 => (pget r).2 i (Nat.lt_of_succ_lt_succ h) (Nat.lt_of_succ_lt_succ h2)⟩
def spLine : Sp := fun vs H Q _ => ∃ (t : Addr) (e : EndD), vs = [.ref t] ∧ PlainAt H t e ∧ FitE e ∧ ∀ H', Same H H' → Q (.str (endText e)) H'
section
variable {w : World} {K : PySem.W.Frag} {mg : Str → Option Value} {base : Heap} {aK aF CB CP CE CW : Addr}
abbrev s__law_line : Stmt := top 27
theorem sc__law_line : FnScope ["_law_plain_here", "_law_gone", "_law_cells_so", "_law_logs_so", "_law_parts", "_law_title", "_law_many", "_law_said"] ["_law_plain_here"] (defScope s__law_line) := ⟨rfl, rfl, rfl, by decide +kernel, rfl, by decide +kernel, by decide +kernel⟩
theorem ok_line {f : Addr} {fd : FuncData} (F : Fun K "_law_line" "_law_line" s__law_line f fd) (T : Tx K mg aK aF) : FnOk PP w K mg base (L2.CX PP w) 1 f fd ["_law_plain_here"] spLine := by
  refine F.okX sc__law_line (fun vs H Q E h => ?_) (fun cdv A outer s H vs Q E hr h => ?_)
  · obtain ⟨t, e, rfl, _⟩ := h; rfl
  · obtain ⟨t, e, rfl, W, fit, k⟩ := h
    obtain ⟨cl, ll, cps, ls, lps, ht, hcl, hll, pc, pl, el⟩ := W.ex
    refine ⟨_, (pss_cons (ps_asg (pv 0) (pg_tup (n := 3) (by rfl) (pgs_cons (pg_name (i := 1) sc__law_line.nd rfl (Or.inl rfl)) (pgs_cons (pg_name (i := 2) sc__law_line.nd rfl (Or.inl rfl)) (pgs_cons (pg_name (i := 3) sc__law_line.nd rfl (Or.inl rfl)) pgs_nil)))))
      (pss_hid (pss_cons (ps_set (i := 4) sc__law_line.nd rfl (Or.inl rfl) (pe_op op_cat (pe_lst (pa_cons (pe_ifExp (pt_cmpR op_isN (pv 1) pe_non (nomark _)) pe_str (pe_op op_add_str pe_str (pv 1))) pa_nil)) (pe_lc (own := [("_law_title", 5), ("_law_many", 6)]) (tt := tYes) rfl sc__law_line.nd (pi_list (pv 2)) (blkOk_by (N := ["_law_plain_here", "_law_gone", "_law_cells_so", "_law_logs_so", "_law_parts", "_law_title", "_law_many", "_law_said"]) (sc := defScope s__law_line) (by decide +kernel)) (fun _ _ _ _ _ => (pg_tupK (K := K) (n := 2) rfl (by rfl) (pgs_cons (pg_name (i := 5) sc__law_line.nd rfl (Or.inl rfl)) (pgs_cons (pg_name (i := 6) sc__law_line.nd rfl (Or.inl rfl)) pgs_nil)))) (fun _ _ _ _ _ => pts_nil) (fun _ _ _ _ _ => (pe_op op_add_str (pe_op op_add_str (pv 5) pe_str) (pe_callTy call_str_int (by rfl) T.str (by decide +kernel) (pa_cons (pv 6) pa_nil)))))))
      (pss_hid (pss_one (ps_ret (pe_join pe_str (pe_op op_cat (pv 4) (pe_lc (own := [("_law_title", 5), ("_law_said", 7)]) (tt := tYes) rfl sc__law_line.nd (pi_list (pv 3)) (blkOk_by (N := ["_law_plain_here", "_law_gone", "_law_cells_so", "_law_logs_so", "_law_parts", "_law_title", "_law_many", "_law_said"]) (sc := defScope s__law_line) (by decide +kernel)) (fun _ _ _ _ _ => (pg_tupK (K := K) (n := 2) rfl (by rfl) (pgs_cons (pg_name (i := 5) sc__law_line.nd rfl (Or.inl rfl)) (pgs_cons (pg_name (i := 7) sc__law_line.nd rfl (Or.inl rfl)) pgs_nil)))) (fun _ _ _ _ _ => pts_nil) (fun _ _ _ _ _ => (pe_op op_add_str (pe_op op_add_str (pv 5) pe_str) (pe_orTK (K := K) rfl (pe_joinK (K := K) rfl pe_str (pv 7)) (pe_one pe_str))))))))))))), ?_⟩
    simp only [tSeq, tIfS, tOr, tAnd, tNot, tB, tTest, tCB, tCons, tNil, tVar, tC, tOp, tUn, tRet, tRetN, tDrop, tAsg, tPar, tPar3, tNext, tNever, tBreak, tCont, tAug, tChain, tAndV, tOrV, tNotV, tIf, tIsN, tNotN, tTup, tLst, tCallD, tMethD, tMakeD, tFld, tCon, sFld, sFldAug, tCallK, tSl, tPart, tNoPart, tBM, tBM0, tDGet, tDIn, tDNotIn, sDPut, tDNewK, tM0, tM1, tOrT, tAndT, tNotT, tAsg2, tAsg3, gName, rI0, rI, rU, tYes, L2.start, NdefX.startF, List.set_cons_zero, List.set_cons_succ, List.map_cons, List.map_nil, List.length_cons, List.length_nil, Nat.sub_zero, Nat.reduceSub, Nat.reduceAdd, List.replicate_succ, List.replicate_zero, List.cons_append, List.nil_append, List.append_nil, List.getElem?_cons_zero, List.getElem?_cons_succ, Option.some.injEq, exists_eq_left', exists_eq_left, exists_eq_right, exists_eq_right', exists_and_left, exists_and_right, exists_eq, exists_eq', true_and, and_true, V.int.injEq, V.str.injEq, V.bl.injEq, V.ref.injEq, V.ty.injEq, HO.ins.injEq, HO.lst.injEq, HO.tup.injEq, and_assoc, List.cons.injEq, Bool.not_true, Bool.not_false, Bool.false_eq_true, if_false, if_true, cx_K, upd_same, upd_upd, isi_str, req_ii, req_ss, rne_ii, rne_ss, radd_ii, rsub_ii, atI_at, atI_0, atI_1, atI_2, atI_3, atI_4, rLenL, rLenU, rIxLL, rIxU, reduceCtorEq, gTup, gCons, gNil, tFmt_eq, fmtV_str, fmtV_int, tJs_nil, tJs_cons, jsV_str, iKeys_eq, gSub, rSetL, tPart, tNoPart, tSl, rSlL, false_and, exists_false, or_false, false_or, List.set_cons_zero, List.set_cons_succ]
    refine ⟨_, SqT.of ht, rfl, ?_⟩
    simp only [tSeq, tIfS, tOr, tAnd, tNot, tB, tTest, tCB, tCons, tNil, tVar, tC, tOp, tUn, tRet, tRetN, tDrop, tAsg, tPar, tPar3, tNext, tNever, tBreak, tCont, tAug, tChain, tAndV, tOrV, tNotV, tIf, tIsN, tNotN, tTup, tLst, tCallD, tMethD, tMakeD, tFld, tCon, sFld, sFldAug, tCallK, tSl, tPart, tNoPart, tBM, tBM0, tDGet, tDIn, tDNotIn, sDPut, tDNewK, tM0, tM1, tOrT, tAndT, tNotT, tAsg2, tAsg3, gName, rI0, rI, rU, tYes, L2.start, NdefX.startF, List.set_cons_zero, List.set_cons_succ, List.map_cons, List.map_nil, List.length_cons, List.length_nil, Nat.sub_zero, Nat.reduceSub, Nat.reduceAdd, List.replicate_succ, List.replicate_zero, List.cons_append, List.nil_append, List.append_nil, List.getElem?_cons_zero, List.getElem?_cons_succ, Option.some.injEq, exists_eq_left', exists_eq_left, exists_eq_right, exists_eq_right', exists_and_left, exists_and_right, exists_eq, exists_eq', true_and, and_true, V.int.injEq, V.str.injEq, V.bl.injEq, V.ref.injEq, V.ty.injEq, HO.ins.injEq, HO.lst.injEq, HO.tup.injEq, and_assoc, List.cons.injEq, Bool.not_true, Bool.not_false, Bool.false_eq_true, if_false, if_true, cx_K, upd_same, upd_upd, isi_str, req_ii, req_ss, rne_ii, rne_ss, radd_ii, rsub_ii, atI_at, atI_0, atI_1, atI_2, atI_3, atI_4, rLenL, rLenU, rIxLL, rIxU, reduceCtorEq, gTup, gCons, gNil, tFmt_eq, fmtV_str, fmtV_int, tJs_nil, tJs_cons, jsV_str, iKeys_eq, gSub, rSetL, tPart, tNoPart, tSl, rSlL, false_and, exists_false, or_false, false_or, List.set_cons_zero, List.set_cons_succ]
    refine hid_in ?_
    simp only [tSeq, tIfS, tOr, tAnd, tNot, tB, tTest, tCB, tCons, tNil, tVar, tC, tOp, tUn, tRet, tRetN, tDrop, tAsg, tPar, tPar3, tNext, tNever, tBreak, tCont, tAug, tChain, tAndV, tOrV, tNotV, tIf, tIsN, tNotN, tTup, tLst, tCallD, tMethD, tMakeD, tFld, tCon, sFld, sFldAug, tCallK, tSl, tPart, tNoPart, tBM, tBM0, tDGet, tDIn, tDNotIn, sDPut, tDNewK, tM0, tM1, tOrT, tAndT, tNotT, tAsg2, tAsg3, gName, rI0, rI, rU, tYes, L2.start, NdefX.startF, List.set_cons_zero, List.set_cons_succ, List.map_cons, List.map_nil, List.length_cons, List.length_nil, Nat.sub_zero, Nat.reduceSub, Nat.reduceAdd, List.replicate_succ, List.replicate_zero, List.cons_append, List.nil_append, List.append_nil, List.getElem?_cons_zero, List.getElem?_cons_succ, Option.some.injEq, exists_eq_left', exists_eq_left, exists_eq_right, exists_eq_right', exists_and_left, exists_and_right, exists_eq, exists_eq', true_and, and_true, V.int.injEq, V.str.injEq, V.bl.injEq, V.ref.injEq, V.ty.injEq, HO.ins.injEq, HO.lst.injEq, HO.tup.injEq, and_assoc, List.cons.injEq, Bool.not_true, Bool.not_false, Bool.false_eq_true, if_false, if_true, cx_K, upd_same, upd_upd, isi_str, req_ii, req_ss, rne_ii, rne_ss, radd_ii, rsub_ii, atI_at, atI_0, atI_1, atI_2, atI_3, atI_4, rLenL, rLenU, rIxLL, rIxU, reduceCtorEq, gTup, gCons, gNil, tFmt_eq, fmtV_str, fmtV_int, tJs_nil, tJs_cons, jsV_str, iKeys_eq, gSub, rSetL, tPart, tNoPart, tSl, rSlL, false_and, exists_false, or_false, false_or, List.set_cons_zero, List.set_cons_succ]
    obtain ⟨X, hX⟩ : ∃ X, X = headS e.failed := ⟨_, rfl⟩
    have hv : (failV e.failed = .non ∧ X = "done") ∨ ∃ x : Str, failV e.failed = .str x ∧ X = "failed " ++ x ∧ x.length ≤ 8 := by
      have fl := fit.f
      cases hf : e.failed with
      | none => exact .inl ⟨rfl, by rw [hX, hf]; rfl⟩
      | some x => exact .inr ⟨x, rfl, by rw [hX, hf]; show Str.empty ++ "failed " ++ x = _; rw [empty_app], fl x hf⟩
    have h7 : ("failed " : Str).length = 7 := by decide +kernel
    have h1s : (" " : Str).length = 1 := by decide +kernel
    obtain ⟨hcl1, hcg⟩ := pget pc
    obtain ⟨hll1, hlg⟩ := pget pl
    have hn := fit.n
    have hn2 := nd_len (f := fun x : Str × List Str => x.2.length) e.logs
    have hls : ls.length = e.logs.length := by rw [← el]; simp [lD]
    have plen := parts_len fit
    rcases hv with ⟨hv, hX'⟩ | ⟨x, hv, hX', hx⟩
    case' inl =>
      simp only [tSeq, tIfS, tOr, tAnd, tNot, tB, tTest, tCB, tCons, tNil, tVar, tC, tOp, tUn, tRet, tRetN, tDrop, tAsg, tPar, tPar3, tNext, tNever, tBreak, tCont, tAug, tChain, tAndV, tOrV, tNotV, tIf, tIsN, tNotN, tTup, tLst, tCallD, tMethD, tMakeD, tFld, tCon, sFld, sFldAug, tCallK, tSl, tPart, tNoPart, tBM, tBM0, tDGet, tDIn, tDNotIn, sDPut, tDNewK, tM0, tM1, tOrT, tAndT, tNotT, tAsg2, tAsg3, gName, rI0, rI, rU, tYes, L2.start, NdefX.startF, List.set_cons_zero, List.set_cons_succ, List.map_cons, List.map_nil, List.length_cons, List.length_nil, Nat.sub_zero, Nat.reduceSub, Nat.reduceAdd, List.replicate_succ, List.replicate_zero, List.cons_append, List.nil_append, List.append_nil, List.getElem?_cons_zero, List.getElem?_cons_succ, Option.some.injEq, exists_eq_left', exists_eq_left, exists_eq_right, exists_eq_right', exists_and_left, exists_and_right, exists_eq, exists_eq', true_and, and_true, V.int.injEq, V.str.injEq, V.bl.injEq, V.ref.injEq, V.ty.injEq, HO.ins.injEq, HO.lst.injEq, HO.tup.injEq, and_assoc, List.cons.injEq, Bool.not_true, Bool.not_false, Bool.false_eq_true, if_false, if_true, cx_K, upd_same, upd_upd, isi_str, req_ii, req_ss, rne_ii, rne_ss, radd_ii, rsub_ii, atI_at, atI_0, atI_1, atI_2, atI_3, atI_4, rLenL, rLenU, rIxLL, rIxU, reduceCtorEq, gTup, gCons, gNil, tFmt_eq, fmtV_str, fmtV_int, tJs_nil, tJs_cons, jsV_str, iKeys_eq, gSub, rSetL, tPart, tNoPart, tSl, rSlL, false_and, exists_false, or_false, false_or, List.set_cons_zero, List.set_cons_succ, hv, decide_true]
      refine ⟨sz_le (by decide), ?_⟩
      rw [← hX']
      clear hX' hv
    case' inr =>
      simp only [tSeq, tIfS, tOr, tAnd, tNot, tB, tTest, tCB, tCons, tNil, tVar, tC, tOp, tUn, tRet, tRetN, tDrop, tAsg, tPar, tPar3, tNext, tNever, tBreak, tCont, tAug, tChain, tAndV, tOrV, tNotV, tIf, tIsN, tNotN, tTup, tLst, tCallD, tMethD, tMakeD, tFld, tCon, sFld, sFldAug, tCallK, tSl, tPart, tNoPart, tBM, tBM0, tDGet, tDIn, tDNotIn, sDPut, tDNewK, tM0, tM1, tOrT, tAndT, tNotT, tAsg2, tAsg3, gName, rI0, rI, rU, tYes, L2.start, NdefX.startF, List.set_cons_zero, List.set_cons_succ, List.map_cons, List.map_nil, List.length_cons, List.length_nil, Nat.sub_zero, Nat.reduceSub, Nat.reduceAdd, List.replicate_succ, List.replicate_zero, List.cons_append, List.nil_append, List.append_nil, List.getElem?_cons_zero, List.getElem?_cons_succ, Option.some.injEq, exists_eq_left', exists_eq_left, exists_eq_right, exists_eq_right', exists_and_left, exists_and_right, exists_eq, exists_eq', true_and, and_true, V.int.injEq, V.str.injEq, V.bl.injEq, V.ref.injEq, V.ty.injEq, HO.ins.injEq, HO.lst.injEq, HO.tup.injEq, and_assoc, List.cons.injEq, Bool.not_true, Bool.not_false, Bool.false_eq_true, if_false, if_true, cx_K, upd_same, upd_upd, isi_str, req_ii, req_ss, rne_ii, rne_ss, radd_ii, rsub_ii, atI_at, atI_0, atI_1, atI_2, atI_3, atI_4, rLenL, rLenU, rIxLL, rIxU, reduceCtorEq, gTup, gCons, gNil, tFmt_eq, fmtV_str, fmtV_int, tJs_nil, tJs_cons, jsV_str, iKeys_eq, gSub, rSetL, tPart, tNoPart, tSl, rSlL, false_and, exists_false, or_false, false_or, List.set_cons_zero, List.set_cons_succ, hv, decide_false]
      refine ⟨sz_le (by rw [h7]; omega), sz_le (by decide), ?_⟩
      rw [← hX']
      clear hX' hv
    all_goals (
      intro p hp
      have s1 : Same H (upd H p (.lst [.str X])) := same_upd hp
      have gp : upd H p (.lst [.str X]) p = some (.lst [.str X]) := upd_same
      generalize upd H p (.lst [.str X]) = H1 at s1 gp ⊢
      have hcl2 := s1 _ _ hcl
      refine tLc_grow (walk_list (xs := cps.map V.ref)) (hw_lst (fun Q q => ⟨.ref cl, rfl, q⟩) hcl2) (fun i => .str (cellS (e.cells.getD i ("", 0)))) ?_ (fun _ s => SqL.of (s _ _ hcl2)) (fun i x H2 H3 hi s2 y R hR => ?_) fun D H2 hD s2 eD => ?_
      · rw [List.length_map]; omega
      · obtain ⟨rfl, hx⟩ := y
        simp only [List.length_map] at hi
        simp only [List.getElem?_map, List.getElem?_eq_getElem hi, Option.map_some, Option.some.injEq] at hx
        subst hx
        have hi2 : i < e.cells.length := by omega
        have hg := s2 _ _ (s1 _ _ (hcg i hi hi2))
        obtain ⟨c1, c2, c3⟩ := fit.c _ (List.getElem_mem hi2)
        have hR2 := hR _ (Same.refl _)
        rw [show e.cells.getD i (("" : Str), (0 : Int)) = e.cells[i] by rw [List.getD_eq_getElem?_getD, List.getElem?_eq_getElem hi2, Option.getD_some]] at hR2
        have hlen := fig_len c2 c3
        simp only [tSeq, tIfS, tOr, tAnd, tNot, tB, tTest, tCB, tCons, tNil, tVar, tC, tOp, tUn, tRet, tRetN, tDrop, tAsg, tPar, tPar3, tNext, tNever, tBreak, tCont, tAug, tChain, tAndV, tOrV, tNotV, tIf, tIsN, tNotN, tTup, tLst, tCallD, tMethD, tMakeD, tFld, tCon, sFld, sFldAug, tCallK, tSl, tPart, tNoPart, tBM, tBM0, tDGet, tDIn, tDNotIn, sDPut, tDNewK, tM0, tM1, tOrT, tAndT, tNotT, tAsg2, tAsg3, gName, rI0, rI, rU, tYes, L2.start, NdefX.startF, List.set_cons_zero, List.set_cons_succ, List.map_cons, List.map_nil, List.length_cons, List.length_nil, Nat.sub_zero, Nat.reduceSub, Nat.reduceAdd, List.replicate_succ, List.replicate_zero, List.cons_append, List.nil_append, List.append_nil, List.getElem?_cons_zero, List.getElem?_cons_succ, Option.some.injEq, exists_eq_left', exists_eq_left, exists_eq_right, exists_eq_right', exists_and_left, exists_and_right, exists_eq, exists_eq', true_and, and_true, V.int.injEq, V.str.injEq, V.bl.injEq, V.ref.injEq, V.ty.injEq, HO.ins.injEq, HO.lst.injEq, HO.tup.injEq, and_assoc, List.cons.injEq, Bool.not_true, Bool.not_false, Bool.false_eq_true, if_false, if_true, cx_K, upd_same, upd_upd, isi_str, req_ii, req_ss, rne_ii, rne_ss, radd_ii, rsub_ii, atI_at, atI_0, atI_1, atI_2, atI_3, atI_4, rLenL, rLenU, rIxLL, rIxU, reduceCtorEq, gTup, gCons, gNil, tFmt_eq, fmtV_str, fmtV_int, tJs_nil, tJs_cons, jsV_str, iKeys_eq, gSub, rSetL, tPart, tNoPart, tSl, rSlL, false_and, exists_false, or_false, false_or, List.set_cons_zero, List.set_cons_succ, wipe]
        refine ⟨_, SqT.of hg, rfl, ?_⟩
        simp only [tSeq, tIfS, tOr, tAnd, tNot, tB, tTest, tCB, tCons, tNil, tVar, tC, tOp, tUn, tRet, tRetN, tDrop, tAsg, tPar, tPar3, tNext, tNever, tBreak, tCont, tAug, tChain, tAndV, tOrV, tNotV, tIf, tIsN, tNotN, tTup, tLst, tCallD, tMethD, tMakeD, tFld, tCon, sFld, sFldAug, tCallK, tSl, tPart, tNoPart, tBM, tBM0, tDGet, tDIn, tDNotIn, sDPut, tDNewK, tM0, tM1, tOrT, tAndT, tNotT, tAsg2, tAsg3, gName, rI0, rI, rU, tYes, L2.start, NdefX.startF, List.set_cons_zero, List.set_cons_succ, List.map_cons, List.map_nil, List.length_cons, List.length_nil, Nat.sub_zero, Nat.reduceSub, Nat.reduceAdd, List.replicate_succ, List.replicate_zero, List.cons_append, List.nil_append, List.append_nil, List.getElem?_cons_zero, List.getElem?_cons_succ, Option.some.injEq, exists_eq_left', exists_eq_left, exists_eq_right, exists_eq_right', exists_and_left, exists_and_right, exists_eq, exists_eq', true_and, and_true, V.int.injEq, V.str.injEq, V.bl.injEq, V.ref.injEq, V.ty.injEq, HO.ins.injEq, HO.lst.injEq, HO.tup.injEq, and_assoc, List.cons.injEq, Bool.not_true, Bool.not_false, Bool.false_eq_true, if_false, if_true, cx_K, upd_same, upd_upd, isi_str, req_ii, req_ss, rne_ii, rne_ss, radd_ii, rsub_ii, atI_at, atI_0, atI_1, atI_2, atI_3, atI_4, rLenL, rLenU, rIxLL, rIxU, reduceCtorEq, gTup, gCons, gNil, tFmt_eq, fmtV_str, fmtV_int, tJs_nil, tJs_cons, jsV_str, iKeys_eq, gSub, rSetL, tPart, tNoPart, tSl, rSlL, false_and, exists_false, or_false, false_or, List.set_cons_zero, List.set_cons_succ]
        refine ⟨sz_le (by rw [h1s]; omega), hlen.2, sz_le (by rw [app_len, h1s]; omega), ?_⟩
        unfold cellS at hR2
        rw [empty_app] at hR2
        exact hR2
      · have gp2 := s2 _ _ gp
        have eD2 : H2 D = some (.lst ((e.cells.map cellS).map V.str)) := by
          rw [eD, List.length_map, hcl1, range_get e.cells ("", 0) (fun x => .str (cellS x)), List.map_map]; rfl
        refine ⟨p, D, _, _, rfl, rfl, gp2, eD2, sz_le (by simp only [List.length_map, List.length_cons, List.length_nil]; omega), fun q hq => ?_⟩
        have s3 : Same H2 (upd H2 q (.lst ([V.str X] ++ (e.cells.map cellS).map V.str))) := same_upd hq
        have gq : upd H2 q (.lst ([V.str X] ++ (e.cells.map cellS).map V.str)) q = some (.lst ([V.str X] ++ (e.cells.map cellS).map V.str)) := upd_same
        generalize upd H2 q (.lst ([V.str X] ++ (e.cells.map cellS).map V.str)) = H3 at s3 gq ⊢
        have s13 := s1.trans (s2.trans s3)
        have hll3 := s13 _ _ hll
        refine hid_in ?_
        simp only [tSeq, tIfS, tOr, tAnd, tNot, tB, tTest, tCB, tCons, tNil, tVar, tC, tOp, tUn, tRet, tRetN, tDrop, tAsg, tPar, tPar3, tNext, tNever, tBreak, tCont, tAug, tChain, tAndV, tOrV, tNotV, tIf, tIsN, tNotN, tTup, tLst, tCallD, tMethD, tMakeD, tFld, tCon, sFld, sFldAug, tCallK, tSl, tPart, tNoPart, tBM, tBM0, tDGet, tDIn, tDNotIn, sDPut, tDNewK, tM0, tM1, tOrT, tAndT, tNotT, tAsg2, tAsg3, gName, rI0, rI, rU, tYes, L2.start, NdefX.startF, List.set_cons_zero, List.set_cons_succ, List.map_cons, List.map_nil, List.length_cons, List.length_nil, Nat.sub_zero, Nat.reduceSub, Nat.reduceAdd, List.replicate_succ, List.replicate_zero, List.cons_append, List.nil_append, List.append_nil, List.getElem?_cons_zero, List.getElem?_cons_succ, Option.some.injEq, exists_eq_left', exists_eq_left, exists_eq_right, exists_eq_right', exists_and_left, exists_and_right, exists_eq, exists_eq', true_and, and_true, V.int.injEq, V.str.injEq, V.bl.injEq, V.ref.injEq, V.ty.injEq, HO.ins.injEq, HO.lst.injEq, HO.tup.injEq, and_assoc, List.cons.injEq, Bool.not_true, Bool.not_false, Bool.false_eq_true, if_false, if_true, cx_K, upd_same, upd_upd, isi_str, req_ii, req_ss, rne_ii, rne_ss, radd_ii, rsub_ii, atI_at, atI_0, atI_1, atI_2, atI_3, atI_4, rLenL, rLenU, rIxLL, rIxU, reduceCtorEq, gTup, gCons, gNil, tFmt_eq, fmtV_str, fmtV_int, tJs_nil, tJs_cons, jsV_str, iKeys_eq, gSub, rSetL, tPart, tNoPart, tSl, rSlL, false_and, exists_false, or_false, false_or, List.set_cons_zero, List.set_cons_succ]
        refine tLc_grow (walk_list (xs := lps.map V.ref)) (hw_lst (fun Q q => ⟨.ref ll, rfl, q⟩) hll3) (fun i => .str (logS (e.logs.getD i ("", [])))) ?_ (fun _ s => SqL.of (s _ _ hll3)) (fun i x H4 H5 hi s4 y R hR => ?_) fun D2 H4 hD2 s4 eD4 => ?_
        · rw [List.length_map]; omega
        · obtain ⟨rfl, hx⟩ := y
          simp only [List.length_map] at hi
          simp only [List.getElem?_map, List.getElem?_eq_getElem hi, Option.map_some, Option.some.injEq] at hx
          subst hx
          have hi2 : i < ls.length := by omega
          have hi3 : i < e.logs.length := by omega
          obtain ⟨g1, g2⟩ := hlg i hi hi2
          have g1' := s4 _ _ (s13 _ _ g1)
          have g2' := s4 _ _ (s13 _ _ g2)
          have ei : e.logs[i] = ((ls[i]).1, (ls[i]).2.2) := by
            have : e.logs[i]? = some ((ls[i]).1, (ls[i]).2.2) := by rw [← el]; unfold lD; rw [List.getElem?_map, List.getElem?_eq_getElem hi2]; rfl
            rw [List.getElem?_eq_getElem hi3] at this
            exact Option.some.inj this
          obtain ⟨c1, c2⟩ := fit.l _ (List.getElem_mem hi3)
          have hR2 := hR _ (Same.refl _)
          rw [show e.logs.getD i (("" : Str), ([] : List Str)) = e.logs[i] by rw [List.getD_eq_getElem?_getD, List.getElem?_eq_getElem hi3, Option.getD_some]] at hR2
          have hle : (ls[i]).2.2.length + 1 ≤ (e.logs.map fun x => x.2.length + 1).sum := by
            have := le_sum (fun x : Str × List Str => x.2.length + 1) _ _ (List.getElem_mem hi3)
            rw [ei] at this
            exact this
          rw [ei] at c1 c2 hR2
          replace c1 : (ls[i]).1.length ≤ 8 := c1
          have hs : ((ls[i]).2.2.map (·.length)).sum ≤ (ls[i]).2.2.length * 8 := sum_le _ _ _ c2
          have hj := join_len " " (ls[i]).2.2
          rw [h1s] at hj
          simp only [tSeq, tIfS, tOr, tAnd, tNot, tB, tTest, tCB, tCons, tNil, tVar, tC, tOp, tUn, tRet, tRetN, tDrop, tAsg, tPar, tPar3, tNext, tNever, tBreak, tCont, tAug, tChain, tAndV, tOrV, tNotV, tIf, tIsN, tNotN, tTup, tLst, tCallD, tMethD, tMakeD, tFld, tCon, sFld, sFldAug, tCallK, tSl, tPart, tNoPart, tBM, tBM0, tDGet, tDIn, tDNotIn, sDPut, tDNewK, tM0, tM1, tOrT, tAndT, tNotT, tAsg2, tAsg3, gName, rI0, rI, rU, tYes, L2.start, NdefX.startF, List.set_cons_zero, List.set_cons_succ, List.map_cons, List.map_nil, List.length_cons, List.length_nil, Nat.sub_zero, Nat.reduceSub, Nat.reduceAdd, List.replicate_succ, List.replicate_zero, List.cons_append, List.nil_append, List.append_nil, List.getElem?_cons_zero, List.getElem?_cons_succ, Option.some.injEq, exists_eq_left', exists_eq_left, exists_eq_right, exists_eq_right', exists_and_left, exists_and_right, exists_eq, exists_eq', true_and, and_true, V.int.injEq, V.str.injEq, V.bl.injEq, V.ref.injEq, V.ty.injEq, HO.ins.injEq, HO.lst.injEq, HO.tup.injEq, and_assoc, List.cons.injEq, Bool.not_true, Bool.not_false, Bool.false_eq_true, if_false, if_true, cx_K, upd_same, upd_upd, isi_str, req_ii, req_ss, rne_ii, rne_ss, radd_ii, rsub_ii, atI_at, atI_0, atI_1, atI_2, atI_3, atI_4, rLenL, rLenU, rIxLL, rIxU, reduceCtorEq, gTup, gCons, gNil, tFmt_eq, fmtV_str, fmtV_int, tJs_nil, tJs_cons, jsV_str, iKeys_eq, gSub, rSetL, tPart, tNoPart, tSl, rSlL, false_and, exists_false, or_false, false_or, List.set_cons_zero, List.set_cons_succ, wipe]
          refine ⟨_, SqT.of g1', rfl, ?_⟩
          simp only [tSeq, tIfS, tOr, tAnd, tNot, tB, tTest, tCB, tCons, tNil, tVar, tC, tOp, tUn, tRet, tRetN, tDrop, tAsg, tPar, tPar3, tNext, tNever, tBreak, tCont, tAug, tChain, tAndV, tOrV, tNotV, tIf, tIsN, tNotN, tTup, tLst, tCallD, tMethD, tMakeD, tFld, tCon, sFld, sFldAug, tCallK, tSl, tPart, tNoPart, tBM, tBM0, tDGet, tDIn, tDNotIn, sDPut, tDNewK, tM0, tM1, tOrT, tAndT, tNotT, tAsg2, tAsg3, gName, rI0, rI, rU, tYes, L2.start, NdefX.startF, List.set_cons_zero, List.set_cons_succ, List.map_cons, List.map_nil, List.length_cons, List.length_nil, Nat.sub_zero, Nat.reduceSub, Nat.reduceAdd, List.replicate_succ, List.replicate_zero, List.cons_append, List.nil_append, List.append_nil, List.getElem?_cons_zero, List.getElem?_cons_succ, Option.some.injEq, exists_eq_left', exists_eq_left, exists_eq_right, exists_eq_right', exists_and_left, exists_and_right, exists_eq, exists_eq', true_and, and_true, V.int.injEq, V.str.injEq, V.bl.injEq, V.ref.injEq, V.ty.injEq, HO.ins.injEq, HO.lst.injEq, HO.tup.injEq, and_assoc, List.cons.injEq, Bool.not_true, Bool.not_false, Bool.false_eq_true, if_false, if_true, cx_K, upd_same, upd_upd, isi_str, req_ii, req_ss, rne_ii, rne_ss, radd_ii, rsub_ii, atI_at, atI_0, atI_1, atI_2, atI_3, atI_4, rLenL, rLenU, rIxLL, rIxU, reduceCtorEq, gTup, gCons, gNil, tFmt_eq, fmtV_str, fmtV_int, tJs_nil, tJs_cons, jsV_str, iKeys_eq, gSub, rSetL, tPart, tNoPart, tSl, rSlL, false_and, exists_false, or_false, false_or, List.set_cons_zero, List.set_cons_succ, rJoinK]
          refine ⟨sz_le (by rw [h1s]; omega), (ls[i]).2.2, .inr (SqT.of g2'), by rw [h1s]; omega, _, ⟨sz_le (by omega), rfl⟩, ?_⟩
          have hdash : ("-" : Str).length = 1 := by decide +kernel
          refine ite2 (fun z => ?_) fun z => ?_
          · have hne : ¬ Txt.join " " (ls[i]).2.2 = "" := fun q => by rw [q] at z; revert z; decide +kernel
            refine ⟨sz_le (by rw [app_len, h1s]; omega), ?_⟩
            unfold logS at hR2
            rw [if_neg hne, empty_app] at hR2
            exact hR2
          · have he : Txt.join " " (ls[i]).2.2 = "" := by
              refine TL.ext_tl ?_
              have h0 : (Txt.join " " (ls[i]).2.2).length = 0 := by simpa using z
              rw [TL.len_tl] at h0
              rw [List.length_eq_zero_iff.mp h0]
              decide +kernel
            refine ⟨sz_le (by rw [app_len, h1s, hdash]; omega), ?_⟩
            unfold logS at hR2
            rw [if_pos he, empty_app] at hR2
            rw [app_assoc, show ((" " : Str) ++ "-") = " -" by decide +kernel]
            exact hR2
        · have gq4 := s4 _ _ gq
          have eD5 : H4 D2 = some (.lst ((e.logs.map logS).map V.str)) := by
            rw [eD4, List.length_map, hll1, hls, range_get e.logs ("", []) (fun x => .str (logS x)), List.map_map]; rfl
          refine ⟨q, D2, _, _, rfl, rfl, gq4, eD5, sz_le (by simp only [List.length_map, List.length_append, List.length_cons, List.length_nil]; omega), fun r hr0 => ?_⟩
          have e6 : ([V.str X] ++ (e.cells.map cellS).map V.str ++ (e.logs.map logS).map V.str) = ([headS e.failed] ++ e.cells.map cellS ++ e.logs.map logS).map V.str := by rw [hX]; simp
          rw [e6]
          have hk := k _ ((s13.trans s4).trans (same_upd hr0 (o := .lst (([headS e.failed] ++ e.cells.map cellS ++ e.logs.map logS).map V.str))))
          have h3s : (" ; " : Str).length = 3 := by decide +kernel
          exact ⟨r, rfl, _, .inl (SqL.of upd_same), by rw [h3s]; omega, hk⟩)
end
end Ky

set_option Elab.async false
set_option maxRecDepth 100000
set_option maxHeartbeats 4000000
set_option linter.all false
namespace Ky
open PySem L2 Ly
def heardV (Q : VK) (H : Hp) : Nat ⊕ List EndD → Prop
  | .inl k => ∀ t H', Same H H' → H' t = some (.tup [.int 0, .int k]) → Q (.ref t) H'
  | .inr es => ∀ l H', Same H H' → H' l = some (.lst [.str (endsText es)]) → Q (.ref l) H'
def spHeard (K : PySem.W.Frag) : Sp := fun vs H Q _ => ∃ x : V, vs = [x] ∧
  ((∃ z : Str, x = .str z ∧ z.length ≤ 40000 ∧ (∀ es, endsM (Txt.split z " ") = .inr es → (es.map fun e => (endText e).length).sum + es.length * 3 ≤ 16000000) ∧ heardV Q H (endsM (Txt.split z " "))) ∨
    (∃ t, TyX K H x t ∧ PySem.W.kitOne K t (.type "str") = some false ∧ heardV Q H (.inl 0)))
section
variable {w : World} {K : PySem.W.Frag} {mg : Str → Option Value} {base : Heap} {aK aF CB CP CE CW CL : Addr}
abbrev s__law_heard : Stmt := top 33
theorem sc__law_heard : FnScope ["_law_thing", "_law_raised", "error"] ["_law_thing"] (defScope s__law_heard) := ⟨rfl, rfl, rfl, by decide +kernel, rfl, by decide +kernel, by decide +kernel⟩
theorem ok_heard {f : Addr} {fd : FuncData} (F : Fun K "_law_heard" "_law_heard" s__law_heard f fd) (T : Tx K mg aK aF) (D_ends_text : Df PP w K mg base 4 "ends_text" ["ends"] (spEnds CE)) (D_read_ends : Df PP w K mg base 9 "read_ends" ["text"] (spReadEnds K CB CE))
    (hLE : mg "LayerError" = some (.ref CL)) (hBT : mg "BadText" = some (.ref CB)) (hex : PySem.W.exmOne K (.ref CB) (.ref CL) = some true) (TB : XfC K CB) (nLine : PySem.W.findIn K (.ref CB) "line" = some none) (nWord : PySem.W.findIn K (.ref CB) "word" = some none)
    (XB : XkC K CB) (k1 : PySem.W.kitOne K (.ref CB) (.ref CB) = some true) (k2 : PySem.W.kitOne K (.ref CB) (.type "ValueError") = some true) :
    FnOk PP w K mg base (L2.CX PP w) 10 f fd ["_law_thing"] (spHeard K) := by
  refine F.okX sc__law_heard (fun vs H Q E h => ?_) (fun cdv A outer s H vs Q E hr h => ?_)
  · obtain ⟨x, rfl, _⟩ := h; rfl
  · obtain ⟨x, rfl, h⟩ := h
    refine ⟨_, (pss_cons (ps_set (i := 1) sc__law_heard.nd rfl (Or.inl rfl) pe_non)
      (pss_hid (pss_cons (ps_try_keep (i := 2) (c := .ref CL) rfl rfl rfl sc__law_heard.nd rfl rfl ⟨by rfl, by decide, .inl hLE⟩ (takes_of rfl rfl rfl rfl) (fun W pn xe tk po => (pss_one (ps_ret (pe_lst (pa_cons (pe_df D_ends_text (hr.mono (by decide)) passL (pa_cons (pe_dfS D_read_ends (hr.mono (by decide)) tk (pa_cons (pv 0) pa_nil)) pa_nil)) pa_nil))))) (fun a pn => (pss_one (ps_set (i := 1) sc__law_heard.nd rfl (Or.inl rfl) (pv 2)))))
      (pss_hid (pss_one (ps_ret (pe_ifExp (PW.pt (pw_and (pt_val (pe_callB call_isXk (by rfl) T.isinstance (by decide +kernel) (pa_cons (pv 1) (pa_cons (pe_glob (v := .ref CB) rfl hBT rfl) pa_nil)))) (pw_and1 (pt_val (pe_callB call_isXk (by rfl) T.isinstance (by decide +kernel) (pa_cons (pv 1) (pa_cons (pe_bltn (v := .ty "ValueError") (by rfl) T.ValueError (by decide +kernel) rfl) pa_nil))))))) (pe_tup (pa_cons (pe_xk TB nLine (pv 1)) (pa_cons (pe_xk TB nWord (pv 1)) pa_nil))) pe_str))))))), ?_⟩
    simp only [tSeq, tIfS, tOr, tAnd, tNot, tB, tTest, tCB, tCons, tNil, tVar, tC, tOp, tUn, tRet, tRetN, tDrop, tAsg, tPar, tPar3, tNext, tNever, tBreak, tCont, tAug, tChain, tAndV, tOrV, tNotV, tIf, tIsN, tNotN, tTup, tLst, tCallD, tMethD, tMakeD, tFld, tCon, sFld, sFldAug, tCallK, tSl, tPart, tNoPart, tBM, tBM0, tDGet, tDIn, tDNotIn, sDPut, tDNewK, tM0, tM1, tOrT, tAndT, tNotT, tAsg2, tAsg3, gName, rI0, rI, rU, tYes, L2.start, NdefX.startF, List.set_cons_zero, List.set_cons_succ, List.map_cons, List.map_nil, List.length_cons, List.length_nil, Nat.sub_zero, Nat.reduceSub, Nat.reduceAdd, List.replicate_succ, List.replicate_zero, List.cons_append, List.nil_append, List.append_nil, List.getElem?_cons_zero, List.getElem?_cons_succ, Option.some.injEq, exists_eq_left', exists_eq_left, exists_eq_right, exists_eq_right', exists_and_left, exists_and_right, exists_eq, exists_eq', true_and, and_true, V.int.injEq, V.str.injEq, V.bl.injEq, V.ref.injEq, V.ty.injEq, HO.ins.injEq, HO.lst.injEq, HO.tup.injEq, and_assoc, List.cons.injEq, Bool.not_true, Bool.not_false, Bool.false_eq_true, if_false, if_true, cx_K, upd_same, upd_upd, isi_str, req_ii, req_ss, rne_ii, rne_ss, radd_ii, rsub_ii, atI_at, atI_0, atI_1, atI_2, atI_3, atI_4, rLenL, rLenU, rIxLL, rIxU, reduceCtorEq, gTup, gCons, gNil, tFmt_eq, fmtV_str, fmtV_int, tJs_nil, tJs_cons, jsV_str, iKeys_eq, gSub, rSetL, tPart, tNoPart, tSl, rSlL, false_and, exists_false, or_false, false_or, List.set_cons_zero, List.set_cons_succ]
    refine hid_in ?_
    simp only [tSeq, tIfS, tOr, tAnd, tNot, tB, tTest, tCB, tCons, tNil, tVar, tC, tOp, tUn, tRet, tRetN, tDrop, tAsg, tPar, tPar3, tNext, tNever, tBreak, tCont, tAug, tChain, tAndV, tOrV, tNotV, tIf, tIsN, tNotN, tTup, tLst, tCallD, tMethD, tMakeD, tFld, tCon, sFld, sFldAug, tCallK, tSl, tPart, tNoPart, tBM, tBM0, tDGet, tDIn, tDNotIn, sDPut, tDNewK, tM0, tM1, tOrT, tAndT, tNotT, tAsg2, tAsg3, gName, rI0, rI, rU, tYes, L2.start, NdefX.startF, List.set_cons_zero, List.set_cons_succ, List.map_cons, List.map_nil, List.length_cons, List.length_nil, Nat.sub_zero, Nat.reduceSub, Nat.reduceAdd, List.replicate_succ, List.replicate_zero, List.cons_append, List.nil_append, List.append_nil, List.getElem?_cons_zero, List.getElem?_cons_succ, Option.some.injEq, exists_eq_left', exists_eq_left, exists_eq_right, exists_eq_right', exists_and_left, exists_and_right, exists_eq, exists_eq', true_and, and_true, V.int.injEq, V.str.injEq, V.bl.injEq, V.ref.injEq, V.ty.injEq, HO.ins.injEq, HO.lst.injEq, HO.tup.injEq, and_assoc, List.cons.injEq, Bool.not_true, Bool.not_false, Bool.false_eq_true, if_false, if_true, cx_K, upd_same, upd_upd, isi_str, req_ii, req_ss, rne_ii, rne_ss, radd_ii, rsub_ii, atI_at, atI_0, atI_1, atI_2, atI_3, atI_4, rLenL, rLenU, rIxLL, rIxU, reduceCtorEq, gTup, gCons, gNil, tFmt_eq, fmtV_str, fmtV_int, tJs_nil, tJs_cons, jsV_str, iKeys_eq, gSub, rSetL, tPart, tNoPart, tSl, rSlL, false_and, exists_false, or_false, false_or, List.set_cons_zero, List.set_cons_succ, tCallS]
    generalize hW : WE (wKeep _ _ _ _ _ _) _ = W
    have key : ∀ k : Nat, (∀ t H', Same H H' → H' t = some (.tup [.int 0, .int k]) → Q (.ref t) H') → Err W CB [] k H := fun k q d H1 kp hd => by
      rw [← hW]
      have s1 : Same H H1 := fun b o e => kp b o e (by simp)
      refine ⟨true, hex, fun _ a ha => ?_, fun h => nomatch h⟩
      simp only [tSeq, tIfS, tOr, tAnd, tNot, tB, tTest, tCB, tCons, tNil, tVar, tC, tOp, tUn, tRet, tRetN, tDrop, tAsg, tPar, tPar3, tNext, tNever, tBreak, tCont, tAug, tChain, tAndV, tOrV, tNotV, tIf, tIsN, tNotN, tTup, tLst, tCallD, tMethD, tMakeD, tFld, tCon, sFld, sFldAug, tCallK, tSl, tPart, tNoPart, tBM, tBM0, tDGet, tDIn, tDNotIn, sDPut, tDNewK, tM0, tM1, tOrT, tAndT, tNotT, tAsg2, tAsg3, gName, rI0, rI, rU, tYes, L2.start, NdefX.startF, List.set_cons_zero, List.set_cons_succ, List.map_cons, List.map_nil, List.length_cons, List.length_nil, Nat.sub_zero, Nat.reduceSub, Nat.reduceAdd, List.replicate_succ, List.replicate_zero, List.cons_append, List.nil_append, List.append_nil, List.getElem?_cons_zero, List.getElem?_cons_succ, Option.some.injEq, exists_eq_left', exists_eq_left, exists_eq_right, exists_eq_right', exists_and_left, exists_and_right, exists_eq, exists_eq', true_and, and_true, V.int.injEq, V.str.injEq, V.bl.injEq, V.ref.injEq, V.ty.injEq, HO.ins.injEq, HO.lst.injEq, HO.tup.injEq, and_assoc, List.cons.injEq, Bool.not_true, Bool.not_false, Bool.false_eq_true, if_false, if_true, cx_K, upd_same, upd_upd, isi_str, req_ii, req_ss, rne_ii, rne_ss, radd_ii, rsub_ii, atI_at, atI_0, atI_1, atI_2, atI_3, atI_4, rLenL, rLenU, rIxLL, rIxU, reduceCtorEq, gTup, gCons, gNil, tFmt_eq, fmtV_str, fmtV_int, tJs_nil, tJs_cons, jsV_str, iKeys_eq, gSub, rSetL, tPart, tNoPart, tSl, rSlL, false_and, exists_false, or_false, false_or, List.set_cons_zero, List.set_cons_succ]
      have ea : upd H1 a (xob a (.ref CB) (some d)) a = some (xob a (.ref CB) (some d)) := upd_same
      have ed : upd H1 a (xob a (.ref CB) (some d)) d = some (.xd [(("word" : Str), .int k), (("line" : Str), .int 0)]) := by rw [upd_ne (ne_of_none hd ha)]; exact hd
      have s2 := same_new s1 ha (o := xob a (.ref CB) (some d))
      generalize upd H1 a (xob a (.ref CB) (some d)) = H2 at ea ed s2 ⊢
      refine hid_in ?_
      simp only [tSeq, tIfS, tOr, tAnd, tNot, tB, tTest, tCB, tCons, tNil, tVar, tC, tOp, tUn, tRet, tRetN, tDrop, tAsg, tPar, tPar3, tNext, tNever, tBreak, tCont, tAug, tChain, tAndV, tOrV, tNotV, tIf, tIsN, tNotN, tTup, tLst, tCallD, tMethD, tMakeD, tFld, tCon, sFld, sFldAug, tCallK, tSl, tPart, tNoPart, tBM, tBM0, tDGet, tDIn, tDNotIn, sDPut, tDNewK, tM0, tM1, tOrT, tAndT, tNotT, tAsg2, tAsg3, gName, rI0, rI, rU, tYes, L2.start, NdefX.startF, List.set_cons_zero, List.set_cons_succ, List.map_cons, List.map_nil, List.length_cons, List.length_nil, Nat.sub_zero, Nat.reduceSub, Nat.reduceAdd, List.replicate_succ, List.replicate_zero, List.cons_append, List.nil_append, List.append_nil, List.getElem?_cons_zero, List.getElem?_cons_succ, Option.some.injEq, exists_eq_left', exists_eq_left, exists_eq_right, exists_eq_right', exists_and_left, exists_and_right, exists_eq, exists_eq', true_and, and_true, V.int.injEq, V.str.injEq, V.bl.injEq, V.ref.injEq, V.ty.injEq, HO.ins.injEq, HO.lst.injEq, HO.tup.injEq, and_assoc, List.cons.injEq, Bool.not_true, Bool.not_false, Bool.false_eq_true, if_false, if_true, cx_K, upd_same, upd_upd, isi_str, req_ii, req_ss, rne_ii, rne_ss, radd_ii, rsub_ii, atI_at, atI_0, atI_1, atI_2, atI_3, atI_4, rLenL, rLenU, rIxLL, rIxU, reduceCtorEq, gTup, gCons, gNil, tFmt_eq, fmtV_str, fmtV_int, tJs_nil, tJs_cons, jsV_str, iKeys_eq, gSub, rSetL, tPart, tNoPart, tSl, rSlL, false_and, exists_false, or_false, false_or, List.set_cons_zero, List.set_cons_succ]
      refine ⟨a, CB, d, _, .ref CB, .ref CB, true, rfl, XB, ea, ed, .own CB, k1, ?_⟩
      simp only [tSeq, tIfS, tOr, tAnd, tNot, tB, tTest, tCB, tCons, tNil, tVar, tC, tOp, tUn, tRet, tRetN, tDrop, tAsg, tPar, tPar3, tNext, tNever, tBreak, tCont, tAug, tChain, tAndV, tOrV, tNotV, tIf, tIsN, tNotN, tTup, tLst, tCallD, tMethD, tMakeD, tFld, tCon, sFld, sFldAug, tCallK, tSl, tPart, tNoPart, tBM, tBM0, tDGet, tDIn, tDNotIn, sDPut, tDNewK, tM0, tM1, tOrT, tAndT, tNotT, tAsg2, tAsg3, gName, rI0, rI, rU, tYes, L2.start, NdefX.startF, List.set_cons_zero, List.set_cons_succ, List.map_cons, List.map_nil, List.length_cons, List.length_nil, Nat.sub_zero, Nat.reduceSub, Nat.reduceAdd, List.replicate_succ, List.replicate_zero, List.cons_append, List.nil_append, List.append_nil, List.getElem?_cons_zero, List.getElem?_cons_succ, Option.some.injEq, exists_eq_left', exists_eq_left, exists_eq_right, exists_eq_right', exists_and_left, exists_and_right, exists_eq, exists_eq', true_and, and_true, V.int.injEq, V.str.injEq, V.bl.injEq, V.ref.injEq, V.ty.injEq, HO.ins.injEq, HO.lst.injEq, HO.tup.injEq, and_assoc, List.cons.injEq, Bool.not_true, Bool.not_false, Bool.false_eq_true, if_false, if_true, cx_K, upd_same, upd_upd, isi_str, req_ii, req_ss, rne_ii, rne_ss, radd_ii, rsub_ii, atI_at, atI_0, atI_1, atI_2, atI_3, atI_4, rLenL, rLenU, rIxLL, rIxU, reduceCtorEq, gTup, gCons, gNil, tFmt_eq, fmtV_str, fmtV_int, tJs_nil, tJs_cons, jsV_str, iKeys_eq, gSub, rSetL, tPart, tNoPart, tSl, rSlL, false_and, exists_false, or_false, false_or, List.set_cons_zero, List.set_cons_succ]
      refine ⟨a, CB, d, _, .ty "ValueError", .type "ValueError", true, rfl, XB, ea, ed, .ty _, k2, ?_⟩
      simp only [tSeq, tIfS, tOr, tAnd, tNot, tB, tTest, tCB, tCons, tNil, tVar, tC, tOp, tUn, tRet, tRetN, tDrop, tAsg, tPar, tPar3, tNext, tNever, tBreak, tCont, tAug, tChain, tAndV, tOrV, tNotV, tIf, tIsN, tNotN, tTup, tLst, tCallD, tMethD, tMakeD, tFld, tCon, sFld, sFldAug, tCallK, tSl, tPart, tNoPart, tBM, tBM0, tDGet, tDIn, tDNotIn, sDPut, tDNewK, tM0, tM1, tOrT, tAndT, tNotT, tAsg2, tAsg3, gName, rI0, rI, rU, tYes, L2.start, NdefX.startF, List.set_cons_zero, List.set_cons_succ, List.map_cons, List.map_nil, List.length_cons, List.length_nil, Nat.sub_zero, Nat.reduceSub, Nat.reduceAdd, List.replicate_succ, List.replicate_zero, List.cons_append, List.nil_append, List.append_nil, List.getElem?_cons_zero, List.getElem?_cons_succ, Option.some.injEq, exists_eq_left', exists_eq_left, exists_eq_right, exists_eq_right', exists_and_left, exists_and_right, exists_eq, exists_eq', true_and, and_true, V.int.injEq, V.str.injEq, V.bl.injEq, V.ref.injEq, V.ty.injEq, HO.ins.injEq, HO.lst.injEq, HO.tup.injEq, and_assoc, List.cons.injEq, Bool.not_true, Bool.not_false, Bool.false_eq_true, if_false, if_true, cx_K, upd_same, upd_upd, isi_str, req_ii, req_ss, rne_ii, rne_ss, radd_ii, rsub_ii, atI_at, atI_0, atI_1, atI_2, atI_3, atI_4, rLenL, rLenU, rIxLL, rIxU, reduceCtorEq, gTup, gCons, gNil, tFmt_eq, fmtV_str, fmtV_int, tJs_nil, tJs_cons, jsV_str, iKeys_eq, gSub, rSetL, tPart, tNoPart, tSl, rSlL, false_and, exists_false, or_false, false_or, List.set_cons_zero, List.set_cons_succ, tXk]
      have l1 : ([(("word" : Str), V.int k), (("line" : Str), V.int 0)] : List (Str × V)).lookup ("line" : Str) = some (.int 0) := by kernel_rfl
      have l2 : ([(("word" : Str), V.int k), (("line" : Str), V.int 0)] : List (Str × V)).lookup ("word" : Str) = some (.int k) := by kernel_rfl
      exact ⟨d, ea, _, ed, .int 0, l1, d, ea, _, ed, .int k, l2, sz_le (by decide), fun t ht => q t _ (same_new s2 ht) upd_same⟩
    refine ⟨x, rfl, ?_⟩
    rcases h with ⟨z, rfl, hz, hsum, hv⟩ | ⟨t, ty, kt, hv⟩
    · refine .inl ⟨z, rfl, by omega, fun k hk => key k ?_, fun es hes t ps H1 s1 ht at_ fit hn => ?_⟩
      · rw [hk] at hv; exact hv
      · rw [hes] at hv
        refine ⟨t, ps, es, rfl, ht, at_, fit, hn, hsum es hes, fun H2 s2 => ⟨sz_le (by decide), fun l hl => hv l _ (s1.trans (same_new s2 hl)) upd_same⟩⟩
    · exact .inr ⟨t, ty, kt, key 0 hv⟩
end
end Ky

set_option Elab.async false
set_option maxRecDepth 100000
set_option maxHeartbeats 4000000
set_option linter.all false
namespace Ky
open PySem L2 Ly
def oddW : List Str := ["", ";", "/", "-", "done", "failed", "f", "a", "x", "y", "b", "l", "0", "3", "4", "01", "put", "X", "abcdefghi", "a;"]
def spBent : Sp := fun vs H Q _ => ∃ (pen sl a : Addr) (n : Nat) (ws : List Str), vs = [.ref pen, .ref a] ∧ Pen H pen sl n ∧ n < 99000 ∧ H a = some (.lst (ws.map V.str)) ∧ a ≠ pen ∧ ws.length ≤ 10000 ∧
  ∀ (q : Addr) (ws' : List Str) (H' : Hp), Keep [pen] H H' → H q = none → H' q = some (.lst (ws'.map V.str)) → ws'.length ≤ ws.length + 1 → (∀ x ∈ ws', x ∈ ws ∨ x ∈ oddW) → Pen H' pen sl (n + 3) → Q (.ref q) H'
/-- a term that makes a new list of xs -/
def LEv (te : TE) (σ : L2.St) (H : Hp) (xs : List V) : Prop := ∀ H1, Same H H1 → ∀ Q : VK, (∀ q H', Same H1 H' → H1 q = none → H' q = some (.lst xs) → Q (.ref q) H') → te σ H1 Q
theorem lev_slice {K : PySem.W.Frag} {σ : L2.St} {H : Hp} {a : Addr} {ys : List V} {i : Nat} {lo hi : TO} {l h : Option Int} (hs : σ[i]? = some (some (.ref a))) (ha : H a = some (.lst ys)) (hl : ∀ H (Q : Option Int → Hp → Prop), Q l H → lo σ H Q) (hh : ∀ H (Q : Option Int → Hp → Prop), Q h H → hi σ H Q) :
    LEv (tSl (rSlL K) (tVar i) lo hi) σ H (cutV ys l h) := fun H1 s1 Q q =>
  ⟨.ref a, hs, hl _ _ (hh _ _ ⟨a, ys, rfl, SqL.of (s1 _ _ ha), fun p hp => q p _ (same_upd hp) hp upd_same⟩)⟩
theorem lev_cat {ta tb : TE} {σ : L2.St} {H : Hp} {xs ys : List V} (ha : LEv ta σ H xs) (hb : LEv tb σ H ys) (hz : xs.length + ys.length ≤ 1000000) : LEv (tOp rCat ta tb) σ H (xs ++ ys) := fun H1 s1 Q q =>
  ha H1 s1 _ fun p H2 s2 hp e2 => hb H2 (s1.trans s2) _ fun r H3 s3 hr e3 => ⟨p, r, xs, ys, rfl, rfl, s3 _ _ e2, e3, sz_le hz, fun t ht => q t _ (same_new (s2.trans s3) ht) (by
    cases e : H1 t with
    | none => rfl
    | some o => rw [s3 _ _ (s2 _ _ e)] at ht; cases ht) upd_same⟩
theorem lev_one {σ : L2.St} {H : Hp} {v : V} {i : Nat} (hs : σ[i]? = some (some v)) : LEv (tLst (tCons (tVar i) tNil)) σ H [v] := fun H1 s1 Q q => ⟨v, hs, sz_le (by show 1 ≤ 1000000; decide), fun p hp => q p _ (same_upd hp) hp upd_same⟩
theorem lev_rev {K : PySem.W.Frag} {ta : TE} {σ : L2.St} {H : Hp} {xs : List V} (ha : LEv ta σ H xs) : LEv (tRevL K ta) σ H xs.reverse := fun H1 s1 Q q =>
  ha H1 s1 _ fun p H2 s2 hp e2 => ⟨p, xs, rfl, SqL.of e2, fun t ht => q t _ (same_new s2 ht) (by
    cases e : H1 t with
    | none => rfl
    | some o => rw [s2 _ _ e] at ht; cases ht) upd_same⟩
theorem seq_if {tc : TT} {te : TE} {rest : TS} {D : Ends} {σ : L2.St} {H : Hp} (b : Bool) (hc : ∀ Q : Bool → Hp → Prop, Q b H → tc σ H Q) (h1 : b = true → te σ H D.rt) (h2 : b = false → rest D σ H) : tSeq (tIfS tc (tRet te) tNext) rest D σ H := by
  refine hc _ ?_
  cases b with
  | true => exact h1 rfl
  | false => exact h2 rfl
section
variable {w : World} {K : PySem.W.Frag} {mg : Str → Option Value} {base : Heap} {aK aF CB CP CE CW CL : Addr}
abbrev s__law_bent : Stmt := top 34
theorem sc__law_bent : FnScope ["_law_pen_here", "_law_words", "_law_some", "_law_way", "_law_spot", "_law_odd"] ["_law_pen_here", "_law_words"] (defScope s__law_bent) := ⟨rfl, rfl, rfl, by decide +kernel, rfl, by decide +kernel, by decide +kernel⟩
theorem ok_bent {f : Addr} {fd : FuncData} (F : Fun K "_law_bent" "_law_bent" s__law_bent f fd) (T : Tx K mg aK aF) (D__law_draw : Df PP w K mg base 1 "_law_draw" ["_law_pen_here", "_law_many"] spDraw) (D__law_pick : Df PP w K mg base 2 "_law_pick" ["_law_pen_here", "_law_some"] spPick) : FnOk PP w K mg base (L2.CX PP w) 3 f fd ["_law_pen_here", "_law_words"] spBent := by
  refine F.okX sc__law_bent (fun vs H Q E h => ?_) (fun cdv A outer s H vs Q E hr h => ?_)
  · obtain ⟨pen, sl, a, n, ws, rfl, _⟩ := h; rfl
  · obtain ⟨pen, sl, a, n, ws, rfl, P, hn, ha, hap, hl, k⟩ := h
    refine ⟨_, (pss_cons (ps_set (i := 2) sc__law_bent.nd rfl (Or.inl rfl) (pe_lst (pa_cons pe_str (pa_cons pe_str (pa_cons pe_str (pa_cons pe_str (pa_cons pe_str (pa_cons pe_str (pa_cons pe_str (pa_cons pe_str (pa_cons pe_str (pa_cons pe_str (pa_cons pe_str (pa_cons pe_str (pa_cons pe_str (pa_cons pe_str (pa_cons pe_str (pa_cons pe_str (pa_cons pe_str (pa_cons pe_str (pa_cons pe_str (pa_cons pe_str pa_nil))))))))))))))))))))))
      (pss_hid (pss_cons (ps_par3 (i := 3) (j := 4) (l := 5) (by rfl) sc__law_bent.nd rfl rfl rfl (by decide) (by decide) (by decide) rfl rfl rfl (pa_cons (pe_df D__law_draw (hr.mono (by decide)) passL (pa_cons (pv 0) (pa_cons pe_int pa_nil))) (pa_cons (pe_df D__law_draw (hr.mono (by decide)) passL (pa_cons (pv 0) (pa_cons (pe_op op_add (pe_callB call_lenL (by rfl) T.len (by decide +kernel) (pa_cons (pv 1) pa_nil)) pe_int) pa_nil))) (pa_cons (pe_df D__law_pick (hr.mono (by decide)) passL (pa_cons (pv 0) (pa_cons (pv 2) pa_nil))) pa_nil))) (by rfl))
      (pss_hid (pss_cons (ps_if (pt_cmpR op_lt (pv 3) pe_int (nomark _)) (pss_one (ps_ret (pe_op op_cat (pe_op op_cat (pe_slice sl_list (pv 1) po_none (po_some (pv 4))) (pe_lst (pa_cons (pv 5) pa_nil))) (pe_slice sl_list (pv 1) (po_some (pe_op op_add (pv 4) (pe_callTy call_int1 (by rfl) T.int (by decide +kernel) (pa_cons (pe_cmpR op_gt (pv 3) pe_int (nomark _)) pa_nil)))) po_none)))) pss_nil)
      (pss_hid (pss_cons (ps_if (pt_cmpR op_eq (pv 3) pe_int (nomark _)) (pss_one (ps_ret (pe_op op_cat (pe_slice sl_list (pv 1) po_none (po_some (pv 4))) (pe_slice sl_list (pv 1) (po_some (pe_op op_add (pv 4) pe_int)) po_none)))) pss_nil)
      (pss_hid (pss_cons (ps_if (pt_cmpR op_eq (pv 3) pe_int (nomark _)) (pss_one (ps_ret (pe_op op_cat (pe_op op_cat (pe_slice sl_list (pv 1) po_none (po_some (pv 4))) (pe_revL (pe_slice sl_list (pv 1) (po_some (pv 4)) (po_some (pe_op op_add (pv 4) pe_int))))) (pe_slice sl_list (pv 1) (po_some (pe_op op_add (pv 4) pe_int)) po_none)))) pss_nil)
      (pss_hid (pss_cons (ps_if (pt_cmpR op_eq (pv 3) pe_int (nomark _)) (pss_one (ps_ret (pe_op op_cat (pe_op op_cat (pe_slice sl_list (pv 1) po_none (po_some (pv 4))) (pe_slice sl_list (pv 1) (po_some (pv 4)) (po_some (pe_op op_add (pv 4) pe_int)))) (pe_slice sl_list (pv 1) (po_some (pv 4)) po_none)))) pss_nil)
      (pss_hid (pss_one (ps_ret (pe_ifExp (pt_cmpR op_eq (pv 3) pe_int (nomark _)) (pe_slice sl_list (pv 1) po_none (po_some (pv 4))) (pe_op op_cat (pv 1) (pe_lst (pa_cons (pv 5) pa_nil)))))))))))))))))), ?_⟩
    simp only [tSeq, tIfS, tOr, tAnd, tNot, tB, tTest, tCB, tCons, tNil, tVar, tC, tOp, tUn, tRet, tRetN, tDrop, tAsg, tPar, tPar3, tNext, tNever, tBreak, tCont, tAug, tChain, tAndV, tOrV, tNotV, tIf, tIsN, tNotN, tTup, tLst, tCallD, tMethD, tMakeD, tFld, tCon, sFld, sFldAug, tCallK, tSl, tPart, tNoPart, tBM, tBM0, tDGet, tDIn, tDNotIn, sDPut, tDNewK, tM0, tM1, tOrT, tAndT, tNotT, tAsg2, tAsg3, gName, rI0, rI, rU, tYes, L2.start, NdefX.startF, List.set_cons_zero, List.set_cons_succ, List.map_cons, List.map_nil, List.length_cons, List.length_nil, Nat.sub_zero, Nat.reduceSub, Nat.reduceAdd, List.replicate_succ, List.replicate_zero, List.cons_append, List.nil_append, List.append_nil, List.getElem?_cons_zero, List.getElem?_cons_succ, Option.some.injEq, exists_eq_left', exists_eq_left, exists_eq_right, exists_eq_right', exists_and_left, exists_and_right, exists_eq, exists_eq', true_and, and_true, V.int.injEq, V.str.injEq, V.bl.injEq, V.ref.injEq, V.ty.injEq, HO.ins.injEq, HO.lst.injEq, HO.tup.injEq, and_assoc, List.cons.injEq, Bool.not_true, Bool.not_false, Bool.false_eq_true, if_false, if_true, cx_K, upd_same, upd_upd, isi_str, req_ii, req_ss, rne_ii, rne_ss, radd_ii, rsub_ii, atI_at, atI_0, atI_1, atI_2, atI_3, atI_4, rLenL, rLenU, rIxLL, rIxU, reduceCtorEq, gTup, gCons, gNil, tFmt_eq, fmtV_str, fmtV_int, tJs_nil, tJs_cons, jsV_str, iKeys_eq, gSub, rSetL, tPart, tNoPart, tSl, rSlL, false_and, exists_false, or_false, false_or, List.set_cons_zero, List.set_cons_succ]
    refine ⟨sz_le (by decide), fun o ho => ?_⟩
    have s1 : Same H (upd H o (.lst (oddW.map V.str))) := same_upd ho
    have go : upd H o (.lst (oddW.map V.str)) o = some (.lst (oddW.map V.str)) := upd_same
    have P1 := P.new ho (o := .lst (oddW.map V.str))
    obtain ⟨_, _, _, hpen, _⟩ := P.ex
    have hop : o ≠ pen := (ne_of_none hpen ho).symm
    show hid _ _ _ (upd H o (.lst (oddW.map V.str)))
    generalize upd H o (.lst (oddW.map V.str)) = H1 at s1 go P1 ⊢
    have ha1 := s1 _ _ ha
    refine hid_in ?_
    simp only [tSeq, tIfS, tOr, tAnd, tNot, tB, tTest, tCB, tCons, tNil, tVar, tC, tOp, tUn, tRet, tRetN, tDrop, tAsg, tPar, tPar3, tNext, tNever, tBreak, tCont, tAug, tChain, tAndV, tOrV, tNotV, tIf, tIsN, tNotN, tTup, tLst, tCallD, tMethD, tMakeD, tFld, tCon, sFld, sFldAug, tCallK, tSl, tPart, tNoPart, tBM, tBM0, tDGet, tDIn, tDNotIn, sDPut, tDNewK, tM0, tM1, tOrT, tAndT, tNotT, tAsg2, tAsg3, gName, rI0, rI, rU, tYes, L2.start, NdefX.startF, List.set_cons_zero, List.set_cons_succ, List.map_cons, List.map_nil, List.length_cons, List.length_nil, Nat.sub_zero, Nat.reduceSub, Nat.reduceAdd, List.replicate_succ, List.replicate_zero, List.cons_append, List.nil_append, List.append_nil, List.getElem?_cons_zero, List.getElem?_cons_succ, Option.some.injEq, exists_eq_left', exists_eq_left, exists_eq_right, exists_eq_right', exists_and_left, exists_and_right, exists_eq, exists_eq', true_and, and_true, V.int.injEq, V.str.injEq, V.bl.injEq, V.ref.injEq, V.ty.injEq, HO.ins.injEq, HO.lst.injEq, HO.tup.injEq, and_assoc, List.cons.injEq, Bool.not_true, Bool.not_false, Bool.false_eq_true, if_false, if_true, cx_K, upd_same, upd_upd, isi_str, req_ii, req_ss, rne_ii, rne_ss, radd_ii, rsub_ii, atI_at, atI_0, atI_1, atI_2, atI_3, atI_4, rLenL, rLenU, rIxLL, rIxU, reduceCtorEq, gTup, gCons, gNil, tFmt_eq, fmtV_str, fmtV_int, tJs_nil, tJs_cons, jsV_str, iKeys_eq, gSub, rSetL, tPart, tNoPart, tSl, rSlL, false_and, exists_false, or_false, false_or, List.set_cons_zero, List.set_cons_succ, ha1, List.length_map]
    refine ⟨pen, sl, n, 8, rfl, P1, by omega, by decide, by decide, fun way H2 hway k2 P2 => ?_⟩
    have ha2 := k2 _ _ ha1 (by simpa using hap)
    refine ⟨_, ha2, pen, sl, n + 1, ws.length + 1, by rw [List.length_map]; rfl, P2, by omega, by omega, by omega, fun spot H3 hspot k3 P3 => ?_⟩
    have k13 : Keep [pen] H1 H3 := Keep.trans (U := [pen]) k2 k3 (by simp) (by simp)
    refine ⟨pen, sl, o, n + 2, _, rfl, P3, by omega, k13 _ _ go (by simpa using hop), hop, by decide, by decide, fun r hr0 H4 k4 P4 => ?_⟩
    have k14 : Keep [pen] H1 H4 := Keep.trans (U := [pen]) k13 k4 (by simp) (by simp)
    have kH4 : Keep [pen] H H4 := Keep.trans (S := []) (T := [pen]) (U := [pen]) (Keep.of s1) k14 (by simp) (by simp)
    have ha4 := k14 _ _ ha1 (by simpa using hap)
    have hr1 : r < oddW.length := by have : r < (oddW.map V.str).length := hr0; rwa [List.length_map] at this
    have hodm : oddW[r]'hr1 ∈ oddW := List.getElem_mem hr1
    have hod : (oddW.map V.str)[r]'hr0 = .str (oddW[r]'hr1) := List.getElem_map _
    generalize oddW[r]'hr1 = od at hod hodm
    rw [hod]
    have fin : ∀ (te : TE) (σ : L2.St) (ws' : List Str), LEv te σ H4 (ws'.map V.str) → ws'.length ≤ ws.length + 1 → (∀ x ∈ ws', x ∈ ws ∨ x ∈ oddW) → te σ H4 Q := fun te σ ws' hl hlen hm => hl H4 (Same.refl _) _ fun q H5 s5 hq e5 => by
      have kH5 : Keep [pen] H H5 := Keep.trans (T := []) (U := [pen]) kH4 (Keep.of s5) (by simp) (by simp)
      obtain ⟨_, _, _, hpen4, _⟩ := P4.ex
      exact k q ws' H5 kH5 (none_of kH4 hq (by simpa using (ne_of_none hpen4 hq).symm)) e5 hlen hm (P4.same s5)
    have inw : ∀ {x : Str} {k : Nat}, x ∈ ws.take k → x ∈ ws ∨ x ∈ oddW := fun h => .inl (List.mem_of_mem_take h)
    have ind : ∀ {x : Str} {k : Nat}, x ∈ ws.drop k → x ∈ ws ∨ x ∈ oddW := fun h => .inl (List.mem_of_mem_drop h)
    obtain ⟨σ0, hσ⟩ : ∃ σ0 : L2.St, σ0 = [some (.ref pen), some (.ref a), some (.ref o), some (.int way), some (.int spot), some (.str od)] := ⟨_, rfl⟩
    have g1 : σ0[1]? = some (some (.ref a)) := by rw [hσ]; rfl
    have g4 : σ0[4]? = some (some (.int spot)) := by rw [hσ]; rfl
    have g5 : σ0[5]? = some (some (.str od)) := by rw [hσ]; rfl
    have sTo : LEv (tSl (rSlL K) (tVar 1) tNoPart (tPart (tVar 4))) σ0 H4 ((ws.take spot).map V.str) := by
      rw [List.map_take, ← cut_take]
      exact lev_slice g1 ha4 (fun H Q q => q) fun H Q q => ⟨_, g4, spot, rfl, q⟩
    have sFrom : ∀ d : Nat, LEv (tSl (rSlL K) (tVar 1) (tPart (tOp (rI0 fun i j => .int (i + j)) (tVar 4) (tC (.int d)))) tNoPart) σ0 H4 ((ws.drop (spot + d)).map V.str) := fun d => by
      rw [List.map_drop, ← cut_drop]
      exact lev_slice g1 ha4 (fun H Q q => ⟨_, g4, spot, d, rfl, rfl, _, rfl, by rw [show ((spot : Int) + (d : Int)) = ((spot + d : Nat) : Int) by omega]; exact q⟩) fun H Q q => q
    have sFrom0 : LEv (tSl (rSlL K) (tVar 1) (tPart (tVar 4)) tNoPart) σ0 H4 ((ws.drop spot).map V.str) := by
      rw [List.map_drop, ← cut_drop]
      exact lev_slice g1 ha4 (fun H Q q => ⟨_, g4, spot, rfl, q⟩) fun H Q q => q
    have sMid : ∀ d : Nat, LEv (tSl (rSlL K) (tVar 1) (tPart (tVar 4)) (tPart (tOp (rI0 fun i j => .int (i + j)) (tVar 4) (tC (.int d))))) σ0 H4 (((ws.take (spot + d)).drop spot).map V.str) := fun d => by
      rw [List.map_drop, List.map_take, ← cut_mid]
      exact lev_slice g1 ha4 (fun H Q q => ⟨_, g4, spot, rfl, q⟩) (fun H Q q => ⟨_, g4, spot, d, rfl, rfl, _, rfl, by rw [show ((spot : Int) + (d : Int)) = ((spot + d : Nat) : Int) by omega]; exact q⟩)
    have sOne : LEv (tLst (tCons (tVar 5) tNil)) σ0 H4 ([od].map V.str) := lev_one g5
    have mapp : ∀ (x y : List Str), x.map V.str ++ y.map V.str = (x ++ y).map V.str := fun x y => List.map_append.symm
    have lt1 : (ws.take spot).length ≤ ws.length := by rw [List.length_take]; omega
    have lt2 : ∀ k, (ws.drop k).length ≤ ws.length := fun k => by rw [List.length_drop]; omega
    have lt3 : ∀ k, ((ws.take k).drop spot).length ≤ ws.length := fun k => by rw [List.length_drop, List.length_take]; omega
    refine hid_in ?_
    refine seq_if (decide ((way : Int) < 3)) (fun Q q => by simp only [tSeq, tIfS, tOr, tAnd, tNot, tB, tTest, tCB, tCons, tNil, tVar, tC, tOp, tUn, tRet, tRetN, tDrop, tAsg, tPar, tPar3, tNext, tNever, tBreak, tCont, tAug, tChain, tAndV, tOrV, tNotV, tIf, tIsN, tNotN, tTup, tLst, tCallD, tMethD, tMakeD, tFld, tCon, sFld, sFldAug, tCallK, tSl, tPart, tNoPart, tBM, tBM0, tDGet, tDIn, tDNotIn, sDPut, tDNewK, tM0, tM1, tOrT, tAndT, tNotT, tAsg2, tAsg3, gName, rI0, rI, rU, tYes, L2.start, NdefX.startF, List.set_cons_zero, List.set_cons_succ, List.map_cons, List.map_nil, List.length_cons, List.length_nil, Nat.sub_zero, Nat.reduceSub, Nat.reduceAdd, List.replicate_succ, List.replicate_zero, List.cons_append, List.nil_append, List.append_nil, List.getElem?_cons_zero, List.getElem?_cons_succ, Option.some.injEq, exists_eq_left', exists_eq_left, exists_eq_right, exists_eq_right', exists_and_left, exists_and_right, exists_eq, exists_eq', true_and, and_true, V.int.injEq, V.str.injEq, V.bl.injEq, V.ref.injEq, V.ty.injEq, HO.ins.injEq, HO.lst.injEq, HO.tup.injEq, and_assoc, List.cons.injEq, Bool.not_true, Bool.not_false, Bool.false_eq_true, if_false, if_true, cx_K, upd_same, upd_upd, isi_str, req_ii, req_ss, rne_ii, rne_ss, radd_ii, rsub_ii, atI_at, atI_0, atI_1, atI_2, atI_3, atI_4, rLenL, rLenU, rIxLL, rIxU, reduceCtorEq, gTup, gCons, gNil, tFmt_eq, fmtV_str, fmtV_int, tJs_nil, tJs_cons, jsV_str, iKeys_eq, gSub, rSetL, tPart, tNoPart, tSl, rSlL, false_and, exists_false, or_false, false_or, List.set_cons_zero, List.set_cons_succ]; exact q) (fun z => ?_) fun z => ?_
    · have sW : LEv (tSl (rSlL K) (tVar 1) (tPart (tOp (rI0 fun i j => .int (i + j)) (tVar 4) (tCB (fun xs H Q => (∃ i, xs = [V.int i] ∧ Q (.int i) H) ∨ ∃ k, xs = [V.bl k] ∧ Q (.int (if k = true then 1 else 0)) H) (tCons (tOp (rI0 fun i j => .bl (decide (j < i))) (tVar 3) (tC (.int 0))) tNil)))) tNoPart) σ0 H4
          ((ws.drop (spot + (if (0 : Int) < way then 1 else 0))).map V.str) := by
        rw [List.map_drop, ← cut_drop]
        refine lev_slice g1 ha4 (fun H Q q => ⟨_, g4, .int way, by rw [hσ]; rfl, way, 0, rfl, rfl, .inr ⟨_, rfl, spot, _, rfl, rfl, _, rfl, ?_⟩⟩) fun H Q q => q
        by_cases h : (0 : Int) < (way : Int)
        · rw [if_pos h] at q
          rw [if_pos (decide_eq_true h)]
          exact q
        · rw [if_neg h] at q
          rw [if_neg (by simpa using h)]
          exact q
      have hd1 : (ws.drop (spot + (if (0 : Int) < (way : Int) then 1 else 0))).length ≤ ws.length - spot := by rw [List.length_drop]; omega
      have := fin _ σ0 (ws.take spot ++ [od] ++ ws.drop (spot + (if (0 : Int) < (way : Int) then 1 else 0))) (by
          rw [← mapp, ← mapp]
          exact lev_cat (lev_cat sTo sOne (by simp only [List.length_map, List.length_cons, List.length_nil]; omega)) sW (by simp only [List.length_map, List.length_append, List.length_cons, List.length_nil]; omega)) (by simp only [List.length_append, List.length_cons, List.length_nil, List.length_take]; omega) (fun x hx => by
          rcases List.mem_append.mp hx with h | h
          · rcases List.mem_append.mp h with h | h
            · exact inw h
            · rw [List.mem_singleton.mp h]; exact .inr hodm
          · exact ind h)
      rw [hσ] at this
      exact this
    refine hid_in ?_
    refine seq_if (decide ((way : Int) = 3)) (fun Q q => by simp only [tSeq, tIfS, tOr, tAnd, tNot, tB, tTest, tCB, tCons, tNil, tVar, tC, tOp, tUn, tRet, tRetN, tDrop, tAsg, tPar, tPar3, tNext, tNever, tBreak, tCont, tAug, tChain, tAndV, tOrV, tNotV, tIf, tIsN, tNotN, tTup, tLst, tCallD, tMethD, tMakeD, tFld, tCon, sFld, sFldAug, tCallK, tSl, tPart, tNoPart, tBM, tBM0, tDGet, tDIn, tDNotIn, sDPut, tDNewK, tM0, tM1, tOrT, tAndT, tNotT, tAsg2, tAsg3, gName, rI0, rI, rU, tYes, L2.start, NdefX.startF, List.set_cons_zero, List.set_cons_succ, List.map_cons, List.map_nil, List.length_cons, List.length_nil, Nat.sub_zero, Nat.reduceSub, Nat.reduceAdd, List.replicate_succ, List.replicate_zero, List.cons_append, List.nil_append, List.append_nil, List.getElem?_cons_zero, List.getElem?_cons_succ, Option.some.injEq, exists_eq_left', exists_eq_left, exists_eq_right, exists_eq_right', exists_and_left, exists_and_right, exists_eq, exists_eq', true_and, and_true, V.int.injEq, V.str.injEq, V.bl.injEq, V.ref.injEq, V.ty.injEq, HO.ins.injEq, HO.lst.injEq, HO.tup.injEq, and_assoc, List.cons.injEq, Bool.not_true, Bool.not_false, Bool.false_eq_true, if_false, if_true, cx_K, upd_same, upd_upd, isi_str, req_ii, req_ss, rne_ii, rne_ss, radd_ii, rsub_ii, atI_at, atI_0, atI_1, atI_2, atI_3, atI_4, rLenL, rLenU, rIxLL, rIxU, reduceCtorEq, gTup, gCons, gNil, tFmt_eq, fmtV_str, fmtV_int, tJs_nil, tJs_cons, jsV_str, iKeys_eq, gSub, rSetL, tPart, tNoPart, tSl, rSlL, false_and, exists_false, or_false, false_or, List.set_cons_zero, List.set_cons_succ]; exact q) (fun z => ?_) fun z => ?_
    · have := fin _ σ0 (ws.take spot ++ ws.drop (spot + 1)) (by
          rw [← mapp]
          exact lev_cat sTo (sFrom 1) (by simp only [List.length_map]; have := lt2 (spot + 1); omega)) (by simp only [List.length_append, List.length_take, List.length_drop]; omega) (fun x hx => by
          rcases List.mem_append.mp hx with h | h
          · exact inw h
          · exact ind h)
      rw [hσ] at this
      exact this
    refine hid_in ?_
    refine seq_if (decide ((way : Int) = 4)) (fun Q q => by simp only [tSeq, tIfS, tOr, tAnd, tNot, tB, tTest, tCB, tCons, tNil, tVar, tC, tOp, tUn, tRet, tRetN, tDrop, tAsg, tPar, tPar3, tNext, tNever, tBreak, tCont, tAug, tChain, tAndV, tOrV, tNotV, tIf, tIsN, tNotN, tTup, tLst, tCallD, tMethD, tMakeD, tFld, tCon, sFld, sFldAug, tCallK, tSl, tPart, tNoPart, tBM, tBM0, tDGet, tDIn, tDNotIn, sDPut, tDNewK, tM0, tM1, tOrT, tAndT, tNotT, tAsg2, tAsg3, gName, rI0, rI, rU, tYes, L2.start, NdefX.startF, List.set_cons_zero, List.set_cons_succ, List.map_cons, List.map_nil, List.length_cons, List.length_nil, Nat.sub_zero, Nat.reduceSub, Nat.reduceAdd, List.replicate_succ, List.replicate_zero, List.cons_append, List.nil_append, List.append_nil, List.getElem?_cons_zero, List.getElem?_cons_succ, Option.some.injEq, exists_eq_left', exists_eq_left, exists_eq_right, exists_eq_right', exists_and_left, exists_and_right, exists_eq, exists_eq', true_and, and_true, V.int.injEq, V.str.injEq, V.bl.injEq, V.ref.injEq, V.ty.injEq, HO.ins.injEq, HO.lst.injEq, HO.tup.injEq, and_assoc, List.cons.injEq, Bool.not_true, Bool.not_false, Bool.false_eq_true, if_false, if_true, cx_K, upd_same, upd_upd, isi_str, req_ii, req_ss, rne_ii, rne_ss, radd_ii, rsub_ii, atI_at, atI_0, atI_1, atI_2, atI_3, atI_4, rLenL, rLenU, rIxLL, rIxU, reduceCtorEq, gTup, gCons, gNil, tFmt_eq, fmtV_str, fmtV_int, tJs_nil, tJs_cons, jsV_str, iKeys_eq, gSub, rSetL, tPart, tNoPart, tSl, rSlL, false_and, exists_false, or_false, false_or, List.set_cons_zero, List.set_cons_succ]; exact q) (fun z => ?_) fun z => ?_
    · have := fin _ σ0 (ws.take spot ++ ((ws.take (spot + 2)).drop spot).reverse ++ ws.drop (spot + 2)) (by
          rw [← mapp, ← mapp, List.map_reverse]
          exact lev_cat (lev_cat sTo (lev_rev (K := K) (sMid 2)) (by simp only [List.length_map, List.length_reverse]; have := lt3 (spot + 2); omega)) (sFrom 2) (by simp only [List.length_map, List.length_append, List.length_reverse]; have := lt3 (spot + 2); have := lt2 (spot + 2); omega)) (by simp only [List.length_append, List.length_reverse, List.length_take, List.length_drop]; omega) (fun x hx => by
          rcases List.mem_append.mp hx with h | h
          · rcases List.mem_append.mp h with h | h
            · exact inw h
            · exact inw (List.mem_of_mem_drop (List.mem_reverse.mp h))
          · exact ind h)
      rw [hσ] at this
      exact this
    refine hid_in ?_
    refine seq_if (decide ((way : Int) = 5)) (fun Q q => by simp only [tSeq, tIfS, tOr, tAnd, tNot, tB, tTest, tCB, tCons, tNil, tVar, tC, tOp, tUn, tRet, tRetN, tDrop, tAsg, tPar, tPar3, tNext, tNever, tBreak, tCont, tAug, tChain, tAndV, tOrV, tNotV, tIf, tIsN, tNotN, tTup, tLst, tCallD, tMethD, tMakeD, tFld, tCon, sFld, sFldAug, tCallK, tSl, tPart, tNoPart, tBM, tBM0, tDGet, tDIn, tDNotIn, sDPut, tDNewK, tM0, tM1, tOrT, tAndT, tNotT, tAsg2, tAsg3, gName, rI0, rI, rU, tYes, L2.start, NdefX.startF, List.set_cons_zero, List.set_cons_succ, List.map_cons, List.map_nil, List.length_cons, List.length_nil, Nat.sub_zero, Nat.reduceSub, Nat.reduceAdd, List.replicate_succ, List.replicate_zero, List.cons_append, List.nil_append, List.append_nil, List.getElem?_cons_zero, List.getElem?_cons_succ, Option.some.injEq, exists_eq_left', exists_eq_left, exists_eq_right, exists_eq_right', exists_and_left, exists_and_right, exists_eq, exists_eq', true_and, and_true, V.int.injEq, V.str.injEq, V.bl.injEq, V.ref.injEq, V.ty.injEq, HO.ins.injEq, HO.lst.injEq, HO.tup.injEq, and_assoc, List.cons.injEq, Bool.not_true, Bool.not_false, Bool.false_eq_true, if_false, if_true, cx_K, upd_same, upd_upd, isi_str, req_ii, req_ss, rne_ii, rne_ss, radd_ii, rsub_ii, atI_at, atI_0, atI_1, atI_2, atI_3, atI_4, rLenL, rLenU, rIxLL, rIxU, reduceCtorEq, gTup, gCons, gNil, tFmt_eq, fmtV_str, fmtV_int, tJs_nil, tJs_cons, jsV_str, iKeys_eq, gSub, rSetL, tPart, tNoPart, tSl, rSlL, false_and, exists_false, or_false, false_or, List.set_cons_zero, List.set_cons_succ]; exact q) (fun z => ?_) fun z => ?_
    · have := fin _ σ0 (ws.take spot ++ (ws.take (spot + 1)).drop spot ++ ws.drop spot) (by
          rw [← mapp, ← mapp]
          exact lev_cat (lev_cat sTo (sMid 1) (by simp only [List.length_map]; have := lt3 (spot + 1); omega)) sFrom0 (by simp only [List.length_map, List.length_append]; have := lt3 (spot + 1); have := lt2 spot; omega)) (by simp only [List.length_append, List.length_take, List.length_drop]; omega) (fun x hx => by
          rcases List.mem_append.mp hx with h | h
          · rcases List.mem_append.mp h with h | h
            · exact inw h
            · exact inw (List.mem_of_mem_drop h)
          · exact ind h)
      rw [hσ] at this
      exact this
    refine hid_in ?_
    simp only [tSeq, tIfS, tOr, tAnd, tNot, tB, tTest, tCB, tCons, tNil, tVar, tC, tOp, tUn, tRet, tRetN, tDrop, tAsg, tPar, tPar3, tNext, tNever, tBreak, tCont, tAug, tChain, tAndV, tOrV, tNotV, tIf, tIsN, tNotN, tTup, tLst, tCallD, tMethD, tMakeD, tFld, tCon, sFld, sFldAug, tCallK, tPart, tNoPart, tBM, tBM0, tDGet, tDIn, tDNotIn, sDPut, tDNewK, tM0, tM1, tOrT, tAndT, tNotT, tAsg2, tAsg3, gName, rI0, rI, rU, tYes, L2.start, NdefX.startF, List.set_cons_zero, List.set_cons_succ, List.map_cons, List.map_nil, List.length_cons, List.length_nil, Nat.sub_zero, Nat.reduceSub, Nat.reduceAdd, List.replicate_succ, List.replicate_zero, List.cons_append, List.nil_append, List.append_nil, List.getElem?_cons_zero, List.getElem?_cons_succ, Option.some.injEq, exists_eq_left', exists_eq_left, exists_eq_right, exists_eq_right', exists_and_left, exists_and_right, exists_eq, exists_eq', true_and, and_true, V.int.injEq, V.str.injEq, V.bl.injEq, V.ref.injEq, V.ty.injEq, HO.ins.injEq, HO.lst.injEq, HO.tup.injEq, and_assoc, List.cons.injEq, Bool.not_true, Bool.not_false, Bool.false_eq_true, if_false, if_true, cx_K, upd_same, upd_upd, isi_str, req_ii, req_ss, rne_ii, rne_ss, radd_ii, rsub_ii, atI_at, atI_0, atI_1, atI_2, atI_3, atI_4, rLenL, rLenU, rIxLL, rIxU, reduceCtorEq, gTup, gCons, gNil, tFmt_eq, fmtV_str, fmtV_int, tJs_nil, tJs_cons, jsV_str, iKeys_eq, gSub, rSetL, tPart, tNoPart, rSlL, false_and, exists_false, or_false, false_or, List.set_cons_zero, List.set_cons_succ]
    refine ite2 (fun z => ?_) fun z => ?_
    · have := fin _ σ0 (ws.take spot) sTo (by omega) (fun x hx => inw hx)
      rw [hσ] at this
      exact this
    · have e4 := ha4
      refine ⟨sz_le (by decide), fun p hp => ?_⟩
      have sp := same_upd (o := .lst [.str od]) hp
      refine ⟨a, p, _, _, rfl, rfl, sp _ _ ha4, upd_same, sz_le (by simp only [List.length_map, List.length_cons, List.length_nil]; omega), fun q hq => ?_⟩
      have hpq : q ≠ p := fun e => by rw [e, upd_same] at hq; cases hq
      have hq4 : H4 q = none := by rw [upd_ne hpq] at hq; exact hq
      obtain ⟨_, _, _, hpen4, _⟩ := P4.ex
      have s45 := same_new sp hq (o := .lst (ws.map V.str ++ [V.str od]))
      refine k q (ws ++ [od]) _ (Keep.trans (T := []) (U := [pen]) kH4 (Keep.of s45) (by simp) (by simp)) (none_of kH4 hq4 (by simpa using (ne_of_none hpen4 hq4).symm)) (by rw [upd_same, List.map_append]; rfl) (by simp) (fun x hx => ?_) (P4.same s45)
      rcases List.mem_append.mp hx with h | h
      · exact .inl h
      · rw [List.mem_singleton.mp h]; exact .inr hodm
end
end Ky

set_option Elab.async false
set_option maxRecDepth 100000
set_option maxHeartbeats 4000000
set_option linter.all false
/-! texts of ends and their words, plain Lean -/
namespace Ky
open PySem L2 Ly TL
def figS (i : Int) : Str := ((toString i : String) : Str)
def cellW (x : Str × Int) : List Str := [x.1, figS x.2]
def logW (x : Str × List Str) : List Str := x.1 :: (if x.2 = [] then ["-"] else x.2)
def headW : Option Str → List Str
  | none => ["done"]
  | some x => ["failed", x]
def semi (p : List Str) : List Str := ";" :: p
def thingsW (cs : CsL) (ls : LsL) : List Str := cs.flatMap (fun c => semi (cellW c)) ++ ls.flatMap fun l => semi (logW l)
def endW (e : EndD) : List Str := headW e.failed ++ thingsW e.cells e.logs
def slash (p : List Str) : List Str := "/" :: p
def endsW : List EndD → List Str
  | [] => ["-"]
  | e :: r => endW e ++ r.flatMap fun e => slash (endW e)
/-! ### joins -/
theorem joinL_app (c : List Nat) : ∀ (xs ys : List (List Nat)), xs ≠ [] → ys ≠ [] → joinL c (xs ++ ys) = joinL c xs ++ (c ++ joinL c ys)
  | [], _, h, _ => absurd rfl h
  | [a], [], _, h => absurd rfl h
  | [a], b :: r, _, _ => rfl
  | a :: b :: t, ys, _, h => by
    show a ++ (c ++ joinL c ((b :: t) ++ ys)) = (a ++ (c ++ joinL c (b :: t))) ++ (c ++ joinL c ys)
    rw [joinL_app c (b :: t) ys (by simp) h]
    simp only [List.append_assoc]
theorem joinL_mid (s : List Nat) : ∀ (p : List (List Nat)) (ps : List (List (List Nat))), p ≠ [] → (∀ q ∈ ps, q ≠ []) → joinL ([32] ++ s ++ [32]) ((p :: ps).map (joinL [32])) = joinL [32] (p ++ ps.flatMap fun q => s :: q)
  | p, [], _, _ => by simp [joinL]
  | p, q :: r, hp, hq => by
    have ih := joinL_mid s q r (hq q (.head _)) fun x hx => hq x (.tail _ hx)
    show joinL [32] p ++ (([32] ++ s ++ [32]) ++ joinL ([32] ++ s ++ [32]) ((q :: r).map (joinL [32]))) = joinL [32] (p ++ (s :: q ++ r.flatMap fun q => s :: q))
    rw [ih, joinL_app [32] p (s :: q ++ r.flatMap fun q => s :: q) hp (by simp)]
    have hne : (q ++ r.flatMap fun q => s :: q) ≠ [] := fun e => hq q (.head _) (List.append_eq_nil_iff.mp e).1
    cases hx : (q ++ r.flatMap fun q => s :: q) with
    | nil => exact absurd hx hne
    | cons a t =>
      rw [show (s :: q ++ r.flatMap fun q => s :: q) = s :: (q ++ r.flatMap fun q => s :: q) from rfl, hx]
      show joinL [32] p ++ (([32] ++ s ++ [32]) ++ joinL [32] (a :: t)) = joinL [32] p ++ ([32] ++ (s ++ ([32] ++ joinL [32] (a :: t))))
      simp only [List.append_assoc]
theorem tl_join2 (y : Str) (xs : List Str) : tl (Txt.join y xs) = joinL (tl y) (xs.map tl) := by rw [join_eq, tl_join]
/-- parts joined by " s ", each of words: the words joined by blanks -/
theorem join_mid (s : Str) (sep : Str) (hsep : tl sep = [32] ++ tl s ++ [32]) (p : List Str) (ps : List (List Str)) (hp : p ≠ []) (hq : ∀ q ∈ ps, q ≠ []) : Txt.join sep ((p :: ps).map (Txt.join " ")) = Txt.join " " (p ++ ps.flatMap fun q => s :: q) := by
  refine ext_tl ?_
  rw [tl_join2, tl_join2, hsep, tl_sp]
  have h := joinL_mid (tl s) (p.map tl) (ps.map (List.map tl)) (by simpa using hp) (fun q hq' => by
    obtain ⟨x, hx, rfl⟩ := List.mem_map.mp hq'
    simpa using hq x hx)
  have e1 : ((p :: ps).map (Txt.join " ")).map tl = ((p.map tl) :: (ps.map (List.map tl))).map (joinL [32]) := by
    rw [List.map_map, ← List.map_cons, List.map_map]
    exact List.map_congr_left fun x _ => by show tl (Txt.join " " x) = joinL [32] (x.map tl); rw [tl_join2, tl_sp]
  have e2 : (p ++ ps.flatMap fun q => s :: q).map tl = p.map tl ++ (ps.map (List.map tl)).flatMap fun q => tl s :: q := by
    rw [List.map_append, List.map_flatMap, List.flatMap_map]
    rfl
  rw [e1, h, e2]
structure Valid (e : EndD) : Prop where
  f : ∀ x, e.failed = some x → isNameM x = true
  uc : UpS (e.cells.map (·.1))
  ul : UpS (e.logs.map (·.1))
  c : ∀ x ∈ e.cells, isNameM x.1 = true ∧ 0 ≤ x.2 ∧ x.2 ≤ 3
  l : ∀ x ∈ e.logs, isNameM x.1 = true ∧ (∀ y ∈ x.2, isWordM y = true) ∧ x.1 ∉ e.cells.map (·.1)
theorem word_ne {x : Str} (h : isWordM x = true) : x ≠ "" := fun e => by have := (word_len h).1; rw [e] at this; revert this; decide
theorem two_join (a b : Str) : Txt.join " " [a, b] = a ++ " " ++ b := by
  refine ext_tl ?_
  rw [tl_join2, tl_append, tl_append]
  show tl a ++ (tl " " ++ tl b) = _
  simp
theorem cons_join (a : Str) {r : List Str} (h : r ≠ []) : Txt.join " " (a :: r) = a ++ " " ++ Txt.join " " r := by
  refine ext_tl ?_
  rw [tl_join2, tl_append, tl_append, tl_join2]
  cases r with
  | nil => exact absurd rfl h
  | cons b t =>
    show tl a ++ (tl " " ++ joinL (tl " ") ((b :: t).map tl)) = _
    simp
theorem emp_app (x : Str) : Str.empty ++ x = x := ext_tl (by rw [tl_append]; rfl)
theorem cellS_w (x : Str × Int) : cellS x = Txt.join " " (cellW x) := by
  unfold cellS cellW
  rw [two_join, emp_app]; rfl
theorem join_empty {ws : List Str} (hw : ∀ y ∈ ws, isWordM y = true) : Txt.join " " ws = "" ↔ ws = [] := by
  constructor
  · intro h
    cases ws with
    | nil => rfl
    | cons a r =>
      have h2 := congrArg tl h
      rw [tl_join2] at h2
      have ha := word_ne (hw a (.head _))
      have e : tl a = [] := by
        cases r with
        | nil => exact h2
        | cons b t =>
          have : tl a ++ (tl " " ++ joinL (tl " ") ((b :: t).map tl)) = [] := h2
          exact (List.append_eq_nil_iff.mp this).1
      exact absurd (ext_tl (y := "") e) ha
  · rintro rfl; rfl
theorem logS_w {x : Str × List Str} (hw : ∀ y ∈ x.2, isWordM y = true) : logS x = Txt.join " " (logW x) := by
  unfold logS logW
  by_cases h : x.2 = []
  · rw [if_pos ((join_empty hw).mpr h), if_pos h, two_join, emp_app]
    refine ext_tl ?_
    rw [tl_append, tl_append, tl_append, List.append_assoc]
    congr 1
  · rw [if_neg (fun e => h ((join_empty hw).mp e)), if_neg h, cons_join _ h, emp_app]
theorem headS_w (f : Option Str) : headS f = Txt.join " " (headW f) := by
  cases f with
  | none => rfl
  | some x =>
    show Str.empty ++ "failed " ++ x = Txt.join " " ["failed", x]
    rw [two_join, emp_app]
    refine ext_tl ?_
    rw [tl_append, tl_append, tl_append]
    congr 1
theorem headW_ne (f : Option Str) : headW f ≠ [] := by cases f <;> simp [headW]
theorem endW_ne (e : EndD) : endW e ≠ [] := fun h => headW_ne _ (List.append_eq_nil_iff.mp h).1
theorem endText_w {e : EndD} (v : ∀ x ∈ e.logs, ∀ y ∈ x.2, isWordM y = true) : endText e = Txt.join " " (endW e) := by
  have h := join_mid ";" " ; " (by decide +kernel) (headW e.failed) (e.cells.map cellW ++ e.logs.map logW) (headW_ne _) (fun q hq => by
    rcases List.mem_append.mp hq with h | h
    · obtain ⟨x, _, rfl⟩ := List.mem_map.mp h; simp [cellW]
    · obtain ⟨x, _, rfl⟩ := List.mem_map.mp h; simp [logW])
  have e1 : [headS e.failed] ++ e.cells.map cellS ++ e.logs.map logS = (headW e.failed :: (e.cells.map cellW ++ e.logs.map logW)).map (Txt.join " ") := by
    rw [List.map_cons, List.map_append, List.map_map, List.map_map, ← headS_w, List.cons_append, List.nil_append, List.cons_append]
    congr 2
    · exact List.map_congr_left fun x _ => cellS_w x
    · exact List.map_congr_left fun x hx => logS_w (v x hx)
  unfold endText
  rw [e1, h]
  unfold endW thingsW
  rw [List.flatMap_append, List.flatMap_map, List.flatMap_map]
  rfl
theorem endsText_w {es : List EndD} (v : ∀ e ∈ es, ∀ x ∈ e.logs, ∀ y ∈ x.2, isWordM y = true) : endsText es = Txt.join " " (endsW es) := by
  cases es with
  | nil => rfl
  | cons e r =>
    have h := join_mid "/" " / " (by decide +kernel) (endW e) (r.map endW) (endW_ne e) (fun q hq => by
      obtain ⟨x, _, rfl⟩ := List.mem_map.mp hq; exact endW_ne x)
    unfold endsText
    rw [if_neg (by simp)]
    have e1 : (e :: r).map endText = (endW e :: r.map endW).map (Txt.join " ") := by
      rw [← List.map_cons (f := endW), List.map_map]
      exact List.map_congr_left fun x hx => endText_w (v x hx)
    rw [e1, h, List.flatMap_map]
    rfl
end Ky

set_option Elab.async false
set_option maxRecDepth 100000
set_option maxHeartbeats 4000000
set_option linter.all false
/-! what the reader read, told back; what is told, read back -/
namespace Ky
open PySem L2 Ly TL
theorem take_two {ws : List Str} {i : Nat} (h : i + 1 < ws.length) : ws.take (i + 2) = ws.take i ++ [wAt ws i, wAt ws (i + 1)] := by
  have e0 : ws[i]? = some (wAt ws i) := by unfold wAt; rw [List.getElem?_eq_getElem (by omega)]; rfl
  have e1 : ws[i + 1]? = some (wAt ws (i + 1)) := by unfold wAt; rw [List.getElem?_eq_getElem h]; rfl
  rw [List.take_succ (i := i + 1), List.take_succ (i := i), e0, e1]
  simp
theorem take_one' {ws : List Str} {i : Nat} {x : Str} (h : ws[i]? = some x) : ws.take (i + 1) = ws.take i ++ [x] := by
  rw [List.take_succ, h]; rfl
theorem fig_back {x : Str} (h : x ∈ figL) : figS (figV x) = x := by
  simp only [figL, List.mem_cons, List.not_mem_nil, or_false] at h
  rcases h with rfl | rfl | rfl | rfl <;> decide +kernel
theorem take_said {ws : List Str} {i : Nat} (h : i ≤ ws.length) : ws.take (i + (saidM ws i).length) = ws.take i ++ saidM ws i := by
  have : saidM ws i <+: ws.drop i := List.takeWhile_prefix _
  obtain ⟨t, ht⟩ := this
  have e : ws = ws.take i ++ (saidM ws i ++ t) := by rw [ht, List.take_append_drop]
  have hl : (ws.take i).length = i := by rw [List.length_take]; omega
  have : ws.take (i + (saidM ws i).length) = (ws.take i ++ (saidM ws i ++ t)).take (i + (saidM ws i).length) := by rw [← e]
  rw [this, List.take_append, hl, Nat.add_sub_cancel_left, List.take_left, List.take_of_length_le (by omega)]
theorem thing_back {ws : List Str} {i j : Nat} {cs cs' : CsL} {ls ls' : LsL} (h : thingM ws i cs ls = .inr (j, cs', ls')) : ∃ W, ws.take j = ws.take i ++ W ∧ thingsW cs' ls' = thingsW cs ls ++ semi W := by
  unfold thingM at h
  have lt_of : ∀ {k : Nat} {x : Str}, wAt ws k = x → x ≠ "" → k < ws.length := fun {k x} e hx => by
    refine Decidable.byContradiction fun hk => hx ?_
    rw [← e]
    unfold wAt
    rw [List.getElem?_eq_none (by omega)]; rfl
  split at h
  · cases h
  · split at h
    · cases h
    · rename_i hn
      split at h
      · rename_i hc
        simp only [Bool.and_eq_true, isCM, decide_eq_true_eq, List.length_eq_zero_iff] at hc
        cases h
        have hlt : i + 1 < ws.length := lt_of rfl fun e => by rw [e] at hc; exact absurd hc.2 (by decide +kernel)
        refine ⟨_, take_two hlt, ?_⟩
        obtain ⟨⟨rfl, _⟩, hf⟩ := hc
        unfold thingsW cellW
        rw [List.flatMap_append, List.flatMap_cons, List.flatMap_nil, List.flatMap_nil, List.append_nil, List.append_nil, List.append_nil]
        show _ ++ semi [wAt ws i, figS (figV (wAt ws (i + 1)))] = _
        rw [fig_back hf]
      · split at h
        · rename_i hc
          simp only [Bool.and_eq_true, decide_eq_true_eq] at hc
          cases h
          have hlt : i + 1 < ws.length := lt_of hc.2 (by decide +kernel)
          refine ⟨_, take_two hlt, ?_⟩
          unfold thingsW
          rw [List.flatMap_append, List.flatMap_cons, List.flatMap_nil, List.append_nil, ← List.append_assoc, hc.2]
          rfl
        · split at h
          · split at h
            · rename_i hw
              cases h
              obtain ⟨hp, hlt⟩ := said_pos hw
              have hi : ws[i]? = some (wAt ws i) := by unfold wAt; rw [List.getElem?_eq_getElem (by omega)]; rfl
              refine ⟨wAt ws i :: saidM ws (i + 1), ?_, ?_⟩
              · rw [take_said (by omega), take_one' hi, List.append_assoc]; rfl
              · unfold thingsW
                rw [List.flatMap_append, List.flatMap_cons, List.flatMap_nil, List.append_nil, ← List.append_assoc]
                unfold logW
                rw [if_neg (fun e => by rw [show (saidM ws (i + 1)) = [] from e] at hp; cases hp)]
            · cases h
          · cases h
theorem loop_back {ws : List Str} {f : Option Str} {pre : List Str} : ∀ (n i : Nat) (cs : CsL) (ls : LsL) (j : Nat) (e : EndD), ws.take i = pre ++ (headW f ++ thingsW cs ls) → loopM ws f n i cs ls = .inr (j, e) → ws.take j = pre ++ endW e
  | 0, i, cs, ls, j, e, h, h2 => by cases h2; exact h
  | n + 1, i, cs, ls, j, e, h, h2 => by
    unfold loopM at h2
    split at h2
    · rename_i hs
      cases ht : thingM ws (i + 1) cs ls with
      | inl k => rw [ht] at h2; cases h2
      | inr r =>
        obtain ⟨j1, cs1, ls1⟩ := r
        rw [ht] at h2
        obtain ⟨W, w1, w2⟩ := thing_back ht
        refine loop_back n j1 cs1 ls1 j e ?_ h2
        rw [w1, take_one' hs, h, w2]
        simp only [List.append_assoc]
        rfl
    · cases h2; exact h
theorem end_back {ws : List Str} {i j : Nat} {e : EndD} (h : endM ws i = .inr (j, e)) : ws.take j = ws.take i ++ endW e := by
  have at_ : ∀ {k : Nat} {x : Str}, wAt ws k = x → x ≠ "" → ws[k]? = some x := fun {k x} e hx => by
    unfold wAt at e
    cases hk : ws[k]? with
    | none => rw [hk] at e; exact absurd e.symm hx
    | some y => rw [hk] at e; exact congrArg some e
  unfold endM at h
  split at h
  · rename_i hd
    have := at_ hd (by decide +kernel)
    exact loop_back _ _ [] [] j e (by rw [take_one' this]; rfl) h
  · split at h
    · rename_i hf
      have h1 := at_ hf (by decide +kernel)
      split at h
      · rename_i hn
        have h2 := at_ (k := i + 1) rfl (word_ne (name_word hn))
        exact loop_back _ _ [] [] j e (by rw [take_one' h2, take_one' h1, List.append_assoc]; rfl) h
      · cases h
    · cases h
theorem loopE_back {ws : List Str} : ∀ (n i : Nat) (es : List EndD) (es' : List EndD), es ≠ [] → ws.take i = endsW es → ws.length < i + n → loopE ws n i es = .inr es' → endsW es' = ws
  | 0, i, es, es', _, h, hn, h2 => by
    cases h2
    rw [← h, List.take_of_length_le (by omega)]
  | n + 1, i, es, es', hne, h, hn, h2 => by
    unfold loopE at h2
    split at h2
    · rename_i hs
      have hi := (List.getElem?_eq_some_iff.mp hs).1
      cases he : endM ws (i + 1) with
      | inl k => rw [he] at h2; cases h2
      | inr r =>
        obtain ⟨j, e⟩ := r
        rw [he] at h2
        have hb := end_back he
        have hj : i + 1 ≤ j := by
          have hl := congrArg List.length hb
          rw [List.length_append, List.length_take, List.length_take] at hl
          omega
        refine loopE_back n j (es ++ [e]) es' (by simp) ?_ (by omega) h2
        rw [hb, take_one' hs, h]
        cases es with
        | nil => exact absurd rfl hne
        | cons a r => simp [endsW, slash]
    · split at h2
      · cases h2
      · cases h2
        rw [← h, List.take_of_length_le (by omega)]
/-- what is read is told back -/
theorem ends_back {ws : List Str} {es : List EndD} (h : endsM ws = .inr es) (hne : ws ≠ []) : endsW es = ws := by
  unfold endsM at h
  split at h
  · rename_i hs
    split at h
    · cases h
    · rename_i hl
      cases h
      cases ws with
      | nil => exact absurd rfl hne
      | cons a r =>
        have hr : r = [] := List.length_eq_zero_iff.mp (by simp only [List.length_cons] at hl; omega)
        subst hr
        simp at hs
        rw [hs]; rfl
  · cases he : endM ws 0 with
    | inl k => rw [he] at h; cases h
    | inr r =>
      obtain ⟨j, e⟩ := r
      rw [he] at h
      have hb := end_back he
      exact loopE_back _ j [e] es (by simp) (by rw [hb]; simp [endsW]) (by omega) h
end Ky

set_option Elab.async false
set_option maxRecDepth 100000
set_option maxHeartbeats 4000000
set_option linter.all false
namespace Ky
open PySem L2 Ly TL
theorem loop_ok {ws : List Str} {f : Option Str} : ∀ (n i : Nat) (cs : CsL) (ls : LsL) (j : Nat) (e : EndD), TabOk i cs ls → loopM ws f n i cs ls = .inr (j, e) → ∀ x ∈ e.logs, ∀ y ∈ x.2, isWordM y = true
  | 0, i, cs, ls, j, e, ok, h2 => by cases h2; exact fun x hx => (ok.nl x hx).2
  | n + 1, i, cs, ls, j, e, ok, h2 => by
    unfold loopM at h2
    split at h2
    · cases ht : thingM ws (i + 1) cs ls with
      | inl k => rw [ht] at h2; cases h2
      | inr r =>
        obtain ⟨j1, cs1, ls1⟩ := r
        rw [ht] at h2
        have ok1 : TabOk (i + 1) cs ls := ⟨ok.pc, ok.pl, ok.nc, ok.nl, Nat.le_succ_of_le ok.n⟩
        exact loop_ok n j1 cs1 ls1 j e (ok1.thing ht).1 h2
    · cases h2; exact fun x hx => (ok.nl x hx).2
theorem end_ok {ws : List Str} {i j : Nat} {e : EndD} (h : endM ws i = .inr (j, e)) : ∀ x ∈ e.logs, ∀ y ∈ x.2, isWordM y = true := by
  unfold endM at h
  split at h
  · exact loop_ok _ _ [] [] j e (TabOk.nil _) h
  · split at h
    · split at h
      · exact loop_ok _ _ [] [] j e (TabOk.nil _) h
      · cases h
    · cases h
theorem loopE_ok {ws : List Str} : ∀ (n i : Nat) (es es' : List EndD), (∀ e ∈ es, ∀ x ∈ e.logs, ∀ y ∈ x.2, isWordM y = true) → loopE ws n i es = .inr es' → ∀ e ∈ es', ∀ x ∈ e.logs, ∀ y ∈ x.2, isWordM y = true
  | 0, i, es, es', h, h2 => by cases h2; exact h
  | n + 1, i, es, es', h, h2 => by
    unfold loopE at h2
    split at h2
    · cases he : endM ws (i + 1) with
      | inl k => rw [he] at h2; cases h2
      | inr r =>
        obtain ⟨j, e⟩ := r
        rw [he] at h2
        refine loopE_ok n j _ es' (fun e' he' => ?_) h2
        rcases List.mem_append.mp he' with h3 | h3
        · exact h e' h3
        · rw [List.mem_singleton.mp h3]; exact end_ok he
    · split at h2
      · cases h2
      · cases h2; exact h
theorem ends_ok {ws : List Str} {es : List EndD} (h : endsM ws = .inr es) : ∀ e ∈ es, ∀ x ∈ e.logs, ∀ y ∈ x.2, isWordM y = true := by
  unfold endsM at h
  split at h
  · split at h
    · cases h
    · cases h; exact fun _ h => nomatch h
  · cases he : endM ws 0 with
    | inl k => rw [he] at h; cases h
    | inr r =>
      obtain ⟨j, e⟩ := r
      rw [he] at h
      exact loopE_ok _ _ _ _ (fun e' he' => by rw [List.mem_singleton.mp he']; exact end_ok he) h
theorem page_back {z : Str} {es : List EndD} (h : endsM (Txt.split z " ") = .inr es) : endsText es = z := by
  rw [endsText_w (ends_ok h), ends_back h (words_ne z), words_join]
theorem flat_len {α : Type} (f : α → List Str) : ∀ l : List α, (∀ x ∈ l, f x ≠ []) → l.length ≤ (l.flatMap f).length
  | [], _ => Nat.le_refl _
  | a :: r, h => by
    have ih := flat_len f r fun x hx => h x (.tail _ hx)
    have := List.length_pos_iff.mpr (h a (.head _))
    rw [List.flatMap_cons, List.length_append, List.length_cons]
    omega
theorem page_size {z : Str} {es : List EndD} (hz : z.length ≤ 40000) (h : endsM (Txt.split z " ") = .inr es) : (es.map fun e => (endText e).length).sum + es.length * 3 ≤ 16000000 := by
  have h1 := page_back h
  have h2 := ends_back h (words_ne z)
  have h3 := words_len z
  cases es with
  | nil => simp
  | cons e r =>
    unfold endsText at h1
    rw [if_neg (by simp)] at h1
    have h4 := PyProof.Rows.len_join_ge_sum " / " ((e :: r).map endText)
    rw [h1, List.map_map] at h4
    have h5 : (e :: r).length ≤ (endsW (e :: r)).length := by
      have a1 := List.length_pos_iff.mpr (endW_ne e)
      have a2 := flat_len (fun e => slash (endW e)) r fun x _ => by simp [slash]
      unfold endsW
      rw [List.length_append, List.length_cons]
      omega
    rw [h2] at h5
    have h6 : ((e :: r).map ((fun x : Str => x.length) ∘ endText)).sum = ((e :: r).map fun e => (endText e).length).sum := rfl
    omega
end Ky

set_option Elab.async false
set_option maxRecDepth 100000
set_option maxHeartbeats 4000000
set_option linter.all false
/-! what is told is read back -/
namespace Ky
open PySem L2 Ly TL
theorem at_drop {ws r : List Str} {i : Nat} {a : Str} (h : ws.drop i = a :: r) : ws[i]? = some a ∧ wAt ws i = a ∧ ws.drop (i + 1) = r ∧ i < ws.length := by
  have hi : i < ws.length := by
    refine Decidable.byContradiction fun hk => ?_
    rw [List.drop_eq_nil_of_le (by omega)] at h
    cases h
  rw [List.drop_eq_getElem_cons hi] at h
  injection h with h1 h2
  exact ⟨by rw [List.getElem?_eq_getElem hi, h1], by unfold wAt; rw [List.getElem?_eq_getElem hi, h1]; rfl, h2, hi⟩
theorem up_lt {ns r : List Str} {a : Str} (h : UpS (ns ++ a :: r)) (ha : isNameM a = true) : ltS (lastS ns) a = true := by
  refine decide_eq_true ?_
  rcases List.eq_nil_or_concat ns with rfl | ⟨t, b, rfl⟩
  · show ("" : Str).cps.toList < a.cps.toList
    have h1 := (word_len (name_word ha)).1
    cases hx : a.cps.toList with
    | nil => rw [show a.length = a.cps.toList.length from Array.length_toList.symm, hx] at h1; cases h1
    | cons c r => exact List.nil_lt_cons c r
  · rw [List.concat_eq_append] at h ⊢
    rw [last_snoc]
    exact (List.pairwise_append.mp h).2.2 b (by simp) a (.head _)
theorem fig_of {i : Int} (h0 : 0 ≤ i) (h3 : i ≤ 3) : figS i ∈ figL ∧ figV (figS i) = i := by
  have : i = 0 ∨ i = 1 ∨ i = 2 ∨ i = 3 := by omega
  rcases this with rfl | rfl | rfl | rfl <;> decide +kernel
theorem word_not_fig {x : Str} (h : isWordM x = true) : x ∉ figL := fun hx => by
  simp only [figL, List.mem_cons, List.not_mem_nil, or_false] at hx
  rcases hx with rfl | rfl | rfl | rfl <;> revert h <;> decide +kernel
theorem thing_cell {ws R : List Str} {i : Nat} {cs : CsL} {c : Str × Int} (h : ws.drop i = cellW c ++ R) (hn : isNameM c.1 = true) (h0 : 0 ≤ c.2) (h3 : c.2 ≤ 3) (hl : ltS (lastS (cs.map (·.1))) c.1 = true) : thingM ws i cs [] = .inr (i + 2, cs ++ [c], []) := by
  obtain ⟨_, w0, d1, _⟩ := at_drop (a := c.1) (r := figS c.2 :: R) h
  obtain ⟨_, w1, _, _⟩ := at_drop d1
  obtain ⟨f1, f2⟩ := fig_of h0 h3
  have hc : isCM cs [] c.1 = true := by unfold isCM; rw [hl]; rfl
  unfold thingM
  rw [w0, w1, hc, if_neg (by simp), if_neg (by rw [hn]; simp), if_pos (by simp [f1]), f2]
theorem tw_app {p : Str → Bool} : ∀ {xs R : List Str}, (∀ x ∈ xs, p x = true) → (∀ y r, R = y :: r → p y = false) → (xs ++ R).takeWhile p = xs
  | [], [], _, _ => rfl
  | [], y :: r, _, h => by rw [List.nil_append, List.takeWhile_cons_of_neg (by rw [h y r rfl]; simp)]
  | a :: t, R, h, h2 => by rw [List.cons_append, List.takeWhile_cons_of_pos (h a (.head _)), tw_app (fun x hx => h x (.tail _ hx)) h2]
theorem thing_log {ws R : List Str} {i : Nat} {cs : CsL} {ls : LsL} {l : Str × List Str} (h : ws.drop i = logW l ++ R) (hR : ∀ y r, R = y :: r → isWordM y = false) (hn : isNameM l.1 = true) (hw : ∀ y ∈ l.2, isWordM y = true) (hl : ltS (lastS (ls.map (·.1))) l.1 = true) (hc : l.1 ∉ cs.map (·.1)) :
    thingM ws i cs ls = .inr (i + (logW l).length, cs, ls ++ [l]) := by
  obtain ⟨n, ws'⟩ := l
  have hL : isLM cs ls n = true := by unfold isLM; rw [hl, decide_eq_false hc]; rfl
  cases ws' with
  | nil =>
    obtain ⟨_, w0, d1, _⟩ := at_drop (a := n) (r := "-" :: R) h
    obtain ⟨_, w1, _, _⟩ := at_drop d1
    unfold thingM
    rw [w0, w1, hL, if_neg (by simp), if_neg (by rw [hn]; simp), if_neg (by
      have : ¬ ("-" : Str) ∈ figL := by decide +kernel
      simp [this]), if_pos (by simp)]
    rfl
  | cons a t =>
    obtain ⟨_, w0, d1, _⟩ := at_drop (a := n) (r := (a :: t) ++ R) h
    obtain ⟨_, w1, _, _⟩ := at_drop (a := a) (r := t ++ R) d1
    have ha := hw a (.head _)
    have hs : saidM ws (i + 1) = a :: t := by unfold saidM; rw [d1]; exact tw_app hw hR
    have hnd : ¬ a = "-" := fun e => by rw [e] at ha; revert ha; decide +kernel
    unfold thingM
    rw [w0, w1, hL, if_neg (by simp), if_neg (by rw [hn]; simp), if_neg (by simp [word_not_fig ha]), if_neg (by simp [hnd]), if_pos rfl, if_pos ha, hs]
    congr 2
    show i + 1 + (a :: t).length = i + (n :: (a :: t)).length
    simp only [List.length_cons]; omega
theorem nw : isWordM ";" = false ∧ isWordM "/" = false ∧ isWordM "-" = false := by decide +kernel
abbrev EndR (R : List Str) : Prop := R = [] ∨ ∃ r, R = ("/" : Str) :: r
theorem loop_logs {ws R : List Str} (hR : EndR R) {f : Option Str} {cs : CsL} : ∀ (lR : LsL) (n i : Nat) (ls : LsL), ws.drop i = lR.flatMap (fun l => semi (logW l)) ++ R → UpS ((ls ++ lR).map (·.1)) →
    (∀ l ∈ lR, isNameM l.1 = true ∧ (∀ y ∈ l.2, isWordM y = true) ∧ l.1 ∉ cs.map (·.1)) → ws.length < i + n → loopM ws f n i cs ls = .inr (i + (lR.flatMap fun l => semi (logW l)).length, ⟨f, cs, ls ++ lR⟩)
  | [], n, i, ls, h, up, ok, hn => by
    have hns : ¬ ws[i]? = some (";" : Str) := fun e => by
      rcases hR with rfl | ⟨r, rfl⟩
      · have : ws.drop i = [] := h
        have hi := (List.getElem?_eq_some_iff.mp e).1
        have := congrArg List.length this
        rw [List.length_drop] at this
        simp at this
        omega
      · have := (at_drop (a := "/") (r := r) h).1
        rw [e] at this
        exact absurd (Option.some.inj this) (by decide +kernel)
    cases n with
    | zero => simp [loopM]
    | succ n => unfold loopM; rw [if_neg hns]; simp
  | l :: lR, n, i, ls, h, up, ok, hn => by
    obtain ⟨hs, _, d1, hi⟩ := at_drop (a := ";") (r := logW l ++ (lR.flatMap (fun l => semi (logW l)) ++ R)) (by rw [h]; simp [semi])
    obtain ⟨m, rfl⟩ : ∃ m, n = m + 1 := ⟨n - 1, by omega⟩
    obtain ⟨o1, o2, o3⟩ := ok l (.head _)
    have hR2 : ∀ y r, lR.flatMap (fun l => semi (logW l)) ++ R = y :: r → isWordM y = false := fun y r e => by
      cases lR with
      | nil =>
        rcases hR with rfl | ⟨r2, rfl⟩
        · cases e
        · have e : ("/" : Str) :: r2 = y :: r := e
          injection e with e1 _
          rw [← e1]; exact nw.2.1
      | cons b t =>
        have e : (";" : Str) :: (logW b ++ t.flatMap (fun l => semi (logW l)) ++ R) = y :: r := by simpa [semi] using e
        injection e with e1 _
        rw [← e1]; exact nw.1
    have ht := thing_log d1 hR2 o1 o2 (up_lt (ns := ls.map (·.1)) (r := lR.map (·.1)) (by simpa using up) o1) o3
    unfold loopM
    rw [if_pos hs, ht]
    have hpos : 1 ≤ (logW l).length := by simp [logW]
    have ih := loop_logs hR (f := f) lR m (i + 1 + (logW l).length) (ls ++ [l]) (by
      have := congrArg (List.drop (logW l).length) d1
      rw [List.drop_drop, List.drop_left] at this
      exact this) (by simpa using up) (fun x hx => ok x (.tail _ hx)) (by omega)
    show loopM ws f m (i + 1 + (logW l).length) cs (ls ++ [l]) = _
    rw [ih]
    simp only [List.flatMap_cons, List.length_append, semi, List.length_cons, List.append_assoc, List.singleton_append]
    congr 2
    omega
theorem loop_all {ws R : List Str} (hR : EndR R) {f : Option Str} {lR : LsL} : ∀ (cR : CsL) (n i : Nat) (cs : CsL), ws.drop i = thingsW cR lR ++ R → UpS ((cs ++ cR).map (·.1)) → UpS (lR.map (·.1)) → (∀ c ∈ cR, isNameM c.1 = true ∧ 0 ≤ c.2 ∧ c.2 ≤ 3) →
    (∀ l ∈ lR, isNameM l.1 = true ∧ (∀ y ∈ l.2, isWordM y = true) ∧ l.1 ∉ (cs ++ cR).map (·.1)) → ws.length < i + n → loopM ws f n i cs [] = .inr (i + (thingsW cR lR).length, ⟨f, cs ++ cR, lR⟩)
  | [], n, i, cs, h, uc, ul, okc, okl, hn => by
    have := loop_logs hR (f := f) (cs := cs) lR n i [] h (by simpa using ul) (by simpa using okl) hn
    rw [this]
    simp [thingsW]
  | c :: cR, n, i, cs, h, uc, ul, okc, okl, hn => by
    obtain ⟨hs, _, d1, hi⟩ := at_drop (a := ";") (r := cellW c ++ (thingsW cR lR ++ R)) (by rw [h]; simp [thingsW, semi])
    obtain ⟨m, rfl⟩ : ∃ m, n = m + 1 := ⟨n - 1, by omega⟩
    obtain ⟨o1, o2, o3⟩ := okc c (.head _)
    have ht := thing_cell d1 o1 o2 o3 (up_lt (ns := cs.map (·.1)) (r := cR.map (·.1)) (by simpa using uc) o1)
    unfold loopM
    rw [if_pos hs, ht]
    have ih := loop_all hR (f := f) (lR := lR) cR m (i + 1 + 2) (cs ++ [c]) (by
      have := congrArg (List.drop (cellW c).length) d1
      rw [List.drop_drop, List.drop_left] at this
      exact this) (by simpa using uc) ul (fun x hx => okc x (.tail _ hx)) (by simpa using okl) (by omega)
    show loopM ws f m (i + 1 + 2) (cs ++ [c]) [] = _
    rw [ih]
    have hlen : (thingsW (c :: cR) lR).length = 3 + (thingsW cR lR).length := by simp [thingsW, semi, cellW]; omega
    rw [hlen]
    simp only [List.append_assoc, List.singleton_append]
    congr 2
    omega
theorem end_read {ws R : List Str} (hR : EndR R) {e : EndD} (v : Valid e) {i : Nat} (h : ws.drop i = endW e ++ R) : endM ws i = .inr (i + (endW e).length, e) := by
  obtain ⟨f, cs, ls⟩ := e
  have hok : ∀ l ∈ ls, isNameM l.1 = true ∧ (∀ y ∈ l.2, isWordM y = true) ∧ l.1 ∉ (([] : CsL) ++ cs).map (·.1) := fun l hl => by simpa using v.l l hl
  cases f with
  | none =>
    obtain ⟨_, w0, d1, _⟩ := at_drop (a := "done") (r := thingsW cs ls ++ R) (by rw [h]; rfl)
    unfold endM
    rw [w0, if_pos rfl, loop_all hR cs (ws.length + 1) (i + 1) [] d1 (by simpa using v.uc) v.ul v.c hok (by omega)]
    show Sum.inr (i + 1 + (thingsW cs ls).length, _) = Sum.inr (i + (("done" : Str) :: thingsW cs ls).length, _)
    rw [List.length_cons]
    congr 2
    omega
  | some x =>
    obtain ⟨_, w0, d1, _⟩ := at_drop (a := "failed") (r := x :: (thingsW cs ls ++ R)) (by rw [h]; rfl)
    obtain ⟨_, w1, d2, _⟩ := at_drop d1
    unfold endM
    rw [w0, w1, if_neg (by decide +kernel), if_pos rfl, if_pos (v.f x rfl), loop_all hR cs (ws.length + 1) (i + 2) [] d2 (by simpa using v.uc) v.ul v.c hok (by omega)]
    show Sum.inr (i + 2 + (thingsW cs ls).length, _) = Sum.inr (i + (("failed" : Str) :: x :: thingsW cs ls).length, _)
    rw [List.length_cons, List.length_cons]
    congr 2
    omega
theorem endsR (r : List EndD) : EndR (r.flatMap fun e => slash (endW e)) := by
  cases r with
  | nil => exact .inl rfl
  | cons a t => exact .inr ⟨_, rfl⟩
theorem loopE_read {ws : List Str} : ∀ (r : List EndD) (n i : Nat) (es : List EndD), ws.drop i = r.flatMap (fun e => slash (endW e)) → i ≤ ws.length → (∀ e ∈ r, Valid e) → ws.length < i + n → loopE ws n i es = .inr (es ++ r)
  | [], n, i, es, h, hi, v, hn => by
    have hl : ws.length ≤ i := by
      have := congrArg List.length h
      rw [List.length_drop] at this
      simp at this
      omega
    cases n with
    | zero => omega
    | succ n =>
      unfold loopE
      rw [if_neg (by rw [List.getElem?_eq_none hl]; simp), if_neg (by omega), List.append_nil]
  | e :: r, n, i, es, h, hi, v, hn => by
    obtain ⟨hs, _, d1, hi2⟩ := at_drop (a := "/") (r := endW e ++ r.flatMap fun e => slash (endW e)) (by rw [h]; simp [slash])
    obtain ⟨m, rfl⟩ : ∃ m, n = m + 1 := ⟨n - 1, by omega⟩
    have he := end_read (endsR r) (v e (.head _)) d1
    have hl := congrArg List.length d1
    rw [List.length_drop, List.length_append] at hl
    unfold loopE
    rw [if_pos hs, he]
    have hd : ws.drop (i + 1 + (endW e).length) = r.flatMap fun e => slash (endW e) := by
      have := congrArg (List.drop (endW e).length) d1
      rw [List.drop_drop, List.drop_left] at this
      exact this
    show loopE ws m (i + 1 + (endW e).length) (es ++ [e]) = _
    rw [loopE_read r m _ (es ++ [e]) hd (by omega) (fun x hx => v x (.tail _ hx)) (by omega)]
    simp
theorem ends_read {es : List EndD} (v : ∀ e ∈ es, Valid e) : endsM (endsW es) = .inr es := by
  cases es with
  | nil =>
    unfold endsM endsW
    rw [if_pos (by rfl), if_neg (by decide)]
  | cons e r =>
    have hne : ¬ (endsW (e :: r))[0]? = some ("-" : Str) := by
      have h1 : ¬ ("done" : Str) = "-" := by decide +kernel
      have h2 : ¬ ("failed" : Str) = "-" := by decide +kernel
      have hh : ∀ (f : Option Str) (X : List Str), ¬ (headW f ++ X)[0]? = some ("-" : Str) := fun f X => by cases f <;> simp [headW, h1, h2]
      show ¬ (headW e.failed ++ thingsW e.cells e.logs ++ r.flatMap fun e => slash (endW e))[0]? = some ("-" : Str)
      rw [List.append_assoc]
      exact hh _ _
    unfold endsM
    have he := end_read (ws := endsW (e :: r)) (endsR r) (v e (.head _)) (i := 0) rfl
    rw [if_neg hne, he]
    have hd : (endsW (e :: r)).drop (0 + (endW e).length) = r.flatMap fun e => slash (endW e) := by
      rw [Nat.zero_add]; exact List.drop_left
    show loopE (endsW (e :: r)) _ (0 + (endW e).length) [e] = _
    rw [loopE_read r _ _ [e] hd (by rw [Nat.zero_add]; unfold endsW; rw [List.length_append]; omega) (fun x hx => v x (.tail _ hx)) (by omega)]
    rfl
end Ky

set_option Elab.async false
set_option maxRecDepth 100000
set_option maxHeartbeats 4000000
set_option linter.all false
/-! the law's drawn ends, the law's pages -/
namespace Ky
open PySem L2 Ly TL
theorem plain_valid {e : EndD} (p : PlainOk e) : Valid e := by
  have nm : ∀ x ∈ titlesC ++ titlesL ++ (["f", "g"] : List Str), isNameM x = true := by decide +kernel
  have wm : ∀ x ∈ saidW, isWordM x = true := by decide +kernel
  have dis : ∀ x ∈ titlesL, x ∉ titlesC := by decide +kernel
  have upC : UpS titlesC := by decide +kernel
  have upL : UpS titlesL := by decide +kernel
  refine ⟨fun x hx => ?_, upC.sublist p.c.1, upL.sublist p.l.1, fun x hx => ⟨nm _ (by simp [p.c.1.subset (List.mem_map_of_mem hx)]), p.c.2 x hx⟩, fun x hx => ⟨nm _ (by simp [p.l.1.subset (List.mem_map_of_mem hx)]), fun y hy => wm _ ((p.l.2 x hx).2 y hy), fun h => dis _ (p.l.1.subset (List.mem_map_of_mem hx)) (p.c.1.subset h)⟩⟩
  rcases p.f with h | h | h | h <;> rw [h] at hx
  · cases hx
  · cases hx; decide +kernel
  · cases hx; decide +kernel
  · cases hx; decide +kernel
theorem plain_fit {e : EndD} (p : PlainOk e) : FitE e := by
  have v := plain_valid p
  refine ⟨fun x h => (word_len (name_word (v.f x h))).2, fun x h => ⟨(word_len (name_word (v.c x h).1)).2, (v.c x h).2⟩, fun x h => ⟨(word_len (name_word (v.l x h).1)).2, fun y hy => (word_len ((v.l x h).2.1 y hy)).2⟩, up_nodup v.uc, up_nodup v.ul, ?_⟩
  have h1 := p.c.1.length_le
  have h2 := p.l.1.length_le
  rw [List.length_map] at h1 h2
  have h3 := sum_le (fun x : Str × List Str => x.2.length + 1) 4 e.logs fun x hx => by have := (p.l.2 x hx).1; omega
  have e1 : titlesC.length = 3 := rfl
  have e2 : titlesL.length = 2 := rfl
  omega
/-- a word of a page: short, of signs that can be, without blanks -/
structure GoodW (x : Str) : Prop where
  len : x.length ≤ 90000
  ok : PyData.strOk x = true
  sp : 32 ∉ tl x
theorem goodB {x : Str} (h : (decide (x.length ≤ 90000) && (PyData.strOk x && decide (32 ∉ tl x))) = true) : GoodW x := by
  simp only [Bool.and_eq_true, decide_eq_true_eq] at h
  exact ⟨h.1, h.2.1, h.2.2⟩
theorem word_sp {x : Str} (h : isWordM x = true) : 32 ∉ tl x := fun hx => by
  unfold isWordM at h
  simp only [Bool.and_eq_true] at h
  have := List.all_eq_true.mp h.2 32 hx
  revert this; decide +kernel
theorem word_good {x : Str} (h : isWordM x = true) : GoodW x := ⟨by have := (word_len h).2; omega, word_ok h, word_sp h⟩
theorem odd_good : ∀ x ∈ oddW, GoodW x ∧ x.length ≤ 9 := by
  have : ∀ x ∈ oddW, (decide (x.length ≤ 90000) && (PyData.strOk x && decide (32 ∉ tl x))) = true ∧ x.length ≤ 9 := by decide +kernel
  exact fun x hx => ⟨goodB (this x hx).1, (this x hx).2⟩
theorem sig_good : ∀ x ∈ (["done", "failed", ";", "/", "-", "0", "1", "2", "3"] : List Str), GoodW x ∧ x.length ≤ 9 := by
  have : ∀ x ∈ (["done", "failed", ";", "/", "-", "0", "1", "2", "3"] : List Str), (decide (x.length ≤ 90000) && (PyData.strOk x && decide (32 ∉ tl x))) = true ∧ x.length ≤ 9 := by decide +kernel
  exact fun x hx => ⟨goodB (this x hx).1, (this x hx).2⟩
theorem end_good {e : EndD} (v : Valid e) : ∀ x ∈ endW e, GoodW x ∧ x.length ≤ 9 := by
  have wg : ∀ x, isWordM x = true → GoodW x ∧ x.length ≤ 9 := fun x h => ⟨word_good h, by have := (word_len h).2; omega⟩
  intro x hx
  unfold endW thingsW at hx
  rcases List.mem_append.mp hx with h | h
  · cases hf : e.failed with
    | none => rw [hf] at h; rw [List.mem_singleton.mp h]; exact sig_good _ (by decide +kernel)
    | some y =>
      rw [hf] at h
      rcases List.mem_cons.mp h with rfl | h
      · exact sig_good _ (by decide +kernel)
      · rw [List.mem_singleton.mp h]; exact wg _ (name_word (v.f y hf))
  · rcases List.mem_append.mp h with h | h
    · obtain ⟨c, hc, h⟩ := List.mem_flatMap.mp h
      rcases List.mem_cons.mp h with rfl | h
      · exact sig_good _ (by decide +kernel)
      · rcases List.mem_cons.mp h with rfl | h
        · exact wg _ (name_word (v.c c hc).1)
        · rw [List.mem_singleton.mp h]
          have := (fig_of (v.c c hc).2.1 (v.c c hc).2.2).1
          exact sig_good _ (by simp only [figL, List.mem_cons, List.not_mem_nil, or_false] at this; rcases this with h | h | h | h <;> rw [h] <;> decide +kernel)
    · obtain ⟨l, hl, h⟩ := List.mem_flatMap.mp h
      rcases List.mem_cons.mp h with rfl | h
      · exact sig_good _ (by decide +kernel)
      · rcases List.mem_cons.mp h with rfl | h
        · exact wg _ (name_word (v.l l hl).1)
        · by_cases he : l.2 = []
          · rw [if_pos he] at h
            rw [List.mem_singleton.mp h]; exact sig_good _ (by decide +kernel)
          · rw [if_neg he] at h
            exact wg _ ((v.l l hl).2.1 x h)
theorem ends_good {es : List EndD} (v : ∀ e ∈ es, Valid e) : ∀ x ∈ endsW es, GoodW x ∧ x.length ≤ 9 := by
  cases es with
  | nil => intro x hx; rw [List.mem_singleton.mp hx]; exact sig_good _ (by decide +kernel)
  | cons e r =>
    intro x hx
    unfold endsW at hx
    rcases List.mem_append.mp hx with h | h
    · exact end_good (v e (.head _)) x h
    · obtain ⟨e', he', h⟩ := List.mem_flatMap.mp h
      rcases List.mem_cons.mp h with rfl | h
      · exact sig_good _ (by decide +kernel)
      · exact end_good (v e' (.tail _ he')) x h
theorem endsW_ne (es : List EndD) : endsW es ≠ [] := by
  cases es with
  | nil => simp [endsW]
  | cons e r => exact fun h => endW_ne e (List.append_eq_nil_iff.mp h).1
/-- the line of drawn ends: its words, its reading -/
theorem line_words {es : List EndD} (v : ∀ e ∈ es, Valid e) : Txt.split (endsText es) " " = endsW es := by
  rw [endsText_w (fun e he x hx => (v e he).l x hx |>.2.1)]
  exact join_words (endsW_ne es) fun x hx => (ends_good v x hx).1.sp
theorem line_read {es : List EndD} (v : ∀ e ∈ es, Valid e) : endsM (Txt.split (endsText es) " ") = .inr es := by rw [line_words v]; exact ends_read v
theorem endW_len {e : EndD} (p : PlainOk e) : (endW e).length ≤ 30 := by
  have h1 := p.c.1.length_le
  have h2 := p.l.1.length_le
  rw [List.length_map] at h1 h2
  have e1 : titlesC.length = 3 := rfl
  have e2 : titlesL.length = 2 := rfl
  have h3 : (headW e.failed).length ≤ 2 := by cases e.failed <;> simp [headW]
  have h4 : (e.cells.flatMap fun c => semi (cellW c)).length ≤ e.cells.length * 3 := by
    rw [List.length_flatMap]
    exact sum_le _ 3 _ fun x _ => by simp [semi, cellW]
  have h5 : (e.logs.flatMap fun l => semi (logW l)).length ≤ e.logs.length * 5 := by
    rw [List.length_flatMap]
    refine sum_le _ 5 _ fun x hx => ?_
    have := (p.l.2 x hx).1
    unfold semi logW
    split <;> simp <;> omega
  unfold endW thingsW
  rw [List.length_append, List.length_append]
  omega
theorem endsW_len {es : List EndD} (p : ∀ e ∈ es, PlainOk e) (hn : es.length ≤ 10) : (endsW es).length ≤ 400 := by
  cases es with
  | nil => simp [endsW]
  | cons e r =>
    have h1 := endW_len (p e (.head _))
    have h2 : (r.flatMap fun e => slash (endW e)).length ≤ r.length * 31 := by
      rw [List.length_flatMap]
      refine sum_le _ 31 _ fun x hx => ?_
      have := endW_len (p x (.tail _ hx))
      simp [slash]; omega
    unfold endsW
    rw [List.length_append]
    simp only [List.length_cons] at hn
    omega
/-- a page of n words of at most 9 signs -/
theorem page_len {ws : List Str} (hn : ws.length ≤ 3000) (h : ∀ x ∈ ws, x.length ≤ 9) : (Txt.join " " ws).length ≤ 40000 ∧ (ws.map (·.length)).sum + ws.length * 1 ≤ 40000 := by
  have h1 := join_len " " ws
  have h2 := sum_le (fun x : Str => x.length) 9 ws h
  rw [show (" " : Str).length = 1 by decide +kernel] at h1
  exact ⟨by omega, by omega⟩
theorem join_ok (ws : List Str) (h : ∀ x ∈ ws, PyData.strOk x = true) : PyData.strOk (Txt.join " " ws) = true := by
  have key : ∀ l : List Str, (∀ x ∈ l, PyData.strOk x = true) → ∀ c ∈ joinL (tl " ") (l.map tl), c < 1114112 := by
    intro l
    induction l with
    | nil => intro _ c hc; cases hc
    | cons a r ih =>
      intro hl c hc
      have ha : ∀ c ∈ tl a, c < 1114112 := fun c hc => by
        have := hl a (.head _)
        unfold PyData.strOk at this
        rw [← Array.all_toList] at this
        exact of_decide_eq_true (List.all_eq_true.mp this c hc)
      cases r with
      | nil => exact ha c hc
      | cons b t =>
        have hc : c ∈ tl a ++ (tl " " ++ joinL (tl " ") ((b :: t).map tl)) := hc
        rcases List.mem_append.mp hc with h | h
        · exact ha c h
        · rcases List.mem_append.mp h with h | h
          · rw [tl_sp] at h; rw [List.mem_singleton.mp h]; decide
          · exact ih (fun x hx => hl x (.tail _ hx)) c h
  unfold PyData.strOk
  rw [← Array.all_toList]
  refine List.all_eq_true.mpr fun c hc => decide_eq_true (key ws h c ?_)
  rw [← tl_join2]
  exact hc
end Ky

set_option Elab.async false
set_option maxRecDepth 100000
set_option maxHeartbeats 8000000
set_option linter.all false
namespace Ky
open PySem L2 Ly
theorem merge_cs {α : Type} (g : Str × α → V) : ∀ (l acc : List (Str × α)), ((acc ++ l).map (·.1)).Nodup → mergeK (acc.map fun x => ((.inr x.1 : Key), g x)) (l.map fun x => ((.inr x.1 : Key), g x)) = (acc ++ l).map fun x => ((.inr x.1 : Key), g x)
  | [], acc, _ => by rw [List.append_nil]; rfl
  | x :: r, acc, nd => by
    have hn : x.1 ∉ acc.map (·.1) := fun h => by
      rw [List.map_append, List.nodup_append] at nd
      exact nd.2.2 x.1 h x.1 (by simp) rfl
    have h0 : ∀ acc : List (Str × α), x.1 ∉ acc.map (·.1) → valV (acc.map fun x => ((.inr x.1 : Key), g x)) (.inr x.1) = none := by
      intro acc
      induction acc with
      | nil => intro _; rfl
      | cons y t ih =>
        intro h
        rw [List.map_cons, List.mem_cons, not_or] at h
        rw [List.map_cons, valV_neg (fun z => h.1 (Sum.inr.inj z).symm)]
        exact ih h.2
    have ih := merge_cs g r (acc ++ [x]) (by simpa using nd)
    show mergeK (putK (acc.map fun x => ((.inr x.1 : Key), g x)) (.inr x.1) (g x)) (r.map fun x => ((.inr x.1 : Key), g x)) = _
    rw [putK_new _ (h0 acc hn)]
    simpa using ih
/-- a drawn plain, apart from the list at D and the pen -/
def PlainX (pen D : Addr) (H : Hp) (t : Addr) (e : EndD) : Prop := ∃ cl ll, PlainA H t cl ll e ∧ cl ≠ D ∧ ll ≠ D ∧ cl ≠ pen ∧ ll ≠ pen
theorem PlainX.keep {pen D : Addr} {H H' : Hp} {t : Addr} {e : EndD} (p : PlainX pen D H t e) (k : Keep [pen, D] H H') (hp : ∀ xs, H pen ≠ some (.tup xs)) (hD : ∀ xs, H D ≠ some (.tup xs)) : PlainX pen D H' t e := by
  obtain ⟨cl, ll, ⟨cps, ls, lps, h1, h2, h3, h4, h5, h6⟩, n1, n2, n3, n4⟩ := p
  have tk : ∀ {b : Addr} {xs : List V}, H b = some (.tup xs) → H' b = some (.tup xs) := fun {b xs} e => k b _ e (by
    simp only [List.mem_cons, List.not_mem_nil, or_false, not_or]
    exact ⟨fun z => hp xs (by rw [← z]; exact e), fun z => hD xs (by rw [← z]; exact e)⟩)
  exact ⟨cl, ll, ⟨cps, ls, lps, tk h1, k _ _ h2 (by simp; exact ⟨n3, n1⟩), k _ _ h3 (by simp; exact ⟨n4, n2⟩), paired_imp (fun _ _ h => tk h) h4, paired_imp (fun _ _ h => ⟨tk h.1, tk h.2⟩) h5, h6⟩, n1, n2, n3, n4⟩
theorem Pen.notup {H : Hp} {pen sl : Addr} {n : Nat} (P : Pen H pen sl n) : ∀ xs, H pen ≠ some (.tup xs) := fun xs e => by
  obtain ⟨_, _, _, h, _⟩ := P.ex
  rw [h] at e; cases e
theorem paired_mapr {α β γ : Type} {F : α → β → Prop} {G : α → γ → Prop} (f : β → γ) (h : ∀ a b, F a b → G a (f b)) : ∀ {xs : List α} {ys : List β}, Paired F xs ys → Paired G xs (ys.map f)
  | _, _, .nil => .nil
  | _, _, .cons a r => .cons (h _ _ a) (paired_mapr f h r)
theorem if_same {P : Str → Prop} {k : Bool} {a b z : Str} (h : (k = true ∧ a = z) ∨ (k = false ∧ b = z)) (hz : P z) : if k = true then P a else P b := by
  rcases h with ⟨rfl, rfl⟩ | ⟨rfl, rfl⟩
  · exact hz
  · exact hz
theorem endText_pos (e : EndD) : 1 ≤ (endText e).length := by
  have h := PyProof.Rows.len_join_ge_sum " ; " ([headS e.failed] ++ e.cells.map cellS ++ e.logs.map logS)
  simp only [List.map_append, List.map_cons, List.map_nil, List.sum_append, List.sum_cons, List.sum_nil] at h
  have h2 : 1 ≤ (headS e.failed).length := by
    cases e.failed with
    | none => decide +kernel
    | some x =>
      show 1 ≤ (Str.empty ++ "failed " ++ x).length
      rw [app_len, app_len, show ("failed " : Str).length = 7 by decide +kernel]
      omega
  unfold endText
  omega
theorem line_or {es : List EndD} : ((((Txt.join " / " (es.map endText)).length : Int) != 0) = true ∧ Txt.join " / " (es.map endText) = endsText es) ∨ ((((Txt.join " / " (es.map endText)).length : Int) != 0) = false ∧ ("-" : Str) = endsText es) := by
  cases es with
  | nil => exact .inr ⟨by decide +kernel, rfl⟩
  | cons e r =>
    have h := PyProof.Rows.len_join_ge_sum " / " ((e :: r).map endText)
    have h2 := endText_pos e
    simp only [List.map_cons, List.sum_cons] at h
    refine .inl ⟨?_, by unfold endsText; rw [if_neg (by simp)]⟩
    rw [List.map_cons]
    simp only [bne_iff_ne, ne_eq]
    omega
theorem ends_size {es : List EndD} (f : ∀ e ∈ es, FitE e) (h : es.length ≤ 4) : (es.map fun e => (endText e).length).sum + es.length * 3 ≤ 16000000 := by
  have := sum_le (fun e : EndD => (endText e).length) 2000000 es fun e he => (parts_len (f e he)).2
  omega
theorem orS {t u : TT} {σ : L2.St} {H : Hp} {Q : Bool → Hp → Prop} {a b : Bool} (ha : ∀ Q : Bool → Hp → Prop, (∀ H', Same H H' → Q a H') → t σ H Q) (hb : a = false → ∀ H1, Same H H1 → ∀ Q : Bool → Hp → Prop, (∀ H', Same H1 H' → Q b H') → u σ H1 Q) (k : ∀ H', Same H H' → Q (a || b) H') : tOr t u σ H Q := by
  refine ha _ fun H1 s1 => ?_
  cases a with
  | true => exact k H1 s1
  | false => exact hb rfl H1 s1 _ fun H2 s2 => k H2 (s1.trans s2)
theorem dtup_of {K : PySem.W.Frag} {CE t m : Addr} {ps ps' : List Addr} {es : List EndD} {H : Hp} (ht : H t = some (.tup (ps'.map V.ref))) (hm : H m = some (.tup (ps.map V.ref))) (a1 : EndsAt CE H ps' es) (a2 : EndsAt CE H ps es) (fit : ∀ e ∈ es, FitE e) : DTup K (DIns CE (REnd CE)) (.ref t) (.ref m) H := by
  obtain ⟨l1, g1⟩ := a1.get
  obtain ⟨l2, g2⟩ := a2.get
  refine ⟨t, m, _, _, rfl, rfl, SqT.of ht, SqT.of hm, by rw [List.length_map, List.length_map]; omega, fun i x y hx hy => ?_⟩
  have hi1 : i < ps'.length := by have := (List.getElem?_eq_some_iff.mp hx).1; rwa [List.length_map] at this
  have hi2 : i < ps.length := by omega
  have hi3 : i < es.length := by omega
  rw [List.getElem?_map, List.getElem?_eq_getElem hi1] at hx
  rw [List.getElem?_map, List.getElem?_eq_getElem hi2] at hy
  cases hx
  cases hy
  have e1 := g1 i hi3 hi1
  have e2 := g2 i hi3 hi2
  obtain ⟨dx1, _, _, _, _, h1, _⟩ := e1.ex
  obtain ⟨dx2, _, _, _, _, h2, _⟩ := e2.ex
  exact ⟨_, _, dx1, dx2, _, _, rfl, rfl, h1, h2, es[i], e1, e2, fit _ (List.getElem_mem hi3)⟩
def linesL : List Str := ["", " ", "- -", "- done", "done /", "done ;", "done ; x", "done ; x 4", "done ; y 1 ; x 1", "done ; x 1 ; x 1", "failed", "failed put", "done f", "done ; l a ; x 1", "done ; l - a", "done ; x 1 ; x -", "done ; l a 1", "done / / done"]
def duesL : List Int := [0, 0, 1, 1, 2, 2, 3, 3, 6, 5, 1, 1, 1, 6, 4, 5, 4, 2]
theorem lines_due : linesL.map (fun z => dueV (endsM (Txt.split z " "))) = duesL.map V.int := by decide +kernel
theorem lines_ok : ∀ z ∈ linesL, z.length ≤ 40000 ∧ ∀ x ∈ Txt.split z " ", PyData.strOk x = true := by decide +kernel
theorem due_inl {r : Nat ⊕ List EndD} {k : Int} (h : dueV r = .int k) : ∃ n : Nat, r = .inl n ∧ (n : Int) = k := by
  cases r with
  | inl n => exact ⟨n, rfl, by injection h⟩
  | inr es => cases h
theorem pair_ok (k : Int) : DOk 1 (.tuple [.int 0, .int k]) := DOk.tup (n := 0) fun d hd => by
  simp only [List.mem_cons, List.not_mem_nil, or_false] at hd
  rcases hd with rfl | rfl
  · exact .int _
  · exact .int _
theorem one_ok {x : Str} (h : PyData.strOk x = true) : DOk 1 (.list [.str x]) := DOk.list (n := 0) fun d hd => by
  rw [List.mem_singleton.mp hd]
  exact .str h
theorem bent_or {P : Addr → Hp → Prop} {ws : List Str} {q : Addr} {H : Hp} (hq : H q = some (.lst (ws.map V.str))) (h : ∀ (q2 : Addr) (ws2 : List Str) (H2 : Hp), ws2 ≠ [] → Same H H2 → H2 q2 = some (.lst (ws2.map V.str)) → ((q2 = q ∧ ws2 = ws) ∨ (H q2 = none ∧ ws2 = [("" : Str)])) → P q2 H2) :
    if (!(ws.map V.str).isEmpty) = true then P q H else (1 ≤ sizeLine ∧ ∀ p, H p = none → P p (upd H p (.lst [.str ""]))) := by
  refine ite2 (fun z => ?_) fun z => ?_
  · exact h q ws H (fun e => by rw [e] at z; simp at z) (Same.refl _) hq (.inl ⟨rfl, rfl⟩)
  · exact ⟨sz_le (by decide), fun p hp => h p [""] _ (by simp) (same_upd hp) upd_same (.inr ⟨hp, rfl⟩)⟩
def IInv (a pen sl D m : Addr) (Z : Str) (i : Nat) (ps : List Addr) (j : Nat) (σ : L2.St) (H' : Hp) : Prop := ∃ (wl : Addr) (ws : List Str) (v7 v8 v9 : Option V), σ = [some (.ref a), some (.ref pen), some (.int (0 + (i : Int))), some (.ref D), some (.ref m), some (.str Z), some (.ref wl), v7, v8, v9, none, none, none, none, none, none, none] ∧
  H' wl = some (.lst (ws.map V.str)) ∧ wl ≠ pen ∧ ws.length ≤ 400 + j ∧ (∀ x ∈ ws, GoodW x ∧ x.length ≤ 9) ∧ H' m = some (.tup (ps.map V.ref)) ∧ Pen H' pen sl (200 * i + 100 + 3 * j)
def SInv (pen sl : Addr) (n : Nat) (B : Hp) (D : Addr) (i : Nat) (H' : Hp) : Prop := ∃ (ts : List Addr) (es : List EndD), H' D = some (.lst (ts.map V.ref)) ∧ ts.length = i ∧ Paired (PlainX pen D H') ts es ∧ (∀ e ∈ es, PlainOk e) ∧ Pen H' pen sl (n + 20 * i) ∧ D ≠ pen ∧ D ≠ sl
def spLaw (K : PySem.W.Frag) : Sp := fun vs H Q _ => ∃ (a : Addr) (ns : List Int), vs = [.ref a] ∧ SqL K H a (ns.map V.int) ∧ ns.length ≤ 63 ∧ ∀ H', Q (.bl true) H'
def TInv (a pen sl : Addr) (i : Nat) (σ : L2.St) (H' : Hp) : Prop := ∃ v2 v3 v4 v5 v6 v7 v8 v9 : Option V, σ = [some (.ref a), some (.ref pen), v2, v3, v4, v5, v6, v7, v8, v9, none, none, none, none, none, none, none] ∧ Pen H' pen sl (200 * i)
theorem monR {CE : Addr} : ∀ a b H H', Ext H H' → REnd CE a b H → REnd CE a b H' := fun a b H H' e ⟨d, h1, h2, h3⟩ => ⟨d, h1.same e, h2.same e, h3⟩
section
variable {w : World} {K : PySem.W.Frag} {mg : Str → Option Value} {base : Heap} {aK aF CB CP CE CW CL : Addr}
abbrev s_law : Stmt := top 35
theorem sc_law : FnScope ["_law_script", "_law_pen_here", "_law_turn", "_law_some", "_law_made", "_law_line_here", "_law_words", "_law_again", "_law_due_here", "_law_page", "_law_lines", "_law_dues", "_law_gone", "_law_cells_so", "_law_logs_so", "_law_plain_here", "_law_one"] ["_law_script"] (defScope s_law) := ⟨rfl, rfl, rfl, by decide +kernel, rfl, by decide +kernel, by decide +kernel⟩
theorem ok_law {f : Addr} {fd : FuncData} (F : Fun K "law" "law" s_law f fd) (T : Tx K mg aK aF) (D__law_pen : Df PP w K mg base 1 "_law_pen" ["_law_script"] (spPen K)) (D__law_draw : Df PP w K mg base 1 "_law_draw" ["_law_pen_here", "_law_many"] spDraw) (D__law_pick : Df PP w K mg base 2 "_law_pick" ["_law_pen_here", "_law_some"] spPick)
    (D__law_plain : Df PP w K mg base 3 "_law_plain" ["_law_pen_here"] spPlain) (D__law_line : Df PP w K mg base 1 "_law_line" ["_law_plain_here"] spLine) (D_ends_text : Df PP w K mg base 4 "ends_text" ["ends"] (spEnds CE)) (D_read_ends : Df PP w K mg base 9 "read_ends" ["text"] (spReadEnds K CB CE)) (DK_read_ends : DfK PP w K mg base 9 "read_ends" ["text"] ["text"] (spReadEnds K CB CE))
    (S_End : DsC PP w K mg base 1 CE ["self"] (spStr CE)) (C_End : Dc PP w K mg base 2 "End" CE ["self", "failed", "cells", "logs"] (spEI CE)) (D__law_bent : Df PP w K mg base 3 "_law_bent" ["_law_pen_here", "_law_words"] spBent) (D__law_due : Df PP w K mg base 5 "_law_due" ["_law_line_here"] spDue) (D__law_heard : Df PP w K mg base 10 "_law_heard" ["_law_thing"] (spHeard K))
    {fE : Addr} {fdE : FuncData} {psE : List Str} (FE : FnOk PP w K mg base (L2.CX PP w) 1 fE fdE psE (spEq (REnd CE))) (hsE : PySem.W.findIn K (.ref CE) "__eq__" = some (some (.ref fE))) (hfE : PySem.W.isFn K (.ref fE) = true) (hbE : Binds K fdE psE []) :
    FnOk PP w K mg base (L2.CX PP w) 12 f fd ["_law_script"] (spLaw K) := by
  refine F.okX sc_law (fun vs H Q E h => ?_) (fun cdv A outer s H vs Q E hr h => ?_)
  · obtain ⟨a, ns, rfl, _⟩ := h; rfl
  · obtain ⟨a, ns, rfl, ha, hns, k⟩ := h
    refine ⟨_, (pss_cons (ps_set (i := 1) sc_law.nd rfl (Or.inr rfl) (pe_df D__law_pen (hr.mono (by decide)) passL (pa_cons (pv 0) pa_nil)))
      (pss_hid (pss_cons (ps_for (passes_of rfl) rfl (pi_range1 (by rfl) T.range (pa_cons pe_int pa_nil)) (pg_name (i := 2) sc_law.nd rfl (Or.inl rfl)) (pss_cons (ps_setLc (i := 3) (own := [("_law_again", 7)]) (g := gName 7) (tt := tYes) rfl sc_law.nd rfl rfl (sw_true rfl rfl rfl (by decide +kernel)) (pi_range1 (by rfl) T.range (pa_cons (pe_df D__law_draw (hr.mono (by decide)) passL (pa_cons (pv 1) (pa_cons pe_int pa_nil))) pa_nil)) (blkOk_by (N := ["_law_script", "_law_pen_here", "_law_turn", "_law_some", "_law_made", "_law_line_here", "_law_words", "_law_again", "_law_due_here", "_law_page", "_law_lines", "_law_dues", "_law_gone", "_law_cells_so", "_law_logs_so", "_law_plain_here", "_law_one"]) (sc := defScope s_law) (by decide +kernel)) (fun _ _ _ _ _ => pg_name (i := 7) sc_law.nd rfl (Or.inl rfl)) (fun _ _ _ _ _ => pts_nil) (fun _ _ _ _ _ => (pe_df D__law_plain (hr.mono (by decide)) passL (pa_cons (pv 1) pa_nil))))
      (pss_hid (pss_cons (ps_set (i := 4) sc_law.nd rfl (Or.inl rfl) (pe_callTy call_tuple_of (by rfl) T.tuple (by decide +kernel) (pa_cons (pe_lc (own := [("_law_gone", 12), ("_law_cells_so", 13), ("_law_logs_so", 14)]) (tt := tYes) rfl sc_law.nd (pi_list (pv 3)) (blkOk_by (N := ["_law_script", "_law_pen_here", "_law_turn", "_law_some", "_law_made", "_law_line_here", "_law_words", "_law_again", "_law_due_here", "_law_page", "_law_lines", "_law_dues", "_law_gone", "_law_cells_so", "_law_logs_so", "_law_plain_here", "_law_one"]) (sc := defScope s_law) (by decide +kernel)) (fun _ _ _ _ _ => (pg_tupK (K := K) (n := 3) rfl (by rfl) (pgs_cons (pg_name (i := 12) sc_law.nd rfl (Or.inl rfl)) (pgs_cons (pg_name (i := 13) sc_law.nd rfl (Or.inl rfl)) (pgs_cons (pg_name (i := 14) sc_law.nd rfl (Or.inl rfl)) pgs_nil))))) (fun _ _ _ _ _ => pts_nil) (fun _ _ _ _ _ => (pe_dc C_End (hr.mono (by decide)) passL (pa_cons (pv 12) (pa_cons (pe_callTy (call_dictPK (K := K) rfl rfl) (by rfl) T.dict (by decide +kernel) (pa_cons (pv 13) pa_nil)) (pa_cons (pe_callTy (call_dictPK (K := K) rfl rfl) (by rfl) T.dict (by decide +kernel) (pa_cons (pv 14) pa_nil)) pa_nil)))))) pa_nil)))
      (pss_hid (pss_cons (ps_set (i := 5) sc_law.nd rfl (Or.inl rfl) (pe_orT (pe_join pe_str (pe_lc (own := [("_law_plain_here", 15)]) (g := gName 15) (tt := tYes) rfl sc_law.nd (pi_list (pv 3)) (blkOk_by (N := ["_law_script", "_law_pen_here", "_law_turn", "_law_some", "_law_made", "_law_line_here", "_law_words", "_law_again", "_law_due_here", "_law_page", "_law_lines", "_law_dues", "_law_gone", "_law_cells_so", "_law_logs_so", "_law_plain_here", "_law_one"]) (sc := defScope s_law) (by decide +kernel)) (fun _ _ _ _ _ => pg_name (i := 15) sc_law.nd rfl (Or.inl rfl)) (fun _ _ _ _ _ => pts_nil) (fun _ _ _ _ _ => (pe_df D__law_line (hr.mono (by decide)) passL (pa_cons (pv 15) pa_nil))))) (pe_one pe_str)))
      (pss_hid (pss_cons (ps_if (PW.pt (pw_or (pt_cmpR op_ne (pe_df D_ends_text (hr.mono (by decide)) passL (pa_cons (pv 4) pa_nil)) (pv 5) (nomark _)) (pw_or (pt_cmpR (op_neTup (mon_ins monR) (eqG_ins FE hsE hfE hbE passL) (hr.mono (by decide))) (pe_df D_read_ends (hr.mono (by decide)) (passE (E := E)) (pa_cons (pv 5) pa_nil)) (pv 4) (nomark _)) (pw_or1 (pt_cmpR (op_neTup (mon_ins monR) (eqG_ins FE hsE hfE hbE passL) (hr.mono (by decide))) (pe_dk DK_read_ends (hr.mono (by decide)) passL (pk_cons (pv 5) pk_nil)) (pv 4) (nomark _)))))) (pss_one (ps_ret pe_bl)) pss_nil)
      (pss_hid (pss_cons (ps_if (PW.pt (pw_or (pt_cmpR (op_neD hr.units) (pe_lc (own := [("_law_one", 16)]) (g := gName 16) (tt := tYes) rfl sc_law.nd (pi_tup (pv 4)) (blkOk_by (N := ["_law_script", "_law_pen_here", "_law_turn", "_law_some", "_law_made", "_law_line_here", "_law_words", "_law_again", "_law_due_here", "_law_page", "_law_lines", "_law_dues", "_law_gone", "_law_cells_so", "_law_logs_so", "_law_plain_here", "_law_one"]) (sc := defScope s_law) (by decide +kernel)) (fun _ _ _ _ _ => pg_name (i := 16) sc_law.nd rfl (Or.inl rfl)) (fun _ _ _ _ _ => pts_nil) (fun _ _ _ _ _ => (pe_callTy (call_strO S_End (hr.mono (by decide))) (by rfl) T.str (by decide +kernel) (pa_cons (pv 16) pa_nil)))) (pe_lc (own := [("_law_plain_here", 15)]) (g := gName 15) (tt := tYes) rfl sc_law.nd (pi_list (pv 3)) (blkOk_by (N := ["_law_script", "_law_pen_here", "_law_turn", "_law_some", "_law_made", "_law_line_here", "_law_words", "_law_again", "_law_due_here", "_law_page", "_law_lines", "_law_dues", "_law_gone", "_law_cells_so", "_law_logs_so", "_law_plain_here", "_law_one"]) (sc := defScope s_law) (by decide +kernel)) (fun _ _ _ _ _ => pg_name (i := 15) sc_law.nd rfl (Or.inl rfl)) (fun _ _ _ _ _ => pts_nil) (fun _ _ _ _ _ => (pe_df D__law_line (hr.mono (by decide)) passL (pa_cons (pv 15) pa_nil)))) (nomark _)) (pw_or1 (pt_not (pt_val (pe_callB call_isi (by rfl) T.isinstance (by decide +kernel) (pa_cons (pe_df D_read_ends (hr.mono (by decide)) (passE (E := E)) (pa_cons (pv 5) pa_nil)) (pa_cons (pe_bltn (v := .ty "tuple") (by rfl) T.tuple (by decide +kernel) rfl) pa_nil)))))))) (pss_one (ps_ret pe_bl)) pss_nil)
      (pss_hid (pss_cons (ps_set (i := 6) sc_law.nd rfl (Or.inl rfl) (pe_split (pv 5) pe_str))
      (pss_hid (pss_cons (ps_for (passes_of rfl) rfl (pi_range1 (by rfl) T.range (pa_cons pe_int pa_nil)) (pg_name (i := 7) sc_law.nd rfl (Or.inl rfl)) (pss_cons (ps_set (i := 6) sc_law.nd rfl (Or.inl rfl) (pe_orT (pe_df D__law_bent (hr.mono (by decide)) passL (pa_cons (pv 1) (pa_cons (pv 6) pa_nil))) (pe_one (pe_lst (pa_cons pe_str pa_nil)))))
      (pss_hid (pss_cons (ps_par (i := 8) (j := 9) (by rfl) sc_law.nd rfl rfl (by decide) rfl rfl (pa_cons (pe_df D__law_due (hr.mono (by decide)) passL (pa_cons (pe_join pe_str (pv 6)) pa_nil)) (pa_cons (pe_join pe_str (pv 6)) pa_nil)) (by rfl))
      (pss_hid (pss_one (ps_if (pt_cmpR (op_neD hr.units) (pe_df D__law_heard (hr.mono (by decide)) passL (pa_cons (pv 9) pa_nil)) (pe_ifExp (pt_cmpR op_isN (pv 8) pe_non (nomark _)) (pe_lst (pa_cons (pv 9) pa_nil)) (pe_tup (pa_cons pe_int (pa_cons (pv 8) pa_nil)))) (nomark _)) (pss_one (ps_ret pe_bl)) pss_nil)))))))
      (pss_hid (pss_one (ps_if (pt_cmpR (op_neD hr.units) (pe_df D__law_heard (hr.mono (by decide)) passL (pa_cons (pe_df D__law_pick (hr.mono (by decide)) passL (pa_cons (pv 1) (pa_cons (pe_lst (pa_cons pe_non (pa_cons pe_int (pa_cons pe_bl (pa_cons (pe_tup pa_nil) (pa_cons (pe_lst (pa_cons (pv 5) pa_nil)) (pa_cons (pe_tup (pa_cons (pv 5) pa_nil)) (pa_cons pe_dnewK (pa_cons (pv 4) pa_nil))))))))) pa_nil))) pa_nil)) (pe_tup (pa_cons pe_int (pa_cons pe_int pa_nil))) (nomark _)) (pss_one (ps_ret pe_bl)) pss_nil)))))))))))))))))
      (pss_hid (pss_cons (ps_set (i := 10) sc_law.nd rfl (Or.inl rfl) (pe_lst (pa_cons pe_str (pa_cons pe_str (pa_cons pe_str (pa_cons pe_str (pa_cons pe_str (pa_cons pe_str (pa_cons pe_str (pa_cons pe_str (pa_cons pe_str (pa_cons pe_str (pa_cons pe_str pa_nil)))))))))))))
      (pss_hid (pss_cons (ps_set (i := 10) sc_law.nd rfl (Or.inl rfl) (pe_op op_cat (pv 10) (pe_lst (pa_cons pe_str (pa_cons pe_str (pa_cons pe_str (pa_cons pe_str (pa_cons pe_str (pa_cons pe_str (pa_cons pe_str pa_nil))))))))))
      (pss_hid (pss_cons (ps_set (i := 11) sc_law.nd rfl (Or.inl rfl) (pe_lst (pa_cons pe_int (pa_cons pe_int (pa_cons pe_int (pa_cons pe_int (pa_cons pe_int (pa_cons pe_int (pa_cons pe_int (pa_cons pe_int (pa_cons pe_int (pa_cons pe_int (pa_cons pe_int (pa_cons pe_int (pa_cons pe_int (pa_cons pe_int (pa_cons pe_int (pa_cons pe_int (pa_cons pe_int (pa_cons pe_int pa_nil))))))))))))))))))))
      (pss_hid (pss_one (ps_ret (pe_and (pe_cmpR (op_eqD hr.units) (pe_lc (own := [("_law_line_here", 5)]) (g := gName 5) (tt := tYes) rfl sc_law.nd (pi_list (pv 10)) (blkOk_by (N := ["_law_script", "_law_pen_here", "_law_turn", "_law_some", "_law_made", "_law_line_here", "_law_words", "_law_again", "_law_due_here", "_law_page", "_law_lines", "_law_dues", "_law_gone", "_law_cells_so", "_law_logs_so", "_law_plain_here", "_law_one"]) (sc := defScope s_law) (by decide +kernel)) (fun _ _ _ _ _ => pg_name (i := 5) sc_law.nd rfl (Or.inl rfl)) (fun _ _ _ _ _ => pts_nil) (fun _ _ _ _ _ => (pe_df D__law_due (hr.mono (by decide)) passL (pa_cons (pv 5) pa_nil)))) (pv 11) (nomark _)) (pe_one (pe_cmpR (op_eqD hr.units) (pe_lc (own := [("_law_line_here", 5)]) (g := gName 5) (tt := tYes) rfl sc_law.nd (pi_list (pv 10)) (blkOk_by (N := ["_law_script", "_law_pen_here", "_law_turn", "_law_some", "_law_made", "_law_line_here", "_law_words", "_law_again", "_law_due_here", "_law_page", "_law_lines", "_law_dues", "_law_gone", "_law_cells_so", "_law_logs_so", "_law_plain_here", "_law_one"]) (sc := defScope s_law) (by decide +kernel)) (fun _ _ _ _ _ => pg_name (i := 5) sc_law.nd rfl (Or.inl rfl)) (fun _ _ _ _ _ => pts_nil) (fun _ _ _ _ _ => (pe_df D__law_heard (hr.mono (by decide)) passL (pa_cons (pv 5) pa_nil)))) (pe_lc (own := [("_law_due_here", 8)]) (g := gName 8) (tt := tYes) rfl sc_law.nd (pi_list (pv 11)) (blkOk_by (N := ["_law_script", "_law_pen_here", "_law_turn", "_law_some", "_law_made", "_law_line_here", "_law_words", "_law_again", "_law_due_here", "_law_page", "_law_lines", "_law_dues", "_law_gone", "_law_cells_so", "_law_logs_so", "_law_plain_here", "_law_one"]) (sc := defScope s_law) (by decide +kernel)) (fun _ _ _ _ _ => pg_name (i := 8) sc_law.nd rfl (Or.inl rfl)) (fun _ _ _ _ _ => pts_nil) (fun _ _ _ _ _ => (pe_tup (pa_cons pe_int (pa_cons (pv 8) pa_nil))))) (nomark _)))))))))))))))), ?_⟩
    simp only [tSeq, tIfS, tOr, tAnd, tNot, tB, tTest, tCB, tCons, tNil, tVar, tC, tOp, tUn, tRet, tRetN, tDrop, tAsg, tPar, tPar3, tNext, tNever, tBreak, tCont, tAug, tChain, tAndV, tOrV, tNotV, tIf, tIsN, tNotN, tTup, tLst, tCallD, tMethD, tMakeD, tFld, tCon, sFld, sFldAug, tCallK, tSl, tPart, tNoPart, tBM, tBM0, tDGet, tDIn, tDNotIn, sDPut, tDNewK, tM0, tM1, tOrT, tAndT, tNotT, tAsg2, tAsg3, gName, rI0, rI, rU, tYes, L2.start, NdefX.startF, List.set_cons_zero, List.set_cons_succ, List.map_cons, List.map_nil, List.length_cons, List.length_nil, Nat.sub_zero, Nat.reduceSub, Nat.reduceAdd, List.replicate_succ, List.replicate_zero, List.cons_append, List.nil_append, List.append_nil, List.getElem?_cons_zero, List.getElem?_cons_succ, Option.some.injEq, exists_eq_left', exists_eq_left, exists_eq_right, exists_eq_right', exists_and_left, exists_and_right, exists_eq, exists_eq', true_and, and_true, V.int.injEq, V.str.injEq, V.bl.injEq, V.ref.injEq, V.ty.injEq, HO.ins.injEq, HO.lst.injEq, HO.tup.injEq, and_assoc, List.cons.injEq, Bool.not_true, Bool.not_false, Bool.false_eq_true, if_false, if_true, cx_K, upd_same, upd_upd, isi_str, req_ii, req_ss, rne_ii, rne_ss, radd_ii, rsub_ii, atI_at, atI_0, atI_1, atI_2, atI_3, atI_4, rLenL, rLenU, rIxLL, rIxU, reduceCtorEq, gTup, gCons, gNil, tFmt_eq, fmtV_str, fmtV_int, tJs_nil, tJs_cons, jsV_str, iKeys_eq, gSub, rSetL, tPart, tNoPart, tSl, rSlL, false_and, exists_false, or_false, false_or, List.set_cons_zero, List.set_cons_succ]
    refine ⟨a, ns, rfl, ha, hns, fun pen sl H1 s1 hp0 hs0 P1 => ?_⟩
    refine hid_in ?_
    refine tFor_it (walk_range (lo := 0) (n := 6)) (fun R h => ⟨6, rfl, by omega, by omega, h⟩) (TInv a pen sl) ⟨_, _, _, _, _, _, _, _, rfl, P1⟩ (fun _ _ _ _ _ => trivial) (fun i x σ H2 H3 hi p y => ?_) fun σ H2 p => ?_
    · obtain ⟨v2, v3, v4, v5, v6, v7, v8, v9, rfl, P2⟩ := p
      obtain ⟨rfl, rfl⟩ := y
      simp only [tSeq, tIfS, tOr, tAnd, tNot, tB, tTest, tCB, tCons, tNil, tVar, tC, tOp, tUn, tRet, tRetN, tDrop, tAsg, tPar, tPar3, tNext, tNever, tBreak, tCont, tAug, tChain, tAndV, tOrV, tNotV, tIf, tIsN, tNotN, tTup, tLst, tCallD, tMethD, tMakeD, tFld, tCon, sFld, sFldAug, tCallK, tSl, tPart, tNoPart, tBM, tBM0, tDGet, tDIn, tDNotIn, sDPut, tDNewK, tM0, tM1, tOrT, tAndT, tNotT, tAsg2, tAsg3, gName, rI0, rI, rU, tYes, L2.start, NdefX.startF, List.set_cons_zero, List.set_cons_succ, List.map_cons, List.map_nil, List.length_cons, List.length_nil, Nat.sub_zero, Nat.reduceSub, Nat.reduceAdd, List.replicate_succ, List.replicate_zero, List.cons_append, List.nil_append, List.append_nil, List.getElem?_cons_zero, List.getElem?_cons_succ, Option.some.injEq, exists_eq_left', exists_eq_left, exists_eq_right, exists_eq_right', exists_and_left, exists_and_right, exists_eq, exists_eq', true_and, and_true, V.int.injEq, V.str.injEq, V.bl.injEq, V.ref.injEq, V.ty.injEq, HO.ins.injEq, HO.lst.injEq, HO.tup.injEq, and_assoc, List.cons.injEq, Bool.not_true, Bool.not_false, Bool.false_eq_true, if_false, if_true, cx_K, upd_same, upd_upd, isi_str, req_ii, req_ss, rne_ii, rne_ss, radd_ii, rsub_ii, atI_at, atI_0, atI_1, atI_2, atI_3, atI_4, rLenL, rLenU, rIxLL, rIxU, reduceCtorEq, gTup, gCons, gNil, tFmt_eq, fmtV_str, fmtV_int, tJs_nil, tJs_cons, jsV_str, iKeys_eq, gSub, rSetL, tPart, tNoPart, tSl, rSlL, false_and, exists_false, or_false, false_or, List.set_cons_zero, List.set_cons_succ]
      refine tLc_mk (S := fun J H4 => ∃ r : Nat, r < 5 ∧ J = Itr 0 r ∧ Pen H4 pen sl (200 * i + 1)) (fun R h => ?_) ?_
      · simp only [tSeq, tIfS, tOr, tAnd, tNot, tB, tTest, tCB, tCons, tNil, tVar, tC, tOp, tUn, tRet, tRetN, tDrop, tAsg, tPar, tPar3, tNext, tNever, tBreak, tCont, tAug, tChain, tAndV, tOrV, tNotV, tIf, tIsN, tNotN, tTup, tLst, tCallD, tMethD, tMakeD, tFld, tCon, sFld, sFldAug, tCallK, tSl, tPart, tNoPart, tBM, tBM0, tDGet, tDIn, tDNotIn, sDPut, tDNewK, tM0, tM1, tOrT, tAndT, tNotT, tAsg2, tAsg3, gName, rI0, rI, rU, tYes, L2.start, NdefX.startF, List.set_cons_zero, List.set_cons_succ, List.map_cons, List.map_nil, List.length_cons, List.length_nil, Nat.sub_zero, Nat.reduceSub, Nat.reduceAdd, List.replicate_succ, List.replicate_zero, List.cons_append, List.nil_append, List.append_nil, List.getElem?_cons_zero, List.getElem?_cons_succ, Option.some.injEq, exists_eq_left', exists_eq_left, exists_eq_right, exists_eq_right', exists_and_left, exists_and_right, exists_eq, exists_eq', true_and, and_true, V.int.injEq, V.str.injEq, V.bl.injEq, V.ref.injEq, V.ty.injEq, HO.ins.injEq, HO.lst.injEq, HO.tup.injEq, and_assoc, List.cons.injEq, Bool.not_true, Bool.not_false, Bool.false_eq_true, if_false, if_true, cx_K, upd_same, upd_upd, isi_str, req_ii, req_ss, rne_ii, rne_ss, radd_ii, rsub_ii, atI_at, atI_0, atI_1, atI_2, atI_3, atI_4, rLenL, rLenU, rIxLL, rIxU, reduceCtorEq, gTup, gCons, gNil, tFmt_eq, fmtV_str, fmtV_int, tJs_nil, tJs_cons, jsV_str, iKeys_eq, gSub, rSetL, tPart, tNoPart, tSl, rSlL, false_and, exists_false, or_false, false_or, List.set_cons_zero, List.set_cons_succ, iRng1]
        exact ⟨pen, sl, _, 5, rfl, P2, by omega, by decide, by decide, fun r H4 hr4 _ P4 => ⟨_, rfl, by omega, by omega, h _ _ ⟨r, hr4, by rw [Int.toNat_natCast], P4⟩⟩⟩
      rintro J H4 ⟨r, hr5, rfl, P4⟩
      obtain ⟨_, _, _, hpen4, hsl4, _⟩ := P4.ex
      refine tLcIf_it (walk_range (lo := 0) (n := r)) (fun R h => h) (SInv pen sl (200 * i + 1) H4) (fun D hD => ⟨[], [], upd_same, rfl, .nil, (fun _ h => nomatch h), P4.new hD, (ne_of_none hpen4 hD).symm, (ne_of_none hsl4 hD).symm⟩) (fun _ _ _ _ _ => trivial) (fun D j x Ha Hb hj p y => ?_) fun D H5 hD p => ?_
      · obtain ⟨ts, es, q1, q2, q3, q4, q5, q6, q7⟩ := p
        obtain ⟨rfl, rfl⟩ := y
        simp only [tSeq, tIfS, tOr, tAnd, tNot, tB, tTest, tCB, tCons, tNil, tVar, tC, tOp, tUn, tRet, tRetN, tDrop, tAsg, tPar, tPar3, tNext, tNever, tBreak, tCont, tAug, tChain, tAndV, tOrV, tNotV, tIf, tIsN, tNotN, tTup, tLst, tCallD, tMethD, tMakeD, tFld, tCon, sFld, sFldAug, tCallK, tSl, tPart, tNoPart, tBM, tBM0, tDGet, tDIn, tDNotIn, sDPut, tDNewK, tM0, tM1, tOrT, tAndT, tNotT, tAsg2, tAsg3, gName, rI0, rI, rU, tYes, L2.start, NdefX.startF, List.set_cons_zero, List.set_cons_succ, List.map_cons, List.map_nil, List.length_cons, List.length_nil, Nat.sub_zero, Nat.reduceSub, Nat.reduceAdd, List.replicate_succ, List.replicate_zero, List.cons_append, List.nil_append, List.append_nil, List.getElem?_cons_zero, List.getElem?_cons_succ, Option.some.injEq, exists_eq_left', exists_eq_left, exists_eq_right, exists_eq_right', exists_and_left, exists_and_right, exists_eq, exists_eq', true_and, and_true, V.int.injEq, V.str.injEq, V.bl.injEq, V.ref.injEq, V.ty.injEq, HO.ins.injEq, HO.lst.injEq, HO.tup.injEq, and_assoc, List.cons.injEq, Bool.not_true, Bool.not_false, Bool.false_eq_true, if_false, if_true, cx_K, upd_same, upd_upd, isi_str, req_ii, req_ss, rne_ii, rne_ss, radd_ii, rsub_ii, atI_at, atI_0, atI_1, atI_2, atI_3, atI_4, rLenL, rLenU, rIxLL, rIxU, reduceCtorEq, gTup, gCons, gNil, tFmt_eq, fmtV_str, fmtV_int, tJs_nil, tJs_cons, jsV_str, iKeys_eq, gSub, rSetL, tPart, tNoPart, tSl, rSlL, false_and, exists_false, or_false, false_or, List.set_cons_zero, List.set_cons_succ, wipe]
        refine ⟨pen, sl, 200 * i + 1 + 20 * j, rfl, q5, by omega, fun t cl ll e Hc kc ht hcl hll Pc at_ ok => ?_⟩
        have qc := kc _ _ q1 (by simpa using q6)
        have ncl : cl ≠ D := (ne_of_none q1 hcl).symm
        have nll : ll ≠ D := (ne_of_none q1 hll).symm
        obtain ⟨_, _, _, hpb, _⟩ := q5.ex
        have ncp : cl ≠ pen := (ne_of_none hpb hcl).symm
        have nlp : ll ≠ pen := (ne_of_none hpb hll).symm
        have noD : ∀ {Hx : Hp} {l : List V}, Hx D = some (.lst l) → ∀ xs, Hx D ≠ some (.tup xs) := fun {Hx l} h xs e => by rw [h] at e; cases e
        have kb : Keep [pen, D] Hb Hc := kc.mono (by simp)
        have pc : Paired (PlainX pen D Hc) ts es := paired_imp (fun _ _ h => h.keep kb q5.notup (noD q1)) q3
        have px : PlainX pen D Hc t e := ⟨cl, ll, at_, ncl, nll, ncp, nlp⟩
        have ku : Keep [pen, D] Hc (upd Hc D (.lst (ts.map V.ref ++ [V.ref t]))) := keep_upd.mono (by simp)
        refine ⟨_, qc, sz_lt (by rw [List.length_map]; omega), ts ++ [t], es ++ [e], by rw [upd_same, List.map_append]; rfl, by simp [q2], ?_, ?_, (Pc.at_ q6 q7).mono (by omega) (by omega), q6, q7⟩
        · exact (paired_imp (fun _ _ h => h.keep ku Pc.notup (noD qc)) pc).snoc (px.keep ku Pc.notup (noD qc))
        · intro e' he'
          rcases List.mem_append.mp he' with h | h
          · exact q4 e' h
          · rw [List.mem_singleton.mp h]; exact ok
      · obtain ⟨ts, es, q1, q2, q3, q4, q5, q6, q7⟩ := p
        have v : ∀ e ∈ es, Valid e := fun e he => plain_valid (q4 e he)
        have fit : ∀ e ∈ es, FitE e := fun e he => plain_fit (q4 e he)
        obtain ⟨hlen, hget⟩ := pget q3
        have hes : es.length ≤ 4 := by omega
        have P5 : Pen H5 pen sl (200 * i + 100) := q5.mono (by omega) (by omega)
        have noD : ∀ {Hx : Hp} {l : List V}, Hx D = some (.lst l) → ∀ xs, Hx D ≠ some (.tup xs) := fun {Hx l} h xs e => by rw [h] at e; cases e
        clear q5
        refine hid_in ?_
        simp only [tSeq, tIfS, tOr, tAnd, tNot, tB, tTest, tCB, tCons, tNil, tVar, tC, tOp, tUn, tRet, tRetN, tDrop, tAsg, tPar, tPar3, tNext, tNever, tBreak, tCont, tAug, tChain, tAndV, tOrV, tNotV, tIf, tIsN, tNotN, tTup, tLst, tCallD, tMethD, tMakeD, tFld, tCon, sFld, sFldAug, tCallK, tSl, tPart, tNoPart, tBM, tBM0, tDGet, tDIn, tDNotIn, sDPut, tDNewK, tM0, tM1, tOrT, tAndT, tNotT, tAsg2, tAsg3, gName, rI0, rI, rU, tYes, L2.start, NdefX.startF, List.set_cons_zero, List.set_cons_succ, List.map_cons, List.map_nil, List.length_cons, List.length_nil, Nat.sub_zero, Nat.reduceSub, Nat.reduceAdd, List.replicate_succ, List.replicate_zero, List.cons_append, List.nil_append, List.append_nil, List.getElem?_cons_zero, List.getElem?_cons_succ, Option.some.injEq, exists_eq_left', exists_eq_left, exists_eq_right, exists_eq_right', exists_and_left, exists_and_right, exists_eq, exists_eq', true_and, and_true, V.int.injEq, V.str.injEq, V.bl.injEq, V.ref.injEq, V.ty.injEq, HO.ins.injEq, HO.lst.injEq, HO.tup.injEq, and_assoc, List.cons.injEq, Bool.not_true, Bool.not_false, Bool.false_eq_true, if_false, if_true, cx_K, upd_same, upd_upd, isi_str, req_ii, req_ss, rne_ii, rne_ss, radd_ii, rsub_ii, atI_at, atI_0, atI_1, atI_2, atI_3, atI_4, rLenL, rLenU, rIxLL, rIxU, reduceCtorEq, gTup, gCons, gNil, tFmt_eq, fmtV_str, fmtV_int, tJs_nil, tJs_cons, jsV_str, iKeys_eq, gSub, rSetL, tPart, tNoPart, tSl, rSlL, false_and, exists_false, or_false, false_or, List.set_cons_zero, List.set_cons_succ]
        refine tLcIf_it (walk_list (xs := ts.map V.ref)) (hw_lst (fun Q q => ⟨_, rfl, q⟩) q1) (fun D2 j H' => ∃ ps : List Addr, H' D2 = some (.lst (ps.map V.ref)) ∧ ps.length = j ∧ EndsAt CE H' ps (es.take j) ∧ Same H5 H' ∧ H5 D2 = none)
          (fun D2 hD2 => ⟨[], upd_same, rfl, .nil, same_upd hD2, hD2⟩) (fun D2 j H' _ p => ?_) (fun D2 j x Ha Hb hj p y => ?_) fun D2 H6 hD2 p => ?_
        · obtain ⟨ps, _, _, _, s5, _⟩ := p
          exact SqL.of (s5 _ _ q1)
        · obtain ⟨ps, w1, w2, w3, w4, w5⟩ := p
          obtain ⟨rfl, hx⟩ := y
          simp only [List.length_map] at hj
          simp only [List.getElem?_map, List.getElem?_eq_getElem hj, Option.map_some, Option.some.injEq] at hx
          subst hx
          have hj2 : j < es.length := by omega
          obtain ⟨cl, ll, ⟨cps, ls, lps, g1, g2, g3, g4, g5, g6⟩, _⟩ := hget j hj hj2
          have vj := v _ (List.getElem_mem hj2)
          have fj := fit _ (List.getElem_mem hj2)
          simp only [tSeq, tIfS, tOr, tAnd, tNot, tB, tTest, tCB, tCons, tNil, tVar, tC, tOp, tUn, tRet, tRetN, tDrop, tAsg, tPar, tPar3, tNext, tNever, tBreak, tCont, tAug, tChain, tAndV, tOrV, tNotV, tIf, tIsN, tNotN, tTup, tLst, tCallD, tMethD, tMakeD, tFld, tCon, sFld, sFldAug, tCallK, tSl, tPart, tNoPart, tBM, tBM0, tDGet, tDIn, tDNotIn, sDPut, tDNewK, tM0, tM1, tOrT, tAndT, tNotT, tAsg2, tAsg3, gName, rI0, rI, rU, tYes, L2.start, NdefX.startF, List.set_cons_zero, List.set_cons_succ, List.map_cons, List.map_nil, List.length_cons, List.length_nil, Nat.sub_zero, Nat.reduceSub, Nat.reduceAdd, List.replicate_succ, List.replicate_zero, List.cons_append, List.nil_append, List.append_nil, List.getElem?_cons_zero, List.getElem?_cons_succ, Option.some.injEq, exists_eq_left', exists_eq_left, exists_eq_right, exists_eq_right', exists_and_left, exists_and_right, exists_eq, exists_eq', true_and, and_true, V.int.injEq, V.str.injEq, V.bl.injEq, V.ref.injEq, V.ty.injEq, HO.ins.injEq, HO.lst.injEq, HO.tup.injEq, and_assoc, List.cons.injEq, Bool.not_true, Bool.not_false, Bool.false_eq_true, if_false, if_true, cx_K, upd_same, upd_upd, isi_str, req_ii, req_ss, rne_ii, rne_ss, radd_ii, rsub_ii, atI_at, atI_0, atI_1, atI_2, atI_3, atI_4, rLenL, rLenU, rIxLL, rIxU, reduceCtorEq, gTup, gCons, gNil, tFmt_eq, fmtV_str, fmtV_int, tJs_nil, tJs_cons, jsV_str, iKeys_eq, gSub, rSetL, tPart, tNoPart, tSl, rSlL, false_and, exists_false, or_false, false_or, List.set_cons_zero, List.set_cons_succ, wipe]
          refine ⟨_, SqT.of (w4 _ _ g1), rfl, ?_⟩
          simp only [tSeq, tIfS, tOr, tAnd, tNot, tB, tTest, tCB, tCons, tNil, tVar, tC, tOp, tUn, tRet, tRetN, tDrop, tAsg, tPar, tPar3, tNext, tNever, tBreak, tCont, tAug, tChain, tAndV, tOrV, tNotV, tIf, tIsN, tNotN, tTup, tLst, tCallD, tMethD, tMakeD, tFld, tCon, sFld, sFldAug, tCallK, tSl, tPart, tNoPart, tBM, tBM0, tDGet, tDIn, tDNotIn, sDPut, tDNewK, tM0, tM1, tOrT, tAndT, tNotT, tAsg2, tAsg3, gName, rI0, rI, rU, tYes, L2.start, NdefX.startF, List.set_cons_zero, List.set_cons_succ, List.map_cons, List.map_nil, List.length_cons, List.length_nil, Nat.sub_zero, Nat.reduceSub, Nat.reduceAdd, List.replicate_succ, List.replicate_zero, List.cons_append, List.nil_append, List.append_nil, List.getElem?_cons_zero, List.getElem?_cons_succ, Option.some.injEq, exists_eq_left', exists_eq_left, exists_eq_right, exists_eq_right', exists_and_left, exists_and_right, exists_eq, exists_eq', true_and, and_true, V.int.injEq, V.str.injEq, V.bl.injEq, V.ref.injEq, V.ty.injEq, HO.ins.injEq, HO.lst.injEq, HO.tup.injEq, and_assoc, List.cons.injEq, Bool.not_true, Bool.not_false, Bool.false_eq_true, if_false, if_true, cx_K, upd_same, upd_upd, isi_str, req_ii, req_ss, rne_ii, rne_ss, radd_ii, rsub_ii, atI_at, atI_0, atI_1, atI_2, atI_3, atI_4, rLenL, rLenU, rIxLL, rIxU, reduceCtorEq, gTup, gCons, gNil, tFmt_eq, fmtV_str, fmtV_int, tJs_nil, tJs_cons, jsV_str, iKeys_eq, gSub, rSetL, tPart, tNoPart, tSl, rSlL, false_and, exists_false, or_false, false_or, List.set_cons_zero, List.set_cons_succ]
          have mc : mergeK [] (cK (es[j]).cells) = cK (es[j]).cells := merge_cs (fun x => V.int x.2) (es[j]).cells [] (by simpa using fj.dc)
          have ml : mergeK [] (lK ls) = lK ls := merge_cs (fun x : Str × Addr × List Str => V.ref x.2.1) ls [] (by rw [List.nil_append, ← lD_fst, g6]; exact fj.dl)
          refine ⟨cl, cps, cK (es[j]).cells, rfl, SqL.of (w4 _ _ g2), paired_mapr (fun x : Str × Int => ((.inr x.1 : Key), V.int x.2)) (fun p x h => SqT.of (w4 _ _ h)) g4, fun c hc => ?_⟩
          rw [mc]
          have sc1 := same_upd (o := .dK (cK (es[j]).cells)) hc
          simp only [tSeq, tIfS, tOr, tAnd, tNot, tB, tTest, tCB, tCons, tNil, tVar, tC, tOp, tUn, tRet, tRetN, tDrop, tAsg, tPar, tPar3, tNext, tNever, tBreak, tCont, tAug, tChain, tAndV, tOrV, tNotV, tIf, tIsN, tNotN, tTup, tLst, tCallD, tMethD, tMakeD, tFld, tCon, sFld, sFldAug, tCallK, tSl, tPart, tNoPart, tBM, tBM0, tDGet, tDIn, tDNotIn, sDPut, tDNewK, tM0, tM1, tOrT, tAndT, tNotT, tAsg2, tAsg3, gName, rI0, rI, rU, tYes, L2.start, NdefX.startF, List.set_cons_zero, List.set_cons_succ, List.map_cons, List.map_nil, List.length_cons, List.length_nil, Nat.sub_zero, Nat.reduceSub, Nat.reduceAdd, List.replicate_succ, List.replicate_zero, List.cons_append, List.nil_append, List.append_nil, List.getElem?_cons_zero, List.getElem?_cons_succ, Option.some.injEq, exists_eq_left', exists_eq_left, exists_eq_right, exists_eq_right', exists_and_left, exists_and_right, exists_eq, exists_eq', true_and, and_true, V.int.injEq, V.str.injEq, V.bl.injEq, V.ref.injEq, V.ty.injEq, HO.ins.injEq, HO.lst.injEq, HO.tup.injEq, and_assoc, List.cons.injEq, Bool.not_true, Bool.not_false, Bool.false_eq_true, if_false, if_true, cx_K, upd_same, upd_upd, isi_str, req_ii, req_ss, rne_ii, rne_ss, radd_ii, rsub_ii, atI_at, atI_0, atI_1, atI_2, atI_3, atI_4, rLenL, rLenU, rIxLL, rIxU, reduceCtorEq, gTup, gCons, gNil, tFmt_eq, fmtV_str, fmtV_int, tJs_nil, tJs_cons, jsV_str, iKeys_eq, gSub, rSetL, tPart, tNoPart, tSl, rSlL, false_and, exists_false, or_false, false_or, List.set_cons_zero, List.set_cons_succ]
          refine ⟨ll, lps, lK ls, rfl, SqL.of (sc1 _ _ (w4 _ _ g3)), paired_mapr (fun x : Str × Addr × List Str => ((.inr x.1 : Key), V.ref x.2.1)) (fun p x h => SqT.of (sc1 _ _ (w4 _ _ h.1))) g5, fun l hl => ?_⟩
          rw [ml]
          simp only [tSeq, tIfS, tOr, tAnd, tNot, tB, tTest, tCB, tCons, tNil, tVar, tC, tOp, tUn, tRet, tRetN, tDrop, tAsg, tPar, tPar3, tNext, tNever, tBreak, tCont, tAug, tChain, tAndV, tOrV, tNotV, tIf, tIsN, tNotN, tTup, tLst, tCallD, tMethD, tMakeD, tFld, tCon, sFld, sFldAug, tCallK, tSl, tPart, tNoPart, tBM, tBM0, tDGet, tDIn, tDNotIn, sDPut, tDNewK, tM0, tM1, tOrT, tAndT, tNotT, tAsg2, tAsg3, gName, rI0, rI, rU, tYes, L2.start, NdefX.startF, List.set_cons_zero, List.set_cons_succ, List.map_cons, List.map_nil, List.length_cons, List.length_nil, Nat.sub_zero, Nat.reduceSub, Nat.reduceAdd, List.replicate_succ, List.replicate_zero, List.cons_append, List.nil_append, List.append_nil, List.getElem?_cons_zero, List.getElem?_cons_succ, Option.some.injEq, exists_eq_left', exists_eq_left, exists_eq_right, exists_eq_right', exists_and_left, exists_and_right, exists_eq, exists_eq', true_and, and_true, V.int.injEq, V.str.injEq, V.bl.injEq, V.ref.injEq, V.ty.injEq, HO.ins.injEq, HO.lst.injEq, HO.tup.injEq, and_assoc, List.cons.injEq, Bool.not_true, Bool.not_false, Bool.false_eq_true, if_false, if_true, cx_K, upd_same, upd_upd, isi_str, req_ii, req_ss, rne_ii, rne_ss, radd_ii, rsub_ii, atI_at, atI_0, atI_1, atI_2, atI_3, atI_4, rLenL, rLenU, rIxLL, rIxU, reduceCtorEq, gTup, gCons, gNil, tFmt_eq, fmtV_str, fmtV_int, tJs_nil, tJs_cons, jsV_str, iKeys_eq, gSub, rSetL, tPart, tNoPart, tSl, rSlL, false_and, exists_false, or_false, false_or, List.set_cons_zero, List.set_cons_succ]
          refine fun x dx hx hdx hdxx => ?_
          have hlc : l ≠ c := fun e => by rw [e, upd_same] at hl; cases hl
          have sc2 := same_new sc1 hl (o := .dK (lK ls))
          have e2c : upd (upd Hb c (.dK (cK (es[j]).cells))) l (.dK (lK ls)) c = some (.dK (cK (es[j]).cells)) := by rw [upd_ne hlc.symm, upd_same]
          have e2l : upd (upd Hb c (.dK (cK (es[j]).cells))) l (.dK (lK ls)) l = some (.dK (lK ls)) := upd_same
          generalize upd (upd Hb c (.dK (cK (es[j]).cells))) l (.dK (lK ls)) = Hc at sc2 e2c e2l hx hdx ⊢
          refine ⟨x, dx, c, l, _, rfl, upd_same, fun t2 ht2 => ⟨rfl, ?_⟩⟩
          have nt2x : t2 ≠ x := fun e => by rw [e, upd_same] at ht2; cases ht2
          have nt2d : t2 ≠ dx := fun e => by rw [e, upd_ne hdxx, upd_same] at ht2; cases ht2
          have ht4 : Hc t2 = none := by rw [upd_ne nt2x, upd_ne nt2d] at ht2; exact ht2
          have s4 : Same Hc (upd (upd (upd (upd Hc dx (.own x)) x (.ins CE dx [])) t2 (.tup [failV (es[j]).failed, .ref c, .ref l])) x (.ins CE dx (eF t2 (failV (es[j]).failed) c l))) := fun b o e => by
            rw [upd_ne (ne_of_none e hx), upd_ne (ne_of_none e ht4), upd_ne (ne_of_none e hx), upd_ne (ne_of_none e hdx)]
            exact e
          have e4x : upd (upd (upd (upd Hc dx (.own x)) x (.ins CE dx [])) t2 (.tup [failV (es[j]).failed, .ref c, .ref l])) x (.ins CE dx (eF t2 (failV (es[j]).failed) c l)) x = some (.ins CE dx (eF t2 (failV (es[j]).failed) c l)) := upd_same
          have e4t : upd (upd (upd (upd Hc dx (.own x)) x (.ins CE dx [])) t2 (.tup [failV (es[j]).failed, .ref c, .ref l])) x (.ins CE dx (eF t2 (failV (es[j]).failed) c l)) t2 = some (.tup [failV (es[j]).failed, .ref c, .ref l]) := by rw [upd_ne nt2x, upd_same]
          generalize upd (upd (upd (upd Hc dx (.own x)) x (.ins CE dx [])) t2 (.tup [failV (es[j]).failed, .ref c, .ref l])) x (.ins CE dx (eF t2 (failV (es[j]).failed) c l)) = Hd at s4 e4x e4t ⊢
          have sbd := sc2.trans s4
          have ea : EndAt CE Hd x es[j] := ⟨dx, t2, c, l, ls, e4x, e4t, ⟨s4 _ _ e2c, s4 _ _ e2l, hlc.symm, fun y hy => ?_⟩, g6⟩
          case refine_1 =>
            obtain ⟨q, hq⟩ : ∃ q, H5 y.2.1 = some (.tup (y.2.2.map V.str)) ∧ q = q := by
              have := pget g5
              obtain ⟨n, hn, rfl⟩ := List.mem_iff_getElem.mp hy
              exact ⟨0, (this.2 n (by omega) hn).2, rfl⟩
            exact sbd _ _ (w4 _ _ hq.1)
          have wd := sbd _ _ w1
          have ku : Keep [D2] Hd (upd Hd D2 (.lst (ps.map V.ref ++ [V.ref x]))) := keep_upd
          have hdat : ∃ ob, Hd D2 = some ob ∧ (∀ dx fs, ob ≠ .ins CE dx fs) ∧ (∀ xs, ob ≠ .tup xs) ∧ ∀ kvs, ob ≠ .dK kvs := ⟨_, wd, by simp, by simp, by simp⟩
          refine ⟨_, wd, sz_lt (by rw [List.length_map]; omega), ps ++ [x], by rw [List.map_append]; rfl, by simp [w2], ?_, same_upd2 (w4.trans sbd) w5, w5⟩
          rw [List.take_succ, List.getElem?_eq_getElem hj2]
          exact (EndsAt.keep ku hdat (EndsAt.same sbd w3)).snoc (ea.keep ku hdat)
        · obtain ⟨ps, w1, w2, w3, w4, w5⟩ := p
          rw [List.length_map, hlen, List.take_length] at w3
          simp only [tSeq, tIfS, tOr, tAnd, tNot, tB, tTest, tCB, tCons, tNil, tVar, tC, tOp, tUn, tRet, tRetN, tDrop, tAsg, tPar, tPar3, tNext, tNever, tBreak, tCont, tAug, tChain, tAndV, tOrV, tNotV, tIf, tIsN, tNotN, tTup, tLst, tCallD, tMethD, tMakeD, tFld, tCon, sFld, sFldAug, tCallK, tSl, tPart, tNoPart, tBM, tBM0, tDGet, tDIn, tDNotIn, sDPut, tDNewK, tM0, tM1, tOrT, tAndT, tNotT, tAsg2, tAsg3, gName, rI0, rI, rU, tYes, L2.start, NdefX.startF, List.set_cons_zero, List.set_cons_succ, List.map_cons, List.map_nil, List.length_cons, List.length_nil, Nat.sub_zero, Nat.reduceSub, Nat.reduceAdd, List.replicate_succ, List.replicate_zero, List.cons_append, List.nil_append, List.append_nil, List.getElem?_cons_zero, List.getElem?_cons_succ, Option.some.injEq, exists_eq_left', exists_eq_left, exists_eq_right, exists_eq_right', exists_and_left, exists_and_right, exists_eq, exists_eq', true_and, and_true, V.int.injEq, V.str.injEq, V.bl.injEq, V.ref.injEq, V.ty.injEq, HO.ins.injEq, HO.lst.injEq, HO.tup.injEq, and_assoc, List.cons.injEq, Bool.not_true, Bool.not_false, Bool.false_eq_true, if_false, if_true, cx_K, upd_same, upd_upd, isi_str, req_ii, req_ss, rne_ii, rne_ss, radd_ii, rsub_ii, atI_at, atI_0, atI_1, atI_2, atI_3, atI_4, rLenL, rLenU, rIxLL, rIxU, reduceCtorEq, gTup, gCons, gNil, tFmt_eq, fmtV_str, fmtV_int, tJs_nil, tJs_cons, jsV_str, iKeys_eq, gSub, rSetL, tPart, tNoPart, tSl, rSlL, false_and, exists_false, or_false, false_or, List.set_cons_zero, List.set_cons_succ]
          refine ⟨_, .inl ⟨SqL.of w1, fun m hm => ?_⟩⟩
          have s7 := w4.trans (same_upd (o := .tup (ps.map V.ref)) hm)
          have gm : upd H6 m (.tup (ps.map V.ref)) m = some (.tup (ps.map V.ref)) := upd_same
          have ae := EndsAt.same (same_upd (o := .tup (ps.map V.ref)) hm) w3
          generalize upd H6 m (.tup (ps.map V.ref)) = H7 at s7 gm ae ⊢
          clear w1 w3 w4 w5 hm hD2
          have px7 : Paired (PlainX pen D H7) ts es := paired_imp (fun _ _ h => h.keep (Keep.of (S := []) s7 |>.mono (by simp)) P5.notup (noD q1)) q3
          have P7 := P5.same s7
          have q7l := s7 _ _ q1
          clear s7 q3 hget q1
          obtain ⟨_, hget⟩ := pget px7
          refine hid_in ?_
          simp only [tSeq, tIfS, tOr, tAnd, tNot, tB, tTest, tCB, tCons, tNil, tVar, tC, tOp, tUn, tRet, tRetN, tDrop, tAsg, tPar, tPar3, tNext, tNever, tBreak, tCont, tAug, tChain, tAndV, tOrV, tNotV, tIf, tIsN, tNotN, tTup, tLst, tCallD, tMethD, tMakeD, tFld, tCon, sFld, sFldAug, tCallK, tSl, tPart, tNoPart, tBM, tBM0, tDGet, tDIn, tDNotIn, sDPut, tDNewK, tM0, tM1, tOrT, tAndT, tNotT, tAsg2, tAsg3, gName, rI0, rI, rU, tYes, L2.start, NdefX.startF, List.set_cons_zero, List.set_cons_succ, List.map_cons, List.map_nil, List.length_cons, List.length_nil, Nat.sub_zero, Nat.reduceSub, Nat.reduceAdd, List.replicate_succ, List.replicate_zero, List.cons_append, List.nil_append, List.append_nil, List.getElem?_cons_zero, List.getElem?_cons_succ, Option.some.injEq, exists_eq_left', exists_eq_left, exists_eq_right, exists_eq_right', exists_and_left, exists_and_right, exists_eq, exists_eq', true_and, and_true, V.int.injEq, V.str.injEq, V.bl.injEq, V.ref.injEq, V.ty.injEq, HO.ins.injEq, HO.lst.injEq, HO.tup.injEq, and_assoc, List.cons.injEq, Bool.not_true, Bool.not_false, Bool.false_eq_true, if_false, if_true, cx_K, upd_same, upd_upd, isi_str, req_ii, req_ss, rne_ii, rne_ss, radd_ii, rsub_ii, atI_at, atI_0, atI_1, atI_2, atI_3, atI_4, rLenL, rLenU, rIxLL, rIxU, reduceCtorEq, gTup, gCons, gNil, tFmt_eq, fmtV_str, fmtV_int, tJs_nil, tJs_cons, jsV_str, iKeys_eq, gSub, rSetL, tPart, tNoPart, tSl, rSlL, false_and, exists_false, or_false, false_or, List.set_cons_zero, List.set_cons_succ]
          refine tLc_grow (walk_list (xs := ts.map V.ref)) (hw_lst (fun Q q => ⟨_, rfl, q⟩) q7l) (fun j => .str (endText (es.getD j ⟨none, [], []⟩))) ?_ (fun _ s => SqL.of (s _ _ q7l)) (fun j x Ha Hb hj s8 y R hR => ?_) fun D3 H8 hD3 s8 eD3 => ?_
          · rw [List.length_map]; omega
          · obtain ⟨rfl, hx⟩ := y
            simp only [List.length_map] at hj
            simp only [List.getElem?_map, List.getElem?_eq_getElem hj, Option.map_some, Option.some.injEq] at hx
            subst hx
            have hj2 : j < es.length := by omega
            obtain ⟨cl, ll, hpa, _⟩ := (hget j hj hj2).keep (Keep.of (S := []) s8 |>.mono (by simp)) P7.notup (noD q7l)
            rw [show es.getD j ⟨none, [], []⟩ = es[j] by rw [List.getD_eq_getElem?_getD, List.getElem?_eq_getElem hj2, Option.getD_some]] at hR
            simp only [tSeq, tIfS, tOr, tAnd, tNot, tB, tTest, tCB, tCons, tNil, tVar, tC, tOp, tUn, tRet, tRetN, tDrop, tAsg, tPar, tPar3, tNext, tNever, tBreak, tCont, tAug, tChain, tAndV, tOrV, tNotV, tIf, tIsN, tNotN, tTup, tLst, tCallD, tMethD, tMakeD, tFld, tCon, sFld, sFldAug, tCallK, tSl, tPart, tNoPart, tBM, tBM0, tDGet, tDIn, tDNotIn, sDPut, tDNewK, tM0, tM1, tOrT, tAndT, tNotT, tAsg2, tAsg3, gName, rI0, rI, rU, tYes, L2.start, NdefX.startF, List.set_cons_zero, List.set_cons_succ, List.map_cons, List.map_nil, List.length_cons, List.length_nil, Nat.sub_zero, Nat.reduceSub, Nat.reduceAdd, List.replicate_succ, List.replicate_zero, List.cons_append, List.nil_append, List.append_nil, List.getElem?_cons_zero, List.getElem?_cons_succ, Option.some.injEq, exists_eq_left', exists_eq_left, exists_eq_right, exists_eq_right', exists_and_left, exists_and_right, exists_eq, exists_eq', true_and, and_true, V.int.injEq, V.str.injEq, V.bl.injEq, V.ref.injEq, V.ty.injEq, HO.ins.injEq, HO.lst.injEq, HO.tup.injEq, and_assoc, List.cons.injEq, Bool.not_true, Bool.not_false, Bool.false_eq_true, if_false, if_true, cx_K, upd_same, upd_upd, isi_str, req_ii, req_ss, rne_ii, rne_ss, radd_ii, rsub_ii, atI_at, atI_0, atI_1, atI_2, atI_3, atI_4, rLenL, rLenU, rIxLL, rIxU, reduceCtorEq, gTup, gCons, gNil, tFmt_eq, fmtV_str, fmtV_int, tJs_nil, tJs_cons, jsV_str, iKeys_eq, gSub, rSetL, tPart, tNoPart, tSl, rSlL, false_and, exists_false, or_false, false_or, List.set_cons_zero, List.set_cons_succ, wipe]
            exact ⟨_, _, rfl, hpa.at_, fit _ (List.getElem_mem hj2), fun H' s' => hR H' s'⟩
          have eD4 : H8 D3 = some (.lst ((es.map endText).map V.str)) := by
            rw [eD3, List.length_map, hlen, range_get es _ (fun e => .str (endText e)), List.map_map]; rfl
          have hsz := ends_size fit hes
          have h3s : (" / " : Str).length = 3 := by decide +kernel
          have hsz2 : ((es.map endText).map (·.length)).sum = (es.map fun e => (endText e).length).sum := by rw [List.map_map]; rfl
          have hjl := join_len " / " (es.map endText)
          rw [h3s, List.length_map] at hjl
          refine ⟨D3, rfl, es.map endText, .inl (SqL.of eD4), by rw [h3s, List.length_map]; omega, _, ⟨by rw [sizeLine_eq]; omega, rfl⟩, ?_⟩
          generalize hR : hid _ = R
          refine if_same (P := fun z => R _ [some (.ref a), some (.ref pen), some (.int (0 + (i : Int))), some (.ref D), some (.ref m), some (.str z), v6, v7, v8, v9, none, none, none, none, none, none, none] _) line_or ?_
          rw [← hR]
          have lr := line_read v
          have lw := line_words v
          obtain ⟨Z, hZ⟩ : ∃ Z, Z = endsText es := ⟨_, rfl⟩
          rw [← hZ] at lr lw ⊢
          have zl : Z.length ≤ 40000 := by
            rw [hZ, endsText_w (fun e he x hx => ((v e he).l x hx).2.1)]
            have := endsW_len q4 (by omega)
            exact (page_len (by omega) fun x hx => (ends_good v x hx).2).1
          have gm8 := s8 _ _ gm
          have ae8 := EndsAt.same s8 ae
          have P8 := P7.same s8
          have q8l := s8 _ _ q7l
          have px8 : Paired (PlainX pen D H8) ts es := paired_imp (fun _ _ h => h.keep (Keep.of (S := []) s8 |>.mono (by simp)) P7.notup (noD q7l)) px7
          clear hget px7 hD3 eD3 eD4 q7l P7 gm ae s8
          have readI : ∀ (E : XK) (H1 : Hp) (Q : VK), Same H8 H1 → (∀ t ps' H', Same H1 H' → H' t = some (.tup (ps'.map V.ref)) → EndsAt CE H' ps' es → Q (.ref t) H') → spReadEnds K CB CE [.str Z] H1 Q E := fun E H1 Q s q =>
            ⟨_, rfl, .inl ⟨Z, rfl, by omega, (fun k hk => by rw [lr] at hk; cases hk), fun es' he' t ps' H' s' ht at' _ _ => by
              rw [lr] at he'
              cases he'
              exact q t ps' H' s' ht at'⟩⟩
          refine hid_in ?_
          simp only [tSeq, tIfS, tAnd, tNot, tB, tTest, tCB, tCons, tNil, tVar, tC, tOp, tUn, tRet, tRetN, tDrop, tAsg, tPar, tPar3, tNext, tNever, tBreak, tCont, tAug, tChain, tAndV, tOrV, tNotV, tIf, tIsN, tNotN, tTup, tLst, tCallD, tMethD, tMakeD, tFld, tCon, sFld, sFldAug, tCallK, tSl, tPart, tNoPart, tBM, tBM0, tDGet, tDIn, tDNotIn, sDPut, tDNewK, tM0, tM1, tOrT, tAndT, tNotT, tAsg2, tAsg3, gName, rI0, rI, rU, tYes, L2.start, NdefX.startF, List.set_cons_zero, List.set_cons_succ, List.map_cons, List.map_nil, List.length_cons, List.length_nil, Nat.sub_zero, Nat.reduceSub, Nat.reduceAdd, List.replicate_succ, List.replicate_zero, List.cons_append, List.nil_append, List.append_nil, List.getElem?_cons_zero, List.getElem?_cons_succ, Option.some.injEq, exists_eq_left', exists_eq_left, exists_eq_right, exists_eq_right', exists_and_left, exists_and_right, exists_eq, exists_eq', true_and, and_true, V.int.injEq, V.str.injEq, V.bl.injEq, V.ref.injEq, V.ty.injEq, HO.ins.injEq, HO.lst.injEq, HO.tup.injEq, and_assoc, List.cons.injEq, Bool.not_true, Bool.not_false, Bool.false_eq_true, if_false, if_true, cx_K, upd_same, upd_upd, isi_str, req_ii, req_ss, rne_ii, rne_ss, radd_ii, rsub_ii, atI_at, atI_0, atI_1, atI_2, atI_3, atI_4, rLenL, rLenU, rIxLL, rIxU, reduceCtorEq, gTup, gCons, gNil, tFmt_eq, fmtV_str, fmtV_int, tJs_nil, tJs_cons, jsV_str, iKeys_eq, gSub, rSetL, tPart, tNoPart, tSl, rSlL, false_and, exists_false, or_false, false_or, List.set_cons_zero, List.set_cons_succ]
          refine orS (a := false) (b := false) (fun Q q => ?_) (fun _ H9 s9 Q q => ?_) fun H9 s9 => ?_
          · simp only [tSeq, tIfS, tOr, tAnd, tNot, tB, tTest, tCB, tCons, tNil, tVar, tC, tOp, tUn, tRet, tRetN, tDrop, tAsg, tPar, tPar3, tNext, tNever, tBreak, tCont, tAug, tChain, tAndV, tOrV, tNotV, tIf, tIsN, tNotN, tTup, tLst, tCallD, tMethD, tMakeD, tFld, tCon, sFld, sFldAug, tCallK, tSl, tPart, tNoPart, tBM, tBM0, tDGet, tDIn, tDNotIn, sDPut, tDNewK, tM0, tM1, tOrT, tAndT, tNotT, tAsg2, tAsg3, gName, rI0, rI, rU, tYes, L2.start, NdefX.startF, List.set_cons_zero, List.set_cons_succ, List.map_cons, List.map_nil, List.length_cons, List.length_nil, Nat.sub_zero, Nat.reduceSub, Nat.reduceAdd, List.replicate_succ, List.replicate_zero, List.cons_append, List.nil_append, List.append_nil, List.getElem?_cons_zero, List.getElem?_cons_succ, Option.some.injEq, exists_eq_left', exists_eq_left, exists_eq_right, exists_eq_right', exists_and_left, exists_and_right, exists_eq, exists_eq', true_and, and_true, V.int.injEq, V.str.injEq, V.bl.injEq, V.ref.injEq, V.ty.injEq, HO.ins.injEq, HO.lst.injEq, HO.tup.injEq, and_assoc, List.cons.injEq, Bool.not_true, Bool.not_false, Bool.false_eq_true, if_false, if_true, cx_K, upd_same, upd_upd, isi_str, req_ii, req_ss, rne_ii, rne_ss, radd_ii, rsub_ii, atI_at, atI_0, atI_1, atI_2, atI_3, atI_4, rLenL, rLenU, rIxLL, rIxU, reduceCtorEq, gTup, gCons, gNil, tFmt_eq, fmtV_str, fmtV_int, tJs_nil, tJs_cons, jsV_str, iKeys_eq, gSub, rSetL, tPart, tNoPart, tSl, rSlL, false_and, exists_false, or_false, false_or, List.set_cons_zero, List.set_cons_succ]
            refine ⟨m, ps, es, rfl, gm8, ae8, fit, by omega, hsz, fun H' s' => ?_⟩
            simp only [tSeq, tIfS, tOr, tAnd, tNot, tB, tTest, tCB, tCons, tNil, tVar, tC, tOp, tUn, tRet, tRetN, tDrop, tAsg, tPar, tPar3, tNext, tNever, tBreak, tCont, tAug, tChain, tAndV, tOrV, tNotV, tIf, tIsN, tNotN, tTup, tLst, tCallD, tMethD, tMakeD, tFld, tCon, sFld, sFldAug, tCallK, tSl, tPart, tNoPart, tBM, tBM0, tDGet, tDIn, tDNotIn, sDPut, tDNewK, tM0, tM1, tOrT, tAndT, tNotT, tAsg2, tAsg3, gName, rI0, rI, rU, tYes, L2.start, NdefX.startF, List.set_cons_zero, List.set_cons_succ, List.map_cons, List.map_nil, List.length_cons, List.length_nil, Nat.sub_zero, Nat.reduceSub, Nat.reduceAdd, List.replicate_succ, List.replicate_zero, List.cons_append, List.nil_append, List.append_nil, List.getElem?_cons_zero, List.getElem?_cons_succ, Option.some.injEq, exists_eq_left', exists_eq_left, exists_eq_right, exists_eq_right', exists_and_left, exists_and_right, exists_eq, exists_eq', true_and, and_true, V.int.injEq, V.str.injEq, V.bl.injEq, V.ref.injEq, V.ty.injEq, HO.ins.injEq, HO.lst.injEq, HO.tup.injEq, and_assoc, List.cons.injEq, Bool.not_true, Bool.not_false, Bool.false_eq_true, if_false, if_true, cx_K, upd_same, upd_upd, isi_str, req_ii, req_ss, rne_ii, rne_ss, radd_ii, rsub_ii, atI_at, atI_0, atI_1, atI_2, atI_3, atI_4, rLenL, rLenU, rIxLL, rIxU, reduceCtorEq, gTup, gCons, gNil, tFmt_eq, fmtV_str, fmtV_int, tJs_nil, tJs_cons, jsV_str, iKeys_eq, gSub, rSetL, tPart, tNoPart, tSl, rSlL, false_and, exists_false, or_false, false_or, List.set_cons_zero, List.set_cons_succ]
            rw [← hZ]
            simpa using q H' s'
          · refine orS (a := false) (b := false) (fun Q q => ?_) (fun _ H10 s10 Q q => ?_) q
            · simp only [tSeq, tIfS, tOr, tAnd, tNot, tB, tTest, tCB, tCons, tNil, tVar, tC, tOp, tUn, tRet, tRetN, tDrop, tAsg, tPar, tPar3, tNext, tNever, tBreak, tCont, tAug, tChain, tAndV, tOrV, tNotV, tIf, tIsN, tNotN, tTup, tLst, tCallD, tMethD, tMakeD, tFld, tCon, sFld, sFldAug, tCallK, tSl, tPart, tNoPart, tBM, tBM0, tDGet, tDIn, tDNotIn, sDPut, tDNewK, tM0, tM1, tOrT, tAndT, tNotT, tAsg2, tAsg3, gName, rI0, rI, rU, tYes, L2.start, NdefX.startF, List.set_cons_zero, List.set_cons_succ, List.map_cons, List.map_nil, List.length_cons, List.length_nil, Nat.sub_zero, Nat.reduceSub, Nat.reduceAdd, List.replicate_succ, List.replicate_zero, List.cons_append, List.nil_append, List.append_nil, List.getElem?_cons_zero, List.getElem?_cons_succ, Option.some.injEq, exists_eq_left', exists_eq_left, exists_eq_right, exists_eq_right', exists_and_left, exists_and_right, exists_eq, exists_eq', true_and, and_true, V.int.injEq, V.str.injEq, V.bl.injEq, V.ref.injEq, V.ty.injEq, HO.ins.injEq, HO.lst.injEq, HO.tup.injEq, and_assoc, List.cons.injEq, Bool.not_true, Bool.not_false, Bool.false_eq_true, if_false, if_true, cx_K, upd_same, upd_upd, isi_str, req_ii, req_ss, rne_ii, rne_ss, radd_ii, rsub_ii, atI_at, atI_0, atI_1, atI_2, atI_3, atI_4, rLenL, rLenU, rIxLL, rIxU, reduceCtorEq, gTup, gCons, gNil, tFmt_eq, fmtV_str, fmtV_int, tJs_nil, tJs_cons, jsV_str, iKeys_eq, gSub, rSetL, tPart, tNoPart, tSl, rSlL, false_and, exists_false, or_false, false_or, List.set_cons_zero, List.set_cons_succ]
              refine readI _ _ _ s9 fun t ps' H' s' ht at' => ?_
              refine ⟨dtup_of ht ((s9.trans s') _ _ gm8) at' (EndsAt.same (s9.trans s') ae8) fit, fun H'' e'' => ?_⟩
              exact q _ (s'.trans e'')
            · simp only [tSeq, tIfS, tOr, tAnd, tNot, tB, tTest, tCB, tCons, tNil, tVar, tC, tOp, tUn, tRet, tRetN, tDrop, tAsg, tPar, tPar3, tNext, tNever, tBreak, tCont, tAug, tChain, tAndV, tOrV, tNotV, tIf, tIsN, tNotN, tTup, tLst, tCallD, tMethD, tMakeD, tFld, tCon, sFld, sFldAug, tCallK, tSl, tPart, tNoPart, tBM, tBM0, tDGet, tDIn, tDNotIn, sDPut, tDNewK, tM0, tM1, tOrT, tAndT, tNotT, tAsg2, tAsg3, gName, rI0, rI, rU, tYes, L2.start, NdefX.startF, List.set_cons_zero, List.set_cons_succ, List.map_cons, List.map_nil, List.length_cons, List.length_nil, Nat.sub_zero, Nat.reduceSub, Nat.reduceAdd, List.replicate_succ, List.replicate_zero, List.cons_append, List.nil_append, List.append_nil, List.getElem?_cons_zero, List.getElem?_cons_succ, Option.some.injEq, exists_eq_left', exists_eq_left, exists_eq_right, exists_eq_right', exists_and_left, exists_and_right, exists_eq, exists_eq', true_and, and_true, V.int.injEq, V.str.injEq, V.bl.injEq, V.ref.injEq, V.ty.injEq, HO.ins.injEq, HO.lst.injEq, HO.tup.injEq, and_assoc, List.cons.injEq, Bool.not_true, Bool.not_false, Bool.false_eq_true, if_false, if_true, cx_K, upd_same, upd_upd, isi_str, req_ii, req_ss, rne_ii, rne_ss, radd_ii, rsub_ii, atI_at, atI_0, atI_1, atI_2, atI_3, atI_4, rLenL, rLenU, rIxLL, rIxU, reduceCtorEq, gTup, gCons, gNil, tFmt_eq, fmtV_str, fmtV_int, tJs_nil, tJs_cons, jsV_str, iKeys_eq, gSub, rSetL, tPart, tNoPart, tSl, rSlL, false_and, exists_false, or_false, false_or, List.set_cons_zero, List.set_cons_succ, tCallK0]
              refine readI _ _ _ (s9.trans s10) fun t ps' H' s' ht at' => ?_
              refine ⟨dtup_of ht (((s9.trans s10).trans s') _ _ gm8) at' (EndsAt.same ((s9.trans s10).trans s') ae8) fit, fun H'' e'' => ?_⟩
              exact q _ (s'.trans e'')
          have gm9 := s9 _ _ gm8
          have ae9 := EndsAt.same s9 ae8
          have P9 := P8.same s9
          have q9l := s9 _ _ q8l
          have px9 : Paired (PlainX pen D H9) ts es := paired_imp (fun _ _ h => h.keep (Keep.of (S := []) s9 |>.mono (by simp)) P8.notup (noD q8l)) px8
          rw [Bool.or_self, if_neg (by decide)]
          refine hid_in ?_
          simp only [tSeq, tIfS, tAnd, tNot, tB, tTest, tCB, tCons, tNil, tVar, tC, tOp, tUn, tRet, tRetN, tDrop, tAsg, tPar, tPar3, tNext, tNever, tBreak, tCont, tAug, tChain, tAndV, tOrV, tNotV, tIf, tIsN, tNotN, tTup, tLst, tCallD, tMethD, tMakeD, tFld, tCon, sFld, sFldAug, tCallK, tSl, tPart, tNoPart, tBM, tBM0, tDGet, tDIn, tDNotIn, sDPut, tDNewK, tM0, tM1, tOrT, tAndT, tNotT, tAsg2, tAsg3, gName, rI0, rI, rU, tYes, L2.start, NdefX.startF, List.set_cons_zero, List.set_cons_succ, List.map_cons, List.map_nil, List.length_cons, List.length_nil, Nat.sub_zero, Nat.reduceSub, Nat.reduceAdd, List.replicate_succ, List.replicate_zero, List.cons_append, List.nil_append, List.append_nil, List.getElem?_cons_zero, List.getElem?_cons_succ, Option.some.injEq, exists_eq_left', exists_eq_left, exists_eq_right, exists_eq_right', exists_and_left, exists_and_right, exists_eq, exists_eq', true_and, and_true, V.int.injEq, V.str.injEq, V.bl.injEq, V.ref.injEq, V.ty.injEq, HO.ins.injEq, HO.lst.injEq, HO.tup.injEq, and_assoc, List.cons.injEq, Bool.not_true, Bool.not_false, Bool.false_eq_true, if_false, if_true, cx_K, upd_same, upd_upd, isi_str, req_ii, req_ss, rne_ii, rne_ss, radd_ii, rsub_ii, atI_at, atI_0, atI_1, atI_2, atI_3, atI_4, rLenL, rLenU, rIxLL, rIxU, reduceCtorEq, gTup, gCons, gNil, tFmt_eq, fmtV_str, fmtV_int, tJs_nil, tJs_cons, jsV_str, iKeys_eq, gSub, rSetL, tPart, tNoPart, tSl, rSlL, false_and, exists_false, or_false, false_or, List.set_cons_zero, List.set_cons_succ]
          obtain ⟨_, hget9⟩ := pget px9
          obtain ⟨hpl, hpg⟩ := ae9.get
          have eok : ∀ x ∈ es.map endText, PyData.strOk x = true := fun x hx => by
            obtain ⟨e, he, rfl⟩ := List.mem_map.mp hx
            rw [endText_w (fun x hx => ((v e he).l x hx).2.1)]
            exact join_ok _ fun y hy => (end_good (v e he) y hy).1.ok
          refine orS (a := false) (b := false) (fun Q q => ?_) (fun _ H10 s10 Q q => ?_) fun H10 s10 => ?_
          · simp only [tSeq, tIfS, tOr, tAnd, tNot, tB, tTest, tCB, tCons, tNil, tVar, tC, tOp, tUn, tRet, tRetN, tDrop, tAsg, tPar, tPar3, tNext, tNever, tBreak, tCont, tAug, tChain, tAndV, tOrV, tNotV, tIf, tIsN, tNotN, tTup, tLst, tCallD, tMethD, tMakeD, tFld, tCon, sFld, sFldAug, tCallK, tSl, tPart, tNoPart, tBM, tBM0, tDGet, tDIn, tDNotIn, sDPut, tDNewK, tM0, tM1, tOrT, tAndT, tNotT, tAsg2, tAsg3, gName, rI0, rI, rU, tYes, L2.start, NdefX.startF, List.set_cons_zero, List.set_cons_succ, List.map_cons, List.map_nil, List.length_cons, List.length_nil, Nat.sub_zero, Nat.reduceSub, Nat.reduceAdd, List.replicate_succ, List.replicate_zero, List.cons_append, List.nil_append, List.append_nil, List.getElem?_cons_zero, List.getElem?_cons_succ, Option.some.injEq, exists_eq_left', exists_eq_left, exists_eq_right, exists_eq_right', exists_and_left, exists_and_right, exists_eq, exists_eq', true_and, and_true, V.int.injEq, V.str.injEq, V.bl.injEq, V.ref.injEq, V.ty.injEq, HO.ins.injEq, HO.lst.injEq, HO.tup.injEq, and_assoc, List.cons.injEq, Bool.not_true, Bool.not_false, Bool.false_eq_true, if_false, if_true, cx_K, upd_same, upd_upd, isi_str, req_ii, req_ss, rne_ii, rne_ss, radd_ii, rsub_ii, atI_at, atI_0, atI_1, atI_2, atI_3, atI_4, rLenL, rLenU, rIxLL, rIxU, reduceCtorEq, gTup, gCons, gNil, tFmt_eq, fmtV_str, fmtV_int, tJs_nil, tJs_cons, jsV_str, iKeys_eq, gSub, rSetL, tPart, tNoPart, tSl, rSlL, false_and, exists_false, or_false, false_or, List.set_cons_zero, List.set_cons_succ]
            refine tLc_grow (walk_tup (xs := ps.map V.ref)) (hw_tup (fun Q q => ⟨_, rfl, q⟩) gm9) (fun j => .str (endText (es.getD j ⟨none, [], []⟩))) ?_ (fun _ s => SqT.of (s _ _ gm9)) (fun j x Ha Hb hj s8 y R hR => ?_) fun D4 Hc hD4 sc eD4 => ?_
            · rw [List.length_map]; omega
            · obtain ⟨rfl, hx⟩ := y
              simp only [List.length_map] at hj
              simp only [List.getElem?_map, List.getElem?_eq_getElem hj, Option.map_some, Option.some.injEq] at hx
              subst hx
              have hj2 : j < es.length := by omega
              have ea := (hpg j hj2 hj).same s8
              rw [show es.getD j ⟨none, [], []⟩ = es[j] by rw [List.getD_eq_getElem?_getD, List.getElem?_eq_getElem hj2, Option.getD_some]] at hR
              obtain ⟨dx, _, _, _, _, hp, _⟩ := ea.ex
              simp only [tSeq, tIfS, tOr, tAnd, tNot, tB, tTest, tCB, tCons, tNil, tVar, tC, tOp, tUn, tRet, tRetN, tDrop, tAsg, tPar, tPar3, tNext, tNever, tBreak, tCont, tAug, tChain, tAndV, tOrV, tNotV, tIf, tIsN, tNotN, tTup, tLst, tCallD, tMethD, tMakeD, tFld, tCon, sFld, sFldAug, tCallK, tSl, tPart, tNoPart, tBM, tBM0, tDGet, tDIn, tDNotIn, sDPut, tDNewK, tM0, tM1, tOrT, tAndT, tNotT, tAsg2, tAsg3, gName, rI0, rI, rU, tYes, L2.start, NdefX.startF, List.set_cons_zero, List.set_cons_succ, List.map_cons, List.map_nil, List.length_cons, List.length_nil, Nat.sub_zero, Nat.reduceSub, Nat.reduceAdd, List.replicate_succ, List.replicate_zero, List.cons_append, List.nil_append, List.append_nil, List.getElem?_cons_zero, List.getElem?_cons_succ, Option.some.injEq, exists_eq_left', exists_eq_left, exists_eq_right, exists_eq_right', exists_and_left, exists_and_right, exists_eq, exists_eq', true_and, and_true, V.int.injEq, V.str.injEq, V.bl.injEq, V.ref.injEq, V.ty.injEq, HO.ins.injEq, HO.lst.injEq, HO.tup.injEq, and_assoc, List.cons.injEq, Bool.not_true, Bool.not_false, Bool.false_eq_true, if_false, if_true, cx_K, upd_same, upd_upd, isi_str, req_ii, req_ss, rne_ii, rne_ss, radd_ii, rsub_ii, atI_at, atI_0, atI_1, atI_2, atI_3, atI_4, rLenL, rLenU, rIxLL, rIxU, reduceCtorEq, gTup, gCons, gNil, tFmt_eq, fmtV_str, fmtV_int, tJs_nil, tJs_cons, jsV_str, iKeys_eq, gSub, rSetL, tPart, tNoPart, tSl, rSlL, false_and, exists_false, or_false, false_or, List.set_cons_zero, List.set_cons_succ, wipe]
              exact ⟨_, dx, _, rfl, hp, _, _, rfl, ea, fit _ (List.getElem_mem hj2), fun H' s' => ⟨⟨_, rfl⟩, hR _ s'⟩⟩
            have eD5 : Hc D4 = some (.lst ((es.map endText).map V.str)) := by
              rw [eD4, List.length_map, hpl, range_get es _ (fun e => .str (endText e)), List.map_map]; rfl
            have q9c := sc _ _ q9l
            refine tLc_grow (walk_list (xs := ts.map V.ref)) (hw_lst (fun Q q => ⟨_, rfl, q⟩) q9c) (fun j => .str (endText (es.getD j ⟨none, [], []⟩))) ?_ (fun _ s => SqL.of (s _ _ q9c)) (fun j x Ha Hb hj s8 y R hR => ?_) fun D6 Hd hD6 sd eD6 => ?_
            · rw [List.length_map]; omega
            · obtain ⟨rfl, hx⟩ := y
              simp only [List.length_map] at hj
              simp only [List.getElem?_map, List.getElem?_eq_getElem hj, Option.map_some, Option.some.injEq] at hx
              subst hx
              have hj2 : j < es.length := by omega
              obtain ⟨cl, ll, hpa, _⟩ := (hget9 j hj hj2).keep (Keep.of (S := []) (sc.trans s8) |>.mono (by simp)) P9.notup (noD q9l)
              rw [show es.getD j ⟨none, [], []⟩ = es[j] by rw [List.getD_eq_getElem?_getD, List.getElem?_eq_getElem hj2, Option.getD_some]] at hR
              simp only [tSeq, tIfS, tOr, tAnd, tNot, tB, tTest, tCB, tCons, tNil, tVar, tC, tOp, tUn, tRet, tRetN, tDrop, tAsg, tPar, tPar3, tNext, tNever, tBreak, tCont, tAug, tChain, tAndV, tOrV, tNotV, tIf, tIsN, tNotN, tTup, tLst, tCallD, tMethD, tMakeD, tFld, tCon, sFld, sFldAug, tCallK, tSl, tPart, tNoPart, tBM, tBM0, tDGet, tDIn, tDNotIn, sDPut, tDNewK, tM0, tM1, tOrT, tAndT, tNotT, tAsg2, tAsg3, gName, rI0, rI, rU, tYes, L2.start, NdefX.startF, List.set_cons_zero, List.set_cons_succ, List.map_cons, List.map_nil, List.length_cons, List.length_nil, Nat.sub_zero, Nat.reduceSub, Nat.reduceAdd, List.replicate_succ, List.replicate_zero, List.cons_append, List.nil_append, List.append_nil, List.getElem?_cons_zero, List.getElem?_cons_succ, Option.some.injEq, exists_eq_left', exists_eq_left, exists_eq_right, exists_eq_right', exists_and_left, exists_and_right, exists_eq, exists_eq', true_and, and_true, V.int.injEq, V.str.injEq, V.bl.injEq, V.ref.injEq, V.ty.injEq, HO.ins.injEq, HO.lst.injEq, HO.tup.injEq, and_assoc, List.cons.injEq, Bool.not_true, Bool.not_false, Bool.false_eq_true, if_false, if_true, cx_K, upd_same, upd_upd, isi_str, req_ii, req_ss, rne_ii, rne_ss, radd_ii, rsub_ii, atI_at, atI_0, atI_1, atI_2, atI_3, atI_4, rLenL, rLenU, rIxLL, rIxU, reduceCtorEq, gTup, gCons, gNil, tFmt_eq, fmtV_str, fmtV_int, tJs_nil, tJs_cons, jsV_str, iKeys_eq, gSub, rSetL, tPart, tNoPart, tSl, rSlL, false_and, exists_false, or_false, false_or, List.set_cons_zero, List.set_cons_succ, wipe]
              exact ⟨_, _, rfl, hpa.at_, fit _ (List.getElem_mem hj2), fun H' s' => hR H' s'⟩
            have eD7 : Hd D6 = some (.lst ((es.map endText).map V.str)) := by
              rw [eD6, List.length_map, hlen, range_get es _ (fun e => .str (endText e)), List.map_map]; rfl
            exact ne_same (dp_strs (SqL.of (sd _ _ eD5))) (dp_strs (SqL.of eD7)) (ok_strs eok) (by decide) ⟨_, rfl, q _ (sc.trans sd)⟩
          · simp only [tSeq, tIfS, tOr, tAnd, tNot, tB, tTest, tCB, tCons, tNil, tVar, tC, tOp, tUn, tRet, tRetN, tDrop, tAsg, tPar, tPar3, tNext, tNever, tBreak, tCont, tAug, tChain, tAndV, tOrV, tNotV, tIf, tIsN, tNotN, tTup, tLst, tCallD, tMethD, tMakeD, tFld, tCon, sFld, sFldAug, tCallK, tSl, tPart, tNoPart, tBM, tBM0, tDGet, tDIn, tDNotIn, sDPut, tDNewK, tM0, tM1, tOrT, tAndT, tNotT, tAsg2, tAsg3, gName, rI0, rI, rU, tYes, L2.start, NdefX.startF, List.set_cons_zero, List.set_cons_succ, List.map_cons, List.map_nil, List.length_cons, List.length_nil, Nat.sub_zero, Nat.reduceSub, Nat.reduceAdd, List.replicate_succ, List.replicate_zero, List.cons_append, List.nil_append, List.append_nil, List.getElem?_cons_zero, List.getElem?_cons_succ, Option.some.injEq, exists_eq_left', exists_eq_left, exists_eq_right, exists_eq_right', exists_and_left, exists_and_right, exists_eq, exists_eq', true_and, and_true, V.int.injEq, V.str.injEq, V.bl.injEq, V.ref.injEq, V.ty.injEq, HO.ins.injEq, HO.lst.injEq, HO.tup.injEq, and_assoc, List.cons.injEq, Bool.not_true, Bool.not_false, Bool.false_eq_true, if_false, if_true, cx_K, upd_same, upd_upd, isi_str, req_ii, req_ss, rne_ii, rne_ss, radd_ii, rsub_ii, atI_at, atI_0, atI_1, atI_2, atI_3, atI_4, rLenL, rLenU, rIxLL, rIxU, reduceCtorEq, gTup, gCons, gNil, tFmt_eq, fmtV_str, fmtV_int, tJs_nil, tJs_cons, jsV_str, iKeys_eq, gSub, rSetL, tPart, tNoPart, tSl, rSlL, false_and, exists_false, or_false, false_or, List.set_cons_zero, List.set_cons_succ]
            refine readI _ _ _ (s9.trans s10) fun t ps' H' s' ht at' => ?_
            refine ⟨.ref t, .ty "tuple", .type "tuple", .type "tuple", true, rfl, .ty _, .base (.tup ht), kit_ty (by decide +kernel), ?_⟩
            exact ⟨_, rfl, q _ s'⟩
          rw [Bool.or_self, if_neg (by decide)]
          have gm10 := s10 _ _ gm9
          have P10 := P9.same s10
          clear px9 px8 hget9 hpl hpg ae9 ae8 q9l q8l
          refine hid_in ?_
          simp only [tSeq, tIfS, tOr, tAnd, tNot, tB, tTest, tCB, tCons, tNil, tVar, tC, tOp, tUn, tRet, tRetN, tDrop, tAsg, tPar, tPar3, tNext, tNever, tBreak, tCont, tAug, tChain, tAndV, tOrV, tNotV, tIf, tIsN, tNotN, tTup, tLst, tCallD, tMethD, tMakeD, tFld, tCon, sFld, sFldAug, tCallK, tSl, tPart, tNoPart, tBM, tBM0, tDGet, tDIn, tDNotIn, sDPut, tDNewK, tM0, tM1, tOrT, tAndT, tNotT, tAsg2, tAsg3, gName, rI0, rI, rU, tYes, L2.start, NdefX.startF, List.set_cons_zero, List.set_cons_succ, List.map_cons, List.map_nil, List.length_cons, List.length_nil, Nat.sub_zero, Nat.reduceSub, Nat.reduceAdd, List.replicate_succ, List.replicate_zero, List.cons_append, List.nil_append, List.append_nil, List.getElem?_cons_zero, List.getElem?_cons_succ, Option.some.injEq, exists_eq_left', exists_eq_left, exists_eq_right, exists_eq_right', exists_and_left, exists_and_right, exists_eq, exists_eq', true_and, and_true, V.int.injEq, V.str.injEq, V.bl.injEq, V.ref.injEq, V.ty.injEq, HO.ins.injEq, HO.lst.injEq, HO.tup.injEq, and_assoc, List.cons.injEq, Bool.not_true, Bool.not_false, Bool.false_eq_true, if_false, if_true, cx_K, upd_same, upd_upd, isi_str, req_ii, req_ss, rne_ii, rne_ss, radd_ii, rsub_ii, atI_at, atI_0, atI_1, atI_2, atI_3, atI_4, rLenL, rLenU, rIxLL, rIxU, reduceCtorEq, gTup, gCons, gNil, tFmt_eq, fmtV_str, fmtV_int, tJs_nil, tJs_cons, jsV_str, iKeys_eq, gSub, rSetL, tPart, tNoPart, tSl, rSlL, false_and, exists_false, or_false, false_or, List.set_cons_zero, List.set_cons_succ]
          refine ⟨by decide +kernel, sz_le (by omega), ?_⟩
          rw [lw]
          refine fun wl hwl => ?_
          have sw : Same H10 (upd H10 wl (.lst ((endsW es).map V.str))) := same_upd hwl
          have gw : upd H10 wl (.lst ((endsW es).map V.str)) wl = some (.lst ((endsW es).map V.str)) := upd_same
          generalize upd H10 wl (.lst ((endsW es).map V.str)) = H11 at sw gw ⊢
          have gm11 := sw _ _ gm10
          have P11 := P10.same sw
          have wlen := endsW_len q4 (by omega)
          refine hid_in ?_
          obtain ⟨_, _, _, hpen11, _⟩ := P11.ex
          obtain ⟨_, _, _, hpen10, _⟩ := P10.ex
          refine tFor_it (walk_range (lo := 0) (n := 4)) (fun R h => ⟨4, rfl, by omega, by omega, h⟩) (IInv a pen sl D m Z i ps) ⟨wl, _, _, _, _, rfl, gw, (ne_of_none hpen10 hwl).symm, by omega, ends_good v, gm11, P11⟩ (fun _ _ _ _ _ => trivial) (fun j x σ Ha Hb hj p y => ?_) fun σ Ha p => ?_
          · obtain ⟨wl, ws, w7, w8, w9, rfl, g1, g2, g3, g4, g5, g6⟩ := p
            obtain ⟨rfl, rfl⟩ := y
            simp only [tSeq, tIfS, tOr, tAnd, tNot, tB, tTest, tCB, tCons, tNil, tVar, tC, tOp, tUn, tRet, tRetN, tDrop, tAsg, tPar, tPar3, tNext, tNever, tBreak, tCont, tAug, tChain, tAndV, tOrV, tNotV, tIf, tIsN, tNotN, tTup, tLst, tCallD, tMethD, tMakeD, tFld, tCon, sFld, sFldAug, tCallK, tSl, tPart, tNoPart, tBM, tBM0, tDGet, tDIn, tDNotIn, sDPut, tDNewK, tM0, tM1, tOrT, tAndT, tNotT, tAsg2, tAsg3, gName, rI0, rI, rU, tYes, L2.start, NdefX.startF, List.set_cons_zero, List.set_cons_succ, List.map_cons, List.map_nil, List.length_cons, List.length_nil, Nat.sub_zero, Nat.reduceSub, Nat.reduceAdd, List.replicate_succ, List.replicate_zero, List.cons_append, List.nil_append, List.append_nil, List.getElem?_cons_zero, List.getElem?_cons_succ, Option.some.injEq, exists_eq_left', exists_eq_left, exists_eq_right, exists_eq_right', exists_and_left, exists_and_right, exists_eq, exists_eq', true_and, and_true, V.int.injEq, V.str.injEq, V.bl.injEq, V.ref.injEq, V.ty.injEq, HO.ins.injEq, HO.lst.injEq, HO.tup.injEq, and_assoc, List.cons.injEq, Bool.not_true, Bool.not_false, Bool.false_eq_true, if_false, if_true, cx_K, upd_same, upd_upd, isi_str, req_ii, req_ss, rne_ii, rne_ss, radd_ii, rsub_ii, atI_at, atI_0, atI_1, atI_2, atI_3, atI_4, rLenL, rLenU, rIxLL, rIxU, reduceCtorEq, gTup, gCons, gNil, tFmt_eq, fmtV_str, fmtV_int, tJs_nil, tJs_cons, jsV_str, iKeys_eq, gSub, rSetL, tPart, tNoPart, tSl, rSlL, false_and, exists_false, or_false, false_or, List.set_cons_zero, List.set_cons_succ]
            refine ⟨pen, sl, wl, 200 * i + 100 + 3 * j, ws, rfl, g6, by omega, g1, g2, by omega, fun q ws' Hc kc hq eq hl' hm' Pc => ?_⟩
            have gw' : ∀ x ∈ ws', GoodW x ∧ x.length ≤ 9 := fun x hx => (hm' x hx).elim (g4 x) (odd_good x)
            have hmp : m ≠ pen := fun e => by rw [e] at g5; exact g6.notup _ g5
            have gmc := kc _ _ g5 (by simpa using hmp)
            refine ⟨_, .inl ⟨_, SqL.of eq, rfl⟩, ?_⟩
            generalize hR2 : hid (tSeq (tPar 8 9 _) _) = R2
            refine bent_or (P := fun q2 H2 => R2 _ [some (.ref a), some (.ref pen), some (.int (0 + (i : Int))), some (.ref D), some (.ref m), some (.str Z), some (.ref q2), some (.int (0 + (j : Int))), w8, w9, none, none, none, none, none, none, none] H2) eq fun q2 ws2 He hne se e2 hor => ?_
            have q2p : q2 ≠ pen := by
              obtain ⟨_, _, _, hpc, _⟩ := Pc.ex
              rcases hor with ⟨rfl, _⟩ | ⟨h, _⟩
              · exact fun e => by
                  obtain ⟨_, _, _, hpb, _⟩ := g6.ex
                  rw [e] at hq; rw [hpb] at hq; cases hq
              · exact (ne_of_none hpc h).symm
            have l2 : ws2.length ≤ 400 + (j + 1) := by
              rcases hor with ⟨_, rfl⟩ | ⟨_, rfl⟩
              · omega
              · show 1 ≤ _; omega
            have gw2 : ∀ x ∈ ws2, GoodW x ∧ x.length ≤ 9 := by
              rcases hor with ⟨_, rfl⟩ | ⟨_, rfl⟩
              · exact gw'
              · exact fun x hx => by rw [List.mem_singleton.mp hx]; exact odd_good _ (by decide +kernel)
            have gme := se _ _ gmc
            have Pe := Pc.same se
            rw [← hR2]
            refine hid_in ?_
            simp only [tSeq, tIfS, tOr, tAnd, tNot, tB, tTest, tCB, tCons, tNil, tVar, tC, tOp, tUn, tRet, tRetN, tDrop, tAsg, tPar, tPar3, tNext, tNever, tBreak, tCont, tAug, tChain, tAndV, tOrV, tNotV, tIf, tIsN, tNotN, tTup, tLst, tCallD, tMethD, tMakeD, tFld, tCon, sFld, sFldAug, tCallK, tSl, tPart, tNoPart, tBM, tBM0, tDGet, tDIn, tDNotIn, sDPut, tDNewK, tM0, tM1, tOrT, tAndT, tNotT, tAsg2, tAsg3, gName, rI0, rI, rU, tYes, L2.start, NdefX.startF, List.set_cons_zero, List.set_cons_succ, List.map_cons, List.map_nil, List.length_cons, List.length_nil, Nat.sub_zero, Nat.reduceSub, Nat.reduceAdd, List.replicate_succ, List.replicate_zero, List.cons_append, List.nil_append, List.append_nil, List.getElem?_cons_zero, List.getElem?_cons_succ, Option.some.injEq, exists_eq_left', exists_eq_left, exists_eq_right, exists_eq_right', exists_and_left, exists_and_right, exists_eq, exists_eq', true_and, and_true, V.int.injEq, V.str.injEq, V.bl.injEq, V.ref.injEq, V.ty.injEq, HO.ins.injEq, HO.lst.injEq, HO.tup.injEq, and_assoc, List.cons.injEq, Bool.not_true, Bool.not_false, Bool.false_eq_true, if_false, if_true, cx_K, upd_same, upd_upd, isi_str, req_ii, req_ss, rne_ii, rne_ss, radd_ii, rsub_ii, atI_at, atI_0, atI_1, atI_2, atI_3, atI_4, rLenL, rLenU, rIxLL, rIxU, reduceCtorEq, gTup, gCons, gNil, tFmt_eq, fmtV_str, fmtV_int, tJs_nil, tJs_cons, jsV_str, iKeys_eq, gSub, rSetL, tPart, tNoPart, tSl, rSlL, false_and, exists_false, or_false, false_or, List.set_cons_zero, List.set_cons_succ]
            have h1s : (" " : Str).length = 1 := by decide +kernel
            have pl := page_len (ws := ws2) (by omega) fun x hx => (gw2 x hx).2
            have sp := join_words hne fun x hx => (gw2 x hx).1.sp
            have okp := join_ok ws2 fun x hx => (gw2 x hx).1.ok
            have okw : ∀ x ∈ Txt.split (Txt.join " " ws2) " ", PyData.strOk x = true := fun x hx => (gw2 x (by rw [sp] at hx; exact hx)).1.ok
            refine ⟨ws2, .inl (SqL.of e2), by rw [h1s]; omega, ?_⟩
            generalize hpg : Txt.join " " ws2 = page at pl sp okp okw ⊢
            refine ⟨page, rfl, pl.1, okw, fun Hf sf => ?_⟩
            refine ⟨ws2, .inl (SqL.of (sf _ _ e2)), by rw [h1s]; omega, ?_⟩
            rw [hpg]
            refine hid_in ?_
            simp only [tSeq, tIfS, tOr, tAnd, tNot, tB, tTest, tCB, tCons, tNil, tVar, tC, tOp, tUn, tRet, tRetN, tDrop, tAsg, tPar, tPar3, tNext, tNever, tBreak, tCont, tAug, tChain, tAndV, tOrV, tNotV, tIf, tIsN, tNotN, tTup, tLst, tCallD, tMethD, tMakeD, tFld, tCon, sFld, sFldAug, tCallK, tSl, tPart, tNoPart, tBM, tBM0, tDGet, tDIn, tDNotIn, sDPut, tDNewK, tM0, tM1, tOrT, tAndT, tNotT, tAsg2, tAsg3, gName, rI0, rI, rU, tYes, L2.start, NdefX.startF, List.set_cons_zero, List.set_cons_succ, List.map_cons, List.map_nil, List.length_cons, List.length_nil, Nat.sub_zero, Nat.reduceSub, Nat.reduceAdd, List.replicate_succ, List.replicate_zero, List.cons_append, List.nil_append, List.append_nil, List.getElem?_cons_zero, List.getElem?_cons_succ, Option.some.injEq, exists_eq_left', exists_eq_left, exists_eq_right, exists_eq_right', exists_and_left, exists_and_right, exists_eq, exists_eq', true_and, and_true, V.int.injEq, V.str.injEq, V.bl.injEq, V.ref.injEq, V.ty.injEq, HO.ins.injEq, HO.lst.injEq, HO.tup.injEq, and_assoc, List.cons.injEq, Bool.not_true, Bool.not_false, Bool.false_eq_true, if_false, if_true, cx_K, upd_same, upd_upd, isi_str, req_ii, req_ss, rne_ii, rne_ss, radd_ii, rsub_ii, atI_at, atI_0, atI_1, atI_2, atI_3, atI_4, rLenL, rLenU, rIxLL, rIxU, reduceCtorEq, gTup, gCons, gNil, tFmt_eq, fmtV_str, fmtV_int, tJs_nil, tJs_cons, jsV_str, iKeys_eq, gSub, rSetL, tPart, tNoPart, tSl, rSlL, false_and, exists_false, or_false, false_or, List.set_cons_zero, List.set_cons_succ]
            refine ⟨.str page, rfl, .inl ⟨page, rfl, pl.1, fun es hes => page_size pl.1 hes, ?_⟩⟩
            have sef := se.trans sf
            have fin : ∀ (H' : Hp) (v8 : V), Same Hf H' → IInv a pen sl D m Z i ps (j + 1) [some (.ref a), some (.ref pen), some (.int (0 + (i : Int))), some (.ref D), some (.ref m), some (.str Z), some (.ref q2), some (.int (0 + (j : Int))), some v8, some (.str page), none, none, none, none, none, none, none] H' := fun H' v8 s' =>
              ⟨q2, ws2, _, _, _, rfl, s' _ _ (sf _ _ e2), q2p, l2, gw2, s' _ _ (sf _ _ gme), ((Pe.same sf).same s').mono (by omega) (by omega)⟩
            cases hdue : endsM (Txt.split page " ") with
            | inl k0 =>
              intro t H' s' ht
              refine ite2 (fun zz => absurd (of_decide_eq_true zz) (by intro h; cases h)) fun _ => ⟨sz_le (by show 2 ≤ 1000000; decide), fun p hp => ?_⟩
              refine ne_same (d := .tuple [.int 0, .int k0]) (.tup (SqT.of (same_upd hp _ _ ht)) (.cons (.int 0) (.cons (.int _) .nil))) (.tup (SqT.of upd_same) (.cons (.int 0) (.cons (.int _) .nil))) (pair_ok _) (by decide) ⟨false, rfl, ?_⟩
              rw [if_neg (by decide)]
              exact fin _ _ (s'.trans (same_upd hp))
            | inr es0 =>
              intro l H' s' hl0
              rw [page_back hdue] at hl0
              refine ite2 (fun _ => ⟨sz_le (by show 1 ≤ 1000000; decide), fun p hp => ?_⟩) fun zz => absurd (decide_eq_true rfl) zz
              refine ne_same (d := .list [.str page]) (.lst (SqL.of (same_upd hp _ _ hl0)) (.cons (.str _) .nil)) (.lst (SqL.of upd_same) (.cons (.str _) .nil)) (one_ok okp) (by decide) ⟨false, rfl, ?_⟩
              rw [if_neg (by decide)]
              exact fin _ _ (s'.trans (same_upd hp))
          · obtain ⟨wl, ws, w7, w8, w9, rfl, g1, g2, g3, g4, g5, g6⟩ := p
            dsimp only
            refine hid_in ?_
            simp only [tSeq, tIfS, tOr, tAnd, tNot, tB, tTest, tCB, tCons, tNil, tVar, tC, tOp, tUn, tRet, tRetN, tDrop, tAsg, tPar, tPar3, tNext, tNever, tBreak, tCont, tAug, tChain, tAndV, tOrV, tNotV, tIf, tIsN, tNotN, tTup, tLst, tCallD, tMethD, tMakeD, tFld, tCon, sFld, sFldAug, tCallK, tSl, tPart, tNoPart, tBM, tBM0, tDGet, tDIn, tDNotIn, sDPut, tDNewK, tM0, tM1, tOrT, tAndT, tNotT, tAsg2, tAsg3, gName, rI0, rI, rU, tYes, L2.start, NdefX.startF, List.set_cons_zero, List.set_cons_succ, List.map_cons, List.map_nil, List.length_cons, List.length_nil, Nat.sub_zero, Nat.reduceSub, Nat.reduceAdd, List.replicate_succ, List.replicate_zero, List.cons_append, List.nil_append, List.append_nil, List.getElem?_cons_zero, List.getElem?_cons_succ, Option.some.injEq, exists_eq_left', exists_eq_left, exists_eq_right, exists_eq_right', exists_and_left, exists_and_right, exists_eq, exists_eq', true_and, and_true, V.int.injEq, V.str.injEq, V.bl.injEq, V.ref.injEq, V.ty.injEq, HO.ins.injEq, HO.lst.injEq, HO.tup.injEq, and_assoc, List.cons.injEq, Bool.not_true, Bool.not_false, Bool.false_eq_true, if_false, if_true, cx_K, upd_same, upd_upd, isi_str, req_ii, req_ss, rne_ii, rne_ss, radd_ii, rsub_ii, atI_at, atI_0, atI_1, atI_2, atI_3, atI_4, rLenL, rLenU, rIxLL, rIxU, reduceCtorEq, gTup, gCons, gNil, tFmt_eq, fmtV_str, fmtV_int, tJs_nil, tJs_cons, jsV_str, iKeys_eq, gSub, rSetL, tPart, tNoPart, tSl, rSlL, false_and, exists_false, or_false, false_or, List.set_cons_zero, List.set_cons_succ]
            refine ⟨Nat.zero_le _, fun p0 h0 => ⟨sz_le (by decide), fun p1 h1 => ⟨sz_le (by decide), fun p2 h2 p3 h3 => ⟨sz_le (by decide), fun p4 h4 => ?_⟩⟩⟩⟩
            have s0 := same_upd (o := .tup []) h0
            have e0 : upd Ha p0 (.tup []) p0 = some (.tup []) := upd_same
            generalize upd Ha p0 (.tup []) = B0 at s0 e0 h1 h2 h3 h4 ⊢
            have s1' := same_upd (o := .lst [.str Z]) h1
            have e1 : upd B0 p1 (.lst [.str Z]) p1 = some (.lst [.str Z]) := upd_same
            generalize upd B0 p1 (.lst [.str Z]) = B1 at s1' e1 h2 h3 h4 ⊢
            have s2' := same_upd (o := .tup [.str Z]) h2
            have e2 : upd B1 p2 (.tup [.str Z]) p2 = some (.tup [.str Z]) := upd_same
            generalize upd B1 p2 (.tup [.str Z]) = B2 at s2' e2 h3 h4 ⊢
            have s3' := same_upd (o := .dK []) h3
            have e3 : upd B2 p3 (.dK []) p3 = some (.dK []) := upd_same
            generalize upd B2 p3 (.dK []) = B3 at s3' e3 h4 ⊢
            have s23 := s2'.trans s3'
            have s13 := s1'.trans s23
            have sa3 := s0.trans s13
            have P3 := g6.same sa3
            obtain ⟨_, _, _, hp3, _⟩ := P3.ex
            have n4 : p4 ≠ pen := (ne_of_none hp3 h4).symm
            have s4' := same_upd (o := .lst [.non, .int 0, .bl true, .ref p0, .ref p1, .ref p2, .ref p3, .ref m]) h4
            have P4' := P3.new h4 (o := .lst [.non, .int 0, .bl true, .ref p0, .ref p1, .ref p2, .ref p3, .ref m])
            refine ⟨pen, sl, p4, 200 * i + 100 + 3 * 4, [.non, .int 0, .bl true, .ref p0, .ref p1, .ref p2, .ref p3, .ref m], rfl, P4', by omega, upd_same, n4, by show 1 ≤ 8; decide, by show 8 ≤ 1000000; decide, fun r hr8 H1' k1 P1' => ?_⟩
            have tupNP : ∀ {b : Addr} {xs : List V}, B3 b = some (.tup xs) → H1' b = some (.tup xs) := fun {b xs} e => k1 _ _ (s4' _ _ e) (by simpa using ne_of e hp3 (by intro z; cases z))
            obtain ⟨ty, hty, hkt⟩ : ∃ t, TyX K H1' (([.non, .int 0, .bl true, .ref p0, .ref p1, .ref p2, .ref p3, .ref m] : List V)[r]'hr8) t ∧ PySem.W.kitOne K t (.type "str") = some false := by
              match r, hr8 with
              | 0, _ => exact ⟨_, .base .non, kit_ty (by decide +kernel)⟩
              | 1, _ => exact ⟨_, .base (.int 0), kit_ty (by decide +kernel)⟩
              | 2, _ => exact ⟨_, .base (.bl true), kit_ty (by decide +kernel)⟩
              | 3, _ => exact ⟨_, .base (.tup (tupNP (s13 _ _ e0))), kit_ty (by decide +kernel)⟩
              | 4, _ => exact ⟨_, .base (.lst (k1 _ _ (s4' _ _ (s23 _ _ e1)) (by simpa using (fun e => by
                  rw [← e, s23 _ _ e1] at hp3; cases hp3)))), kit_ty (by decide +kernel)⟩
              | 5, _ => exact ⟨_, .base (.tup (tupNP (s3' _ _ e2))), kit_ty (by decide +kernel)⟩
              | 6, _ => exact ⟨_, .base (.dK (k1 _ _ (s4' _ _ e3) (by simpa using (fun e => by
                  rw [← e, e3] at hp3; cases hp3)))), kit_ty (by decide +kernel)⟩
              | 7, _ => exact ⟨_, .base (.tup (tupNP (sa3 _ _ g5))), kit_ty (by decide +kernel)⟩
            refine ⟨_, rfl, .inr ⟨ty, hty, hkt, fun t2 H2' s2'' ht2 => ⟨sz_le (by show 2 ≤ 1000000; decide), fun p hp => ?_⟩⟩⟩
            refine ne_same (d := .tuple [.int 0, .int 0]) (.tup (SqT.of (same_upd hp _ _ ht2)) (.cons (.int 0) (.cons (.int _) .nil))) (.tup (SqT.of upd_same) (.cons (.int 0) (.cons (.int _) .nil))) (pair_ok _) (by decide) ⟨false, rfl, ?_⟩
            rw [if_neg (by decide)]
            exact ⟨_, _, _, _, _, _, _, _, rfl, ((P1'.same s2'').new hp).mono (by omega) (by omega)⟩
    · obtain ⟨v2, v3, v4, v5, v6, v7, v8, v9, rfl, P2⟩ := p
      dsimp only
      refine hid_in ?_
      simp only [tSeq, tIfS, tOr, tAnd, tNot, tB, tTest, tCB, tCons, tNil, tVar, tC, tOp, tUn, tRet, tRetN, tDrop, tAsg, tPar, tPar3, tNext, tNever, tBreak, tCont, tAug, tChain, tAndV, tOrV, tNotV, tIf, tIsN, tNotN, tTup, tLst, tCallD, tMethD, tMakeD, tFld, tCon, sFld, sFldAug, tCallK, tSl, tPart, tNoPart, tBM, tBM0, tDGet, tDIn, tDNotIn, sDPut, tDNewK, tM0, tM1, tOrT, tAndT, tNotT, tAsg2, tAsg3, gName, rI0, rI, rU, tYes, L2.start, NdefX.startF, List.set_cons_zero, List.set_cons_succ, List.map_cons, List.map_nil, List.length_cons, List.length_nil, Nat.sub_zero, Nat.reduceSub, Nat.reduceAdd, List.replicate_succ, List.replicate_zero, List.cons_append, List.nil_append, List.append_nil, List.getElem?_cons_zero, List.getElem?_cons_succ, Option.some.injEq, exists_eq_left', exists_eq_left, exists_eq_right, exists_eq_right', exists_and_left, exists_and_right, exists_eq, exists_eq', true_and, and_true, V.int.injEq, V.str.injEq, V.bl.injEq, V.ref.injEq, V.ty.injEq, HO.ins.injEq, HO.lst.injEq, HO.tup.injEq, and_assoc, List.cons.injEq, Bool.not_true, Bool.not_false, Bool.false_eq_true, if_false, if_true, cx_K, upd_same, upd_upd, isi_str, req_ii, req_ss, rne_ii, rne_ss, radd_ii, rsub_ii, atI_at, atI_0, atI_1, atI_2, atI_3, atI_4, rLenL, rLenU, rIxLL, rIxU, reduceCtorEq, gTup, gCons, gNil, tFmt_eq, fmtV_str, fmtV_int, tJs_nil, tJs_cons, jsV_str, iKeys_eq, gSub, rSetL, tPart, tNoPart, tSl, rSlL, false_and, exists_false, or_false, false_or, List.set_cons_zero, List.set_cons_succ]
      refine ⟨sz_le (by decide), fun l1 hl1 => ?_⟩
      refine hid_in ?_
      simp only [tSeq, tIfS, tOr, tAnd, tNot, tB, tTest, tCB, tCons, tNil, tVar, tC, tOp, tUn, tRet, tRetN, tDrop, tAsg, tPar, tPar3, tNext, tNever, tBreak, tCont, tAug, tChain, tAndV, tOrV, tNotV, tIf, tIsN, tNotN, tTup, tLst, tCallD, tMethD, tMakeD, tFld, tCon, sFld, sFldAug, tCallK, tSl, tPart, tNoPart, tBM, tBM0, tDGet, tDIn, tDNotIn, sDPut, tDNewK, tM0, tM1, tOrT, tAndT, tNotT, tAsg2, tAsg3, gName, rI0, rI, rU, tYes, L2.start, NdefX.startF, List.set_cons_zero, List.set_cons_succ, List.map_cons, List.map_nil, List.length_cons, List.length_nil, Nat.sub_zero, Nat.reduceSub, Nat.reduceAdd, List.replicate_succ, List.replicate_zero, List.cons_append, List.nil_append, List.append_nil, List.getElem?_cons_zero, List.getElem?_cons_succ, Option.some.injEq, exists_eq_left', exists_eq_left, exists_eq_right, exists_eq_right', exists_and_left, exists_and_right, exists_eq, exists_eq', true_and, and_true, V.int.injEq, V.str.injEq, V.bl.injEq, V.ref.injEq, V.ty.injEq, HO.ins.injEq, HO.lst.injEq, HO.tup.injEq, and_assoc, List.cons.injEq, Bool.not_true, Bool.not_false, Bool.false_eq_true, if_false, if_true, cx_K, upd_same, upd_upd, isi_str, req_ii, req_ss, rne_ii, rne_ss, radd_ii, rsub_ii, atI_at, atI_0, atI_1, atI_2, atI_3, atI_4, rLenL, rLenU, rIxLL, rIxU, reduceCtorEq, gTup, gCons, gNil, tFmt_eq, fmtV_str, fmtV_int, tJs_nil, tJs_cons, jsV_str, iKeys_eq, gSub, rSetL, tPart, tNoPart, tSl, rSlL, false_and, exists_false, or_false, false_or, List.set_cons_zero, List.set_cons_succ]
      refine ⟨sz_le (by decide), fun l2 hl2 => ?_⟩
      have hl21 : l2 ≠ l1 := fun e => by rw [e, upd_same] at hl2; cases hl2
      refine ⟨l1, l2, _, _, rfl, rfl, by rw [upd_ne hl21.symm, upd_same], upd_same, by rw [sizeLine_eq]; show 11 + 7 ≤ 16777216; decide, fun l3 hl3 => ?_⟩
      generalize upd (upd H2 l1 _) l2 _ = B2 at hl3 ⊢
      have g3 : upd B2 l3 (.lst (linesL.map V.str)) l3 = some (.lst (linesL.map V.str)) := upd_same
      show hid _ _ _ (upd B2 l3 (.lst (linesL.map V.str)))
      generalize upd B2 l3 (.lst (linesL.map V.str)) = B3 at g3 ⊢
      refine hid_in ?_
      simp only [tSeq, tIfS, tOr, tAnd, tNot, tB, tTest, tCB, tCons, tNil, tVar, tC, tOp, tUn, tRet, tRetN, tDrop, tAsg, tPar, tPar3, tNext, tNever, tBreak, tCont, tAug, tChain, tAndV, tOrV, tNotV, tIf, tIsN, tNotN, tTup, tLst, tCallD, tMethD, tMakeD, tFld, tCon, sFld, sFldAug, tCallK, tSl, tPart, tNoPart, tBM, tBM0, tDGet, tDIn, tDNotIn, sDPut, tDNewK, tM0, tM1, tOrT, tAndT, tNotT, tAsg2, tAsg3, gName, rI0, rI, rU, tYes, L2.start, NdefX.startF, List.set_cons_zero, List.set_cons_succ, List.map_cons, List.map_nil, List.length_cons, List.length_nil, Nat.sub_zero, Nat.reduceSub, Nat.reduceAdd, List.replicate_succ, List.replicate_zero, List.cons_append, List.nil_append, List.append_nil, List.getElem?_cons_zero, List.getElem?_cons_succ, Option.some.injEq, exists_eq_left', exists_eq_left, exists_eq_right, exists_eq_right', exists_and_left, exists_and_right, exists_eq, exists_eq', true_and, and_true, V.int.injEq, V.str.injEq, V.bl.injEq, V.ref.injEq, V.ty.injEq, HO.ins.injEq, HO.lst.injEq, HO.tup.injEq, and_assoc, List.cons.injEq, Bool.not_true, Bool.not_false, Bool.false_eq_true, if_false, if_true, cx_K, upd_same, upd_upd, isi_str, req_ii, req_ss, rne_ii, rne_ss, radd_ii, rsub_ii, atI_at, atI_0, atI_1, atI_2, atI_3, atI_4, rLenL, rLenU, rIxLL, rIxU, reduceCtorEq, gTup, gCons, gNil, tFmt_eq, fmtV_str, fmtV_int, tJs_nil, tJs_cons, jsV_str, iKeys_eq, gSub, rSetL, tPart, tNoPart, tSl, rSlL, false_and, exists_false, or_false, false_or, List.set_cons_zero, List.set_cons_succ]
      refine ⟨sz_le (by decide), fun l4 hl4 => ?_⟩
      have s34 := same_upd (o := .lst (duesL.map V.int)) hl4
      have g4 : upd B3 l4 (.lst (duesL.map V.int)) l4 = some (.lst (duesL.map V.int)) := upd_same
      show hid _ _ _ (upd B3 l4 (.lst (duesL.map V.int)))
      generalize upd B3 l4 (.lst (duesL.map V.int)) = B4 at s34 g4 ⊢
      have g34 := s34 _ _ g3
      clear g3 s34 hl4 hl3 hl2 hl1 hl21 B3 B2
      have llen : linesL.length = 18 := by decide +kernel
      have dlen : duesL.length = 18 := by decide +kernel
      have dueAt : ∀ (j : Nat) (h : j < linesL.length) (h2 : j < duesL.length), dueV (endsM (Txt.split linesL[j] " ")) = .int duesL[j] := fun j h h2 => by
        have := congrArg (fun l : List V => l[j]?) lines_due
        simp only [List.getElem?_map, List.getElem?_eq_getElem h, List.getElem?_eq_getElem h2, Option.map_some, Option.some.injEq] at this
        exact this
      refine hid_in ?_
      refine andV (a := true) (b := true) (fun Q q => ?_) (fun H5 s5 Q q => ?_) fun H' _ => k H'
      · simp only [tSeq, tIfS, tOr, tAnd, tNot, tB, tTest, tCB, tCons, tNil, tVar, tC, tOp, tUn, tRet, tRetN, tDrop, tAsg, tPar, tPar3, tNext, tNever, tBreak, tCont, tAug, tChain, tAndV, tOrV, tNotV, tIf, tIsN, tNotN, tTup, tLst, tCallD, tMethD, tMakeD, tFld, tCon, sFld, sFldAug, tCallK, tSl, tPart, tNoPart, tBM, tBM0, tDGet, tDIn, tDNotIn, sDPut, tDNewK, tM0, tM1, tOrT, tAndT, tNotT, tAsg2, tAsg3, gName, rI0, rI, rU, tYes, L2.start, NdefX.startF, List.set_cons_zero, List.set_cons_succ, List.map_cons, List.map_nil, List.length_cons, List.length_nil, Nat.sub_zero, Nat.reduceSub, Nat.reduceAdd, List.replicate_succ, List.replicate_zero, List.cons_append, List.nil_append, List.append_nil, List.getElem?_cons_zero, List.getElem?_cons_succ, Option.some.injEq, exists_eq_left', exists_eq_left, exists_eq_right, exists_eq_right', exists_and_left, exists_and_right, exists_eq, exists_eq', true_and, and_true, V.int.injEq, V.str.injEq, V.bl.injEq, V.ref.injEq, V.ty.injEq, HO.ins.injEq, HO.lst.injEq, HO.tup.injEq, and_assoc, List.cons.injEq, Bool.not_true, Bool.not_false, Bool.false_eq_true, if_false, if_true, cx_K, upd_same, upd_upd, isi_str, req_ii, req_ss, rne_ii, rne_ss, radd_ii, rsub_ii, atI_at, atI_0, atI_1, atI_2, atI_3, atI_4, rLenL, rLenU, rIxLL, rIxU, reduceCtorEq, gTup, gCons, gNil, tFmt_eq, fmtV_str, fmtV_int, tJs_nil, tJs_cons, jsV_str, iKeys_eq, gSub, rSetL, tPart, tNoPart, tSl, rSlL, false_and, exists_false, or_false, false_or, List.set_cons_zero, List.set_cons_succ]
        refine tLc_grow (walk_list (xs := linesL.map V.str)) (hw_lst (fun Q q => ⟨_, rfl, q⟩) g34) (fun j => dueV (endsM (Txt.split (linesL.getD j "") " "))) (by rw [List.length_map, llen]; decide) (fun _ s => SqL.of (s _ _ g34)) (fun j x Ha Hb hj s8 y R hR => ?_) fun D6 H6 hD6 s6 e6 => ?_
        · obtain ⟨rfl, hx⟩ := y
          simp only [List.length_map] at hj
          simp only [List.getElem?_map, List.getElem?_eq_getElem hj, Option.map_some, Option.some.injEq] at hx
          subst hx
          rw [show linesL.getD j ("" : Str) = linesL[j] by rw [List.getD_eq_getElem?_getD, List.getElem?_eq_getElem hj, Option.getD_some]] at hR
          obtain ⟨z1, z2⟩ := lines_ok _ (List.getElem_mem hj)
          simp only [tSeq, tIfS, tOr, tAnd, tNot, tB, tTest, tCB, tCons, tNil, tVar, tC, tOp, tUn, tRet, tRetN, tDrop, tAsg, tPar, tPar3, tNext, tNever, tBreak, tCont, tAug, tChain, tAndV, tOrV, tNotV, tIf, tIsN, tNotN, tTup, tLst, tCallD, tMethD, tMakeD, tFld, tCon, sFld, sFldAug, tCallK, tSl, tPart, tNoPart, tBM, tBM0, tDGet, tDIn, tDNotIn, sDPut, tDNewK, tM0, tM1, tOrT, tAndT, tNotT, tAsg2, tAsg3, gName, rI0, rI, rU, tYes, L2.start, NdefX.startF, List.set_cons_zero, List.set_cons_succ, List.map_cons, List.map_nil, List.length_cons, List.length_nil, Nat.sub_zero, Nat.reduceSub, Nat.reduceAdd, List.replicate_succ, List.replicate_zero, List.cons_append, List.nil_append, List.append_nil, List.getElem?_cons_zero, List.getElem?_cons_succ, Option.some.injEq, exists_eq_left', exists_eq_left, exists_eq_right, exists_eq_right', exists_and_left, exists_and_right, exists_eq, exists_eq', true_and, and_true, V.int.injEq, V.str.injEq, V.bl.injEq, V.ref.injEq, V.ty.injEq, HO.ins.injEq, HO.lst.injEq, HO.tup.injEq, and_assoc, List.cons.injEq, Bool.not_true, Bool.not_false, Bool.false_eq_true, if_false, if_true, cx_K, upd_same, upd_upd, isi_str, req_ii, req_ss, rne_ii, rne_ss, radd_ii, rsub_ii, atI_at, atI_0, atI_1, atI_2, atI_3, atI_4, rLenL, rLenU, rIxLL, rIxU, reduceCtorEq, gTup, gCons, gNil, tFmt_eq, fmtV_str, fmtV_int, tJs_nil, tJs_cons, jsV_str, iKeys_eq, gSub, rSetL, tPart, tNoPart, tSl, rSlL, false_and, exists_false, or_false, false_or, List.set_cons_zero, List.set_cons_succ, wipe]
          exact ⟨_, rfl, z1, z2, fun H' s' => hR H' s'⟩
        · rw [List.length_map, range_get linesL ("" : Str) (fun z => dueV (endsM (Txt.split z " "))), lines_due] at e6
          exact eq_same (dp_ints (SqL.of e6)) (dp_ints (SqL.of (s6 _ _ g4))) (ok_ints _) (by decide) (q _ s6)
      · have g35 := s5 _ _ g34
        have g45 := s5 _ _ g4
        simp only [tSeq, tIfS, tOr, tAnd, tNot, tB, tTest, tCB, tCons, tNil, tVar, tC, tOp, tUn, tRet, tRetN, tDrop, tAsg, tPar, tPar3, tNext, tNever, tBreak, tCont, tAug, tChain, tAndV, tOrV, tNotV, tIf, tIsN, tNotN, tTup, tLst, tCallD, tMethD, tMakeD, tFld, tCon, sFld, sFldAug, tCallK, tSl, tPart, tNoPart, tBM, tBM0, tDGet, tDIn, tDNotIn, sDPut, tDNewK, tM0, tM1, tOrT, tAndT, tNotT, tAsg2, tAsg3, gName, rI0, rI, rU, tYes, L2.start, NdefX.startF, List.set_cons_zero, List.set_cons_succ, List.map_cons, List.map_nil, List.length_cons, List.length_nil, Nat.sub_zero, Nat.reduceSub, Nat.reduceAdd, List.replicate_succ, List.replicate_zero, List.cons_append, List.nil_append, List.append_nil, List.getElem?_cons_zero, List.getElem?_cons_succ, Option.some.injEq, exists_eq_left', exists_eq_left, exists_eq_right, exists_eq_right', exists_and_left, exists_and_right, exists_eq, exists_eq', true_and, and_true, V.int.injEq, V.str.injEq, V.bl.injEq, V.ref.injEq, V.ty.injEq, HO.ins.injEq, HO.lst.injEq, HO.tup.injEq, and_assoc, List.cons.injEq, Bool.not_true, Bool.not_false, Bool.false_eq_true, if_false, if_true, cx_K, upd_same, upd_upd, isi_str, req_ii, req_ss, rne_ii, rne_ss, radd_ii, rsub_ii, atI_at, atI_0, atI_1, atI_2, atI_3, atI_4, rLenL, rLenU, rIxLL, rIxU, reduceCtorEq, gTup, gCons, gNil, tFmt_eq, fmtV_str, fmtV_int, tJs_nil, tJs_cons, jsV_str, iKeys_eq, gSub, rSetL, tPart, tNoPart, tSl, rSlL, false_and, exists_false, or_false, false_or, List.set_cons_zero, List.set_cons_succ]
        refine tLcIf_it (walk_list (xs := linesL.map V.str)) (hw_lst (fun Q q => ⟨_, rfl, q⟩) g35) (fun D j H' => ∃ ts : List Addr, H' D = some (.lst (ts.map V.ref)) ∧ Paired (fun (t : Addr) (d : Int) => H' t = some (.tup [.int 0, .int d])) ts (duesL.take j) ∧ ts.length = j ∧ Same H5 H' ∧ H5 D = none)
          (fun D hD => ⟨[], upd_same, .nil, rfl, same_upd hD, hD⟩) (fun D j H' _ p => ?_) (fun D j x Ha Hb hj p y => ?_) fun D H6 hD p => ?_
        · obtain ⟨ts, _, _, _, s', _⟩ := p
          exact SqL.of (s' _ _ g35)
        · obtain ⟨ts, w1, w2, w3, w4, w5⟩ := p
          obtain ⟨rfl, hx⟩ := y
          simp only [List.length_map] at hj
          simp only [List.getElem?_map, List.getElem?_eq_getElem hj, Option.map_some, Option.some.injEq] at hx
          subst hx
          have hj2 : j < duesL.length := by omega
          obtain ⟨z1, z2⟩ := lines_ok _ (List.getElem_mem hj)
          obtain ⟨n, hn, hnd⟩ := due_inl (dueAt j hj hj2)
          simp only [tSeq, tIfS, tOr, tAnd, tNot, tB, tTest, tCB, tCons, tNil, tVar, tC, tOp, tUn, tRet, tRetN, tDrop, tAsg, tPar, tPar3, tNext, tNever, tBreak, tCont, tAug, tChain, tAndV, tOrV, tNotV, tIf, tIsN, tNotN, tTup, tLst, tCallD, tMethD, tMakeD, tFld, tCon, sFld, sFldAug, tCallK, tSl, tPart, tNoPart, tBM, tBM0, tDGet, tDIn, tDNotIn, sDPut, tDNewK, tM0, tM1, tOrT, tAndT, tNotT, tAsg2, tAsg3, gName, rI0, rI, rU, tYes, L2.start, NdefX.startF, List.set_cons_zero, List.set_cons_succ, List.map_cons, List.map_nil, List.length_cons, List.length_nil, Nat.sub_zero, Nat.reduceSub, Nat.reduceAdd, List.replicate_succ, List.replicate_zero, List.cons_append, List.nil_append, List.append_nil, List.getElem?_cons_zero, List.getElem?_cons_succ, Option.some.injEq, exists_eq_left', exists_eq_left, exists_eq_right, exists_eq_right', exists_and_left, exists_and_right, exists_eq, exists_eq', true_and, and_true, V.int.injEq, V.str.injEq, V.bl.injEq, V.ref.injEq, V.ty.injEq, HO.ins.injEq, HO.lst.injEq, HO.tup.injEq, and_assoc, List.cons.injEq, Bool.not_true, Bool.not_false, Bool.false_eq_true, if_false, if_true, cx_K, upd_same, upd_upd, isi_str, req_ii, req_ss, rne_ii, rne_ss, radd_ii, rsub_ii, atI_at, atI_0, atI_1, atI_2, atI_3, atI_4, rLenL, rLenU, rIxLL, rIxU, reduceCtorEq, gTup, gCons, gNil, tFmt_eq, fmtV_str, fmtV_int, tJs_nil, tJs_cons, jsV_str, iKeys_eq, gSub, rSetL, tPart, tNoPart, tSl, rSlL, false_and, exists_false, or_false, false_or, List.set_cons_zero, List.set_cons_succ, wipe]
          have hvv : ∀ (Q : VK) (H : Hp), heardV Q H (.inl n) → heardV Q H (endsM (Txt.split (linesL[j]'hj) " ")) := fun Q H h => hn.symm ▸ h
          refine ⟨_, rfl, .inl ⟨linesL[j]'hj, rfl, z1, fun es hes => page_size z1 hes, hvv _ _ fun t H' s' ht => ?_⟩⟩
          have wd := s' _ _ w1
          refine ⟨_, wd, sz_lt (by rw [List.length_map]; omega), ts ++ [t], by rw [List.map_append]; rfl, ?_, by simp [w3], same_upd2 (w4.trans s') w5, w5⟩
          rw [List.take_succ, List.getElem?_eq_getElem hj2]
          have nt : ∀ {b : Addr} {xs : List V}, H' b = some (.tup xs) → upd H' D (.lst (ts.map V.ref ++ [V.ref t])) b = some (.tup xs) := fun {b xs} e => by rw [upd_ne (ne_of e wd (by intro z; cases z))]; exact e
          refine (paired_imp (fun p x e => nt (s' _ _ e)) w2).snoc (nt ?_)
          rw [ht, ← hnd]
        · obtain ⟨ts, w1, w2, w3, w4, w5⟩ := p
          have g46 := w4 _ _ g45
          refine tLcIf_it (walk_list (xs := duesL.map V.int)) (hw_lst (fun Q q => ⟨_, rfl, q⟩) g46) (fun D j H' => ∃ ts : List Addr, H' D = some (.lst (ts.map V.ref)) ∧ Paired (fun (t : Addr) (d : Int) => H' t = some (.tup [.int 0, .int d])) ts (duesL.take j) ∧ ts.length = j ∧ Same H6 H' ∧ H6 D = none)
            (fun D hD => ⟨[], upd_same, .nil, rfl, same_upd hD, hD⟩) (fun D j H' _ p => ?_) (fun D2 j x Ha Hb hj p y => ?_) fun D2 H7 hD2 p => ?_
          · obtain ⟨ts, _, _, _, s', _⟩ := p
            exact SqL.of (s' _ _ g46)
          · obtain ⟨ts2, w1', w2', w3', w4', w5'⟩ := p
            obtain ⟨rfl, hx⟩ := y
            simp only [List.length_map] at hj
            simp only [List.getElem?_map, List.getElem?_eq_getElem hj, Option.map_some, Option.some.injEq] at hx
            subst hx
            simp only [tSeq, tIfS, tOr, tAnd, tNot, tB, tTest, tCB, tCons, tNil, tVar, tC, tOp, tUn, tRet, tRetN, tDrop, tAsg, tPar, tPar3, tNext, tNever, tBreak, tCont, tAug, tChain, tAndV, tOrV, tNotV, tIf, tIsN, tNotN, tTup, tLst, tCallD, tMethD, tMakeD, tFld, tCon, sFld, sFldAug, tCallK, tSl, tPart, tNoPart, tBM, tBM0, tDGet, tDIn, tDNotIn, sDPut, tDNewK, tM0, tM1, tOrT, tAndT, tNotT, tAsg2, tAsg3, gName, rI0, rI, rU, tYes, L2.start, NdefX.startF, List.set_cons_zero, List.set_cons_succ, List.map_cons, List.map_nil, List.length_cons, List.length_nil, Nat.sub_zero, Nat.reduceSub, Nat.reduceAdd, List.replicate_succ, List.replicate_zero, List.cons_append, List.nil_append, List.append_nil, List.getElem?_cons_zero, List.getElem?_cons_succ, Option.some.injEq, exists_eq_left', exists_eq_left, exists_eq_right, exists_eq_right', exists_and_left, exists_and_right, exists_eq, exists_eq', true_and, and_true, V.int.injEq, V.str.injEq, V.bl.injEq, V.ref.injEq, V.ty.injEq, HO.ins.injEq, HO.lst.injEq, HO.tup.injEq, and_assoc, List.cons.injEq, Bool.not_true, Bool.not_false, Bool.false_eq_true, if_false, if_true, cx_K, upd_same, upd_upd, isi_str, req_ii, req_ss, rne_ii, rne_ss, radd_ii, rsub_ii, atI_at, atI_0, atI_1, atI_2, atI_3, atI_4, rLenL, rLenU, rIxLL, rIxU, reduceCtorEq, gTup, gCons, gNil, tFmt_eq, fmtV_str, fmtV_int, tJs_nil, tJs_cons, jsV_str, iKeys_eq, gSub, rSetL, tPart, tNoPart, tSl, rSlL, false_and, exists_false, or_false, false_or, List.set_cons_zero, List.set_cons_succ, wipe]
            refine ⟨sz_le (by show 2 ≤ 1000000; decide), fun t ht => ?_⟩
            have s' := same_upd (o := .tup [.int 0, .int duesL[j]]) ht
            have et : upd Hb t (.tup [.int 0, .int duesL[j]]) t = some (.tup [.int 0, .int duesL[j]]) := upd_same
            generalize upd Hb t (.tup [.int 0, .int duesL[j]]) = H' at s' et ⊢
            have wd := s' _ _ w1'
            refine ⟨_, wd, sz_lt (by rw [List.length_map]; omega), ts2 ++ [t], by rw [List.map_append]; rfl, ?_, by simp [w3'], same_upd2 (w4'.trans s') w5', w5'⟩
            rw [List.take_succ, List.getElem?_eq_getElem hj]
            have nt : ∀ {b : Addr} {xs : List V}, H' b = some (.tup xs) → upd H' D2 (.lst (ts2.map V.ref ++ [V.ref t])) b = some (.tup xs) := fun {b xs} e => by rw [upd_ne (ne_of e wd (by intro z; cases z))]; exact e
            exact (paired_imp (fun p x e => nt (s' _ _ e)) w2').snoc (nt et)
          · obtain ⟨ts2, w1', w2', w3', w4', w5'⟩ := p
            have tk : duesL.take (List.length (linesL.map V.str)) = duesL := by rw [List.length_map, llen, ← dlen, List.take_length]
            have tk2 : duesL.take (List.length (duesL.map V.int)) = duesL := by rw [List.length_map, List.take_length]
            rw [tk] at w2
            rw [tk2] at w2'
            have dpl : ∀ {Hx : Hp} {l : List Addr} {ds : List Int}, Paired (fun (t : Addr) (d : Int) => Hx t = some (.tup [.int 0, .int d])) l ds → DpAll K Hx (l.map V.ref) (ds.map fun d => .tuple [.int 0, .int d]) := by
              intro Hx l ds h
              induction h with
              | nil => exact .nil
              | cons a r ih => exact .cons (.tup (SqT.of a) (.cons (.int 0) (.cons (.int _) .nil))) ih
            have okd : DOk 2 (.list (duesL.map fun d => .tuple [.int 0, .int d])) := DOk.list (n := 1) fun d hd => by
              obtain ⟨x, _, rfl⟩ := List.mem_map.mp hd
              exact pair_ok x
            exact eq_same (.lst (SqL.of (w4' _ _ w1)) (dpl (paired_imp (fun p x e => w4' _ _ e) w2))) (.lst (SqL.of w1') (dpl w2')) okd (by decide) (q _ (w4.trans w4'))
end
end Ky

set_option Elab.async false
set_option maxRecDepth 100000
set_option maxHeartbeats 0
set_option linter.all false
namespace Ky
open PySem L2 Ly
/-! ### what the top has left -/
def DefF (K : PySem.W.Frag) (x : Str) (st : Stmt) : Prop := ∃ f fd, PySem.W.nsIn K mainGlobals x = some (some (.ref f)) ∧ Fun K x x st f fd
def MetF (K : PySem.W.Frag) (C : Addr) (m qual : Str) (st : Stmt) : Prop := ∃ f fd, PySem.W.findIn K (.ref C) m = some (some (.ref f)) ∧ PySem.W.isFn K (.ref f) = true ∧ Fun K m qual st f fd
def SupF (K : PySem.W.Frag) (C : Addr) (qual : Str) (st : Stmt) : Prop := ∃ (f cc cda : Addr) (oc : Value) (od : Option Addr) (kV doc pm : Value) (an : Option Addr) (ct : Value) (osl : Array (Option Value)) (oc2 : Value) (od2 : Option Addr) (osl2 : Array (Option Value)) (vs : Array Value) (file : Str) (tf : Tok) (oc3 : Value) (od3 : Option Addr) (osl3 : Array (Option Value)) (cd : ClassData),
  PySem.W.findIn K (.ref C) "__init__" = some (some (.ref f)) ∧ PySem.W.isFn K (.ref f) = true ∧ PySem.W.typeIn K (.ref f) = some (.type "function") ∧ K.lookup f = some ⟨oc, od, .func (PySem.W.fnX "__init__" qual (defArgs st) (defBody st) (defScope st) [("__class__", cc)] .none kV doc pm an (.ref cda) ct), osl⟩ ∧ PySem.W.codeIn K (.ref cda) qual = true ∧
    K.lookup cda = some ⟨oc2, od2, .fields vs, osl2⟩ ∧ vs[2]? = some (.str file tf) ∧ ((PP.main.file : Str) == file) = true ∧ K.lookup cc = some ⟨oc3, od3, .cell (some (.ref C)), osl3⟩ ∧ PySem.W.clsIn K C = some cd
theorem defF_mk {K : PySem.W.Frag} {x : Str} {st : Stmt} {f : Addr} {oc : Value} {od an : Option Addr} {osl : Array (Option Value)} {kV doc pm cdv ct : Value} (a : PySem.W.nsIn K mainGlobals x = some (some (.ref f))) (l : K.lookup f = some ⟨oc, od, .func (PySem.W.fnOf x x (defArgs st) (defBody st) (defScope st) .none kV doc pm an cdv ct), osl⟩) (c : PySem.W.codeIn K cdv x = true) (k : PySem.W.keepIn K (.ref f) = true) : DefF K x st := ⟨f, _, a, fun_mk l c k⟩
theorem metF_mk {K : PySem.W.Frag} {C : Addr} {x q : Str} {st : Stmt} {f : Addr} {oc : Value} {od an : Option Addr} {osl : Array (Option Value)} {kV doc pm cdv ct : Value} (a : PySem.W.findIn K (.ref C) x = some (some (.ref f))) (i : PySem.W.isFn K (.ref f) = true) (l : K.lookup f = some ⟨oc, od, .func (PySem.W.fnOf x q (defArgs st) (defBody st) (defScope st) .none kV doc pm an cdv ct), osl⟩) (c : PySem.W.codeIn K cdv q = true) (k : PySem.W.keepIn K (.ref f) = true) : MetF K C x q st := ⟨f, _, a, i, fun_mk l c k⟩
theorem pfun_mk {K : PySem.W.Frag} {x q : Str} {st : Stmt} {f : Addr} {oc : Value} {od an : Option Addr} {osl : Array (Option Value)} {kV doc pm cdv ct : Value} (l : K.lookup f = some ⟨oc, od, .func (PySem.W.fnOf x q (defArgs st) (defBody st) (defScope st) .none kV doc pm an cdv ct), osl⟩) (c : PySem.W.codeIn K cdv q = true) (k : PySem.W.keepIn K (.ref f) = true) : ∃ fd, Fun K x q st f fd := ⟨_, fun_mk l c k⟩
theorem supF_mk {K : PySem.W.Frag} {C : Addr} {qual : Str} {st : Stmt} {f cc cda : Addr} {oc : Value} {od : Option Addr} {kV doc pm : Value} {an : Option Addr} {ct : Value} {osl : Array (Option Value)} {oc2 : Value} {od2 : Option Addr} {osl2 : Array (Option Value)} {vs : Array Value} {file : Str} {tf : Tok} {oc3 : Value} {od3 : Option Addr} {osl3 : Array (Option Value)} {cd : ClassData}
    (a : PySem.W.findIn K (.ref C) "__init__" = some (some (.ref f))) (i : PySem.W.isFn K (.ref f) = true) (t : PySem.W.typeIn K (.ref f) = some (.type "function")) (l : K.lookup f = some ⟨oc, od, .func (PySem.W.fnX "__init__" qual (defArgs st) (defBody st) (defScope st) [("__class__", cc)] .none kV doc pm an (.ref cda) ct), osl⟩) (c : PySem.W.codeIn K (.ref cda) qual = true)
    (g : K.lookup cda = some ⟨oc2, od2, .fields vs, osl2⟩) (v : vs[2]? = some (.str file tf)) (w : ((PP.main.file : Str) == file) = true) (e : K.lookup cc = some ⟨oc3, od3, .cell (some (.ref C)), osl3⟩) (d : PySem.W.clsIn K C = some cd) : SupF K C qual st :=
  ⟨f, cc, cda, oc, od, kV, doc, pm, an, ct, osl, oc2, od2, osl2, vs, file, tf, oc3, od3, osl3, cd, a, i, t, l, c, g, v, w, e, d⟩
theorem DefF.df {w : World} {K : PySem.W.Frag} {h : Heap} {mg : Str → Option Value} {base : Heap} (X : K.In h) (G : h.Ns mainGlobals mg) {x : Str} {st : Stmt} {k : Nat} {ps : List Str} {sp : Sp} (d : DefF K x st) (ok : ∀ {f : Addr} {fd : FuncData}, Fun K x x st f fd → FnOk PP w K mg base (L2.CX PP w) k f fd ps sp)
    (hb : ∀ (kV doc pm : Value) (an : Option Addr) (cdv ct : Value) (us : List Value), us.length = ps.length → bindArgs (PySem.W.fnOf x x (defArgs st) (defBody st) (defScope st) .none kV doc pm an cdv ct) ⟨us, []⟩ = pure (ps.zip us)) : Df PP w K mg base k x ps sp := by
  obtain ⟨f, fd, a, F⟩ := d
  exact ⟨f, fd, ok F, PySem.W.mg_of X G a, F.kp, F.binds hb⟩
theorem MetF.dm {w : World} {K : PySem.W.Frag} {mg : Str → Option Value} {base : Heap} {C : Addr} {m qual : Str} {st : Stmt} {k : Nat} {ps : List Str} {sp : Sp} (d : MetF K C m qual st) (c : Cls K C) (ok : ∀ {f : Addr} {fd : FuncData}, Fun K m qual st f fd → FnOk PP w K mg base (L2.CX PP w) k f fd ps sp)
    (hb : ∀ (kV doc pm : Value) (an : Option Addr) (cdv ct : Value) (us : List Value), us.length = ps.length → bindArgs (PySem.W.fnOf m qual (defArgs st) (defBody st) (defScope st) .none kV doc pm an cdv ct) ⟨us, []⟩ = pure (ps.zip us)) : Dm PP w K mg base k C m ps sp := by
  obtain ⟨f, fd, a, i, F⟩ := d
  exact ⟨f, fd, ok F, c, ⟨a, i, F.kp⟩, F.binds hb⟩

theorem seq_at {K : PySem.W.Frag} {a : Addr} {l : List Str} (h : ∃ (od : Option Addr) (sl : Array (Option Value)) (n : Nat) (its : Array Value), K.lookup a = some ⟨.type "tuple", od, .seq its n, sl⟩ ∧ (its.toList.map absV) = (l.map fun s => some (V.str s))) (hl : l.length ≤ 1000) (H : Hp) : SqT K H a (l.map V.str) := by
  obtain ⟨od, sl, n, its, e, m⟩ := h
  refine .inr ⟨_, its, n, e, rfl, rfl, ?_, ?_⟩
  · have := congrArg List.length m
    rw [List.length_map, List.length_map, Array.length_toList] at this
    rw [sizeLine_eq]; omega
  · have key : ∀ (us : List Value) (l : List Str), us.map absV = l.map (fun s => some (V.str s)) → Vals (l.map V.str) us := by
      intro us
      induction us with
      | nil => intro l h; cases l with | nil => exact .nil | cons a r => cases h
      | cons u r ih =>
        intro l h
        cases l with
        | nil => cases h
        | cons a t =>
          rw [List.map_cons, List.map_cons] at h
          injection h with h1 h2
          refine .cons ?_ (ih t h2)
          cases u <;> first | (simp only [absV] at h1; cases h1; exact ⟨_, rfl⟩) | (simp [absV] at h1)
    exact key _ _ m
theorem all_mk {w : World} {K : PySem.W.Frag} {h : Heap} {mg : Str → Option Value} {fa CW CE CP CB CL aK aF gP : Addr} {tL tM tW : Tok} {nm q N bs bm sn sub ab col dd k0 k1 k2 k3 k5} {odK odF : Option Addr} {slK slF : Array (Option Value)} {nK nF : Nat} {itsK itsF : Array Value} (X : K.In h) (G : h.Ns mainGlobals mg) (hfa : mg "law" = some (.ref fa))
    (gCW : PySem.W.nsIn K mainGlobals "Words" = some (some (.ref CW)))
    (gCE : PySem.W.nsIn K mainGlobals "End" = some (some (.ref CE)))
    (gCP : PySem.W.nsIn K mainGlobals "Paper" = some (some (.ref CP)))
    (gCB : PySem.W.nsIn K mainGlobals "BadText" = some (some (.ref CB)))
    (gCL : PySem.W.nsIn K mainGlobals "LayerError" = some (some (.ref CL)))
    (gK : PySem.W.nsIn K mainGlobals "KEPT" = some (some (.ref aK)))
    (gF : PySem.W.nsIn K mainGlobals "FIGURES" = some (some (.ref aF)))
    (gLe : PySem.W.nsIn K mainGlobals "LETTERS" = some (some (.str "abcdefghijklmnopqrstuvwxyz" tL)))
    (gMo : PySem.W.nsIn K mainGlobals "MOST_LETTERS" = some (some (.int 8 tM)))
    (lK : K.lookup aK = some ⟨.type "tuple", odK, .seq itsK nK, slK⟩)
    (mK : (itsK.toList.map absV) = (keptL.map fun s => some (V.str s)))
    (lF : K.lookup aF = some ⟨.type "tuple", odF, .seq itsF nF, slF⟩)
    (mF : (itsF.toList.map absV) = (figL.map fun s => some (V.str s)))
    (z_len : PySem.W.nsIn K mainGlobals "len" = some none)
    (z_all : PySem.W.nsIn K mainGlobals "all" = some none)
    (z_isinstance : PySem.W.nsIn K mainGlobals "isinstance" = some none)
    (z_str : PySem.W.nsIn K mainGlobals "str" = some none)
    (z_int : PySem.W.nsIn K mainGlobals "int" = some none)
    (z_list : PySem.W.nsIn K mainGlobals "list" = some none)
    (z_tuple : PySem.W.nsIn K mainGlobals "tuple" = some none)
    (z_abs : PySem.W.nsIn K mainGlobals "abs" = some none)
    (z_range : PySem.W.nsIn K mainGlobals "range" = some none)
    (z_dict : PySem.W.nsIn K mainGlobals "dict" = some none)
    (z_ValueError : PySem.W.nsIn K mainGlobals "ValueError" = some none)
    (z_super : PySem.W.nsIn K mainGlobals "super" = some none)
    (d_is_word : DefF K "is_word" s_is_word)
    (d_is_name : DefF K "is_name" s_is_name)
    (d_ends_text : DefF K "ends_text" s_ends_text)
    (d_last_of : DefF K "last_of" s_last_of)
    (d_read_thing : DefF K "read_thing" s_read_thing)
    (d_read_end : DefF K "read_end" s_read_end)
    (d_read_ends : DefF K "read_ends" s_read_ends)
    (d__law_pen : DefF K "_law_pen" s__law_pen)
    (d__law_draw : DefF K "_law_draw" s__law_draw)
    (d__law_pick : DefF K "_law_pick" s__law_pick)
    (d__law_plain : DefF K "_law_plain" s__law_plain)
    (d__law_line : DefF K "_law_line" s__law_line)
    (d__law_is_said : DefF K "_law_is_said" s__law_is_said)
    (d__law_is_name : DefF K "_law_is_name" s__law_is_name)
    (d__law_after_thing : DefF K "_law_after_thing" s__law_after_thing)
    (d__law_after_end : DefF K "_law_after_end" s__law_after_end)
    (d__law_due : DefF K "_law_due" s__law_due)
    (d__law_heard : DefF K "_law_heard" s__law_heard)
    (d__law_bent : DefF K "_law_bent" s__law_bent)
    (d_law : DefF K "law" s_law)
    (m_is_next : MetF K CW "is_next" "Words.is_next" s_Words_is_next)
    (m_refuse : MetF K CW "refuse" "Words.refuse" s_Words_refuse)
    (m_take : MetF K CW "take" "Words.take" s_Words_take)
    (m_take_one : MetF K CW "take_one" "Words.take_one" s_Words_take_one)
    (m_take_name : MetF K CW "take_name" "Words.take_name" s_Words_take_name)
    (m_take_said : MetF K CW "take_said" "Words.take_said" s_Words_take_said)
    (m_take_figure : MetF K CW "take_figure" "Words.take_figure" s_Words_take_figure)
    (m_end : MetF K CW "end" "Words.end" s_Words_end)
    (m_init : MetF K CW "__init__" "Words.__init__" s_Words___init__)
    (m_eq : MetF K CE "__eq__" "Paper.__eq__" s_Paper___eq__)
    (m_str : MetF K CE "__str__" "End.__str__" s_End___str__)
    (s_bt : SupF K CB "BadText.__init__" s_BadText___init__)
    (s_ei : SupF K CE "End.__init__" s_End___init__)
    (p_fun : ∃ fd, Fun K "__init__" "Paper.__init__" s_Paper___init__ gP fd)
    (pg_CW : PySem.W.plainGet K CW Str.empty = true)
    (hd_CW : PySem.W.hasDictIn K CW = true)
    (po_CW : PySem.W.plainOver K CW = true)
    (sa_CW : PySem.W.findIn K (.ref CW) "__setattr__" = some (some (.builtin "object.__setattr__")))
    (mk_CW : PySem.W.makesIn K CW = true)
    (kp_CW : PySem.W.keepIn K (.ref CW) = true)
    (pg_CE : PySem.W.plainGet K CE Str.empty = true)
    (hd_CE : PySem.W.hasDictIn K CE = true)
    (po_CE : PySem.W.plainOver K CE = true)
    (sa_CE : PySem.W.findIn K (.ref CE) "__setattr__" = some (some (.builtin "object.__setattr__")))
    (mk_CE : PySem.W.makesIn K CE = true)
    (kp_CE : PySem.W.keepIn K (.ref CE) = true)
    (n_CW_words : PySem.W.findIn K (.ref CW) "words" = some none)
    (n_CW_spot : PySem.W.findIn K (.ref CW) "spot" = some none)
    (n_CW_open_blocks : PySem.W.findIn K (.ref CW) "open_blocks" = some none)
    (n_CE_own_parts : PySem.W.findIn K (.ref CE) "own_parts" = some none)
    (n_CE_failed : PySem.W.findIn K (.ref CE) "failed" = some none)
    (n_CE_cells : PySem.W.findIn K (.ref CE) "cells" = some none)
    (n_CE_logs : PySem.W.findIn K (.ref CE) "logs" = some none)
    (wd : PySem.W.findIn K (.ref CE) "WORD" = some (some (.str "end" tW)))
    (wg : PySem.W.specialIn K (.str "end" tW) "__get__" = some none)
    (ca : PySem.W.findIn K (.ref CE) "__class__" = some (some (.builtin "object.__class__")))
    (cg : PySem.W.specialIn K (.builtin "object.__class__") "__get__" = some (some (.builtin "getset_descriptor.__get__")))
    (ct : PySem.W.takesIn K (.builtin "object.__class__") = some true)
    (cm : PySem.W.mroIn K CE (.type "object") = some true)
    (kEP : PySem.W.kitOne K (.ref CE) (.ref CP) = some true)
    (u1 : PySem.W.mroIn K CE (.ref CE) = some true)
    (u0 : PySem.W.findIn K (.ref CP) "__init__" = some (some (.ref gP)))
    (u2 : PySem.W.ks_superIn K CE CE "__init__" = some (some (.ref gP)))
    (u3 : PySem.W.typeIn K (.ref gP) = some (.type "function"))
    (u4 : PySem.W.fnIn K gP = true)
    (u5 : PySem.W.nsIn K cStatics "thirdparty.any" = some none)
    (x1 : PySem.W.mroIn K CB (.ref CB) = some true)
    (x2 : PySem.W.ks_superIn K CB CB "__init__" = some (some (.builtin "ValueError.__init__")))
    (x3 : PySem.W.subIn K (.ref CB) (.type "ValueError") = some true)
    (o1 : K.lookup CB = some (excClassObj nm q CB N bs bm true sn sub ab col dd k0 k1 k2 k3 k5 "ValueError.__new__"))
    (o2 : PySem.HandSPX.refsVE bm = true)
    (o3 : PySem.W.findIn K (.ref CB) "__setattr__" = some (some (.builtin "object.__setattr__")))
    (o4 : PySem.W.subIn K (.ref CB) (.type "BaseException") = some true)
    (o5 : PySem.W.typeIn K (.ref CB) = some (.type "type"))
    (o6 : PySem.W.keepIn K (.ref CB) = true)
    (b1 : PySem.W.findIn K (.ref CB) "line" = some none)
    (b2 : PySem.W.findIn K (.ref CB) "word" = some none)
    (b3 : PySem.W.findIn K (.ref CB) "__getattribute__" = some (some (.builtin "BaseException.__getattribute__")))
    (b4 : PySem.W.findIn K (.ref CB) "__getattr__" = some none)
    (b5 : PySem.W.hasDictIn K CB = true)
    (b6 : (PySem.W.clsIn K CB).isSome = true)
    (b7 : PySem.W.findIn K (.ref CB) "__class__" = some (some (.builtin "object.__class__")))
    (b8 : PySem.W.mroIn K CB (.type "object") = some true)
    (e1 : PySem.W.exmOne K (.ref CB) (.ref CL) = some true)
    (e2 : PySem.W.kitOne K (.ref CB) (.ref CB) = some true)
    (e3 : PySem.W.kitOne K (.ref CB) (.type "ValueError") = some true)
    (neC : CE ≠ CW) :
    ∃ fd : FuncData, (∀ (s : Shared) (v : Value), BindsTo s fd ⟨[v], []⟩ [("_law_script", v)]) ∧ ∀ base : Heap, K.In base → base.Ns mainGlobals mg → FnOk PP w K mg base (L2.CX PP w) 12 fa fd ["_law_script"] (spLaw K) := by
  obtain ⟨fL, fdL, aL, FL⟩ := d_law
  have e0 := hfa.symm.trans (PySem.W.mg_of X G aL)
  cases e0
  have T : Tx K mg aK aF := ⟨⟨_, PySem.W.mg_of X G gLe⟩, ⟨_, PySem.W.mg_of X G gMo⟩, PySem.W.mg_of X G gK, PySem.W.mg_of X G gF, fun H => seq_at ⟨_, _, _, _, lK, mK⟩ (by decide) H, fun H => seq_at ⟨_, _, _, _, lF, mF⟩ (by decide) H,
    PySem.W.mg_none_of X G z_len, PySem.W.mg_none_of X G z_all, PySem.W.mg_none_of X G z_isinstance, PySem.W.mg_none_of X G z_str, PySem.W.mg_none_of X G z_int, PySem.W.mg_none_of X G z_list, PySem.W.mg_none_of X G z_tuple, PySem.W.mg_none_of X G z_abs, PySem.W.mg_none_of X G z_range, PySem.W.mg_none_of X G z_dict, PySem.W.mg_none_of X G z_ValueError⟩
  have ClW : Cls K CW := ⟨pg_CW, hd_CW, po_CW, sa_CW⟩
  have ClE : Cls K CE := ⟨pg_CE, hd_CE, po_CE, sa_CE⟩
  have C : WC K CW := ⟨ClW, n_CW_words, n_CW_spot, n_CW_open_blocks⟩
  have CEc : EC K CE := ⟨ClE, n_CE_own_parts, n_CE_failed, n_CE_cells, n_CE_logs⟩
  have CQ : EqC K CE CP := ⟨⟨_, wd, ⟨_, rfl⟩, wg, by decide +kernel⟩, fun H a dx fs e => .base (.ins e ClE ca cg ct cm), kEP⟩
  have SX : SupX K CB CB := ⟨x1, x2, x3, u5, ⟨⟨nm, q, N, bs, bm, sn, sub, ab, col, dd, k0, k1, k2, k3, k5, o1, o2⟩, o3, o4, o5, o6⟩⟩
  have hPap := PySem.W.mg_of X G gCP
  have hBT := PySem.W.mg_of X G gCB
  have hLE := PySem.W.mg_of X G gCL
  have hSup := PySem.W.mg_none_of X G z_super
  have TB : XfC K CB := ⟨b3, b4, o4, b5⟩
  have XB : XkC K CB := ⟨b6, b3, b4, o4, b7, cg, ct, b8⟩
  have SM : SupM K CE CE gP := ⟨u1, u2, u3, u4, u5⟩
  obtain ⟨ft, cct, cdt, oc, od, kV, doc, pm, an, ctt, osl, oc2, od2, osl2, vs, file, tf, oc3, od3, osl3, cd, t1, t2, t3, t4, t5, t6, t7, t8, t9, t10⟩ := s_bt
  have FT : SFun PP K mg "__init__" "BadText.__init__" s_BadText___init__ ft cct cdt CB _ := ⟨⟨oc, od, .none, kV, doc, pm, an, ctt, osl, rfl, t4, t5⟩, ⟨_, _, _, _, _, _, t6, t7, t8⟩, ⟨_, _, _, t9⟩, ⟨_, t10⟩, hSup, by decide +kernel⟩
  obtain ⟨fe, cce, cde, oc', od', kV', doc', pm', an', ct', osl', oc2', od2', osl2', vs', file', tf', oc3', od3', osl3', cd', r1, r2, r3, r4, r5, r6, r7, r8, r9, r10⟩ := s_ei
  have FE0 : SFun PP K mg "__init__" "End.__init__" s_End___init__ fe cce cde CE _ := ⟨⟨oc', od', .none, kV', doc', pm', an', ct', osl', rfl, r4, r5⟩, ⟨_, _, _, _, _, _, r6, r7, r8⟩, ⟨_, _, _, r9⟩, ⟨_, r10⟩, hSup, by decide +kernel⟩
  obtain ⟨fdP, FP⟩ := p_fun
  obtain ⟨fI, fdI, ai, ii, FI⟩ := m_init
  obtain ⟨fQ, fdQ, aq, iq, FQ⟩ := m_eq
  obtain ⟨fS, fdS, as_, is_, FS⟩ := m_str
  obtain ⟨ocl, odl, kVl, docl, pml, anl, cdvl, ctl, osll, rfl, lkl, hcdl⟩ := id FL.ex
  refine ⟨PySem.W.fnOf "law" "law" (defArgs s_law) (defBody s_law) (defScope s_law) .none kVl docl pml anl cdvl ctl, fun s v => .of_eq rfl, fun base Xb Gb => ?_⟩
  have E_BadText : De PP w K mg base 1 "BadText" CB ["self", "line", "word"] (spBT K CB) := ⟨ft, _, ok_BT FT b1 b2, SX.oe, t1, t3, hBT, Binds.all fun us hl => match us, hl with | [_, _, _], _ => rfl⟩
  have D_is_word : Df PP w K mg base _ "is_word" _ _ := d_is_word.df X G (fun F => ok_is_word F T) (fun _ _ _ _ _ _ us hl => match us, hl with | [_], _ => rfl)
  have D_is_name : Df PP w K mg base _ "is_name" _ _ := d_is_name.df X G (fun F => ok_is_name F T D_is_word) (fun _ _ _ _ _ _ us hl => match us, hl with | [_], _ => rfl)
  have M_is_next : Dm PP w K mg base _ CW "is_next" _ _ := m_is_next.dm ClW (fun F => ok_WN F T C) (fun _ _ _ _ _ _ us hl => match us, hl with | [_, _], _ => rfl)
  have M_refuse : Dm PP w K mg base _ CW "refuse" _ _ := m_refuse.dm ClW (fun F => ok_WR F T C SX E_BadText) (fun _ _ _ _ _ _ us hl => match us, hl with | [_], _ => rfl)
  have M_take : Dm PP w K mg base _ CW "take" _ _ := m_take.dm ClW (fun F => ok_WT F T C M_refuse) (fun _ _ _ _ _ _ us hl => match us, hl with | [_], _ => rfl)
  have M_take_one : Dm PP w K mg base _ CW "take_one" _ _ := m_take_one.dm ClW (fun F => ok_WO F T C M_refuse M_take) (fun _ _ _ _ _ _ us hl => match us, hl with | [_, _], _ => rfl)
  have M_take_name : Dm PP w K mg base _ CW "take_name" _ _ := m_take_name.dm ClW (fun F => ok_WNm F T C D_is_name M_refuse M_take) (fun _ _ _ _ _ _ us hl => match us, hl with | [_], _ => rfl)
  have M_take_said : Dm PP w K mg base _ CW "take_said" _ _ := m_take_said.dm ClW (fun F => ok_WSd F T C D_is_word M_refuse M_take) (fun _ _ _ _ _ _ us hl => match us, hl with | [_], _ => rfl)
  have M_take_figure : Dm PP w K mg base _ CW "take_figure" _ _ := m_take_figure.dm ClW (fun F => ok_WFg F T C M_take_one) (fun _ _ _ _ _ _ us hl => match us, hl with | [_], _ => rfl)
  have M_end : Dm PP w K mg base _ CW "end" _ _ := m_end.dm ClW (fun F => ok_WE F T C M_refuse) (fun _ _ _ _ _ _ us hl => match us, hl with | [_], _ => rfl)
  have C_Words : Dc PP w K mg base 3 "Words" CW ["self", "text"] (spWI (K := K) CW CB) := ⟨fI, fdI, ok_WI FI T C SX E_BadText, ⟨mk_CW, ai, ii, kp_CW⟩, PySem.W.mg_of X G gCW, FI.binds (fun _ _ _ _ _ _ us hl => match us, hl with | [_, _], _ => rfl)⟩
  have FRP := ok_PI (w := w) (mg := mg) (base := base) FP ClE n_CE_own_parts (fun _ _ _ => False) (fun _ _ _ _ _ _ us rest hl => StX.bind_star1 (B := fun us => bindArgs _ ⟨us, []⟩) (fun _ => rfl) (fun _ _ _ => rfl) us rest hl)
  have C_End : Dc PP w K mg base 2 "End" CE ["self", "failed", "cells", "logs"] (spEI CE) := ⟨fe, _, ok_EI FE0 SM ClE n_CE_failed n_CE_cells n_CE_logs FRP, ⟨mk_CE, r1, r2, kp_CE⟩, PySem.W.mg_of X G gCE, Binds.all fun us hl => match us, hl with | [_, _, _, _], _ => rfl⟩
  have S_End : DsC PP w K mg base 1 CE ["self"] (spStr CE) := ⟨fS, fdS, ok_str FS T CEc, as_, is_, FS.binds (fun _ _ _ _ _ _ us hl => match us, hl with | [_], _ => rfl)⟩
  have D_ends_text : Df PP w K mg base _ "ends_text" _ _ := d_ends_text.df X G (fun F => ok_ends F T S_End) (fun _ _ _ _ _ _ us hl => match us, hl with | [_], _ => rfl)
  have D_last_of : Df PP w K mg base _ "last_of" _ _ := d_last_of.df X G (fun F => ok_last F T) (fun _ _ _ _ _ _ us hl => match us, hl with | [_], _ => rfl)
  have D_read_thing : Df PP w K mg base _ "read_thing" _ _ := d_read_thing.df X G (fun F => ok_thing F T C D_last_of D_is_word M_refuse M_take M_take_name M_take_said M_take_figure) (fun _ _ _ _ _ _ us hl => match us, hl with | [_, _, _], _ => rfl)
  have D_read_end : Df PP w K mg base _ "read_end" _ _ := d_read_end.df X G (fun F => ok_read_end F T C CEc D_read_thing C_End M_take M_take_name M_take_one M_is_next) (fun _ _ _ _ _ _ us hl => match us, hl with | [_], _ => rfl)
  have D_read_ends : Df PP w K mg base _ "read_ends" _ _ := d_read_ends.df X G (fun F => ok_read_ends F T C neC D_read_end C_Words M_take M_end M_is_next) (fun _ _ _ _ _ _ us hl => match us, hl with | [_], _ => rfl)
  have DK_read_ends : DfK PP w K mg base 9 "read_ends" ["text"] ["text"] (spReadEnds K CB CE) := by
    obtain ⟨f, fd, a, F⟩ := d_read_ends
    obtain ⟨oc, od, kV, doc, pm, an, cdv, ct, osl, rfl, lk, hcd⟩ := id F.ex
    refine ⟨f, _, ok_read_ends F T C neC D_read_end C_Words M_take M_end M_is_next, PySem.W.mg_of X G a, F.kp, ⟨fun s us ws _ hl => ?_, fun h1 h2 => h1.append h2⟩⟩
    match us, ws, hl with
    | [], [_], _ => exact .of_eq rfl
    | [_], [], _ => exact .of_eq rfl
  have D__law_pen : Df PP w K mg base _ "_law_pen" _ _ := d__law_pen.df X G (fun F => ok_pen F T) (fun _ _ _ _ _ _ us hl => match us, hl with | [_], _ => rfl)
  have D__law_draw : Df PP w K mg base _ "_law_draw" _ _ := d__law_draw.df X G (fun F => ok_draw F T) (fun _ _ _ _ _ _ us hl => match us, hl with | [_, _], _ => rfl)
  have D__law_pick : Df PP w K mg base _ "_law_pick" _ _ := d__law_pick.df X G (fun F => ok_pick F T D__law_draw) (fun _ _ _ _ _ _ us hl => match us, hl with | [_, _], _ => rfl)
  have D__law_plain : Df PP w K mg base _ "_law_plain" _ _ := d__law_plain.df X G (fun F => ok_plain F T D__law_draw D__law_pick) (fun _ _ _ _ _ _ us hl => match us, hl with | [_], _ => rfl)
  have D__law_line : Df PP w K mg base _ "_law_line" _ _ := d__law_line.df X G (fun F => ok_line F T) (fun _ _ _ _ _ _ us hl => match us, hl with | [_], _ => rfl)
  have D__law_is_said : Df PP w K mg base _ "_law_is_said" _ _ := d__law_is_said.df X G (fun F => ok_lsaid F T) (fun _ _ _ _ _ _ us hl => match us, hl with | [_], _ => rfl)
  have D__law_is_name : Df PP w K mg base _ "_law_is_name" _ _ := d__law_is_name.df X G (fun F => ok_lname F T D__law_is_said) (fun _ _ _ _ _ _ us hl => match us, hl with | [_], _ => rfl)
  have D__law_after_thing : Df PP w K mg base _ "_law_after_thing" _ _ := d__law_after_thing.df X G (fun F => ok_lthing F T D__law_is_said D__law_is_name) (fun _ _ _ _ _ _ us hl => match us, hl with | [_, _, _, _], _ => rfl)
  have D__law_after_end : Df PP w K mg base _ "_law_after_end" _ _ := d__law_after_end.df X G (fun F => ok_lend F T D__law_is_name D__law_after_thing) (fun _ _ _ _ _ _ us hl => match us, hl with | [_, _], _ => rfl)
  have D__law_due : Df PP w K mg base _ "_law_due" _ _ := d__law_due.df X G (fun F => ok_ldue F T D__law_after_end) (fun _ _ _ _ _ _ us hl => match us, hl with | [_], _ => rfl)
  have D__law_heard : Df PP w K mg base _ "_law_heard" _ _ := d__law_heard.df X G (fun F => ok_heard F T D_ends_text D_read_ends hLE hBT e1 TB b1 b2 XB e2 e3) (fun _ _ _ _ _ _ us hl => match us, hl with | [_], _ => rfl)
  have D__law_bent : Df PP w K mg base _ "_law_bent" _ _ := d__law_bent.df X G (fun F => ok_bent F T D__law_draw D__law_pick) (fun _ _ _ _ _ _ us hl => match us, hl with | [_, _], _ => rfl)
  exact ok_law FL T D__law_pen D__law_draw D__law_pick D__law_plain D__law_line D_ends_text D_read_ends DK_read_ends S_End C_End D__law_bent D__law_due D__law_heard (ok_PE FQ T CEc CQ hPap) aq iq (FQ.binds (fun _ _ _ _ _ _ us hl => match us, hl with | [_, _], _ => rfl))
end Ky

set_option Elab.async false
set_option maxRecDepth 100000
set_option maxHeartbeats 0

set_option linter.all false
namespace Ky
open PySem L2 Ly
theorem walk90 {l : PySem.W.OpenLaw} {q : Program} {loose : List Str} {XP : (Str → Option Value) → Heap → Prop} {YP : World → Heap → Prop} {d : DefRec} {K : Params → PySem.W.Frag} (hn : l.most = some 63) (hdf : d.params.defaults = []) (hl : l.prog = PP)
    (hY : ∀ (w : World) (h : Heap), YP w h → (K w.params).In h)
    (F : ∀ (w : World) (mg : Str → Option Value) (fa : Addr) (h : Heap), (K w.params).In h → h.Ns mainGlobals mg → mg d.name = some (.ref fa) →
      ∃ fd : FuncData, (∀ (s : Shared) (u : Value), BindsTo s fd ⟨[u], []⟩ [("_law_script", u)]) ∧ ∀ base : Heap, (K w.params).In base → base.Ns mainGlobals mg → FnOk PP w (K w.params) mg base (L2.CX PP w) 12 fa fd ["_law_script"] (spLaw (K w.params))) :
    PySem.W.WalkO q loose XP YP l.row.toRowW d [] (fun f vs => PySem.call f vs) :=
  L2.walk_of (n := 63) (k := 12) (x := "_law_script") (CX := fun w => L2.CX PP w) (sp := fun w => spLaw (K w.params)) hn (by decide) hdf ⟨rfl, by decide, by decide⟩ hY (fun w mg fa h a b c => by rw [hl]; exact F w mg fa h a b c) (fun _ _ a ns hl _ hS => ⟨a, ns, rfl, hS, hl, fun _ => rfl⟩) fun w H s e s' z => by
    obtain ⟨_, _, _, _, _, _, _, _, _, _, _, _, z⟩ := z
    exact z
end Ky
open PySem PySem.W PyProof.Rows
set_option maxRecDepth 100000 in
set_option maxHeartbeats 0 in
theorem PySem.Challenge.cw_layerseen_k90_texts_of_ends_holds : PySem.Challenge.rw_layerseen_k90_texts_of_ends.Holds := by
  w_on; o_law; k_head; (case hw => w_witness2)
  k_fill
  refine Ky.walk90 (l := PySem.Challenge.rw_layerseen_k90_texts_of_ends) rfl rfl rfl (fun w h Y => PySem.W.kIn_of Y) ?F
  case F =>
    intro w mg fa h KX G hmg
    refine' Ky.all_mk KX G hmg ?gCW ?gCE ?gCP ?gCB ?gCL ?gK ?gF ?gLe ?gMo ?lK ?mK ?lF ?mF ?z_len ?z_all ?z_isinstance ?z_str ?z_int ?z_list ?z_tuple ?z_abs ?z_range ?z_dict ?z_ValueError ?z_super ?d_is_word ?d_is_name ?d_ends_text ?d_last_of ?d_read_thing ?d_read_end ?d_read_ends ?d__law_pen ?d__law_draw ?d__law_pick ?d__law_plain ?d__law_line ?d__law_is_said ?d__law_is_name ?d__law_after_thing ?d__law_after_end ?d__law_due ?d__law_heard ?d__law_bent ?d_law ?m_is_next ?m_refuse ?m_take ?m_take_one ?m_take_name ?m_take_said ?m_take_figure ?m_end ?m_init ?m_eq ?m_str ?s_bt ?s_ei ?p_fun ?pg_CW ?hd_CW ?po_CW ?sa_CW ?mk_CW ?kp_CW ?pg_CE ?hd_CE ?po_CE ?sa_CE ?mk_CE ?kp_CE ?n_CW_words ?n_CW_spot ?n_CW_open_blocks ?n_CE_own_parts ?n_CE_failed ?n_CE_cells ?n_CE_logs ?wd ?wg ?ca ?cg ?ct ?cm ?kEP ?u1 ?u0 ?u2 ?u3 ?u4 ?u5 ?x1 ?x2 ?x3 ?o1 ?o2 ?o3 ?o4 ?o5 ?o6 ?b1 ?b2 ?b3 ?b4 ?b5 ?b6 ?b7 ?b8 ?e1 ?e2 ?e3 ?neC
    (case gCW => k_is)
    (case gCE => k_is)
    (case gCP => k_is)
    (case gCB => k_is)
    (case gCL => k_is)
    (case gK => k_is)
    (case gF => k_is)
    (case gLe => k_is)
    (case gMo => k_is)
    (case lK => k_is)
    (case mK => first | rfl | kernel_rfl)
    (case lF => k_is)
    (case mF => first | rfl | kernel_rfl)
    (case z_len => k_is)
    (case z_all => k_is)
    (case z_isinstance => k_is)
    (case z_str => k_is)
    (case z_int => k_is)
    (case z_list => k_is)
    (case z_tuple => k_is)
    (case z_abs => k_is)
    (case z_range => k_is)
    (case z_dict => k_is)
    (case z_ValueError => k_is)
    (case z_super => k_is)
    (case d_is_word => (refine' Ky.defF_mk ?ad_is_word ?ld_is_word ?cd_is_word ?kd_is_word; (case ad_is_word => k_is); (case ld_is_word => k_is); (case cd_is_word => k_is); (case kd_is_word => k_is)))
    (case d_is_name => (refine' Ky.defF_mk ?ad_is_name ?ld_is_name ?cd_is_name ?kd_is_name; (case ad_is_name => k_is); (case ld_is_name => k_is); (case cd_is_name => k_is); (case kd_is_name => k_is)))
    (case d_ends_text => (refine' Ky.defF_mk ?ad_ends_text ?ld_ends_text ?cd_ends_text ?kd_ends_text; (case ad_ends_text => k_is); (case ld_ends_text => k_is); (case cd_ends_text => k_is); (case kd_ends_text => k_is)))
    (case d_last_of => (refine' Ky.defF_mk ?ad_last_of ?ld_last_of ?cd_last_of ?kd_last_of; (case ad_last_of => k_is); (case ld_last_of => k_is); (case cd_last_of => k_is); (case kd_last_of => k_is)))
    (case d_read_thing => (refine' Ky.defF_mk ?ad_read_thing ?ld_read_thing ?cd_read_thing ?kd_read_thing; (case ad_read_thing => k_is); (case ld_read_thing => k_is); (case cd_read_thing => k_is); (case kd_read_thing => k_is)))
    (case d_read_end => (refine' Ky.defF_mk ?ad_read_end ?ld_read_end ?cd_read_end ?kd_read_end; (case ad_read_end => k_is); (case ld_read_end => k_is); (case cd_read_end => k_is); (case kd_read_end => k_is)))
    (case d_read_ends => (refine' Ky.defF_mk ?ad_read_ends ?ld_read_ends ?cd_read_ends ?kd_read_ends; (case ad_read_ends => k_is); (case ld_read_ends => k_is); (case cd_read_ends => k_is); (case kd_read_ends => k_is)))
    (case d__law_pen => (refine' Ky.defF_mk ?ad__law_pen ?ld__law_pen ?cd__law_pen ?kd__law_pen; (case ad__law_pen => k_is); (case ld__law_pen => k_is); (case cd__law_pen => k_is); (case kd__law_pen => k_is)))
    (case d__law_draw => (refine' Ky.defF_mk ?ad__law_draw ?ld__law_draw ?cd__law_draw ?kd__law_draw; (case ad__law_draw => k_is); (case ld__law_draw => k_is); (case cd__law_draw => k_is); (case kd__law_draw => k_is)))
    (case d__law_pick => (refine' Ky.defF_mk ?ad__law_pick ?ld__law_pick ?cd__law_pick ?kd__law_pick; (case ad__law_pick => k_is); (case ld__law_pick => k_is); (case cd__law_pick => k_is); (case kd__law_pick => k_is)))
    (case d__law_plain => (refine' Ky.defF_mk ?ad__law_plain ?ld__law_plain ?cd__law_plain ?kd__law_plain; (case ad__law_plain => k_is); (case ld__law_plain => k_is); (case cd__law_plain => k_is); (case kd__law_plain => k_is)))
    (case d__law_line => (refine' Ky.defF_mk ?ad__law_line ?ld__law_line ?cd__law_line ?kd__law_line; (case ad__law_line => k_is); (case ld__law_line => k_is); (case cd__law_line => k_is); (case kd__law_line => k_is)))
    (case d__law_is_said => (refine' Ky.defF_mk ?ad__law_is_said ?ld__law_is_said ?cd__law_is_said ?kd__law_is_said; (case ad__law_is_said => k_is); (case ld__law_is_said => k_is); (case cd__law_is_said => k_is); (case kd__law_is_said => k_is)))
    (case d__law_is_name => (refine' Ky.defF_mk ?ad__law_is_name ?ld__law_is_name ?cd__law_is_name ?kd__law_is_name; (case ad__law_is_name => k_is); (case ld__law_is_name => k_is); (case cd__law_is_name => k_is); (case kd__law_is_name => k_is)))
    (case d__law_after_thing => (refine' Ky.defF_mk ?ad__law_after_thing ?ld__law_after_thing ?cd__law_after_thing ?kd__law_after_thing; (case ad__law_after_thing => k_is); (case ld__law_after_thing => k_is); (case cd__law_after_thing => k_is); (case kd__law_after_thing => k_is)))
    (case d__law_after_end => (refine' Ky.defF_mk ?ad__law_after_end ?ld__law_after_end ?cd__law_after_end ?kd__law_after_end; (case ad__law_after_end => k_is); (case ld__law_after_end => k_is); (case cd__law_after_end => k_is); (case kd__law_after_end => k_is)))
    (case d__law_due => (refine' Ky.defF_mk ?ad__law_due ?ld__law_due ?cd__law_due ?kd__law_due; (case ad__law_due => k_is); (case ld__law_due => k_is); (case cd__law_due => k_is); (case kd__law_due => k_is)))
    (case d__law_heard => (refine' Ky.defF_mk ?ad__law_heard ?ld__law_heard ?cd__law_heard ?kd__law_heard; (case ad__law_heard => k_is); (case ld__law_heard => k_is); (case cd__law_heard => k_is); (case kd__law_heard => k_is)))
    (case d__law_bent => (refine' Ky.defF_mk ?ad__law_bent ?ld__law_bent ?cd__law_bent ?kd__law_bent; (case ad__law_bent => k_is); (case ld__law_bent => k_is); (case cd__law_bent => k_is); (case kd__law_bent => k_is)))
    (case d_law => (refine' Ky.defF_mk ?ad_law ?ld_law ?cd_law ?kd_law; (case ad_law => k_is); (case ld_law => k_is); (case cd_law => k_is); (case kd_law => k_is)))
    (case m_is_next => (refine' Ky.metF_mk ?am_is_next ?im_is_next ?lm_is_next ?cm_is_next ?km_is_next; (case am_is_next => k_is); (case im_is_next => k_is); (case lm_is_next => k_is); (case cm_is_next => k_is); (case km_is_next => k_is)))
    (case m_refuse => (refine' Ky.metF_mk ?am_refuse ?im_refuse ?lm_refuse ?cm_refuse ?km_refuse; (case am_refuse => k_is); (case im_refuse => k_is); (case lm_refuse => k_is); (case cm_refuse => k_is); (case km_refuse => k_is)))
    (case m_take => (refine' Ky.metF_mk ?am_take ?im_take ?lm_take ?cm_take ?km_take; (case am_take => k_is); (case im_take => k_is); (case lm_take => k_is); (case cm_take => k_is); (case km_take => k_is)))
    (case m_take_one => (refine' Ky.metF_mk ?am_take_one ?im_take_one ?lm_take_one ?cm_take_one ?km_take_one; (case am_take_one => k_is); (case im_take_one => k_is); (case lm_take_one => k_is); (case cm_take_one => k_is); (case km_take_one => k_is)))
    (case m_take_name => (refine' Ky.metF_mk ?am_take_name ?im_take_name ?lm_take_name ?cm_take_name ?km_take_name; (case am_take_name => k_is); (case im_take_name => k_is); (case lm_take_name => k_is); (case cm_take_name => k_is); (case km_take_name => k_is)))
    (case m_take_said => (refine' Ky.metF_mk ?am_take_said ?im_take_said ?lm_take_said ?cm_take_said ?km_take_said; (case am_take_said => k_is); (case im_take_said => k_is); (case lm_take_said => k_is); (case cm_take_said => k_is); (case km_take_said => k_is)))
    (case m_take_figure => (refine' Ky.metF_mk ?am_take_figure ?im_take_figure ?lm_take_figure ?cm_take_figure ?km_take_figure; (case am_take_figure => k_is); (case im_take_figure => k_is); (case lm_take_figure => k_is); (case cm_take_figure => k_is); (case km_take_figure => k_is)))
    (case m_end => (refine' Ky.metF_mk ?am_end ?im_end ?lm_end ?cm_end ?km_end; (case am_end => k_is); (case im_end => k_is); (case lm_end => k_is); (case cm_end => k_is); (case km_end => k_is)))
    (case m_init => (refine' Ky.metF_mk ?am_init ?im_init ?lm_init ?cm_init ?km_init; (case am_init => k_is); (case im_init => k_is); (case lm_init => k_is); (case cm_init => k_is); (case km_init => k_is)))
    (case m_eq => (refine' Ky.metF_mk ?am_eq ?im_eq ?lm_eq ?cm_eq ?km_eq; (case am_eq => k_is); (case im_eq => k_is); (case lm_eq => k_is); (case cm_eq => k_is); (case km_eq => k_is)))
    (case m_str => (refine' Ky.metF_mk ?am_str ?im_str ?lm_str ?cm_str ?km_str; (case am_str => k_is); (case im_str => k_is); (case lm_str => k_is); (case cm_str => k_is); (case km_str => k_is)))
    (case s_bt => (refine' Ky.supF_mk ?as_bt ?is_bt ?ts_bt ?ls_bt ?cs_bt ?gs_bt ?vs_bt ?ws_bt ?es_bt ?ds_bt; (case as_bt => k_is); (case is_bt => k_is); (case ts_bt => k_is); (case ls_bt => k_is); (case cs_bt => k_is); (case gs_bt => k_is); (case vs_bt => exact rfl); (case ws_bt => decide +kernel); (case es_bt => k_is); (case ds_bt => exact rfl)))
    (case s_ei => (refine' Ky.supF_mk ?as_ei ?is_ei ?ts_ei ?ls_ei ?cs_ei ?gs_ei ?vs_ei ?ws_ei ?es_ei ?ds_ei; (case as_ei => k_is); (case is_ei => k_is); (case ts_ei => k_is); (case ls_ei => k_is); (case cs_ei => k_is); (case gs_ei => k_is); (case vs_ei => exact rfl); (case ws_ei => decide +kernel); (case es_ei => k_is); (case ds_ei => exact rfl)))
    (case pg_CW => k_is)
    (case hd_CW => k_is)
    (case po_CW => k_is)
    (case sa_CW => k_is)
    (case mk_CW => k_is)
    (case kp_CW => k_is)
    (case pg_CE => k_is)
    (case hd_CE => k_is)
    (case po_CE => k_is)
    (case sa_CE => k_is)
    (case mk_CE => k_is)
    (case kp_CE => k_is)
    (case n_CW_words => k_is)
    (case n_CW_spot => k_is)
    (case n_CW_open_blocks => k_is)
    (case n_CE_own_parts => k_is)
    (case n_CE_failed => k_is)
    (case n_CE_cells => k_is)
    (case n_CE_logs => k_is)
    (case wd => k_is)
    (case wg => k_is)
    (case ca => k_is)
    (case cg => k_is)
    (case ct => k_is)
    (case cm => k_is)
    (case kEP => kernel_rfl)
    (case u1 => k_is)
    (case u0 => k_is)
    (case u2 => kernel_rfl)
    (case p_fun => (refine' Ky.pfun_mk ?lp_fun ?cp_fun ?kp_fun; (case lp_fun => k_is); (case cp_fun => k_is); (case kp_fun => k_is)))
    (case u3 => k_is)
    (case u4 => k_is)
    (case u5 => k_is)
    (case x1 => k_is)
    (case x2 => kernel_rfl)
    (case x3 => k_is)
    (case o1 => k_is)
    (case o2 => decide +kernel)
    (case o3 => k_is)
    (case o4 => k_is)
    (case o5 => k_is)
    (case o6 => k_is)
    (case b1 => k_is)
    (case b2 => k_is)
    (case b3 => k_is)
    (case b4 => k_is)
    (case b5 => k_is)
    (case b6 => kernel_rfl)
    (case b7 => k_is)
    (case b8 => k_is)
    (case e1 => kernel_rfl)
    (case e2 => kernel_rfl)
    (case e3 => kernel_rfl)
    (case neC => decide)

