import PyProof.Rows.All
import Wide.All
import OpenK.AllK
import Wide.FinOn
import HandS.ForMost
import HandS.ForExc
import HandS.ExcInit
import HandS.Wide
import HandS.Evl
import HandS.Conv
import HandS.Flow
import HandS.Keys
import HandS.IsInst
import HandS.ExcField
import HandS.ExcIs
import HandS.MakeKw
import HandS.Nested
import KE.KExcSuper
import PyProof.ReprRoads
import KE.KExcIs
import PySem.Challenge.RW_blocklots_k00_errors_keep_what_they_are
import HandS.Style
set_option Elab.async false
set_option linter.all false
set_option maxRecDepth 100000
set_option maxHeartbeats 4000000
namespace BL
open PySem PySem.Spec PySem.Calls PyProof.Rows L2 NdefX
open PySem.W (ksFn fnX)

/-! ### an own exception whose __init__ begins with super().__init__('..') -/
/-- what stands of such a class: C, its __init__ at f, the cell cc of __class__, its code object at cda -/
structure SupC (K : PySem.W.Frag) (P : Program) (C f cc cda : Addr) (st : Stmt) (qual : Str) : Prop where
  oex : OexC K C
  iC : PySem.W.findIn K (.ref C) "__init__" = some (some (.ref f))
  tI : PySem.W.typeIn K (.ref f) = some (.type "function")
  lk : ∃ (oc : Value) (od : Option Addr) (kV doc pm : Value) (an : Option Addr) (ct : Value) (osl : Array (Option Value)), K.lookup f = some ⟨oc, od, .func (ksFn "__init__" qual (defArgs st) (defBody st) (defScope st) .none kV doc pm an (.ref cda) ct cc), osl⟩
  cd : PySem.W.codeIn K (.ref cda) qual = true
  cell : ∃ (cl : Value) (cld : Option Addr) (csl : Array (Option Value)), K.lookup cc = some ⟨cl, cld, .cell (some (.ref C)), csl⟩
  code : ∃ (cl : Value) (cld : Option Addr) (vs : Array Value) (csl : Array (Option Value)) (file : Str) (tf : Tok), K.lookup cda = some ⟨cl, cld, .fields vs, csl⟩ ∧ vs[2]? = some (.str file tf) ∧ ((P.main.file : Str) == file) = true
  sup : PySem.W.nsIn K mainGlobals "super" = some none
  opq : PySem.W.nsIn K cStatics "thirdparty.any" = some none
  hm : PySem.W.ks_superIn K C C "__init__" = some (some (.builtin "ValueError.__init__"))
  hB : PySem.W.subIn K (.ref C) (.type "ValueError") = some true
  top : (P.main.scope.names.lookup ("super" : Str)).isSome = false

abbrev nfOf (st : Stmt) (qual : Str) (cc cda : Addr) : NF := ⟨"__init__", qual, defArgs st, defBody st, defScope st, [("__class__", cc)], cda⟩

section
variable {X : Cx} {pins : List (Addr × Obj)} {σ : L2.St} {H : Hp} {s : Shared}
/-- an untracked new object is kept in mind (pinned) -/
theorem inv_pinNew {u : Addr} {o : Obj} {h' : Heap} {t' : Nat} (I : Inv X pins σ H s) (k : ∀ b o, s.heap.get? b = some o → h'.get? b = some o) (hu : s.heap.objs.size ≤ u) (ho : h'.get? u = some o) (hd : ∀ v, o.data ≠ .cell v) :
    Inv X (pins ++ [(u, o)]) σ H { s with heap := h', toks := t' } := by
  have J := I.kept (t' := t') k
  refine ⟨J.ok, J.os, J.bare, J.base, J.loc, J.cell, J.free, J.freeC, fun p hp => ?_, J.hok, J.len⟩
  rw [← List.append_assoc] at hp
  rcases List.mem_append.mp hp with hp | hp
  · exact J.pin p hp
  · obtain rfl := List.mem_singleton.mp hp
    refine ⟨ho, I.hok.fresh hu, fun z => ?_, fun z => I.nofs hu z, hd⟩
    have q := I.lt
    have z' : u = X.env.locals := z
    rw [← z'] at q
    exact absurd (Nat.lt_of_lt_of_le q hu) (Nat.lt_irrefl _)
theorem inv_unpin {p : Addr × Obj} (I : Inv X (pins ++ [p]) σ H s) : Inv X pins σ H s :=
  ⟨I.ok, I.os, I.bare, I.base, I.loc, I.cell, I.free, I.freeC, fun q hq => I.pin q (by
    rcases List.mem_append.mp hq with h | h
    · exact List.mem_append_left _ h
    · exact List.mem_append_right _ (List.mem_append_left _ h)), I.hok, I.len⟩
end
/-- super().__init__('..') of such an exception, on the way: nothing of it is told -/
theorem at_super {CX : CXT} {P : Program} {w : World} {K : PySem.W.Frag} {mg : Str → Option Value} {base : Heap} {N : List Str} {A : Around} {outer : List Env} {s₀ : Shared} {H₀ : Hp} {E : XK} {C f cc cda : Addr} {st : Stmt} {qual : Str}
    {p0 p1 p2 p3 p4 p5 : Pos} {msg : Str} {ck} {self : Arg} {slf : Str} {σ : L2.St} {H : Hp} {s : Shared} {a : Addr} {D : Ends}
    (S : SupC K P C f cc cda st qual) (hp : ((defArgs st).posonlyargs ++ (defArgs st).args).head? = some self) (hslf : self.arg = slf)
    (hks : (defScope st).names.lookup ("super" : Str) = some .globalImplicit) (hkc : (defScope st).names.lookup ("__class__" : Str) = some .free) (hka : (defScope st).names.lookup slf = some .local) (hk : (defScope st).kind = .function)
    (hN : N[0]? = some slf) (hσ : σ[0]? = some (some (.ref a))) (I : Inv (ncx CX P w K mg base N (nfOf st qual cc cda) f A outer s₀ H₀ E) [] σ H s) (ea : H a = some (exo a C none)) (q : D.nx σ H) {pl : Sem Bool}
    (hev : ∀ env : Env, env.scope = defScope st → eval (.Call (.Attribute (.Call (.Name "super" p0) [] [] p1) "__init__" p2) [.Constant (.str msg) ck p3] [] p4) env = (do
      let ov ← attributeBase (.Call (.Name "super" p0) [] [] p1) "__init__" env (eval (.Call (.Name "super" p0) [] [] p1) env)
      standAt p2.atName
      let (f, first) ← holding [ov] (getMethod ov "__init__" pl)
      callWith p4 f first (backTo p4 (starEach [.Constant (.str msg) ck p3] env)) []))
    (hsw : ∀ env : Env, env.scope = defScope st → swapsWith (.Call (.Attribute (.Call (.Name "super" p0) [] [] p1) "__init__" p2) [.Constant (.str msg) ck p3] [] p4) none p5.line env = pure false) :
    PySem.wpAt (model P w) (A.deeper (envF (nfOf st qual cc cda) f s₀.heap.objs.size)) (.func (defBody st) (envF (nfOf st qual cc cda) f s₀.heap.objs.size))
      (exec (.Expr (.Call (.Attribute (.Call (.Name "super" p0) [] [] p1) "__init__" p2) [.Constant (.str msg) ck p3] [] p4) p5) (envF (nfOf st qual cc cda) f s₀.heap.objs.size))
      (SP (ncx CX P w K mg base N (nfOf st qual cc cda) f A outer s₀ H₀ E) [] D) (ncx CX P w K mg base N (nfOf st qual cc cda) f A outer s₀ H₀ E).xe s := by
  obtain ⟨oc, od, kV, doc, pm, an, ct, osl, lkf⟩ := S.lk
  obtain ⟨cl, cld, csl, lkc⟩ := S.cell
  obtain ⟨dl, dld, vs, dsl, file, tf, lkd, hvs, hfile⟩ := S.code
  obtain ⟨nm, q', NN, bs, bm, sn, sub, ab, col, dd, k0, k1, k2, k3, k5, hC, hbm⟩ := S.oex.cls
  have KX := I.kIn
  obtain ⟨t1, ho⟩ := exo_at I.hok ea
  obtain ⟨m, hns, hl⟩ := I.loc
  obtain ⟨u, ru, lu⟩ := hl 0 slf (.ref a) hN hσ (.inl hka)
  obtain rfl : u = Value.ref a := ru
  have hm : m slf = some (Value.ref a) := by
    rcases lu with ⟨_, h⟩ | ⟨h, _⟩
    · exact h
    · have h' : (defScope st).names.lookup slf = some .cell ∨ (defScope st).names.lookup slf = some .free := h
      rw [hka] at h'
      rcases h' with h' | h' <;> cases h'
  have hcl : PySem.W.clsIn K C = some { name := nm, bases := bs, mro := .ref C :: bm, ns := NN, qualname := q', hasDict := true, slotNames := sn, subclasses := sub, abstract := ab, collection := col, hasDel := false } := by unfold PySem.W.clsIn; rw [hC] <;> rfl
  have hsubCC : PySem.W.mroIn K C (.ref C) = some true := by
    unfold PySem.W.mroIn
    rw [hcl, Option.bind_some, if_neg (by simp)]
    simp
  have hal : PySem.W.alongIn K "__init__" (((Value.ref C :: bm).dropWhile (· != .ref C)).drop 1) = some (some (.builtin "ValueError.__init__")) := by
    have z := S.hm
    unfold PySem.W.ks_superIn at z
    rw [hcl] at z
    exact z
  have haC : a ≠ C := by
    intro z
    rw [z] at ho
    have z2 := (KX _ _ hC).symm.trans ho
    injection z2 with z3
    have z4 := congrArg Obj.cls z3
    cases z4
  refine ks_wpAt_Expr_any (ks_wpAt_MethodCall (pl := pl) ?_ (hev _ rfl)) I.quiet (hsw _ rfl)
  refine ks_wpAt_super_base (attr := "__init__") (env := envF (nfOf st qual cc cda) f s₀.heap.objs.size) hks hkc (by decide) rfl (KX _ _ lkf) rfl hp rfl (KX _ _ lkd) rfl hvs hfile S.top ?_
  rw [hslf]
  have hsup : mg "super" = none := PySem.W.mg_none_of I.ok.mod.kin I.ok.mod.glob S.sup
  obtain ⟨mb, hb1, hb2⟩ := I.ok.mod.blt
  refine PySem.W.ks_loadName_global hk hks (Calls.loadGlobal_builtin (env := envF (nfOf st qual cc cda) f s₀.heap.objs.size) (I.ok.mod.glob.keeps I.bk) hsup (hb1.keeps I.bk) ((hb2 _ (by decide)).trans PyProof.Rows.Boot.«super») ⟨rfl, ?_⟩)
  refine wpAny_loadName_free hk hkc rfl ⟨_, KX _ _ lkc, rfl⟩ ?_
  refine wpAny_loadName_local hk hka hns hm ?_
  refine ks_wpAny_isType_cls (KX _ _ hC) rfl ⟨rfl, ?_⟩
  obtain ⟨hh, g, d, t, os⟩ := s
  have hnc : ∀ c, ({ cls := Value.ref C, data := Data.fields #[Value.ref t1, Value.none, Value.none, Value.none, Value.bool false, Value.none] } : Obj).data ≠ .cls c := fun c z => by cases z
  refine ks_wpAny_call_super (KX _ _ hC) rfl ho rfl hnc (PySem.W.looks_mroIn KX hsubCC) (fun h' hso k => ?_)
  have I1 : Inv (ncx CX P w K mg base N (nfOf st qual cc cda) f A outer s₀ H₀ E) [] σ H ⟨h', g, d, t, os⟩ := I.kept (t' := t) k
  have KX1 := I1.kIn
  have ho1 := k _ _ ho
  have hIns : PySem.W.Looks (model P w) h' (isInstance (.ref a) (.type "ValueError")) true :=
    (PySem.W.InstAt.type (M := model P w) (show PySem.W.InstAt h' a _ C none from ⟨ho1, rfl, rfl, trivial⟩)).andThen (PySem.W.looks_subIn KX1 S.hB)
  refine PySem.W.kxs_getMethod PySem.W.kxs_ValueError hso (PySem.W.looks_opaque KX1 S.opq) (l₀ := .ref C :: bm) (fun A Q E s k q => wpAny_bind ((PySem.W.looks_clsIn KX1 hcl) A _ E s k (wpAny_pure q))) rfl KX1 hal hIns haC (by decide) ?_
  have I2 := inv_pinNew (t' := t + 1) (u := h'.objs.size) (h' := h'.push (PySem.W.kxs_mw "ValueError.__init__" a)) I1 (fun b o e => Heap.get?_push_of_some _ e) (Nat.le_refl _) (Heap.get?_push_at rfl rfl) (fun v z => by cases z)
  refine PySem.W.kxs_callWith (x := a) (i := "ValueError.__init__") rfl ?_
  refine evalArgs_plain (thn ((pa_cons (pe_str (X := ncx CX P w K mg base N (nfOf st qual cc cda) f A outer s₀ H₀ E)) pa_nil).run p4 _ _ σ H (fun vs H' => vs = [.str msg] ∧ H' = H) I2 ⟨rfl, rfl⟩) fun us s3 ⟨vs', H3, I3, r3, ev3, eH3⟩ => ?_)
  subst ev3
  subst eH3
  obtain ⟨hu3, _⟩ := I3.pin (h'.objs.size, PySem.W.kxs_mw "ValueError.__init__" a) (by simp)
  refine ⟨hu3, ?_⟩
  have I3' := inv_unpin (pins := []) I3
  obtain ⟨t3, ho3⟩ := exo_at I3.hok ea
  have KX3 := I3.kIn
  have hus : us.length ≤ sizeLine := by
    rw [← Paired.length r3, sizeLine_eq]
    show 1 ≤ _
    omega
  obtain ⟨h3, g3, d3, t3', os3⟩ := s3
  refine wpAny_call (codeAny_of_tree ?_)
  show wpAny _ (Around.in1 _) (callAny (.ref h'.objs.size) ⟨us, []⟩) _ _ _
  simp only [callAny]
  refine wpAny_bind (wpAny_load hu3 ?_)
  simp only [PySem.W.kxs_mw, show (Value.type "method-wrapper" == Value.type "method" || Value.type "method-wrapper" == Value.type "builtin_function_or_method" || Value.type "method-wrapper" == Value.type "method-wrapper") = true by decide, if_true]
  refine PySem.W.KFB.if_so (by decide) ?_
  refine wpAny_bind (PySem.W.check_bound_init PySem.F.excBase_ValueError.toExcCallFacts (KX3 _ _ hC) ho3 rfl ?_)
  refine wpAny_bind (wpAny_pure (wpAny_pure ?_))
  refine ⟨plainId_quiet PySem.F.excBase_ValueError.init.plain _, codeAny_builtin PySem.F.excBase_ValueError.initEntry ?_⟩
  refine PySem.W.exc_init_tree (cls := .ref C) (t0 := t3) (dv := none) (c2 := .none) (c3 := .none) (b4 := .bool false) ho3 hus (fun h4 k4 e4 _ => ?_)
  have J := I3'.write (t' := t3') (x := a) (e := a) (o := exo a C none) (by rw [ea]; exact True.intro) (.inl rfl) k4 ⟨_, e4⟩ (exo_ok e4)
  have eu : upd H3 a (exo a C none) = H3 := by
    funext b
    by_cases hb : b = a
    · rw [hb, upd_same, ea]
    · rw [upd_ne hb]
  rw [eu] at J
  exact ⟨σ, H3, J, q⟩
/-- an __init__ that begins so, by the rest of its body -/
theorem fnS_of {CX : CXT} {P : Program} {w : World} {K : PySem.W.Frag} {mg : Str → Option Value} {base : Heap} {N ps : List Str} {k : Nat} {C f cc cda : Addr} {st : Stmt} {qual : Str} {sp : Sp} {fd : FuncData}
    {p0 p1 p2 p3 p4 p5 : Pos} {msg : Str} {ck} {self : Arg} {slf : Str} {rest : List Stmt} {pl : Sem Bool}
    (S : SupC K P C f cc cda st qual) (hfd : ∃ (oc : Value) (od : Option Addr) (osl : Array (Option Value)), K.lookup f = some ⟨oc, od, .func fd, osl⟩) (NS : NScope N ps ["__class__"] (defScope st))
    (hst : defBody st = .Expr (.Call (.Attribute (.Call (.Name "super" p0) [] [] p1) "__init__" p2) [.Constant (.str msg) ck p3] [] p4) p5 :: rest)
    (hp : ((defArgs st).posonlyargs ++ (defArgs st).args).head? = some self) (hslf : self.arg = slf) (hks : (defScope st).names.lookup ("super" : Str) = some .globalImplicit) (hkc : (defScope st).names.lookup ("__class__" : Str) = some .free)
    (hka : (defScope st).names.lookup slf = some .local) (hN : N[0]? = some slf) (len : ∀ vs H Q E, sp vs H Q E → vs.length = ps.length)
    (hev : ∀ env : Env, env.scope = defScope st → eval (.Call (.Attribute (.Call (.Name "super" p0) [] [] p1) "__init__" p2) [.Constant (.str msg) ck p3] [] p4) env = (do
      let ov ← attributeBase (.Call (.Name "super" p0) [] [] p1) "__init__" env (eval (.Call (.Name "super" p0) [] [] p1) env)
      standAt p2.atName
      let (f, first) ← holding [ov] (getMethod ov "__init__" pl)
      callWith p4 f first (backTo p4 (starEach [.Constant (.str msg) ck p3] env)) []))
    (hsw : ∀ env : Env, env.scope = defScope st → swapsWith (.Call (.Attribute (.Call (.Name "super" p0) [] [] p1) "__init__" p2) [.Constant (.str msg) ck p3] [] p4) none p5.line env = pure false)
    (hbody : ∀ (A : Around) (outer : List Env) (s : Shared) (H : Hp) (vs : List V) (Q : VK) (E : XK), sp vs H Q E →
      ∃ (a : Addr) (t : TS), vs.head? = some (.ref a) ∧ H a = some (exo a C none) ∧ PSs (ncx CX P w K mg base N (nfOf st qual cc cda) f A outer s H E) rest t ∧ t { nx := fun _ H' => Q .non H', rt := Q } (startF N vs [some (.ref C)]) H) :
    FnOk P w K mg base CX (k + 1) f fd ps sp := by
  refine ⟨len, fun A outer s H args us vs Q E hr e0 hb r hsp => ?_⟩
  have hl := len _ _ _ _ hsp
  have KX : K.In s.heap := e0.mod.kin.keeps fun b o e => (e0.bs b o e).1
  have lim : s.heap.NoLimit := e0.mod.nolimit.keeps fun b o e => (e0.bs b o e).1
  obtain ⟨oc, od, kV, doc, pm, an, ct, osl, lkf⟩ := S.lk
  obtain ⟨oc', od', osl', lkf'⟩ := hfd
  rw [lkf] at lkf'
  have efd : fd = ksFn "__init__" qual (defArgs st) (defBody st) (defScope st) .none kV doc pm an (.ref cda) ct cc := by
    have z := Option.some.inj lkf'
    have z2 := congrArg Obj.data z
    have z3 : Data.func (ksFn "__init__" qual (defArgs st) (defBody st) (defScope st) .none kV doc pm an (.ref cda) ct cc) = Data.func fd := z2
    cases z3
    rfl
  subst efd
  obtain ⟨cl, cld, csl, lkc⟩ := S.cell
  have hccB : base.get? cc = some ⟨cl, cld, .cell (some (.ref C)), csl⟩ := e0.mod.kin _ _ lkc
  have CA : CellsAt (nfOf st qual cc cda).cl ["__class__"] [some (.ref C)] s.heap H := by
    have one : ∀ y c, (nfOf st qual cc cda).cl.lookup y = some c → y = "__class__" ∧ c = cc := fun y c e => by
      have e' : List.lookup y [(("__class__" : Str), cc)] = some c := e
      have m := PySem.mem_of_lookup e'
      obtain z := List.mem_singleton.mp m
      exact ⟨congrArg Prod.fst z, congrArg Prod.snd z⟩
    refine ⟨rfl, fun y c e => ?_, fun x y c e1 e2 => (one x c e1).1.trans (one y c e2).1.symm, fun i y e => ?_⟩
    · rw [(one y c e).2]
      exact ⟨(e0.bs _ _ hccB).2, some (.ref C), ⟨_, (e0.bs _ _ hccB).1, rfl⟩⟩
    · have hi : i = 0 := by
        cases i with
        | zero => rfl
        | succ i => simp at e
      subst hi
      have hy : y = "__class__" := by simpa using e.symm
      subst hy
      refine ⟨cc, rfl, fun v ev => ⟨.ref C, ?_, ⟨_, (e0.bs _ _ hccB).1, rfl⟩⟩⟩
      have hv : v = .ref C := by simpa using ev.symm
      subst hv
      exact rfl
  refine ks_codeAny_call_defAt (fd := ksFn "__init__" qual (defArgs st) (defBody st) (defScope st) .none kV doc pm an (.ref cda) ct cc) (body := defBody st) (binds := ps.zip us) hr.depth (KX _ _ lkf) rfl lim (PySem.W.codeRec_of KX S.cd) rfl hb NS.nocell
    (fun ⟨n, _⟩ hy => NS.par n (List.of_mem_zip hy).1) (fun h₁ hns kp => ?_) NS.co NS.gen NS.kind
  obtain ⟨a, t, hv, ea, ht, hq⟩ := hbody A outer s H vs Q E hsp
  have I : Inv (ncx CX P w K mg base N (nfOf st qual cc cda) f A outer s H E) [] (startF N vs [some (.ref C)]) H { s with heap := h₁, toks := s.toks + (ps.zip us).length } :=
    inv_startN NS hr.hd e0 hl r CA hns kp
  have fin : ∀ {fl : Flow} {s' : Shared}, SP (ncx CX P w K mg base N (nfOf st qual cc cda) f A outer s H E) [] { nx := fun _ H' => Q .non H', rt := Q } fl s' → CR CX outer P w H s Q E (.ok (.ret (match fl with | .ret v => v | _ => .none))) s' := by
    intro fl s' hs
    have fin : ∀ {σ' : L2.St} {H' : Hp} {v : V} {u : Value}, Inv (ncx CX P w K mg base N (nfOf st qual cc cda) f A outer s H E) [] σ' H' s' → L2.RelV v u → Q v H' → CE outer P w H s Q u s' :=
      fun {σ' H' v u} J rv q => ⟨v, H', J.os, J.bare, J.base, J.hok, rv, q⟩
    cases fl with
    | ret u =>
      obtain ⟨v, σ', H', J, rv, q⟩ := hs
      exact fin J rv q
    | next =>
      obtain ⟨σ', H', J, q⟩ := hs
      exact fin (v := V.non) (u := Value.none) J rfl q
    | brk =>
      obtain ⟨_, _, _, q⟩ := hs
      exact False.elim q
    | cont =>
      obtain ⟨_, _, _, q⟩ := hs
      exact False.elim q
  have hσ : (startF N vs [some (.ref C)])[0]? = some (some (.ref a)) := by
    cases vs with
    | nil => simp at hv
    | cons v vs =>
      have : v = .ref a := by simpa using hv
      subst this
      rfl
  have hgo := at_super (D := { nx := fun σ' H' => σ' = startF N vs [some (.ref C)] ∧ H' = H, rt := fun _ _ => False }) S hp hslf hks hkc hka NS.kind hN hσ I ea ⟨rfl, rfl⟩ hev hsw
  refine ks_wpAt_mono (Q := fun fl s' => SP (ncx CX P w K mg base N (nfOf st qual cc cda) f A outer s H E) [] { nx := fun _ H' => Q .non H', rt := Q } fl s') ?_ (fun fl s' hs => fin hs) (fun e s' he => he)
  show PySem.wpAt _ _ (Code.func (defBody st) _) (execs (defBody st) (envF (nfOf st qual cc cda) f s.heap.objs.size)) _ _ _
  have goal2 : ∀ (l : List Stmt), l = .Expr (.Call (.Attribute (.Call (.Name "super" p0) [] [] p1) "__init__" p2) [.Constant (.str msg) ck p3] [] p4) p5 :: rest →
      PySem.wpAt (model P w) (A.deeper (envF (nfOf st qual cc cda) f s.heap.objs.size)) (Code.func (defBody st) (envF (nfOf st qual cc cda) f s.heap.objs.size)) (execs l (envF (nfOf st qual cc cda) f s.heap.objs.size))
        (fun fl s' => SP (ncx CX P w K mg base N (nfOf st qual cc cda) f A outer s H E) [] { nx := fun _ H' => Q .non H', rt := Q } fl s')
        (ncx CX P w K mg base N (nfOf st qual cc cda) f A outer s H E).xe { s with heap := h₁, toks := s.toks + (ps.zip us).length } := by
    intro l el
    subst el
    refine ks_wpAt_execs_cons (ks_wpAt_mono hgo (fun fl s' hs => ?_) fun _ _ z => z)
    cases fl with
    | next =>
      obtain ⟨σ', H', J, e1, e2⟩ := hs
      subst e1
      subst e2
      exact wpAt_of_wpAny (ht.run [] s' _ _ _ J hq)
    | ret u =>
      obtain ⟨v, σ', H', J, rv, q⟩ := hs
      exact False.elim q
    | brk =>
      obtain ⟨_, _, _, q⟩ := hs
      exact False.elim q
    | cont =>
      obtain ⟨_, _, _, q⟩ := hs
      exact False.elim q
  exact goal2 _ hst
end BL
namespace BL
open PySem PySem.Spec PySem.Calls PyProof.Rows L2 NdefX
open PySem.W (ksFn fnX)
/-- the promise of an error's __init__ of one field, of two -/
def spErr1 (C : Addr) (f1 : Str) : Sp := fun vs H Q _ => ∃ (a : Addr) (v : V), vs = [.ref a, v] ∧ H a = some (exo a C none) ∧ ∀ dx, H dx = none → dx ≠ a → Q .non (upd (upd H dx (exd dx [(f1, v)])) a (exo a C (some dx)))
def spErr2 (C : Addr) (f1 f2 : Str) : Sp := fun vs H Q _ => ∃ (a : Addr) (v v2 : V), vs = [.ref a, v, v2] ∧ H a = some (exo a C none) ∧
  ∀ dx, H dx = none → dx ≠ a → Q .non (upd (upd (upd H dx (exd dx [(f1, v)])) a (exo a C (some dx))) dx (exd dx [(f2, v2), (f1, v)]))
section
variable {P : Program} {w : World} {K : PySem.W.Frag} {mg : Str → Option Value} {base : Heap} {C f cc cda : Addr} {st : Stmt} {qual : Str} {fd : FuncData}
  {p0 p1 p2 p3 p4 p5 q6 q7 q8 q9 r6 r7 r8 r9 : Pos} {msg f1 f2 : Str} {ck : Nat} {self : Arg} {pl : Sem Bool}
theorem ok_err1 (S : SupC K P C f cc cda st qual) (hfd : ∃ (oc : Value) (od : Option Addr) (osl : Array (Option Value)), K.lookup f = some ⟨oc, od, .func fd, osl⟩)
    (hst : defBody st = [.Expr (.Call (.Attribute (.Call (.Name "super" p0) [] [] p1) "__init__" p2) [.Constant (.str msg) ck p3] [] p4) p5, .Assign [.Attribute (.Name "self" q6) f1 q7] (.Name f1 q8) q9])
    (NS : NScope ["self", f1, "__class__"] ["self", f1] ["__class__"] (defScope st)) (hp : ((defArgs st).posonlyargs ++ (defArgs st).args).head? = some self) (hslf : self.arg = "self")
    (hks : (defScope st).names.lookup ("super" : Str) = some .globalImplicit) (hkc : (defScope st).names.lookup ("__class__" : Str) = some .free) (hka : (defScope st).names.lookup ("self" : Str) = some .local) (hk1 : (defScope st).names.lookup f1 = some .local)
    (hd1 : (f1 == ("__debug__" : Str)) = false) (hc1 : (f1 == ("__classdict__" : Str)) = false) (hno : PySem.W.findIn K (.ref C) f1 = some none)
    (hev : ∀ env : Env, env.scope = defScope st → eval (.Call (.Attribute (.Call (.Name "super" p0) [] [] p1) "__init__" p2) [.Constant (.str msg) ck p3] [] p4) env = (do
      let ov ← attributeBase (.Call (.Name "super" p0) [] [] p1) "__init__" env (eval (.Call (.Name "super" p0) [] [] p1) env)
      standAt p2.atName
      let (f, first) ← holding [ov] (getMethod ov "__init__" pl)
      callWith p4 f first (backTo p4 (starEach [.Constant (.str msg) ck p3] env)) []))
    (hsw : ∀ env : Env, env.scope = defScope st → swapsWith (.Call (.Attribute (.Call (.Name "super" p0) [] [] p1) "__init__" p2) [.Constant (.str msg) ck p3] [] p4) none p5.line env = pure false)
    (hsw1 : ∀ env : Env, env.scope = defScope st → swapsWith (.Name f1 q8) (some (.Attribute (.Name "self" q6) f1 q7)) q9.line env = pure false) :
    FnOk P w K mg base CX0 1 f fd ["self", f1] (spErr1 C f1) := by
  refine fnS_of S hfd NS hst hp hslf hks hkc hka rfl (fun vs H Q E h => ?_) hev hsw fun A outer s H vs Q E h => ?_
  · obtain ⟨a, v, rfl, _⟩ := h
    rfl
  · obtain ⟨a, v, rfl, ea, k⟩ := h
    refine ⟨a, _, rfl, ea, pss_one (ps_ost (pe_var (i := 0) rfl (.inl hka)) (pe_var (i := 1) rfl (.inl hk1) hd1 hc1) (hsw1 _ rfl)), ?_⟩
    refine ⟨v, rfl, .ref a, rfl, a, C, rfl, S.oex, hno, .inl ⟨ea, fun dx hn hne => k dx hn hne⟩⟩
theorem ok_err2 (S : SupC K P C f cc cda st qual) (hfd : ∃ (oc : Value) (od : Option Addr) (osl : Array (Option Value)), K.lookup f = some ⟨oc, od, .func fd, osl⟩)
    (hst : defBody st = [.Expr (.Call (.Attribute (.Call (.Name "super" p0) [] [] p1) "__init__" p2) [.Constant (.str msg) ck p3] [] p4) p5, .Assign [.Attribute (.Name "self" q6) f1 q7] (.Name f1 q8) q9, .Assign [.Attribute (.Name "self" r6) f2 r7] (.Name f2 r8) r9])
    (NS : NScope ["self", f1, f2, "__class__"] ["self", f1, f2] ["__class__"] (defScope st)) (hp : ((defArgs st).posonlyargs ++ (defArgs st).args).head? = some self) (hslf : self.arg = "self")
    (hks : (defScope st).names.lookup ("super" : Str) = some .globalImplicit) (hkc : (defScope st).names.lookup ("__class__" : Str) = some .free) (hka : (defScope st).names.lookup ("self" : Str) = some .local) (hk1 : (defScope st).names.lookup f1 = some .local) (hk2 : (defScope st).names.lookup f2 = some .local)
    (hd1 : (f1 == ("__debug__" : Str)) = false) (hc1 : (f1 == ("__classdict__" : Str)) = false) (hd2 : (f2 == ("__debug__" : Str)) = false) (hc2 : (f2 == ("__classdict__" : Str)) = false)
    (hno : PySem.W.findIn K (.ref C) f1 = some none) (hno2 : PySem.W.findIn K (.ref C) f2 = some none)
    (hev : ∀ env : Env, env.scope = defScope st → eval (.Call (.Attribute (.Call (.Name "super" p0) [] [] p1) "__init__" p2) [.Constant (.str msg) ck p3] [] p4) env = (do
      let ov ← attributeBase (.Call (.Name "super" p0) [] [] p1) "__init__" env (eval (.Call (.Name "super" p0) [] [] p1) env)
      standAt p2.atName
      let (f, first) ← holding [ov] (getMethod ov "__init__" pl)
      callWith p4 f first (backTo p4 (starEach [.Constant (.str msg) ck p3] env)) []))
    (hsw : ∀ env : Env, env.scope = defScope st → swapsWith (.Call (.Attribute (.Call (.Name "super" p0) [] [] p1) "__init__" p2) [.Constant (.str msg) ck p3] [] p4) none p5.line env = pure false)
    (hsw1 : ∀ env : Env, env.scope = defScope st → swapsWith (.Name f1 q8) (some (.Attribute (.Name "self" q6) f1 q7)) q9.line env = pure false)
    (hsw2 : ∀ env : Env, env.scope = defScope st → swapsWith (.Name f2 r8) (some (.Attribute (.Name "self" r6) f2 r7)) r9.line env = pure false) :
    FnOk P w K mg base CX0 1 f fd ["self", f1, f2] (spErr2 C f1 f2) := by
  refine fnS_of S hfd NS hst hp hslf hks hkc hka rfl (fun vs H Q E h => ?_) hev hsw fun A outer s H vs Q E h => ?_
  · obtain ⟨a, v, v2, rfl, _⟩ := h
    rfl
  · obtain ⟨a, v, v2, rfl, ea, k⟩ := h
    refine ⟨a, _, rfl, ea, pss_cons (ps_ost (pe_var (i := 0) rfl (.inl hka)) (pe_var (i := 1) rfl (.inl hk1) hd1 hc1) (hsw1 _ rfl)) (pss_one (ps_ost (pe_var (i := 0) rfl (.inl hka)) (pe_var (i := 2) rfl (.inl hk2) hd2 hc2) (hsw2 _ rfl))), ?_⟩
    refine ⟨v, rfl, .ref a, rfl, a, C, rfl, S.oex, hno, .inl ⟨ea, fun dx hn hne => ?_⟩⟩
    refine ⟨v2, rfl, .ref a, rfl, a, C, rfl, S.oex, hno2, .inr ⟨dx, [(f1, v)], upd_same, by rw [upd_ne hne, upd_same], by simp, k dx hn hne⟩⟩
end
/-! ### made, raised -/
theorem del_end {H1 : Hp} {a dx : Addr} {o1 o2 o3 u : HO} (ha : H1 a = none) (hne : dx ≠ a) : upd (del (upd (upd (upd H1 a o1) dx o2) a o3) a) dx u = upd H1 dx u := by
  funext b
  by_cases hb : b = dx
  · subst hb
    rw [upd_same, upd_same]
  · rw [upd_ne hb, upd_ne hb]
    by_cases hba : b = a
    · subst hba
      rw [del_same, ha]
    · rw [del_ne hba, upd_ne hba, upd_ne hb, upd_ne hba]
theorem del_end2 {H1 : Hp} {a dx : Addr} {o1 o2 o3 o4 u : HO} (ha : H1 a = none) (hne : dx ≠ a) : upd (del (upd (upd (upd (upd H1 a o1) dx o2) a o3) dx o4) a) dx u = upd H1 dx u := by
  funext b
  by_cases hb : b = dx
  · subst hb
    rw [upd_same, upd_same]
  · rw [upd_ne hb, upd_ne hb]
    by_cases hba : b = a
    · subst hba
      rw [del_same, ha]
    · rw [del_ne hba, upd_ne hb, upd_ne hba, upd_ne hb, upd_ne hba]
/-- readings closed under what follows -/
def mcE (t : TE) : TE := fun σ H Q => ∃ R : VK, t σ H R ∧ ∀ v H', R v H' → Q v H'
def mcA (t : TA) : TA := fun σ H Q => ∃ R : List V → Hp → Prop, t σ H R ∧ ∀ v H', R v H' → Q v H'
theorem pe_mc {X : Cx} {e : Expr} {t : TE} (h : PE X e t) : PE X e (mcE t) := ⟨fun pins s σ H Q I ⟨R, hr, k⟩ => thn (h.run pins s σ H R I hr) fun _ _ ⟨v, H', J, r, q⟩ => ⟨v, H', J, r, k _ _ q⟩⟩
theorem pa_mc {X : Cx} {es : List Expr} {t : TA} (h : PA X es t) : PA X es (mcA t) := ⟨fun pos pins s σ H Q I ⟨R, hr, k⟩ => thn (h.run pos pins s σ H R I hr) fun _ _ ⟨v, H', J, r, q⟩ => ⟨v, H', J, r, k _ _ q⟩⟩
theorem pmk_imp {X : Cx} {e : Expr} {t t' : L2.St → Hp → XK → Prop} (h : PMk X e t) (i : ∀ σ H Q, t' σ H Q → t σ H Q) : PMk X e t' := fun pins s σ H Q I q => h pins s σ H Q I (i σ H Q q)
/-- what C(e), C(e, e2) makes: an error of the class at C, its fields in a new dict -/
def tErr1 (C : Addr) (f1 : Str) (te : TE) : L2.St → Hp → XK → Prop := fun σ H Q => te σ H fun v H1 => ∀ d, H1 d = none → Q (.ref C) (some d) (upd H1 d (.xd [(f1, v)]))
def tErr2 (C : Addr) (f1 f2 : Str) (te te2 : TE) : L2.St → Hp → XK → Prop := fun σ H Q => te σ H fun v H1 => te2 σ H1 fun v2 H2 => ∀ d, H2 d = none → Q (.ref C) (some d) (upd H2 d (.xd [(f2, v2), (f1, v)]))
section
variable {X : Cx} {x f1 f2 : Str} {C f : Addr} {fd : FuncData} {k : Nat} {e e2 : Expr} {te te2 : TE} {p pos : Pos}
/-- C(e): te e's reading -/
theorem mk_err1 (T : OexC X.K C) (iC : PySem.W.findIn X.K (.ref C) "__init__" = some (some (.ref f))) (tI : PySem.W.typeIn X.K (.ref f) = some (.type "function")) (F : FnOk X.prog X.w X.K X.mg X.base CX0 k f fd ["self", f1] (spErr1 C f1)) (hr : Room (k + 1) X.A)
    (hb : Binds X.K fd ["self", f1] []) (hg : Gl X x) (hm : X.mg x = some (.ref C)) (he : PE X e te) (hdb : (x == ("__debug__" : Str)) = false := by decide) (hst : starEach [e] X.env = (false, eval e X.env) :: starEach [] X.env := by rfl) :
    PMk X (.Call (.Name x p) [e] [] pos) (tErr1 C f1 te) := by
  refine pmk_imp (pmk_oex T iC tI F hr hb .nil (fun _ _ _ _ _ _ _ z => z.elim) hg hm (pa_mc (pa_cons (pe_mc he) pa_nil hst)) hdb hst rfl) fun σ H Q h =>
    ⟨fun vs H1 => ∃ v, vs = [v] ∧ ∀ d, H1 d = none → Q (.ref C) (some d) (upd H1 d (.xd [(f1, v)])), ⟨_, h, fun v H1 q => ⟨v, rfl, q⟩⟩, fun vs H1 ⟨v, ev, q⟩ => ?_⟩
  subst ev
  refine ⟨by show 1 ≤ 1000; decide, fun a ha => ⟨a, v, rfl, upd_same, fun dx hn hne => ?_⟩⟩
  have hn1 : H1 dx = none := by rw [← hn, upd_ne hne]
  exact ⟨rfl, dx, _, upd_same, by rw [upd_ne hne, upd_same], hn1, by rw [del_end ha hne]; exact q dx hn1⟩
theorem mk_err2 (T : OexC X.K C) (iC : PySem.W.findIn X.K (.ref C) "__init__" = some (some (.ref f))) (tI : PySem.W.typeIn X.K (.ref f) = some (.type "function")) (F : FnOk X.prog X.w X.K X.mg X.base CX0 k f fd ["self", f1, f2] (spErr2 C f1 f2)) (hr : Room (k + 1) X.A)
    (hb : Binds X.K fd ["self", f1, f2] []) (hg : Gl X x) (hm : X.mg x = some (.ref C)) (he : PE X e te) (he2 : PE X e2 te2) (hdb : (x == ("__debug__" : Str)) = false := by decide) (hst : starEach [e, e2] X.env = (false, eval e X.env) :: starEach [e2] X.env := by rfl)
    (hst2 : starEach [e2] X.env = (false, eval e2 X.env) :: starEach [] X.env := by rfl) (hpl : (backTo pos (starEach [e2] X.env)).any (·.1) = false := by rfl) :
    PMk X (.Call (.Name x p) [e, e2] [] pos) (tErr2 C f1 f2 te te2) := by
  refine pmk_imp (pmk_oex T iC tI F hr hb .nil (fun _ _ _ _ _ _ _ z => z.elim) hg hm (pa_mc (pa_cons (pe_mc he) (pa_cons (pe_mc he2) pa_nil hst2) hst)) hdb hst hpl) fun σ H Q h =>
    ⟨fun vs H1 => ∃ v v2, vs = [v, v2] ∧ ∀ d, H1 d = none → Q (.ref C) (some d) (upd H1 d (.xd [(f2, v2), (f1, v)])), ⟨_, h, fun v H1 q => ⟨_, q, fun v2 H2 q2 => ⟨v, v2, rfl, q2⟩⟩⟩, fun vs H1 ⟨v, v2, ev, q⟩ => ?_⟩
  subst ev
  refine ⟨by show 2 ≤ 1000; decide, fun a ha => ⟨a, v, v2, rfl, upd_same, fun dx hn hne => ?_⟩⟩
  have hn1 : H1 dx = none := by rw [← hn, upd_ne hne]
  exact ⟨rfl, dx, _, by rw [upd_ne (Ne.symm hne), upd_same], upd_same, hn1, by rw [del_end2 ha hne]; exact q dx hn1⟩
end
end BL
namespace BL
open PySem PySem.Spec PySem.Calls PyProof.Rows L2 NdefX PySem.HandSPX PySem.W.X
section
variable {M : Model} {A : Around} {E : Value → Shared → Prop} {h : Heap} {g : Array GenState} {d : Drawn} {t : Nat} {os : OsState}
variable {nm q : Str} {C N : Addr} {bs bm bmB : List Value} {hdct : Bool} {sn : List Str} {sub : List Value} {ab : Bool} {col : Option Bool} {dd : Option Addr} {k0 k1 k2 k3 k5 : Option Value} {B newId initId : String}
theorem check_newK (F : ExcBaseFacts B newId initId bmB) (hT : ∀ X : String, bm.contains (.type X) = bmB.contains (.type X)) {rest : List Value} {kw : List (Str × Value)} {Q : Unit → Shared → Prop}
    (hC : h.get? C = some (excClassObj nm q C N bs bm hdct sn sub ab col dd k0 k1 k2 k3 k5 newId)) (hq : Q () ⟨h, g, d, t, os⟩) : wpAny M A (checkBuiltinCall newId ⟨.ref C :: rest, kw⟩) Q E ⟨h, g, d, t, os⟩ := by
  have hcont : (Value.ref C :: bm).contains (.type B) = true := by rw [List.contains_cons, hT, F.hasB, Bool.or_true]
  have hstar := F.noStar
  simp only [checkBuiltinCall, F.newKind, F.newSplit, F.newRow]
  repeat (first | refine wpAny_loadPart_at hC ?_ | (refine wpAny_isSubtype_exc hC ?_; rw [hcont]) | refine wpAny_staticBase_exc hC ?_ | refine wpAny_madeBy_exc hC ?_ | simp only [bne_self_eq_false, Bool.false_eq_true, if_false] | wp_step)
  exact hq
end
section
variable {prog : Program} {w : World} {A : Around} {E : Value → Shared → Prop} {R : Result → Shared → Prop} {h : Heap} {g : Array GenState} {d : Drawn} {t : Nat} {os : OsState}
variable {nm q : Str} {C N : Addr} {bs bm bmB : List Value} {hdct : Bool} {sn : List Str} {sub : List Value} {ab : Bool} {col : Option Bool} {dd : Option Addr} {k0 k1 k2 k3 k5 : Option Value} {B newId initId : String}
theorem newK (F : ExcBaseFacts B newId initId bmB) (hT : ∀ X : String, bm.contains (.type X) = bmB.contains (.type X)) {rest : List Value} {kw : List (Str × Value)}
    (hC : h.get? C = some (excClassObj nm q C N bs bm hdct sn sub ab col dd k0 k1 k2 k3 k5 newId))
    (hq : R (.ok (.ret (.ref (h.objs.size + 1)))) ⟨(h.push { cls := .type "tuple", data := .seq rest.toArray }).push
      { cls := .ref C, data := .fields #[.ref h.objs.size, .none, .none, .none, .bool false, .none] }, g, d, t, os⟩) (hrest : rest.length ≤ sizeLine) :
    codeAny (model prog w) A (.builtin newId ⟨.ref C :: rest, kw⟩) R ⟨h, g, d, t, os⟩ := by
  have hends := F.ends
  have hcB : (Value.ref C :: bm).contains (.type B) = true := by rw [List.contains_cons, hT, F.hasB, Bool.or_true]
  have hcA : (Value.ref C :: bm).contains (.type "AttributeError") = false := by rw [List.contains_cons, hT, F.noAttr]; rfl
  have hcN : (Value.ref C :: bm).contains (.type "NameError") = false := by rw [List.contains_cons, hT, F.noName]; rfl
  refine codeAny_builtinAt F.entry ?_
  unfold Builtin.«BaseException.__new__»
  refine PySem.wpAt_bind ?_
  show PySem.wpAt _ _ _ (stack >>= _) _ _ _
  refine PySem.wpAt_bind (PySem.wpAt_stack fun p below => PySem.wpAt_of_wpAny ?_)
  wp_walk
  refine PySem.wpAt_of_wpAny ?_
  rw [F.owner]
  repeat (first | with_reducible refine wpAny_madeHere_exc F.canon hC ?_ | with_reducible refine wpAny_loadPart_at hC ?_ | (with_reducible refine wpAny_isSubtype_exc hC ?_; first | rw [hcB] | rw [hcA] | rw [hcN]) | wp_step)
  show R _ _
  rw [Heap.size_push]
  exact hq

theorem type_callK (F : ExcBaseFacts B newId initId bmB) (hT : ∀ X : String, bm.contains (.type X) = bmB.contains (.type X)) {rest : List Value} {kw : List (Str × Value)} {fI : Addr} {Q : PySem.Fin → Shared → Prop}
    (hC : h.get? C = some (excClassObj nm q C N bs bm hdct sn sub ab col dd k0 k1 k2 k3 k5 newId))
    (hi : W.Looks (model prog w) h (typeLookup (.ref C) "__init__") (some (.ref fI))) (hb : ∀ self, W.Looks (model prog w) h (bindSpecial (.ref fI) self) (.ref fI, [self])) (hrest : rest.length ≤ sizeLine)
    (hq : codeAny (model prog w) A (.call (.ref fI) ⟨.ref (h.objs.size + 1) :: rest, kw⟩)
      (fun r s' => match r with | .ok (.ret v) => v = .none ∧ Q (.done (.ret (.ref (h.objs.size + 1)))) s' | .ok _ => False | .error e => E e s')
      ⟨(h.push (W.kdv_tup rest)).push (excO C h.objs.size), g, d, t, os⟩) :
    wpAny (model prog w) A (Builtin.«type.__call__» ⟨.ref C :: rest, kw⟩) Q E ⟨h, g, d, t, os⟩ := by
  repeat (first | with_reducible refine wpAny_loadPart_at hC ?_ | with_reducible refine wpAny_madeBy_exc hC ?_ | wp_step)
  refine codeAny_call_builtin_code (Code.quiet_builtin _ F.quiet) (check_newK F hT hC ?_)
  refine newK F hT hC ?_ hrest
  show wpAny _ _ _ _ _ _
  have k : ∀ b o, h.get? b = some o → ((h.push (W.kdv_tup rest)).push (excO C h.objs.size)).get? b = some o := fun b o e => Heap.get?_push_of_some _ (Heap.get?_push_of_some _ e)
  have hC₁ := k _ _ hC
  have hget : ((h.push (W.kdv_tup rest)).push (excO C h.objs.size)).get? (h.objs.size + 1) = some (excO C h.objs.size) := by heap_get
  have hcC : (Value.ref C :: bm).contains (.ref C) = true := by simp
  have i1 := hi.keeps k
  have b1 := (hb (.ref (h.objs.size + 1))).keeps k
  unfold isInstance
  repeat (first | with_reducible refine wpAny_loadPart_at hget ?_ | (with_reducible refine wpAny_isSubtype_exc hC₁ ?_; rw [hcC]) | wp_step)
  show wpAny _ _ (typeLookup (.ref C) _) _ _ _
  refine i1.at ?_
  refine wpAny_holding (wpAny_bind (b1.at ?_))
  refine wpAny_bind (wpAny_call (codeAny_mono hq fun r s' z => ?_))
  rcases r with e | (v | _ | _ | _) <;> first | exact z | exact z.elim | skip
  obtain ⟨rfl, z⟩ := z
  first
    | exact wpAny_pure (wpAny_pure z)
    | (wp_walk; exact z)

theorem call_K (F : ExcBaseFacts B newId initId bmB) (hT : ∀ X : String, bm.contains (.type X) = bmB.contains (.type X)) {rest : List Value} {kw : List (Str × Value)} {fI : Addr}
    (hC : h.get? C = some (excClassObj nm q C N bs bm hdct sn sub ab col dd k0 k1 k2 k3 k5 newId))
    (hi : W.Looks (model prog w) h (typeLookup (.ref C) "__init__") (some (.ref fI))) (hb : ∀ self, W.Looks (model prog w) h (bindSpecial (.ref fI) self) (.ref fI, [self])) (hrest : rest.length ≤ sizeLine)
    (hq : codeAny (model prog w) (A.under (.builtin "type.__call__" ⟨.ref C :: rest, kw⟩)) (.call (.ref fI) ⟨.ref (h.objs.size + 1) :: rest, kw⟩) (W.InitBack (h.objs.size + 1) R)
      ⟨(h.push (W.kdv_tup rest)).push (excO C h.objs.size), g, d, t, os⟩) :
    codeAny (model prog w) A (.call (.ref C) ⟨rest, kw⟩) R ⟨h, g, d, t, os⟩ := by
  have f1 := tc_lookup
  have f2 := tc_bind (.ref C)
  have hTy : (⟨h, g, d, t, os⟩ : Shared).TypeIs (.ref C) "type" := ⟨_, hC, rfl⟩
  refine codeAny_of_tree ?_
  show wpAny _ _ (callAny (.ref C) _) _ _ _
  repeat (any_goals (first | assumption | with_reducible refine wpAny_loadPart_at hC ?_ | wp_step))
  refine ⟨rfl, ?_⟩
  refine codeAny_call_builtin_at (Code.quiet_builtin _ (by decide +kernel)) entry_typeCall (wpAny_check_type_call_sub hC (type_callK F hT hC hi hb hrest ?_))
  refine codeAny_mono hq fun r s' z => ?_
  rcases r with e | (v | _ | _ | _) <;> exact z
end
end BL
namespace BL
open PySem PySem.Spec PySem.Calls PyProof.Rows L2 NdefX
/-- C(k = e, ..), C's own __init__ keeping sp -/
def tMkK (C : Addr) (sp : Sp) (n : Nat) (gV : List V → List V → List V) (tk : TA) : L2.St → Hp → XK → Prop := fun σ H Q => tk σ H fun zs H1 => zs.length = n ∧ ∀ a, H1 a = none → sp (gV [.ref a] zs) (upd H1 a (exo a C none))
  (fun v H2 => v = .non ∧ ∃ (d : Addr) (fs : List (Str × V)), H2 a = some (exo a C (some d)) ∧ H2 d = some (exd d fs) ∧ H1 d = none ∧ Q (.ref C) (some d) (upd (del H2 a) d (.xd fs))) (fun _ _ _ => False)
section
variable {X : Cx} {CX : CXT} {x : Str} {C fI : Addr} {k : Nat} {fd : FuncData} {ps ks : List Str} {sp : Sp} {g : List Value → List Value → List Value} {gV : List V → List V → List V} {kws : List Keyword} {tk : TA} {p pos : Pos}
theorem pmk_K (T : OexC X.K C) (iC : PySem.W.findIn X.K (.ref C) "__init__" = some (some (.ref fI))) (tI : PySem.W.typeIn X.K (.ref fI) = some (.type "function"))
    (F1 : FnOk X.prog X.w X.K X.mg X.base CX k fI fd ps sp) (hr : Room (k + 1) X.A) (hb : KBn X.K fd ps 1 ks g gV) (hx : Passes CX X (fun _ _ _ => False)) (hg : Gl X x) (hm : X.mg x = some (.ref C)) (hkw : PK X kws tk)
    (hdb : (x == ("__debug__" : Str)) = false := by decide) (hall : (backToKw pos (keywordEach kws X.env)).all (·.1.isSome) = true := by rfl) (hks : (backToKw pos (keywordEach kws X.env)).filterMap (·.1) = ks := by rfl)
    (hpl : ((backTo pos (starEach [] X.env)).any (·.1) || (backToKw pos (keywordEach kws X.env)).any (·.1.isNone)) = false := by rfl) :
    PMk X (.Call (.Name x p) [] kws pos) (tMkK C sp ks.length gV tk) := by
  intro pins s σ H Q I h
  obtain ⟨nm, q, N, bs, bm, sn, sub, ab, col, dd, k0, k1, k2, k3, k5, hC, hbm⟩ := T.cls
  refine wpAny_Call_Name_kw (ld_glob I hg hm ?_ hdb)
  refine PySem.W.callWith_KW0 (h₀ := X.base) I.ok.mod.kin T.kC hall ?_ hpl
  refine thn (hkw.run pos pins s σ H _ I h) fun ws s1 ⟨zs, H1, I1, rz, l2, q1⟩ => ⟨I1.kIn, ?_⟩
  rw [hks]
  show wpAny _ _ (call (.ref C) [] (ks.zip ws)) _ _ _
  obtain ⟨hp, gg, dr, tk', os⟩ := s1
  have hsz : hp.objs.size ≤ hp.objs.size + 1 := Nat.le_succ _
  have hn : H1 (hp.objs.size + 1) = none := I1.hok.fresh hsz
  have hq := q1 (hp.objs.size + 1) hn
  have kk : ∀ b o, hp.get? b = some o → ((hp.push (PySem.W.kdv_tup [])).push (PySem.HandSPX.excO C hp.objs.size)).get? b = some o := fun b o e => Heap.get?_push_of_some _ (Heap.get?_push_of_some _ e)
  have hget : ((hp.push (PySem.W.kdv_tup [])).push (PySem.HandSPX.excO C hp.objs.size)).get? (hp.objs.size + 1) = some (PySem.HandSPX.excO C hp.objs.size) := by heap_get
  have I2 : Inv X pins σ (upd H1 (hp.objs.size + 1) (exo (hp.objs.size + 1) C none)) ⟨(hp.push (PySem.W.kdv_tup [])).push (PySem.HandSPX.excO C hp.objs.size), gg, dr, tk', os⟩ :=
    I1.laid (t' := tk') (a := hp.objs.size + 1) (o := exo (hp.objs.size + 1) C none) (h' := (hp.push (PySem.W.kdv_tup [])).push (PySem.HandSPX.excO C hp.objs.size)) kk hsz (exo_ok hget)
  have r1 : Vals [V.ref (hp.objs.size + 1)] [Value.ref (hp.objs.size + 1)] := .cons rfl .nil
  have r2 := hb.rel r1 rz
  have hws : ws.length = ks.length := by rw [← Paired.length rz, l2]
  refine wpAny_call (call_K F.excBase_ValueError (fun Y => PySem.HandSPX.refsVE_contains Y bm hbm) (I1.kIn _ _ hC) (PySem.W.looks_findIn I1.kIn iC) (fun self => PySem.W.bind_fn I1.kIn self tI) (Nat.zero_le _)
    (codeAny_mono (F1.run _ X.stack _ _ ⟨[Value.ref (hp.objs.size + 1)], ks.zip ws⟩ (g [Value.ref (hp.objs.size + 1)] ws) _ _ (fun _ _ _ => False) (hr.make C [] (ks.zip ws)) (I2.env0.make C [] (ks.zip ws)) (hb.to _ [Value.ref (hp.objs.size + 1)] ws I2.kIn rfl hws) r2 hq) fun r s' hq' => ?_))
  cases r with
  | error er => exact hx pins σ _ _ er s' I2 hq'
  | ok fl =>
    cases fl with
    | ret u =>
      obtain ⟨v, H2, os2, bare2, un2, hok2, rv, ev, d, fs, ea, ed, hd1, q2⟩ := hq'
      subst ev
      obtain ⟨h2, g2, d2, t2, os'⟩ := s'
      exact ⟨rv, mk_end (raises_own T.exC T.tyC) I1 hsz kk un2 hok2 os2 bare2 ea ed hd1 q2⟩
    | next => exact False.elim hq'
    | brk => exact False.elim hq'
    | cont => exact False.elim hq'
end
end BL
namespace BL
open PySem PySem.Spec PySem.Calls PyProof.Rows L2 NdefX
/-- at a: an exception that was caught, of the class cls, its own dict at d -/
def exV (a : Addr) (cls : Value) (d : Option Addr) : HO := .ext fun h => ∃ (oe : Obj) (vs : Array Value), h.get? a = some oe ∧ oe.cls = cls ∧ oe.dict = d ∧ oe.data = .fields vs
theorem exV_at {P : Program} {w : World} {H : Hp} {h : Heap} {a : Addr} {cls : Value} {d : Option Addr} (hok : HOk P w H h) (e : H a = some (exV a cls d)) : ∃ (oe : Obj) (vs : Array Value), h.get? a = some oe ∧ oe.cls = cls ∧ oe.dict = d ∧ oe.data = .fields vs := by
  obtain ⟨z, _, _⟩ := hok a _ e
  exact z
theorem exV_ok {P : Program} {w : World} {H : Hp} {h : Heap} {a : Addr} {cls : Value} {d : Option Addr} {oe : Obj} {vs : Array Value} (e : h.get? a = some oe) (h1 : oe.cls = cls) (h2 : oe.dict = d) (h3 : oe.data = .fields vs) : ObjOk P w H h a (exV a cls d) :=
  ⟨⟨oe, vs, e, h1, h2, h3⟩, ⟨oe, e⟩, fun _ _ ⟨o, v, q, r⟩ k => ⟨o, v, k o q, r⟩⟩
section
variable {X : Cx} {pins : List (Addr × Obj)} {σ : L2.St} {H : Hp} {s : Shared}
/-- an object that was not tracked is tracked from now on -/
theorem inv_track {a : Addr} {oe : Obj} {vs : Array Value} {o : HO} (I : Inv X pins σ H s) (he : s.heap.get? a = some oe) (hd : oe.data = .fields vs) (na : H a = none) (n0 : X.s_0.heap.get? a = none) (np : ∀ p ∈ X.pn ++ pins, p.1 ≠ a)
    (new : ObjOk X.prog X.w (upd H a o) s.heap a o) : Inv X pins σ (upd H a o) s := by
  have neN : ∀ {b : Addr} {u : HO}, H b = some u → b ≠ a := fun e => ne_of_none e na
  have ne0 : ∀ {b : Addr} {u : Obj}, X.s_0.heap.get? b = some u → b ≠ a := fun {b u} e z => by
    rw [z, n0] at e
    cases e
  refine ⟨I.ok, I.os, I.bare, ⟨I.base.keep, I.base.slot, fun b u e n hx => ?_, I.base.there, fun b xs e => ?_, fun b u v e => ?_, fun b ps e => ?_⟩, I.loc, I.cell, ?_, fun x c e => ?_, fun p hp => ?_, fun b u e => ?_, I.len⟩
  · rw [upd_ne (ne0 e)]
    exact I.base.free b u e n hx
  · have q := I.base.tups b xs e
    rw [upd_ne (neN q)]
    exact q
  · have q := I.base.frzs b u v e
    rw [upd_ne (neN q)]
    exact q
  · obtain ⟨m, q⟩ := I.base.tbls b ps e
    exact ⟨m, by rw [upd_ne (neN q)]; exact q⟩
  · have nL : X.env.locals ≠ a := fun z => by
      obtain ⟨m, ⟨o, es, ep, ho, hdd, _⟩, _⟩ := I.loc
      rw [z, he] at ho
      cases ho
      rw [hd] at hdd
      cases hdd
    rw [upd_ne nL]
    exact I.free
  · have nC : c ≠ a := fun z => by
      obtain ⟨v, o, ho, hdd⟩ := I.cell x c e
      rw [z, he] at ho
      cases ho
      rw [hd] at hdd
      cases hdd
    rw [upd_ne nC]
    exact I.freeC x c e
  · obtain ⟨e, n, r⟩ := I.pin p hp
    exact ⟨e, by rw [upd_ne (np p hp)]; exact n, r⟩
  · by_cases hb : b = a
    · subst hb
      rw [upd_same] at e
      cases e
      exact new
    · rw [upd_ne hb] at e
      exact (I.hok b u e).stay (fun _ _ _ q => q) (fun c q => by rw [upd_ne (neN q)]; exact q) fun c xs q => by rw [upd_ne (neN q)]; exact q
end
/-- what «except x as n: c = n» wishes of an exception of the body: slots i (n's), j (c's) -/
def wHeld (K : PySem.W.Frag) (c : Value) (i j : Nat) (D : Ends) : WX := fun cls d σ H =>
  PySem.W.exmOne K cls c = some true ∧ ∀ a, H a = none → D.nx ((σ.set j (some (.ref a))).set i none) (upd H a (exV a cls d))
section
variable {X : Cx} {x n y : Str} {c : Value} {i j : Nat} {body : List Stmt} {np pos pos' q1 q2 q3 : Pos} {tb : WX → TS} {Wout : WX}
/-- try: .. except x as n: y = n -/
theorem ps_try_held (hs : X.stack = X.env :: X.outer) (hf : X.env.frame = some X.env.locals) (hex : X.ex = []) (hN : X.N.Nodup) (hi : X.N[i]? = some n) (hj : X.N[j]? = some y) (hij : i ≠ j) (hln : X.env.kindOf n = some .local) (hly : X.env.kindOf y = some .local) (hc : Names X x c)
    (hdn : (n == ("__debug__" : Str)) = false) (hcn : (n == ("__classdict__" : Str)) = false) (hsw : ∀ env : Env, env.scope = X.env.scope → swapsWith (.Name n q2) (some (.Name y q1)) q3.line env = pure false)
    (hb : ∀ (W : WX) (pn : List (Addr × Obj)) (xe : Value → Shared → Prop), Takes (X.tr pn xe) W → PassesOwn (model X.prog X.w) X.A X.env xe → PSs (X.tr pn xe) body (tb W)) :
    PS X (.Try body [.ExceptHandler (some (.Name x np)) (some n) [.Assign [.Name y q1] (.Name n q2) q3] pos'] [] [] pos) (fun D σ H => tb (wHeld X.K c i j D) D σ H) := by
  refine ⟨fun pins s σ H D I h => ?_⟩
  have ok := I.ok
  have hfr : X.A.frames = some (X.env :: X.outer) := by rw [ok.frames, hs]
  have hloc : Loc X.env.scope n := .inl hln
  refine wpAny_Try_except ?_
  refine wpAny_mono ((hb (wHeld X.K c i j D) (X.pn ++ pins) (fun e s₁ => wpAny (model X.prog X.w) X.A (noteFrame e X.env) (fun _ s₂ => wpAny (model X.prog X.w) X.A (setFlight e none) (fun _ s₃ =>
    wpAny (model X.prog X.w) X.A (handleBy e X.env [.ExceptHandler (some (.Name x np)) (some n) [.Assign [.Name y q1] (.Name n q2) q3] pos']) (SP X pins D) X.xe s₃) X.xe s₂) X.xe s₁) (fun u s' xx => ?_) PassesOwn.looking).run [] s σ H D (I.toTry _) h) (fun f s1 hsp => ?_) (fun e s1 he => he)
  · obtain ⟨a, B, sI, pins', σ', H', cls, d, rfl, J', nb, up, sky, na, os, ag, hb1, hyes⟩ := xx
    have J : Inv X pins σ' H' sI := J'.ofTry ok
    have sky' : Sky B (X.env :: X.outer) a (Zc cls d) X.env.locals s'.heap := by rw [← hs]; exact sky
    show wpAny (model X.prog X.w) X.A (noteFrame (.ref a) X.env) _ _ _
    refine Sky.land Zc.steady hfr hf sky' fun h3 fl3 up3 => ?_
    have J3 : Inv X pins σ' H' { s' with heap := h3 } := J.landed nb fl3.1 (up.trans up3) os ag
    obtain ⟨oe3, vs3, he3, hz3, hd3⟩ := fl3.there
    have nfr : a ∉ frs (X.env :: X.outer) := fun hm => by
      obtain ⟨_, o', e', hnf⟩ := fl3.2.2.1.mem hm
      rw [he3] at e'
      cases e'
      exact hnf _ hd3
    have nL : a ≠ X.env.locals := fun z => nfr (List.mem_filterMap.mpr ⟨X.env, List.mem_cons_self, by rw [hf, z]⟩)
    have nF : a ∉ X.fs := fun hm => by
      obtain ⟨e, he, q⟩ := List.mem_filterMap.mp hm
      exact nfr (List.mem_filterMap.mpr ⟨e, List.mem_cons_of_mem _ he, q⟩)
    have nS : a ∉ frs X.stack := by rw [hs]; exact nfr
    have Bn : B.get? a = none := fl3.2.1
    have nI : sI.heap.get? a = none := by
      cases e : sI.heap.get? a with
      | none => rfl
      | some o =>
        have z := nb a o e nS
        rw [Bn] at z
        cases z
    have n0 : X.s_0.heap.get? a = none := by
      cases e : X.s_0.heap.get? a with
      | none => rfl
      | some o =>
        obtain ⟨o', e'⟩ := J.base.there a o e (by rw [hex]; simp)
        rw [nI] at e'
        cases e'
    have npn : ∀ p ∈ X.pn ++ pins, p.1 ≠ a := fun p hp z => by
      obtain ⟨e, _⟩ := J.pin p hp
      rw [z, nI] at e
      cases e
    have S3 := J3.suite he3 hd3 na nL nF
    refine wpAny_handleBy_cons (codeAny_handlers_test ?_) (by intro q; cases q)
    have LT : PySem.W.Looks (model X.prog X.w) h3 (typeOf (.ref a)) cls := fun A Q E s k q => wpAny_typeOf_ref (k _ _ he3) (by rw [hz3.1]; exact q)
    have LM := PySem.W.exm_one (M := model X.prog X.w) (J3.kIn) LT hb1
    have test : ∀ {Q : Value → Shared → Prop} {E : Value → Shared → Prop}, Q c { s' with heap := h3 } → wpAny (model X.prog X.w) (X.A.mark (some (.ref a))) (eval (.Name x np) X.env) Q E { s' with heap := h3 } := fun {Q E} q => by
      obtain ⟨hg, hdbg, hm | ⟨hm, hv, hnn⟩⟩ := hc
      · exact ld_glob (X := X.suite a ((a, oe3) :: (X.pn ++ pins))) S3 hg hm q hdbg
      · exact ld_blt (X := X.suite a ((a, oe3) :: (X.pn ++ pins))) S3 hg hm hv q hnn hdbg
    refine test (LM.here ?_)
    refine codeAny_handlers_suite_as ?_
    refine HandSPX.lands_againZ fl3 fun h4 fl4 up4 => ?_
    have J4 : Inv X pins σ' H' { s' with heap := h4 } := J.landed nb fl4.1 ((up.trans up3).trans up4) os ag
    obtain ⟨oe4, vs4, he4, hz4, hd4⟩ := fl4.there
    have S4 := J4.suite he4 hd4 na nL nF
    refine store_ok (X := X.suite a ((a, oe4) :: (X.pn ++ pins))) (v := .ref a) S4 hN hi hloc rfl (fun s5 S5 => ?_) (.inr hln)
    have hlt : i < σ'.length := by
      rw [J.len]
      exact (List.getElem?_eq_some_iff.mp hi).1
    have suite : PSs (X.suite a ((a, oe4) :: (X.pn ++ pins))) [.Assign [.Name y q1] (.Name n q2) q3] (tAsg (tVar i) (gName j)) :=
      pss_one (ps_set (X := X.suite a ((a, oe4) :: (X.pn ++ pins))) (i := j) hN hj (.inl hly) (pe_var (X := X.suite a ((a, oe4) :: (X.pn ++ pins))) hi (.inl hln) hdn hcn) (hsw _ rfl) (.inr hly))
    refine wpAny_mono (suite.run [] s5 _ H' { nx := fun σ6 H6 => σ6 = (σ'.set i (some (.ref a))).set j (some (.ref a)) ∧ H6 = H', rt := fun _ _ => False } S5 ⟨.ref a, List.getElem?_set_self hlt, rfl, rfl⟩) (fun f s6 hsp => ?_) (fun _ _ z => False.elim z)
    cases f with
    | next =>
      obtain ⟨σ6, H6, S6, e6, e7⟩ := hsp
      subst e6
      subst e7
      obtain ⟨he6, _⟩ := S6.pin (a, oe4) (by simp)
      refine gone_ok (inv_track (S6.unsuite ok) he6 hd4 na n0 npn (exV_ok he6 hz4.1 hz4.2 hd4)) hN hi hln fun s7 J7 => ?_
      refine ⟨_, _, J7, ?_⟩
      have q := hyes a na
      have el : (((σ'.set i (some (V.ref a))).set j (some (.ref a))).set i none) = ((σ'.set j (some (.ref a))).set i none) := by
        rw [List.set_comm _ _ hij, List.set_set]
      rw [el]
      exact q
    | brk =>
      obtain ⟨_, _, _, q⟩ := hsp
      exact False.elim q
    | cont =>
      obtain ⟨_, _, _, q⟩ := hsp
      exact False.elim q
    | ret u =>
      obtain ⟨_, _, _, _, _, q⟩ := hsp
      exact False.elim q
  · cases f with
    | next =>
      obtain ⟨σ', H', J', q⟩ := hsp
      exact wpAny_execs_nil ⟨σ', H', J'.ofTry ok, q⟩
    | brk =>
      obtain ⟨σ', H', J', q⟩ := hsp
      exact ⟨σ', H', J'.ofTry ok, q⟩
    | cont =>
      obtain ⟨σ', H', J', q⟩ := hsp
      exact ⟨σ', H', J'.ofTry ok, q⟩
    | ret u =>
      obtain ⟨v, σ', H', J', r, q⟩ := hsp
      exact ⟨v, σ', H', J'.ofTry ok, r, q⟩
end
/-! ### such an exception asked -/
/-- e.f of a caught exception -/
def tXv (C : Addr → Prop) (f : Str) (te : TE) : TE := fun σ H Q => te σ H fun x H1 => ∃ (a C' dd : Addr) (fs : List (Str × V)) (v : V), x = .ref a ∧ C C' ∧ H1 a = some (exV a (.ref C') (some dd)) ∧ H1 dd = some (.xd fs) ∧ fs.lookup f = some v ∧ Q v H1
theorem pe_xv {X : Cx} {C : Addr → Prop} {e : Expr} {te : TE} {pos : Pos} {n : Str} (T : ∀ c, C c → XfC X.K c ∧ PySem.W.findIn X.K (.ref c) n = some none) (he : PE X e te) (hb : attributeBase e n X.env (eval e X.env) = eval e X.env := by rfl) : PE X (.Attribute e n pos) (tXv C n te) := by
  refine ⟨fun pins s σ H Q I h => ?_⟩
  refine attr_of hb (thn (he.run pins s σ H _ I h) fun u s1 hh => ?_)
  obtain ⟨x, H1, I1, rx, a, C', dd, fs, v, ex, hC, ea, ed, l, q⟩ := hh
  subst ex
  obtain rfl : u = Value.ref a := rx
  obtain ⟨oe, vs, ho, hcl, hdc, hdt⟩ := exV_at I1.hok ea
  obtain ⟨mA, hns, hr⟩ := (show ObjOk X.prog X.w H1 s1.heap dd (.xd fs) from I1.hok dd _ ed)
  obtain ⟨od, hod, hl⟩ := lookIn_ns hns
  obtain ⟨u, hu, ru⟩ := RelO.some_of (v := v) (o := mA n) (by rw [← l]; exact hr n)
  obtain ⟨T1, T2⟩ := T C' hC
  have J : PySem.W.InstAt s1.heap a oe C' (some od) := ⟨ho, hcl, by unfold PySem.W.notCls; rw [hdt] <;> rfl, by rw [hdc]; exact hod⟩
  exact HandSPX.exc_get I1.kIn J T1.ga T1.gg T1.exC (PySem.W.findObj_own T1.hdC T2 rfl (by rw [hl, hu])) (handed_of ru) ⟨v, H1, I1.tok _, ru, q⟩
end BL
namespace BL
open PySem PySem.Spec PySem.Calls PyProof.Rows L2 NdefX
/-! ### one rule or another -/
theorem op_or {X : Cx} {f : Value → Value → Sem Value} {r r' : R2} (h : OpR X f r) (h' : OpR X f r') : OpR X f (fun x y H Q => r x y H Q ∨ r' x y H Q) := by
  intro pins s σ H x y v u Q I rx ry q
  rcases q with q | q
  · exact h pins s σ H x y v u Q I rx ry q
  · exact h' pins s σ H x y v u Q I rx ry q
theorem call_or {X : Cx} {f : Value} {r r' : List V → Hp → VK → Prop} (h : CallR X f r) (h' : CallR X f r') : CallR X f (fun xs H Q => r xs H Q ∨ r' xs H Q) := by
  intro pins s σ H xs us Q I rx q
  rcases q with q | q
  · exact h pins s σ H xs us Q I rx q
  · exact h' pins s σ H xs us Q I rx q
/-! ### isinstance of a caught exception -/
def rIsX (K : PySem.W.Frag) : List V → Hp → VK → Prop := fun xs H Q => ∃ (a C dd : Addr) (fs : List (Str × V)) (c : V) (u : Value) (b : Bool), xs = [.ref a, c] ∧ ClsV c u ∧ H a = some (exV a (.ref C) (some dd)) ∧ H dd = some (.xd fs) ∧ ExcC K C ∧ PySem.W.kitOne K (.ref C) u = some b ∧ Q (.bl b) H
theorem call_isX {X : Cx} : CallR X (.builtin "isinstance") (rIsX X.K) := by
  intro pins s σ H xs us Q I r h
  obtain ⟨a, C, dd, fs, c, u, b, rfl, k, ea, ed, T, e, q⟩ := h
  obtain ⟨u1, u2, rfl, r1, r2⟩ := vals2 r
  have e2 := k.eq r2
  subst e2
  obtain rfl : u1 = Value.ref a := r1
  obtain ⟨oe, vs, ho, hcl, hdc, hdt⟩ := exV_at I.hok ea
  obtain ⟨mA, ⟨od, es, ep, hod, hrest⟩, hr⟩ := (show ObjOk X.prog X.w H s.heap dd (.xd fs) from I.hok dd _ ed)
  have J : PySem.W.InstAt s.heap a oe C (some od) := ⟨ho, hcl, by unfold PySem.W.notCls; rw [hdt] <;> rfl, by rw [hdc]; exact hod⟩
  have hcs : (PySem.W.clsIn X.K C).isSome = true := by
    have z := T.hd
    unfold PySem.W.hasDictIn at z
    cases hc : PySem.W.clsIn X.K C with
    | none => rw [hc] at z; cases z
    | some cd => rfl
  exact PySem.W.kia_one (PySem.W.kitx_exc (od := some od) hcs T.hg T.hk T.hs T.ha T.hn T.ht T.hm) I.kIn J e (fun z => by cases z) fun tk => ⟨.bl b, H, I.tok tk, rfl, q⟩
/-- isinstance(x, one class): data, instances, caught exceptions -/
theorem call_isiP {X : Cx} : CallR X (.builtin "isinstance") (fun xs H Q => rIsi X.K xs H Q ∨ rIsX X.K xs H Q) := call_or call_isi call_isX
end BL
namespace BL
open PySem PySem.Spec PySem.Calls PyProof.Rows L2 NdefX
/-! ### data that a value reads off as, dicts within -/
mutual
inductive RdN (h : Heap) : Value → PyData → List Addr → Prop
  | none : RdN h .none .none []
  | bool (b) : RdN h (.bool b) (.bool b) []
  | int (i t) : RdN h (.int i t) (.int i) []
  | str (x t) : RdN h (.str x t) (.str x) []
  | list {a o vs n xs as} : h.get? a = some o → o.cls = .type "list" → o.data = .seq vs n → RdNs h vs.toList xs as → RdN h (.ref a) (.list xs) (a :: as)
  | tuple {a o vs n xs as} : h.get? a = some o → o.cls = .type "tuple" → o.data = .seq vs n → RdNs h vs.toList xs as → RdN h (.ref a) (.tuple xs) as
  | dict {a o es n kvs as bs} : h.get? a = some o → o.cls = .type "dict" → o.data = .dict es n → (a == sysModules) = false → RdNs h (es.toList.map (·.key)) (kvs.map (·.1)) as →
      RdNs h (es.toList.map (·.val)) (kvs.map (·.2)) bs → RdN h (.ref a) (.dict kvs) (a :: as ++ bs)
inductive RdNs (h : Heap) : List Value → List PyData → List Addr → Prop
  | nil : RdNs h [] [] []
  | cons {v vs d ds as bs} : RdN h v d as → RdNs h vs ds bs → RdNs h (v :: vs) (d :: ds) (as ++ bs)
end
mutual
theorem RdN.reads {h : Heap} : ∀ {v : Value} {d : PyData} {as : List Addr}, RdN h v d as → Reads h v d as
  | _, _, _, .none => .none
  | _, _, _, .bool b => .bool b
  | _, _, _, .int i t => .int i t
  | _, _, _, .str x t => .str x t
  | _, _, _, .list h1 h2 h3 h4 => .list h1 h2 h3 h4.reads
  | _, _, _, .tuple h1 h2 h3 h4 => .tuple h1 h2 h3 h4.reads
  | _, _, _, .dict h1 h2 h3 _ h4 h5 => .dict h1 h2 h3 h4.reads h5.reads
theorem RdNs.reads {h : Heap} : ∀ {vs : List Value} {ds : List PyData} {as : List Addr}, RdNs h vs ds as → ReadsAll h vs ds as
  | _, _, _, .nil => .nil
  | _, _, _, .cons r rs => .cons r.reads rs.reads
end
section
variable {prog : Program} {w : World} {h₀ : Heap}
mutual
theorem reprK_of : ∀ {v : Value} {d : PyData} {as : List Addr}, RdN h₀ v d as → d.showable = true → d.shown.length ≤ sizeLine → ∃ bs, ReadAtMost h₀ d.depth bs ∧ ReprK prog w bs h₀ d.depth v d.shown
  | _, _, _, .none, _, _ => ⟨[], (fun _ h => nomatch h), by simp only [PyData.shown]; exact .of_is ReprIs.none _ _ _⟩
  | _, _, _, .bool b, _, _ => ⟨[], (fun _ h => nomatch h), by simp only [PyData.shown]; exact .of_is (ReprIs.bool b) _ _ _⟩
  | _, _, _, .int i t, hs, _ => ⟨[], (fun _ h => nomatch h), by simp only [PyData.shown]; exact .of_is (ReprIs.int t (by simpa [PyData.showable] using hs)) _ _ _⟩
  | _, _, _, .str x t, _, hz => ⟨[], (fun _ h => nomatch h), by simp only [PyData.shown]; exact .of_is (ReprIs.str x t (by simpa only [PyData.shown] using hz)) _ _ _⟩
  | _, _, _, .list (a := a) (vs := vs) (xs := xs) h1 h2 h3 h4, hs, hz => by
    have hz' : (listText (PyData.shownAll xs)).length ≤ sizeLine := by simpa only [PyData.shown] using hz
    obtain ⟨bs, hb, hk⟩ := reprsK_of h4 (by simpa [PyData.showable] using hs) (fun t ht => Nat.le_trans (listText_mem_le ht) hz')
    have r : Reads h₀ (.ref a) (.list xs) _ := .list h1 h2 h3 h4.reads
    have hna : a ∉ bs := not_mem_of_deeper r (by simp only [PyData.depth]; omega) hb
    refine ⟨a :: bs, ReadAtMost.cons r (by simp only [PyData.depth]; omega) hb, ?_⟩
    simp only [PyData.depth, PyData.shown]
    obtain ⟨l⟩ := vs
    cases l with
    | nil =>
      have h4' : RdNs h₀ [] xs _ := h4
      cases h4'
      simp only [PyData.shownAll, listText_nil]
      exact ReprK.listEmpty h1 h2 h3
    | cons x l => exact ReprK.list h1 h2 h3 hna (by simpa using hk.length_eq) (fun i y e => hk.item i y (by simpa using e))
  | _, _, _, .tuple (a := a) (xs := xs) h1 h2 h3 h4, hs, hz => by
    have hz' : (tupleText (PyData.shownAll xs)).length ≤ sizeLine := by simpa only [PyData.shown] using hz
    obtain ⟨bs, hb, hk⟩ := reprsK_of h4 (by simpa [PyData.showable] using hs) (fun t ht => Nat.le_trans (tupleText_mem_le ht) hz')
    have r : Reads h₀ (.ref a) (.tuple xs) _ := .tuple h1 h2 h3 h4.reads
    have hna : a ∉ bs := not_mem_of_deeper r (by simp only [PyData.depth]; omega) hb
    refine ⟨a :: bs, ReadAtMost.cons r (by simp only [PyData.depth]; omega) hb, ?_⟩
    simp only [PyData.depth, PyData.shown]
    exact ReprK.tuple h1 h2 h3 hna hk
  | _, _, _, .dict (a := a) (es := es) (kvs := kvs) (as := as₁) (bs := bs₁) h1 h2 h3 hsys h4 h5, hs, hz => by
    have hz' : (dictText (PyData.shownKv kvs)).length ≤ sizeLine := by simpa only [PyData.shown] using hz
    obtain ⟨hs1, hs2⟩ := PyData.showableKv_split kvs (by simpa [PyData.showable] using hs)
    obtain ⟨b1, hb1, k1⟩ := reprsK_of h4 hs1 (fun t ht => let ⟨p, hp, hl⟩ := PyData.shownKv_key_le kvs t ht; Nat.le_trans hl (Nat.le_trans (dictText_mem_le hp) hz'))
    obtain ⟨b2, hb2, k2⟩ := reprsK_of h5 hs2 (fun t ht => let ⟨p, hp, hl⟩ := PyData.shownKv_val_le kvs t ht; Nat.le_trans hl (Nat.le_trans (dictText_mem_le hp) hz'))
    have r : Reads h₀ (.ref a) (.dict kvs) _ := .dict h1 h2 h3 h4.reads h5.reads
    have hb : ReadAtMost h₀ (PyData.depthKv kvs) (b1 ++ b2) := (hb1.mono (PyData.depthAll_keys_le kvs)).append (hb2.mono (PyData.depthAll_vals_le kvs))
    have hna : a ∉ b1 ++ b2 := not_mem_of_deeper r (by simp only [PyData.depth]; omega) hb
    refine ⟨a :: (b1 ++ b2), ReadAtMost.cons r (by simp only [PyData.depth]; omega) hb, ?_⟩
    simp only [PyData.depth, PyData.shown, PyData.shownKv_eq]
    exact ReprK.dict h1 h2 h3 hsys hna (ReprEntriesK.of_two es.toList _ _
      (k1.more_le (fun b hb => List.mem_append_left _ hb) (PyData.depthAll_keys_le kvs)) (k2.more_le (fun b hb => List.mem_append_right _ hb) (PyData.depthAll_vals_le kvs)))
theorem reprsK_of : ∀ {vs : List Value} {ds : List PyData} {as : List Addr}, RdNs h₀ vs ds as → PyData.showableAll ds = true → (∀ t ∈ PyData.shownAll ds, t.length ≤ sizeLine) →
    ∃ bs, ReadAtMost h₀ (PyData.depthAll ds) bs ∧ ReprAllK prog w bs h₀ (PyData.depthAll ds) vs (PyData.shownAll ds)
  | _, _, _, .nil, _, _ => ⟨[], (fun _ h => nomatch h), by simp only [PyData.shownAll]; exact .nil⟩
  | _, _, _, .cons (d := d) (ds := ds) r rs, hs, hz => by
    have hs' : d.showable = true ∧ PyData.showableAll ds = true := by simpa [PyData.showableAll] using hs
    obtain ⟨b1, hb1, k1⟩ := reprK_of r hs'.1 (hz _ (by simp only [PyData.shownAll]; exact List.mem_cons_self ..))
    obtain ⟨b2, hb2, k2⟩ := reprsK_of rs hs'.2 (fun t ht => hz t (by simp only [PyData.shownAll]; exact List.mem_cons_of_mem _ ht))
    refine ⟨b1 ++ b2, ?_, ?_⟩
    · intro b hm
      simp only [PyData.depthAll]
      rcases List.mem_append.mp hm with hm | hm
      · obtain ⟨d', as', r', hd'⟩ := hb1 b hm
        exact ⟨d', as', r', Nat.le_trans hd' (Nat.le_max_left _ _)⟩
      · obtain ⟨d', as', r', hd'⟩ := hb2 b hm
        exact ⟨d', as', r', Nat.le_trans hd' (Nat.le_max_right _ _)⟩
    · simp only [PyData.depthAll, PyData.shownAll]
      exact .cons ((k1.more fun b hb => List.mem_append_left _ hb).level_le (Nat.le_max_left _ _)) (k2.more_le (fun b hb => List.mem_append_right _ hb) (Nat.le_max_right _ _))
end
variable {A : Around} {E : Value → Shared → Prop} {s : Shared} {Q : Value → Shared → Prop}
/-- repr of a list, a tuple, a dict -/
theorem repr_rd {a : Addr} {d : PyData} {as : List Addr} (r : RdN h₀ (.ref a) d as) (hs : d.showable = true) (hg : A.guards = some []) (hu : A.units + (d.depth + 1) < cLine) (hk0 : ∀ b o, h₀.get? b = some o → s.heap.get? b = some o)
    (hQ : ∀ h' u tk, (∀ b o, s.heap.get? b = some o → h'.get? b = some o) → Q (.str d.shown u) { s with heap := h', toks := tk }) (hsz : d.shown.length ≤ sizeLine) : wpAny (model prog w) A (call (.builtin "repr") [.ref a]) Q E s := by
  cases r with
  | list h1 h2 h3 h4 =>
    rename_i o vs n xs bs₀
    have hz' : (listText (PyData.shownAll xs)).length ≤ sizeLine := by simpa only [PyData.shown] using hsz
    obtain ⟨bs, hb, hk⟩ := reprsK_of (prog := prog) (w := w) h4 (by simpa [PyData.showable] using hs) (fun t ht => Nat.le_trans (listText_mem_le ht) hz')
    have hna : a ∉ bs := not_mem_of_deeper (.list h1 h2 h3 h4.reads) (by simp only [PyData.depth]; omega) hb
    simp only [PyData.depth] at hu
    simp only [PyData.shown] at hQ
    refine call_repr_slot (by omega) ⟨o, hk0 _ _ h1, h2⟩ F.slot_list_repr.toG ?_
    obtain ⟨l⟩ := vs
    cases l with
    | nil =>
      have h4' : RdNs h₀ [] xs _ := h4
      cases h4'
      simp only [PyData.shownAll, listText_nil] at hQ
      exact call_list_repr_empty ⟨o, hk0 _ _ h1, h2⟩ (hk0 _ _ h1) h3 ⟨_, _, rfl, hQ s.heap _ _ fun _ _ e => e⟩
    | cons x l =>
      exact call_list_reprK h1 h2 h3 hna (by simpa using hk.length_eq) (fun i y e => hk.item i y (by simpa using e)) hg (fun b _ => Clear.nil b) (by show A.units + 1 + (_ + 1) < cLine; omega) hk0 (fun h' u tk hk' => ⟨_, _, rfl, hQ h' u tk hk'⟩) hz'
  | tuple h1 h2 h3 h4 =>
    rename_i o vs n xs
    have hz' : (tupleText (PyData.shownAll xs)).length ≤ sizeLine := by simpa only [PyData.shown] using hsz
    obtain ⟨bs, hb, hk⟩ := reprsK_of (prog := prog) (w := w) h4 (by simpa [PyData.showable] using hs) (fun t ht => Nat.le_trans (tupleText_mem_le ht) hz')
    have hna : a ∉ bs := not_mem_of_deeper (.tuple h1 h2 h3 h4.reads) (by simp only [PyData.depth]; omega) hb
    simp only [PyData.depth] at hu
    simp only [PyData.shown] at hQ
    refine call_repr_slot (by omega) ⟨o, hk0 _ _ h1, h2⟩ F.slot_tuple_repr ?_
    exact call_tuple_reprK h1 h2 h3 hna hk hg (fun b _ => Clear.nil b) (by show A.units + 1 + (_ + 1) < cLine; omega) hk0 (fun h' u tk hk' => ⟨_, _, rfl, hQ h' u tk hk'⟩) hz'
  | dict h1 h2 h3 hsys h4 h5 =>
    rename_i o es n kvs as₁ bs₁
    have hz' : (dictText (PyData.shownKv kvs)).length ≤ sizeLine := by simpa only [PyData.shown] using hsz
    obtain ⟨hs1, hs2⟩ := PyData.showableKv_split kvs (by simpa [PyData.showable] using hs)
    obtain ⟨b1, hb1, k1⟩ := reprsK_of (prog := prog) (w := w) h4 hs1 (fun t ht => let ⟨p, hp, hl⟩ := PyData.shownKv_key_le kvs t ht; Nat.le_trans hl (Nat.le_trans (dictText_mem_le hp) hz'))
    obtain ⟨b2, hb2, k2⟩ := reprsK_of (prog := prog) (w := w) h5 hs2 (fun t ht => let ⟨p, hp, hl⟩ := PyData.shownKv_val_le kvs t ht; Nat.le_trans hl (Nat.le_trans (dictText_mem_le hp) hz'))
    have hb : ReadAtMost h₀ (PyData.depthKv kvs) (b1 ++ b2) := (hb1.mono (PyData.depthAll_keys_le kvs)).append (hb2.mono (PyData.depthAll_vals_le kvs))
    have hna : a ∉ b1 ++ b2 := not_mem_of_deeper (.dict h1 h2 h3 h4.reads h5.reads) (by simp only [PyData.depth]; omega) hb
    simp only [PyData.depth] at hu
    simp only [PyData.shown, PyData.shownKv_eq] at hQ
    refine call_repr_slot (by omega) ⟨o, hk0 _ _ h1, h2⟩ F.slot_dict_repr ?_
    exact call_dict_reprK h1 h2 h3 hsys hna (ReprEntriesK.of_two es.toList _ _
      (k1.more_le (fun b hb => List.mem_append_left _ hb) (PyData.depthAll_keys_le kvs)) (k2.more_le (fun b hb => List.mem_append_right _ hb) (PyData.depthAll_vals_le kvs))) hg (fun b _ => Clear.nil b) (by show A.units + 1 + (_ + 1) < cLine; omega) hk0
      (fun h' u tk hk' => ⟨_, _, rfl, hQ h' u tk hk'⟩) (by rw [← PyData.shownKv_eq]; exact hz')
end
/-! ### over the abstract heap -/
-- v is, in H, the data d: dicts with int and text keys within
mutual
inductive Rp (K : PySem.W.Frag) (H : Hp) : V → PyData → Prop
  | non : Rp K H .non .none
  | bl (b : Bool) : Rp K H (.bl b) (.bool b)
  | int (i : Int) : Rp K H (.int i) (.int i)
  | str (x : Str) : Rp K H (.str x) (.str x)
  | lst {a : Addr} {xs : List V} {ds : List PyData} : SqL K H a xs → Rps K H xs ds → Rp K H (.ref a) (.list ds)
  | tup {a : Addr} {xs : List V} {ds : List PyData} : SqT K H a xs → Rps K H xs ds → Rp K H (.ref a) (.tuple ds)
  | dic {a : Addr} {kvs : List (Key × V)} {ds : List (PyData × PyData)} : H a = some (.dK kvs) → Rps K H (kvs.map fun p => kV p.1) (ds.map (·.1)) → Rps K H (kvs.map (·.2)) (ds.map (·.2)) → Rp K H (.ref a) (.dict ds)
inductive Rps (K : PySem.W.Frag) (H : Hp) : List V → List PyData → Prop
  | nil : Rps K H [] []
  | cons {v : V} {vs : List V} {d : PyData} {ds : List PyData} : Rp K H v d → Rps K H vs ds → Rps K H (v :: vs) (d :: ds)
end
theorem pairs_vals {prog : Program} {w : World} : ∀ {es : List DictEntry} {kvs : List (Key × V)} {vs : List (Key × Value)}, KV kvs vs → PySem.Pairs (mixKind prog w) es vs → Vals (kvs.map fun p => kV p.1) (es.map (·.key)) ∧ Vals (kvs.map (·.2)) (es.map (·.val))
  | _, _, _, .nil, .nil => ⟨.nil, .nil⟩
  | _, _, _, .cons (a := p) (b := q) r t, .cons h1 h2 h3 => by
    obtain ⟨a1, a2⟩ := pairs_vals t h3
    refine ⟨.cons ?_ a1, .cons ?_ a2⟩
    · rw [← r.1] at h1
      show RelV (kV p.1) _
      rcases keyIs_shape h1 with ⟨i, tk, e1, e2⟩ | ⟨x, tk, e1, e2⟩
      · rw [e1]
        exact ⟨tk, e2⟩
      · rw [e1]
        exact ⟨tk, e2⟩
    · exact (h2.symm ▸ r.2 :)
section
variable {X : Cx} {pins : List (Addr × Obj)} {σ : L2.St} {H : Hp} {s : Shared}
mutual
theorem rp_reads (I : Inv X pins σ H s) : ∀ {v : V} {d : PyData} {u : Value}, Rp X.K H v d → RelV v u → ∃ as, RdN s.heap u d as
  | _, _, _, .non, r => by
    cases r
    exact ⟨_, .none⟩
  | _, _, _, .bl b, r => by
    cases r
    exact ⟨_, .bool b⟩
  | _, _, _, .int i, r => by
    obtain ⟨t, rfl⟩ := r
    exact ⟨_, .int i t⟩
  | _, _, _, .str x, r => by
    obtain ⟨t, rfl⟩ := r
    exact ⟨_, .str x t⟩
  | _, _, _, .lst hs ha, r => by
    cases r
    obtain ⟨its, rv, ⟨o, n, ho, hc, _, hd⟩, _⟩ := I.list hs
    obtain ⟨as, hr⟩ := rps_reads I ha rv
    exact ⟨_, .list ho hc hd hr⟩
  | _, _, _, .tup hs ha, r => by
    cases r
    obtain ⟨its, rv, ⟨o, ho, hc, n, hd⟩, _⟩ := I.tuple hs
    obtain ⟨as, hr⟩ := rps_reads I ha rv
    exact ⟨_, .tuple ho hc hd hr⟩
  | _, _, _, .dic e h1 h2, r => by
    cases r
    obtain ⟨_, hsys, vs, rel, o, es, ep, ho, hx, hd, hk, hp, hn⟩ := (show ObjOk X.prog X.w H s.heap _ (.dK _) from I.hok _ _ e)
    obtain ⟨r1, r2⟩ := pairs_vals rel hp
    obtain ⟨as, q1⟩ := rps_reads I h1 r1
    obtain ⟨bs, q2⟩ := rps_reads I h2 r2
    exact ⟨_, .dict ho hx.1 hd hsys q1 q2⟩
theorem rps_reads (I : Inv X pins σ H s) : ∀ {vs : List V} {ds : List PyData} {us : List Value}, Rps X.K H vs ds → Vals vs us → ∃ as, RdNs s.heap us ds as
  | _, _, _, .nil, r => by
    cases r
    exact ⟨_, .nil⟩
  | _, _, _, .cons h1 h2, r => by
    cases r with
    | cons r1 r2 =>
      obtain ⟨as, q1⟩ := rp_reads I h1 r1
      obtain ⟨bs, q2⟩ := rps_reads I h2 r2
      exact ⟨_, .cons q1 q2⟩
end
end
/-- repr(x), x a list, a tuple, a dict -/
def rRepr (K : PySem.W.Frag) (n : Nat) : List V → Hp → VK → Prop := fun xs H Q => ∃ (a : Addr) (d : PyData), xs = [.ref a] ∧ Rp K H (.ref a) d ∧ d.showable = true ∧ d.depth ≤ n ∧ d.shown.length ≤ sizeLine ∧ Q (.str d.shown) H
theorem call_repr {X : Cx} {n : Nat} (hg : X.A.guards = some []) (hu : X.A.units + (n + 1) < cLine) : CallR X (.builtin "repr") (rRepr X.K n) := by
  intro pins s σ H xs us Q I r h
  obtain ⟨a, d, rfl, hd, hs, hn, hz, q⟩ := h
  cases r with
  | cons r1 r2 =>
    cases r2
    obtain ⟨as, hr⟩ := rp_reads I hd r1
    obtain rfl := (show _ = Value.ref a from r1)
    exact repr_rd hr hs hg (by omega) (fun _ _ e => e) (fun h' u tk k => ⟨.str d.shown, H, I.kept (t' := tk) k, ⟨u, rfl⟩, q⟩) hz
end BL
namespace BL
open PySem PySem.Spec PySem.Calls PyProof.Rows L2 NdefX
/-! ### a def that is called where no repr runs (the law) -/
structure FnG (P : Program) (w : World) (K : PySem.W.Frag) (mg : Str → Option Value) (base : Heap) (CX : CXT) (k : Nat) (f : Addr) (fd : FuncData) (ps : List Str) (sp : Sp) : Prop where
  run : ∀ (A : Around) (outer : List Env) (s : Shared) (H : Hp) (args : Args) (us : List Value) (vs : List V) (Q : VK) (E : XK), A.guards = some [] → Room k A → Env0 P w K mg base A outer s H → BindsTo s fd args (ps.zip us) → Vals vs us → sp vs H Q E →
    codeAny (model P w) A (.call (.ref f) args) (CR CX outer P w H s Q E) s
theorem fnG_of {CX : CXT} {P : Program} {w : World} {K : PySem.W.Frag} {mg : Str → Option Value} {base : Heap} {k : Nat} {f : Addr} {x qual : Str} {st : Stmt} {fd : FuncData} {N ps : List Str} {sp : Sp}
    (F : Fun K x qual st f fd) (S : FnScope N ps (defScope st)) (len : ∀ vs H Q E, sp vs H Q E → vs.length = ps.length)
    (hbody : ∀ (cdv : Value) (A : Around) (outer : List Env) (s : Shared) (H : Hp) (vs : List V) (Q : VK) (E : XK), A.guards = some [] → Room k (A.deeper (envOfC qual (defScope st) s.heap.objs.size f cdv)) → sp vs H Q E →
      ∃ t, PSs (cxOf CX P w K mg base N qual (defScope st) f cdv A outer s H E) (defBody st) t ∧ t { nx := fun _ H' => Q .non H', rt := Q } (start N vs) H) : FnG P w K mg base CX (k + 1) f fd ps sp := by
  obtain ⟨oc, od, kV, doc, pm, an, cdv, ct, osl, rfl, lk, hcd⟩ := F.ex
  refine ⟨fun A outer s H args us vs Q E hg hr e0 hb r hsp => ?_⟩
  have hl := len _ _ _ _ hsp
  have KX : K.In s.heap := e0.mod.kin.keeps fun b o e => (e0.bs b o e).1
  have lim : s.heap.NoLimit := e0.mod.nolimit.keeps fun b o e => (e0.bs b o e).1
  have hkind : ∀ y ∈ ps.zip us, (defScope st).names.lookup y.1 = some .local ∨ ((defScope st).names.lookup y.1 = some .cell ∧ ((cellsFrom (s.heap.objs.size + 1) (defScope st).names []).lookup y.1).isSome = true) := fun ⟨n, v⟩ hy => by
    rcases S.par n (List.of_mem_zip hy).1 with q | q
    · exact .inl q
    · exact .inr ⟨q, PySem.W.cellsFrom_some _ _ _ (.inl q)⟩
  refine codeAny_call_function hr.depth (KX _ _ lk) rfl S.co S.gen rfl (PySem.W.codeRec_of KX hcd) (hb _ _ _ _ ?_)
  refine wpAny_newFunctionEnv_cells S.kind hkind fun env he s1 x => ?_
  subst he
  refine ⟨lim.keeps x.toInCall.keep, codeAny_func ?_⟩
  obtain ⟨t, ht, hq⟩ := hbody cdv A outer s H vs Q E hg (hr.deeper _) hsp
  have I : Inv (cxOf CX P w K mg base N qual (defScope st) f cdv A outer s H E) [] (start N vs) H s1 := inv_start S hr.hd e0 hl r x
  refine wpAny_mono (ht.run [] s1 (start N vs) H _ I hq) (fun fl s' hs => ?_) fun e s' hs => hs
  have fin : ∀ {σ' : L2.St} {H' : Hp} {v : V} {u : Value}, Inv (cxOf CX P w K mg base N qual (defScope st) f cdv A outer s H E) [] σ' H' s' → L2.RelV v u → Q v H' → CE outer P w H s Q u s' :=
    fun {σ' H' v u} J rv q => ⟨v, H', J.os, J.bare, J.base, J.hok, rv, q⟩
  cases fl with
  | ret u =>
    obtain ⟨v, σ', H', J, rv, q⟩ := hs
    exact fin J rv q
  | next =>
    obtain ⟨σ', H', J, q⟩ := hs
    exact fin (v := V.non) (u := Value.none) J rfl q
  | brk =>
    obtain ⟨_, _, _, q⟩ := hs
    exact False.elim q
  | cont =>
    obtain ⟨_, _, _, q⟩ := hs
    exact False.elim q
/-- the law's promise at the heap behind the top, the law called where no repr runs -/
theorem lawG_call {P : Program} {w : World} {K : PySem.W.Frag} {mg mb : Str → Option Value} {CX : CXT} {k : Nat} {fa a : Addr} {fd : FuncData} {x : Str} {sp : Sp} {s₁ : Shared} {vs : List Value} {ns : List Int}
    (KX : K.In s₁.heap) (hns : s₁.heap.Ns mainGlobals mg) (hb : s₁.heap.Ns builtinsNs mb) (hbb : ∀ x : Str, x ≠ "__name__" → mb x = bootBuiltins x) (hlim : s₁.heap.NoLimit) (hg : s₁.gens = #[])
    (ha : s₁.heap.get? a = some { cls := .type "list", data := .seq vs.toArray }) (hi : IntsAre vs ns) (hl : ns.length ≤ sizeLine) (hr : Room k callerA)
    (F : ∀ base : Heap, K.In base → base.Ns mainGlobals mg → FnG P w K mg base CX k fa fd [x] sp) (hbind : ∀ (s : Shared) (u : Value), BindsTo s fd ⟨[u], []⟩ [(x, u)])
    (hsp : ∀ H : Hp, Only H → SqL K H a (ns.map V.int) → sp [.ref a] H (fun v _ => v = .bl true) fun _ _ _ => False)
    (hCX : ∀ H e s', CX [] H s₁ (fun _ _ _ => False) e s' → False) :
    codeAny (model P w) callerA (.call (.ref fa) ⟨[.ref a], []⟩) (fun r s' => r = .ok (.ret (.bool true)) ∧ OldK s₁.heap s'.heap ∧ s'.os = s₁.os ∧ AllBare s'.gens) s₁ := by
  have rv := vals_ints hi
  have lenV := hi.length
  have core : ∀ H : Hp, Only H → SqL K H a (ns.map V.int) → HOk P w H s₁.heap → (∀ b, H b ≠ none → b = a) → (H a ≠ none → K.lookup a = none) →
      codeAny (model P w) callerA (.call (.ref fa) ⟨[.ref a], []⟩) (fun r s' => r = .ok (.ret (.bool true)) ∧ OldK s₁.heap s'.heap ∧ s'.os = s₁.os ∧ AllBare s'.gens) s₁ := by
    intro H hO hS hok hA hK
    have base_of : ∀ {b : Addr} {o : Obj}, s₁.heap.get? b = some o → H b = none → (hidT s₁.heap H).get? b = some o := fun e n => hidT_get e n
    have isA : ∀ {b : Addr} {u : HO}, H b = some u → b = a := fun {b u} q => hA b (by rw [q]; simp)
    have noA : ∀ {b : Addr} {o : Obj} {es : Array DictEntry} {ep : Nat}, s₁.heap.get? b = some o → o.data = .dict es ep → H b = none := fun {b o es ep} e d => by
      cases q : H b with
      | none => rfl
      | some u =>
        rw [isA q, ha] at e
        cases e
        cases (show Data.seq vs.toArray _ = Data.dict es ep from d)
    have nsK : ∀ {b : Addr} {m : Str → Option Value}, s₁.heap.Ns b m → (hidT s₁.heap H).Ns b m := fun {b m} ⟨o, es, ep, e, d, r⟩ => ⟨o, es, ep, base_of e (noA e d), d, r⟩
    have hKb : K.In (hidT s₁.heap H) := fun b o e => base_of (KX b o e) (by
      cases q : H b with
      | none => rfl
      | some u =>
        have z := hK (by rw [← isA q, q]; simp)
        rw [isA q, z] at e
        cases e)
    have hM : Mod K mg (hidT s₁.heap H) := ⟨hKb, nsK hns, ⟨mb, nsK hb, hbb⟩, let ⟨mc, h1, h2⟩ := hlim; ⟨mc, nsK h1, h2⟩⟩
    have e0 : Env0 P w K mg (hidT s₁.heap H) callerA [] s₁ H := ⟨rfl, hM, fun b o e => of_hidT e, Nat.le_of_eq (hidT_size _ _), trivial, fun b hb => absurd (show b ∈ ([] : List Addr) from hb) (by simp), hok, .of_eq hg⟩
    refine codeAny_mono ((F _ hKb (nsK hns)).run callerA [] s₁ H ⟨[.ref a], []⟩ [.ref a] [.ref a] _ _ rfl hr e0 (hbind s₁ (.ref a)) (.cons rfl .nil) (hsp H hO hS)) fun r s' h => ?_
    cases r with
    | error e => exact (hCX H e s' h).elim
    | ok fl =>
      cases fl with
      | next => exact False.elim h
      | brk => exact False.elim h
      | cont => exact False.elim h
      | ret u =>
        obtain ⟨v, H', os, bare, un, hok', r', q⟩ := h
        obtain rfl : v = .bl true := q
        obtain rfl : u = Value.bool true := r'
        refine ⟨rfl, OldK.of_keep fun b o e => ?_, os, bare⟩
        cases q : H b with
        | none => exact un.keep b o e q (by intro z; exact absurd (show b ∈ ([] : List Addr) from z) (by simp)) (by simp)
        | some u =>
          rcases hO b with z | ⟨ob, xs, z⟩
          · rw [q] at z; cases z
          · have z2 := un.frzs b ob _ z
            obtain ⟨e1, _⟩ := hok b _ z
            obtain ⟨e2, _⟩ := hok' b _ z2
            rw [e] at e1; cases e1
            exact e2
  cases hk : K.lookup a with
  | some o =>
    have e := KX a o hk
    rw [ha] at e
    cases e
    refine core (fun _ => none) (fun _ => .inl rfl) (.inr ⟨_, vs.toArray, _, hk, rfl, rfl, rfl, by rw [List.size_toArray, lenV]; exact hl, by simpa using rv⟩) (fun b u z => by cases (show (none : Option HO) = some u from z)) (fun b z => absurd rfl z) fun z => absurd rfl z
  | none =>
    refine core (fun b => if b = a then some (.frz { cls := .type "list", data := .seq vs.toArray } (.lst (ns.map V.int))) else none) (fun b => ?_) (.inl (.inr ⟨{ cls := .type "list", data := .seq vs.toArray }, if_pos rfl⟩)) (fun b u z => ?_) (fun b z => ?_) fun _ => hk
    · by_cases hb : b = a
      · exact .inr ⟨_, _, if_pos hb⟩
      · exact .inl (if_neg hb)
    · by_cases hb : b = a
      · cases (if_pos hb).symm.trans z
        subst hb
        exact ⟨ha, by rw [List.length_map]; exact hl, vs, _, rv, ha⟩
      · cases (if_neg hb).symm.trans z
    · by_cases hb : b = a
      · exact hb
      · exact absurd (if_neg hb) z
theorem walk_ofG {l : PySem.W.OpenLaw} {n k : Nat} {q : Program} {loose : List Str} {XP : (Str → Option Value) → Heap → Prop} {YP : World → Heap → Prop} {d : DefRec} {K : Params → PySem.W.Frag} {CX : World → CXT} {sp : World → Sp} {x : Str}
    (hn : l.most = some n) (hn2 : n ≤ sizeLine) (hdf : d.params.defaults = []) (hr : Room k callerA)
    (hY : ∀ (w : World) (h : Heap), YP w h → (K w.params).In h)
    (F : ∀ (w : World) (mg : Str → Option Value) (fa : Addr) (h : Heap), (K w.params).In h → h.Ns mainGlobals mg → mg d.name = some (.ref fa) →
      ∃ fd : FuncData, (∀ (s : Shared) (u : Value), BindsTo s fd ⟨[u], []⟩ [(x, u)]) ∧
        ∀ base : Heap, (K w.params).In base → base.Ns mainGlobals mg → FnG l.prog w (K w.params) mg base (CX w) k fa fd [x] (sp w))
    (hsp : ∀ (w : World) (H : Hp) (a : Addr) (ns : List Int), ns.length ≤ n → Only H → SqL (K w.params) H a (ns.map V.int) → sp w [.ref a] H (fun v _ => v = .bl true) fun _ _ _ => False)
    (hCX : ∀ (w : World) (H : Hp) (s : Shared) (e : Value) (s' : Shared), CX w [] H s (fun _ _ _ => False) e s' → False) :
    PySem.W.WalkO q loose XP YP l.row.toRowW d [] (fun f vs => PySem.call f vs) := by
  refine Att.attach_call hn hdf fun w s₀ s₁ mg mb fa o pm cd doc a vs ns G Y ho hd hcd hmg hobj hints hlen hg => ?_
  obtain ⟨fd, hb, hF⟩ := F w mg fa _ (hY w _ Y) G.T.g hmg
  exact lawG_call (hY w _ Y) G.T.g G.T.b G.T.builtins G.T.nolimit hg hobj hints (Nat.le_trans hlen hn2) hr hF hb (fun H hO hS => hsp w H a ns hlen hO hS) fun H e s' => hCX w H s₁ e s'
end BL
namespace BL
open PySem PySem.Spec PySem.Calls PyProof.Rows L2 NdefX
/-! ### a statement with an assertion of one's own behind it -/
def mcS (t : TS) : TS := fun D σ H => ∃ R : L2.St → Hp → Prop, t { D with nx := R } σ H ∧ ∀ σ' H', R σ' H' → D.nx σ' H'
theorem ps_mc {X : Cx} {st : Stmt} {t : TS} (h : PS X st t) : PS X st (mcS t) := by
  refine ⟨fun pins s σ H D I ⟨R, q, k⟩ => thn (h.run pins s σ H { D with nx := R } I q) fun f s1 z => ?_⟩
  cases f with
  | next =>
    obtain ⟨σ', H', I', z⟩ := z
    exact ⟨σ', H', I', k _ _ z⟩
  | brk => exact z
  | cont => exact z
  | ret u => exact z
theorem fnG_ok {P : Program} {w : World} {K : PySem.W.Frag} {mg : Str → Option Value} {base : Heap} {k : Nat} {f : Addr} {x qual : Str} {st : Stmt} {fd : FuncData} {N ps : List Str} {sp : Sp}
    (F : Fun K x qual st f fd) (S : FnScope N ps (defScope st)) (len : ∀ vs H Q E, sp vs H Q E → vs.length = ps.length)
    (hbody : ∀ (cdv : Value) (A : Around) (outer : List Env) (s : Shared) (H : Hp) (vs : List V) (Q : VK) (E : XK), A.guards = some [] → Room k (A.deeper (envOfC qual (defScope st) s.heap.objs.size f cdv)) → sp vs H Q E →
      ∃ t, PSs (cxOf CX0 P w K mg base N qual (defScope st) f cdv A outer s H E).nox (defBody st) t ∧ t { nx := fun _ H' => Q .non H', rt := Q } (start N vs) H) : FnG P w K mg base CX0 (k + 1) f fd ps sp :=
  fnG_of F S len fun cdv A outer s H vs Q E hg hr hsp => by
    obtain ⟨t, h, q⟩ := hbody cdv A outer s H vs Q E hg hr hsp
    exact ⟨t, h.nox, q⟩
/-! ### lists of whole numbers as data -/
theorem dpa_ints {K : PySem.W.Frag} {H : Hp} : ∀ ns : List Int, DpAll K H (ns.map V.int) (ns.map PyData.int)
  | [] => .nil
  | _ :: ns => .cons (.int _) (dpa_ints ns)
theorem dp_ints {K : PySem.W.Frag} {H : Hp} {a : Addr} {ns : List Int} (h : SqL K H a (ns.map V.int)) : Dp K H (.ref a) (.list (ns.map PyData.int)) := .lst h (dpa_ints ns)
theorem dpa_bls {K : PySem.W.Frag} {H : Hp} : ∀ ns : List Bool, DpAll K H (ns.map V.bl) (ns.map PyData.bool)
  | [] => .nil
  | _ :: ns => .cons (.bl _) (dpa_bls ns)
theorem dp_bls {K : PySem.W.Frag} {H : Hp} {a : Addr} {ns : List Bool} (h : SqL K H a (ns.map V.bl)) : Dp K H (.ref a) (.list (ns.map PyData.bool)) := .lst h (dpa_bls ns)
theorem eqvAll_bools : ∀ as bs : List Bool, PyData.eqvAll (as.map PyData.bool) (bs.map PyData.bool) = decide (as = bs)
  | [], [] => rfl
  | [], _ :: _ => rfl
  | _ :: _, [] => rfl
  | a :: as, b :: bs => by
    show (a == b && PyData.eqvAll (as.map PyData.bool) (bs.map PyData.bool)) = _
    rw [eqvAll_bools as bs]
    cases a <;> cases b <;> simp
theorem eqv_bools (as bs : List Bool) : PyData.eqv (.list (as.map PyData.bool)) (.list (bs.map PyData.bool)) = decide (as = bs) := eqvAll_bools as bs
theorem eqv_ints_nil (as : List Int) : PyData.eqv (.list (as.map PyData.int)) (.list []) = as.isEmpty := by
  cases as <;> rfl
theorem shaped_ints (as : List Int) : SeqAt.shaped (.list (as.map PyData.int)) = true := PySem.W.shaped_ints as
theorem canLayAll0_bools : ∀ ns : List Bool, PyData.canLayAll0 (ns.map PyData.bool) = true
  | [] => by simp [PyData.canLayAll0]
  | n :: r => by simp [PyData.canLayAll0, PyData.canLay0, canLayAll0_bools r]
theorem depthAll_bools : ∀ ns : List Bool, PyData.depthAll (ns.map PyData.bool) ≤ 1
  | [] => by simp [PyData.depthAll]
  | n :: r => by
    have := depthAll_bools r
    simp only [List.map_cons, PyData.depthAll, PyData.depth]
    omega
theorem shaped_bools (ns : List Bool) : SeqAt.shaped (.list (ns.map PyData.bool)) = true := by
  have h1 := depthAll_bools ns
  have h2 : PyData.depth (.list (ns.map PyData.bool)) ≤ 64 := by simp only [PyData.depth]; omega
  show (PyData.canLay0 (.list (ns.map PyData.bool)) && decide (PyData.depth (.list (ns.map PyData.bool)) ≤ 64)) = true
  rw [Bool.and_eq_true]
  exact ⟨by simp only [PyData.canLay0]; exact canLayAll0_bools ns, decide_eq_true h2⟩
/-! ### the pen of the laws -/
/-- all but the object at p stands as it stood -/
def Kp (p : Addr) (H H' : Hp) : Prop := ∀ a o, a ≠ p → H a = some o → H' a = some o
theorem Kp.refl {p : Addr} {H : Hp} : Kp p H H := fun _ _ _ e => e
theorem Kp.trans {p : Addr} {H H1 H2 : Hp} (h : Kp p H H1) (k : Kp p H1 H2) : Kp p H H2 := fun a o n e => k a o n (h a o n e)
theorem Kp.new {p q : Addr} {H H1 : Hp} {o : HO} (h : Kp p H H1) (n : H1 q = none) : Kp p H (upd H1 q o) := fun a u m e => by
  rw [upd_ne (ne_of_none (h a u m e) n)]
  exact h a u m e
theorem Kp.mut {p : Addr} {H H1 : Hp} {o : HO} (h : Kp p H H1) : Kp p H (upd H1 p o) := fun a u m e => by
  rw [upd_ne m]
  exact h a u m e
def PenAt (H : Hp) (p : Addr) (n : Nat) : Prop := ∃ (c : Addr) (ns : List Int) (at_ rest : Int), H p = some (.lst [.ref c, .int at_, .int rest]) ∧ H c = some (.lst (ns.map V.int)) ∧ ns.length ≤ 63 ∧ 0 ≤ at_ ∧ at_ ≤ n ∧ 0 ≤ rest ∧ p ≠ c
theorem PenAt.kp {H H' : Hp} {p : Addr} {n : Nat} (h : PenAt H p n) (k : ∀ a o, H a = some o → H' a = some o) : PenAt H' p n := by
  obtain ⟨c, ns, a, r, h1, h2, h3⟩ := h
  exact ⟨c, ns, a, r, k _ _ h1, k _ _ h2, h3⟩
theorem PenAt.mono {H : Hp} {p : Addr} {n m : Nat} (h : PenAt H p n) (k : n ≤ m) : PenAt H p m := by
  obtain ⟨c, ns, a, r, h1, h2, h3, h4, h5, h6⟩ := h
  exact ⟨c, ns, a, r, h1, h2, h3, h4, by omega, h6⟩
theorem PenAt.at {H : Hp} {p : Addr} {n : Nat} (h : PenAt H p n) : ∃ xs, H p = some (.lst xs) := by
  obtain ⟨c, ns, a, r, h1, _⟩ := h
  exact ⟨_, h1⟩
def spPen (K : PySem.W.Frag) : Sp := fun vs H Q _ => ∃ (a : Addr) (ns : List Int), vs = [.ref a] ∧ SqL K H a (ns.map V.int) ∧ ns.length ≤ 63 ∧ ∀ p H', Same H H' → H p = none → PenAt H' p 0 → Q (.ref p) H'
def spDraw : Sp := fun vs H Q _ => ∃ (p : Addr) (many : Int) (n : Nat), vs = [.ref p, .int many] ∧ PenAt H p n ∧ n < 2 ^ 20 ∧ many < 2 ^ 30 ∧ ∀ r H', Kp p H H' → PenAt H' p (n + 1) → 0 ≤ r → (r < many ∨ many < 2 ∧ r = 0) → Q (.int r) H'
def spPick (K : PySem.W.Frag) : Sp := fun vs H Q _ => ∃ (p l : Addr) (xs : List V) (n : Nat), vs = [.ref p, .ref l] ∧ PenAt H p n ∧ n < 2 ^ 20 ∧ H l = some (.lst xs) ∧ l ≠ p ∧ 0 < xs.length ∧ xs.length < 1000 ∧ ∀ (i : Nat) (v : V) (H' : Hp), xs[i]? = some v → Kp p H H' → PenAt H' p (n + 1) → Q v H'
theorem ints_at {ns : List Int} {i : Int} (h0 : 0 ≤ i) (h : i < ns.length) : ∃ z, atI (ns.map V.int) i = some (.int z) := by
  have hn : i.toNat < ns.length := by omega
  refine ⟨ns[i.toNat], ?_⟩
  have e : ((i.toNat : Nat) : Int) = i := by omega
  have q := atI_nat (xs := ns.map V.int) (j := i.toNat) (v := .int ns[i.toNat]) (by simp [hn])
  rw [e] at q
  exact q
theorem cut_ints (ns : List Int) (lo hi : Option Int) : ∃ ms : List Int, cutV (ns.map V.int) lo hi = ms.map V.int ∧ ms.length ≤ ns.length := by
  refine ⟨(ns.drop (HT.sIx (ns.map V.int).length 0 lo)).take (HT.sIx (ns.map V.int).length (ns.map V.int).length hi - HT.sIx (ns.map V.int).length 0 lo), ?_, ?_⟩
  · unfold cutV
    rw [List.map_take, List.map_drop]
  · rw [List.length_take, List.length_drop]
    omega
theorem mulB {a b A B : Int} (a0 : 0 ≤ a) (a1 : a ≤ A) (b0 : 0 ≤ b) (b1 : b ≤ B) : 0 ≤ a * b ∧ a * b ≤ A * B :=
  ⟨Int.mul_nonneg a0 b0, Int.mul_le_mul a1 b1 b0 (by omega)⟩
end BL
namespace BL
open PySem PySem.Spec PySem.Calls PyProof.Rows L2 NdefX
/-! ### errors made by their fields' names -/
def kgV : List V → List V → List V := fun vs zs => vs ++ zs
def kg : List Value → List Value → List Value := fun vs zs => vs ++ zs
def krV : List V → List V → List V := fun vs zs => vs ++ zs.reverse
def kr : List Value → List Value → List Value := fun vs zs => vs ++ zs.reverse
theorem vals_rev : ∀ {vs : List V} {us : List Value}, Vals vs us → Vals vs.reverse us.reverse
  | _, _, .nil => .nil
  | _, _, .cons r rs => by
    rw [List.reverse_cons, List.reverse_cons]
    exact (vals_rev rs).append (.cons r .nil)
theorem kb_1 {K : PySem.W.Frag} {fd : FuncData} {f1 : Str} (h : ∀ a b : Value, bindArgs fd ⟨[a], [(f1, b)]⟩ = (pure [(("self" : Str), a), (f1, b)] : Sem (List (Str × Value)))) : KBn K fd ["self", f1] 1 [f1] kg kgV :=
  ⟨fun s us ws _ l1 l2 => match us, ws, l1, l2 with | [a], [b], _, _ => .of_eq (h a b), fun r1 r2 => r1.append r2⟩
theorem kb_2 {K : PySem.W.Frag} {fd : FuncData} {f1 f2 : Str} (h : ∀ a b c : Value, bindArgs fd ⟨[a], [(f2, c), (f1, b)]⟩ = (pure [(("self" : Str), a), (f1, b), (f2, c)] : Sem (List (Str × Value)))) : KBn K fd ["self", f1, f2] 1 [f2, f1] kr krV :=
  ⟨fun s us ws _ l1 l2 => match us, ws, l1, l2 with | [a], [c, b], _, _ => .of_eq (h a b c), fun r1 r2 => r1.append (vals_rev r2)⟩
/-- C(f2 = e2, f1 = e) -/
def tErr2r (C : Addr) (f1 f2 : Str) (te te2 : TE) : L2.St → Hp → XK → Prop := fun σ H Q => te2 σ H fun v2 H1 => te σ H1 fun v H2 => ∀ d, H2 d = none → Q (.ref C) (some d) (upd H2 d (.xd [(f2, v2), (f1, v)]))
section
variable {X : Cx} {x f1 f2 : Str} {C f : Addr} {fd : FuncData} {k : Nat} {e e2 : Expr} {te te2 : TE} {p pos q1 q2 : Pos}
theorem mk_errK1 (T : OexC X.K C) (iC : PySem.W.findIn X.K (.ref C) "__init__" = some (some (.ref f))) (tI : PySem.W.typeIn X.K (.ref f) = some (.type "function")) (F : FnOk X.prog X.w X.K X.mg X.base CX0 k f fd ["self", f1] (spErr1 C f1)) (hr : Room (k + 1) X.A)
    (hb : KBn X.K fd ["self", f1] 1 [f1] kg kgV) (hg : Gl X x) (hm : X.mg x = some (.ref C)) (he : PE X e te) (hdb : (x == ("__debug__" : Str)) = false := by decide)
    (hall : (backToKw pos (keywordEach [⟨some f1, e, q1⟩] X.env)).all (·.1.isSome) = true := by rfl) (hks : (backToKw pos (keywordEach [⟨some f1, e, q1⟩] X.env)).filterMap (·.1) = [f1] := by rfl)
    (hpl : ((backTo pos (starEach [] X.env)).any (·.1) || (backToKw pos (keywordEach [⟨some f1, e, q1⟩] X.env)).any (·.1.isNone)) = false := by rfl) :
    PMk X (.Call (.Name x p) [] [⟨some f1, e, q1⟩] pos) (tErr1 C f1 te) := by
  refine pmk_imp (pmk_K T iC tI F hr hb (fun _ _ _ _ _ _ _ z => z.elim) hg hm (pk_cons (pe_mc he) pk_nil) hdb hall hks hpl) fun σ H Q h => ?_
  refine ⟨fun v H1 => ∀ d, H1 d = none → Q (.ref C) (some d) (upd H1 d (.xd [(f1, v)])), h, fun v H1 q => ⟨rfl, fun a ha => ⟨a, v, rfl, upd_same, fun dx hn hne => ?_⟩⟩⟩
  have hn1 : H1 dx = none := by rw [← hn, upd_ne hne]
  exact ⟨rfl, dx, _, upd_same, by rw [upd_ne hne, upd_same], hn1, by rw [del_end ha hne]; exact q dx hn1⟩
theorem mk_errK2 (T : OexC X.K C) (iC : PySem.W.findIn X.K (.ref C) "__init__" = some (some (.ref f))) (tI : PySem.W.typeIn X.K (.ref f) = some (.type "function")) (F : FnOk X.prog X.w X.K X.mg X.base CX0 k f fd ["self", f1, f2] (spErr2 C f1 f2)) (hr : Room (k + 1) X.A)
    (hb : KBn X.K fd ["self", f1, f2] 1 [f2, f1] kr krV) (hg : Gl X x) (hm : X.mg x = some (.ref C)) (he2 : PE X e2 te2) (he : PE X e te) (hdb : (x == ("__debug__" : Str)) = false := by decide)
    (hall : (backToKw pos (keywordEach [⟨some f2, e2, q2⟩, ⟨some f1, e, q1⟩] X.env)).all (·.1.isSome) = true := by rfl) (hks : (backToKw pos (keywordEach [⟨some f2, e2, q2⟩, ⟨some f1, e, q1⟩] X.env)).filterMap (·.1) = [f2, f1] := by rfl)
    (hpl : ((backTo pos (starEach [] X.env)).any (·.1) || (backToKw pos (keywordEach [⟨some f2, e2, q2⟩, ⟨some f1, e, q1⟩] X.env)).any (·.1.isNone)) = false := by rfl) :
    PMk X (.Call (.Name x p) [] [⟨some f2, e2, q2⟩, ⟨some f1, e, q1⟩] pos) (tErr2r C f1 f2 te te2) := by
  refine pmk_imp (pmk_K T iC tI F hr hb (fun _ _ _ _ _ _ _ z => z.elim) hg hm (pk_cons (pe_mc he2) (pk_cons (pe_mc he) pk_nil)) hdb hall hks hpl) fun σ H Q h => ?_
  refine ⟨_, h, fun v2 H1 q1 => ⟨_, q1, fun v H2 q => ⟨rfl, fun a ha => ⟨a, v, v2, rfl, upd_same, fun dx hn hne => ?_⟩⟩⟩⟩
  have hn1 : H2 dx = none := by rw [← hn, upd_ne hne]
  exact ⟨rfl, dx, _, by rw [upd_ne (Ne.symm hne), upd_same], upd_same, hn1, by rw [del_end2 ha hne]; exact q dx hn1⟩
end
/-! ### an error class of one's own, told whole -/
structure ErrC (K : PySem.W.Frag) (P : Program) (mg : Str → Option Value) (B : Addr) (x qual : Str) (C f cc cda : Addr) (st : Stmt) (fd : FuncData) (ps fs : List Str) : Prop where
  sup : SupC K P C f cc cda st qual
  xf : XfC K C
  exc : ExcC K C
  m : mg x = some (.ref C)
  lk : ∃ (oc : Value) (od : Option Addr) (osl : Array (Option Value)), K.lookup f = some ⟨oc, od, .func fd, osl⟩
  b : Binds K fd ps []
  low : PySem.W.exmOne K (.ref C) (.ref B) = some true
  no : ∀ n ∈ fs, PySem.W.findIn K (.ref C) n = some none
end BL
namespace BL
open PySem PySem.Spec PySem.Calls PyProof.Rows L2 NdefX
open PySem.W (ksFn)
/-- the facts of an error class, one by one -/
theorem errC_mk {K : PySem.W.Frag} {P : Program} {h : Heap} {mg : Str → Option Value} {B C f cc cda N : Addr} {x qual nm q file : Str} {st : Stmt} {ps fs : List Str} {bs bm sub : List Value} {sn : List Str} {ab : Bool} {col : Option Bool} {dd od an cld cld2 : Option Addr} {m0 m1 m2 m3 m5 : Option Value}
    {oc kV doc pm ct cl cl2 : Value} {osl csl csl2 : Array (Option Value)} {vs : Array Value} {tf : Tok} (X : K.In h) (G : h.Ns mainGlobals mg)
    (aC : PySem.W.nsIn K mainGlobals x = some (some (.ref C)))
    (xL : K.lookup C = some (excClassObj nm q C N bs bm true sn sub ab col dd m0 m1 m2 m3 m5 "ValueError.__new__")) (hbm : PySem.HandSPX.refsVE bm = true)
    (sa : PySem.W.findIn K (.ref C) "__setattr__" = some (some (.builtin "object.__setattr__"))) (exC : PySem.W.subIn K (.ref C) (.type "BaseException") = some true) (tyC : PySem.W.typeIn K (.ref C) = some (.type "type")) (kC : PySem.W.keepIn K (.ref C) = true)
    (iC : PySem.W.findIn K (.ref C) "__init__" = some (some (.ref f))) (tI : PySem.W.typeIn K (.ref f) = some (.type "function"))
    (lk : K.lookup f = some ⟨oc, od, .func (ksFn "__init__" qual (defArgs st) (defBody st) (defScope st) .none kV doc pm an (.ref cda) ct cc), osl⟩) (cd : PySem.W.codeIn K (.ref cda) qual = true)
    (cell : K.lookup cc = some ⟨cl, cld, .cell (some (.ref C)), csl⟩) (code : K.lookup cda = some ⟨cl2, cld2, .fields vs, csl2⟩) (fl : vs[2]? = some (.str file tf)) (pf : ((P.main.file : Str) == file) = true)
    (sup : PySem.W.nsIn K mainGlobals "super" = some none) (opq : PySem.W.nsIn K cStatics "thirdparty.any" = some none) (hm : PySem.W.ks_superIn K C C "__init__" = some (some (.builtin "ValueError.__init__"))) (hB : PySem.W.subIn K (.ref C) (.type "ValueError") = some true)
    (top : (P.main.scope.names.lookup ("super" : Str)).isSome = false)
    (ga : PySem.W.findIn K (.ref C) "__getattribute__" = some (some (.builtin "BaseException.__getattribute__"))) (gg : PySem.W.findIn K (.ref C) "__getattr__" = some none) (hdC : PySem.W.hasDictIn K C = true)
    (ha : PySem.W.findIn K (.ref C) "__class__" = some (some (.builtin "object.__class__"))) (hn : PySem.W.specialIn K (.builtin "object.__class__") "__get__" = some (some (.builtin "getset_descriptor.__get__"))) (ht : PySem.W.takesIn K (.builtin "object.__class__") = some true) (hmr : PySem.W.mroIn K C (.type "object") = some true)
    (b : ∀ (kV doc pm : Value) (an : Option Addr) (cdv ct : Value) (cc : Addr) (us : List Value), us.length = ps.length → bindArgs (ksFn "__init__" qual (defArgs st) (defBody st) (defScope st) .none kV doc pm an cdv ct cc) ⟨us, []⟩ = pure (ps.zip us))
    (low : PySem.W.exmOne K (.ref C) (.ref B) = some true) (no : ∀ n ∈ fs, PySem.W.findIn K (.ref C) n = some none) :
    ErrC K P mg B x qual C f cc cda st (ksFn "__init__" qual (defArgs st) (defBody st) (defScope st) .none kV doc pm an (.ref cda) ct cc) ps fs :=
  { sup := ⟨⟨⟨nm, q, N, bs, bm, sn, sub, ab, col, dd, m0, m1, m2, m3, m5, xL, hbm⟩, sa, exC, tyC, kC⟩, iC, tI, ⟨_, _, _, _, _, _, _, _, lk⟩, cd, ⟨_, _, _, cell⟩, ⟨_, _, _, _, _, _, code, fl, pf⟩, sup, opq, hm, hB, top⟩
    xf := ⟨ga, gg, exC, hdC⟩
    exc := ⟨ga, gg, exC, hdC, ha, hn, ht, hmr⟩
    m := PySem.W.mg_of X G aC
    lk := ⟨_, _, _, lk⟩
    b := .all (b kV doc pm an _ ct cc)
    low := low
    no := no }
def noB (K : PySem.W.Frag) (C : Addr) (fs : List Str) : Bool := fs.all fun n => PySem.W.findIn K (.ref C) n == some none
theorem no_of {K : PySem.W.Frag} {C : Addr} {fs : List Str} (h : noB K C fs = true) : ∀ n ∈ fs, PySem.W.findIn K (.ref C) n = some none := fun n hn => by
  unfold noB at h
  rw [List.all_eq_true] at h
  exact beq_iff_eq.mp (h n hn)
def kitB (K : PySem.W.Frag) (f : Nat → Addr) (n : Nat) : Bool := (List.range n).all fun i => (List.range n).all fun j => PySem.W.kitOne K (.ref (f i)) (.ref (f j)) == some (decide (i = j))
theorem kit_of {K : PySem.W.Frag} {f : Nat → Addr} {n : Nat} (h : kitB K f n = true) : ∀ i j, i < n → j < n → PySem.W.kitOne K (.ref (f i)) (.ref (f j)) = some (decide (i = j)) := fun i j hi hj => by
  unfold kitB at h
  rw [List.all_eq_true] at h
  have h1 := h i (List.mem_range.mpr hi)
  rw [List.all_eq_true] at h1
  exact beq_iff_eq.mp (h1 j (List.mem_range.mpr hj))
def kivB (K : PySem.W.Frag) (f : Nat → Addr) (n : Nat) (t : String) : Bool := (List.range n).all fun i => PySem.W.kitOne K (.ref (f i)) (.type t) == some true
theorem kiv_of {K : PySem.W.Frag} {f : Nat → Addr} {n : Nat} {t : String} (h : kivB K f n t = true) : ∀ i, i < n → PySem.W.kitOne K (.ref (f i)) (.type t) = some true := fun i hi => by
  unfold kivB at h
  rw [List.all_eq_true] at h
  exact beq_iff_eq.mp (h i (List.mem_range.mpr hi))
end BL
namespace K00
open PySem PySem.Spec PySem.Calls PyProof.Rows L2 NdefX BL
def top (i : Nat) : Stmt := PySem.Challenge.pw_blocklots_k00_errors_keep_what_they_are.main.body.getD i (.Pass ⟨0, 0, 0, 0⟩)
abbrev s__law_pen : Stmt := top 12
abbrev s__law_draw : Stmt := top 13
abbrev s__law_pick : Stmt := top 14
abbrev s__law_any : Stmt := top 15
abbrev s__law_raised : Stmt := top 16
abbrev s__law_fields : Stmt := top 17
abbrev s_law : Stmt := top 18
abbrev s_BadValue_init : Stmt := inClass (top 2) 0
abbrev s_BadNumber_init : Stmt := inClass (top 3) 0
abbrev s_BadMenu_init : Stmt := inClass (top 4) 0
abbrev s_BadText_init : Stmt := inClass (top 5) 0
abbrev s_BadLine_init : Stmt := inClass (top 6) 0
abbrev s_NoName_init : Stmt := inClass (top 7) 0
abbrev s_Misfit_init : Stmt := inClass (top 8) 0
abbrev s_Nothing_init : Stmt := inClass (top 9) 0
abbrev s_TooMany_init : Stmt := inClass (top 10) 0
structure Adr where
  (a__law_pen a__law_draw a__law_pick a__law_any a__law_raised a__law_fields a_law : Addr)
  (d__law_pen d__law_draw d__law_pick d__law_any d__law_raised d__law_fields d_law : FuncData)
  (c_LotError : Addr)
  (c_BadValue i_BadValue cc_BadValue cd_BadValue c_BadNumber i_BadNumber cc_BadNumber cd_BadNumber c_BadMenu i_BadMenu cc_BadMenu cd_BadMenu c_BadText i_BadText cc_BadText cd_BadText c_BadLine i_BadLine cc_BadLine cd_BadLine c_NoName i_NoName cc_NoName cd_NoName c_Misfit i_Misfit cc_Misfit cd_Misfit c_Nothing i_Nothing cc_Nothing cd_Nothing c_TooMany i_TooMany cc_TooMany cd_TooMany : Addr)
  (f_BadValue f_BadNumber f_BadMenu f_BadText f_BadLine f_NoName f_Misfit f_Nothing f_TooMany : FuncData)
def cl (A : Adr) (i : Nat) : Addr := match i with | 0 => A.c_BadValue | 1 => A.c_BadNumber | 2 => A.c_Misfit | 3 => A.c_NoName | 4 => A.c_Nothing | 5 => A.c_BadLine | 6 => A.c_BadText | 7 => A.c_TooMany | _ => A.c_BadMenu
structure Txt (P : Program) (K : PySem.W.Frag) (mg : Str → Option Value) (A : Adr) : Prop where
  F__law_pen : Fun K "_law_pen" "_law_pen" s__law_pen A.a__law_pen A.d__law_pen
  b__law_pen : Binds K A.d__law_pen ["script"] []
  m__law_pen : mg "_law_pen" = some (.ref A.a__law_pen)
  F__law_draw : Fun K "_law_draw" "_law_draw" s__law_draw A.a__law_draw A.d__law_draw
  b__law_draw : Binds K A.d__law_draw ["pen", "many"] []
  m__law_draw : mg "_law_draw" = some (.ref A.a__law_draw)
  F__law_pick : Fun K "_law_pick" "_law_pick" s__law_pick A.a__law_pick A.d__law_pick
  b__law_pick : Binds K A.d__law_pick ["pen", "some"] []
  m__law_pick : mg "_law_pick" = some (.ref A.a__law_pick)
  F__law_any : Fun K "_law_any" "_law_any" s__law_any A.a__law_any A.d__law_any
  b__law_any : Binds K A.d__law_any ["pen"] []
  m__law_any : mg "_law_any" = some (.ref A.a__law_any)
  F__law_raised : Fun K "_law_raised" "_law_raised" s__law_raised A.a__law_raised A.d__law_raised
  b__law_raised : Binds K A.d__law_raised ["way", "one", "other"] []
  m__law_raised : mg "_law_raised" = some (.ref A.a__law_raised)
  F__law_fields : Fun K "_law_fields" "_law_fields" s__law_fields A.a__law_fields A.d__law_fields
  b__law_fields : Binds K A.d__law_fields ["way", "error"] []
  m__law_fields : mg "_law_fields" = some (.ref A.a__law_fields)
  F_law : Fun K "law" "law" s_law A.a_law A.d_law
  m_LotError : mg "LotError" = some (.ref A.c_LotError)
  e_BadValue : ErrC K P mg A.c_LotError "BadValue" "BadValue.__init__" A.c_BadValue A.i_BadValue A.cc_BadValue A.cd_BadValue s_BadValue_init A.f_BadValue ["self", "part"] ["part", "line", "word", "name", "what", "most"]
  kb_BadValue : KBn K A.f_BadValue ["self", "part"] 1 ["part"] kg kgV
  e_BadNumber : ErrC K P mg A.c_LotError "BadNumber" "BadNumber.__init__" A.c_BadNumber A.i_BadNumber A.cc_BadNumber A.cd_BadNumber s_BadNumber_init A.f_BadNumber ["self", "part"] ["part", "line", "word", "name", "what", "most"]
  kb_BadNumber : KBn K A.f_BadNumber ["self", "part"] 1 ["part"] kg kgV
  e_BadMenu : ErrC K P mg A.c_LotError "BadMenu" "BadMenu.__init__" A.c_BadMenu A.i_BadMenu A.cc_BadMenu A.cd_BadMenu s_BadMenu_init A.f_BadMenu ["self", "part"] ["part", "line", "word", "name", "what", "most"]
  kb_BadMenu : KBn K A.f_BadMenu ["self", "part"] 1 ["part"] kg kgV
  e_BadText : ErrC K P mg A.c_LotError "BadText" "BadText.__init__" A.c_BadText A.i_BadText A.cc_BadText A.cd_BadText s_BadText_init A.f_BadText ["self", "line", "word"] ["part", "line", "word", "name", "what", "most"]
  kb_BadText : KBn K A.f_BadText ["self", "line", "word"] 1 ["word", "line"] kr krV
  e_BadLine : ErrC K P mg A.c_LotError "BadLine" "BadLine.__init__" A.c_BadLine A.i_BadLine A.cc_BadLine A.cd_BadLine s_BadLine_init A.f_BadLine ["self", "word"] ["part", "line", "word", "name", "what", "most"]
  kb_BadLine : KBn K A.f_BadLine ["self", "word"] 1 ["word"] kg kgV
  e_NoName : ErrC K P mg A.c_LotError "NoName" "NoName.__init__" A.c_NoName A.i_NoName A.cc_NoName A.cd_NoName s_NoName_init A.f_NoName ["self", "name"] ["part", "line", "word", "name", "what", "most"]
  kb_NoName : KBn K A.f_NoName ["self", "name"] 1 ["name"] kg kgV
  e_Misfit : ErrC K P mg A.c_LotError "Misfit" "Misfit.__init__" A.c_Misfit A.i_Misfit A.cc_Misfit A.cd_Misfit s_Misfit_init A.f_Misfit ["self", "part"] ["part", "line", "word", "name", "what", "most"]
  kb_Misfit : KBn K A.f_Misfit ["self", "part"] 1 ["part"] kg kgV
  e_Nothing : ErrC K P mg A.c_LotError "Nothing" "Nothing.__init__" A.c_Nothing A.i_Nothing A.cc_Nothing A.cd_Nothing s_Nothing_init A.f_Nothing ["self", "word"] ["part", "line", "word", "name", "what", "most"]
  kb_Nothing : KBn K A.f_Nothing ["self", "word"] 1 ["word"] kg kgV
  e_TooMany : ErrC K P mg A.c_LotError "TooMany" "TooMany.__init__" A.c_TooMany A.i_TooMany A.cc_TooMany A.cd_TooMany s_TooMany_init A.f_TooMany ["self", "what", "most"] ["part", "line", "word", "name", "what", "most"]
  kb_TooMany : KBn K A.f_TooMany ["self", "what", "most"] 1 ["most", "what"] kr krV
  m_list : mg "list" = none
  m_int : mg "int" = none
  m_len : mg "len" = none
  m_abs : mg "abs" = none
  m_isinstance : mg "isinstance" = none
  m_repr : mg "repr" = none
  m_range : mg "range" = none
  m_ValueError : mg "ValueError" = none
  kit : ∀ i j, i < 9 → j < 9 → PySem.W.kitOne K (.ref (cl A i)) (.ref (cl A j)) = some (decide (i = j))
  kiv : ∀ i, i < 9 → PySem.W.kitOne K (.ref (cl A i)) (.type "ValueError") = some true
section
variable {P : Program} {w : World} {K : PySem.W.Frag} {mg : Str → Option Value} {base : Heap} {A : Adr}
theorem sc__law_pen : FnScope ["script"] ["script"] (defScope s__law_pen) := ⟨rfl, rfl, rfl, by decide +kernel, rfl, by decide +kernel, by decide +kernel⟩
theorem ok__law_pen (T : Txt P K mg A) : FnOk P w K mg base CX0 1 A.a__law_pen A.d__law_pen ["script"] (spPen K) := by
  refine T.F__law_pen.ok sc__law_pen (fun vs H Q E h => ?_) (fun cdv B outer s H vs Q E hr h => ?_)
  · obtain ⟨a, ns, rfl, _⟩ := h
    rfl
  · obtain ⟨a, ns, rfl, hS, hl, k⟩ := h
    refine ⟨_, (pss_one (ps_ret (pe_lst (pa_cons (pe_callTy call_list_of (by rfl) T.m_list (by decide +kernel) (pa_cons (pe_slice sl_list (pv 0) po_none (po_some pe_int)) pa_nil)) (pa_cons pe_int (pa_cons pe_int pa_nil)))))), ?_⟩
    refine ⟨_, rfl, _, rfl, a, _, rfl, hS, fun p1 n1 => ⟨p1, _, rfl, .inl (SqL.of upd_same), fun c n2 => ?_⟩⟩
    refine ⟨(by show 3 ≤ sizeLine; decide), fun p n3 => ?_⟩
    obtain ⟨ms, em, lm⟩ := cut_ints ns none (some 63)
    rw [em] at n2 n3 ⊢
    have h1 : c ≠ p := fun e => by
      rw [e, upd_same] at n3
      cases n3
    have n4 : upd H p1 (.lst (ms.map V.int)) p = none := by rw [upd_ne (Ne.symm h1)] at n3; exact n3
    have h2 : p1 ≠ p := fun e => by
      rw [e, upd_same] at n4
      cases n4
    refine k p _ (fun b o e => ?_) (by rw [upd_ne (Ne.symm h2)] at n4; exact n4) ⟨c, ms, 0, 0, upd_same, by rw [upd_ne h1, upd_same], by omega, by omega, by omega, by omega, Ne.symm h1⟩
    have q1 : upd H p1 (.lst (ms.map V.int)) b = some o := by rw [upd_ne (ne_of_none e n1)]; exact e
    have q2 : upd (upd H p1 (.lst (ms.map V.int))) c (.lst (ms.map V.int)) b = some o := by rw [upd_ne (ne_of_none q1 n2)]; exact q1
    rw [upd_ne (ne_of_none q2 n3)]
    exact q2
theorem sc__law_draw : FnScope ["pen", "many", "digit", "at", "cell", "great", "mixed"] ["pen", "many"] (defScope s__law_draw) := ⟨rfl, rfl, rfl, by decide +kernel, rfl, by decide +kernel, by decide +kernel⟩
theorem ok__law_draw (T : Txt P K mg A) : FnOk P w K mg base CX0 1 A.a__law_draw A.d__law_draw ["pen", "many"] spDraw := by
  refine T.F__law_draw.ok sc__law_draw (fun vs H Q E h => ?_) (fun cdv B outer s H vs Q E hr h => ?_)
  · obtain ⟨p, m, n, rfl, _⟩ := h
    rfl
  · obtain ⟨p, m, n, rfl, hP, hn, hm, k⟩ := h
    obtain ⟨c, ns, z, r, h1, h2, h3, h4, h5, h6, hpc⟩ := hP
    refine ⟨_, (pss_cons (ps_if (pt_cmpR op_lt (pv 1) pe_int (nomark _))
      (pss_one (ps_ret pe_int)) pss_nil)
    (pss_cons (ps_if (pt_cmpR op_gt (pe_ix ix_list (pv 0) pe_int (fun _ _ => rfl)) pe_int (nomark _))
      (pss_cons (ps_set (i := 2) sc__law_draw.nd rfl (Or.inl rfl) (pe_op op_modN (pe_callTy call_int1 (by rfl) T.m_int (by decide +kernel) (pa_cons (pe_ix ix_list (pv 0) pe_int (fun _ _ => rfl)) pa_nil)) (pv 1)))
      (pss_cons (ps_asg (pe_op op_fdivN (pe_callTy call_int1 (by rfl) T.m_int (by decide +kernel) (pa_cons (pe_ix ix_list (pv 0) pe_int (fun _ _ => rfl)) pa_nil)) (pv 1)) (pg_sub (pv 0) pe_int set_list))
      (pss_one (ps_ret (pv 2))))) pss_nil)
    (pss_cons (ps_set (i := 3) sc__law_draw.nd rfl (Or.inl rfl) (pe_ix ix_list (pv 0) pe_int (fun _ _ => rfl)))
    (pss_cons (ps_asg (pe_op op_add (pv 3) pe_int) (pg_sub (pv 0) pe_int set_list))
    (pss_cons (ps_set (i := 4) sc__law_draw.nd rfl (Or.inl rfl) (pe_op op_add (pe_op op_mul pe_int (pv 3)) pe_int))
    (pss_cons (ps_mc (ps_if (pt_cmpR (op_neD hr.units) (pe_ix ix_list (pv 0) pe_int (fun _ _ => rfl)) (pe_lst pa_nil) (nomark _))
      (pss_one (ps_set (i := 4) sc__law_draw.nd rfl (Or.inl rfl) (pe_ix ix_list (pe_ix ix_list (pv 0) pe_int (fun _ _ => rfl)) (pe_op op_modN (pe_callTy call_int1 (by rfl) T.m_int (by decide +kernel) (pa_cons (pv 3) pa_nil)) (pe_callB call_len_seq (by rfl) T.m_len (by decide +kernel) (pa_cons (pe_ix ix_list (pv 0) pe_int (fun _ _ => rfl)) pa_nil))) (fun _ _ => rfl)))) pss_nil))
    (pss_cons (ps_mc (ps_if (PW.pt (pw_and (pt_cmpR op_lt (pv 3) (pe_callB call_len_seq (by rfl) T.m_len (by decide +kernel) (pa_cons (pe_ix ix_list (pv 0) pe_int (fun _ _ => rfl)) pa_nil)) (nomark _)) (pw_and1 (pt_cmpR op_ge (pe_callB call_abs (by rfl) T.m_abs (by decide +kernel) (pa_cons (pv 4) pa_nil)) (pe_op op_pow pe_int pe_int) (nomark _)))))
      (pss_cons (ps_set (i := 5) sc__law_draw.nd rfl (Or.inl rfl) (pe_op op_add (pe_op op_mul pe_int (pe_op op_sub (pe_callB call_abs (by rfl) T.m_abs (by decide +kernel) (pa_cons (pv 4) pa_nil)) (pe_op op_pow pe_int pe_int))) (pe_callTy call_int1 (by rfl) T.m_int (by decide +kernel) (pa_cons (pe_cmpR op_lt (pv 4) pe_int (nomark _)) pa_nil))))
      (pss_cons (ps_asg (pe_op op_fdivN (pe_callTy call_int1 (by rfl) T.m_int (by decide +kernel) (pa_cons (pv 5) pa_nil)) (pv 1)) (pg_sub (pv 0) pe_int set_list))
      (pss_one (ps_ret (pe_op op_modN (pe_callTy call_int1 (by rfl) T.m_int (by decide +kernel) (pa_cons (pv 5) pa_nil)) (pv 1)))))) pss_nil))
    (pss_cons (ps_set (i := 6) sc__law_draw.nd rfl (Or.inl rfl) (pe_op op_modN (pe_callTy call_int1 (by rfl) T.m_int (by decide +kernel) (pa_cons (pe_op op_pow (pe_op op_add (pe_op op_add (pe_op op_modN (pe_callTy call_int1 (by rfl) T.m_int (by decide +kernel) (pa_cons (pv 4) pa_nil)) pe_int) (pe_op op_mul pe_int (pv 3))) pe_int) pe_int) pa_nil)) pe_int))
    (pss_cons (ps_set (i := 6) sc__law_draw.nd rfl (Or.inl rfl) (pe_op op_modN (pe_callTy call_int1 (by rfl) T.m_int (by decide +kernel) (pa_cons (pe_op op_pow (pe_op op_add (pe_op op_add (pe_op op_mul (pv 6) (pe_op op_add (pe_op op_mul pe_int (pv 3)) pe_int)) (pe_op op_mul (pe_op op_mul pe_int (pv 3)) (pv 3))) pe_int) pe_int) pa_nil)) pe_int))
    (pss_one (ps_ret (pe_op op_modN (pe_callTy call_int1 (by rfl) T.m_int (by decide +kernel) (pa_cons (pe_op op_fdivN (pv 6) pe_int) pa_nil)) (pv 1))))))))))))), ?_⟩
    refine ⟨_, rfl, _, _, rfl, rfl, _, rfl, ite2 (fun c1 => ?_) (fun c1 => ?_)⟩
    · exact k 0 H .refl ⟨c, ns, z, r, h1, h2, h3, h4, by omega, h6, hpc⟩ (by decide) (.inr ⟨of_decide_eq_true c1, rfl⟩)
    have hm2 : ¬ m < 2 := fun q => c1 (decide_eq_true q)
    refine ⟨_, rfl, _, _, _, _, rfl, rfl, SqL.of h1, rfl, _, _, rfl, rfl, _, rfl, ite2 (fun c2 => ?_) (fun c2 => ?_)⟩
    · refine ⟨_, rfl, _, _, _, _, rfl, rfl, SqL.of h1, rfl, .inl ⟨_, rfl, _, rfl, _, _, rfl, rfl, (by omega), ?_⟩⟩
      refine ⟨_, rfl, _, _, _, _, rfl, rfl, SqL.of h1, rfl, .inl ⟨_, rfl, _, rfl, _, _, rfl, rfl, ⟨(by omega), (by omega)⟩, ?_⟩⟩
      refine ⟨_, rfl, _, _, _, 2, rfl, rfl, h1, rfl, _, rfl, ?_⟩
      refine k _ _ (Kp.refl.mut) ⟨c, ns, z, r.fdiv m, upd_same, by rw [upd_ne (Ne.symm hpc)]; exact h2, h3, h4, by omega, Int.fdiv_nonneg h6 (by omega), hpc⟩ (Int.fmod_nonneg_of_pos r (by omega)) (.inl (Int.fmod_lt_of_pos r (by omega)))
    refine ⟨_, rfl, _, _, _, _, rfl, rfl, SqL.of h1, rfl, ?_⟩
    refine ⟨_, rfl, _, _, rfl, rfl, _, rfl, _, _, _, 1, rfl, rfl, h1, rfl, ?_⟩
    refine ⟨_, rfl, _, _, rfl, rfl, .inl (by decide), _, _, rfl, rfl, ?_⟩
    refine ⟨fun σ' H' => ∃ cl : Int, σ' = [some (.ref p), some (.int m), none, some (.int z), some (.int cl), none, none] ∧ Kp p H H' ∧ H' p = some (.lst [.ref c, .int (z + 1), .int r]), ?_, ?_⟩
    · refine ⟨_, rfl, _, _, _, _, rfl, rfl, SqL.of upd_same, rfl, (by decide), fun l hl => ?_⟩
      have hcp : c ≠ p := Ne.symm hpc
      have hl0 : H l = none := by
        by_cases e : l = p
        · rw [e, upd_same] at hl
          cases hl
        · rw [upd_ne e] at hl
          exact hl
      have hcl : c ≠ l := ne_of_none h2 hl0
      have hpl : p ≠ l := ne_of_none h1 hl0
      have e1 : (upd (upd H p (.lst [.ref c, .int (z + 1), .int r])) l (.lst [])) p = some (.lst [.ref c, .int (z + 1), .int r]) := by rw [upd_ne hpl, upd_same]
      have e2 : (upd (upd H p (.lst [.ref c, .int (z + 1), .int r])) l (.lst [])) c = some (.lst (ns.map V.int)) := by rw [upd_ne hcl, upd_ne hcp]; exact h2
      have kk : Kp p H (upd (upd H p (.lst [.ref c, .int (z + 1), .int r])) l (.lst [])) := Kp.refl.mut.new hl
      refine ⟨_, _, dp_ints (SqL.of e2), .lst (SqL.of upd_same) .nil, shaped_ints ns, rfl, _, rfl, ite2 (fun c3 => ?_) (fun c3 => ?_)⟩
      · have hne : 0 < ns.length := by
          rw [eqv_ints_nil] at c3
          cases ns with
          | nil => cases c3
          | cons x xs => exact Nat.zero_lt_succ _
        have hne' : ((ns.map V.int).length : Int) ≠ 0 := by rw [List.length_map]; omega
        obtain ⟨u, hu⟩ := ints_at (ns := ns) (i := z.fmod ((ns.map V.int).length : Int)) (Int.fmod_nonneg_of_pos z (by omega)) (by have := Int.fmod_lt_of_pos z (b := ((ns.map V.int).length : Int)) (by omega); rw [List.length_map] at this ⊢; exact this)
        refine ⟨_, rfl, _, _, _, _, rfl, rfl, SqL.of e1, rfl, _, rfl, .inl ⟨_, rfl, ?_⟩⟩
        refine ⟨_, rfl, _, _, _, _, rfl, rfl, SqL.of e1, rfl, _, _, rfl, .inl (SqL.of e2), _, _, rfl, rfl, hne', ?_⟩
        exact ⟨_, _, _, _, rfl, rfl, SqL.of e2, hu, u, rfl, kk, e1⟩
      · exact ⟨_, rfl, kk, e1⟩
    rintro σ' H1 ⟨cl, rfl, k1, p1⟩
    have c1' := k1 c _ (Ne.symm hpc) h2
    have fin : ∀ v H2, H2 = H1 → 0 ≤ v → v < m → Q (.int v) H2 := fun v H2 e a b => by
      subst e
      exact k v _ k1 ⟨c, ns, z + 1, r, p1, c1', h3, by omega, by omega, h6, hpc⟩ a (.inl b)
    have hmp : 0 < m := by omega
    refine ⟨fun σ' H' => σ' = [some (.ref p), some (.int m), none, some (.int z), some (.int cl), none, none] ∧ H' = H1, ?_, ?_⟩
    · refine ⟨_, rfl, _, rfl, _, _, _, _, rfl, rfl, SqL.of p1, rfl, _, _, rfl, .inl (SqL.of c1'), _, _, rfl, rfl, _, rfl, ite2 (fun c4 => ?_) (fun c4 => ⟨rfl, rfl⟩)⟩
      refine ⟨_, rfl, _, rfl, _, _, rfl, rfl, ⟨by decide, by decide, by decide⟩, _, _, rfl, rfl, _, rfl, ite2 (fun c5 => ?_) (fun c5 => ⟨rfl, rfl⟩)⟩
      have c5' := of_decide_eq_true c5
      refine ⟨_, rfl, _, rfl, _, _, rfl, rfl, ⟨by decide, by decide, by decide⟩, _, _, rfl, rfl, _, _, rfl, rfl, .inl (by decide), ?_⟩
      refine ⟨_, rfl, _, _, rfl, rfl, .inr ⟨_, rfl, _, _, rfl, rfl, ?_⟩⟩
      have g0 : 0 ≤ 2 * ((if cl < 0 then -cl else cl) - 10 ^ Int.toNat 18) + (if decide (cl < 0) = true then (1 : Int) else 0) := by
        have : (0 : Int) ≤ (if decide (cl < 0) = true then (1 : Int) else 0) := by split <;> decide
        omega
      dsimp only
      generalize 2 * ((if cl < 0 then -cl else cl) - 10 ^ Int.toNat 18) + (if decide (cl < 0) = true then (1 : Int) else 0) = g at g0
      refine ⟨_, rfl, .inl ⟨_, rfl, _, rfl, _, _, rfl, rfl, ⟨(by omega), (by omega)⟩, _, rfl, _, _, _, 2, rfl, rfl, p1, rfl, ?_⟩⟩
      refine ⟨_, rfl, .inl ⟨_, rfl, _, rfl, _, _, rfl, rfl, (by omega), ?_⟩⟩
      refine k _ _ k1.mut ⟨c, ns, z + 1, g.fdiv m, upd_same, by rw [upd_ne (Ne.symm hpc)]; exact c1', h3, by omega, by omega, Int.fdiv_nonneg g0 (by omega), hpc⟩ (Int.fmod_nonneg_of_pos g hmp) (.inl (Int.fmod_lt_of_pos g hmp))
    rintro σ' H2 ⟨rfl, rfl⟩
    have hz : z < 2 ^ 20 := by omega
    have b1 := Int.fmod_nonneg_of_pos cl (b := 2147483549) (by decide)
    have b2 := Int.fmod_lt_of_pos cl (b := 2147483549) (by decide)
    refine ⟨_, rfl, .inl ⟨_, rfl, _, _, rfl, rfl, (by show (2147483549 : Int) ≠ 0; decide), ?_⟩⟩
    refine ⟨_, rfl, _, _, rfl, rfl, .inl (by decide), _, _, rfl, rfl, _, _, rfl, rfl, _, _, rfl, rfl, ⟨by decide, by decide, by omega⟩, .inl ⟨_, rfl, _, _, rfl, rfl, (by show (2147483629 : Int) ≠ 0; decide), ?_⟩⟩
    have d1 := Int.fmod_nonneg_of_pos ((cl.fmod 2147483549 + 64189 * z + 6421) ^ Int.toNat 3) (b := 2147483629) (by decide)
    have d2 := Int.fmod_lt_of_pos ((cl.fmod 2147483549 + 64189 * z + 6421) ^ Int.toNat 3) (b := 2147483629) (by decide)
    dsimp only
    generalize ((cl.fmod 2147483549 + 64189 * z + 6421) ^ Int.toNat 3).fmod 2147483629 = x1 at d1 d2
    have e1 := mulB d1 (show x1 ≤ 2 ^ 31 by omega) (show 0 ≤ 2 * z + 7013 by omega) (show 2 * z + 7013 ≤ 2 ^ 22 by omega)
    have e2 := mulB h4 (show z ≤ 2 ^ 20 by omega) h4 (show z ≤ 2 ^ 20 by omega)
    have e3 : 91757 * z * z = 91757 * (z * z) := Int.mul_assoc _ _ _
    refine ⟨_, rfl, _, rfl, _, _, rfl, rfl, .inl (by decide), _, _, rfl, rfl, _, _, rfl, rfl, .inl ⟨by omega, by omega⟩, ?_⟩
    refine ⟨_, rfl, _, _, rfl, rfl, .inl (by decide), _, rfl, _, _, rfl, rfl, .inl ⟨by omega, by omega⟩, _, _, rfl, rfl, _, _, rfl, rfl, ?_⟩
    refine ⟨_, _, rfl, rfl, ⟨by decide, by decide, by omega⟩, .inl ⟨_, rfl, _, _, rfl, rfl, (by show (2147483563 : Int) ≠ 0; decide), ?_⟩⟩
    refine ⟨_, rfl, _, _, rfl, rfl, ⟨by decide, by decide⟩, .inl ⟨_, rfl, _, rfl, _, _, rfl, rfl, (by omega), ?_⟩⟩
    exact fin _ _ rfl (Int.fmod_nonneg_of_pos _ hmp) (Int.fmod_lt_of_pos _ hmp)
theorem sc__law_pick : FnScope ["pen", "some"] ["pen", "some"] (defScope s__law_pick) := ⟨rfl, rfl, rfl, by decide +kernel, rfl, by decide +kernel, by decide +kernel⟩
theorem ok__law_pick (T : Txt P K mg A) : FnOk P w K mg base CX0 2 A.a__law_pick A.d__law_pick ["pen", "some"] (spPick K) := by
  refine T.F__law_pick.ok sc__law_pick (fun vs H Q E h => ?_) (fun cdv B outer s H vs Q E hr h => ?_)
  · obtain ⟨p, l, xs, n, rfl, _⟩ := h
    rfl
  · obtain ⟨p, l, xs, n, rfl, hP, hn, hl, hlp, h0, h1, k⟩ := h
    refine ⟨_, (pss_one (ps_ret (pe_ix ix_list (pv 1) (pe_call (ok__law_draw T) (hr.mono (by decide)) (by rfl) T.m__law_draw T.F__law_draw.kp T.b__law_draw .nil pass0 (pa_cons (pv 0) (pa_cons (pe_callB call_len_seq (by rfl) T.m_len (by decide +kernel) (pa_cons (pv 1) pa_nil)) pa_nil))) (fun _ _ => rfl)))), ?_⟩
    refine ⟨_, rfl, _, rfl, _, rfl, l, _, rfl, .inl (SqL.of hl), p, _, n, rfl, hP, hn, (by omega), fun r H' kp hP' r0 r1 => ?_⟩
    have hr : r.toNat < xs.length := by omega
    have e : ((r.toNat : Nat) : Int) = r := by omega
    have q := atI_nat (xs := xs) (j := r.toNat) (v := xs[r.toNat]) (by simp [hr])
    rw [e] at q
    exact ⟨l, xs, r, _, rfl, rfl, SqL.of (kp l _ hlp hl), q, k r.toNat _ H' (by simp [hr]) kp hP'⟩
theorem ns_BadValue : NScope ["self", "part", "__class__"] ["self", "part"] ["__class__"] (defScope s_BadValue_init) := nscope_by (by decide +kernel)
theorem err_BadValue (T : Txt P K mg A) : FnOk P w K mg base CX0 1 A.i_BadValue A.f_BadValue ["self", "part"] (spErr1 A.c_BadValue "part") :=
  ok_err1 T.e_BadValue.sup T.e_BadValue.lk rfl ns_BadValue rfl rfl rfl rfl rfl rfl rfl rfl (T.e_BadValue.no _ (.head _)) (fun env h => by obtain ⟨⟩ := env; subst h; rfl) (fun _ _ => rfl) (fun _ _ => rfl)
theorem ns_BadNumber : NScope ["self", "part", "__class__"] ["self", "part"] ["__class__"] (defScope s_BadNumber_init) := nscope_by (by decide +kernel)
theorem err_BadNumber (T : Txt P K mg A) : FnOk P w K mg base CX0 1 A.i_BadNumber A.f_BadNumber ["self", "part"] (spErr1 A.c_BadNumber "part") :=
  ok_err1 T.e_BadNumber.sup T.e_BadNumber.lk rfl ns_BadNumber rfl rfl rfl rfl rfl rfl rfl rfl (T.e_BadNumber.no _ (.head _)) (fun env h => by obtain ⟨⟩ := env; subst h; rfl) (fun _ _ => rfl) (fun _ _ => rfl)
theorem ns_BadMenu : NScope ["self", "part", "__class__"] ["self", "part"] ["__class__"] (defScope s_BadMenu_init) := nscope_by (by decide +kernel)
theorem err_BadMenu (T : Txt P K mg A) : FnOk P w K mg base CX0 1 A.i_BadMenu A.f_BadMenu ["self", "part"] (spErr1 A.c_BadMenu "part") :=
  ok_err1 T.e_BadMenu.sup T.e_BadMenu.lk rfl ns_BadMenu rfl rfl rfl rfl rfl rfl rfl rfl (T.e_BadMenu.no _ (.head _)) (fun env h => by obtain ⟨⟩ := env; subst h; rfl) (fun _ _ => rfl) (fun _ _ => rfl)
theorem ns_BadText : NScope ["self", "line", "word", "__class__"] ["self", "line", "word"] ["__class__"] (defScope s_BadText_init) := nscope_by (by decide +kernel)
theorem err_BadText (T : Txt P K mg A) : FnOk P w K mg base CX0 1 A.i_BadText A.f_BadText ["self", "line", "word"] (spErr2 A.c_BadText "line" "word") :=
  ok_err2 T.e_BadText.sup T.e_BadText.lk rfl ns_BadText rfl rfl rfl rfl rfl rfl rfl rfl rfl rfl rfl (T.e_BadText.no _ (.tail _ (.head _))) (T.e_BadText.no _ (.tail _ (.tail _ (.head _)))) (fun env h => by obtain ⟨⟩ := env; subst h; rfl) (fun _ _ => rfl) (fun _ _ => rfl) (fun _ _ => rfl)
theorem ns_BadLine : NScope ["self", "word", "__class__"] ["self", "word"] ["__class__"] (defScope s_BadLine_init) := nscope_by (by decide +kernel)
theorem err_BadLine (T : Txt P K mg A) : FnOk P w K mg base CX0 1 A.i_BadLine A.f_BadLine ["self", "word"] (spErr1 A.c_BadLine "word") :=
  ok_err1 T.e_BadLine.sup T.e_BadLine.lk rfl ns_BadLine rfl rfl rfl rfl rfl rfl rfl rfl (T.e_BadLine.no _ (.tail _ (.tail _ (.head _)))) (fun env h => by obtain ⟨⟩ := env; subst h; rfl) (fun _ _ => rfl) (fun _ _ => rfl)
theorem ns_NoName : NScope ["self", "name", "__class__"] ["self", "name"] ["__class__"] (defScope s_NoName_init) := nscope_by (by decide +kernel)
theorem err_NoName (T : Txt P K mg A) : FnOk P w K mg base CX0 1 A.i_NoName A.f_NoName ["self", "name"] (spErr1 A.c_NoName "name") :=
  ok_err1 T.e_NoName.sup T.e_NoName.lk rfl ns_NoName rfl rfl rfl rfl rfl rfl rfl rfl (T.e_NoName.no _ (.tail _ (.tail _ (.tail _ (.head _))))) (fun env h => by obtain ⟨⟩ := env; subst h; rfl) (fun _ _ => rfl) (fun _ _ => rfl)
theorem ns_Misfit : NScope ["self", "part", "__class__"] ["self", "part"] ["__class__"] (defScope s_Misfit_init) := nscope_by (by decide +kernel)
theorem err_Misfit (T : Txt P K mg A) : FnOk P w K mg base CX0 1 A.i_Misfit A.f_Misfit ["self", "part"] (spErr1 A.c_Misfit "part") :=
  ok_err1 T.e_Misfit.sup T.e_Misfit.lk rfl ns_Misfit rfl rfl rfl rfl rfl rfl rfl rfl (T.e_Misfit.no _ (.head _)) (fun env h => by obtain ⟨⟩ := env; subst h; rfl) (fun _ _ => rfl) (fun _ _ => rfl)
theorem ns_Nothing : NScope ["self", "word", "__class__"] ["self", "word"] ["__class__"] (defScope s_Nothing_init) := nscope_by (by decide +kernel)
theorem err_Nothing (T : Txt P K mg A) : FnOk P w K mg base CX0 1 A.i_Nothing A.f_Nothing ["self", "word"] (spErr1 A.c_Nothing "word") :=
  ok_err1 T.e_Nothing.sup T.e_Nothing.lk rfl ns_Nothing rfl rfl rfl rfl rfl rfl rfl rfl (T.e_Nothing.no _ (.tail _ (.tail _ (.head _)))) (fun env h => by obtain ⟨⟩ := env; subst h; rfl) (fun _ _ => rfl) (fun _ _ => rfl)
theorem ns_TooMany : NScope ["self", "what", "most", "__class__"] ["self", "what", "most"] ["__class__"] (defScope s_TooMany_init) := nscope_by (by decide +kernel)
theorem err_TooMany (T : Txt P K mg A) : FnOk P w K mg base CX0 1 A.i_TooMany A.f_TooMany ["self", "what", "most"] (spErr2 A.c_TooMany "what" "most") :=
  ok_err2 T.e_TooMany.sup T.e_TooMany.lk rfl ns_TooMany rfl rfl rfl rfl rfl rfl rfl rfl rfl rfl rfl (T.e_TooMany.no _ (.tail _ (.tail _ (.tail _ (.tail _ (.head _)))))) (T.e_TooMany.no _ (.tail _ (.tail _ (.tail _ (.tail _ (.tail _ (.head _))))))) (fun env h => by obtain ⟨⟩ := env; subst h; rfl) (fun _ _ => rfl) (fun _ _ => rfl) (fun _ _ => rfl)
end
end K00
namespace K00
open PySem PySem.Spec PySem.Calls PyProof.Rows L2 NdefX BL
def goods : List PyData := [.none, .bool true, .int 0, .int (-7), .int (10 ^ 40), .str "", .str "peg", .tuple [.int 1, .int 2], .list [.int 1, .list [.int 2]], .dict [(.str "a", .int 1)], .tuple [], .bool false]
/-- v is d, in H and as long as all but the pen stands -/
def Rk (K : PySem.W.Frag) (p : Addr) (H : Hp) (v : V) (d : PyData) : Prop := ∀ H', Kp p H H' → Rp K H' v d
theorem Rk.mono {K : PySem.W.Frag} {p : Addr} {H H1 : Hp} {v : V} {d : PyData} (h : Rk K p H v d) (k : Kp p H H1) : Rk K p H1 v d := fun H' k' => h H' (k.trans k')
def spAny (K : PySem.W.Frag) : Sp := fun vs H Q _ => ∃ (p : Addr) (n : Nat), vs = [.ref p] ∧ PenAt H p n ∧ n < 2 ^ 20 ∧ ∀ v d H', Kp p H H' → PenAt H' p (n + 1) → d ∈ goods → Rk K p H' v d → Q v H'
def clsOf (A : Adr) (way : Nat) : Addr := cl A (way / 2)
def fldOf (way : Nat) (one other : V) : List (Str × V) := match way / 2 with | 3 => [("name", one)] | 4 => [("word", one)] | 5 => [("word", one)] | 6 => [("word", other), ("line", one)] | 7 => [("most", other), ("what", one)] | _ => [("part", one)]
def ansOf (way : Nat) (one other : V) : List V := if 12 ≤ way ∧ way < 16 then [one, other] else [one]
def spRaised (A : Adr) : Sp := fun vs H Q E => ∃ (way : Nat) (one other : V), vs = [.int way, one, other] ∧ way < 18 ∧ ∀ d H', H d = none → Same H H' → H' d = some (.xd (fldOf way one other)) → E (.ref (clsOf A way)) (some d) H'
def spFields (A : Adr) : Sp := fun vs H Q _ => ∃ (way : Nat) (a dd : Addr) (one other : V), vs = [.int way, .ref a] ∧ way < 18 ∧ H a = some (exV a (.ref (clsOf A way)) (some dd)) ∧ H dd = some (.xd (fldOf way one other)) ∧ ∀ l, H l = none → Q (.ref l) (upd H l (.lst (ansOf way one other)))
def IsErr (A : Adr) (c : Addr) : Prop := ∃ i, c = clsOf A i
theorem stay {H : Hp} {q : Addr} {o : HO} (n : H q = none) : Same H (upd H q o) := fun b u e => by
  rw [upd_ne (ne_of_none e n)]
  exact e
section
variable {P : Program} {w : World} {K : PySem.W.Frag} {mg : Str → Option Value} {base : Heap} {A : Adr}
theorem xv_all (T : Txt P K mg A) {n : Str} (hn : n ∈ (["part", "line", "word", "name", "what", "most"] : List Str)) (c : Addr) (h : IsErr A c) : XfC K c ∧ PySem.W.findIn K (.ref c) n = some none := by
  obtain ⟨i, rfl⟩ := h
  unfold clsOf cl
  split
  · exact ⟨T.e_BadValue.xf, T.e_BadValue.no _ hn⟩
  · exact ⟨T.e_BadNumber.xf, T.e_BadNumber.no _ hn⟩
  · exact ⟨T.e_Misfit.xf, T.e_Misfit.no _ hn⟩
  · exact ⟨T.e_NoName.xf, T.e_NoName.no _ hn⟩
  · exact ⟨T.e_Nothing.xf, T.e_Nothing.no _ hn⟩
  · exact ⟨T.e_BadLine.xf, T.e_BadLine.no _ hn⟩
  · exact ⟨T.e_BadText.xf, T.e_BadText.no _ hn⟩
  · exact ⟨T.e_TooMany.xf, T.e_TooMany.no _ hn⟩
  · exact ⟨T.e_BadMenu.xf, T.e_BadMenu.no _ hn⟩
theorem sc__law_any : FnScope ["pen"] ["pen"] (defScope s__law_any) := ⟨rfl, rfl, rfl, by decide +kernel, rfl, by decide +kernel, by decide +kernel⟩
theorem ok__law_any (T : Txt P K mg A) : FnOk P w K mg base CX0 3 A.a__law_any A.d__law_any ["pen"] (spAny K) := by
  refine T.F__law_any.ok sc__law_any (fun vs H Q E h => ?_) (fun cdv B outer s H vs Q E hr h => ?_)
  · obtain ⟨p, n, rfl, _⟩ := h
    rfl
  · obtain ⟨p, n, rfl, hP, hn, k⟩ := h
    refine ⟨_, (pss_one (ps_ret (pe_call (ok__law_pick T) (hr.mono (by decide)) (by rfl) T.m__law_pick T.F__law_pick.kp T.b__law_pick .nil pass0 (pa_cons (pv 0) (pa_cons (pe_lst (pa_cons pe_non (pa_cons pe_bl (pa_cons pe_int (pa_cons (pe_un un_neg pe_int) (pa_cons (pe_op op_pow pe_int pe_int) (pa_cons pe_str (pa_cons pe_str (pa_cons (pe_tup (pa_cons pe_int (pa_cons pe_int pa_nil))) (pa_cons (pe_lst (pa_cons pe_int (pa_cons (pe_lst (pa_cons pe_int pa_nil)) pa_nil))) (pa_cons (pe_disp (pps_cons pe_str pe_int pps_nil) (by rfl) (by rfl) (fun z => by cases z) (by decide)) (pa_cons (pe_tup pa_nil) (pa_cons pe_bl pa_nil))))))))))))) pa_nil))))), ?_⟩
    refine ⟨_, rfl, _, rfl, _, _, rfl, rfl, ⟨by decide, by decide, by decide⟩, ?_⟩
    refine ⟨(by show 2 ≤ sizeLine; decide), fun t1 n1 => ?_⟩
    refine ⟨(by show 1 ≤ sizeLine; decide), fun t2 n2 => ?_⟩
    refine ⟨(by show 2 ≤ sizeLine; decide), fun t3 n3 => ?_⟩
    refine fun t4 n4 => ⟨upd_same, [(.inr "a", .int 1)], rfl, (by decide), ?_⟩
    refine ⟨(by show 0 ≤ sizeLine; decide), fun t5 n5 => ?_⟩
    refine ⟨(by show 12 ≤ sizeLine; decide), fun t6 n6 => ?_⟩
    obtain ⟨xs0, hp0⟩ := hP.at
    have k1 := stay (o := .tup [.int 1, .int 2]) n1
    have k2 := stay (o := .lst [.int 2]) n2
    have k3 := stay (o := .lst [.int 1, .ref t2]) n3
    have k4 : Same _ (upd (upd _ t4 (.dK [])) t4 (.dK (mergeK [] [(.inr "a", .int 1)]))) := fun b u e => by
      rw [upd_ne (ne_of_none e n4), upd_ne (ne_of_none e n4)]
      exact e
    have k5 := stay (o := .tup []) n5
    have k6 := stay (o := .lst [.non, .bl true, .int 0, .int (-7), .int ((10 : Int) ^ Int.toNat 40), .str "", .str "peg", .ref t1, .ref t3, .ref t4, .ref t5, .bl false]) n6
    have m1 : t1 ≠ p := Ne.symm (ne_of_none hp0 n1)
    have m2 : t2 ≠ p := Ne.symm (ne_of_none (k1 _ _ hp0) n2)
    have m3 : t3 ≠ p := Ne.symm (ne_of_none (k2 _ _ (k1 _ _ hp0)) n3)
    have m4 : t4 ≠ p := Ne.symm (ne_of_none (k3 _ _ (k2 _ _ (k1 _ _ hp0))) n4)
    have m5 : t5 ≠ p := Ne.symm (ne_of_none (k4 _ _ (k3 _ _ (k2 _ _ (k1 _ _ hp0)))) n5)
    have m6 : t6 ≠ p := Ne.symm (ne_of_none (k5 _ _ (k4 _ _ (k3 _ _ (k2 _ _ (k1 _ _ hp0))))) n6)
    have k16 : Same H _ := fun b o e => k6 _ _ (k5 _ _ (k4 _ _ (k3 _ _ (k2 _ _ (k1 b o e)))))
    have f1 := k6 _ _ (k5 _ _ (k4 _ _ (k3 _ _ (k2 _ _ (upd_same (H := H) (a := t1) (o := .tup [.int 1, .int 2]))))))
    have f2 := k6 _ _ (k5 _ _ (k4 _ _ (k3 _ _ (upd_same (a := t2) (o := .lst [.int 2])))))
    have f3 := k6 _ _ (k5 _ _ (k4 _ _ (upd_same (a := t3) (o := .lst [.int 1, .ref t2]))))
    have f4 := k6 _ _ (k5 _ _ (upd_same (a := t4) (o := .dK (mergeK [] [(.inr "a", .int 1)]))))
    have f5 := k6 _ _ (upd_same (a := t5) (o := .tup []))
    refine ⟨p, t6, _, n, rfl, hP.kp k16, hn, upd_same, m6, (by show 0 < 12; decide), (by show 12 < 1000; decide), fun i v H' hi kp hP2 => ?_⟩
    have mem := List.mem_of_getElem? hi
    have fin : ∀ d, d ∈ goods → Rk K p H' v d → Q v H' := fun d hd hR => k v d H' (fun a o ha e => kp a o ha (k16 a o e)) hP2 hd hR
    simp only [List.mem_cons, List.not_mem_nil, or_false] at mem
    rcases mem with rfl | rfl | rfl | rfl | rfl | rfl | rfl | rfl | rfl | rfl | rfl | rfl
    · exact fin .none (by simp [goods]) fun _ _ => .non
    · exact fin (.bool true) (by simp [goods]) fun _ _ => .bl _
    · exact fin (.int 0) (by simp [goods]) fun _ _ => .int _
    · exact fin (.int (-7)) (by simp [goods]) fun _ _ => .int _
    · exact fin (.int (10 ^ 40)) (by simp [goods]) fun _ _ => .int _
    · exact fin (.str "") (by simp [goods]) fun _ _ => .str _
    · exact fin (.str "peg") (by simp [goods]) fun _ _ => .str _
    · exact fin (.tuple [.int 1, .int 2]) (by simp [goods]) fun H2 q => .tup (SqT.of (kp.trans q _ _ m1 f1)) (.cons (.int _) (.cons (.int _) .nil))
    · exact fin (.list [.int 1, .list [.int 2]]) (by simp [goods]) fun H2 q => .lst (SqL.of (kp.trans q _ _ m3 f3)) (.cons (.int _) (.cons (.lst (SqL.of (kp.trans q _ _ m2 f2)) (.cons (.int _) .nil)) .nil))
    · exact fin (.dict [(.str "a", .int 1)]) (by simp [goods]) fun H2 q => .dic (kp.trans q _ _ m4 f4) (.cons (.str _) .nil) (.cons (.int _) .nil)
    · exact fin (.tuple []) (by simp [goods]) fun H2 q => .tup (SqT.of (kp.trans q _ _ m5 f5)) .nil
    · exact fin (.bool false) (by simp [goods]) fun _ _ => .bl _
theorem sc__law_raised : FnScope ["way", "one", "other"] ["way", "one", "other"] (defScope s__law_raised) := ⟨rfl, rfl, rfl, by decide +kernel, rfl, by decide +kernel, by decide +kernel⟩
theorem ok__law_raised (T : Txt P K mg A) : FnOk P w K mg base (L2.CX P w) 3 A.a__law_raised A.d__law_raised ["way", "one", "other"] (spRaised A) := by
  refine T.F__law_raised.okX sc__law_raised (fun vs H Q E h => ?_) (fun cdv B outer s H vs Q E hr h => ?_)
  · obtain ⟨way, one, other, rfl, _⟩ := h
    rfl
  · obtain ⟨way, one, other, rfl, hw, k⟩ := h
    refine ⟨_, (pss_cons (ps_if (pt_cmpR op_eq (pv 0) pe_int (nomark _))
      (pss_one (ps_raise rfl (takes_of rfl rfl rfl rfl) (mk_err1 T.e_BadValue.sup.oex T.e_BadValue.sup.iC T.e_BadValue.sup.tI (err_BadValue T) (hr.mono (by decide)) T.e_BadValue.b rfl T.e_BadValue.m (pv 1)))) pss_nil)
    (pss_cons (ps_if (pt_cmpR op_eq (pv 0) pe_int (nomark _))
      (pss_one (ps_raise rfl (takes_of rfl rfl rfl rfl) (mk_errK1 T.e_BadValue.sup.oex T.e_BadValue.sup.iC T.e_BadValue.sup.tI (err_BadValue T) (hr.mono (by decide)) T.kb_BadValue rfl T.e_BadValue.m (pv 1)))) pss_nil)
    (pss_cons (ps_if (pt_cmpR op_eq (pv 0) pe_int (nomark _))
      (pss_one (ps_raise rfl (takes_of rfl rfl rfl rfl) (mk_err1 T.e_BadNumber.sup.oex T.e_BadNumber.sup.iC T.e_BadNumber.sup.tI (err_BadNumber T) (hr.mono (by decide)) T.e_BadNumber.b rfl T.e_BadNumber.m (pv 1)))) pss_nil)
    (pss_cons (ps_if (pt_cmpR op_eq (pv 0) pe_int (nomark _))
      (pss_one (ps_raise rfl (takes_of rfl rfl rfl rfl) (mk_errK1 T.e_BadNumber.sup.oex T.e_BadNumber.sup.iC T.e_BadNumber.sup.tI (err_BadNumber T) (hr.mono (by decide)) T.kb_BadNumber rfl T.e_BadNumber.m (pv 1)))) pss_nil)
    (pss_cons (ps_if (pt_cmpR op_eq (pv 0) pe_int (nomark _))
      (pss_one (ps_raise rfl (takes_of rfl rfl rfl rfl) (mk_err1 T.e_Misfit.sup.oex T.e_Misfit.sup.iC T.e_Misfit.sup.tI (err_Misfit T) (hr.mono (by decide)) T.e_Misfit.b rfl T.e_Misfit.m (pv 1)))) pss_nil)
    (pss_cons (ps_if (pt_cmpR op_eq (pv 0) pe_int (nomark _))
      (pss_one (ps_raise rfl (takes_of rfl rfl rfl rfl) (mk_errK1 T.e_Misfit.sup.oex T.e_Misfit.sup.iC T.e_Misfit.sup.tI (err_Misfit T) (hr.mono (by decide)) T.kb_Misfit rfl T.e_Misfit.m (pv 1)))) pss_nil)
    (pss_cons (ps_if (pt_cmpR op_eq (pv 0) pe_int (nomark _))
      (pss_one (ps_raise rfl (takes_of rfl rfl rfl rfl) (mk_err1 T.e_NoName.sup.oex T.e_NoName.sup.iC T.e_NoName.sup.tI (err_NoName T) (hr.mono (by decide)) T.e_NoName.b rfl T.e_NoName.m (pv 1)))) pss_nil)
    (pss_cons (ps_if (pt_cmpR op_eq (pv 0) pe_int (nomark _))
      (pss_one (ps_raise rfl (takes_of rfl rfl rfl rfl) (mk_errK1 T.e_NoName.sup.oex T.e_NoName.sup.iC T.e_NoName.sup.tI (err_NoName T) (hr.mono (by decide)) T.kb_NoName rfl T.e_NoName.m (pv 1)))) pss_nil)
    (pss_cons (ps_if (pt_cmpR op_eq (pv 0) pe_int (nomark _))
      (pss_one (ps_raise rfl (takes_of rfl rfl rfl rfl) (mk_err1 T.e_Nothing.sup.oex T.e_Nothing.sup.iC T.e_Nothing.sup.tI (err_Nothing T) (hr.mono (by decide)) T.e_Nothing.b rfl T.e_Nothing.m (pv 1)))) pss_nil)
    (pss_cons (ps_if (pt_cmpR op_eq (pv 0) pe_int (nomark _))
      (pss_one (ps_raise rfl (takes_of rfl rfl rfl rfl) (mk_errK1 T.e_Nothing.sup.oex T.e_Nothing.sup.iC T.e_Nothing.sup.tI (err_Nothing T) (hr.mono (by decide)) T.kb_Nothing rfl T.e_Nothing.m (pv 1)))) pss_nil)
    (pss_cons (ps_if (pt_cmpR op_eq (pv 0) pe_int (nomark _))
      (pss_one (ps_raise rfl (takes_of rfl rfl rfl rfl) (mk_err1 T.e_BadLine.sup.oex T.e_BadLine.sup.iC T.e_BadLine.sup.tI (err_BadLine T) (hr.mono (by decide)) T.e_BadLine.b rfl T.e_BadLine.m (pv 1)))) pss_nil)
    (pss_cons (ps_if (pt_cmpR op_eq (pv 0) pe_int (nomark _))
      (pss_one (ps_raise rfl (takes_of rfl rfl rfl rfl) (mk_errK1 T.e_BadLine.sup.oex T.e_BadLine.sup.iC T.e_BadLine.sup.tI (err_BadLine T) (hr.mono (by decide)) T.kb_BadLine rfl T.e_BadLine.m (pv 1)))) pss_nil)
    (pss_cons (ps_if (pt_cmpR op_eq (pv 0) pe_int (nomark _))
      (pss_one (ps_raise rfl (takes_of rfl rfl rfl rfl) (mk_err2 T.e_BadText.sup.oex T.e_BadText.sup.iC T.e_BadText.sup.tI (err_BadText T) (hr.mono (by decide)) T.e_BadText.b rfl T.e_BadText.m (pv 1) (pv 2)))) pss_nil)
    (pss_cons (ps_if (pt_cmpR op_eq (pv 0) pe_int (nomark _))
      (pss_one (ps_raise rfl (takes_of rfl rfl rfl rfl) (mk_errK2 T.e_BadText.sup.oex T.e_BadText.sup.iC T.e_BadText.sup.tI (err_BadText T) (hr.mono (by decide)) T.kb_BadText rfl T.e_BadText.m (pv 2) (pv 1)))) pss_nil)
    (pss_cons (ps_if (pt_cmpR op_eq (pv 0) pe_int (nomark _))
      (pss_one (ps_raise rfl (takes_of rfl rfl rfl rfl) (mk_err2 T.e_TooMany.sup.oex T.e_TooMany.sup.iC T.e_TooMany.sup.tI (err_TooMany T) (hr.mono (by decide)) T.e_TooMany.b rfl T.e_TooMany.m (pv 1) (pv 2)))) pss_nil)
    (pss_cons (ps_if (pt_cmpR op_eq (pv 0) pe_int (nomark _))
      (pss_one (ps_raise rfl (takes_of rfl rfl rfl rfl) (mk_errK2 T.e_TooMany.sup.oex T.e_TooMany.sup.iC T.e_TooMany.sup.tI (err_TooMany T) (hr.mono (by decide)) T.kb_TooMany rfl T.e_TooMany.m (pv 2) (pv 1)))) pss_nil)
    (pss_cons (ps_if (pt_cmpR op_eq (pv 0) pe_int (nomark _))
      (pss_one (ps_raise rfl (takes_of rfl rfl rfl rfl) (mk_err1 T.e_BadMenu.sup.oex T.e_BadMenu.sup.iC T.e_BadMenu.sup.tI (err_BadMenu T) (hr.mono (by decide)) T.e_BadMenu.b rfl T.e_BadMenu.m (pv 1)))) pss_nil)
    (pss_one (ps_raise rfl (takes_of rfl rfl rfl rfl) (mk_errK1 T.e_BadMenu.sup.oex T.e_BadMenu.sup.iC T.e_BadMenu.sup.tI (err_BadMenu T) (hr.mono (by decide)) T.kb_BadMenu rfl T.e_BadMenu.m (pv 1))))))))))))))))))))), ?_⟩
    iterate 17
      refine ⟨_, rfl, rfl, _, rfl, ite2 (fun c => ?_) (fun c => ?_)⟩
      · have e := V.int.inj (of_decide_eq_true c)
        have e2 := Int.toNat_natCast way
        rw [e] at e2
        subst e2
        first
        | exact ⟨_, rfl, fun d hd => k d _ hd (stay hd) upd_same⟩
        | exact ⟨_, rfl, _, rfl, fun d hd => k d _ hd (stay hd) upd_same⟩
      have nc : ¬ ((way : Int) = _) := fun q => c (decide_eq_true (congrArg V.int q))
      clear c
    have e : way = 17 := by omega
    subst e
    exact ⟨_, rfl, fun d hd => k d _ hd (stay hd) upd_same⟩
theorem sc__law_fields : FnScope ["way", "error"] ["way", "error"] (defScope s__law_fields) := ⟨rfl, rfl, rfl, by decide +kernel, rfl, by decide +kernel, by decide +kernel⟩
theorem ok__law_fields (T : Txt P K mg A) : FnOk P w K mg base CX0 1 A.a__law_fields A.d__law_fields ["way", "error"] (spFields A) := by
  refine T.F__law_fields.ok sc__law_fields (fun vs H Q E h => ?_) (fun cdv B outer s H vs Q E hr h => ?_)
  · obtain ⟨way, a, dd, one, other, rfl, _⟩ := h
    rfl
  · obtain ⟨way, a, dd, one, other, rfl, hw, ea, ed, k⟩ := h
    refine ⟨_, (pss_cons (ps_mc (ps_if (PW.pt (pw_or (pt_cmpR op_lt (pv 0) pe_int (nomark _)) (pw_or1 (pt_cmpR op_gt (pv 0) pe_int (nomark _)))))
      (pss_one (ps_ret (pe_lst (pa_cons (pe_xv (C := IsErr A) (xv_all T (.head _)) (pv 1)) pa_nil)))) pss_nil))
    (pss_cons (ps_if (pt_cmpR op_lt (pv 0) pe_int (nomark _))
      (pss_one (ps_ret (pe_lst (pa_cons (pe_xv (C := IsErr A) (xv_all T (.tail _ (.tail _ (.tail _ (.head _))))) (pv 1)) pa_nil)))) pss_nil)
    (pss_cons (ps_if (pt_cmpR op_lt (pv 0) pe_int (nomark _))
      (pss_one (ps_ret (pe_lst (pa_cons (pe_xv (C := IsErr A) (xv_all T (.tail _ (.tail _ (.head _)))) (pv 1)) pa_nil)))) pss_nil)
    (pss_one (ps_ret (pe_ifExp (pt_cmpR op_lt (pv 0) pe_int (nomark _)) (pe_lst (pa_cons (pe_xv (C := IsErr A) (xv_all T (.tail _ (.head _))) (pv 1)) (pa_cons (pe_xv (C := IsErr A) (xv_all T (.tail _ (.tail _ (.head _)))) (pv 1)) pa_nil))) (pe_lst (pa_cons (pe_xv (C := IsErr A) (xv_all T (.tail _ (.tail _ (.tail _ (.tail _ (.head _)))))) (pv 1)) (pa_cons (pe_xv (C := IsErr A) (xv_all T (.tail _ (.tail _ (.tail _ (.tail _ (.tail _ (.head _))))))) (pv 1)) pa_nil))))))))), ?_⟩
    refine ⟨fun σ' H' => σ' = [some (.int way), some (.ref a)] ∧ H' = H ∧ 6 ≤ way ∧ way ≤ 15, ?_, ?_⟩
    · have go : (way < 6 ∨ 15 < way) → tRet (tLst (tCons (tXv (IsErr A) (Str.ofString "part") (tVar 1)) tNil)) { nx := fun σ' H' => σ' = [some (.int way), some (.ref a)] ∧ H' = H ∧ 6 ≤ way ∧ way ≤ 15, rt := Q } [some (.int way), some (.ref a)] H := fun hc => by
        have e1 : fldOf way one other = [(("part" : Str), one)] := by
          unfold fldOf
          have : way / 2 = 0 ∨ way / 2 = 1 ∨ way / 2 = 2 ∨ way / 2 = 8 := by omega
          rcases this with e | e | e | e <;> (rw [e] <;> rfl)
        have e2 : ansOf way one other = [one] := by unfold ansOf; rw [if_neg (by omega)]
        rw [e1] at ed
        rw [e2] at k
        refine ⟨_, rfl, a, _, dd, _, one, rfl, ⟨way, rfl⟩, ea, ed, rfl, (by show 1 ≤ sizeLine; decide), fun l hl => k l hl⟩
      refine ⟨_, rfl, _, _, rfl, rfl, _, rfl, ite2 (fun c => ?_) (fun c => ?_)⟩
      · have := of_decide_eq_true c
        exact go (.inl (by omega))
      · have h1 : ¬ ((way : Int) < 6) := fun q => c (decide_eq_true q)
        refine ⟨_, rfl, _, _, rfl, rfl, _, rfl, ite2 (fun c2 => ?_) (fun c2 => ?_)⟩
        · have := of_decide_eq_true c2
          exact go (.inr (by omega))
        · have h2 : ¬ ((15 : Int) < way) := fun q => c2 (decide_eq_true q)
          exact ⟨rfl, rfl, by omega, by omega⟩
    rintro σ' H' ⟨rfl, rfl, h1, h2⟩
    refine ⟨_, rfl, _, _, rfl, rfl, _, rfl, ite2 (fun c => ?_) (fun c => ?_)⟩
    · have h3 := of_decide_eq_true c
      have e1 : fldOf way one other = [(("name" : Str), one)] := by
        unfold fldOf
        have e : way / 2 = 3 := by omega
        rw [e] <;> rfl
      have e2 : ansOf way one other = [one] := by unfold ansOf; rw [if_neg (by omega)]
      rw [e1] at ed
      rw [e2] at k
      refine ⟨_, rfl, a, _, dd, _, one, rfl, ⟨way, rfl⟩, ea, ed, rfl, (by show 1 ≤ sizeLine; decide), fun l hl => k l hl⟩
    have h3 : ¬ ((way : Int) < 8) := fun q => c (decide_eq_true q)
    refine ⟨_, rfl, _, _, rfl, rfl, _, rfl, ite2 (fun c => ?_) (fun c => ?_)⟩
    · have h4 := of_decide_eq_true c
      have e1 : fldOf way one other = [(("word" : Str), one)] := by
        unfold fldOf
        have : way / 2 = 4 ∨ way / 2 = 5 := by omega
        rcases this with e | e <;> (rw [e] <;> rfl)
      have e2 : ansOf way one other = [one] := by unfold ansOf; rw [if_neg (by omega)]
      rw [e1] at ed
      rw [e2] at k
      refine ⟨_, rfl, a, _, dd, _, one, rfl, ⟨way, rfl⟩, ea, ed, rfl, (by show 1 ≤ sizeLine; decide), fun l hl => k l hl⟩
    have h4 : ¬ ((way : Int) < 12) := fun q => c (decide_eq_true q)
    have e2 : ansOf way one other = [one, other] := by unfold ansOf; rw [if_pos (by omega)]
    rw [e2] at k
    refine ⟨_, rfl, _, _, rfl, rfl, _, rfl, ite2 (fun c => ?_) (fun c => ?_)⟩
    · have h5 := of_decide_eq_true c
      have e1 : fldOf way one other = [(("word" : Str), other), ("line", one)] := by
        unfold fldOf
        have e : way / 2 = 6 := by omega
        rw [e] <;> rfl
      rw [e1] at ed
      refine ⟨_, rfl, a, _, dd, _, one, rfl, ⟨way, rfl⟩, ea, ed, rfl, _, rfl, a, _, dd, _, other, rfl, ⟨way, rfl⟩, ea, ed, rfl, (by show 2 ≤ sizeLine; decide), fun l hl => k l hl⟩
    · have h5 : ¬ ((way : Int) < 14) := fun q => c (decide_eq_true q)
      have e1 : fldOf way one other = [(("most" : Str), other), ("what", one)] := by
        unfold fldOf
        have e : way / 2 = 7 := by omega
        rw [e] <;> rfl
      rw [e1] at ed
      refine ⟨_, rfl, a, _, dd, _, one, rfl, ⟨way, rfl⟩, ea, ed, rfl, _, rfl, a, _, dd, _, other, rfl, ⟨way, rfl⟩, ea, ed, rfl, (by show 2 ≤ sizeLine; decide), fun l hl => k l hl⟩
end
end K00
namespace K00
open PySem PySem.Spec PySem.Calls PyProof.Rows L2 NdefX BL
def spLaw (K : PySem.W.Frag) : Sp := fun vs H Q _ => ∃ (a : Addr) (ns : List Int), vs = [.ref a] ∧ SqL K H a (ns.map V.int) ∧ ns.length ≤ 63 ∧ ∀ H', Q (.bl true) H'
theorem hU_of {k : Nat} {A : Around} (h : Room k A) : A.units + (3 + 1) < cLine := Nat.lt_of_le_of_lt (Nat.add_le_add_left (by decide : 3 + 1 ≤ 64) _) h.units
theorem good1 : ∀ d ∈ goods, (PyData.list [d]).showable = true ∧ (PyData.list [d]).depth ≤ 3 ∧ (PyData.list [d]).shown.length ≤ sizeLine := by decide +kernel
theorem good2 : ∀ d ∈ goods, ∀ e ∈ goods, (PyData.list [d, e]).showable = true ∧ (PyData.list [d, e]).depth ≤ 3 ∧ (PyData.list [d, e]).shown.length ≤ sizeLine := by decide +kernel
theorem tw (t i : Nat) : decide (V.int (0 + (t : Int)) = V.int ((0 + (i : Int)).fdiv 2)) = decide (t = i / 2) := by
  rw [Int.zero_add, Int.zero_add]
  have e : ((i : Int).fdiv 2) = ((i / 2 : Nat) : Int) := by
    rw [Int.fdiv_eq_ediv_of_nonneg _ (by decide)]
    omega
  rw [e]
  by_cases h : t = i / 2
  · rw [decide_eq_true h, h]
    exact decide_eq_true rfl
  · rw [decide_eq_false h]
    exact decide_eq_false fun q => h (by have := V.int.inj q; omega)
theorem kb_eq {m : Nat} (h : m < 9) : ([decide (m = 0), decide (m = 1), decide (m = 2), decide (m = 3), decide (m = 4), decide (m = 5), decide (m = 6), decide (m = 7), decide (m = 8)] : List Bool) = (List.range 9).map fun j => decide (j = m) := by
  have : m = 0 ∨ m = 1 ∨ m = 2 ∨ m = 3 ∨ m = 4 ∨ m = 5 ∨ m = 6 ∨ m = 7 ∨ m = 8 := by omega
  rcases this with rfl | rfl | rfl | rfl | rfl | rfl | rfl | rfl | rfl <;> decide
section
variable {P : Program} {w : World} {K : PySem.W.Frag} {mg : Str → Option Value} {base : Heap} {A : Adr}
theorem low_all (T : Txt P K mg A) (i : Nat) : PySem.W.exmOne K (.ref (clsOf A i)) (.ref A.c_LotError) = some true := by
  unfold clsOf cl
  split
  · exact T.e_BadValue.low
  · exact T.e_BadNumber.low
  · exact T.e_Misfit.low
  · exact T.e_NoName.low
  · exact T.e_Nothing.low
  · exact T.e_BadLine.low
  · exact T.e_BadText.low
  · exact T.e_TooMany.low
  · exact T.e_BadMenu.low
theorem exc_all (T : Txt P K mg A) (i : Nat) : ExcC K (clsOf A i) := by
  unfold clsOf cl
  split
  · exact T.e_BadValue.exc
  · exact T.e_BadNumber.exc
  · exact T.e_Misfit.exc
  · exact T.e_NoName.exc
  · exact T.e_Nothing.exc
  · exact T.e_BadLine.exc
  · exact T.e_BadText.exc
  · exact T.e_TooMany.exc
  · exact T.e_BadMenu.exc
theorem sc_law : FnScope ["script", "pen", "way", "one", "other", "caught", "error", "kinds", "at"] ["script"] (defScope s_law) := ⟨rfl, rfl, rfl, by decide +kernel, rfl, by decide +kernel, by decide +kernel⟩
theorem ok_law (T : Txt P K mg A) : FnG P w K mg base CX0 5 A.a_law A.d_law ["script"] (spLaw K) := by
  refine fnG_ok T.F_law sc_law (fun vs H Q E h => ?_) (fun cdv B outer s H vs Q E hG0 hr h => ?_)
  · obtain ⟨a, ns, rfl, _⟩ := h
    rfl
  · obtain ⟨a, ns, rfl, hS, hlen, k⟩ := h
    have hU := hU_of hr
    have hG : (B.deeper (envOfC "law" (defScope s_law) s.heap.objs.size A.a_law cdv)).guards = some [] := hG0
    refine ⟨_, (pss_cons (ps_set (i := 1) sc_law.nd rfl (Or.inl rfl) (pe_call (ok__law_pen T) (hr.mono (by decide)) (by rfl) T.m__law_pen T.F__law_pen.kp T.b__law_pen .nil pass0 (pa_cons (pv 0) pa_nil)))
    (pss_cons (ps_for PassesOwn.never rfl (pi_range1 rfl T.m_range (pa_cons pe_int pa_nil)) (pg_name (i := 2) sc_law.nd rfl (Or.inr rfl))
      (pss_cons (ps_par3 (i := 3) (j := 4) (l := 5) rfl sc_law.nd rfl rfl rfl (by decide) (by decide) (by decide) rfl rfl rfl (pa_cons (pe_call (ok__law_any T) (hr.mono (by decide)) (by rfl) T.m__law_any T.F__law_any.kp T.b__law_any .nil pass0 (pa_cons (pv 1) pa_nil)) (pa_cons (pe_call (ok__law_any T) (hr.mono (by decide)) (by rfl) T.m__law_any T.F__law_any.kp T.b__law_any .nil pass0 (pa_cons (pv 1) pa_nil)) (pa_cons pe_non pa_nil))) (by rfl))
      (pss_cons (ps_try_held (i := 6) (j := 5) (tb := fun W => tDrop (tCallS (spRaised A) (WE W) (tCons (tVar 2) (tCons (tVar 3) (tCons (tVar 4) tNil))))) rfl rfl rfl sc_law.nd rfl rfl (by decide) rfl rfl ⟨rfl, by decide, .inl T.m_LotError⟩ rfl rfl (fun _ _ => rfl) (fun W pn xe tk _ => pss_one (ps_expr (pe_callS (ok__law_raised T) (hr.mono (by decide)) rfl T.m__law_raised T.F__law_raised.kp T.b__law_raised (fun σ => passAt tk σ) (pa_cons (pv 2) (pa_cons (pv 3) (pa_cons (pv 4) pa_nil)))))))
      (pss_cons (ps_set (i := 7) sc_law.nd rfl (Or.inl rfl) (pe_lst (pa_cons (pe_callB call_isiP (by rfl) T.m_isinstance (by decide +kernel) (pa_cons (pv 5) (pa_cons (pe_glob (v := .ref A.c_BadValue) rfl T.e_BadValue.m rfl) pa_nil))) (pa_cons (pe_callB call_isiP (by rfl) T.m_isinstance (by decide +kernel) (pa_cons (pv 5) (pa_cons (pe_glob (v := .ref A.c_BadNumber) rfl T.e_BadNumber.m rfl) pa_nil))) (pa_cons (pe_callB call_isiP (by rfl) T.m_isinstance (by decide +kernel) (pa_cons (pv 5) (pa_cons (pe_glob (v := .ref A.c_Misfit) rfl T.e_Misfit.m rfl) pa_nil))) (pa_cons (pe_callB call_isiP (by rfl) T.m_isinstance (by decide +kernel) (pa_cons (pv 5) (pa_cons (pe_glob (v := .ref A.c_NoName) rfl T.e_NoName.m rfl) pa_nil))) (pa_cons (pe_callB call_isiP (by rfl) T.m_isinstance (by decide +kernel) (pa_cons (pv 5) (pa_cons (pe_glob (v := .ref A.c_Nothing) rfl T.e_Nothing.m rfl) pa_nil))) (pa_cons (pe_callB call_isiP (by rfl) T.m_isinstance (by decide +kernel) (pa_cons (pv 5) (pa_cons (pe_glob (v := .ref A.c_BadLine) rfl T.e_BadLine.m rfl) pa_nil))) pa_nil))))))))
      (pss_cons (ps_set (i := 7) sc_law.nd rfl (Or.inl rfl) (pe_op op_cat (pv 7) (pe_lst (pa_cons (pe_callB call_isiP (by rfl) T.m_isinstance (by decide +kernel) (pa_cons (pv 5) (pa_cons (pe_glob (v := .ref A.c_BadText) rfl T.e_BadText.m rfl) pa_nil))) (pa_cons (pe_callB call_isiP (by rfl) T.m_isinstance (by decide +kernel) (pa_cons (pv 5) (pa_cons (pe_glob (v := .ref A.c_TooMany) rfl T.e_TooMany.m rfl) pa_nil))) (pa_cons (pe_callB call_isiP (by rfl) T.m_isinstance (by decide +kernel) (pa_cons (pv 5) (pa_cons (pe_glob (v := .ref A.c_BadMenu) rfl T.e_BadMenu.m rfl) pa_nil))) pa_nil))))))
      (pss_cons (ps_mc (ps_if (PW.pt (pw_or (pt_cmpR (op_neD hr.units) (pv 7) (pe_lc (own := [("at", 8)]) (g := gName 8) (tt := tYes) rfl sc_law.nd (pi_range1 rfl T.m_range (pa_cons pe_int pa_nil)) (blkOk_by (own := [("at", 8)]) (N := ["script", "pen", "way", "one", "other", "caught", "error", "kinds", "at"]) (sc := defScope s_law) (by decide +kernel)) (fun _ _ _ _ _ => (pg_name (i := 8) sc_law.nd rfl (Or.inl rfl))) (fun _ _ _ _ _ => pts_nil) (fun _ _ _ _ _ => (pe_cmpR op_eq (pv 8) (pe_op op_fdivN (pv 2) pe_int) (nomark _)))) (nomark _)) (pw_or1 (pt_not (pt_val (pe_callB call_isiP (by rfl) T.m_isinstance (by decide +kernel) (pa_cons (pv 5) (pa_cons (pe_bltn (v := .ty "ValueError") (by rfl) T.m_ValueError (by decide +kernel) rfl) pa_nil))))))))
        (pss_one (ps_ret pe_bl)) pss_nil))
      (pss_one (ps_if (pt_cmpR op_ne (pe_callB (call_repr hG hU) (by rfl) T.m_repr (by decide +kernel) (pa_cons (pe_call (ok__law_fields T) (hr.mono (by decide)) (by rfl) T.m__law_fields T.F__law_fields.kp T.b__law_fields .nil pass0 (pa_cons (pv 2) (pa_cons (pv 5) pa_nil))) pa_nil)) (pe_callB (call_repr hG hU) (by rfl) T.m_repr (by decide +kernel) (pa_cons (pe_ifExp (pt_chain op_lt op_lt pe_int (pv 2) pe_int) (pe_lst (pa_cons (pv 3) (pa_cons (pv 4) pa_nil))) (pe_lst (pa_cons (pv 3) pa_nil))) pa_nil)) (nomark _))
        (pss_one (ps_ret pe_bl)) pss_nil))))))))
    (pss_one (ps_ret pe_bl)))), ?_⟩
    refine ⟨_, rfl, a, ns, rfl, hS, hlen, fun p H0 s0 np hP => ?_⟩
    refine ⟨18, rfl, by decide, by decide, for_range (n := 18) (fun i σ H' => ∃ x2 x3 x4 x5 x7 x8 : Option V, σ = [some (.ref a), some (.ref p), x2, x3, x4, x5, none, x7, x8] ∧ PenAt H' p (2 * i)) ⟨none, none, none, none, none, none, rfl, hP⟩ ?_ ?_⟩
    · rintro i σ H1 hi ⟨x2, x3, x4, x5, x7, x8, rfl, hP1⟩
      have hm : i / 2 < 9 := by omega
      have X := exc_all T i
      refine ⟨_, rfl, p, 2 * i, rfl, hP1, by omega, fun v1 d1 H2 k1 hP2 g1 r1 => ?_⟩
      refine ⟨_, rfl, p, 2 * i + 1, rfl, hP2, by omega, fun v2 d2 H3 k2 hP3 g2 r2 => ⟨_, _, _, rfl, ?_⟩⟩
      refine ⟨_, rfl, _, rfl, _, rfl, i, v1, v2, by rw [Int.zero_add], hi, fun d H4 nd k3 ed => ⟨low_all T i, fun a' na => ?_⟩⟩
      have E1 : (upd H4 a' (exV a' (.ref (clsOf A i)) (some d))) a' = _ := upd_same
      have k4 := stay (o := exV a' (.ref (clsOf A i)) (some d)) na
      have E2 := k4 _ _ ed
      refine ⟨_, rfl, .inr ⟨a', clsOf A i, d, _, _, _, _, rfl, .own _, E1, E2, X, T.kit (i / 2) 0 hm (by decide), ?_⟩⟩
      refine ⟨_, rfl, .inr ⟨a', clsOf A i, d, _, _, _, _, rfl, .own _, E1, E2, X, T.kit (i / 2) 1 hm (by decide), ?_⟩⟩
      refine ⟨_, rfl, .inr ⟨a', clsOf A i, d, _, _, _, _, rfl, .own _, E1, E2, X, T.kit (i / 2) 2 hm (by decide), ?_⟩⟩
      refine ⟨_, rfl, .inr ⟨a', clsOf A i, d, _, _, _, _, rfl, .own _, E1, E2, X, T.kit (i / 2) 3 hm (by decide), ?_⟩⟩
      refine ⟨_, rfl, .inr ⟨a', clsOf A i, d, _, _, _, _, rfl, .own _, E1, E2, X, T.kit (i / 2) 4 hm (by decide), ?_⟩⟩
      refine ⟨_, rfl, .inr ⟨a', clsOf A i, d, _, _, _, _, rfl, .own _, E1, E2, X, T.kit (i / 2) 5 hm (by decide), ?_⟩⟩
      refine ⟨(by show 6 ≤ sizeLine; decide), fun l1 n1 => ?_⟩
      have k5 := stay (o := .lst [.bl (decide (i / 2 = 0)), .bl (decide (i / 2 = 1)), .bl (decide (i / 2 = 2)), .bl (decide (i / 2 = 3)), .bl (decide (i / 2 = 4)), .bl (decide (i / 2 = 5))]) n1
      have E3 := k5 _ _ E1
      have E4 := k5 _ _ E2
      refine ⟨_, rfl, ?_⟩
      refine ⟨_, rfl, .inr ⟨a', clsOf A i, d, _, _, _, _, rfl, .own _, E3, E4, X, T.kit (i / 2) 6 hm (by decide), ?_⟩⟩
      refine ⟨_, rfl, .inr ⟨a', clsOf A i, d, _, _, _, _, rfl, .own _, E3, E4, X, T.kit (i / 2) 7 hm (by decide), ?_⟩⟩
      refine ⟨_, rfl, .inr ⟨a', clsOf A i, d, _, _, _, _, rfl, .own _, E3, E4, X, T.kit (i / 2) 8 hm (by decide), ?_⟩⟩
      refine ⟨(by show 3 ≤ sizeLine; decide), fun l2 n2 => ?_⟩
      have k6 := stay (o := .lst [.bl (decide (i / 2 = 6)), .bl (decide (i / 2 = 7)), .bl (decide (i / 2 = 8))]) n2
      refine ⟨_, _, _, _, rfl, rfl, k6 _ _ upd_same, upd_same, (by show 9 ≤ sizeLine; decide), fun l3 n3 => ?_⟩
      have k7 := stay (o := .lst ([.bl (decide (i / 2 = 0)), .bl (decide (i / 2 = 1)), .bl (decide (i / 2 = 2)), .bl (decide (i / 2 = 3)), .bl (decide (i / 2 = 4)), .bl (decide (i / 2 = 5))] ++ [.bl (decide (i / 2 = 6)), .bl (decide (i / 2 = 7)), .bl (decide (i / 2 = 8))])) n3
      have E5 := k7 _ _ (k6 _ _ E3)
      have E6 := k7 _ _ (k6 _ _ E4)
      have kp3 : Kp p H3 _ := fun b o _ e => k7 _ _ (k6 _ _ (k5 _ _ (k4 _ _ (k3 b o e))))
      have hP4 := hP3.kp fun b o e => k7 _ _ (k6 _ _ (k5 _ _ (k4 _ _ (k3 b o e))))
      have rr1 := (r1.mono k2).mono kp3
      have rr2 := r2.mono kp3
      obtain ⟨KL, eKL⟩ : ∃ KL : List V, KL = [V.bl (decide (i / 2 = 0)), .bl (decide (i / 2 = 1)), .bl (decide (i / 2 = 2)), .bl (decide (i / 2 = 3)), .bl (decide (i / 2 = 4)), .bl (decide (i / 2 = 5)), .bl (decide (i / 2 = 6)), .bl (decide (i / 2 = 7)), .bl (decide (i / 2 = 8))] := ⟨_, rfl⟩
      have eKB : KL = ((List.range 9).map fun j => decide (j = i / 2)).map V.bl := by
        rw [eKL, ← kb_eq hm]
        rfl
      let S : Hp → Prop := fun G => G a' = some (exV a' (.ref (clsOf A i)) (some d)) ∧ G d = some (.xd (fldOf i v1 v2)) ∧ PenAt G p (2 * i + 1 + 1) ∧ Rk K p G v1 d1 ∧ Rk K p G v2 d2
      have S_same : ∀ G G', Same G G' → S G → S G' := fun G G' sm ⟨h1, h2, h3, h4, h5⟩ => ⟨sm _ _ h1, sm _ _ h2, h3.kp sm, h4.mono fun b o _ e => sm b o e, h5.mono fun b o _ e => sm b o e⟩
      refine ⟨fun σ' H' => ∃ x8 : Option V, σ' = [some (.ref a), some (.ref p), some (.int (0 + (i : Int))), some v1, some v2, some (.ref a'), none, some (.ref l3), x8] ∧ S H', ?_, ?_⟩
      · refine ⟨_, rfl, 9, rfl, by decide, by decide, fun D nD => lc_range (n := 9) (fun t H' => ∃ G, G D = none ∧ S G ∧ G l3 = some (.lst KL) ∧ Same G H' ∧ H' D = some (.lst ((List.range t).map fun j => V.bl (decide (j = i / 2))))) ⟨_, nD, ⟨E5, E6, hP4, rr1, rr2⟩, by rw [eKL]; exact upd_same, stay nD, upd_same⟩ ?_ ?_⟩
        · rintro t H' ht ⟨G, gD, sG, gL, sm, hD⟩
          refine ⟨rfl, ?_⟩
          refine ⟨_, rfl, _, rfl, _, _, rfl, rfl, ⟨by decide, by decide⟩, rfl, _, hD, ?_, ?_⟩
          · rw [List.length_map, List.length_range]
            exact Nat.lt_of_lt_of_le ht (by decide)
          · refine ⟨G, gD, sG, gL, fun b o e => by rw [upd_ne (ne_of_none e gD)]; exact sm b o e, ?_⟩
            rw [upd_same, List.range_succ, List.map_append, List.map_singleton]
            show some (HO.lst (_ ++ [V.bl (decide (V.int (0 + (t : Int)) = V.int ((0 + (i : Int)).fdiv 2)))])) = _
            rw [tw]
        · rintro H' ⟨G, gD, sG, gL, sm, hD⟩
          have eD : ((List.range 9).map fun j => V.bl (decide (j = i / 2))) = ((List.range 9).map fun j => decide (j = i / 2)).map V.bl := by rw [List.map_map]; rfl
          rw [eD] at hD
          rw [eKB] at gL
          refine ⟨_, _, dp_bls (SqL.of (sm _ _ gL)), dp_bls (SqL.of hD), shaped_bools _, shaped_bools _, _, rfl, ?_⟩
          rw [eqv_bools]
          refine ite2 (fun c => ?_) (fun _ => ?_)
          · rw [decide_eq_true rfl] at c
            cases c
          · have sH := S_same _ _ sm sG
            refine ⟨_, rfl, .inr ⟨a', clsOf A i, d, _, _, _, _, rfl, .ty _, sH.1, sH.2.1, X, T.kiv (i / 2) hm, _, rfl, ?_⟩⟩
            exact ⟨_, rfl, sH⟩
      · rintro σ' H5 ⟨y8, rfl, sH⟩
        obtain ⟨h1, h2, h3, h4, h5⟩ := sH
        have nxt : ∀ H6, Same H5 H6 → ∃ x2 x3 x4 x5 x7 x8 : Option V, ([some (.ref a), some (.ref p), some (.int (0 + (i : Int))), some v1, some v2, some (.ref a'), none, some (.ref l3), y8] : L2.St) = [some (.ref a), some (.ref p), x2, x3, x4, x5, none, x7, x8] ∧ PenAt H6 p (2 * (i + 1)) := fun H6 sm =>
          ⟨_, _, _, _, _, _, rfl, h3.kp sm⟩
        refine ⟨_, rfl, _, rfl, i, a', d, v1, v2, by rw [Int.zero_add] <;> rfl, hi, h1, h2, fun l4 n4 => ?_⟩
        have sm4 : Same H5 (upd H5 l4 (.lst (ansOf i v1 v2))) := stay n4
        have q1 : Rp K (upd H5 l4 (.lst (ansOf i v1 v2))) v1 d1 := h4 _ fun b o _ e => sm4 b o e
        have q2 : Rp K (upd H5 l4 (.lst (ansOf i v1 v2))) v2 d2 := h5 _ fun b o _ e => sm4 b o e
        by_cases hc : 12 ≤ i ∧ i < 16
        · have e : ansOf i v1 v2 = [v1, v2] := if_pos hc
          obtain ⟨z1, z2, z3⟩ := good2 d1 g1 d2 g2
          refine ⟨l4, .list [d1, d2], rfl, .lst (SqL.of (by rw [e]; exact upd_same)) (.cons q1 (.cons q2 .nil)), z1, z2, z3, ?_⟩
          refine ⟨_, rfl, _, _, rfl, rfl, _, rfl, ite2 (fun c1 => ?_) (fun c1 => ?_)⟩
          · refine ⟨_, _, rfl, rfl, _, rfl, ite2 (fun c2 => ?_) (fun c2 => ?_)⟩
            · refine ⟨_, rfl, _, rfl, (by show 2 ≤ sizeLine; decide), fun l5 n5 => ?_⟩
              have sm5 := stay (o := .lst [v1, v2]) n5
              refine ⟨l5, .list [d1, d2], rfl, .lst (SqL.of upd_same) (.cons (h4 _ fun b o _ e => sm5 _ _ (sm4 b o e)) (.cons (h5 _ fun b o _ e => sm5 _ _ (sm4 b o e)) .nil)), z1, z2, z3, rfl, _, rfl, ite2 (fun c3 => ?_) (fun _ => nxt _ fun b o e => sm5 _ _ (sm4 b o e))⟩
              rw [decide_eq_true rfl] at c3
              cases c3
            · exact absurd (decide_eq_true (by omega)) c2
          · exact absurd (decide_eq_true (by omega)) c1
        · have e : ansOf i v1 v2 = [v1] := if_neg hc
          obtain ⟨z1, z2, z3⟩ := good1 d1 g1
          refine ⟨l4, .list [d1], rfl, .lst (SqL.of (by rw [e]; exact upd_same)) (.cons q1 .nil), z1, z2, z3, ?_⟩
          refine ⟨_, rfl, _, _, rfl, rfl, _, rfl, ite2 (fun c1 => ?_) (fun c1 => ?_)⟩
          · refine ⟨_, _, rfl, rfl, _, rfl, ite2 (fun c2 => ?_) (fun c2 => ?_)⟩
            · have := of_decide_eq_true c1
              have := of_decide_eq_true c2
              exact absurd (by omega) hc
            · refine ⟨_, rfl, (by show 1 ≤ sizeLine; decide), fun l5 n5 => ?_⟩
              have sm5 := stay (o := .lst [v1]) n5
              refine ⟨l5, .list [d1], rfl, .lst (SqL.of upd_same) (.cons (h4 _ fun b o _ e => sm5 _ _ (sm4 b o e)) .nil), z1, z2, z3, rfl, _, rfl, ite2 (fun c3 => ?_) (fun _ => nxt _ fun b o e => sm5 _ _ (sm4 b o e))⟩
              rw [decide_eq_true rfl] at c3
              cases c3
          · refine ⟨_, rfl, ite2 (fun c2 => by cases c2) (fun _ => ?_)⟩
            refine ⟨_, rfl, (by show 1 ≤ sizeLine; decide), fun l5 n5 => ?_⟩
            have sm5 := stay (o := .lst [v1]) n5
            refine ⟨l5, .list [d1], rfl, .lst (SqL.of upd_same) (.cons (h4 _ fun b o _ e => sm5 _ _ (sm4 b o e)) .nil), z1, z2, z3, rfl, _, rfl, ite2 (fun c3 => ?_) (fun _ => nxt _ fun b o e => sm5 _ _ (sm4 b o e))⟩
            rw [decide_eq_true rfl] at c3
            cases c3
    · rintro σ H' ⟨x2, x3, x4, x5, x7, x8, rfl, hP1⟩
      exact k H'
end
end K00
namespace K00
open PySem PySem.Spec PySem.Calls PyProof.Rows L2 NdefX BL
theorem all_mk {P : Program} {w : World} {K : PySem.W.Frag} {h : Heap} {mg : Str → Option Value} {fa : Addr} (X : K.In h) (G : h.Ns mainGlobals mg) (hfa : mg "law" = some (.ref fa))
    {a__law_pen a__law_draw a__law_pick a__law_any a__law_raised a__law_fields a_law : Addr} {od__law_pen an__law_pen od__law_draw an__law_draw od__law_pick an__law_pick od__law_any an__law_any od__law_raised an__law_raised od__law_fields an__law_fields od_law an_law : Option Addr} {sl__law_pen sl__law_draw sl__law_pick sl__law_any sl__law_raised sl__law_fields sl_law : Array (Option Value)}
    {oc__law_pen kV__law_pen dc__law_pen pm__law_pen cd__law_pen ct__law_pen oc__law_draw kV__law_draw dc__law_draw pm__law_draw cd__law_draw ct__law_draw oc__law_pick kV__law_pick dc__law_pick pm__law_pick cd__law_pick ct__law_pick oc__law_any kV__law_any dc__law_any pm__law_any cd__law_any ct__law_any oc__law_raised kV__law_raised dc__law_raised pm__law_raised cd__law_raised ct__law_raised oc__law_fields kV__law_fields dc__law_fields pm__law_fields cd__law_fields ct__law_fields oc_law kV_law dc_law pm_law cd_law ct_law : Value}
    {cB c_BadValue i_BadValue cc_BadValue cd_BadValue c_BadNumber i_BadNumber cc_BadNumber cd_BadNumber c_BadMenu i_BadMenu cc_BadMenu cd_BadMenu c_BadText i_BadText cc_BadText cd_BadText c_BadLine i_BadLine cc_BadLine cd_BadLine c_NoName i_NoName cc_NoName cd_NoName c_Misfit i_Misfit cc_Misfit cd_Misfit c_Nothing i_Nothing cc_Nothing cd_Nothing c_TooMany i_TooMany cc_TooMany cd_TooMany : Addr} {f_BadValue f_BadNumber f_BadMenu f_BadText f_BadLine f_NoName f_Misfit f_Nothing f_TooMany : FuncData}
    (na__law_pen : PySem.W.nsIn K mainGlobals "_law_pen" = some (some (.ref a__law_pen))) (l__law_pen : K.lookup a__law_pen = some ⟨oc__law_pen, od__law_pen, .func (PySem.W.fnOf "_law_pen" "_law_pen" (defArgs s__law_pen) (defBody s__law_pen) (defScope s__law_pen) .none kV__law_pen dc__law_pen pm__law_pen an__law_pen cd__law_pen ct__law_pen), sl__law_pen⟩) (co__law_pen : PySem.W.codeIn K cd__law_pen "_law_pen" = true) (k__law_pen : PySem.W.keepIn K (.ref a__law_pen) = true)
    (na__law_draw : PySem.W.nsIn K mainGlobals "_law_draw" = some (some (.ref a__law_draw))) (l__law_draw : K.lookup a__law_draw = some ⟨oc__law_draw, od__law_draw, .func (PySem.W.fnOf "_law_draw" "_law_draw" (defArgs s__law_draw) (defBody s__law_draw) (defScope s__law_draw) .none kV__law_draw dc__law_draw pm__law_draw an__law_draw cd__law_draw ct__law_draw), sl__law_draw⟩) (co__law_draw : PySem.W.codeIn K cd__law_draw "_law_draw" = true) (k__law_draw : PySem.W.keepIn K (.ref a__law_draw) = true)
    (na__law_pick : PySem.W.nsIn K mainGlobals "_law_pick" = some (some (.ref a__law_pick))) (l__law_pick : K.lookup a__law_pick = some ⟨oc__law_pick, od__law_pick, .func (PySem.W.fnOf "_law_pick" "_law_pick" (defArgs s__law_pick) (defBody s__law_pick) (defScope s__law_pick) .none kV__law_pick dc__law_pick pm__law_pick an__law_pick cd__law_pick ct__law_pick), sl__law_pick⟩) (co__law_pick : PySem.W.codeIn K cd__law_pick "_law_pick" = true) (k__law_pick : PySem.W.keepIn K (.ref a__law_pick) = true)
    (na__law_any : PySem.W.nsIn K mainGlobals "_law_any" = some (some (.ref a__law_any))) (l__law_any : K.lookup a__law_any = some ⟨oc__law_any, od__law_any, .func (PySem.W.fnOf "_law_any" "_law_any" (defArgs s__law_any) (defBody s__law_any) (defScope s__law_any) .none kV__law_any dc__law_any pm__law_any an__law_any cd__law_any ct__law_any), sl__law_any⟩) (co__law_any : PySem.W.codeIn K cd__law_any "_law_any" = true) (k__law_any : PySem.W.keepIn K (.ref a__law_any) = true)
    (na__law_raised : PySem.W.nsIn K mainGlobals "_law_raised" = some (some (.ref a__law_raised))) (l__law_raised : K.lookup a__law_raised = some ⟨oc__law_raised, od__law_raised, .func (PySem.W.fnOf "_law_raised" "_law_raised" (defArgs s__law_raised) (defBody s__law_raised) (defScope s__law_raised) .none kV__law_raised dc__law_raised pm__law_raised an__law_raised cd__law_raised ct__law_raised), sl__law_raised⟩) (co__law_raised : PySem.W.codeIn K cd__law_raised "_law_raised" = true) (k__law_raised : PySem.W.keepIn K (.ref a__law_raised) = true)
    (na__law_fields : PySem.W.nsIn K mainGlobals "_law_fields" = some (some (.ref a__law_fields))) (l__law_fields : K.lookup a__law_fields = some ⟨oc__law_fields, od__law_fields, .func (PySem.W.fnOf "_law_fields" "_law_fields" (defArgs s__law_fields) (defBody s__law_fields) (defScope s__law_fields) .none kV__law_fields dc__law_fields pm__law_fields an__law_fields cd__law_fields ct__law_fields), sl__law_fields⟩) (co__law_fields : PySem.W.codeIn K cd__law_fields "_law_fields" = true) (k__law_fields : PySem.W.keepIn K (.ref a__law_fields) = true)
    (na_law : PySem.W.nsIn K mainGlobals "law" = some (some (.ref a_law))) (l_law : K.lookup a_law = some ⟨oc_law, od_law, .func (PySem.W.fnOf "law" "law" (defArgs s_law) (defBody s_law) (defScope s_law) .none kV_law dc_law pm_law an_law cd_law ct_law), sl_law⟩) (co_law : PySem.W.codeIn K cd_law "law" = true) (k_law : PySem.W.keepIn K (.ref a_law) = true)
    (nB : PySem.W.nsIn K mainGlobals "LotError" = some (some (.ref cB)))
    (e_BadValue : ErrC K P mg cB "BadValue" "BadValue.__init__" c_BadValue i_BadValue cc_BadValue cd_BadValue s_BadValue_init f_BadValue ["self", "part"] ["part", "line", "word", "name", "what", "most"])
    (kb_BadValue : KBn K f_BadValue ["self", "part"] 1 ["part"] kg kgV)
    (e_BadNumber : ErrC K P mg cB "BadNumber" "BadNumber.__init__" c_BadNumber i_BadNumber cc_BadNumber cd_BadNumber s_BadNumber_init f_BadNumber ["self", "part"] ["part", "line", "word", "name", "what", "most"])
    (kb_BadNumber : KBn K f_BadNumber ["self", "part"] 1 ["part"] kg kgV)
    (e_BadMenu : ErrC K P mg cB "BadMenu" "BadMenu.__init__" c_BadMenu i_BadMenu cc_BadMenu cd_BadMenu s_BadMenu_init f_BadMenu ["self", "part"] ["part", "line", "word", "name", "what", "most"])
    (kb_BadMenu : KBn K f_BadMenu ["self", "part"] 1 ["part"] kg kgV)
    (e_BadText : ErrC K P mg cB "BadText" "BadText.__init__" c_BadText i_BadText cc_BadText cd_BadText s_BadText_init f_BadText ["self", "line", "word"] ["part", "line", "word", "name", "what", "most"])
    (kb_BadText : KBn K f_BadText ["self", "line", "word"] 1 ["word", "line"] kr krV)
    (e_BadLine : ErrC K P mg cB "BadLine" "BadLine.__init__" c_BadLine i_BadLine cc_BadLine cd_BadLine s_BadLine_init f_BadLine ["self", "word"] ["part", "line", "word", "name", "what", "most"])
    (kb_BadLine : KBn K f_BadLine ["self", "word"] 1 ["word"] kg kgV)
    (e_NoName : ErrC K P mg cB "NoName" "NoName.__init__" c_NoName i_NoName cc_NoName cd_NoName s_NoName_init f_NoName ["self", "name"] ["part", "line", "word", "name", "what", "most"])
    (kb_NoName : KBn K f_NoName ["self", "name"] 1 ["name"] kg kgV)
    (e_Misfit : ErrC K P mg cB "Misfit" "Misfit.__init__" c_Misfit i_Misfit cc_Misfit cd_Misfit s_Misfit_init f_Misfit ["self", "part"] ["part", "line", "word", "name", "what", "most"])
    (kb_Misfit : KBn K f_Misfit ["self", "part"] 1 ["part"] kg kgV)
    (e_Nothing : ErrC K P mg cB "Nothing" "Nothing.__init__" c_Nothing i_Nothing cc_Nothing cd_Nothing s_Nothing_init f_Nothing ["self", "word"] ["part", "line", "word", "name", "what", "most"])
    (kb_Nothing : KBn K f_Nothing ["self", "word"] 1 ["word"] kg kgV)
    (e_TooMany : ErrC K P mg cB "TooMany" "TooMany.__init__" c_TooMany i_TooMany cc_TooMany cd_TooMany s_TooMany_init f_TooMany ["self", "what", "most"] ["part", "line", "word", "name", "what", "most"])
    (kb_TooMany : KBn K f_TooMany ["self", "what", "most"] 1 ["most", "what"] kr krV)
    (z_list : PySem.W.nsIn K mainGlobals "list" = some none)
    (z_int : PySem.W.nsIn K mainGlobals "int" = some none)
    (z_len : PySem.W.nsIn K mainGlobals "len" = some none)
    (z_abs : PySem.W.nsIn K mainGlobals "abs" = some none)
    (z_isinstance : PySem.W.nsIn K mainGlobals "isinstance" = some none)
    (z_repr : PySem.W.nsIn K mainGlobals "repr" = some none)
    (z_range : PySem.W.nsIn K mainGlobals "range" = some none)
    (z_ValueError : PySem.W.nsIn K mainGlobals "ValueError" = some none)
    (kit : kitB K (cl (⟨a__law_pen, a__law_draw, a__law_pick, a__law_any, a__law_raised, a__law_fields, a_law, (PySem.W.fnOf "_law_pen" "_law_pen" (defArgs s__law_pen) (defBody s__law_pen) (defScope s__law_pen) .none kV__law_pen dc__law_pen pm__law_pen an__law_pen cd__law_pen ct__law_pen), (PySem.W.fnOf "_law_draw" "_law_draw" (defArgs s__law_draw) (defBody s__law_draw) (defScope s__law_draw) .none kV__law_draw dc__law_draw pm__law_draw an__law_draw cd__law_draw ct__law_draw), (PySem.W.fnOf "_law_pick" "_law_pick" (defArgs s__law_pick) (defBody s__law_pick) (defScope s__law_pick) .none kV__law_pick dc__law_pick pm__law_pick an__law_pick cd__law_pick ct__law_pick), (PySem.W.fnOf "_law_any" "_law_any" (defArgs s__law_any) (defBody s__law_any) (defScope s__law_any) .none kV__law_any dc__law_any pm__law_any an__law_any cd__law_any ct__law_any), (PySem.W.fnOf "_law_raised" "_law_raised" (defArgs s__law_raised) (defBody s__law_raised) (defScope s__law_raised) .none kV__law_raised dc__law_raised pm__law_raised an__law_raised cd__law_raised ct__law_raised), (PySem.W.fnOf "_law_fields" "_law_fields" (defArgs s__law_fields) (defBody s__law_fields) (defScope s__law_fields) .none kV__law_fields dc__law_fields pm__law_fields an__law_fields cd__law_fields ct__law_fields), (PySem.W.fnOf "law" "law" (defArgs s_law) (defBody s_law) (defScope s_law) .none kV_law dc_law pm_law an_law cd_law ct_law), cB, c_BadValue, i_BadValue, cc_BadValue, cd_BadValue, c_BadNumber, i_BadNumber, cc_BadNumber, cd_BadNumber, c_BadMenu, i_BadMenu, cc_BadMenu, cd_BadMenu, c_BadText, i_BadText, cc_BadText, cd_BadText, c_BadLine, i_BadLine, cc_BadLine, cd_BadLine, c_NoName, i_NoName, cc_NoName, cd_NoName, c_Misfit, i_Misfit, cc_Misfit, cd_Misfit, c_Nothing, i_Nothing, cc_Nothing, cd_Nothing, c_TooMany, i_TooMany, cc_TooMany, cd_TooMany, f_BadValue, f_BadNumber, f_BadMenu, f_BadText, f_BadLine, f_NoName, f_Misfit, f_Nothing, f_TooMany⟩ : Adr)) 9 = true) (kiv : kivB K (cl (⟨a__law_pen, a__law_draw, a__law_pick, a__law_any, a__law_raised, a__law_fields, a_law, (PySem.W.fnOf "_law_pen" "_law_pen" (defArgs s__law_pen) (defBody s__law_pen) (defScope s__law_pen) .none kV__law_pen dc__law_pen pm__law_pen an__law_pen cd__law_pen ct__law_pen), (PySem.W.fnOf "_law_draw" "_law_draw" (defArgs s__law_draw) (defBody s__law_draw) (defScope s__law_draw) .none kV__law_draw dc__law_draw pm__law_draw an__law_draw cd__law_draw ct__law_draw), (PySem.W.fnOf "_law_pick" "_law_pick" (defArgs s__law_pick) (defBody s__law_pick) (defScope s__law_pick) .none kV__law_pick dc__law_pick pm__law_pick an__law_pick cd__law_pick ct__law_pick), (PySem.W.fnOf "_law_any" "_law_any" (defArgs s__law_any) (defBody s__law_any) (defScope s__law_any) .none kV__law_any dc__law_any pm__law_any an__law_any cd__law_any ct__law_any), (PySem.W.fnOf "_law_raised" "_law_raised" (defArgs s__law_raised) (defBody s__law_raised) (defScope s__law_raised) .none kV__law_raised dc__law_raised pm__law_raised an__law_raised cd__law_raised ct__law_raised), (PySem.W.fnOf "_law_fields" "_law_fields" (defArgs s__law_fields) (defBody s__law_fields) (defScope s__law_fields) .none kV__law_fields dc__law_fields pm__law_fields an__law_fields cd__law_fields ct__law_fields), (PySem.W.fnOf "law" "law" (defArgs s_law) (defBody s_law) (defScope s_law) .none kV_law dc_law pm_law an_law cd_law ct_law), cB, c_BadValue, i_BadValue, cc_BadValue, cd_BadValue, c_BadNumber, i_BadNumber, cc_BadNumber, cd_BadNumber, c_BadMenu, i_BadMenu, cc_BadMenu, cd_BadMenu, c_BadText, i_BadText, cc_BadText, cd_BadText, c_BadLine, i_BadLine, cc_BadLine, cd_BadLine, c_NoName, i_NoName, cc_NoName, cd_NoName, c_Misfit, i_Misfit, cc_Misfit, cd_Misfit, c_Nothing, i_Nothing, cc_Nothing, cd_Nothing, c_TooMany, i_TooMany, cc_TooMany, cd_TooMany, f_BadValue, f_BadNumber, f_BadMenu, f_BadText, f_BadLine, f_NoName, f_Misfit, f_Nothing, f_TooMany⟩ : Adr)) 9 "ValueError" = true)
    : ∃ fd : FuncData, (∀ (s : Shared) (v : Value), BindsTo s fd ⟨[v], []⟩ [("script", v)]) ∧ ∀ base : Heap, K.In base → base.Ns mainGlobals mg → FnG P w K mg base CX0 5 fa fd ["script"] (spLaw K) := by
  have e := hfa.symm.trans (PySem.W.mg_of X G na_law)
  have F__law_pen := fun_mk (st := s__law_pen) l__law_pen co__law_pen k__law_pen
  have b__law_pen := F__law_pen.binds (ps := ["script"]) fun _ _ _ _ _ _ us hl => match us, hl with | [_], _ => rfl
  have F__law_draw := fun_mk (st := s__law_draw) l__law_draw co__law_draw k__law_draw
  have b__law_draw := F__law_draw.binds (ps := ["pen", "many"]) fun _ _ _ _ _ _ us hl => match us, hl with | [_, _], _ => rfl
  have F__law_pick := fun_mk (st := s__law_pick) l__law_pick co__law_pick k__law_pick
  have b__law_pick := F__law_pick.binds (ps := ["pen", "some"]) fun _ _ _ _ _ _ us hl => match us, hl with | [_, _], _ => rfl
  have F__law_any := fun_mk (st := s__law_any) l__law_any co__law_any k__law_any
  have b__law_any := F__law_any.binds (ps := ["pen"]) fun _ _ _ _ _ _ us hl => match us, hl with | [_], _ => rfl
  have F__law_raised := fun_mk (st := s__law_raised) l__law_raised co__law_raised k__law_raised
  have b__law_raised := F__law_raised.binds (ps := ["way", "one", "other"]) fun _ _ _ _ _ _ us hl => match us, hl with | [_, _, _], _ => rfl
  have F__law_fields := fun_mk (st := s__law_fields) l__law_fields co__law_fields k__law_fields
  have b__law_fields := F__law_fields.binds (ps := ["way", "error"]) fun _ _ _ _ _ _ us hl => match us, hl with | [_, _], _ => rfl
  have F_law := fun_mk (st := s_law) l_law co_law k_law
  have T : Txt P K mg (⟨a__law_pen, a__law_draw, a__law_pick, a__law_any, a__law_raised, a__law_fields, a_law, (PySem.W.fnOf "_law_pen" "_law_pen" (defArgs s__law_pen) (defBody s__law_pen) (defScope s__law_pen) .none kV__law_pen dc__law_pen pm__law_pen an__law_pen cd__law_pen ct__law_pen), (PySem.W.fnOf "_law_draw" "_law_draw" (defArgs s__law_draw) (defBody s__law_draw) (defScope s__law_draw) .none kV__law_draw dc__law_draw pm__law_draw an__law_draw cd__law_draw ct__law_draw), (PySem.W.fnOf "_law_pick" "_law_pick" (defArgs s__law_pick) (defBody s__law_pick) (defScope s__law_pick) .none kV__law_pick dc__law_pick pm__law_pick an__law_pick cd__law_pick ct__law_pick), (PySem.W.fnOf "_law_any" "_law_any" (defArgs s__law_any) (defBody s__law_any) (defScope s__law_any) .none kV__law_any dc__law_any pm__law_any an__law_any cd__law_any ct__law_any), (PySem.W.fnOf "_law_raised" "_law_raised" (defArgs s__law_raised) (defBody s__law_raised) (defScope s__law_raised) .none kV__law_raised dc__law_raised pm__law_raised an__law_raised cd__law_raised ct__law_raised), (PySem.W.fnOf "_law_fields" "_law_fields" (defArgs s__law_fields) (defBody s__law_fields) (defScope s__law_fields) .none kV__law_fields dc__law_fields pm__law_fields an__law_fields cd__law_fields ct__law_fields), (PySem.W.fnOf "law" "law" (defArgs s_law) (defBody s_law) (defScope s_law) .none kV_law dc_law pm_law an_law cd_law ct_law), cB, c_BadValue, i_BadValue, cc_BadValue, cd_BadValue, c_BadNumber, i_BadNumber, cc_BadNumber, cd_BadNumber, c_BadMenu, i_BadMenu, cc_BadMenu, cd_BadMenu, c_BadText, i_BadText, cc_BadText, cd_BadText, c_BadLine, i_BadLine, cc_BadLine, cd_BadLine, c_NoName, i_NoName, cc_NoName, cd_NoName, c_Misfit, i_Misfit, cc_Misfit, cd_Misfit, c_Nothing, i_Nothing, cc_Nothing, cd_Nothing, c_TooMany, i_TooMany, cc_TooMany, cd_TooMany, f_BadValue, f_BadNumber, f_BadMenu, f_BadText, f_BadLine, f_NoName, f_Misfit, f_Nothing, f_TooMany⟩ : Adr) := ⟨F__law_pen, b__law_pen, PySem.W.mg_of X G na__law_pen, F__law_draw, b__law_draw, PySem.W.mg_of X G na__law_draw, F__law_pick, b__law_pick, PySem.W.mg_of X G na__law_pick, F__law_any, b__law_any, PySem.W.mg_of X G na__law_any, F__law_raised, b__law_raised, PySem.W.mg_of X G na__law_raised, F__law_fields, b__law_fields, PySem.W.mg_of X G na__law_fields, F_law, PySem.W.mg_of X G nB, e_BadValue, kb_BadValue, e_BadNumber, kb_BadNumber, e_BadMenu, kb_BadMenu, e_BadText, kb_BadText, e_BadLine, kb_BadLine, e_NoName, kb_NoName, e_Misfit, kb_Misfit, e_Nothing, kb_Nothing, e_TooMany, kb_TooMany, PySem.W.mg_none_of X G z_list, PySem.W.mg_none_of X G z_int, PySem.W.mg_none_of X G z_len, PySem.W.mg_none_of X G z_abs, PySem.W.mg_none_of X G z_isinstance, PySem.W.mg_none_of X G z_repr, PySem.W.mg_none_of X G z_range, PySem.W.mg_none_of X G z_ValueError, kit_of kit, kiv_of kiv⟩
  cases e
  exact ⟨_, fun s v => .of_eq rfl, fun base _ _ => ok_law T⟩
theorem walk {l : PySem.W.OpenLaw} {q : Program} {loose : List Str} {XP : (Str → Option Value) → Heap → Prop} {YP : World → Heap → Prop} {d : DefRec} {K : Params → PySem.W.Frag} (hn : l.most = some 63) (hdf : d.params.defaults = [])
    (hY : ∀ (w : World) (h : Heap), YP w h → (K w.params).In h)
    (F : ∀ (w : World) (mg : Str → Option Value) (fa : Addr) (h : Heap), (K w.params).In h → h.Ns mainGlobals mg → mg d.name = some (.ref fa) →
      ∃ fd : FuncData, (∀ (s : Shared) (u : Value), BindsTo s fd ⟨[u], []⟩ [("script", u)]) ∧ ∀ base : Heap, (K w.params).In base → base.Ns mainGlobals mg → FnG l.prog w (K w.params) mg base CX0 5 fa fd ["script"] (spLaw (K w.params))) :
    PySem.W.WalkO q loose XP YP l.row.toRowW d [] (fun f vs => PySem.call f vs) :=
  walk_ofG (n := 63) (k := 5) (x := "script") (CX := fun _ => CX0) (sp := fun w => spLaw (K w.params)) hn (by decide) hdf ⟨rfl, by decide, by decide⟩ hY F (fun _ _ a ns hl _ hS => ⟨a, ns, rfl, hS, hl, fun _ => rfl⟩) fun _ _ _ _ _ z => z
end K00
open PySem PySem.W PyProof.Rows BL in
set_option maxRecDepth 100000 in
set_option maxHeartbeats 0 in
theorem PySem.Challenge.cw_blocklots_k00_errors_keep_what_they_are_holds : PySem.Challenge.rw_blocklots_k00_errors_keep_what_they_are.Holds := by
  w_on; o_law; k_head; (case hw => w_witness2)
  k_fill
  refine K00.walk (l := PySem.Challenge.rw_blocklots_k00_errors_keep_what_they_are) rfl rfl (fun w h Y => PySem.W.kIn_of Y) ?F
  case F =>
    intro w mg fa h KX G hmg
    refine' K00.all_mk KX G hmg ?na__law_pen ?l__law_pen ?co__law_pen ?k__law_pen ?na__law_draw ?l__law_draw ?co__law_draw ?k__law_draw ?na__law_pick ?l__law_pick ?co__law_pick ?k__law_pick ?na__law_any ?l__law_any ?co__law_any ?k__law_any ?na__law_raised ?l__law_raised ?co__law_raised ?k__law_raised ?na__law_fields ?l__law_fields ?co__law_fields ?k__law_fields ?na_law ?l_law ?co_law ?k_law ?nB ?e_BadValue ?kb_BadValue ?e_BadNumber ?kb_BadNumber ?e_BadMenu ?kb_BadMenu ?e_BadText ?kb_BadText ?e_BadLine ?kb_BadLine ?e_NoName ?kb_NoName ?e_Misfit ?kb_Misfit ?e_Nothing ?kb_Nothing ?e_TooMany ?kb_TooMany ?z_list ?z_int ?z_len ?z_abs ?z_isinstance ?z_repr ?z_range ?z_ValueError ?kit ?kiv
    (case na__law_pen => k_is)
    (case l__law_pen => k_is)
    (case co__law_pen => k_is)
    (case k__law_pen => k_is)
    (case na__law_draw => k_is)
    (case l__law_draw => k_is)
    (case co__law_draw => k_is)
    (case k__law_draw => k_is)
    (case na__law_pick => k_is)
    (case l__law_pick => k_is)
    (case co__law_pick => k_is)
    (case k__law_pick => k_is)
    (case na__law_any => k_is)
    (case l__law_any => k_is)
    (case co__law_any => k_is)
    (case k__law_any => k_is)
    (case na__law_raised => k_is)
    (case l__law_raised => k_is)
    (case co__law_raised => k_is)
    (case k__law_raised => k_is)
    (case na__law_fields => k_is)
    (case l__law_fields => k_is)
    (case co__law_fields => k_is)
    (case k__law_fields => k_is)
    (case na_law => k_is)
    (case l_law => k_is)
    (case co_law => k_is)
    (case k_law => k_is)
    (case nB => k_is)
    (case e_BadValue => (refine' errC_mk KX G ?aC ?xL ?hbm ?sa ?exC ?tyC ?kC ?iC ?tI ?lk ?cd ?cell ?code ?fl ?pf ?sup ?opq ?hm ?hB ?top ?ga ?gg ?hdC ?ha ?hn ?ht ?hmr ?b ?low ?no; (case aC => k_is); (case xL => k_is); (case hbm => decide +kernel); (case sa => k_is); (case exC => k_is); (case tyC => k_is); (case kC => k_is); (case iC => k_is); (case tI => k_is); (case lk => k_is); (case cd => k_is); (case cell => k_is); (case code => k_is); (case fl => rfl); (case pf => decide +kernel); (case sup => k_is); (case opq => k_is); (case hm => ks_is); (case hB => k_is); (case top => rfl); (case ga => k_is); (case gg => k_is); (case hdC => k_is); (case ha => k_is); (case hn => k_is); (case ht => k_is); (case hmr => k_is); (case b => exact fun _ _ _ _ _ _ _ us hl => match us, hl with | [_, _], _ => rfl); (case low => first | k_is | kernel_rfl); (case no => exact no_of (by kernel_rfl))))
    (case kb_BadValue => exact kb_1 fun _ _ => rfl)
    (case e_BadNumber => (refine' errC_mk KX G ?aC ?xL ?hbm ?sa ?exC ?tyC ?kC ?iC ?tI ?lk ?cd ?cell ?code ?fl ?pf ?sup ?opq ?hm ?hB ?top ?ga ?gg ?hdC ?ha ?hn ?ht ?hmr ?b ?low ?no; (case aC => k_is); (case xL => k_is); (case hbm => decide +kernel); (case sa => k_is); (case exC => k_is); (case tyC => k_is); (case kC => k_is); (case iC => k_is); (case tI => k_is); (case lk => k_is); (case cd => k_is); (case cell => k_is); (case code => k_is); (case fl => rfl); (case pf => decide +kernel); (case sup => k_is); (case opq => k_is); (case hm => ks_is); (case hB => k_is); (case top => rfl); (case ga => k_is); (case gg => k_is); (case hdC => k_is); (case ha => k_is); (case hn => k_is); (case ht => k_is); (case hmr => k_is); (case b => exact fun _ _ _ _ _ _ _ us hl => match us, hl with | [_, _], _ => rfl); (case low => first | k_is | kernel_rfl); (case no => exact no_of (by kernel_rfl))))
    (case kb_BadNumber => exact kb_1 fun _ _ => rfl)
    (case e_BadMenu => (refine' errC_mk KX G ?aC ?xL ?hbm ?sa ?exC ?tyC ?kC ?iC ?tI ?lk ?cd ?cell ?code ?fl ?pf ?sup ?opq ?hm ?hB ?top ?ga ?gg ?hdC ?ha ?hn ?ht ?hmr ?b ?low ?no; (case aC => k_is); (case xL => k_is); (case hbm => decide +kernel); (case sa => k_is); (case exC => k_is); (case tyC => k_is); (case kC => k_is); (case iC => k_is); (case tI => k_is); (case lk => k_is); (case cd => k_is); (case cell => k_is); (case code => k_is); (case fl => rfl); (case pf => decide +kernel); (case sup => k_is); (case opq => k_is); (case hm => ks_is); (case hB => k_is); (case top => rfl); (case ga => k_is); (case gg => k_is); (case hdC => k_is); (case ha => k_is); (case hn => k_is); (case ht => k_is); (case hmr => k_is); (case b => exact fun _ _ _ _ _ _ _ us hl => match us, hl with | [_, _], _ => rfl); (case low => first | k_is | kernel_rfl); (case no => exact no_of (by kernel_rfl))))
    (case kb_BadMenu => exact kb_1 fun _ _ => rfl)
    (case e_BadText => (refine' errC_mk KX G ?aC ?xL ?hbm ?sa ?exC ?tyC ?kC ?iC ?tI ?lk ?cd ?cell ?code ?fl ?pf ?sup ?opq ?hm ?hB ?top ?ga ?gg ?hdC ?ha ?hn ?ht ?hmr ?b ?low ?no; (case aC => k_is); (case xL => k_is); (case hbm => decide +kernel); (case sa => k_is); (case exC => k_is); (case tyC => k_is); (case kC => k_is); (case iC => k_is); (case tI => k_is); (case lk => k_is); (case cd => k_is); (case cell => k_is); (case code => k_is); (case fl => rfl); (case pf => decide +kernel); (case sup => k_is); (case opq => k_is); (case hm => ks_is); (case hB => k_is); (case top => rfl); (case ga => k_is); (case gg => k_is); (case hdC => k_is); (case ha => k_is); (case hn => k_is); (case ht => k_is); (case hmr => k_is); (case b => exact fun _ _ _ _ _ _ _ us hl => match us, hl with | [_, _, _], _ => rfl); (case low => first | k_is | kernel_rfl); (case no => exact no_of (by kernel_rfl))))
    (case kb_BadText => exact kb_2 fun _ _ _ => rfl)
    (case e_BadLine => (refine' errC_mk KX G ?aC ?xL ?hbm ?sa ?exC ?tyC ?kC ?iC ?tI ?lk ?cd ?cell ?code ?fl ?pf ?sup ?opq ?hm ?hB ?top ?ga ?gg ?hdC ?ha ?hn ?ht ?hmr ?b ?low ?no; (case aC => k_is); (case xL => k_is); (case hbm => decide +kernel); (case sa => k_is); (case exC => k_is); (case tyC => k_is); (case kC => k_is); (case iC => k_is); (case tI => k_is); (case lk => k_is); (case cd => k_is); (case cell => k_is); (case code => k_is); (case fl => rfl); (case pf => decide +kernel); (case sup => k_is); (case opq => k_is); (case hm => ks_is); (case hB => k_is); (case top => rfl); (case ga => k_is); (case gg => k_is); (case hdC => k_is); (case ha => k_is); (case hn => k_is); (case ht => k_is); (case hmr => k_is); (case b => exact fun _ _ _ _ _ _ _ us hl => match us, hl with | [_, _], _ => rfl); (case low => first | k_is | kernel_rfl); (case no => exact no_of (by kernel_rfl))))
    (case kb_BadLine => exact kb_1 fun _ _ => rfl)
    (case e_NoName => (refine' errC_mk KX G ?aC ?xL ?hbm ?sa ?exC ?tyC ?kC ?iC ?tI ?lk ?cd ?cell ?code ?fl ?pf ?sup ?opq ?hm ?hB ?top ?ga ?gg ?hdC ?ha ?hn ?ht ?hmr ?b ?low ?no; (case aC => k_is); (case xL => k_is); (case hbm => decide +kernel); (case sa => k_is); (case exC => k_is); (case tyC => k_is); (case kC => k_is); (case iC => k_is); (case tI => k_is); (case lk => k_is); (case cd => k_is); (case cell => k_is); (case code => k_is); (case fl => rfl); (case pf => decide +kernel); (case sup => k_is); (case opq => k_is); (case hm => ks_is); (case hB => k_is); (case top => rfl); (case ga => k_is); (case gg => k_is); (case hdC => k_is); (case ha => k_is); (case hn => k_is); (case ht => k_is); (case hmr => k_is); (case b => exact fun _ _ _ _ _ _ _ us hl => match us, hl with | [_, _], _ => rfl); (case low => first | k_is | kernel_rfl); (case no => exact no_of (by kernel_rfl))))
    (case kb_NoName => exact kb_1 fun _ _ => rfl)
    (case e_Misfit => (refine' errC_mk KX G ?aC ?xL ?hbm ?sa ?exC ?tyC ?kC ?iC ?tI ?lk ?cd ?cell ?code ?fl ?pf ?sup ?opq ?hm ?hB ?top ?ga ?gg ?hdC ?ha ?hn ?ht ?hmr ?b ?low ?no; (case aC => k_is); (case xL => k_is); (case hbm => decide +kernel); (case sa => k_is); (case exC => k_is); (case tyC => k_is); (case kC => k_is); (case iC => k_is); (case tI => k_is); (case lk => k_is); (case cd => k_is); (case cell => k_is); (case code => k_is); (case fl => rfl); (case pf => decide +kernel); (case sup => k_is); (case opq => k_is); (case hm => ks_is); (case hB => k_is); (case top => rfl); (case ga => k_is); (case gg => k_is); (case hdC => k_is); (case ha => k_is); (case hn => k_is); (case ht => k_is); (case hmr => k_is); (case b => exact fun _ _ _ _ _ _ _ us hl => match us, hl with | [_, _], _ => rfl); (case low => first | k_is | kernel_rfl); (case no => exact no_of (by kernel_rfl))))
    (case kb_Misfit => exact kb_1 fun _ _ => rfl)
    (case e_Nothing => (refine' errC_mk KX G ?aC ?xL ?hbm ?sa ?exC ?tyC ?kC ?iC ?tI ?lk ?cd ?cell ?code ?fl ?pf ?sup ?opq ?hm ?hB ?top ?ga ?gg ?hdC ?ha ?hn ?ht ?hmr ?b ?low ?no; (case aC => k_is); (case xL => k_is); (case hbm => decide +kernel); (case sa => k_is); (case exC => k_is); (case tyC => k_is); (case kC => k_is); (case iC => k_is); (case tI => k_is); (case lk => k_is); (case cd => k_is); (case cell => k_is); (case code => k_is); (case fl => rfl); (case pf => decide +kernel); (case sup => k_is); (case opq => k_is); (case hm => ks_is); (case hB => k_is); (case top => rfl); (case ga => k_is); (case gg => k_is); (case hdC => k_is); (case ha => k_is); (case hn => k_is); (case ht => k_is); (case hmr => k_is); (case b => exact fun _ _ _ _ _ _ _ us hl => match us, hl with | [_, _], _ => rfl); (case low => first | k_is | kernel_rfl); (case no => exact no_of (by kernel_rfl))))
    (case kb_Nothing => exact kb_1 fun _ _ => rfl)
    (case e_TooMany => (refine' errC_mk KX G ?aC ?xL ?hbm ?sa ?exC ?tyC ?kC ?iC ?tI ?lk ?cd ?cell ?code ?fl ?pf ?sup ?opq ?hm ?hB ?top ?ga ?gg ?hdC ?ha ?hn ?ht ?hmr ?b ?low ?no; (case aC => k_is); (case xL => k_is); (case hbm => decide +kernel); (case sa => k_is); (case exC => k_is); (case tyC => k_is); (case kC => k_is); (case iC => k_is); (case tI => k_is); (case lk => k_is); (case cd => k_is); (case cell => k_is); (case code => k_is); (case fl => rfl); (case pf => decide +kernel); (case sup => k_is); (case opq => k_is); (case hm => ks_is); (case hB => k_is); (case top => rfl); (case ga => k_is); (case gg => k_is); (case hdC => k_is); (case ha => k_is); (case hn => k_is); (case ht => k_is); (case hmr => k_is); (case b => exact fun _ _ _ _ _ _ _ us hl => match us, hl with | [_, _, _], _ => rfl); (case low => first | k_is | kernel_rfl); (case no => exact no_of (by kernel_rfl))))
    (case kb_TooMany => exact kb_2 fun _ _ _ => rfl)
    (case z_list => k_is)
    (case z_int => k_is)
    (case z_len => k_is)
    (case z_abs => k_is)
    (case z_isinstance => k_is)
    (case z_repr => k_is)
    (case z_range => k_is)
    (case z_ValueError => k_is)
    (case kit => kernel_rfl)
    (case kiv => kernel_rfl)
