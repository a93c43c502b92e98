import PyProof.Rows.All
import Wide.All
import OpenK.AllK
import Wide.FinOn
import PyProof.EqAt
import PyProof.EqKinds
import PyProof.TupleCall
import HandS.Base
import HandS.Call
import HandS.List
import HandS.Ends
import HandS.Words
import HandS.RaiseMore
import KE.KExcSuper
import HandS.ForExc
import HandS.ExcInit
import HandS.FStr
import KE.KExcIs
import HandS.ForMost
import HandS.IsInst
import HandS.ExcField
import HandS.Style
import PyProof.ReprLen
import PyProof.P3Eq
import PySem.Challenge.RW_causewrit_k85_things_there_and_back
set_option Elab.async false
set_option linter.all false
set_option maxRecDepth 100000
set_option maxHeartbeats 4000000

namespace CW
open PySem PySem.Spec PyProof.Rows L2

/-- a promise of a def that holds where no guarded built-in runs around it -/
structure OkG (P : Program) (w : World) (K : PySem.W.Frag) (mg : Str → Option Value) (base : Heap) (CX : CXT)
    (k : Nat) (f : Addr) (fd : FuncData) (ps : List Str) (sp : Sp) : Prop where
  arity : ∀ vs H Q E, sp vs H Q E → vs.length = ps.length
  go : ∀ (A : Around) (outer : List Env) (s : Shared) (H : Hp) (args : Args) (us : List Value) (vs : List V) (Q : VK) (E : XK),
    A.guards = some [] → Room k A → Env0 P w K mg base A outer s H → BindsTo s fd args (ps.zip us) → Vals vs us → sp vs H Q E →
    codeAny (model P w) A (.call (.ref f) args) (CR CX outer P w H s Q E) s

section
variable {P : Program} {w : World} {K : PySem.W.Frag} {mg : Str → Option Value} {base : Heap}
theorem OkG.of {CX : CXT} {k : Nat} {f : Addr} {fd : FuncData} {ps : List Str} {sp : Sp}
    (F : FnOk P w K mg base CX k f fd ps sp) : OkG P w K mg base CX k f fd ps sp :=
  ⟨F.len, fun A o s H a us vs Q E _ hr => F.run A o s H a us vs Q E hr⟩

theorem guards_deeper (A : Around) (env : Env) (h : A.guards = some []) : (A.deeper env).guards = some [] := h

/-- a def of the text, by its body, where the guards are known -/
theorem okG_of {CX : CXT} {x qual : Str} {st : Stmt} {f : Addr} {fd : FuncData} {N ps : List Str} {k : Nat} {sp : Sp}
    (F : Fun K x qual st f fd) (S : FnScope N ps (defScope st)) (arity : ∀ vs H Q E, sp vs H Q E → vs.length = ps.length)
    (hbody : ∀ (cdv : Value) (A : Around) (outer : List Env) (s : Shared) (H : Hp) (vs : List V) (Q : VK) (E : XK),
      (A.deeper (envOfC qual (defScope st) s.heap.objs.size f cdv)).guards = some [] →
      Room k (A.deeper (envOfC qual (defScope st) s.heap.objs.size f cdv)) → sp vs H Q E →
      ∃ t, PSs (cxOf CX P w K mg base N qual (defScope st) f cdv A outer s H E) (defBody st) t ∧
        t { nx := fun _ H' => Q .non H', rt := Q } (start N vs) H) :
    OkG P w K mg base CX (k + 1) f fd ps sp := by
  obtain ⟨oc, od, kV, doc, pm, an, cdv, ct, osl, rfl, lk, hcd⟩ := F.ex
  refine ⟨arity, fun A outer s H args us vs Q E hgu hr e0 hb r hsp => ?_⟩
  have hl := arity _ _ _ _ hsp
  have KX : K.In s.heap := e0.mod.kin.keeps fun b o e => (e0.bs b o e).1
  have lim : s.heap.NoLimit := e0.mod.nolimit.keeps fun b o e => (e0.bs b o e).1
  refine codeAny_call_function hr.depth (KX _ _ lk) rfl S.co S.gen rfl (PySem.W.codeRec_of KX hcd) (hb _ _ _ _ ?_)
  refine wpAny_newFunctionEnv_cells S.kind (fun y hy => ?_) fun env he s1 x1 => ?_
  · have hp := S.par y.1 (List.of_mem_zip (b := y.2) hy).1
    cases hp with
    | inl q => exact .inl q
    | inr q => exact .inr ⟨q, PySem.W.cellsFrom_some _ _ _ (.inl q)⟩
  · subst he
    refine ⟨lim.keeps x1.toInCall.keep, codeAny_func ?_⟩
    obtain ⟨t, ht, hq⟩ := hbody cdv A outer s H vs Q E hgu (hr.deeper _) hsp
    have I := inv_start (CX := CX) (E := E) S hr.hd e0 hl r x1
    refine wpAny_mono (ht.run [] s1 (start N vs) H _ I hq) (fun fl s' hs => ?_) fun e s' hs => hs
    cases fl with
    | ret u =>
      obtain ⟨v, _, H', J, rv, q⟩ := hs
      exact ⟨v, H', J.os, J.bare, J.base, J.hok, rv, q⟩
    | next =>
      obtain ⟨_, H', J, q⟩ := hs
      exact ⟨V.non, H', J.os, J.bare, J.base, J.hok, rfl, q⟩
    | brk =>
      obtain ⟨_, _, _, q⟩ := hs
      exact False.elim q
    | cont =>
      obtain ⟨_, _, _, q⟩ := hs
      exact False.elim q
end

section
variable {X : Cx} {CX : CXT} {k : Nat} {f : Addr} {fd : FuncData} {ps : List Str} {sp : Sp} {E : XK} {x : Str} {p pos : Pos} {e : Expr} {es : List Expr} {t : TA}
theorem run_G {pins : List (Addr × Obj)} {σ : L2.St} {H : Hp} {s : Shared} {Q : VK} {us : List Value} {vs : List V}
    (F : OkG X.prog X.w X.K X.mg X.base CX k f fd ps sp) (hgu : X.A.guards = some []) (hr : Room k X.A)
    (hb : Binds X.K fd ps []) (hx : Passes CX X E) (I : Inv X pins σ H s) (r : Vals vs us) (h : sp vs H Q E) :
    wpAny (model X.prog X.w) X.A (call (.ref f) us) (EP X pins σ Q) X.xe s := by
  have hl : (us ++ []).length = ps.length := by
    rw [List.append_nil, ← r.length]
    exact F.arity _ _ _ _ h
  have b0 := hb s us I.kIn hl
  rw [List.append_nil] at b0
  refine wpAny_call (codeAny_mono (F.go X.A X.stack s H ⟨us, []⟩ us vs Q E hgu hr I.env0 b0 r h) fun r s' hq => ?_)
  cases r with
  | error e => exact hx pins σ H s e s' I hq
  | ok fl =>
    cases fl with
    | ret u => exact I.after hq
    | next => exact False.elim hq
    | brk => exact False.elim hq
    | cont => exact False.elim hq
/-- a call of such a def by its name -/
theorem pe_callG (F : OkG X.prog X.w X.K X.mg X.base CX k f fd ps sp) (hgu : X.A.guards = some []) (hr : Room k X.A)
    (hg : Gl X x) (hm : X.mg x = some (.ref f)) (hk : PySem.W.keepIn X.K (.ref f) = true) (hb : Binds X.K fd ps []) (hx : Passes CX X E)
    (ha : PA X (e :: es) t) (hdb : (x == ("__debug__" : Str)) = false := by decide)
    (he : starEach (e :: es) X.env = (false, eval e X.env) :: starEach es X.env := by rfl)
    (hpl : (backTo pos (starEach es X.env)).any (·.1) = false := by rfl) :
    PE X (.Call (.Name x p) (e :: es) [] pos) (tCall sp [] E t) := by
  refine ⟨fun pins s σ H Q I h => ?_⟩
  refine wpAny_Call_Name_kw (ld_glob I hg hm ?_ hdb)
  refine PySem.W.callWith_K (h₀ := X.base) I.ok.mod.kin hk (thn (ha.run pos pins s σ H _ I h) fun us s1 h1 => ?_) he hpl
  obtain ⟨vs, H1, I1, r, q⟩ := h1
  rw [List.append_nil] at q
  exact ⟨I1.kIn, run_G F hgu hr hb hx I1 r q⟩

/-- repr of data -/
def rRepr (K : PySem.W.Frag) : List V → Hp → VK → Prop := fun xs H Q => ∃ (v : V) (d : PyData), xs = [v] ∧ Dp K H v d ∧
  d.showable = true ∧ d.hasDict = false ∧ d.depth ≤ 60 ∧ d.shown.length ≤ sizeLine ∧ Q (.str d.shown) H
theorem call_repr (hgu : X.A.guards = some []) (hu : X.A.units + 64 < cLine) : CallR X (.builtin "repr") (rRepr X.K) := by
  intro pins s σ H xs us Q I r h
  obtain ⟨v, d, rfl, hd, hs, hn, hde, hsz, q⟩ := h
  obtain ⟨u, rfl, r1⟩ := vals1 r
  obtain ⟨as, hr⟩ := Dp.reads I d v _ hd r1
  have whole : ∀ b : Addr, u = .ref b → wpAny (model X.prog X.w) X.A (call (.builtin "repr") [u]) (EP X pins σ Q) X.xe s := fun b e => by
    subst e
    exact repr_of_reads' hr hs (fun z => by rw [hn] at z; cases z) hgu (by omega) (fun _ _ e => e) (fun h' u tk hk => ⟨.str d.shown, H, I.kept (h' := h') (t' := tk) hk, ⟨_, rfl⟩, q⟩) hsz
  cases hd with
  | non =>
    cases (show u = Value.none from r1)
    rw [PyData.shown] at q
    exact PySem.P.repr_of_none ⟨.str _, H, I.tok _, ⟨_, rfl⟩, q⟩
  | bl b =>
    cases (show u = Value.bool b from r1)
    rw [PyData.shown] at q
    exact PySem.P.repr_of_bool ⟨.str _, H, I.tok _, ⟨_, rfl⟩, q⟩
  | int i =>
    obtain ⟨t, e⟩ := (show ∃ t, u = Value.int i t from r1)
    subst e
    rw [PyData.shown] at q
    rw [PyData.showable, decide_eq_true_eq] at hs
    exact PySem.P.repr_of_int hs ⟨.str _, H, I.tok _, ⟨_, rfl⟩, q⟩
  | str x =>
    obtain ⟨t, e⟩ := (show ∃ t, u = Value.str x t from r1)
    subst e
    rw [PyData.shown] at q hsz
    exact PySem.P.repr_of_str (hsz := hsz) ⟨.str _, H, I.tok _, ⟨_, rfl⟩, q⟩
  | lst => exact whole _ r1
  | tup => exact whole _ r1
end
end CW

namespace CW
open PySem PySem.Spec PyProof.Rows L2 PySem.W
open PySem.HandSPX (refsVE refsVE_contains)

/-- what the written part says of an own error's class at C, whose __init__ (at fI, its class cell at cc, its code at cda) calls super().__init__ first -/
structure FaultC (P : Program) (K : Frag) (mg : Str → Option Value) (C fI cc cda : Addr) : Prop where
  oex : OexC K C
  code : ∃ (ccl : Value) (cdd : Option Addr) (vs : Array Value) (ccs : Array (Option Value)) (file : Str) (tf : Tok),
    K.lookup cda = some ⟨ccl, cdd, .fields vs, ccs⟩ ∧ vs[2]? = some (.str file tf) ∧ ((P.main.file : Str) == file) = true
  cell : ∃ (cl : Value) (cld : Option Addr) (csl : Array (Option Value)), K.lookup cc = some ⟨cl, cld, .cell (some (.ref C)), csl⟩
  sub : mroIn K C (.ref C) = some true
  sup : ks_superIn K C C "__init__" = some (some (.builtin "ValueError.__init__"))
  subVE : subIn K (.ref C) (.type "ValueError") = some true
  opq : nsIn K cStatics "thirdparty.any" = some none
  mgS : mg "super" = none
  top : (P.main.scope.names.lookup ("super" : Str)).isSome = false

/-- its __init__ stands at fI as fd, with the text st -/
def FaultInit (P : Program) (K : Frag) (mg : Str → Option Value) (C fI : Addr) (fd : FuncData) (qual : Str) (st : Stmt) : Prop :=
  ∃ (cc cda : Addr) (oc : Value) (od : Option Addr) (kV doc pm ct : Value) (an : Option Addr) (osl : Array (Option Value)), FaultC P K mg C fI cc cda ∧
    fd = ksFn "__init__" qual (defArgs st) (defBody st) (defScope st) .none kV doc pm an (.ref cda) ct cc ∧ K.lookup fI = some ⟨oc, od, .func fd, osl⟩ ∧ codeIn K (.ref cda) qual = true

/-- the context of such an __init__'s body -/
def cxS (CX : CXT) (P : Program) (w : World) (K : Frag) (mg : Str → Option Value) (base : Heap) (N : List Str) (qual : Str) (scope : Scope) (f : Addr) (cda cc : Addr)
    (A : Around) (outer : List Env) (s : Shared) (H : Hp) (E : XK) : Cx where
  prog := P
  w := w
  K := K
  mg := mg
  base := base
  A := A.deeper (ksEnv qual scope s.heap.objs.size f (.ref cda) cc)
  N := N
  s_0 := s
  H_0 := H
  env := ksEnv qual scope s.heap.objs.size f (.ref cda) cc
  outer := outer
  stack := ksEnv qual scope s.heap.objs.size f (.ref cda) cc :: outer
  ex := []
  calm := true
  fn := fun _ => false
  pn := []
  xe := fun _ _ => False

/-- the scope of such a def: its parameters are plain locals, the class is its only captured name -/
structure SuScope (ps : List Str) (sc : Scope) : Prop where
  kind : sc.kind = .function
  co : sc.isCoroutine = false
  gen : sc.isGenerator = false
  nd : ps.Nodup
  par : ∀ x ∈ ps, sc.names.lookup x = some .local
  nocell : ∀ y ∈ sc.names, y.2 ≠ .cell
  free : ∀ x, sc.names.lookup x = some .free → x = "__class__"
  sup : sc.names.lookup ("super" : Str) = some .globalImplicit
  cls : sc.names.lookup ("__class__" : Str) = some .free

theorem zip_rev_lookup : ∀ {ps : List Str} {us : List Value} {i : Nat} {x : Str} {u : Value}, ps.Nodup → ps[i]? = some x → us[i]? = some u →
    (ps.zip us).reverse.lookup x = some u := by
  intro ps
  induction ps with
  | nil =>
    intro us i x u _ h
    simp at h
  | cons p ps ih =>
    intro us i x u nd h1 h2
    cases us with
    | nil => simp at h2
    | cons v us =>
      have nd2 := List.nodup_cons.mp nd
      rw [List.zip_cons_cons, List.reverse_cons, List.lookup_append]
      cases i with
      | zero =>
        simp at h1 h2
        subst h1; subst h2
        have none_ : (ps.zip us).reverse.lookup p = none := by
          rw [List.lookup_eq_none_iff]
          intro q hq
          have hq' := List.of_mem_zip (a := q.1) (b := q.2) (by simpa using hq)
          simp
          intro e
          exact nd2.1 (e ▸ hq'.1)
        rw [none_]
        simp [List.lookup]
      | succ i =>
        have := ih (us := us) (i := i) (x := x) (u := u) nd2.2 (by simpa using h1) (by simpa using h2)
        rw [this]
        rfl

section
variable {P : Program} {w : World} {K : Frag} {mg : Str → Option Value} {base : Heap} {C fI cc cda : Addr}

theorem inv_su {CX : CXT} {ps : List Str} {qual : Str} {scope : Scope} {A : Around} {outer : List Env} {s : Shared} {H : Hp} {E : XK} {us : List Value} {vs : List V} {h0 : Heap} {tk : Nat}
    (T : FaultC P K mg C fI cc cda) (S : SuScope ps scope) (hd : A.handled = none) (e0 : Env0 P w K mg base A outer s H) (hl : vs.length = ps.length) (r : Vals vs us)
    (hns : h0.Ns s.heap.objs.size (fun x => (ps.zip us).reverse.lookup x)) (hk : ∀ b o, s.heap.get? b = some o → h0.get? b = some o) :
    Inv (cxS CX P w K mg base ps qual scope fI cda cc A outer s H E) [] (vs.map some) H { s with heap := h0, toks := tk } := by
  have noA : ∀ b : Addr, b ∉ (cxS CX P w K mg base ps qual scope fI cda cc A outer s H E).ex := fun b z => absurd (show b ∈ ([] : List Addr) from z) (by simp)
  obtain ⟨cl, cld, csl, hcell⟩ := T.cell
  have hcb := e0.mod.kin cc _ hcell
  have one : ∀ {x : Str} {c : Addr}, (cxS CX P w K mg base ps qual scope fI cda cc A outer s H E).env.cells.lookup x = some c → x = "__class__" ∧ c = cc := fun {x c} h => by
    have h' : List.lookup x [(("__class__" : Str), cc)] = some c := h
    by_cases hx : x = "__class__"
    · subst hx
      simp [List.lookup] at h'
      exact ⟨rfl, h'.symm⟩
    · have : (x == ("__class__" : Str)) = false := by simpa using hx
      simp [List.lookup, this] at h'
  refine ⟨⟨e0.mod, S.kind, rfl, rfl, Nat.le_refl _, fun y z c h1 h2 => ?_, fun y hy => ?_, fun y c hf _ => ?_, fun _ => hd, Around.frames_deeper e0.frames, .inr ⟨rfl, rfl⟩,
    fun b z => absurd z (noA b), e0.bs, e0.bsz, fun b _ _ => noA b, fun b z => absurd z (noA b), e0.funs, e0.frf⟩,
    rfl, e0.bare, Un.kept hk, ⟨_, hns, fun i y v h1 h2 h3 => ?_⟩, fun y c h => ?_, e0.hok.fresh (Nat.le_refl _), fun y c h => ?_,
    fun p hp => absurd (show p ∈ ([] : List (Addr × Obj)) from hp) (by simp), e0.hok.kept hk, ?_⟩
  · rw [(one h1).1, (one h2).1]
  · have hy : scope.names.lookup y = some .cell ∨ scope.names.lookup y = some .free := hy
    rcases hy with hy | hy
    · exact absurd rfl (S.nocell _ (PySem.mem_of_lookup hy))
    · rw [S.free y hy]
      exact ⟨cc, by show List.lookup ("__class__" : Str) [(("__class__" : Str), cc)] = some cc; simp [List.lookup]⟩
  · exact Bool.noConfusion hf
  · have h2' : vs[i]? = some v := by
      rw [List.getElem?_map] at h2
      cases e : vs[i]? with
      | none => rw [e] at h2; cases h2
      | some a => rw [e] at h2; cases h2; rfl
    obtain ⟨u, hu, rv⟩ := r.get h2'
    exact ⟨u, rv, .inl ⟨S.par y (List.mem_of_getElem? h1), zip_rev_lookup S.nd h1 hu⟩⟩
  · obtain ⟨_, rfl⟩ := one h
    exact ⟨_, _, hk _ _ (e0.bs _ _ hcb).1, rfl⟩
  · obtain ⟨_, rfl⟩ := one h
    exact (e0.bs _ _ hcb).2
  · show (vs.map some).length = ps.length
    rw [List.length_map, hl]

/-- super().__init__ bound to the object: the call of the wrapper lays the args anew -/
theorem call_mw {X : Cx} {pins : List (Addr × Obj)} {σ : L2.St} {H : Hp} {s : Shared} {a u : Addr} {us : List Value} {Q : Value → Shared → Prop}
    (T : OexC X.K C) (I : Inv X pins σ H s) (e : H a = some (exo a C none)) (hu : s.heap.get? u = some (kxs_mw "ValueError.__init__" a)) (hl : us.length ≤ sizeLine)
    (h : ∀ s', Inv X pins σ H s' → Q .none s') : wpAny (model X.prog X.w) X.A (call (.ref u) us) Q X.xe s := by
  obtain ⟨nm, q, N, bs, bm, sn, sub, ab, col, dd, k0, k1, k2, k3, k5, hC, hbm⟩ := T.cls
  obtain ⟨t1, ho⟩ := exo_at I.hok e
  obtain ⟨hp, g, d, t, os⟩ := s
  refine wpAny_call (codeAny_of_tree ?_)
  show wpAny _ X.A.in1 (callAny (.ref u) ⟨us, []⟩) _ _ _
  simp only [callAny]
  refine wpAny_bind (wpAny_load hu ?_)
  simp only [kxs_mw, show (Value.type "method-wrapper" == Value.type "method" || Value.type "method-wrapper" == Value.type "builtin_function_or_method" || Value.type "method-wrapper" == Value.type "method-wrapper") = true by decide, if_true]
  refine KFB.if_so (by decide) ?_
  refine wpAny_bind (check_bound_init F.excBase_ValueError.toExcCallFacts (I.kIn _ _ hC) ho rfl ?_)
  refine wpAny_bind (wpAny_pure (wpAny_pure ?_))
  refine ⟨plainId_quiet F.excBase_ValueError.init.plain _, codeAny_builtin F.excBase_ValueError.initEntry ?_⟩
  refine exc_init_tree (cls := .ref C) (t0 := t1) (dv := none) (c2 := .none) (c3 := .none) (b4 := .bool false) ho hl fun h' k hx _ => ?_
  have J := I.write (t' := t) (x := a) (e := a) (o := exo a C none) (by rw [e]; exact True.intro) (.inl rfl) k ⟨_, hx⟩ (exo_ok hx)
  have eu : upd H a (exo a C none) = H := by
    funext b
    by_cases hb : b = a
    · rw [hb, upd_same, e]
    · rw [upd_ne hb]
  rw [eu] at J
  exact h _ J

/-- __init__ of such a class keeps its promise, by the text of its message and the rest of its body -/
theorem ok_su {name qual : Str} {params : Arguments} {scope : Scope} {kV doc pm ct oc : Value} {an od : Option Addr} {osl : Array (Option Value)} {J : Expr} {rest : List Stmt} {p0 p1 p2 p3 p4 : Pos}
    {ps : List Str} {k : Nat} {sp : Sp} {ar : Arg}
    (T : FaultC P K mg C fI cc cda)
    (lk : K.lookup fI = some ⟨oc, od, .func (ksFn name qual params (.Expr (.Call (.Attribute (.Call (.Name "super" p0) [] [] p1) "__init__" p2) [J] [] p3) p4 :: rest) scope .none kV doc pm an (.ref cda) ct cc), osl⟩)
    (hcd : codeIn K (.ref cda) qual = true) (S : SuScope ps scope) (hpar : (params.posonlyargs ++ params.args).head? = some ar) (har : ps[0]? = some ar.arg)
    (arity : ∀ vs H Q E, sp vs H Q E → vs.length = ps.length)
    (hev : ∀ env : Env, ∃ pl : Sem Bool, eval (.Call (.Attribute (.Call (.Name "super" p0) [] [] p1) "__init__" p2) [J] [] p3) env = (do
      let ov ← attributeBase (.Call (.Name "super" p0) [] [] p1) "__init__" env (eval (.Call (.Name "super" p0) [] [] p1) env)
      standAt p2.atName
      let (f, first) ← holding [ov] (getMethod ov "__init__" pl)
      callWith p3 f first (backTo p3 (starEach [J] env)) []))
    (hsw : ∀ env : Env, swapsWith (.Call (.Attribute (.Call (.Name "super" p0) [] [] p1) "__init__" p2) [J] [] p3) none p4.line env = pure false)
    (hse : ∀ env : Env, starEach [J] env = (false, eval J env) :: starEach [] env)
    (hbody : ∀ (A : Around) (outer : List Env) (s : Shared) (H : Hp) (vs : List V) (Q : VK) (E : XK), Room k (A.deeper (ksEnv qual scope s.heap.objs.size fI (.ref cda) cc)) → sp vs H Q E →
      ∃ (x : Addr) (ws : List V) (tJ : TE) (tR : TS), vs = .ref x :: ws ∧ H x = some (exo x C none) ∧ PE (cxS CX0 P w K mg base ps qual scope fI cda cc A outer s H E) J tJ ∧
        PSs (cxS CX0 P w K mg base ps qual scope fI cda cc A outer s H E) rest tR ∧
        tJ (vs.map some) H fun _ H1 => H1 x = some (exo x C none) ∧ tR { nx := fun _ H' => Q .non H', rt := Q } (vs.map some) H1) :
    FnOk P w K mg base CX0 (k + 1) fI (ksFn name qual params (.Expr (.Call (.Attribute (.Call (.Name "super" p0) [] [] p1) "__init__" p2) [J] [] p3) p4 :: rest) scope .none kV doc pm an (.ref cda) ct cc) ps sp := by
  refine ⟨arity, fun A outer s H args us vs Q E hr e0 hb r hsp => ?_⟩
  have hl := arity _ _ _ _ hsp
  have KX : K.In s.heap := e0.mod.kin.keeps fun b o e => (e0.bs b o e).1
  have lim : s.heap.NoLimit := e0.mod.nolimit.keeps fun b o e => (e0.bs b o e).1
  refine ks_codeAny_call_defAt (binds := ps.zip us) hr.depth (KX _ _ lk) rfl lim (codeRec_of KX hcd) rfl hb S.nocell (fun y hy => S.par y.1 (List.of_mem_zip (b := y.2) hy).1) (fun h0 hns hk => ?_) S.co S.gen S.kind
  obtain ⟨x, ws, tJ, tR, rfl, hx, hJ, hR, hq⟩ := hbody A outer s H vs Q E (hr.deeper _) hsp
  have I := inv_su (CX := CX0) (E := E) (qual := qual) (tk := s.toks + (ps.zip us).length) T S hr.hd e0 hl r hns hk
  obtain ⟨t1, ho⟩ := exo_at I.hok hx
  obtain ⟨nm, q, N, bs, bm, sn, sub, ab, col, dd, k0, k1, k2, k3, k5, hC, hbm⟩ := T.oex.cls
  obtain ⟨ccl, cdd, cvs, ccs, file, tf, hcode, hvs, hfile⟩ := T.code
  obtain ⟨cl, cld, csl, hcell⟩ := T.cell
  have KX0 := I.kIn
  have hcl : clsIn K C = some { name := nm, bases := bs, mro := .ref C :: bm, ns := N, qualname := q, hasDict := true, slotNames := sn, subclasses := sub, abstract := ab, collection := col, hasDel := false } := by unfold clsIn; rw [hC] <;> rfl
  cases r with
  | @cons _ u0 _ ur ra rw' =>
  obtain rfl : u0 = Value.ref x := ra
  have hself : (ps.zip (Value.ref x :: ur)).reverse.lookup ar.arg = some (.ref x) := zip_rev_lookup (i := 0) S.nd har (by simp)
  show PySem.wpAt _ (A.deeper (ksEnv qual scope s.heap.objs.size fI (.ref cda) cc)) (.func _ (ksEnv qual scope s.heap.objs.size fI (.ref cda) cc)) (execs (_ :: rest) (ksEnv qual scope s.heap.objs.size fI (.ref cda) cc)) _ _ _
  obtain ⟨pl, hpl⟩ := hev (ksEnv qual scope s.heap.objs.size fI (.ref cda) cc)
  refine ks_wpAt_execs_cons (ks_wpAt_Expr_any (ks_wpAt_MethodCall (pl := pl) ?_ hpl) (by show interactive (ksEnv _ _ _ _ _ _) = false; simp [interactive, S.kind]) (hsw _))
  refine ks_wpAt_super_base (f := fI) (cc := cda) S.sup S.cls (by decide) rfl (KX0 _ _ lk) rfl hpar rfl (KX0 _ _ hcode) rfl hvs hfile T.top ?_
  obtain ⟨mb, b1, b2⟩ := I.mod.blt
  refine ks_loadName_global S.kind S.sup (Calls.loadGlobal_builtin (env := ksEnv qual scope s.heap.objs.size fI (.ref cda) cc) (I.mod.glob.keeps I.bk) T.mgS (b1.keeps I.bk) ((b2 _ (by decide +kernel)).trans PyProof.Rows.Boot.«super») ⟨rfl, ?_⟩)
  refine wpAny_loadName_free S.kind S.cls rfl ⟨_, KX0 _ _ hcell, rfl⟩ ?_
  refine wpAny_loadName_local S.kind (S.par _ (List.mem_of_getElem? har)) hns hself ?_
  refine ks_wpAny_isType_cls (KX0 _ _ hC) rfl ⟨rfl, ?_⟩
  refine ks_wpAny_call_super (KX0 _ _ hC) rfl ho rfl (fun c e => by cases e) (looks_mroIn KX0 T.sub) (fun h1 e1 k1' => ?_)
  have I1 : Inv (cxS CX0 P w K mg base ps qual scope fI cda cc A outer s H E) [] ((V.ref x :: ws).map some) H { s with heap := h1, toks := s.toks + (ps.zip (Value.ref x :: ur)).length } := I.kept k1'
  have KX1 := I1.kIn
  have J1 : InstAt h1 x { cls := .ref C, dict := none, data := .fields #[.ref t1, .none, .none, .none, .bool false, .none] } C none := ⟨k1' _ _ ho, rfl, rfl, trivial⟩
  have hsup := T.sup
  unfold ks_superIn at hsup
  rw [hcl] at hsup
  refine kxs_getMethod kxs_ValueError e1 (looks_opaque KX1 T.opq) (l₀ := .ref C :: bm) (fun A Q E s k q => wpAny_bind ((looks_clsIn KX1 hcl) A _ E s k (wpAny_pure q))) rfl KX1 hsup (J1.type.andThen (looks_subIn KX1 T.subVE)) (ks_ne KX1 J1 hcl) (by decide +kernel) ?_
  have hu2 : (h1.push (kxs_mw "ValueError.__init__" x)).get? h1.objs.size = some (kxs_mw "ValueError.__init__" x) := Heap.get?_push_size _ rfl
  have I2 : Inv (cxS CX0 P w K mg base ps qual scope fI cda cc A outer s H E) [] ((V.ref x :: ws).map some) H { s with heap := h1.push (kxs_mw "ValueError.__init__" x), toks := s.toks + (ps.zip (Value.ref x :: ur)).length + 1 } :=
    I1.kept (t' := s.toks + (ps.zip (Value.ref x :: ur)).length + 1) fun b o e => Heap.get?_push_of_some _ e
  have hn2 : H h1.objs.size = none := I1.hok.fresh (Nat.le_refl _)
  have I3 : Inv (cxS CX0 P w K mg base ps qual scope fI cda cc A outer s H E) [(h1.objs.size, kxs_mw "ValueError.__init__" x)] ((V.ref x :: ws).map some) H { s with heap := h1.push (kxs_mw "ValueError.__init__" x), toks := s.toks + (ps.zip (Value.ref x :: ur)).length + 1 } :=
    I2.pins_of fun p hp => by
      obtain rfl : p = (h1.objs.size, kxs_mw "ValueError.__init__" x) := List.mem_singleton.mp hp
      exact ⟨hu2, hn2, Nat.ne_of_gt I1.lt, I1.nofs (Nat.le_refl _), fun v z => by cases z⟩
  refine kxs_callWith (i := "ValueError.__init__") (x := x) (by rw [hse]; rfl) ?_
  rw [hse]
  refine Calls.evalArgs_plain ?_
  refine Calls.spliced_cons (wpAny_mono (hJ.run _ _ _ H _ I3 hq) (fun v s4 h4 => ?_) fun _ _ z => z.elim)
  obtain ⟨vJ, H4, I4, _, hx4, hq4⟩ := h4
  have hp4 := I4.pin (h1.objs.size, kxs_mw "ValueError.__init__" x) (List.mem_append_right _ (List.mem_singleton.mpr rfl))
  refine Calls.spliced_nil ⟨hp4.1, ?_⟩
  refine wpAny_mono (call_mw T.oex (I4.pins_of (pins' := []) fun p hp => absurd hp (by simp)) hx4 hp4.1 (by show 1 ≤ sizeLine; rw [sizeLine_eq]; omega) (Q := fun v s5 => v = .none ∧ Inv (cxS CX0 P w K mg base ps qual scope fI cda cc A outer s H E) [] ((V.ref x :: ws).map some) H4 s5) (fun s5 I5 => ⟨rfl, I5⟩)) (fun v5 s5 h5 => ?_) fun _ _ z => z.elim
  obtain ⟨_, I5⟩ := h5
  show PySem.wpAt _ _ _ _ _ _ _
  refine wpAt_of_wpAny (wpAny_mono (hR.run [] s5 _ H4 _ I5 hq4) (fun fl s6 h6 => ?_) fun _ _ z => z.elim)
  cases fl with
  | ret u =>
    obtain ⟨v, _, H', J, rv, q⟩ := h6
    exact ⟨v, H', J.os, J.bare, J.base, J.hok, rv, q⟩
  | next =>
    obtain ⟨_, H', J, q⟩ := h6
    exact ⟨V.non, H', J.os, J.bare, J.base, J.hok, rfl, q⟩
  | brk =>
    obtain ⟨_, _, _, q⟩ := h6
    exact False.elim q
  | cont =>
    obtain ⟨_, _, _, q⟩ := h6
    exact False.elim q
end
end CW

namespace CW
open PySem PySem.Spec PyProof.Rows L2

/-! ### a tuple's items from behind -/
section
variable {prog : Program} {w : World} {A : Around} {E : Value → Shared → Prop} {s : Shared}
theorem back_bounds (n : Nat) : Builtin.Slice.sliceAdjust none none (-1) (n : Int) = ((n : Int) - 1, -1) := by
  simp [Builtin.Slice.sliceAdjust] <;> omega
theorem back_places (n : Nat) : Builtin.Slice.slicePlaces ((n : Int) - 1) (-1) (-1) = n := by
  simp only [Builtin.Slice.slicePlaces]
  by_cases h : n = 0
  · subst h
    decide
  · have h1 : (-1 : Int) < (n : Int) - 1 := by omega
    simp [h1] <;> omega
theorem back_applied {sl : Addr} {vs : Value} {n : Nat} {Q : Int × Int × Nat → Shared → Prop} (hs : s.heap.IsSliceOf sl .none .none vs) (ps : IsPart vs (some (-1)))
    (h : Q ((n : Int) - 1, -1, n) s) : wpAny (model prog w) A (Builtin.Slice.sliceApplied (.ref sl) (pure (n : Int))) Q E s := by
  obtain ⟨os, hos, hcs, hds⟩ := id hs
  unfold Builtin.Slice.sliceApplied Builtin.Slice.sliceFields
  refine wpAny_bind (wpAny_bind (wpAny_field hos hds (x := .none) rfl (wpAny_bind (wpAny_field hos hds (x := .none) rfl (wpAny_bind (wpAny_field hos hds (x := vs) rfl (wpAny_pure ?_)))))))
  refine wpAny_bind (HT.slicePart_ ps ?_)
  show wpAny _ _ (if ((-1 : Int) == 0) = true then _ else _) _ _ s
  rw [if_neg (by decide)]
  refine wpAny_bind (PyProof.Rows.slicePart_none (wpAny_bind (PyProof.Rows.slicePart_none (wpAny_bind (wpAny_pure ?_)))))
  show wpAny _ _ (match Builtin.Slice.sliceAdjust none none (-1) (n : Int) with | (lo, hi) => pure (lo, (-1 : Int), Builtin.Slice.slicePlaces lo hi (-1))) _ _ s
  rw [back_bounds]
  show wpAny _ _ (pure ((n : Int) - 1, (-1 : Int), Builtin.Slice.slicePlaces ((n : Int) - 1) (-1) (-1))) _ _ s
  rw [back_places]
  exact wpAny_pure h
theorem back_pick (xs : Array Value) : ((List.range xs.size).filterMap fun (m : Nat) => xs[(((xs.size : Int) - 1) + (m : Int) * -1).toNat]?).toArray = xs.toList.reverse.toArray := by
  have e : ((List.range xs.size).filterMap fun (m : Nat) => xs[(((xs.size : Int) - 1) + (m : Int) * -1).toNat]?) = ((List.range xs.size).map fun k => xs.size - 1 - k).filterMap (xs[·]?) := by
    rw [List.filterMap_map]
    have e2 : ∀ l : List Nat, (∀ m ∈ l, m < xs.size) → (l.filterMap fun (m : Nat) => xs[(((xs.size : Int) - 1) + (m : Int) * -1).toNat]?) = l.filterMap ((xs[·]?) ∘ fun k => xs.size - 1 - k) := by
      intro l
      induction l with
      | nil => intro _; rfl
      | cons m l ih =>
        intro hl
        have hm' := hl m List.mem_cons_self
        have e3 : (((xs.size : Int) - 1) + (m : Int) * -1).toNat = xs.size - 1 - m := by omega
        rw [List.filterMap_cons, List.filterMap_cons, ih fun k hk => hl k (List.mem_cons_of_mem _ hk), e3]
        rfl
    exact e2 _ fun m hm => List.mem_range.mp hm
  rw [e, PySem.W.krv_range, List.filterMap_reverse, PySem.W.krv_all]
theorem getItem_tuple_back {t sl : Addr} {items : Array Value} {vs : Value} {Q : Value → Shared → Prop} (ht : IsTup s.heap t items) (hs : s.heap.IsSliceOf sl .none .none vs) (ps : IsPart vs (some (-1)))
    (h : Q (.ref s.heap.objs.size) { s with heap := s.heap.push { cls := .type "tuple", data := .seq items.toList.reverse.toArray } })
    (hsz : items.size ≤ sizeLine) : wpAny (model prog w) A (getItem (.ref t) (.ref sl)) Q E s := by
  have hok : sizeOk (.seq items.toList.reverse.toArray) := by
    show items.toList.reverse.toArray.size ≤ sizeLine
    rw [List.size_toArray, List.length_reverse, Array.length_toList]
    exact hsz
  obtain ⟨os, hos, hcs, hds⟩ := id hs
  have hTs : s.TypeIs (.ref sl) "slice" := ⟨os, hos, hcs⟩
  unfold getItem
  try with_reducible refine wpAny_holding ?_
  first | refine wpAny_bind (wpAny_pure ?_) | skip
  refine wpAny_bind (wpAny_sequenceKey ht.typeIs (by decide) ?_)
  refine wpAny_bind (wpAny_callSpecial?_slot (name := Str.ofString "__getitem__") ht.typeIs PyProof.Rows.slot_tuple_getitem
    (wpAny_call_entry PyProof.Rows.slot_tuple_getitem ht.typeIs entry_tuple_getitem ?_ (args_tuple_getitem _ _)))
  show wpAny _ _ (Builtin.Tuple.tupleItemsOf (.ref t) >>= _) _ _ s
  refine wpAny_bind (tupleItemsOf_ ht ?_)
  refine wpAny_bind (wpAny_typeOf hTs ?_)
  rw [if_pos (by decide)]
  refine wpAny_bind (back_applied hs ps ?_)
  show wpAny _ _ (if (((items.size : Int) - 1) == 0 && (-1 : Int) == 1 && items.size == items.size) = true then _ else _) _ _ s
  have hno : ¬ ((((items.size : Int) - 1) == 0 && (-1 : Int) == 1 && items.size == items.size) = true) := by
    intro q
    rw [Bool.and_eq_true, Bool.and_eq_true] at q
    exact absurd q.1.2 (by decide)
  rw [if_neg hno, back_pick]
  first
    | exact wpAny_bind (m := Builtin.Tuple.tupleExact _) (wpAny_newObj_type (wpAny_pure ⟨_, rfl, wpAny_pure h⟩) hok)
    | exact wpAny_bind (m := Builtin.Tuple.tupleExact _) (wpAny_newObj_type (wpAny_bind (wpAny_pure (wpAny_pure ⟨_, rfl, wpAny_pure h⟩))) hok)
    | exact wpAny_bind (wpAny_bind (m := Builtin.Tuple.tupleExact _) (wpAny_newObj_type (wpAny_pure (wpAny_pure ⟨_, rfl, wpAny_pure h⟩)) hok))
    | exact wpAny_bind (wpAny_bind (m := Builtin.Tuple.tupleExact _) (wpAny_newObj_type (wpAny_pure ⟨_, rfl, wpAny_pure h⟩) hok))
end
section
variable {X : Cx}
/-- t[::-1] of a tuple: a new tuple -/
def tRevT (K : PySem.W.Frag) (te : TE) : TE := fun σ H Q => te σ H fun x H1 => ∃ a xs, x = .ref a ∧ SqT K H1 a xs ∧ ∀ p, H1 p = none → Q (.ref p) (upd H1 p (.tup xs.reverse))
theorem pe_revT {e : Expr} {te : TE} {k : Nat} {p1 p2 p3 pos : Pos} (he : PE X e te) : PE X (.Subscript e (.Slice none none (some (.UnaryOp .USub (.Constant (.int 1) k p1) p2)) p3) pos) (tRevT X.K te) := by
  refine ⟨fun pins s σ H Q I h => ?_⟩
  refine Subscript_ (thn (he.run pins s σ H _ I h) fun v s1 h1 => ?_)
  obtain ⟨x, H1, I1, r1, a, xs, ex, hx, q⟩ := h1
  subst ex
  cases r1
  have hst : PO X (some (.UnaryOp .USub (.Constant (.int 1) k p1) p2)) (tPart (tUn (rU fun i => .int (-i)) (tC (.int 1)))) := po_some (pe_un un_neg pe_int)
  refine wpAny_Slice (thn (po_none.run pins s1 σ H1 (fun o H2 => o = none ∧ H2 = H1) I1 ⟨rfl, rfl⟩) fun vl s2 h2 => ?_)
  obtain ⟨l, H2, I2, pl, el, e2⟩ := h2
  subst el e2
  refine thn (po_none.run pins s2 σ H2 (fun o H3 => o = none ∧ H3 = H2) I2 ⟨rfl, rfl⟩) fun vu s3 h3 => ?_
  obtain ⟨u, H3, I3, pu, eu, e3⟩ := h3
  subst eu e3
  refine thn (hst.run pins s3 σ H3 (fun o H4 => o = some (-1) ∧ H4 = H3) I3 ⟨1, rfl, -1, rfl, rfl, rfl⟩) fun vs s4 h4 => ?_
  obtain ⟨o, H4, I4, ps, eo, e4⟩ := h4
  subst eo e4
  cases pl
  cases pu
  have I5 : Inv X pins σ H4 { s4 with heap := s4.heap.push { cls := .type "slice", data := .fields #[.none, .none, vs] } } := I4.kept (t' := s4.toks) fun b ob q => Heap.get?_push_of_some _ q
  obtain ⟨its, r, ht, hz⟩ := I5.tuple hx
  have hlen := r.length
  show wpAny (model X.prog X.w) X.A (subscriptTail e (.Slice none none (some (.UnaryOp .USub (.Constant (.int 1) k p1) p2)) p3) (.ref a) (.ref s4.heap.objs.size)) (EP X pins σ Q) X.xe { s4 with heap := s4.heap.push { cls := .type "slice", data := .fields #[.none, .none, vs] } }
  refine tail_any (ops := [.ref a, .ref s4.heap.objs.size]) ht.typeIs (PyProof.Rows.slot_tuple_getitem.lookup) ?_ (by with_unfolding_all rfl)
  refine getItem_tuple_back ht (Heap.IsSliceOf.new _ .none .none vs) ps ?_ (by rw [List.size_toArray]; omega)
  refine ⟨.ref _, _, I5.laid (t' := s4.toks) (o := .tup xs.reverse) (fun b ob q => Heap.get?_push_of_some _ q) (Nat.le_refl _) ?_, rfl, q _ (I5.hok.fresh (Nat.le_refl _))⟩
  exact ⟨by rw [List.length_reverse]; exact hz, _, r.reverse, IsTup.new _ _⟩

/-! ### one sign, so many times -/
theorem rep_fold (c : Nat) : ∀ (n : Nat) (acc : Array Nat), (List.replicate n #[c]).foldl (· ++ ·) acc = acc ++ (List.replicate n c).toArray
  | 0, acc => by simp
  | n + 1, acc => by
    rw [List.replicate_succ, List.foldl_cons, rep_fold c n (acc ++ #[c])]
    apply Array.ext'
    simp [List.replicate_succ]
def rMulS : R2 := fun x y H Q => ∃ (c : Nat) (n : Int), x = .str ⟨#[c]⟩ ∧ y = .int n ∧ n ≤ 1000 ∧ -1000 ≤ n ∧ Q (.str ⟨(List.replicate n.toNat c).toArray⟩) H
theorem op_mulS : OpR X (binaryOp .Mult) rMulS := by
  intro pins s σ H x y v u Q I rx ry h
  obtain ⟨c, n, rfl, rfl, h1, h2, q⟩ := h
  obtain ⟨t, rfl⟩ := rx
  obtain ⟨t', rfl⟩ := ry
  refine PySem.P.mul_str (by rw [decide_eq_false (by omega), decide_eq_false (by omega)]; rfl) (fun h3 _ h4 => ?_) (fun h3 _ => ?_) ?_
  · have h5 : (9007199254740992 : Int) ≤ (2 ^ 63 - 1) / n := by
      refine Int.le_ediv_of_mul_le (by omega) ?_
      have : (9007199254740992 : Int) * n ≤ 9007199254740992 * 1000 := Int.mul_le_mul_of_nonneg_left h1 (by decide)
      have h9 : (9007199254740992 : Int) * 1000 ≤ 2 ^ 63 - 1 := by decide
      omega
    have : ((⟨#[c]⟩ : Str).length : Int) = 1 := rfl
    omega
  · unfold Builtin.Str.tooLong
    have e := sizeLine_eq
    have : (⟨#[c]⟩ : Str).length = 1 := rfl
    rw [this]
    simp
    omega
  · by_cases a : n < 1
    · rw [if_pos a]
      have e : n.toNat = 0 := by omega
      rw [e] at q
      exact ⟨by decide, ⟨.str _, H, I.tok _, ⟨_, rfl⟩, q⟩⟩
    · rw [if_neg a]
      by_cases b : (n == 1 || (⟨#[c]⟩ : Str).length == 0) = true
      · rw [if_pos b]
        have e : n = 1 := by simpa [Str.length] using b
        subst e
        exact ⟨.str ⟨#[c]⟩, H, I, ⟨_, rfl⟩, q⟩
      · rw [if_neg b]
        have e : (List.replicate n.toNat (⟨#[c]⟩ : Str).cps).foldl (· ++ ·) #[] = (List.replicate n.toNat c).toArray := by
          rw [rep_fold c n.toNat #[]]
          simp
        rw [e]
        refine ⟨?_, ⟨.str _, H, I.tok _, ⟨_, rfl⟩, q⟩⟩
        show (List.replicate n.toNat c).toArray.size ≤ sizeLine
        rw [List.size_toArray, List.length_replicate]
        have e := sizeLine_eq
        omega

/-! ### isinstance of the error that a suite holds -/
/-- what the class D must say, so that isinstance asks its instances rightly -/
structure EcC (K : PySem.W.Frag) (D : Addr) : Prop where
  cl : (PySem.W.clsIn K D).isSome = true
  ga : PySem.W.findIn K (.ref D) "__getattribute__" = some (some (.builtin "BaseException.__getattribute__"))
  gt : PySem.W.findIn K (.ref D) "__getattr__" = some none
  sb : PySem.W.subIn K (.ref D) (.type "BaseException") = some true
  ca : PySem.W.findIn K (.ref D) "__class__" = some (some (.builtin "object.__class__"))
  sp : PySem.W.specialIn K (.builtin "object.__class__") "__get__" = some (some (.builtin "getset_descriptor.__get__"))
  tk : PySem.W.takesIn K (.builtin "object.__class__") = some true
  mo : PySem.W.mroIn K D (.type "object") = some true
def rIsET (K : PySem.W.Frag) (D a : Addr) (d : Option Addr) : List V → Hp → VK → Prop := fun xs H Q => ∃ (dd tp : Addr) (fs : List (Str × V)) (cs : List V) (us : List Value) (b : Bool),
  d = some dd ∧ H dd = some (.xd fs) ∧ xs = [.ref a, .ref tp] ∧ H tp = some (.tup cs) ∧ Paired ClsV cs us ∧ PySem.W.kitAny K (.ref D) us = some b ∧ Q (.bl b) H
theorem call_isET {a D : Addr} {d : Option Addr} {oe : Obj} {pn : List (Addr × Obj)} (C : EcC X.K D) (hz : Zc (.ref D) d oe) (hf : ∃ vs, oe.data = .fields vs) :
    CallR (X.suite a ((a, oe) :: pn)) (.builtin "isinstance") (rIsET X.K D a d) := by
  intro pins s σ H xs us Q I r h
  obtain ⟨dd, tp, fs, cs, ws, b, ed, hdd, rfl, hT, k, e, q⟩ := h
  obtain ⟨u1, u2, rfl, r1, r2⟩ := vals2 r
  cases (show u2 = Value.ref tp from r2)
  cases (show u1 = Value.ref a from r1)
  obtain ⟨hget, _⟩ := I.pin (a, oe) (List.mem_append.mpr (.inl List.mem_cons_self))
  obtain ⟨vs, hv⟩ := hf
  have hx : ObjOk X.prog X.w H s.heap dd (.xd fs) := I.hok dd _ hdd
  obtain ⟨mA, hns, _⟩ := hx
  obtain ⟨od, ho, _⟩ := lookIn_ns hns
  have J : PySem.W.InstAt s.heap a oe D (some od) := ⟨hget, hz.1, by unfold PySem.W.notCls; rw [hv] <;> rfl, by rw [hz.2, ed]; exact ho⟩
  obtain ⟨_, its, rv, o, h1, h2, n, h3⟩ := (show ObjOk X.prog X.w H s.heap tp (.tup cs) from I.hok tp _ hT)
  have e3 := ClsV.all k rv
  subst e3
  obtain ⟨oc, od', dt, sl⟩ := o
  simp only at h2 h3
  subst h2 h3
  exact PySem.W.kia_tup (PySem.W.kitx_exc C.cl C.ga C.gt C.sb C.ca C.sp C.tk C.mo) I.kIn J h1 e (fun z => nomatch z) fun tk => ⟨.bl b, H, I.tok tk, rfl, q⟩
end
end CW

/-! readings, step by step, for simp -/
namespace CW
open PySem PySem.Spec PyProof.Rows L2

theorem PE_imp {X : Cx} {e : Expr} {t t' : TE} (h : PE X e t) (i : ∀ σ H Q, t' σ H Q → t σ H Q) : PE X e t' :=
  ⟨fun pins s σ H Q I q => h.run pins s σ H Q I (i σ H Q q)⟩
theorem PS_imp {X : Cx} {e : Stmt} {t t' : TS} (h : PS X e t) (i : ∀ D σ H, t' D σ H → t D σ H) : PS X e t' :=
  ⟨fun pins s σ H D I q => h.run pins s σ H D I (i D σ H q)⟩

/-- what is looked at later -/
def Lat (t : TS) (D : Ends) (σ : L2.St) (H : Hp) : Prop := t D σ H
def LatE (t : TE) (σ : L2.St) (H : Hp) (Q : VK) : Prop := t σ H Q
section
variable {t u : TS} {D : Ends} {σ : L2.St} {H : Hp} {Q : VK} {te ta tb tc : TE} {tt : TA} {v w x y : V} {K : PySem.W.Frag} {sp : Sp} {dvs xs ys : List V} {E : XK} {R : L2.St → Hp → Prop} {B : Bool → Hp → Prop} {c c' : TT}
theorem w_seq : tSeq t u D σ H = t { D with nx := u D } σ H := rfl
theorem w_asg {g : TG} : tAsg te g D σ H = te σ H fun x H1 => g x σ H1 D.nx := rfl
theorem w_drop : tDrop te D σ H = te σ H fun _ H1 => D.nx σ H1 := rfl
theorem w_ret : tRet te D σ H = te σ H D.rt := rfl
theorem w_retN : tRetN D σ H = D.rt .non H := rfl
theorem w_next : tNext D σ H = D.nx σ H := rfl
theorem w_never : tNever D σ H = False := rfl
theorem w_brk : tBreak D σ H = D.bk σ H := rfl
theorem w_cont : tCont D σ H = D.ct σ H := rfl
theorem w_if : tIfS c t u D σ H = c σ H fun b H1 => if b = true then Lat t D σ H1 else Lat u D σ H1 := rfl
theorem w_ifE : tIf c ta tb σ H Q = c σ H fun b H1 => if b = true then LatE ta σ H1 Q else LatE tb σ H1 Q := rfl
theorem w_var0 {r : L2.St} : tVar 0 (some v :: r) H Q = Q v H := by
  refine propext ⟨fun ⟨z, e, q⟩ => ?_, fun q => ⟨v, rfl, q⟩⟩
  have e' : some (some v) = some (some z) := e
  cases e'
  exact q
theorem w_vars {n : Nat} {r : L2.St} {o : Option V} : tVar (n + 1) (o :: r) H Q = tVar n r H Q := rfl
theorem w_C : tC v σ H Q = Q v H := rfl
theorem w_op {r : R2} : tOp r ta tb σ H Q = ta σ H fun x H1 => tb σ H1 fun y H2 => r x y H2 Q := rfl
theorem w_un {r : V → Hp → VK → Prop} : tUn r ta σ H Q = ta σ H fun x H1 => r x H1 Q := rfl
theorem w_nil {QA : List V → Hp → Prop} : tNil σ H QA = QA [] H := rfl
theorem w_cons {QA : List V → Hp → Prop} : tCons ta tt σ H QA = ta σ H fun x H1 => tt σ H1 fun xs H2 => QA (x :: xs) H2 := rfl
theorem w_tup : tTup tt σ H Q = tt σ H fun xs H1 => xs.length ≤ sizeLine ∧ ∀ p, H1 p = none → Q (.ref p) (upd H1 p (.tup xs)) := rfl
theorem w_lst : tLst tt σ H Q = tt σ H fun xs H1 => xs.length ≤ sizeLine ∧ ∀ p, H1 p = none → Q (.ref p) (upd H1 p (.lst xs)) := rfl
theorem w_call : tCall sp dvs E tt σ H Q = tt σ H fun vs H1 => sp (vs ++ dvs) H1 Q E := rfl
theorem w_callS {E' : L2.St → XK} : tCallS sp E' tt σ H Q = tt σ H fun vs H1 => sp vs H1 Q (E' σ) := rfl
theorem w_cb {r : List V → Hp → VK → Prop} : tCB r tt σ H Q = tt σ H fun vs H1 => r vs H1 Q := rfl
theorem w_sl {r : V → Option Int → Option Int → Hp → VK → Prop} {tl th : TO} : tSl r te tl th σ H Q = te σ H fun x H1 => tl σ H1 fun l H2 => th σ H2 fun u H3 => r x l u H3 Q := rfl
theorem w_noPart {QO : Option Int → Hp → Prop} : tNoPart σ H QO = QO none H := rfl
theorem w_part {QO : Option Int → Hp → Prop} : tPart te σ H QO = te σ H fun x H1 => ∃ i, x = .int i ∧ QO (some i) H1 := rfl
theorem w_B : tB te σ H B = te σ H fun x H1 => ∃ c, x = .bl c ∧ B c H1 := rfl
theorem w_test : tTest te σ H B = te σ H fun x H1 => ∃ c, x = .bl c ∧ B c H1 := rfl
theorem w_and : tAnd c c' σ H B = c σ H fun b H1 => if b = true then c' σ H1 B else B false H1 := rfl
theorem w_or : tOr c c' σ H B = c σ H fun b H1 => if b = true then B true H1 else c' σ H1 B := rfl
theorem w_not : tNot c σ H B = c σ H fun b H1 => B (!b) H1 := rfl
theorem w_notV : tNotV te σ H Q = te σ H fun x H1 => ∃ c, x = .bl c ∧ Q (.bl (!c)) H1 := rfl
theorem w_andV : tAndV ta tb σ H Q = ta σ H fun x H1 => ∃ c, x = .bl c ∧ if c = true then tb σ H1 Q else Q (.bl false) H1 := rfl
theorem w_orV : tOrV ta tb σ H Q = ta σ H fun x H1 => ∃ c, x = .bl c ∧ if c = true then Q (.bl true) H1 else tb σ H1 Q := rfl
theorem w_name {i : Nat} : gName i v σ H R = R (σ.set i (some v)) H := rfl
theorem w_set0 {o p : Option V} {r : L2.St} : (o :: r).set 0 p = p :: r := rfl
theorem w_sets {n : Nat} {o p : Option V} {r : L2.St} : (o :: r).set (n + 1) p = o :: r.set n p := rfl
theorem w_gtup {n : Nat} {g : TGs} {a : Addr} : gTup K n g (.ref a) σ H R = ∃ xs, SqT K H a xs ∧ xs.length = n ∧ g xs σ H R := by
  refine propext ⟨fun h => ?_, fun ⟨xs, h⟩ => ⟨a, xs, rfl, h⟩⟩
  obtain ⟨b, xs, e, h⟩ := h
  cases e
  exact ⟨xs, h⟩
theorem w_gnil : gNil [] σ H R = R σ H := propext ⟨fun h => h.2, fun h => ⟨rfl, h⟩⟩
theorem w_gcons {g : TG} {gs : TGs} : gCons g gs (v :: xs) σ H R = g v σ H fun σ' H' => gs xs σ' H' R := by
  refine propext ⟨fun h => ?_, fun h => ⟨v, xs, rfl, h⟩⟩
  obtain ⟨v', r', e, h⟩ := h
  cases e
  exact h
theorem w_gsub {to ti : TE} {ts : TSet} : gSub to ti ts v σ H R = to σ H fun o H1 => ti σ H1 fun i H2 => ts o i v H2 fun H3 => R σ H3 := rfl
theorem w_exb {b : Bool} {P : Bool → Prop} : (∃ c, V.bl b = V.bl c ∧ P c) = P b := by
  refine propext ⟨fun h => ?_, fun h => ⟨b, rfl, h⟩⟩
  obtain ⟨c, e, h⟩ := h
  cases e
  exact h
theorem w_exi {b : Int} {P : Int → Prop} : (∃ c, V.int b = V.int c ∧ P c) = P b := by
  refine propext ⟨fun h => ?_, fun h => ⟨b, rfl, h⟩⟩
  obtain ⟨c, e, h⟩ := h
  cases e
  exact h
theorem w_I0 {g : Int → Int → V} {i j : Int} : rI0 g (.int i) (.int j) H Q = Q (g i j) H := by
  refine propext ⟨fun h => ?_, fun h => ⟨i, j, rfl, rfl, h⟩⟩
  obtain ⟨a, b, e1, e2, h⟩ := h
  cases e1; cases e2
  exact h
theorem w_I {C : Int → Int → Prop} {g : Int → Int → V} {i j : Int} : rI C g (.int i) (.int j) H Q = (C i j ∧ Q (g i j) H) := by
  refine propext ⟨fun h => ?_, fun h => ⟨i, j, rfl, rfl, h⟩⟩
  obtain ⟨a, b, e1, e2, h⟩ := h
  cases e1; cases e2
  exact h
theorem w_U {g : Int → V} {i : Int} : rU g (.int i) H Q = Q (g i) H := by
  refine propext ⟨fun h => ?_, fun h => ⟨i, rfl, h⟩⟩
  obtain ⟨a, e1, h⟩ := h
  cases e1
  exact h
theorem w_eqI {i j : Int} : rEq (.int i) (.int j) H Q = Q (.bl (decide (i = j))) H := by
  have e : decide (V.int i = V.int j) = decide (i = j) := by
    by_cases h : i = j
    · subst h; simp
    · rw [decide_eq_false h, decide_eq_false (fun q => h (V.int.inj q))]
  refine propext ⟨fun h => ?_, fun h => ⟨rfl, ?_⟩⟩
  · rw [← e]; exact h.2
  · rw [e]; exact h
theorem w_eqS {i j : Str} : rEq (.str i) (.str j) H Q = Q (.bl (decide (i = j))) H := by
  have e : decide (V.str i = V.str j) = decide (i = j) := by
    by_cases h : i = j
    · subst h; simp
    · rw [decide_eq_false h, decide_eq_false (fun q => h (V.str.inj q))]
  refine propext ⟨fun h => ?_, fun h => ⟨rfl, ?_⟩⟩
  · rw [← e]; exact h.2
  · rw [e]; exact h
theorem w_eqIS {i : Int} {j : Str} : rEq (.int i) (.str j) H Q = Q (.bl false) H :=
  propext ⟨fun h => h.2, fun h => ⟨rfl, h⟩⟩
theorem w_neI {i j : Int} : rNe (.int i) (.int j) H Q = Q (.bl (!decide (i = j))) H := by
  have e : decide (V.int i = V.int j) = decide (i = j) := by
    by_cases h : i = j
    · subst h; simp
    · rw [decide_eq_false h, decide_eq_false (fun q => h (V.int.inj q))]
  refine propext ⟨fun h => ?_, fun h => ⟨rfl, ?_⟩⟩
  · rw [← e]; exact h.2
  · rw [e]; exact h
theorem w_neS {i j : Str} : rNe (.str i) (.str j) H Q = Q (.bl (!decide (i = j))) H := by
  have e : decide (V.str i = V.str j) = decide (i = j) := by
    by_cases h : i = j
    · subst h; simp
    · rw [decide_eq_false h, decide_eq_false (fun q => h (V.str.inj q))]
  refine propext ⟨fun h => ?_, fun h => ⟨rfl, ?_⟩⟩
  · rw [← e]; exact h.2
  · rw [e]; exact h
theorem w_ixL {p : Addr} {i : Int} : rIxL K (.ref p) (.int i) H Q = ∃ xs, SqL K H p xs ∧ ∃ v, atI xs i = some v ∧ Q v H := by
  refine propext ⟨fun h => ?_, fun h => ?_⟩
  · obtain ⟨a, xs, b, v, e1, e2, h1, h2, h⟩ := h
    cases e1; cases e2
    exact ⟨xs, h1, v, h2, h⟩
  · obtain ⟨xs, h1, v, h2, h⟩ := h
    exact ⟨p, xs, i, v, rfl, rfl, h1, h2, h⟩
theorem w_ixT {p : Addr} {i : Int} : rIxT K (.ref p) (.int i) H Q = ∃ xs, SqT K H p xs ∧ ∃ v, atI xs i = some v ∧ Q v H := by
  refine propext ⟨fun h => ?_, fun h => ?_⟩
  · obtain ⟨a, xs, b, v, e1, e2, h1, h2, h⟩ := h
    cases e1; cases e2
    exact ⟨xs, h1, v, h2, h⟩
  · obtain ⟨xs, h1, v, h2, h⟩ := h
    exact ⟨p, xs, i, v, rfl, rfl, h1, h2, h⟩
theorem w_ixS {z : Str} {i : Int} : rIxS (.str z) (.int i) H Q = (z.length ≤ sizeLine ∧ ∃ c, atI z.cps.toList i = some c ∧ Q (.str ⟨#[c]⟩) H) := by
  refine propext ⟨fun h => ?_, fun h => ?_⟩
  · obtain ⟨a, b, c, e1, e2, h1, h2, h⟩ := h
    cases e1; cases e2
    exact ⟨h1, c, h2, h⟩
  · obtain ⟨h1, c, h2, h⟩ := h
    exact ⟨z, i, c, rfl, rfl, h1, h2, h⟩
theorem w_slS {z : Str} {lo hi : Option Int} : rSlS (.str z) lo hi H Q = (z.length ≤ sizeLine ∧ Q (.str (cutS z lo hi)) H) := by
  refine propext ⟨fun h => ?_, fun h => ?_⟩
  · obtain ⟨a, e1, h⟩ := h
    cases e1
    exact h
  · exact ⟨z, rfl, h⟩
theorem w_slL {p : Addr} {lo hi : Option Int} : rSlL K (.ref p) lo hi H Q = ∃ xs, SqL K H p xs ∧ ∀ q, H q = none → Q (.ref q) (upd H q (.lst (cutV xs lo hi))) := by
  refine propext ⟨fun h => ?_, fun h => ?_⟩
  · obtain ⟨a, xs, e1, h⟩ := h
    cases e1
    exact ⟨xs, h⟩
  · obtain ⟨xs, h⟩ := h
    exact ⟨p, xs, rfl, h⟩
theorem w_setL {p : Addr} {k : Int} {RH : Hp → Prop} : rSetL (.ref p) (.int k) v H RH = ∃ xs j, H p = some (.lst xs) ∧ ixN xs.length k = some j ∧ RH (upd H p (.lst (xs.set j v))) := by
  refine propext ⟨fun h => ?_, fun h => ?_⟩
  · obtain ⟨a, xs, b, j, e1, e2, h⟩ := h
    cases e1; cases e2
    exact ⟨xs, j, h⟩
  · obtain ⟨xs, j, h⟩ := h
    exact ⟨p, xs, k, j, rfl, rfl, h⟩
theorem w_cat {p q : Addr} : rCat (.ref p) (.ref q) H Q = ∃ xs zs, H p = some (.lst xs) ∧ H q = some (.lst zs) ∧ xs.length + zs.length ≤ sizeLine ∧ ∀ r, H r = none → Q (.ref r) (upd H r (.lst (xs ++ zs))) := by
  refine propext ⟨fun h => ?_, fun h => ?_⟩
  · obtain ⟨a, b, xs, zs, e1, e2, h⟩ := h
    cases e1; cases e2
    exact ⟨xs, zs, h⟩
  · obtain ⟨xs, zs, h⟩ := h
    exact ⟨p, q, xs, zs, rfl, rfl, h⟩
theorem w_rep {p : Addr} {k : Int} : rRep (.ref p) (.int k) H Q = ∃ xs, H p = some (.lst xs) ∧ -(2 ^ 63) ≤ k ∧ k < 2 ^ 63 ∧ xs.length * k.toNat ≤ sizeLine ∧ ∀ r, H r = none → Q (.ref r) (upd H r (.lst (List.replicate k.toNat xs).flatten)) := by
  refine propext ⟨fun h => ?_, fun h => ?_⟩
  · obtain ⟨a, b, xs, e1, e2, h⟩ := h
    cases e1; cases e2
    exact ⟨xs, h⟩
  · obtain ⟨xs, h⟩ := h
    exact ⟨p, k, xs, rfl, rfl, h⟩
theorem w_mulS {c0 : Nat} {n : Int} : rMulS (.str ⟨#[c0]⟩) (.int n) H Q = (n ≤ 1000 ∧ -1000 ≤ n ∧ Q (.str ⟨(List.replicate n.toNat c0).toArray⟩) H) := by
  refine propext ⟨fun h => ?_, fun h => ⟨c0, n, rfl, rfl, h⟩⟩
  obtain ⟨a, b, e1, e2, h⟩ := h
  cases e1; cases e2
  exact h
theorem w_in {p : Addr} {n : Bool} : rIn K n x (.ref p) H Q = ∃ xs, (SqL K H p xs ∨ SqT K H p xs) ∧ flatV x = true ∧ xs.all flatV = true ∧ Q (.bl (if n then !inV x xs else inV x xs)) H := by
  refine propext ⟨fun h => ?_, fun h => ?_⟩
  · obtain ⟨a, xs, e1, h⟩ := h
    cases e1
    exact ⟨xs, h⟩
  · obtain ⟨xs, h⟩ := h
    exact ⟨p, xs, rfl, h⟩
end
section
variable {H : Hp} {σ : L2.St} {Q : VK} {K : PySem.W.Frag} {to : TE} {tt : TA} {l : Addr} {y : V}
theorem w_bm {T : String} {r : V → List V → Hp → VK → Prop} : tBM K T r to tt σ H Q = to σ H fun x H1 => tyV K T x H1 ∧ tt σ H1 fun xs H2 => r x xs H2 Q := rfl
theorem w_bm0 {T : String} {r : V → List V → Hp → VK → Prop} : tBM0 K T r to σ H Q = to σ H fun x H1 => tyV K T x H1 ∧ r x [] H1 Q := rfl
theorem w_append : rAppend (.ref l) [y] H Q = ∃ xs, H l = some (.lst xs) ∧ xs.length < sizeLine ∧ Q .non (upd H l (.lst (xs ++ [y]))) := by
  refine propext ⟨fun h => ?_, fun h => ?_⟩
  · obtain ⟨a, xs, z, e1, e2, h⟩ := h
    cases e1; cases e2
    exact ⟨xs, h⟩
  · obtain ⟨xs, h⟩ := h
    exact ⟨l, xs, y, rfl, rfl, h⟩
theorem w_pop : rPop (.ref l) [] H Q = ∃ xs y, H l = some (.lst (xs ++ [y])) ∧ Q y (upd H l (.lst xs)) := by
  refine propext ⟨fun h => ?_, fun h => ?_⟩
  · obtain ⟨a, xs, z, e1, e2, h1, h2, h⟩ := h
    cases e1
    have hne : xs ≠ [] := fun q => by subst q; simp at h2
    have e : xs = xs.dropLast ++ [z] := by
      obtain ⟨ys, y', rfl⟩ : ∃ ys y', xs = ys ++ [y'] := ⟨xs.dropLast, xs.getLast hne, (List.dropLast_concat_getLast hne).symm⟩
      simp at h2
      subst h2
      simp
    refine ⟨xs.dropLast, z, by rw [← e]; exact h1, h⟩
  · obtain ⟨xs, z, h1, h⟩ := h
    exact ⟨l, xs ++ [z], z, rfl, rfl, h1, by simp, by rw [List.dropLast_concat]; exact h⟩
theorem ty_list {xs : List V} (h : H l = some (.lst xs)) : tyV K "list" (.ref l) H := .inl ⟨rfl, _, .inl (.inl h)⟩
end
theorem w_exr {a : Addr} {P : Addr → Prop} : (∃ l, V.ref a = V.ref l ∧ P l) = P a := by
  refine propext ⟨fun h => ?_, fun h => ⟨a, rfl, h⟩⟩
  obtain ⟨c, e, h⟩ := h
  cases e
  exact h

/-! ### named readings -/
abbrev RC := List V → Hp → VK → Prop
def zIsN : R2 := fun x y H Q => y = .non ∧ Q (.bl (decide (x = .non))) H
def zNotN : R2 := fun x y H Q => y = .non ∧ Q (.bl (!decide (x = .non))) H
def zAddS : R2 := fun x y H Q => ∃ i j, x = .str i ∧ y = .str j ∧ i.length + j.length ≤ sizeLine ∧ Q (.str (i ++ j)) H
def zInS : R2 := fun x y H Q => ∃ (c : Nat) (z : Str), x = .str ⟨#[c]⟩ ∧ y = .str z ∧ Q (.bl (decide (c ∈ z.cps.toList))) H
def zNotInS : R2 := fun x y H Q => ∃ (c : Nat) (z : Str), x = .str ⟨#[c]⟩ ∧ y = .str z ∧ Q (.bl (!decide (c ∈ z.cps.toList))) H
def zAbs : RC := fun xs H Q => ∃ i, xs = [.int i] ∧ Q (.int (if i < 0 then -i else i)) H
def zMax2 : RC := fun xs H Q => ∃ i j, xs = [.int i, .int j] ∧ Q (.int (if j > i then j else i)) H
def zMin2 : RC := fun xs H Q => ∃ i j, xs = [.int i, .int j] ∧ Q (.int (if j < i then j else i)) H
def zInt1 : RC := fun xs H Q => (∃ i, xs = [.int i] ∧ Q (.int i) H) ∨ ∃ k, xs = [.bl k] ∧ Q (.int (if k then 1 else 0)) H
def zStrI : RC := fun xs H Q => ∃ i : Int, xs = [.int i] ∧ i.natAbs.log2 < 1920 ∧ Q (.str (toString i)) H
def zLenQ (K : PySem.W.Frag) : RC := fun xs H Q => ∃ p ys, xs = [.ref p] ∧ (SqL K H p ys ∨ SqT K H p ys) ∧ Q (.int ys.length) H
def zLenS : RC := fun xs H Q => ∃ z, xs = [.str z] ∧ z.length ≤ sizeLine ∧ Q (.int z.length) H
def zTupQ (K : PySem.W.Frag) : RC := fun xs H Q => ∃ p ys, xs = [.ref p] ∧ ((SqL K H p ys ∧ ∀ l, H l = none → Q (.ref l) (upd H l (.tup ys))) ∨ (SqT K H p ys ∧ Q (.ref p) H))
def zIntS : RC := fun xs H Q => ∃ a n, xs = [.str a] ∧ PySem.intText? a = some n ∧ a.length ≤ 640 ∧ Q (.int n) H
/-- str(x), a number or a text -/
def zStr : RC := fun xs H Q => (∃ i : Int, xs = [.int i] ∧ i.natAbs.log2 < 1920 ∧ Q (.str (toString i)) H) ∨ ∃ a, xs = [.str a] ∧ Q (.str a) H
section
variable {X : Cx}
theorem o_isN : OpR X (compareOp .Is) zIsN := op_isN
theorem o_notN : OpR X (compareOp .IsNot) zNotN := op_notN
theorem o_addS : OpR X (binaryOp .Add) zAddS := op_add_str
theorem o_inS : OpR X (compareOp .In) zInS := op_in_sign
theorem o_notInS : OpR X (compareOp .NotIn) zNotInS := op_notIn_sign
theorem c_abs : CallR X (.builtin "abs") zAbs := call_abs
theorem c_max2 (hc : X.calm = true) : CallR X (.builtin "max") zMax2 := call_max2 hc
theorem c_min2 (hc : X.calm = true) : CallR X (.builtin "min") zMin2 := call_min2 hc
theorem c_int1 : CallR X (.type "int") zInt1 := call_int1
theorem c_strI : CallR X (.type "str") zStrI := call_str_int
theorem c_lenQ : CallR X (.builtin "len") (zLenQ X.K) := call_len_seq
theorem c_lenS : CallR X (.builtin "len") zLenS := call_len_str
theorem c_tupQ : CallR X (.type "tuple") (zTupQ X.K) := call_tuple_of
theorem c_intS : CallR X (.type "int") zIntS := call_int_str
theorem c_str : CallR X (.type "str") zStr := by
  intro pins s σ H xs us Q I r h
  rcases h with h | h
  · exact call_str_int pins s σ H xs us Q I r h
  · exact SkE.call_str_str pins s σ H xs us Q I r h
def tTru (K : PySem.W.Frag) (ta : TE) : TT := fun σ H B => ta σ H fun x H' => ∃ k, TruV K x H' k ∧ B k H'
theorem t_tru {a : Expr} {ta : TE} (ha : PE X a ta) (he : ∀ whole, isTrue a X.env whole = (do let v ← whole; standAt a.pos; holding [v] (truthy v))) : PT X a (tTru X.K ta) := pt_truth ha he
end
section
variable {H : Hp} {σ : L2.St} {Q : VK} {K : PySem.W.Frag} {ta : TE} {B : Bool → Hp → Prop} {x : V} {i j : Int} {y z : Str} {p : Addr} {b : Bool}
theorem w_isN : zIsN x .non H Q = Q (.bl (decide (x = .non))) H := propext ⟨fun h => h.2, fun h => ⟨rfl, h⟩⟩
theorem w_notN : zNotN x .non H Q = Q (.bl (!decide (x = .non))) H := propext ⟨fun h => h.2, fun h => ⟨rfl, h⟩⟩
theorem w_addS : zAddS (.str y) (.str z) H Q = (y.length + z.length ≤ sizeLine ∧ Q (.str (y ++ z)) H) := by
  refine propext ⟨fun h => ?_, fun h => ⟨y, z, rfl, rfl, h⟩⟩
  obtain ⟨i, j, e1, e2, h⟩ := h
  cases e1; cases e2
  exact h
theorem w_inS {c : Nat} : zInS (.str ⟨#[c]⟩) (.str z) H Q = Q (.bl (decide (c ∈ z.cps.toList))) H := by
  refine propext ⟨fun h => ?_, fun h => ⟨c, z, rfl, rfl, h⟩⟩
  obtain ⟨i, j, e1, e2, h⟩ := h
  cases e1; cases e2
  exact h
theorem w_notInS {c : Nat} : zNotInS (.str ⟨#[c]⟩) (.str z) H Q = Q (.bl (!decide (c ∈ z.cps.toList))) H := by
  refine propext ⟨fun h => ?_, fun h => ⟨c, z, rfl, rfl, h⟩⟩
  obtain ⟨i, j, e1, e2, h⟩ := h
  cases e1; cases e2
  exact h
theorem w_abs : zAbs [.int i] H Q = Q (.int (if i < 0 then -i else i)) H := by
  refine propext ⟨fun h => ?_, fun h => ⟨i, rfl, h⟩⟩
  obtain ⟨a, e1, h⟩ := h
  cases e1
  exact h
theorem w_max2 : zMax2 [.int i, .int j] H Q = Q (.int (if j > i then j else i)) H := by
  refine propext ⟨fun h => ?_, fun h => ⟨i, j, rfl, h⟩⟩
  obtain ⟨a, b, e1, h⟩ := h
  cases e1
  exact h
theorem w_min2 : zMin2 [.int i, .int j] H Q = Q (.int (if j < i then j else i)) H := by
  refine propext ⟨fun h => ?_, fun h => ⟨i, j, rfl, h⟩⟩
  obtain ⟨a, b, e1, h⟩ := h
  cases e1
  exact h
theorem w_int1 : zInt1 [.int i] H Q = Q (.int i) H := by
  refine propext ⟨fun h => ?_, fun h => .inl ⟨i, rfl, h⟩⟩
  rcases h with ⟨a, e1, h⟩ | ⟨a, e1, h⟩
  · cases e1
    exact h
  · cases e1
theorem w_int1b : zInt1 [.bl b] H Q = Q (.int (if b then 1 else 0)) H := by
  refine propext ⟨fun h => ?_, fun h => .inr ⟨b, rfl, h⟩⟩
  rcases h with ⟨a, e1, h⟩ | ⟨a, e1, h⟩
  · cases e1
  · cases e1
    exact h
theorem w_strI : zStrI [.int i] H Q = (i.natAbs.log2 < 1920 ∧ Q (.str (toString i)) H) := by
  refine propext ⟨fun h => ?_, fun h => ⟨i, rfl, h⟩⟩
  obtain ⟨a, e1, h⟩ := h
  cases e1
  exact h
theorem w_str1 : zStr [.int i] H Q = (i.natAbs.log2 < 1920 ∧ Q (.str (toString i)) H) := by
  refine propext ⟨fun h => ?_, fun h => .inl ⟨i, rfl, h⟩⟩
  rcases h with ⟨a, e1, h⟩ | ⟨a, e1, h⟩
  · cases e1
    exact h
  · cases e1
theorem w_str2 : zStr [.str z] H Q = Q (.str z) H := by
  refine propext ⟨fun h => ?_, fun h => .inr ⟨z, rfl, h⟩⟩
  rcases h with ⟨a, e1, h⟩ | ⟨a, e1, h⟩
  · cases e1
  · cases e1
    exact h
theorem w_lenQ : zLenQ K [.ref p] H Q = ∃ ys, (SqL K H p ys ∨ SqT K H p ys) ∧ Q (.int ys.length) H := by
  refine propext ⟨fun h => ?_, fun ⟨ys, h⟩ => ⟨p, ys, rfl, h⟩⟩
  obtain ⟨a, ys, e1, h⟩ := h
  cases e1
  exact ⟨ys, h⟩
theorem w_lenS : zLenS [.str z] H Q = (z.length ≤ sizeLine ∧ Q (.int z.length) H) := by
  refine propext ⟨fun h => ?_, fun h => ⟨z, rfl, h⟩⟩
  obtain ⟨a, e1, h⟩ := h
  cases e1
  exact h
theorem w_intS : zIntS [.str z] H Q = ∃ n, PySem.intText? z = some n ∧ z.length ≤ 640 ∧ Q (.int n) H := by
  refine propext ⟨fun h => ?_, fun ⟨n, h⟩ => ⟨z, n, rfl, h⟩⟩
  obtain ⟨a, n, e1, h⟩ := h
  cases e1
  exact ⟨n, h⟩
theorem w_tupQ : zTupQ K [.ref p] H Q = ∃ ys, ((SqL K H p ys ∧ ∀ l, H l = none → Q (.ref l) (upd H l (.tup ys))) ∨ (SqT K H p ys ∧ Q (.ref p) H)) := by
  refine propext ⟨fun h => ?_, fun ⟨n, h⟩ => ⟨p, n, rfl, h⟩⟩
  obtain ⟨a, n, e1, h⟩ := h
  cases e1
  exact ⟨n, h⟩
theorem w_tru : tTru K ta σ H B = ta σ H fun x H' => ∃ k, TruV K x H' k ∧ B k H' := rfl
end
end CW
namespace CW
open PySem PySem.Spec PyProof.Rows L2
/-- one turn of a while: what its body or its end is to reach -/
def Turn1 (Pv : L2.St → Hp → Prop) (μ : L2.St → Hp → Nat) (m : Nat) (tb : TS) (D : Ends) (σ : L2.St) (b : Bool) (H1 : Hp) : Prop :=
  if b = true then ∃ N : L2.St → Hp → Prop, (∀ σ' H', N σ' H' → ∃ m', m' < m ∧ (m' = μ σ' H' ∧ Pv σ' H')) ∧ tb { D with nx := N, ct := N, bk := D.nx } σ H1 else D.nx σ H1
theorem while_in {c : TT} {tb : TS} {D : Ends} {σ : L2.St} {H : Hp} (Pv : L2.St → Hp → Prop) (μ : L2.St → Hp → Nat) (h0 : Pv σ H)
    (hs : ∀ σ H, Pv σ H → c σ H (Turn1 Pv μ (μ σ H) tb D σ)) : tWhile c tb D σ H :=
  ⟨fun m σ H => m = μ σ H ∧ Pv σ H, ⟨_, rfl, h0⟩, fun m σ H ⟨e, p⟩ => by
    subst e
    exact hs σ H p⟩
theorem turnT {Pv : L2.St → Hp → Prop} {μ : L2.St → Hp → Nat} {m : Nat} {tb : TS} {D : Ends} {σ : L2.St} {H1 : Hp}
    (h : tb { nx := fun σ' H' => Pv σ' H' ∧ μ σ' H' < m, ct := fun σ' H' => Pv σ' H' ∧ μ σ' H' < m, bk := D.nx, rt := D.rt } σ H1) : Turn1 Pv μ m tb D σ true H1 := by
  unfold Turn1
  rw [if_pos rfl]
  exact ⟨fun σ' H' => Pv σ' H' ∧ μ σ' H' < m, fun σ' H' h => ⟨μ σ' H', h.2, rfl, h.1⟩, h⟩
theorem turnF {Pv : L2.St → Hp → Prop} {μ : L2.St → Hp → Nat} {m : Nat} {tb : TS} {D : Ends} {σ : L2.St} {H1 : Hp}
    (h : D.nx σ H1) : Turn1 Pv μ m tb D σ false H1 := by
  unfold Turn1
  rw [if_neg Bool.false_ne_true]
  exact h
end CW
namespace CW
open PySem PySem.Spec PyProof.Rows L2
/-- a for over what x shows -/
def ForJ (J : It) (g : TG) (tb : TS) (D : Ends) (σ : L2.St) (H1 : Hp) : Prop :=
  ∃ W : Nat → Nat → L2.St → Hp → Prop, (∃ m, W 0 m σ H1) ∧ ∀ i m σ H, W i m σ H →
    (J.stop i H ∧ D.nx σ H) ∨ (J.go i H ∧ ∃ N : L2.St → Hp → Prop, (∀ σ' H', N σ' H' → ∃ m', m' < m ∧ W (i + 1) m' σ' H') ∧ ∀ x H', J.yld i H x H' → g x σ H' fun σ2 H2 => tb { D with nx := N, ct := N, bk := D.nx } σ2 H2)
def ForT (K : PySem.W.Frag) (g : TG) (tb : TS) (D : Ends) (σ : L2.St) (x : V) (H1 : Hp) : Prop := ∃ a, x = .ref a ∧ (∃ xs, SqT K H1 a xs) ∧ ForJ (Itt K a) g tb D σ H1
def ForL (K : PySem.W.Frag) (g : TG) (tb : TS) (D : Ends) (σ : L2.St) (x : V) (H1 : Hp) : Prop := ∃ a, x = .ref a ∧ (∃ xs, SqL K H1 a xs) ∧ ForJ (Itl K a) g tb D σ H1
def ForR (g : TG) (tb : TS) (D : Ends) (σ : L2.St) (vs : List V) (H1 : Hp) : Prop := ∃ j : Int, vs = [.int j] ∧ -(2 ^ 62) ≤ j ∧ j < 2 ^ 62 ∧ ForJ (Itr 0 j.toNat) g tb D σ H1
def ForE (K : PySem.W.Frag) (g : TG) (tb : TS) (D : Ends) (σ : L2.St) (vs : List V) (H1 : Hp) : Prop := ∃ a xs, vs = [.ref a] ∧ SqL K H1 a xs ∧ ForJ (Ite K a) g tb D σ H1
section
variable {K : PySem.W.Frag} {te : TE} {ta : TA} {g : TG} {tb : TS} {D : Ends} {σ : L2.St} {H : Hp}
theorem w_forT : tFor (iTup K te) g tb D σ H = te σ H fun x H1 => ForT K g tb D σ x H1 := rfl
theorem w_forL : tFor (iList K te) g tb D σ H = te σ H fun x H1 => ForL K g tb D σ x H1 := rfl
theorem w_forR : tFor (iRng1 ta) g tb D σ H = ta σ H fun vs H1 => ForR g tb D σ vs H1 := rfl
theorem w_forE : tFor (iEnum K ta) g tb D σ H = ta σ H fun vs H1 => ForE K g tb D σ vs H1 := rfl
variable {a : Addr} {xs : List V}
theorem in_tup (Pv : Nat → L2.St → Hp → Prop) (h0 : Pv 0 σ H) (hl : ∀ i σ H, i ≤ xs.length → Pv i σ H → SqT K H a xs)
    (hs : ∀ i x σ H, xs[i]? = some x → Pv i σ H → g x σ H fun σ2 H2 => tb { nx := Pv (i + 1), ct := Pv (i + 1), bk := D.nx, rt := D.rt } σ2 H2)
    (hd : ∀ σ H, Pv xs.length σ H → D.nx σ H) : ForT K g tb D σ (.ref a) H :=
  ⟨a, rfl, ⟨xs, hl 0 σ H (Nat.zero_le _) h0⟩, for_tup Pv h0 hl hs hd⟩
theorem in_list (Pv : Nat → L2.St → Hp → Prop) (h0 : Pv 0 σ H) (hl : ∀ i σ H, i ≤ xs.length → Pv i σ H → SqL K H a xs)
    (hs : ∀ i x σ H, xs[i]? = some x → Pv i σ H → g x σ H fun σ2 H2 => tb { nx := Pv (i + 1), ct := Pv (i + 1), bk := D.nx, rt := D.rt } σ2 H2)
    (hd : ∀ σ H, Pv xs.length σ H → D.nx σ H) : ForL K g tb D σ (.ref a) H :=
  ⟨a, rfl, ⟨xs, hl 0 σ H (Nat.zero_le _) h0⟩, for_list Pv h0 hl hs hd⟩
theorem in_range {j : Int} (hj : j < 2 ^ 62) (hj0 : 0 ≤ j) (Pv : Nat → L2.St → Hp → Prop) (h0 : Pv 0 σ H)
    (hs : ∀ i σ H, i < j.toNat → Pv i σ H → g (.int i) σ H fun σ2 H2 => tb { nx := Pv (i + 1), ct := Pv (i + 1), bk := D.nx, rt := D.rt } σ2 H2)
    (hd : ∀ σ H, Pv j.toNat σ H → D.nx σ H) : ForR g tb D σ [.int j] H :=
  ⟨j, rfl, by omega, hj, for_range Pv h0 (fun i σ H hi p => by rw [Int.zero_add]; exact hs i σ H hi p) hd⟩
theorem in_enum (Pv : Nat → L2.St → Hp → Prop) (h0 : Pv 0 σ H) (hl : ∀ i σ H, i ≤ xs.length → Pv i σ H → SqL K H a xs)
    (hs : ∀ i x σ H T, xs[i]? = some x → Pv i σ H → H T = none → g (.ref T) σ (upd H T (.tup [.int (i : Nat), x])) fun σ2 H2 => tb { nx := Pv (i + 1), ct := Pv (i + 1), bk := D.nx, rt := D.rt } σ2 H2)
    (hd : ∀ σ H, Pv xs.length σ H → D.nx σ H) : ForE K g tb D σ [.ref a] H := by
  refine ⟨a, xs, rfl, hl 0 σ H (Nat.zero_le _) h0, fun i m σ H => m = xs.length - i ∧ i ≤ xs.length ∧ Pv i σ H, ⟨xs.length, by simp, Nat.zero_le _, h0⟩, ?_⟩
  rintro i m σ H ⟨rfl, hi, p⟩
  have q := hl i σ H hi p
  by_cases hlt : i < xs.length
  · refine .inr ⟨⟨xs, xs[i], q, by simp [hlt]⟩, Pv (i + 1), fun σ' H' p' => ⟨xs.length - (i + 1), by omega, rfl, hlt, p'⟩, fun x H' y => ?_⟩
    obtain ⟨T, z, rfl, hT, rfl, y⟩ := y
    exact hs i z σ H T (y xs q) p hT
  · have e : i = xs.length := by omega
    subst e
    exact .inl ⟨⟨xs, q, Nat.le_refl _⟩, hd σ H p⟩
end
end CW
namespace CW
open PySem PySem.Spec PyProof.Rows L2
theorem w_cxK {CX : CXT} {P : Program} {w : World} {K : PySem.W.Frag} {mg : Str → Option Value} {base : Heap} {N : List Str} {q : Str} {sc : Scope} {f : Addr} {cd : Value} {A : Around} {outer : List Env} {s : Shared} {H : Hp} {E : XK} :
    (cxOf CX P w K mg base N q sc f cd A outer s H E).K = K := rfl
end CW
namespace CW
open PySem PySem.Spec PyProof.Rows L2
/-- one turn of a while, its measure an index of its word -/
def TurnN (Wn : Nat → L2.St → Hp → Prop) (m : Nat) (tb : TS) (D : Ends) (σ : L2.St) (b : Bool) (H1 : Hp) : Prop :=
  if b = true then ∃ N : L2.St → Hp → Prop, (∀ σ' H', N σ' H' → ∃ m', m' < m ∧ Wn m' σ' H') ∧ tb { D with nx := N, ct := N, bk := D.nx } σ H1 else D.nx σ H1
theorem while_n {c : TT} {tb : TS} {D : Ends} {σ : L2.St} {H : Hp} (Wn : Nat → L2.St → Hp → Prop) (m0 : Nat) (h0 : Wn m0 σ H)
    (hs : ∀ m σ H, Wn m σ H → c σ H (TurnN Wn m tb D σ)) : tWhile c tb D σ H :=
  ⟨Wn, ⟨m0, h0⟩, hs⟩
theorem turnNT {Wn : Nat → L2.St → Hp → Prop} {m : Nat} {tb : TS} {D : Ends} {σ : L2.St} {H1 : Hp}
    (h : tb { nx := fun σ' H' => ∃ m', m' < m ∧ Wn m' σ' H', ct := fun σ' H' => ∃ m', m' < m ∧ Wn m' σ' H', bk := D.nx, rt := D.rt } σ H1) : TurnN Wn m tb D σ true H1 := by
  unfold TurnN
  rw [if_pos rfl]
  exact ⟨fun σ' H' => ∃ m', m' < m ∧ Wn m' σ' H', fun σ' H' h => h, h⟩
theorem turnNF {Wn : Nat → L2.St → Hp → Prop} {m : Nat} {tb : TS} {D : Ends} {σ : L2.St} {H1 : Hp} (h : D.nx σ H1) : TurnN Wn m tb D σ false H1 := by
  unfold TurnN
  rw [if_neg Bool.false_ne_true]
  exact h
theorem isi_ty {K : PySem.W.Frag} {H : Hp} {Q : VK} {x : V} {t c : String} {b : Bool} (ty : TyX K H x (.type t)) (h : PySem.W.kitOne K (.type t) (.type c) = some b) (q : Q (.bl b) H) : rIsi K [x, .ty c] H Q :=
  ⟨x, .ty c, .type t, .type c, b, rfl, .ty c, ty, h, q⟩
theorem ty_of_tup {K : PySem.W.Frag} {H : Hp} {a : Addr} {xs : List V} (h : SqT K H a xs) : TyX K H (.ref a) (.type "tuple") := by
  rcases h with (h | ⟨o, h⟩) | ⟨o, its, n, e, c, _⟩
  · exact .base (.tup h)
  · exact .fTuple h
  · exact .kTuple e c
end CW
namespace CW
open PySem PySem.Spec PyProof.Rows L2
def zRev (K : PySem.W.Frag) (x : V) (H1 : Hp) (Q : VK) : Prop := ∃ a xs, x = .ref a ∧ SqT K H1 a xs ∧ ∀ p, H1 p = none → Q (.ref p) (upd H1 p (.tup xs.reverse))
section
variable {K : PySem.W.Frag} {te to : TE} {σ : L2.St} {H : Hp} {Q : VK} {r : V → List V → Hp → VK → Prop} {a : Addr}
theorem w_revT : tRevT K te σ H Q = te σ H fun x H1 => zRev K x H1 Q := rfl
theorem w_rev : zRev K (.ref a) H Q = ∃ xs, SqT K H a xs ∧ ∀ p, H p = none → Q (.ref p) (upd H p (.tup xs.reverse)) := by
  refine propext ⟨fun h => ?_, fun ⟨xs, h⟩ => ⟨a, xs, rfl, h⟩⟩
  obtain ⟨b, xs, e, h⟩ := h
  cases e
  exact ⟨xs, h⟩
theorem w_m1 : tM1 r to te σ H Q = to σ H fun x H1 => (∃ a, x = .str a) ∧ te σ H1 fun y H2 => r x [y] H2 Q := rfl
end
theorem tkeep_but2 {K : PySem.W.Frag} {p q : Addr} {ps qs : List V} {H H' : Hp} (hp : H p = some (.lst ps)) (hq : H q = some (.lst qs)) (e : ∀ b o, b ≠ p → b ≠ q → H b = some o → H' b = some o) : ∀ b xs, SqT K H b xs → SqT K H' b xs := fun b xs h => by
  rcases h with (h | ⟨o, h⟩) | h
  · exact .inl (.inl (e _ _ (fun z => by subst z; rw [hp] at h; cases h) (fun z => by subst z; rw [hq] at h; cases h) h))
  · exact .inl (.inr ⟨o, e _ _ (fun z => by subst z; rw [hp] at h; cases h) (fun z => by subst z; rw [hq] at h; cases h) h⟩)
  · exact .inr h
end CW
namespace CW
open PySem PySem.Spec PyProof.Rows L2
def zMkO (C : Addr) (sp : Sp) (dvs : List V) (vs : List V) (H1 : Hp) (Q : XK) : Prop := vs.length ≤ 1000 ∧ ∀ a, H1 a = none → sp (.ref a :: (vs ++ dvs)) (upd H1 a (exo a C none))
  (fun v H2 => v = .non ∧ ∃ (d : Addr) (fs : List (Str × V)), H2 a = some (exo a C (some d)) ∧ H2 d = some (exd d fs) ∧ H1 d = none ∧ Q (.ref C) (some d) (upd (del H2 a) d (.xd fs))) (fun _ _ _ => False)
theorem w_mkO {C : Addr} {sp : Sp} {dvs : List V} {ta : TA} {σ : L2.St} {H : Hp} {Q : XK} : tMkO C sp dvs ta σ H Q = ta σ H fun vs H1 => zMkO C sp dvs vs H1 Q := rfl
end CW
namespace CW
open PySem PySem.Spec PyProof.Rows L2
section
variable {c c' : TT} {σ : L2.St} {H : Hp} {B : Bool → Hp → Prop}
theorem and_known (b1 b2 : Bool) (h1 : ∀ B : Bool → Hp → Prop, B b1 H → c σ H B) (h2 : b1 = true → ∀ B : Bool → Hp → Prop, B b2 H → c' σ H B) (q : B (b1 && b2) H) : tAnd c c' σ H B := by
  refine h1 _ ?_
  cases b1 with
  | true => exact h2 rfl _ q
  | false => exact q
theorem or_known (b1 b2 : Bool) (h1 : ∀ B : Bool → Hp → Prop, B b1 H → c σ H B) (h2 : b1 = false → ∀ B : Bool → Hp → Prop, B b2 H → c' σ H B) (q : B (b1 || b2) H) : tOr c c' σ H B := by
  refine h1 _ ?_
  cases b1 with
  | true => exact q
  | false => exact h2 rfl _ q
end
end CW
namespace CW
open PySem PySem.Spec PyProof.Rows L2
/-- a list built in brackets, over a list -/
def LcL (K : PySem.W.Frag) (g : TG) (tt : TT) (te : TE) (vs : List Nat) (σ : L2.St) (x : V) (H1 : Hp) (Q : VK) : Prop := ∃ a, x = .ref a ∧ (∃ xs, SqL K H1 a xs) ∧ ∀ D, H1 D = none → ∃ W : Nat → Nat → Hp → Prop, (∃ m, W 0 m (upd H1 D (.lst []))) ∧ ∀ i m H, W i m H →
  ((Itl K a).stop i H ∧ Q (.ref D) H) ∨ ((Itl K a).go i H ∧ ∃ Nx : Hp → Prop, (∀ H', Nx H' → ∃ m', m' < m ∧ W (i + 1) m' H') ∧ ∀ x H', (Itl K a).yld i H x H' → g x (wipe σ vs) H' fun σ2 H2 => wipe σ2 vs = wipe σ vs ∧ tt σ2 H2 fun b H3 =>
    if b = true then te σ2 H3 fun y H4 => ∃ acc, H4 D = some (.lst acc) ∧ acc.length < sizeLine ∧ Nx (upd H4 D (.lst (acc ++ [y]))) else Nx H3)
theorem w_lcL {K : PySem.W.Frag} {tl : TE} {g : TG} {tt : TT} {te : TE} {vs : List Nat} {σ : L2.St} {H : Hp} {Q : VK} : tLc (iList K tl) g tt te vs σ H Q = tl σ H fun x H1 => LcL K g tt te vs σ x H1 Q := rfl
theorem in_lc {K : PySem.W.Frag} {a : Addr} {xs : List V} {g : TG} {tt : TT} {te : TE} {vs : List Nat} {σ : L2.St} {H1 : Hp} {Q : VK} (hl0 : SqL K H1 a xs) (Pv : Addr → Nat → Hp → Prop) (h0 : ∀ D, H1 D = none → Pv D 0 (upd H1 D (.lst [])))
    (hl : ∀ D i H, H1 D = none → i ≤ xs.length → Pv D i H → SqL K H a xs)
    (hs : ∀ D i x H, H1 D = none → xs[i]? = some x → Pv D i H → g x (wipe σ vs) H fun σ2 H2 => wipe σ2 vs = wipe σ vs ∧ tt σ2 H2 fun b H3 =>
      if b = true then te σ2 H3 fun y H4 => ∃ acc, H4 D = some (.lst acc) ∧ acc.length < sizeLine ∧ Pv D (i + 1) (upd H4 D (.lst (acc ++ [y]))) else Pv D (i + 1) H3)
    (hd : ∀ D H, H1 D = none → Pv D xs.length H → Q (.ref D) H) : LcL K g tt te vs σ (.ref a) H1 Q :=
  ⟨a, rfl, ⟨xs, hl0⟩, fun D hD => lc_list (Pv D) (h0 D hD) (fun i H hi p => hl D i H hD hi p) (fun i x H hx p => hs D i x H hD hx p) fun H p => hd D H hD p⟩
theorem w_yes {σ : L2.St} {H : Hp} {B : Bool → Hp → Prop} : tYes σ H B = B true H := rfl
end CW
namespace CW
open PySem PySem.Spec PyProof.Rows L2
theorem seq_gen {t u : TS} {D : Ends} {σ : L2.St} {H : Hp} (Pv : L2.St → Hp → Prop) (h : ∀ R : L2.St → Hp → Prop, (∀ σ' H', Pv σ' H' → R σ' H') → t { nx := R, rt := D.rt, bk := D.bk, ct := D.ct } σ H) (hu : ∀ σ' H', Pv σ' H' → u D σ' H') : tSeq t u D σ H := h (u D) hu
end CW
namespace CW
open PySem PySem.Spec PyProof.Rows L2
theorem if_gen {c : TT} {t u : TS} {D : Ends} {σ : L2.St} {H : Hp} (P1 P2 : Hp → Prop) (h : ∀ R : Bool → Hp → Prop, (∀ H2, P1 H2 → R true H2) → (∀ H2, P2 H2 → R false H2) → c σ H R)
    (ht : ∀ H2, P1 H2 → t D σ H2) (hu : ∀ H2, P2 H2 → u D σ H2) : tIfS c t u D σ H :=
  h (fun b H1 => if b = true then t D σ H1 else u D σ H1) (fun H2 p => by rw [if_pos rfl]; exact ht H2 p) (fun H2 p => by rw [if_neg Bool.false_ne_true]; exact hu H2 p)
theorem ifE_gen {c : TT} {t u : TE} {σ : L2.St} {H : Hp} {Q : VK} (P1 P2 : Hp → Prop) (h : ∀ R : Bool → Hp → Prop, (∀ H2, P1 H2 → R true H2) → (∀ H2, P2 H2 → R false H2) → c σ H R)
    (ht : ∀ H2, P1 H2 → t σ H2 Q) (hu : ∀ H2, P2 H2 → u σ H2 Q) : tIf c t u σ H Q :=
  h (fun b H1 => if b = true then t σ H1 Q else u σ H1 Q) (fun H2 p => by rw [if_pos rfl]; exact ht H2 p) (fun H2 p => by rw [if_neg Bool.false_ne_true]; exact hu H2 p)
/-- what an opaque test leads to -/
theorem dec_to {R : Bool → Hp → Prop} {H : Hp} {p : Prop} [Decidable p] (h1 : p → R true H) (h2 : ¬ p → R false H) : R (decide p) H := by
  by_cases h : p
  · rw [decide_eq_true h]; exact h1 h
  · rw [decide_eq_false h]; exact h2 h
end CW
namespace CW
theorem iteT_or {c : Prop} [Decidable c] {A B : Prop} (h1 : c → A) (h2 : ¬ c → B) : if c then A else B := by
  by_cases h : c
  · rw [if_pos h]; exact h1 h
  · rw [if_neg h]; exact h2 h
end CW
namespace CW
theorem iteT' {c : Prop} [Decidable c] {A B : Prop} (h : c) (a : A) : if c then A else B := by rw [if_pos h]; exact a
theorem iteF' {c : Prop} [Decidable c] {A B : Prop} (h : ¬ c) (b : B) : if c then A else B := by rw [if_neg h]; exact b
end CW

/-! the end of a law whose promise knows the guards -/
namespace CW
open PySem PySem.Spec PyProof.Rows L2
/-- what is to be tracked of the script: it, where it is not one of the text's own objects -/
def scr (K : PySem.W.Frag) (b : Addr) (os : Obj) (zs : List Int) : Hp := fun c => if c = b ∧ K.lookup b = none then some (.frz os (.lst (zs.map V.int))) else none
theorem scr_at {K : PySem.W.Frag} {b : Addr} {os : Obj} {zs : List Int} (h : K.lookup b = none) : scr K b os zs b = some (.frz os (.lst (zs.map V.int))) := if_pos ⟨rfl, h⟩
theorem scr_some {K : PySem.W.Frag} {b c : Addr} {os : Obj} {zs : List Int} {u : HO} (h : scr K b os zs c = some u) : c = b ∧ K.lookup b = none ∧ u = .frz os (.lst (zs.map V.int)) := by
  unfold scr at h
  split at h
  · rename_i hc
    exact ⟨hc.1, hc.2, (Option.some.inj h).symm⟩
  · cases h
theorem only_scr {K : PySem.W.Frag} {b : Addr} {os : Obj} {zs : List Int} : Only (scr K b os zs) := fun c => by
  cases e : scr K b os zs c with
  | none => exact .inl rfl
  | some u =>
    obtain ⟨_, _, rfl⟩ := scr_some e
    exact .inr ⟨_, _, rfl⟩
section
variable {P : Program} {w : World} {K : PySem.W.Frag} {mg mb : Str → Option Value} {CX : CXT} {k : Nat} {fa b : Addr} {fd : FuncData} {x : Str} {sp : Sp} {t : Shared} {us : List Value} {zs : List Int}
/-- the promise of the law's def, met at the heap behind the top -/
theorem end_G (kin : K.In t.heap) (gl : t.heap.Ns mainGlobals mg) (bl : t.heap.Ns builtinsNs mb) (bb : ∀ y : Str, y ≠ "__name__" → mb y = bootBuiltins y) (nl : t.heap.NoLimit) (ge : t.gens = #[])
    (hs : t.heap.get? b = some { cls := .type "list", data := .seq us.toArray }) (ia : IntsAre us zs) (le : zs.length ≤ sizeLine) (ro : Room k callerA)
    (Fg : ∀ base : Heap, K.In base → base.Ns mainGlobals mg → OkG P w K mg base CX k fa fd [x] sp) (bi : ∀ (s : Shared) (u : Value), BindsTo s fd ⟨[u], []⟩ [(x, u)])
    (hq : ∀ H : Hp, Only H → SqL K H b (zs.map V.int) → sp [.ref b] H (fun v _ => v = .bl true) fun _ _ _ => False)
    (ncx : ∀ H e s', CX [] H t (fun _ _ _ => False) e s' → False) :
    codeAny (model P w) callerA (.call (.ref fa) ⟨[.ref b], []⟩) (fun r t' => r = .ok (.ret (.bool true)) ∧ OldK t.heap t'.heap ∧ t'.os = t.os ∧ AllBare t'.gens) t := by
  have vz := vals_ints ia
  have lz := ia.length
  generalize hH : scr K b { cls := .type "list", data := .seq us.toArray } zs = H
  have some_of : ∀ {c : Addr} {u : HO}, H c = some u → c = b ∧ K.lookup b = none ∧ u = .frz { cls := .type "list", data := .seq us.toArray } (.lst (zs.map V.int)) := fun {c u} h => by
    rw [← hH] at h
    exact scr_some h
  have hO : Only H := by rw [← hH]; exact only_scr
  have hS : SqL K H b (zs.map V.int) := by
    cases e : K.lookup b with
    | none => exact .inl (.inr ⟨_, by rw [← hH]; exact scr_at e⟩)
    | some o =>
      have e2 := kin b o e
      rw [hs] at e2
      cases e2
      refine .inr ⟨_, us.toArray, _, e, rfl, rfl, rfl, ?_, by simpa using vz⟩
      rw [List.size_toArray, lz]
      exact le
  have hok : HOk P w H t.heap := fun c u h => by
    obtain ⟨rfl, _, rfl⟩ := some_of h
    exact ⟨hs, by rw [List.length_map]; exact le, us, _, vz, hs⟩
  -- what is not the script stands in the base
  have stays : ∀ {c : Addr} {o : Obj}, t.heap.get? c = some o → H c = none → (hidT t.heap H).get? c = some o := fun e n => hidT_get e n
  have dicts : ∀ {c : Addr} {o : Obj} {es : Array DictEntry} {ep : Nat}, t.heap.get? c = some o → o.data = .dict es ep → H c = none := fun {c o es ep} e d => by
    cases q : H c with
    | none => rfl
    | some u =>
      obtain ⟨rfl, _, _⟩ := some_of q
      rw [hs] at e
      cases e
      have d' : Data.seq us.toArray _ = Data.dict es ep := d
      cases d'
  have names : ∀ {c : Addr} {m : Str → Option Value}, t.heap.Ns c m → (hidT t.heap H).Ns c m := fun {c m} ⟨o, es, ep, e, d, r⟩ => ⟨o, es, ep, stays e (dicts e d), d, r⟩
  have kbase : K.In (hidT t.heap H) := fun c o e => by
    refine stays (kin c o e) ?_
    cases q : H c with
    | none => rfl
    | some u =>
      obtain ⟨rfl, n, _⟩ := some_of q
      rw [n] at e
      cases e
  have mod0 : Mod K mg (hidT t.heap H) := ⟨kbase, names gl, ⟨mb, names bl, bb⟩, let ⟨mc, h1, h2⟩ := nl; ⟨mc, names h1, h2⟩⟩
  have env0 : Env0 P w K mg (hidT t.heap H) callerA [] t H :=
    ⟨rfl, mod0, fun c o e => of_hidT e, Nat.le_of_eq (hidT_size _ _), trivial, fun c z => absurd (show c ∈ ([] : List Addr) from z) (by simp), hok, .of_eq ge⟩
  have main := (Fg _ kbase (names gl)).go callerA [] t H ⟨[.ref b], []⟩ [.ref b] [.ref b] _ _ rfl ro env0 (bi t (.ref b)) (.cons rfl .nil) (hq H hO hS)
  refine codeAny_mono main fun r t' z => ?_
  rcases r with e | fl
  · exact (ncx H e t' z).elim
  · cases fl with
    | ret u =>
      obtain ⟨v, H', osE, bareE, un, hok', rel, qv⟩ := z
      obtain rfl : v = .bl true := qv
      obtain rfl : u = Value.bool true := rel
      refine ⟨rfl, OldK.of_keep fun c o e => ?_, osE, bareE⟩
      cases q : H c with
      | none => exact un.keep c o e q (fun y => absurd (show c ∈ ([] : List Addr) from y) (by simp)) (by simp)
      | some u =>
        obtain ⟨_, _, rfl⟩ := some_of q
        have q2 := un.frzs c _ _ q
        obtain ⟨g1, _⟩ := hok c _ q
        obtain ⟨g2, _⟩ := hok' c _ q2
        rw [e] at g1
        cases g1
        exact g2
    | next => exact False.elim z
    | brk => exact False.elim z
    | cont => exact False.elim z
end
/-- the goal behind k_head, from such a promise -/
theorem walk_G {l : PySem.W.OpenLaw} {n k : Nat} {q : Program} {loose : List Str} {XP : (Str → Option Value) → Heap → Prop} {YP : World → Heap → Prop} {d : DefRec} {K : Params → PySem.W.Frag} {sp : PySem.W.Frag → Sp} {x : Str}
    (h1 : l.most = some n) (h2 : n ≤ sizeLine) (h3 : d.params.defaults = []) (ro : Room k callerA) (hY : ∀ (w : World) (h : Heap), YP w h → (K w.params).In h)
    (Fg : ∀ (w : World) (mg : Str → Option Value) (fa : Addr) (h : Heap), (K w.params).In h → h.Ns mainGlobals mg → mg d.name = some (.ref fa) →
      ∃ fd : FuncData, (∀ (s : Shared) (u : Value), BindsTo s fd ⟨[u], []⟩ [(x, u)]) ∧ ∀ base : Heap, (K w.params).In base → base.Ns mainGlobals mg → OkG l.prog w (K w.params) mg base CX0 k fa fd [x] (sp (K w.params)))
    (hsp : ∀ (K : PySem.W.Frag) (H : Hp) (b : Addr) (zs : List Int), zs.length ≤ n → Only H → SqL K H b (zs.map V.int) → sp K [.ref b] H (fun v _ => v = .bl true) fun _ _ _ => False) :
    PySem.W.WalkO q loose XP YP l.row.toRowW d [] (fun f vs => PySem.call f vs) := by
  refine Att.attach_call h1 h3 fun w t0 t mg mb fa o pm cd doc b us zs G Y ho hd hcd hmg hs ia le ge => ?_
  have kin := hY w _ Y
  obtain ⟨fd, bi, F1⟩ := Fg w mg fa _ kin G.T.g hmg
  exact end_G kin G.T.g G.T.b G.T.builtins G.T.nolimit ge hs ia (Nat.le_trans le h2) ro F1 bi (fun H hO hS => hsp _ H b zs le hO hS) fun _ _ _ z => z
end CW

/-! The mathematics of law k85: tokens, texts, things. -/
namespace T85
open PySem L2 TL

inductive Tk where
  | num (n : Nat)
  | txt (s : Str)
  deriving DecidableEq
inductive Kd where
  | num | name | sign
  deriving DecidableEq
def Tk.v : Tk → V
  | .num n => .int n
  | .txt s => .str s
def Tk.str : Tk → Str
  | .num n => Str.ofString (toString (n : Int))
  | .txt s => s
def Tk.tl (t : Tk) : List Nat := TL.tl t.str
def letter (c : Nat) : Bool := decide (97 ≤ c) && decide (c ≤ 122)
def fig (c : Nat) : Bool := decide (48 ≤ c) && decide (c ≤ 57)
def aln (c : Nat) : Bool := letter c || fig c
def txtKd : List Nat → Kd
  | c :: _ => if letter c then .name else .sign
  | [] => .sign
def Tk.kd : Tk → Kd
  | .num _ => .num
  | .txt s => txtKd (TL.tl s)
def Kd.str : Kd → Str
  | .num => "number"
  | .name => "name"
  | .sign => "sign"
def signs : List (List Nat) := [[61, 61], [60], [43], [45], [42], [47], [40], [41], [44], [58]]
def NameOk (l : List Nat) : Prop := ∃ c r, l = c :: r ∧ letter c = true ∧ (∀ x ∈ r, aln x = true) ∧ r.length ≤ 11
def Tk.Ok : Tk → Prop
  | .num n => n < 10 ^ 40
  | .txt s => NameOk (TL.tl s) ∨ TL.tl s ∈ signs

theorem tl_numT (n : Nat) : (Tk.num n).tl = numL n := tl_num n
theorem letter_iff {c : Nat} : letter c = true ↔ 97 ≤ c ∧ c ≤ 122 := by simp [letter]
theorem fig_iff {c : Nat} : fig c = true ↔ 48 ≤ c ∧ c ≤ 57 := by simp [fig]
theorem sign_head {l : List Nat} (h : l ∈ signs) : ∃ c r, l = c :: r ∧ letter c = false ∧ fig c = false ∧ c ≠ 32 ∧ l.length ≤ 2 := by
  simp only [signs, List.mem_cons, List.not_mem_nil, or_false] at h
  rcases h with rfl | rfl | rfl | rfl | rfl | rfl | rfl | rfl | rfl | rfl <;> exact ⟨_, _, rfl, by decide, by decide, by decide, by decide⟩
theorem Tk.Ok.shape {t : Tk} (h : t.Ok) : ∃ c r, t.tl = c :: r ∧ c ≠ 32 ∧ t.tl.length ≤ 40 ∧
    ((t.kd = .name ∧ letter c = true ∧ (∀ x ∈ t.tl, aln x = true) ∧ t.tl.length ≤ 12) ∨ (t.kd = .num ∧ fig c = true ∧ letter c = false ∧ (∀ x ∈ t.tl, fig x = true) ∧ ∃ n, t = .num n) ∨
      (t.kd = .sign ∧ letter c = false ∧ fig c = false ∧ t.tl ∈ signs)) := by
  cases t with
  | num n =>
    have hd := numL_digits n
    have hl := numL_len (k := 40) (by decide) h
    rw [tl_numT]
    cases e : numL n with
    | nil => exact absurd e (numL_ne n)
    | cons c r =>
      rw [e] at hd hl
      have hc := hd.head
      refine ⟨c, r, rfl, by omega, hl, .inr (.inl ⟨rfl, fig_iff.mpr hc, ?_, fun x hx => fig_iff.mpr (hd x hx), n, rfl⟩)⟩
      cases q : letter c with
      | false => rfl
      | true => have := letter_iff.mp q; omega
  | txt s =>
    rcases h with ⟨c, r, e, hc, hr, hl⟩ | h
    · have ec : (Tk.txt s).tl = c :: r := e
      rw [ec]
      refine ⟨c, r, rfl, ?_, ?_, .inl ⟨?_, hc, ?_, ?_⟩⟩
      · have := letter_iff.mp hc
        omega
      · rw [List.length_cons]; omega
      · show txtKd (TL.tl s) = _
        rw [e]
        simp [txtKd, hc]
      · intro x hx
        rcases List.mem_cons.mp hx with rfl | hx
        · simp [aln, hc]
        · exact hr x hx
      · rw [List.length_cons]; omega
    · obtain ⟨c, r, e, h1, h2, h3, h4⟩ := sign_head h
      have ec : (Tk.txt s).tl = c :: r := e
      rw [ec]
      refine ⟨c, r, rfl, h3, by rw [← e]; omega, .inr (.inr ⟨?_, h1, h2, by rw [← e]; exact h⟩)⟩
      show txtKd (TL.tl s) = _
      rw [e]
      simp [txtKd, h1]

/-! ### gaps and tokens -/
def need (a b : Kd) : Bool := a != .sign && b != .sign && !(a == .num && b == .name)
abbrev It := List (Nat × Tk)
def codesOf : It → List Nat
  | [] => []
  | (g, t) :: r => List.replicate g 32 ++ (t.tl ++ codesOf r)
def toksOf : Nat → It → List (Tk × Nat)
  | _, [] => []
  | p, (g, t) :: r => (t, p + g + 1) :: toksOf (p + g + t.tl.length) r
def gapsOk : Kd → It → Prop
  | _, [] => True
  | a, (g, t) :: r => (need a t.kd = true → 1 ≤ g) ∧ gapsOk t.kd r
def lastKd : Kd → It → Kd
  | a, [] => a
  | _, (_, t) :: r => lastKd t.kd r
theorem codesOf_append (a b : It) : codesOf (a ++ b) = codesOf a ++ codesOf b := by
  induction a with
  | nil => rfl
  | cons x a ih =>
    obtain ⟨g, t⟩ := x
    show List.replicate g 32 ++ (t.tl ++ codesOf (a ++ b)) = (List.replicate g 32 ++ (t.tl ++ codesOf a)) ++ codesOf b
    rw [ih]
    simp only [List.append_assoc]
theorem toksOf_append (a b : It) : ∀ p, toksOf p (a ++ b) = toksOf p a ++ toksOf (p + (codesOf a).length) b := by
  induction a with
  | nil => intro p; rfl
  | cons x a ih =>
    intro p
    obtain ⟨g, t⟩ := x
    show (t, p + g + 1) :: toksOf (p + g + t.tl.length) (a ++ b) = (t, p + g + 1) :: (toksOf (p + g + t.tl.length) a ++ toksOf (p + (List.replicate g 32 ++ (t.tl ++ codesOf a)).length) b)
    rw [ih, List.length_append, List.length_replicate, List.length_append]
    have : p + g + t.tl.length + (codesOf a).length = p + (g + (t.tl.length + (codesOf a).length)) := by omega
    rw [this]
theorem gapsOk_append (b : It) : ∀ (a : It) (k : Kd), gapsOk k (a ++ b) ↔ gapsOk k a ∧ gapsOk (lastKd k a) b
  | [], k => by simp [gapsOk, lastKd]
  | (g, t) :: a, k => by
    show ((need k t.kd = true → 1 ≤ g) ∧ gapsOk t.kd (a ++ b)) ↔ (((need k t.kd = true → 1 ≤ g) ∧ gapsOk t.kd a) ∧ gapsOk (lastKd t.kd a) b)
    rw [gapsOk_append b a t.kd, and_assoc]
theorem lastKd_append (g : Nat) (t : Tk) : ∀ (a : It) (k : Kd), lastKd k (a ++ [(g, t)]) = t.kd
  | [], _ => rfl
  | (_, _) :: a, _ => lastKd_append g t a _
theorem gaps_sign {k : Kd} {b : It} (h : gapsOk k b) : gapsOk .sign b := by
  cases b with
  | nil => trivial
  | cons x b => exact ⟨fun z => by simp [need] at z, h.2⟩
theorem toksOf_fst : ∀ (b : It) (p : Nat), (toksOf p b).map (·.1) = b.map (·.2)
  | [], _ => rfl
  | (g, t) :: b, p => by
    show t :: (toksOf (p + g + t.tl.length) b).map (·.1) = t :: b.map (·.2)
    rw [toksOf_fst b]

/-! ### what is left of a row -/
def LexSt (codes : List Nat) (pos : Nat) (toks : List (Tk × Nat)) (prev : Kd) : Prop :=
  ∃ (g : Nat) (b : It) (e : Nat), codes = List.replicate g 32 ++ (codesOf b ++ List.replicate e 32) ∧ toks = toksOf (pos + g) b ∧ (∀ x ∈ b, x.2.Ok) ∧ (if g = 0 then gapsOk prev b else gapsOk .sign b)
theorem lex_nil {pos : Nat} {toks : List (Tk × Nat)} {prev : Kd} (h : LexSt [] pos toks prev) : toks = [] := by
  obtain ⟨g, b, e, hc, rfl, hok, _⟩ := h
  cases b with
  | nil => rfl
  | cons x b =>
    obtain ⟨g', t⟩ := x
    obtain ⟨c, r, e1, _⟩ := (hok _ List.mem_cons_self).shape
    have e2 := congrArg List.length hc
    simp [codesOf, e1] at e2
theorem lex_blank {cs : List Nat} {pos : Nat} {toks : List (Tk × Nat)} {prev : Kd} (h : LexSt (32 :: cs) pos toks prev) : LexSt cs (pos + 1) toks .sign := by
  obtain ⟨g, b, e, hc, rfl, hok, hg⟩ := h
  cases g with
  | succ g =>
    rw [List.replicate_succ] at hc
    refine ⟨g, b, e, (List.cons.inj hc).2, by rw [Nat.add_assoc pos 1 g, Nat.add_comm 1 g], hok, ?_⟩
    rw [if_neg (by omega)] at hg
    split <;> exact hg
  | zero =>
    rw [if_pos rfl] at hg
    cases b with
    | nil =>
      cases e with
      | zero => simp [codesOf] at hc
      | succ e =>
        refine ⟨0, [], e, ?_, rfl, hok, by rw [if_pos rfl]; trivial⟩
        have hc' : 32 :: cs = List.replicate (e + 1) 32 := hc
        rw [List.replicate_succ] at hc'
        exact (List.cons.inj hc').2
    | cons x b =>
      obtain ⟨g', t⟩ := x
      obtain ⟨c, r, e1, hne, _⟩ := (hok _ List.mem_cons_self).shape
      cases g' with
      | zero =>
        have hc' : 32 :: cs = t.tl ++ codesOf b ++ List.replicate e 32 := hc
        have e1' : t.tl = c :: r := e1
        rw [e1', List.append_assoc, List.cons_append] at hc'
        exact absurd (List.cons.inj hc').1.symm hne
      | succ g' =>
        refine ⟨g', (0, t) :: b, e, ?_, ?_, ?_, ?_⟩
        · have hc' : 32 :: cs = (List.replicate (g' + 1) 32 ++ (t.tl ++ codesOf b)) ++ List.replicate e 32 := hc
          rw [List.replicate_succ, List.append_assoc, List.cons_append] at hc'
          rw [(List.cons.inj hc').2]
          show _ = List.replicate g' 32 ++ ((t.tl ++ codesOf b) ++ List.replicate e 32)
          rfl
        · show (t, pos + 0 + (g' + 1) + 1) :: toksOf (pos + 0 + (g' + 1) + t.tl.length) b = (t, pos + 1 + g' + 0 + 1) :: toksOf (pos + 1 + g' + 0 + t.tl.length) b
          have : pos + 0 + (g' + 1) = pos + 1 + g' + 0 := by omega
          rw [this]
        · intro y hy
          rcases List.mem_cons.mp hy with rfl | hy
          · exact hok (g' + 1, t) List.mem_cons_self
          · exact hok _ (List.mem_cons_of_mem _ hy)
        · split
          · exact ⟨fun z => by simp [need] at z, hg.2⟩
          · exact ⟨fun z => by simp [need] at z, hg.2⟩
/-- what stands ahead of a row's rest -/
def NextNot (p : Nat → Bool) (l : List Nat) : Prop := ∀ d r, l = d :: r → p d = false
theorem next_of {t : Tk} {b : It} {e : Nat} {k : Kd} (hk : t.kd = k) (hok : ∀ x ∈ b, x.2.Ok) (hg : gapsOk k b) {p : Nat → Bool} (h32 : p 32 = false)
    (hp : ∀ t' : Tk, t'.Ok → need k t'.kd = false → ∀ d r, t'.tl = d :: r → p d = false) : NextNot p (codesOf b ++ List.replicate e 32) := by
  intro d r hd
  cases b with
  | nil =>
    cases e with
    | zero => simp [codesOf] at hd
    | succ e =>
      have hd' : List.replicate (e + 1) 32 = d :: r := hd
      rw [List.replicate_succ] at hd'
      rw [← (List.cons.inj hd').1]
      exact h32
  | cons x b =>
    obtain ⟨g', t'⟩ := x
    have hok' := hok _ (List.mem_cons_self (a := (g', t')) (l := b))
    cases g' with
    | succ g' =>
      have hd' : (List.replicate (g' + 1) 32 ++ (t'.tl ++ codesOf b)) ++ List.replicate e 32 = d :: r := hd
      rw [List.replicate_succ, List.append_assoc, List.cons_append] at hd'
      rw [← (List.cons.inj hd').1]
      exact h32
    | zero =>
      obtain ⟨c, r', e1, _⟩ := hok'.shape
      have e1' : t'.tl = c :: r' := e1
      have hd' : (t'.tl ++ codesOf b) ++ List.replicate e 32 = d :: r := hd
      rw [e1', List.append_assoc, List.cons_append] at hd'
      have hn : need k t'.kd = false := by
        cases q : need k t'.kd with
        | false => rfl
        | true => exact absurd (hg.1 q) (by omega)
      rw [← (List.cons.inj hd').1]
      exact hp t' hok' hn c r' e1'
theorem lex_tok {c : Nat} {cs : List Nat} {pos : Nat} {toks : List (Tk × Nat)} {prev : Kd} (hc : c ≠ 32) (h : LexSt (c :: cs) pos toks prev) :
    ∃ (t : Tk) (toks' : List (Tk × Nat)) (rest r : List Nat), toks = (t, pos + 1) :: toks' ∧ c :: cs = t.tl ++ rest ∧ t.tl = c :: r ∧ t.Ok ∧ LexSt rest (pos + t.tl.length) toks' t.kd ∧
      ((letter c = true ∧ (∀ x ∈ t.tl, aln x = true) ∧ NextNot aln rest ∧ t.tl.length ≤ 12 ∧ t.kd = .name) ∨
       (letter c = false ∧ fig c = true ∧ (∀ x ∈ t.tl, fig x = true) ∧ NextNot fig rest ∧ t.tl.length ≤ 40 ∧ t.kd = .num ∧ ∃ n, t = .num n) ∨
       (letter c = false ∧ fig c = false ∧ t.tl ∈ signs ∧ t.kd = .sign)) := by
  obtain ⟨g, b, e, he, rfl, hok, hg⟩ := h
  cases g with
  | succ g =>
    rw [List.replicate_succ] at he
    exact absurd (List.cons.inj he).1 hc
  | zero =>
    rw [if_pos rfl] at hg
    cases b with
    | nil =>
      cases e with
      | zero => simp [codesOf] at he
      | succ e =>
        have he' : c :: cs = List.replicate (e + 1) 32 := he
        rw [List.replicate_succ] at he'
        exact absurd (List.cons.inj he').1 hc
    | cons x b =>
      obtain ⟨g', t⟩ := x
      cases g' with
      | succ g' =>
        have he' : c :: cs = (List.replicate (g' + 1) 32 ++ (t.tl ++ codesOf b)) ++ List.replicate e 32 := he
        rw [List.replicate_succ, List.append_assoc, List.cons_append] at he'
        exact absurd (List.cons.inj he').1 hc
      | zero =>
        have hokt := hok _ (List.mem_cons_self (a := ((0 : Nat), t)) (l := b))
        have hokb : ∀ x ∈ b, x.2.Ok := fun x hx => hok x (List.mem_cons_of_mem _ hx)
        obtain ⟨c', r, e1, h32, hl, hsh⟩ := hokt.shape
        have e1' : t.tl = c' :: r := e1
        have he' : c :: cs = t.tl ++ (codesOf b ++ List.replicate e 32) := by
          rw [he]
          show (t.tl ++ codesOf b) ++ List.replicate e 32 = _
          rw [List.append_assoc]
        have ec : c' = c := by
          rw [e1', List.cons_append] at he'
          exact (List.cons.inj he').1.symm
        subst ec
        refine ⟨t, toksOf (pos + t.tl.length) b, _, r, rfl, he', e1', hokt, ⟨0, b, e, rfl, rfl, hokb, by rw [if_pos rfl]; exact hg.2⟩, ?_⟩
        rcases hsh with ⟨k, a1, a2, a3⟩ | ⟨k, a1, a0, a2, n, a3⟩ | ⟨k, a1, a2, a3⟩
        · refine .inl ⟨a1, a2, next_of k hokb (by rw [← k]; exact hg.2) (by decide) (fun t' ok' nn d r' q => ?_), a3, k⟩
          obtain ⟨d', r2, q2, _, _, s⟩ := ok'.shape
          rw [q] at q2
          obtain ⟨rfl, rfl⟩ := List.cons.inj q2
          rcases s with ⟨k', _⟩ | ⟨k', _⟩ | ⟨_, b1, b2, _⟩
          · rw [k'] at nn; cases nn
          · rw [k'] at nn; cases nn
          · simp [aln, b1, b2]
        · refine .inr (.inl ⟨a0, a1, a2, next_of k hokb (by rw [← k]; exact hg.2) (by decide) (fun t' ok' nn d r' q => ?_), hl, k, n, a3⟩)
          obtain ⟨d', r2, q2, _, _, s⟩ := ok'.shape
          rw [q] at q2
          obtain ⟨rfl, rfl⟩ := List.cons.inj q2
          rcases s with ⟨_, b1, _⟩ | ⟨k', _⟩ | ⟨_, b1, b2, _⟩
          · have := letter_iff.mp b1
            cases z : fig d with
            | false => rfl
            | true => have := fig_iff.mp z; omega
          · rw [k'] at nn; cases nn
          · exact b2
        · exact .inr (.inr ⟨a1, a2, a3, k⟩)
/-- a run of signs -/
theorem run_of {p : Nat → Bool} : ∀ {a rest : List Nat}, (∀ x ∈ a, p x = true) → NextNot p rest → (a ++ rest).takeWhile p = a
  | [], rest, _, hn => by
    cases rest with
    | nil => rfl
    | cons d r =>
      rw [List.nil_append, List.takeWhile_cons, hn d r rfl]
      rfl
  | x :: a, rest, ha, hn => by
    rw [List.cons_append, List.takeWhile_cons, ha x List.mem_cons_self]
    show x :: _ = _
    rw [run_of (fun y hy => ha y (List.mem_cons_of_mem _ hy)) hn]
/-- the sign that stands ahead -/
def signAt (cs : List Nat) : Option (List Nat) := signs.find? fun s => cs.take s.length == s
theorem signAt_of {s rest : List Nat} (h : s ∈ signs) : signAt (s ++ rest) = some s := by
  simp only [signs, List.mem_cons, List.not_mem_nil, or_false] at h
  rcases h with rfl | rfl | rfl | rfl | rfl | rfl | rfl | rfl | rfl | rfl <;> simp [signAt, signs, List.find?]
end T85

/-! The mathematics of law k85: things. -/
namespace T85
open PySem L2 TL

def Tk.d : Tk → PyData
  | .num n => .int n
  | .txt s => .str s
abbrev St3 := List (List PyData)
def push (d : PyData) : St3 → St3
  | a :: r => (a ++ [d]) :: r
  | [] => []
def popd : St3 → St3
  | a :: b :: r => (b ++ [.tuple a]) :: r
  | st => st
def opn : Str := "("
def cls : Str := ")"
/-- one token, the innermost list first -/
def bstep (st : St3) (t : Tk) : St3 :=
  if t = .txt opn then [] :: st else if t = .txt cls then popd st else push t.d st
def bl (st : St3) (ts : List Tk) : St3 := ts.foldl bstep st
theorem tl_opn : TL.tl opn = [40] := by decide +kernel
theorem tl_cls : TL.tl cls = [41] := by decide +kernel
theorem opn_ne : opn ≠ cls := by decide +kernel
theorem kd_opn : (Tk.txt opn).kd = .sign := by decide +kernel
theorem kd_cls : (Tk.txt cls).kd = .sign := by decide +kernel

/-- the program's reading -/
def rd : St3 → List (Tk × Nat) → Nat → Except (Nat × Str) PyData
  | st, [], e => if 1 < st.length then .error (e, "thing") else match st with
    | (x :: _) :: _ => .ok x
    | _ => .error (e, "thing")
  | st, (t, c) :: r, e =>
    if st.length = 1 ∧ (st.getLastD []).length = 1 then .error (c, "end")
    else if t.kd ≠ .sign then rd (push t.d st) r e
    else if t = .txt opn then (if 8 < st.length then .error (c, "deep") else rd ([] :: st) r e)
    else if t = .txt cls ∧ 1 < st.length then rd (popd st) r e
    else .error (c, "thing")
/-- the law's look -/
def lf : Nat → Bool → List (Tk × Nat) → Nat → Option (Nat × Str)
  | _, done, [], e => if done = true then none else some (e, "thing")
  | d, done, (t, c) :: r, e =>
    if done = true then some (c, "end")
    else if t = .txt opn ∧ d = 8 then some (c, "deep")
    else if t.kd = .sign ∧ ((t ≠ .txt opn ∧ t ≠ .txt cls) ∨ (t = .txt cls ∧ d = 0)) then some (c, "thing")
    else
      let d' := if t = .txt opn then d + 1 else if t = .txt cls then d - 1 else d
      lf d' (decide (d' = 0)) r e

theorem push_len (d : PyData) (st : St3) : (push d st).length = st.length := by
  cases st <;> rfl
theorem kd_of {t : Tk} (h : t.kd ≠ .sign) : t ≠ .txt opn ∧ t ≠ .txt cls :=
  ⟨fun e => h (by rw [e]; exact kd_opn), fun e => h (by rw [e]; exact kd_cls)⟩

/-- the state at a depth -/
def AtDepth (st : St3) (d : Nat) (done : Bool) : Prop := st.length = d + 1 ∧ (done = true → ∃ x, st = [[x]]) ∧ (done = false → st.getLast? = some [])
theorem AtDepth.zero {st : St3} (h : AtDepth st 0 false) : st = [[]] := by
  obtain ⟨h1, _, h3⟩ := h
  match st, h1 with
  | [x], _ =>
    have e : some x = some [] := h3 rfl
    rw [Option.some.inj e]
theorem AtDepth.one {st : St3} {d : Nat} {done : Bool} (h : AtDepth st d done) : (st.length = 1 ∧ (st.getLastD []).length = 1) ↔ done = true := by
  cases done with
  | true =>
    obtain ⟨h1, h2, h3⟩ := h
    obtain ⟨x, rfl⟩ := h2 rfl
    simp
  | false =>
    constructor
    · rintro ⟨a, b⟩
      obtain ⟨h1, h2, h3⟩ := id h
      have hd : d = 0 := by omega
      subst hd
      rw [h.zero] at b
      simp at b
    · intro z; cases z
theorem AtDepth.opn {st : St3} {d : Nat} (h : AtDepth st d false) : AtDepth ([] :: st) (d + 1) false := by
  obtain ⟨h1, _, h3⟩ := h
  refine ⟨by rw [List.length_cons, h1], fun z => Bool.noConfusion z, fun _ => ?_⟩
  cases st with
  | nil => simp at h1
  | cons x r => rw [List.getLast?_cons_cons]; exact h3 rfl
theorem AtDepth.pop {st : St3} {d : Nat} (h : AtDepth st d false) (hd : d ≠ 0) : AtDepth (popd st) (d - 1) (decide (d - 1 = 0)) := by
  obtain ⟨h1, _, h3⟩ := h
  match st, h1, h3 with
  | [x], h1, _ => simp at h1; omega
  | x1 :: x2 :: xr, h1, h3 =>
    have hl : (popd (x1 :: x2 :: xr)).length = d - 1 + 1 := by
      show ((x2 ++ [PyData.tuple x1]) :: xr).length = _
      simp only [List.length_cons] at h1 ⊢
      omega
    refine ⟨hl, fun z => ?_, fun z => ?_⟩
    · have z' := of_decide_eq_true z
      have e : xr = [] := by
        cases xr with
        | nil => rfl
        | cons _ _ => simp only [List.length_cons] at h1; omega
      subst e
      have e2 := h3 rfl
      rw [List.getLast?_cons_cons] at e2
      have e3 : some x2 = some [] := e2
      rw [Option.some.inj e3]
      exact ⟨_, rfl⟩
    · have z' := of_decide_eq_false z
      have e2 := h3 rfl
      rw [List.getLast?_cons_cons] at e2
      cases xr with
      | nil => simp only [List.length_cons, List.length_nil] at h1; omega
      | cons y yr =>
        rw [List.getLast?_cons_cons] at e2
        show ((x2 ++ [PyData.tuple x1]) :: y :: yr).getLast? = _
        rw [List.getLast?_cons_cons]
        exact e2
theorem AtDepth.push {st : St3} {d : Nat} (h : AtDepth st d false) (x : PyData) : AtDepth (push x st) d (decide (d = 0)) := by
  refine ⟨by rw [push_len]; exact h.1, fun z => ?_, fun z => ?_⟩
  · have e := of_decide_eq_true z
    subst e
    rw [h.zero]
    exact ⟨_, rfl⟩
  · have z' := of_decide_eq_false z
    obtain ⟨h1, _, h3⟩ := h
    match st, h1, h3 with
    | [y], h1, _ => simp at h1; omega
    | y :: y2 :: r, h1, h3 =>
      have e2 := h3 rfl
      rw [List.getLast?_cons_cons] at e2
      show ((y ++ [x]) :: y2 :: r).getLast? = _
      rw [List.getLast?_cons_cons]
      exact e2
def ended (o : St3) (e : Nat) : Except (Nat × Str) PyData := match o with
  | (x :: _) :: _ => .ok x
  | _ => .error (e, "thing")
theorem rd_lf : ∀ (r : List (Tk × Nat)) (st : St3) (d : Nat) (done : Bool) (e : Nat), AtDepth st d done → d ≤ 8 →
    rd st r e = match lf d done r e with
      | some f => .error f
      | none => ended (bl st (r.map (·.1))) e
  | [], st, d, done, e, h, _ => by
    unfold rd lf
    cases done with
    | true =>
      obtain ⟨h1, h2, h3⟩ := h
      obtain ⟨x, rfl⟩ := h2 rfl
      simp [bl, ended]
    | false =>
      by_cases q : 1 < st.length
      · rw [if_pos q]
        simp
      · have hd0 : d = 0 := by have := h.1; omega
        subst hd0
        have e' := h.zero
        subst e'
        simp
  | (t, c) :: r, st, d, done, e, h, hd => by
    have one := h.one
    have h1 := h.1
    unfold rd lf
    cases done with
    | true =>
      rw [if_pos (one.mpr rfl), if_pos rfl]
    | false =>
      rw [if_neg (fun z => by have := one.mp z; cases this), if_neg Bool.false_ne_true]
      by_cases k : t.kd = .sign
      · rw [if_neg (fun z => z k)]
        by_cases a : t = .txt T85.opn
        · subst a
          rw [if_pos rfl]
          by_cases b : d = 8
          · rw [if_pos (by omega), if_pos (show (Tk.txt T85.opn = Tk.txt T85.opn ∧ d = 8) from ⟨rfl, b⟩)]
          · rw [if_neg (by omega), if_neg (show ¬ (Tk.txt T85.opn = Tk.txt T85.opn ∧ d = 8) from fun z => b z.2), if_neg (show ¬ ((Tk.txt T85.opn).kd = .sign ∧ ((Tk.txt T85.opn ≠ .txt T85.opn ∧ Tk.txt T85.opn ≠ .txt cls) ∨ (Tk.txt T85.opn = .txt cls ∧ d = 0))) from fun z => by
              rcases z.2 with ⟨z1, _⟩ | ⟨z1, _⟩
              · exact z1 rfl
              · exact opn_ne (Tk.txt.inj z1))]
            simp only [if_true]
            have ih := rd_lf r ([] :: st) (d + 1) false e h.opn (by omega)
            rw [ih]
            have e1 : decide (d + 1 = 0) = false := decide_eq_false (by omega)
            rw [e1]
            have e2 : bl st (((Tk.txt T85.opn, c) :: r).map (·.1)) = bl ([] :: st) (r.map (·.1)) := by
              show bl (bstep st (.txt T85.opn)) _ = _
              rw [show bstep st (.txt T85.opn) = [] :: st from if_pos rfl]
            rw [e2]
        · rw [if_neg a, if_neg (show ¬ (t = Tk.txt T85.opn ∧ d = 8) from fun z => a z.1)]
          by_cases b : t = .txt cls
          · subst b
            by_cases q : d = 0
            · rw [if_neg (show ¬ (Tk.txt cls = Tk.txt cls ∧ 1 < st.length) from fun z => by omega), if_pos (show ((Tk.txt cls).kd = .sign ∧ ((Tk.txt cls ≠ .txt T85.opn ∧ Tk.txt cls ≠ .txt cls) ∨ (Tk.txt cls = .txt cls ∧ d = 0))) from ⟨k, .inr ⟨rfl, q⟩⟩)]
            · rw [if_pos (show (Tk.txt cls = Tk.txt cls ∧ 1 < st.length) from ⟨rfl, by omega⟩), if_neg (show ¬ ((Tk.txt cls).kd = .sign ∧ ((Tk.txt cls ≠ .txt T85.opn ∧ Tk.txt cls ≠ .txt cls) ∨ (Tk.txt cls = .txt cls ∧ d = 0))) from fun z => by
                rcases z.2 with ⟨_, z2⟩ | ⟨_, z2⟩
                · exact z2 rfl
                · exact q z2)]
              simp only [if_neg a, if_true]
              have ih := rd_lf r (popd st) (d - 1) (decide (d - 1 = 0)) e (h.pop q) (by omega)
              rw [ih]
              have e2 : bl st (((Tk.txt cls, c) :: r).map (·.1)) = bl (popd st) (r.map (·.1)) := by
                show bl (bstep _ (.txt cls)) _ = _
                rw [show bstep st (.txt cls) = popd st from (if_neg a).trans (if_pos rfl)]
              rw [e2]
          · rw [if_neg (show ¬ (t = Tk.txt cls ∧ 1 < st.length) from fun z => b z.1), if_pos (show (t.kd = .sign ∧ ((t ≠ .txt T85.opn ∧ t ≠ .txt cls) ∨ (t = .txt cls ∧ d = 0))) from ⟨k, .inl ⟨a, b⟩⟩)]
      · rw [if_pos k]
        obtain ⟨a, b⟩ := kd_of k
        rw [if_neg (show ¬ (t = Tk.txt T85.opn ∧ d = 8) from fun z => a z.1), if_neg (show ¬ (t.kd = .sign ∧ ((t ≠ .txt T85.opn ∧ t ≠ .txt cls) ∨ (t = .txt cls ∧ d = 0))) from fun z => k z.1)]
        simp only [if_neg a, if_neg b]
        have ih := rd_lf r (T85.push t.d st) d (decide (d = 0)) e (h.push t.d) hd
        rw [ih]
        have e2 : bl st (((t, c) :: r).map (·.1)) = bl (T85.push t.d st) (r.map (·.1)) := by
          show bl (bstep st t) _ = _
          rw [show bstep st t = T85.push t.d st from (if_neg a).trans (if_neg b)]
        rw [e2]

/-! ### rows that tell a thing -/
/-- from a depth on the tokens end at the thing's own end -/
def Bal : Nat → List Tk → Prop
  | _, [] => False
  | d, t :: r => if t = .txt opn then Bal (d + 1) r else if t = .txt cls then (1 ≤ d ∧ if d = 1 then r = [] else Bal (d - 1) r) else if d = 0 then r = [] else Bal d r
/-- the law's look finds no fault: so it is -/
theorem bal_of_lf : ∀ (r : List (Tk × Nat)) (d : Nat) (e : Nat), lf d false r e = none → Bal d (r.map (·.1))
  | [], d, e, h => by simp [lf] at h
  | (t, c) :: r, d, e, h => by
    have tail : ∀ d', lf d' (decide (d' = 0)) r e = none → (if d' = 0 then r = [] else Bal d' (r.map (·.1))) := fun d' h' => by
      by_cases z : d' = 0
      · rw [if_pos z]
        rw [decide_eq_true z] at h'
        cases r with
        | nil => rfl
        | cons x r =>
          obtain ⟨t', c'⟩ := x
          simp [lf] at h'
      · rw [if_neg z]
        rw [decide_eq_false z] at h'
        exact bal_of_lf r d' e h'
    unfold lf at h
    rw [if_neg Bool.false_ne_true] at h
    split at h
    · cases h
    · split at h
      · cases h
      · rename_i g1 g2
        show (if t = .txt opn then Bal (d + 1) (r.map (·.1)) else if t = .txt cls then (1 ≤ d ∧ if d = 1 then r.map (·.1) = [] else Bal (d - 1) (r.map (·.1))) else if d = 0 then r.map (·.1) = [] else Bal d (r.map (·.1)))
        by_cases a : t = .txt opn
        · rw [if_pos a]
          simp only [if_pos a] at h
          have := tail (d + 1) h
          rwa [if_neg (by omega)] at this
        · rw [if_neg a]
          by_cases b : t = .txt cls
          · rw [if_pos b]
            simp only [if_neg a, if_pos b] at h
            have hd : d ≠ 0 := fun z => g2 ⟨by rw [b]; exact kd_cls, .inr ⟨b, z⟩⟩
            refine ⟨by omega, ?_⟩
            have := tail (d - 1) h
            by_cases q : d = 1
            · rw [if_pos q]
              rw [if_pos (by omega)] at this
              rw [this]; rfl
            · rw [if_neg q]
              rwa [if_neg (by omega)] at this
          · rw [if_neg b]
            simp only [if_neg a, if_neg b] at h
            have := tail d h
            by_cases q : d = 0
            · rw [if_pos q]
              rw [if_pos q] at this
              rw [this]; rfl
            · rw [if_neg q]
              rwa [if_neg q] at this
/-- what the building makes of such a row: one thing -/
theorem bl_bal : ∀ (r : List Tk) (st : St3) (d : Nat), AtDepth st d false → Bal d r → ∃ x, bl st r = [[x]]
  | [], _, _, _, h => h.elim
  | t :: r, st, d, hA, h => by
    have h' : (if t = .txt opn then Bal (d + 1) r else if t = .txt cls then (1 ≤ d ∧ if d = 1 then r = [] else Bal (d - 1) r) else if d = 0 then r = [] else Bal d r) := h
    show ∃ x, bl (bstep st t) r = [[x]]
    by_cases a : t = .txt opn
    · rw [if_pos a] at h'
      rw [show bstep st t = [] :: st from if_pos a]
      exact bl_bal r _ _ hA.opn h'
    · rw [if_neg a] at h'
      by_cases b : t = .txt cls
      · rw [if_pos b] at h'
        rw [show bstep st t = popd st from (if_neg a).trans (if_pos b)]
        have hp := hA.pop (by omega)
        by_cases q : d = 1
        · rw [if_pos q] at h'
          rw [h'.2]
          obtain ⟨_, p2, _⟩ := hp
          exact p2 (decide_eq_true (by omega))
        · rw [if_neg q] at h'
          rw [decide_eq_false (by omega)] at hp
          exact bl_bal r _ _ hp h'.2
      · rw [if_neg b] at h'
        rw [show bstep st t = T85.push t.d st from (if_neg a).trans (if_neg b)]
        have hp := hA.push t.d
        by_cases q : d = 0
        · rw [if_pos q] at h'
          rw [h']
          obtain ⟨_, p2, _⟩ := hp
          exact p2 (decide_eq_true q)
        · rw [if_neg q] at h'
          rw [decide_eq_false q] at hp
          exact bl_bal r _ _ hp h'
theorem at0 : AtDepth [[]] 0 false := ⟨rfl, fun z => Bool.noConfusion z, fun _ => rfl⟩

/-! ### the words of a thing -/
mutual
def words : PyData → List Str
  | .int i => [Str.ofString (toString i)]
  | .str s => [s]
  | .tuple ds => opn :: (wordsAll ds ++ [cls])
  | _ => []
def wordsAll : List PyData → List Str
  | [] => []
  | d :: ds => words d ++ wordsAll ds
end
theorem wordsAll_append (a b : List PyData) : wordsAll (a ++ b) = wordsAll a ++ wordsAll b := by
  induction a with
  | nil => rfl
  | cons x a ih =>
    show words x ++ wordsAll (a ++ b) = (words x ++ wordsAll a) ++ wordsAll b
    rw [ih, List.append_assoc]
theorem words_d (t : Tk) : words t.d = [t.str] := by
  cases t <;> simp [Tk.d, Tk.str, words]
def flatW : St3 → List Str
  | [] => []
  | [a] => wordsAll a
  | a :: r => flatW r ++ (opn :: wordsAll a)
theorem flat_push (t : Tk) : ∀ st : St3, st ≠ [] → flatW (T85.push t.d st) = flatW st ++ [t.str]
  | [a], _ => by
    show wordsAll (a ++ [t.d]) = _
    rw [wordsAll_append]
    show wordsAll a ++ (words t.d ++ []) = wordsAll a ++ [t.str]
    rw [words_d, List.append_nil]
  | a :: b :: r, _ => by
    show flatW (b :: r) ++ (opn :: wordsAll (a ++ [t.d])) = (flatW (b :: r) ++ (opn :: wordsAll a)) ++ [t.str]
    rw [wordsAll_append]
    show flatW (b :: r) ++ (opn :: (wordsAll a ++ (words t.d ++ []))) = _
    rw [words_d, List.append_nil, List.append_assoc, List.cons_append]
theorem flat_pop (a b : List PyData) (r : St3) : flatW (popd (a :: b :: r)) = flatW (a :: b :: r) ++ [cls] := by
  cases r with
  | nil =>
    show wordsAll (b ++ [.tuple a]) = (wordsAll b ++ (opn :: wordsAll a)) ++ [cls]
    rw [wordsAll_append]
    show wordsAll b ++ ((opn :: (wordsAll a ++ [cls])) ++ []) = _
    rw [List.append_nil, List.append_assoc, List.cons_append]
  | cons c r =>
    show flatW (c :: r) ++ (opn :: wordsAll (b ++ [.tuple a])) = ((flatW (c :: r) ++ (opn :: wordsAll b)) ++ (opn :: wordsAll a)) ++ [cls]
    rw [wordsAll_append]
    show flatW (c :: r) ++ (opn :: (wordsAll b ++ ((opn :: (wordsAll a ++ [cls])) ++ []))) = _
    simp only [List.append_nil, List.append_assoc, List.cons_append]
theorem flat_bal : ∀ (r : List Tk) (st : St3) (d : Nat), AtDepth st d false → Bal d r → flatW (bl st r) = flatW st ++ r.map Tk.str
  | [], _, _, _, h => h.elim
  | t :: r, st, d, hA, h => by
    have h' : (if t = .txt opn then Bal (d + 1) r else if t = .txt cls then (1 ≤ d ∧ if d = 1 then r = [] else Bal (d - 1) r) else if d = 0 then r = [] else Bal d r) := h
    have hne : st ≠ [] := fun z => by have := hA.1; rw [z] at this; cases this
    show flatW (bl (bstep st t) r) = flatW st ++ (t.str :: r.map Tk.str)
    by_cases a : t = .txt opn
    · rw [if_pos a] at h'
      rw [show bstep st t = [] :: st from if_pos a, flat_bal r _ _ hA.opn h']
      obtain ⟨x, xr, rfl⟩ : ∃ x xr, st = x :: xr := by
        cases st with
        | nil => exact absurd rfl hne
        | cons x xr => exact ⟨x, xr, rfl⟩
      show (flatW (x :: xr) ++ (opn :: [])) ++ r.map Tk.str = _
      rw [a, List.append_assoc]
      rfl
    · rw [if_neg a] at h'
      by_cases b : t = .txt cls
      · rw [if_pos b] at h'
        rw [show bstep st t = popd st from (if_neg a).trans (if_pos b)]
        have hp := hA.pop (by omega)
        have e : flatW (popd st) = flatW st ++ [cls] := by
          match st, hA with
          | [x], hA => have := hA.1; simp at this; omega
          | x1 :: x2 :: xr, _ => exact flat_pop x1 x2 xr
        by_cases q : d = 1
        · rw [if_pos q] at h'
          rw [h'.2, b]
          show flatW (popd st) = _
          rw [e]
          rfl
        · rw [if_neg q] at h'
          rw [decide_eq_false (by omega)] at hp
          rw [flat_bal r _ _ hp h'.2, e, b, List.append_assoc]
          rfl
      · rw [if_neg b] at h'
        rw [show bstep st t = T85.push t.d st from (if_neg a).trans (if_neg b)]
        have hp := hA.push t.d
        by_cases q : d = 0
        · rw [if_pos q] at h'
          rw [h']
          show flatW (T85.push t.d st) = _
          rw [flat_push t st hne]
          rfl
        · rw [if_neg q] at h'
          rw [decide_eq_false q] at hp
          rw [flat_bal r _ _ hp h', flat_push t st hne, List.append_assoc]
          rfl
/-- the words of the thing that a row tells are the row's texts -/
theorem words_built {r : List Tk} {x : PyData} (h : Bal 0 r) (e : bl [[]] r = [[x]]) : words x = r.map Tk.str := by
  have q := flat_bal r [[]] 0 at0 h
  rw [e] at q
  have q2 : words x ++ [] = [] ++ r.map Tk.str := q
  rw [List.append_nil, List.nil_append] at q2
  exact q2
end T85

/-! The data of law k85: what repr and == ask of it. -/
namespace T85
open PySem L2 TL
mutual
def lvs : PyData → Bool
  | .int i => decide (0 ≤ i) && decide (i < 10 ^ 40)
  | .str s => (TL.tl s).all (fun c => decide (c < 128)) && decide ((TL.tl s).length ≤ 40)
  | .tuple ds => lvsAll ds
  | _ => false
def lvsAll : List PyData → Bool
  | [] => true
  | d :: ds => lvs d && lvsAll ds
end
theorem int_small {i : Int} (h0 : 0 ≤ i) (h1 : i < 10 ^ 40) : i.natAbs.log2 < 140 ∧ (PyData.shown (.int i)).length ≤ 60 := by
  obtain ⟨n, rfl⟩ := Int.eq_ofNat_of_zero_le h0
  have h2 : n < 10 ^ 40 := by
    have : ((10 : Int) ^ 40) = ((10 ^ 40 : Nat) : Int) := by decide +kernel
    rw [this] at h1
    exact Int.ofNat_lt.mp h1
  refine ⟨?_, ?_⟩
  · rw [Int.natAbs_natCast]
    by_cases hz : n = 0
    · subst hz; decide
    · exact (Nat.log2_lt hz).mpr (Nat.lt_trans h2 (by decide +kernel))
  · have e : PyData.shown (.int ((n : Nat) : Int)) = Str.ofString (toString ((n : Nat) : Int)) := by rw [PyData.shown]
    rw [e, len_tl, tl_num]
    exact Nat.le_trans (numL_len (k := 40) (by decide) h2) (by decide)
mutual
theorem lvs_facts : ∀ d : PyData, lvs d = true → d.canLay0 = true ∧ d.showable = true ∧ d.leavesShort 60 = true ∧ d.hasDict = false ∧ d.weight + 1 ≤ 141 * (words d).length
  | .int i, h => by
    simp only [lvs, Bool.and_eq_true, decide_eq_true_eq] at h
    obtain ⟨h1, h2⟩ := int_small h.1 h.2
    refine ⟨rfl, ?_, ?_, rfl, ?_⟩
    · simp only [PyData.showable, decide_eq_true_eq]; omega
    · simp only [PyData.leavesShort, decide_eq_true_eq]; exact h2
    · show (if i == 0 then 0 else i.natAbs.log2 + 1) + 1 ≤ 141 * 1
      split <;> omega
  | .str s, h => by
    simp only [lvs, Bool.and_eq_true, decide_eq_true_eq, List.all_eq_true] at h
    have ha : ∀ c ∈ s.cps.toList, c < 128 := fun c hc => h.1 c hc
    refine ⟨?_, rfl, ?_, rfl, ?_⟩
    · show (s.cps.all (· < 0x110000)) = true
      rw [← Array.all_toList, List.all_eq_true]
      intro c hc
      rw [decide_eq_true_eq]
      exact Nat.lt_trans (ha c hc) (by decide)
    · show (s.cps.toList.all fun c => decide (c < 16 ^ 8)) = true
      rw [List.all_eq_true]
      intro c hc
      rw [decide_eq_true_eq]
      exact Nat.lt_trans (ha c hc) (by decide)
    · show s.cps.size + 1 ≤ 141 * 1
      have : s.cps.size = (TL.tl s).length := len_tl s
      omega
  | .tuple ds, h => by
    obtain ⟨h1, h2, h3, h4, h5⟩ := lvsAll_facts ds (by simpa [lvs] using h)
    refine ⟨by simpa [PyData.canLay0] using h1, by simpa [PyData.showable] using h2, by simpa [PyData.leavesShort] using h3, by simpa [PyData.hasDict] using h4, ?_⟩
    have e : (words (.tuple ds)).length = (wordsAll ds).length + 2 := by rw [words]; simp
    have e2 : (PyData.tuple ds).weight = PyData.weightAll ds := by rw [PyData.weight]
    rw [e, e2]
    omega
  | .list _, h => by simp [lvs] at h
  | .none, h => by simp [lvs] at h
  | .bool _, h => by simp [lvs] at h
  | .dict _, h => by simp [lvs] at h
theorem lvsAll_facts : ∀ ds : List PyData, lvsAll ds = true → PyData.canLayAll0 ds = true ∧ PyData.showableAll ds = true ∧ PyData.leavesShortAll 60 ds = true ∧ PyData.hasDictAll ds = false ∧ PyData.weightAll ds ≤ 141 * (wordsAll ds).length
  | [], _ => ⟨rfl, rfl, rfl, rfl, Nat.zero_le _⟩
  | d :: ds, h => by
    simp only [lvsAll, Bool.and_eq_true] at h
    obtain ⟨a1, a2, a3, a4, a5⟩ := lvs_facts d h.1
    obtain ⟨b1, b2, b3, b4, b5⟩ := lvsAll_facts ds h.2
    refine ⟨by rw [PyData.canLayAll0, a1, b1]; rfl, by rw [PyData.showableAll, a2, b2]; rfl, by rw [PyData.leavesShortAll, a3, b3]; rfl, by rw [PyData.hasDictAll, a4, b4]; rfl, ?_⟩
    have e : (wordsAll (d :: ds)).length = (words d).length + (wordsAll ds).length := by rw [wordsAll, List.length_append]
    have e2 : PyData.weightAll (d :: ds) = d.weight + 1 + PyData.weightAll ds := by rw [PyData.weightAll]
    rw [e, e2]
    omega
end
theorem tk_chars {t : Tk} (h : t.Ok) : ∀ c ∈ t.tl, c < 128 := by
  obtain ⟨c, r, e, _, _, hs⟩ := h.shape
  intro x hx
  rcases hs with ⟨_, _, ha, _⟩ | ⟨_, _, _, ha, _⟩ | ⟨_, _, _, ha⟩
  · have := ha x hx
    simp only [aln, Bool.or_eq_true] at this
    rcases this with h | h
    · have := letter_iff.mp h; omega
    · have := fig_iff.mp h; omega
  · have := fig_iff.mp (ha x hx); omega
  · have key : ∀ l ∈ signs, ∀ c ∈ l, c < 128 := by decide
    exact key _ ha x hx
theorem tk_lvs {t : Tk} (h : t.Ok) : lvs t.d = true := by
  cases t with
  | num n =>
    simp only [Tk.d, lvs, Bool.and_eq_true, decide_eq_true_eq]
    refine ⟨Int.natCast_nonneg _, ?_⟩
    have : ((10 : Int) ^ 40) = ((10 ^ 40 : Nat) : Int) := by decide +kernel
    rw [this]
    exact Int.ofNat_lt.mpr h
  | txt s =>
    show ((TL.tl s).all (fun c => decide (c < 128)) && decide ((TL.tl s).length ≤ 40)) = true
    rw [Bool.and_eq_true, decide_eq_true_eq, List.all_eq_true]
    obtain ⟨_, _, _, _, h40, _⟩ := h.shape
    exact ⟨fun c hc => decide_eq_true (tk_chars h c hc), h40⟩
theorem lvsAll_app : ∀ {a b : List PyData}, lvsAll a = true → lvsAll b = true → lvsAll (a ++ b) = true
  | [], _, _, hb => hb
  | x :: a, b, ha, hb => by
    simp only [lvsAll, Bool.and_eq_true] at ha
    rw [List.cons_append, lvsAll, ha.1, lvsAll_app ha.2 hb]
    rfl
theorem bl_lvs : ∀ (ts : List Tk) (st : St3), (∀ ds ∈ st, lvsAll ds = true) → (∀ t ∈ ts, t.Ok) → ∀ ds ∈ bl st ts, lvsAll ds = true
  | [], _, h, _ => h
  | t :: ts, st, h, ho => by
    refine bl_lvs ts (bstep st t) ?_ fun u hu => ho u (List.mem_cons_of_mem _ hu)
    have ht := ho t List.mem_cons_self
    unfold bstep
    split
    · intro ds hd
      rcases List.mem_cons.mp hd with rfl | hd
      · rfl
      · exact h ds hd
    · split
      · cases st with
        | nil => exact h
        | cons a r =>
          cases r with
          | nil => exact h
          | cons b r =>
            intro ds hd
            rcases List.mem_cons.mp hd with rfl | hd
            · refine lvsAll_app (h b (by simp)) ?_
              have ha := h a (by simp)
              show (lvs (.tuple a) && true) = true
              rw [Bool.and_true]
              simpa [lvs] using ha
            · exact h ds (by simp [hd])
      · cases st with
        | nil => intro ds hd; cases hd
        | cons a r =>
          intro ds hd
          rcases List.mem_cons.mp hd with rfl | hd
          · refine lvsAll_app (h a (by simp)) ?_
            show (lvs t.d && true) = true
            rw [tk_lvs ht]; rfl
          · exact h ds (by simp [hd])
/-! ### depth -/
def DepOk : St3 → Prop
  | [] => True
  | a :: r => PyData.depthAll a + r.length ≤ 8 ∧ DepOk r
theorem depthAll_app (a b : List PyData) : PyData.depthAll (a ++ b) = max (PyData.depthAll a) (PyData.depthAll b) := by
  induction a with
  | nil => simp [PyData.depthAll]
  | cons x a ih => rw [List.cons_append, PyData.depthAll, PyData.depthAll, ih]; omega
theorem depth_tk (t : Tk) : t.d.depth = 0 := by cases t <;> rfl
theorem dep_lf : ∀ (r : List (Tk × Nat)) (st : St3) (d : Nat) (done : Bool) (e : Nat), AtDepth st d done → d ≤ 8 → DepOk st → lf d done r e = none → DepOk (bl st (r.map (·.1)))
  | [], st, d, done, e, _, _, h, _ => h
  | (t, c) :: r, st, d, done, e, hA, hd, hD, h => by
    unfold lf at h
    cases done with
    | true => rw [if_pos rfl] at h; cases h
    | false =>
      rw [if_neg Bool.false_ne_true] at h
      split at h
      · cases h
      · rename_i g1
        split at h
        · cases h
        · rename_i g2
          show DepOk (bl (bstep st t) (r.map (·.1)))
          have h1 := hA.1
          by_cases a : t = .txt opn
          · simp only [if_pos a] at h
            rw [show bstep st t = [] :: st from if_pos a]
            have hd8 : d ≠ 8 := fun z => g1 ⟨a, z⟩
            refine dep_lf r _ (d + 1) false e hA.opn (by omega) ⟨?_, hD⟩ (by rw [decide_eq_false (by omega)] at h; exact h)
            show 0 + st.length ≤ 8
            omega
          · by_cases b : t = .txt cls
            · simp only [if_neg a, if_pos b] at h
              rw [show bstep st t = popd st from (if_neg a).trans (if_pos b)]
              have hdz : d ≠ 0 := fun z => g2 ⟨by rw [b]; exact kd_cls, .inr ⟨b, z⟩⟩
              refine dep_lf r _ (d - 1) _ e (hA.pop hdz) (by omega) ?_ h
              match st, h1, hD with
              | [x], h1, _ => simp at h1; omega
              | x1 :: x2 :: xr, h1, hD =>
                obtain ⟨e1, e2, e3⟩ := hD
                refine ⟨?_, e3⟩
                rw [depthAll_app]
                have : PyData.depthAll [PyData.tuple x1] = PyData.depthAll x1 + 1 := by
                  rw [PyData.depthAll, PyData.depth]; simp [PyData.depthAll]
                rw [this]
                simp only [List.length_cons] at e1 h1
                omega
            · simp only [if_neg a, if_neg b] at h
              rw [show bstep st t = T85.push t.d st from (if_neg a).trans (if_neg b)]
              refine dep_lf r _ d _ e (hA.push t.d) hd ?_ h
              match st, h1, hD with
              | x1 :: xr, h1, hD =>
                obtain ⟨e1, e2⟩ := hD
                refine ⟨?_, e2⟩
                rw [depthAll_app]
                have : PyData.depthAll [t.d] = 0 := by
                  rw [PyData.depthAll, depth_tk]; simp [PyData.depthAll]
                rw [this]
                omega
/-- what repr and == ask of a thing -/
theorem thing_ok {ts : List (Tk × Nat)} {e : Nat} {x : PyData} (hok : ∀ t ∈ ts, t.1.Ok) (hn : ts.length ≤ 1000) (h : lf 0 false ts e = none) (hb : bl [[]] (ts.map (·.1)) = [[x]]) :
    x.showable = true ∧ x.hasDict = false ∧ x.depth ≤ 60 ∧ x.shown.length ≤ sizeLine ∧ x.canLay0 = true := by
  have h1 := dep_lf ts [[]] 0 false e at0 (by decide) ⟨by simp [PyData.depthAll], trivial⟩ h
  rw [hb] at h1
  have hd : x.depth ≤ 8 := by
    obtain ⟨h2, _⟩ := h1
    have : PyData.depthAll [x] = x.depth := by rw [PyData.depthAll]; simp [PyData.depthAll]
    rw [this] at h2
    exact h2
  have h2 := bl_lvs (ts.map (·.1)) [[]] (fun ds hd => by rw [List.mem_singleton.mp hd]; rfl) (fun t ht => by
    obtain ⟨u, hu, rfl⟩ := List.mem_map.mp ht
    exact hok u hu) [x] (by rw [hb]; exact List.mem_singleton.mpr rfl)
  have h3 : lvs x = true := by
    simp only [lvsAll, Bool.and_true] at h2
    exact h2
  obtain ⟨a1, a2, a3, a4, a5⟩ := lvs_facts x h3
  have hw := words_built (bal_of_lf ts 0 e h) hb
  have hl : (words x).length ≤ 1000 := by rw [hw, List.length_map, List.length_map]; exact hn
  refine ⟨a2, a4, by omega, ?_, a1⟩
  have h5 := PyData.shown_le 60 (by decide) x a3
  refine Nat.le_trans h5 ?_
  rw [sizeLine_eq]
  have : (60 + 2) * x.weight ≤ 62 * 141000 := Nat.mul_le_mul_left _ (by omega)
  omega
/-! ### rows of tokens -/
def rowD (ts : List (Tk × Nat)) : PyData := .list (ts.map fun t => .tuple [.str t.1.kd.str, t.1.d, .int t.2])
theorem tokD_ok {t : Tk × Nat} (h : t.1.Ok) (hc : t.2 < 10 ^ 15) : lvs (.tuple [.str t.1.kd.str, t.1.d, .int t.2]) = true := by
  have k : lvs (.str t.1.kd.str) = true := by cases t.1.kd <;> decide +kernel
  have c : lvs (.int t.2) = true := by
    simp only [lvs, Bool.and_eq_true, decide_eq_true_eq]
    refine ⟨Int.natCast_nonneg _, ?_⟩
    have : ((10 : Int) ^ 40) = ((10 ^ 40 : Nat) : Int) := by decide +kernel
    rw [this]
    exact Int.ofNat_lt.mpr (Nat.lt_trans hc (by decide))
  rw [lvs, lvsAll, lvsAll, lvsAll, lvsAll, k, tk_lvs h, c]
  rfl
theorem row_ok {ts : List (Tk × Nat)} (hok : ∀ t ∈ ts, t.1.Ok ∧ t.2 < 10 ^ 15) (hn : ts.length ≤ 350) : (rowD ts).showable = true ∧ (rowD ts).hasDict = false ∧ (rowD ts).depth ≤ 60 ∧ (rowD ts).shown.length ≤ sizeLine := by
  have key : ∀ l : List (Tk × Nat), (∀ t ∈ l, t.1.Ok ∧ t.2 < 10 ^ 15) → lvsAll (l.map fun t => .tuple [.str t.1.kd.str, t.1.d, .int t.2]) = true ∧ PyData.depthAll (l.map fun t => .tuple [.str t.1.kd.str, t.1.d, .int t.2]) ≤ 1 ∧
      (wordsAll (l.map fun t => .tuple [.str t.1.kd.str, t.1.d, .int t.2])).length = 5 * l.length := by
    intro l
    induction l with
    | nil => intro _; exact ⟨rfl, Nat.zero_le _, rfl⟩
    | cons t l ih =>
      intro h
      obtain ⟨i1, i2, i3⟩ := ih fun u hu => h u (List.mem_cons_of_mem _ hu)
      have ht := h t List.mem_cons_self
      refine ⟨?_, ?_, ?_⟩
      · rw [List.map_cons, lvsAll, tokD_ok ht.1 ht.2, i1]; rfl
      · rw [List.map_cons, PyData.depthAll, PyData.depth]
        have : PyData.depthAll [PyData.str t.1.kd.str, t.1.d, PyData.int t.2] = 0 := by
          simp [PyData.depthAll, PyData.depth, depth_tk]
        rw [this]
        omega
      · rw [List.map_cons, wordsAll, List.length_append, i3]
        have : (words (.tuple [.str t.1.kd.str, t.1.d, .int t.2])).length = 5 := by
          rw [words]
          simp [wordsAll, words, words_d]
        rw [this, List.length_cons]
        omega
  obtain ⟨k1, k2, k3⟩ := key ts hok
  obtain ⟨a1, a2, a3, a4, a5⟩ := lvsAll_facts _ k1
  refine ⟨by simpa [rowD, PyData.showable] using a2, by simpa [rowD, PyData.hasDict] using a4, ?_, ?_⟩
  · show PyData.depthAll _ + 1 ≤ 60
    omega
  · have a3' : (rowD ts).leavesShort 60 = true := by simpa [rowD, PyData.leavesShort] using a3
    have h5 := PyData.shown_le 60 (by decide) (rowD ts) a3'
    have hw : (rowD ts).weight ≤ 141 * 1750 := by
      show PyData.weightAll _ ≤ _
      refine Nat.le_trans a5 (Nat.mul_le_mul_left _ ?_)
      rw [k3]; omega
    refine Nat.le_trans h5 ?_
    rw [sizeLine_eq]
    have : (60 + 2) * (rowD ts).weight ≤ 62 * (141 * 1750) := Nat.mul_le_mul_left _ hw
    omega
/-! ### what the look tells -/
theorem lf_res : ∀ (r : List (Tk × Nat)) (d : Nat) (done : Bool) (e : Nat) (c : Nat) (s : Str), (∀ t ∈ r, t.2 < 10 ^ 15 + 1) → e < 10 ^ 15 + 1 → lf d done r e = some (c, s) → c < 10 ^ 15 + 1 ∧ (s = "end" ∨ s = "deep" ∨ s = "thing")
  | [], d, done, e, c, s, _, he, h => by
    unfold lf at h
    split at h
    · cases h
    · cases h
      exact ⟨he, .inr (.inr rfl)⟩
  | (t, k) :: r, d, done, e, c, s, hr, he, h => by
    have hk := hr (t, k) List.mem_cons_self
    unfold lf at h
    split at h
    · cases h
      exact ⟨hk, .inl rfl⟩
    · split at h
      · cases h
        exact ⟨hk, .inr (.inl rfl)⟩
      · split at h
        · cases h
          exact ⟨hk, .inr (.inr rfl)⟩
        · exact lf_res r _ _ e c s (fun u hu => hr u (List.mem_cons_of_mem _ hu)) he h
theorem told_ok {row c : Nat} {s : Str} (hr : row < 10 ^ 20) (hc : c < 10 ^ 15 + 1) (hs : s = "end" ∨ s = "deep" ∨ s = "thing") : (PyData.tuple [.int row, .int c, .str s]).showable = true ∧ (PyData.tuple [.int row, .int c, .str s]).hasDict = false ∧ (PyData.tuple [.int row, .int c, .str s]).depth ≤ 60 ∧
    (PyData.tuple [.int row, .int c, .str s]).shown.length ≤ sizeLine := by
  have ki : ∀ n : Nat, n < 10 ^ 40 → lvs (.int n) = true := fun n h => by
    simp only [lvs, Bool.and_eq_true, decide_eq_true_eq]
    refine ⟨Int.natCast_nonneg _, ?_⟩
    have : ((10 : Int) ^ 40) = ((10 ^ 40 : Nat) : Int) := by decide +kernel
    rw [this]
    exact Int.ofNat_lt.mpr h
  have ks : lvs (.str s) = true := by
    rcases hs with rfl | rfl | rfl <;> decide +kernel
  have h : lvs (.tuple [.int row, .int c, .str s]) = true := by
    rw [lvs, lvsAll, lvsAll, lvsAll, lvsAll, ki row (Nat.lt_trans hr (by decide)), ki c (Nat.lt_trans hc (by decide)), ks]
    rfl
  obtain ⟨a1, a2, a3, a4, a5⟩ := lvs_facts _ h
  refine ⟨a2, a4, ?_, ?_⟩
  · show PyData.depthAll _ + 1 ≤ 60
    simp [PyData.depthAll, PyData.depth]
  · have h5 := PyData.shown_le 60 (by decide) _ a3
    refine Nat.le_trans h5 ?_
    have hw : (words (.tuple [.int row, .int c, .str s])).length = 5 := by
      rw [words]; simp [wordsAll, words]
    rw [hw] at a5
    rw [sizeLine_eq]
    have : (60 + 2) * (PyData.tuple [.int row, .int c, .str s]).weight ≤ 62 * 705 := Nat.mul_le_mul_left _ (by omega)
    omega
end T85

/-! The text of law k85 by places. -/
namespace T85
open PySem PySem.Spec PyProof.Rows L2 TL CW
def top (i : Nat) : Stmt := PySem.Challenge.pw_causewrit_k85_things_there_and_back.main.body.getD i (.Pass ⟨0, 0, 0, 0⟩)
abbrev s_run_end : Stmt := top 13
theorem sc_run_end : FnScope ["line", "place", "signs", "end"] ["line", "place", "signs"] (defScope s_run_end) := ⟨rfl, rfl, rfl, by decide +kernel, rfl, by decide +kernel, by decide +kernel⟩
abbrev s_sign_at : Stmt := top 14
theorem sc_sign_at : FnScope ["line", "place", "sign"] ["line", "place"] (defScope s_sign_at) := ⟨rfl, rfl, rfl, by decide +kernel, rfl, by decide +kernel, by decide +kernel⟩
abbrev s_tokens_of : Stmt := top 15
theorem sc_tokens_of : FnScope ["line", "row", "found", "place", "end", "sign"] ["line", "row"] (defScope s_tokens_of) := ⟨rfl, rfl, rfl, by decide +kernel, rfl, by decide +kernel, by decide +kernel⟩
abbrev s_end_column : Stmt := top 16
theorem sc_end_column : FnScope ["tokens"] ["tokens"] (defScope s_end_column) := ⟨rfl, rfl, rfl, by decide +kernel, rfl, by decide +kernel, by decide +kernel⟩
abbrev s_write_thing : Stmt := top 18
theorem sc_write_thing : FnScope ["thing", "words", "left", "part", "inner"] ["thing"] (defScope s_write_thing) := ⟨rfl, rfl, rfl, by decide +kernel, rfl, by decide +kernel, by decide +kernel⟩
abbrev s_read_thing : Stmt := top 19
theorem sc_read_thing : FnScope ["tokens", "row", "nests", "sort", "value", "column", "whole"] ["tokens", "row"] (defScope s_read_thing) := ⟨rfl, rfl, rfl, by decide +kernel, rfl, by decide +kernel, by decide +kernel⟩
abbrev s__law_begin : Stmt := top 21
theorem sc__law_begin : FnScope ["script", "cell"] ["script"] (defScope s__law_begin) := ⟨rfl, rfl, rfl, by decide +kernel, rfl, by decide +kernel, by decide +kernel⟩
abbrev s__law_draw : Stmt := top 22
theorem sc__law_draw : FnScope ["d", "many", "row", "size"] ["d", "many"] (defScope s__law_draw) := ⟨rfl, rfl, rfl, by decide +kernel, rfl, by decide +kernel, by decide +kernel⟩
abbrev s__law_is_int : Stmt := top 23
theorem sc__law_is_int : FnScope ["thing"] ["thing"] (defScope s__law_is_int) := ⟨rfl, rfl, rfl, by decide +kernel, rfl, by decide +kernel, by decide +kernel⟩
abbrev s__law_atom : Stmt := top 24
theorem sc__law_atom : FnScope ["d", "way", "letters", "name", "turn"] ["d"] (defScope s__law_atom) := ⟨rfl, rfl, rfl, by decide +kernel, rfl, by decide +kernel, by decide +kernel⟩
abbrev s__law_values : Stmt := top 25
theorem sc__law_values : FnScope ["d", "most", "found", "depth", "turn", "way"] ["d"] (defScope s__law_values) := ⟨rfl, rfl, rfl, by decide +kernel, rfl, by decide +kernel, by decide +kernel⟩
abbrev s__law_sort : Stmt := top 26
theorem sc__law_sort : FnScope ["value"] ["value"] (defScope s__law_sort) := ⟨rfl, rfl, rfl, by decide +kernel, rfl, by decide +kernel, by decide +kernel⟩
abbrev s__law_spelt : Stmt := top 27
theorem sc__law_spelt : FnScope ["d", "values", "is_loose", "line", "tokens", "ahead", "at", "value", "sort", "gap"] ["d", "values", "is_loose"] (defScope s__law_spelt) := ⟨rfl, rfl, rfl, by decide +kernel, rfl, by decide +kernel, by decide +kernel⟩
abbrev s__law_built : Stmt := top 28
theorem sc__law_built : FnScope ["tokens", "nests", "sort", "value", "column", "inner"] ["tokens"] (defScope s__law_built) := ⟨rfl, rfl, rfl, by decide +kernel, rfl, by decide +kernel, by decide +kernel⟩
abbrev s__law_fault : Stmt := top 29
theorem sc__law_fault : FnScope ["tokens", "depth", "is_done", "sort", "value", "column"] ["tokens"] (defScope s__law_fault) := ⟨rfl, rfl, rfl, by decide +kernel, rfl, by decide +kernel, by decide +kernel⟩
abbrev s__law_damaged : Stmt := top 30
theorem sc__law_damaged : FnScope ["d", "values", "odd", "at", "other", "way"] ["d", "values"] (defScope s__law_damaged) := ⟨rfl, rfl, rfl, by decide +kernel, rfl, by decide +kernel, by decide +kernel⟩
abbrev s__law_reads_so : Stmt := top 31
theorem sc__law_reads_so : FnScope ["tokens", "row", "before", "fault", "told", "e", "due"] ["tokens", "row"] (defScope s__law_reads_so) := ⟨rfl, rfl, rfl, by decide +kernel, rfl, by decide +kernel, by decide +kernel⟩
abbrev s_law : Stmt := top 32
theorem sc_law : FnScope ["script", "d", "row", "values", "line", "first", "thing", "name", "turn", "tokens"] ["script"] (defScope s_law) := ⟨rfl, rfl, rfl, by decide +kernel, rfl, by decide +kernel, by decide +kernel⟩

/-- where the top's things stand -/
structure Ad where
  f_run_end : Addr
  d_run_end : FuncData
  f_sign_at : Addr
  d_sign_at : FuncData
  f_tokens_of : Addr
  d_tokens_of : FuncData
  f_end_column : Addr
  d_end_column : FuncData
  f_write_thing : Addr
  d_write_thing : FuncData
  f_read_thing : Addr
  d_read_thing : FuncData
  f__law_begin : Addr
  d__law_begin : FuncData
  f__law_draw : Addr
  d__law_draw : FuncData
  f__law_is_int : Addr
  d__law_is_int : FuncData
  f__law_atom : Addr
  d__law_atom : FuncData
  f__law_values : Addr
  d__law_values : FuncData
  f__law_sort : Addr
  d__law_sort : FuncData
  f__law_spelt : Addr
  d__law_spelt : FuncData
  f__law_built : Addr
  d__law_built : FuncData
  f__law_fault : Addr
  d__law_fault : FuncData
  f__law_damaged : Addr
  d__law_damaged : FuncData
  f__law_reads_so : Addr
  d__law_reads_so : FuncData
  f_law : Addr
  d_law : FuncData
  C_CauseError : Addr
  C_TextFault : Addr
  C_NotOfKind : Addr
  C_DossierFault : Addr
  C_DeskFault : Addr
  i_TextFault : Addr
  e_TextFault : FuncData
  t_MOST_NESTS : Tok
  t_LETTERS : Tok
  t_FIGURES : Tok
  t_LONGEST : Tok
  a_SIGNS : Addr
  t_MOST_FIGURES : Tok
/-- what the top has written -/
structure Txt (P : Program) (K : PySem.W.Frag) (mg : Str → Option Value) (a : Ad) : Prop where
  g_run_end : mg "run_end" = some (.ref a.f_run_end)
  F_run_end : Fun K "run_end" "run_end" s_run_end a.f_run_end a.d_run_end
  b_run_end : Binds K a.d_run_end ["line", "place", "signs"] []
  g_sign_at : mg "sign_at" = some (.ref a.f_sign_at)
  F_sign_at : Fun K "sign_at" "sign_at" s_sign_at a.f_sign_at a.d_sign_at
  b_sign_at : Binds K a.d_sign_at ["line", "place"] []
  g_tokens_of : mg "tokens_of" = some (.ref a.f_tokens_of)
  F_tokens_of : Fun K "tokens_of" "tokens_of" s_tokens_of a.f_tokens_of a.d_tokens_of
  b_tokens_of : Binds K a.d_tokens_of ["line", "row"] []
  g_end_column : mg "end_column" = some (.ref a.f_end_column)
  F_end_column : Fun K "end_column" "end_column" s_end_column a.f_end_column a.d_end_column
  b_end_column : Binds K a.d_end_column ["tokens"] []
  g_write_thing : mg "write_thing" = some (.ref a.f_write_thing)
  F_write_thing : Fun K "write_thing" "write_thing" s_write_thing a.f_write_thing a.d_write_thing
  b_write_thing : Binds K a.d_write_thing ["thing"] []
  g_read_thing : mg "read_thing" = some (.ref a.f_read_thing)
  F_read_thing : Fun K "read_thing" "read_thing" s_read_thing a.f_read_thing a.d_read_thing
  b_read_thing : Binds K a.d_read_thing ["tokens", "row"] []
  g__law_begin : mg "_law_begin" = some (.ref a.f__law_begin)
  F__law_begin : Fun K "_law_begin" "_law_begin" s__law_begin a.f__law_begin a.d__law_begin
  b__law_begin : Binds K a.d__law_begin ["script"] []
  g__law_draw : mg "_law_draw" = some (.ref a.f__law_draw)
  F__law_draw : Fun K "_law_draw" "_law_draw" s__law_draw a.f__law_draw a.d__law_draw
  b__law_draw : Binds K a.d__law_draw ["d", "many"] []
  g__law_is_int : mg "_law_is_int" = some (.ref a.f__law_is_int)
  F__law_is_int : Fun K "_law_is_int" "_law_is_int" s__law_is_int a.f__law_is_int a.d__law_is_int
  b__law_is_int : Binds K a.d__law_is_int ["thing"] []
  g__law_atom : mg "_law_atom" = some (.ref a.f__law_atom)
  F__law_atom : Fun K "_law_atom" "_law_atom" s__law_atom a.f__law_atom a.d__law_atom
  b__law_atom : Binds K a.d__law_atom ["d"] []
  g__law_values : mg "_law_values" = some (.ref a.f__law_values)
  F__law_values : Fun K "_law_values" "_law_values" s__law_values a.f__law_values a.d__law_values
  b__law_values : Binds K a.d__law_values ["d"] []
  g__law_sort : mg "_law_sort" = some (.ref a.f__law_sort)
  F__law_sort : Fun K "_law_sort" "_law_sort" s__law_sort a.f__law_sort a.d__law_sort
  b__law_sort : Binds K a.d__law_sort ["value"] []
  g__law_spelt : mg "_law_spelt" = some (.ref a.f__law_spelt)
  F__law_spelt : Fun K "_law_spelt" "_law_spelt" s__law_spelt a.f__law_spelt a.d__law_spelt
  b__law_spelt : Binds K a.d__law_spelt ["d", "values", "is_loose"] []
  g__law_built : mg "_law_built" = some (.ref a.f__law_built)
  F__law_built : Fun K "_law_built" "_law_built" s__law_built a.f__law_built a.d__law_built
  b__law_built : Binds K a.d__law_built ["tokens"] []
  g__law_fault : mg "_law_fault" = some (.ref a.f__law_fault)
  F__law_fault : Fun K "_law_fault" "_law_fault" s__law_fault a.f__law_fault a.d__law_fault
  b__law_fault : Binds K a.d__law_fault ["tokens"] []
  g__law_damaged : mg "_law_damaged" = some (.ref a.f__law_damaged)
  F__law_damaged : Fun K "_law_damaged" "_law_damaged" s__law_damaged a.f__law_damaged a.d__law_damaged
  b__law_damaged : Binds K a.d__law_damaged ["d", "values"] []
  g__law_reads_so : mg "_law_reads_so" = some (.ref a.f__law_reads_so)
  F__law_reads_so : Fun K "_law_reads_so" "_law_reads_so" s__law_reads_so a.f__law_reads_so a.d__law_reads_so
  b__law_reads_so : Binds K a.d__law_reads_so ["tokens", "row"] []
  g_law : mg "law" = some (.ref a.f_law)
  F_law : Fun K "law" "law" s_law a.f_law a.d_law
  b_law : Binds K a.d_law ["script"] []
  g_CauseError : mg "CauseError" = some (.ref a.C_CauseError)
  g_TextFault : mg "TextFault" = some (.ref a.C_TextFault)
  g_NotOfKind : mg "NotOfKind" = some (.ref a.C_NotOfKind)
  g_DossierFault : mg "DossierFault" = some (.ref a.C_DossierFault)
  g_DeskFault : mg "DeskFault" = some (.ref a.C_DeskFault)
  c_MOST_NESTS : mg "MOST_NESTS" = some (.int 8 a.t_MOST_NESTS)
  c_LETTERS : mg "LETTERS" = some (.str "abcdefghijklmnopqrstuvwxyz" a.t_LETTERS)
  c_FIGURES : mg "FIGURES" = some (.str "0123456789" a.t_FIGURES)
  c_LONGEST : mg "LONGEST" = some (.int 12 a.t_LONGEST)
  c_SIGNS : mg "SIGNS" = some (.ref a.a_SIGNS)
  q_SIGNS : ∀ H : Hp, SqT K H a.a_SIGNS [.str "==", .str "<", .str "+", .str "-", .str "*", .str "/", .str "(", .str ")", .str ",", .str ":"]
  c_MOST_FIGURES : mg "MOST_FIGURES" = some (.int 40 a.t_MOST_FIGURES)
  n_len : mg "len" = none
  n_abs : mg "abs" = none
  n_int : mg "int" = none
  n_isinstance : mg "isinstance" = none
  n_str : mg "str" = none
  n_tuple : mg "tuple" = none
  n_list : mg "list" = none
  n_repr : mg "repr" = none
  n_range : mg "range" = none
  n_enumerate : mg "enumerate" = none
  n_max : mg "max" = none
  n_bool : mg "bool" = none
  oex_TextFault : OexC K a.C_TextFault
  ini_TextFault : PySem.W.findIn K (.ref a.C_TextFault) "__init__" = some (some (.ref a.i_TextFault))
  typ_TextFault : PySem.W.typeIn K (.ref a.i_TextFault) = some (.type "function")
  b_TextFault : Binds K a.e_TextFault ["self", "row", "column", "reason"] []
  init_TextFault : FaultInit P K mg a.C_TextFault a.i_TextFault a.e_TextFault "TextFault.__init__" (inClass (top 2) 0)
  xf_TextFault : XfC K a.C_TextFault
  no_TextFault_row : PySem.W.findIn K (.ref a.C_TextFault) "row" = some none
  no_TextFault_column : PySem.W.findIn K (.ref a.C_TextFault) "column" = some none
  no_TextFault_reason : PySem.W.findIn K (.ref a.C_TextFault) "reason" = some none
  ec_TextFault : EcC K a.C_TextFault
  k1_TextFault : PySem.W.kitAny K (.ref a.C_TextFault) [.ref a.C_DeskFault, .ref a.C_DossierFault, .ref a.C_NotOfKind] = some false
  ex_TextFault : PySem.W.exmOne K (.ref a.C_TextFault) (.ref a.C_TextFault) = some true

end T85

namespace T85
open PySem PySem.Spec PyProof.Rows L2 TL CW
local macro_rules | `(tactic| walk_at "wp") => `(tactic| simp only [CW.Lat, CW.LatE, CW.w_seq, CW.w_lcL, CW.w_yes, List.map_cons, List.map_nil, CW.w_mkO, CW.w_revT, CW.w_rev, CW.w_m1, CW.w_cxK, CW.w_forT, CW.w_forL, CW.w_forR, CW.w_forE, CW.w_asg, CW.w_drop, CW.w_ret, CW.w_retN, CW.w_next, CW.w_never, CW.w_brk, CW.w_cont, CW.w_if, CW.w_ifE, CW.w_var0, CW.w_vars, CW.w_C, CW.w_op, CW.w_un, CW.w_nil, CW.w_cons, CW.w_tup, CW.w_lst, CW.w_call, CW.w_callS, CW.w_cb, CW.w_sl, CW.w_noPart, CW.w_part, CW.w_B, CW.w_test, CW.w_and, CW.w_or, CW.w_not, CW.w_notV, CW.w_andV, CW.w_orV, CW.w_name, CW.w_set0, CW.w_sets, CW.w_gtup, CW.w_gnil, CW.w_gcons, CW.w_gsub, CW.w_exb, CW.w_exi, CW.w_I0, CW.w_I, CW.w_U, CW.w_eqI, CW.w_eqS, CW.w_eqIS, CW.w_neI, CW.w_neS, CW.w_ixL, CW.w_ixT, CW.w_ixS, CW.w_slS, CW.w_slL, CW.w_setL, CW.w_cat, CW.w_rep, CW.w_mulS, CW.w_in, CW.w_bm, CW.w_bm0, CW.w_append, CW.w_pop, CW.w_exr, CW.w_isN, CW.w_notN, CW.w_addS, CW.w_inS, CW.w_notInS, CW.w_abs, CW.w_max2, CW.w_min2, CW.w_int1, CW.w_int1b, CW.w_strI, CW.w_str1, CW.w_str2, CW.w_lenQ, CW.w_lenS, CW.w_intS, CW.w_tupQ, CW.w_tru,
  List.append_nil, List.cons_append, List.nil_append, decide_eq_true_eq, List.length_cons, List.length_nil, Ends.nx, Ends.rt])
local macro_rules | `(tactic| walk_at "wq") => `(tactic| simp only [CW.Lat, CW.LatE, CW.w_seq, CW.w_lcL, CW.w_yes, List.map_cons, List.map_nil, CW.w_mkO, CW.w_revT, CW.w_rev, CW.w_m1, CW.w_cxK, CW.w_forT, CW.w_forL, CW.w_forR, CW.w_forE, CW.w_asg, CW.w_drop, CW.w_ret, CW.w_retN, CW.w_next, CW.w_never, CW.w_brk, CW.w_cont, CW.w_if, CW.w_ifE, CW.w_var0, CW.w_vars, CW.w_C, CW.w_op, CW.w_un, CW.w_nil, CW.w_cons, CW.w_tup, CW.w_lst, CW.w_call, CW.w_callS, CW.w_cb, CW.w_sl, CW.w_noPart, CW.w_part, CW.w_B, CW.w_test, CW.w_not, CW.w_notV, CW.w_andV, CW.w_orV, CW.w_name, CW.w_set0, CW.w_sets, CW.w_gtup, CW.w_gnil, CW.w_gcons, CW.w_gsub, CW.w_exb, CW.w_exi, CW.w_I0, CW.w_I, CW.w_U, CW.w_eqI, CW.w_eqS, CW.w_eqIS, CW.w_neI, CW.w_neS, CW.w_ixL, CW.w_ixT, CW.w_ixS, CW.w_slS, CW.w_slL, CW.w_setL, CW.w_cat, CW.w_rep, CW.w_mulS, CW.w_in, CW.w_bm, CW.w_bm0, CW.w_append, CW.w_pop, CW.w_exr, CW.w_isN, CW.w_notN, CW.w_addS, CW.w_inS, CW.w_notInS, CW.w_abs, CW.w_max2, CW.w_min2, CW.w_int1, CW.w_int1b, CW.w_strI, CW.w_str1, CW.w_str2, CW.w_lenQ, CW.w_lenS, CW.w_intS, CW.w_tupQ, CW.w_tru,
  List.append_nil, List.cons_append, List.nil_append, decide_eq_true_eq, List.length_cons, List.length_nil, Ends.nx, Ends.rt])
local macro_rules | `(tactic| walk_at "ws") => `(tactic| simp only [CW.w_lcL, CW.w_yes, List.map_cons, List.map_nil, CW.w_mkO, CW.w_revT, CW.w_rev, CW.w_m1, CW.w_cxK, CW.w_forT, CW.w_forL, CW.w_forR, CW.w_forE, CW.w_asg, CW.w_drop, CW.w_ret, CW.w_retN, CW.w_next, CW.w_never, CW.w_brk, CW.w_cont, CW.w_var0, CW.w_vars, CW.w_C, CW.w_op, CW.w_un, CW.w_nil, CW.w_cons, CW.w_tup, CW.w_lst, CW.w_call, CW.w_callS, CW.w_cb, CW.w_sl, CW.w_noPart, CW.w_part, CW.w_B, CW.w_test, CW.w_not, CW.w_notV, CW.w_andV, CW.w_orV, CW.w_name, CW.w_set0, CW.w_sets, CW.w_gtup, CW.w_gnil, CW.w_gcons, CW.w_gsub, CW.w_exb, CW.w_exi, CW.w_I0, CW.w_I, CW.w_U, CW.w_eqI, CW.w_eqS, CW.w_eqIS, CW.w_neI, CW.w_neS, CW.w_ixL, CW.w_ixT, CW.w_ixS, CW.w_slS, CW.w_slL, CW.w_setL, CW.w_cat, CW.w_rep, CW.w_mulS, CW.w_in, CW.w_bm, CW.w_bm0, CW.w_append, CW.w_pop, CW.w_exr, CW.w_isN, CW.w_notN, CW.w_addS, CW.w_inS, CW.w_notInS, CW.w_abs, CW.w_max2, CW.w_min2, CW.w_int1, CW.w_int1b, CW.w_strI, CW.w_str1, CW.w_str2, CW.w_lenQ, CW.w_lenS, CW.w_intS, CW.w_tupQ, CW.w_tru,
  List.append_nil, List.cons_append, List.nil_append, decide_eq_true_eq, List.length_cons, List.length_nil, Ends.nx, Ends.rt])
section
variable {P : Program} {w : World} {K : PySem.W.Frag} {mg : Str → Option Value} {base : Heap} {a : Ad}
/-- the run that begins at a place -/
def runEnd (l : List Nat) (p : Nat) (S : List Nat) : Nat := p + ((l.drop p).takeWhile fun c => decide (c ∈ S)).length
theorem runEnd_in {l : List Nat} {p c : Nat} {S : List Nat} (h : l[p]? = some c) (hc : c ∈ S) : runEnd l (p + 1) S = runEnd l p S := by
  obtain ⟨hp, e⟩ := List.getElem?_eq_some_iff.mp h
  unfold runEnd
  rw [List.drop_eq_getElem_cons hp, e, List.takeWhile_cons, decide_eq_true hc]
  simp only [if_true, List.length_cons]
  omega
theorem runEnd_out {l : List Nat} {p c : Nat} {S : List Nat} (h : l[p]? = some c) (hc : ¬ c ∈ S) : runEnd l p S = p := by
  obtain ⟨hp, e⟩ := List.getElem?_eq_some_iff.mp h
  unfold runEnd
  rw [List.drop_eq_getElem_cons hp, e, List.takeWhile_cons, decide_eq_false hc]
  rfl
theorem runEnd_end {l : List Nat} {p : Nat} {S : List Nat} (h : l.length ≤ p) : runEnd l p S = p := by
  unfold runEnd
  rw [List.drop_eq_nil_of_le h]
  rfl
def sp_run_end : Sp := fun vs H Q _ => ∃ (z : Str) (p : Nat) (s : Str), vs = [.str z, .int p, .str s] ∧ z.length ≤ 1000000 ∧ p ≤ z.length ∧ Q (.int (runEnd (tl z) p (tl s))) H
theorem ok_run_end (T : Txt P K mg a) : FnOk P w K mg base CX0 1 a.f_run_end a.d_run_end ["line", "place", "signs"] sp_run_end := by
  refine T.F_run_end.ok sc_run_end (fun vs H Q E h => ?_) (fun cdv A outer s H vs Q E hr h => ?_)
  · obtain ⟨z, p, s, rfl, _⟩ := h
    rfl
  · obtain ⟨z, p, S, rfl, hz, hp, q⟩ := h
    have hzs : z.length ≤ sizeLine := Nat.le_trans hz (by decide)
    refine ⟨_, (pss_cons (ps_set (i := 3) sc_run_end.nd rfl (Or.inl rfl) (pv 1))
    (pss_cons (ps_while PassesOwn.never (PW.pt (pw_and (pt_cmpR op_lt (pv 3) (pe_callB c_lenS (by rfl) T.n_len PySem.boot_len (pa_cons (pv 0) pa_nil)) (nomark _)) (pw_and1 (pt_cmpR o_inS (pe_ix ix_str (pv 0) (pv 3) (fun _ _ => rfl)) (pv 2) (by rfl))))) (pss_one (ps_set (i := 3) sc_run_end.nd rfl (Or.inl rfl) (pe_op op_add (pv 3) pe_int))))
    (pss_one (ps_ret (pv 3))))), ?_⟩
    show tSeq _ _ _ [some (.str z), some (.int p), some (.str S), none] H
    walk_at "wp"
    refine while_in (fun σ H' => H' = H ∧ ∃ e : Nat, σ = [some (.str z), some (.int p), some (.str S), some (.int e)] ∧ e ≤ z.length ∧ runEnd (tl z) e (tl S) = runEnd (tl z) p (tl S))
      (fun σ _ => match σ with
        | [_, _, _, some (.int e)] => z.length - e.toNat
        | _ => 0) ⟨rfl, p, rfl, hp, rfl⟩ ?_
    rintro σ H' ⟨rfl, e, rfl, he, hE⟩
    walk_at "wp"
    refine ⟨hzs, ?_⟩
    by_cases hl : e < z.length
    · have hl' : (e : Int) < z.length := by omega
      obtain ⟨c, hc⟩ : ∃ c, (tl z)[e]? = some c := ⟨(tl z)[e]'(by rw [← len_tl]; exact hl), List.getElem?_eq_getElem _⟩
      rw [if_pos hl']
      refine ⟨hzs, c, atI_nat hc, ?_⟩
      by_cases hS : c ∈ tl S
      · rw [decide_eq_true hS]
        refine turnT ?_
        walk_at "wp"
        refine ⟨⟨trivial, e + 1, rfl, hl, (runEnd_in hc hS).trans hE⟩, ?_⟩
        omega
      · rw [decide_eq_false hS]
        refine turnF ?_
        walk_at "wp"
        rw [runEnd_out hc hS] at hE
        rw [hE]
        exact q
    · have hl' : ¬ (e : Int) < z.length := by omega
      rw [if_neg hl']
      refine turnF ?_
      walk_at "wp"
      rw [runEnd_end (by rw [← len_tl]; omega)] at hE
      rw [hE]
      exact q
theorem tl_cut (z : Str) {p q : Nat} (hp : p ≤ z.length) : tl (cutS z (some (p : Int)) (some (q : Int))) = ((tl z).drop p).take (q - p) := by
  show ((z.cps.toList.drop (HT.sIx z.length 0 (some (p : Int)))).take (HT.sIx z.length z.length (some (q : Int)) - HT.sIx z.length 0 (some (p : Int)))) = _
  rw [HT.sIx_nat, HT.sIx_nat, Nat.min_eq_left hp]
  by_cases h : q ≤ z.length
  · rw [Nat.min_eq_left h]
  · rw [Nat.min_eq_right (by omega), List.take_of_length_le, List.take_of_length_le]
    · rw [List.length_drop, ← len_tl]; omega
    · rw [List.length_drop, ← len_tl]; omega
theorem str_eq {x : Str} {l : List Nat} (h : tl x = l) : x = ⟨l.toArray⟩ := ext_tl (h.trans (tl_mk l).symm)
def sgV (o : Option (List Nat)) : V := match o with
  | some l => .str ⟨l.toArray⟩
  | none => .non
def sgs : List Str := ["==", "<", "+", "-", "*", "/", "(", ")", ",", ":"]
theorem sgs_tl : sgs.map tl = signs := by decide +kernel
theorem sg_at {i : Nat} {x : V} (h : (sgs.map V.str)[i]? = some x) : ∃ y : Str, x = .str y ∧ signs[i]? = some (tl y) := by
  rw [List.getElem?_map] at h
  cases e : sgs[i]? with
  | none => rw [e] at h; cases h
  | some y =>
    rw [e] at h
    refine ⟨y, (Option.some.inj h).symm, ?_⟩
    rw [← sgs_tl, List.getElem?_map, e]
    rfl
theorem drop_at {α : Type} {l : List α} {i : Nat} {y : α} (h : l[i]? = some y) : l.drop i = y :: l.drop (i + 1) := by
  obtain ⟨hi, e⟩ := List.getElem?_eq_some_iff.mp h
  rw [List.drop_eq_getElem_cons hi, e]
theorem sg_short {i : Nat} {y : List Nat} (h : signs[i]? = some y) : y.length ≤ 2 := by
  have hm := List.mem_of_getElem? h
  obtain ⟨_, _, _, _, _, _, h2⟩ := sign_head hm
  exact h2
def sp_sign_at : Sp := fun vs H Q _ => ∃ (z : Str) (p : Nat), vs = [.str z, .int p] ∧ z.length ≤ 1000000 ∧ p ≤ z.length ∧ Q (sgV (signAt ((tl z).drop p))) H
theorem ok_sign_at (T : Txt P K mg a) : FnOk P w K mg base CX0 1 a.f_sign_at a.d_sign_at ["line", "place"] sp_sign_at := by
  refine T.F_sign_at.ok sc_sign_at (fun vs H Q E h => ?_) (fun cdv A outer s H vs Q E hr h => ?_)
  · obtain ⟨z, p, rfl, _⟩ := h
    rfl
  · obtain ⟨z, p, rfl, hz, hp, q⟩ := h
    have hzs : z.length ≤ sizeLine := Nat.le_trans hz (by decide)
    refine ⟨_, (pss_cons (ps_for PassesOwn.never rfl (pi_tup (pe_glob (v := .ref _) (by rfl) T.c_SIGNS rfl)) (pg_name (i := 2) sc_sign_at.nd rfl (Or.inl rfl)) (pss_one (ps_if (pt_cmpR op_eq (pe_slice sl_str (pv 0) (po_some (pv 1)) (po_some (pe_op op_add (pv 1) (pe_callB c_lenS (by rfl) T.n_len PySem.boot_len (pa_cons (pv 2) pa_nil))))) (pv 2) (nomark _)) (pss_one (ps_ret (pv 2))) pss_nil)))
    (pss_one (ps_ret pe_non))), ?_⟩
    show tSeq _ _ _ [some (.str z), some (.int p), none] H
    walk_at "wp"
    refine in_tup (xs := sgs.map V.str) (fun i σ H' => H' = H ∧ (∃ o, σ = [some (.str z), some (.int p), o]) ∧ signAt ((tl z).drop p) = (signs.drop i).find? fun s => ((tl z).drop p).take s.length == s)
      ⟨rfl, ⟨_, rfl⟩, rfl⟩ (fun i σ H' _ h => T.q_SIGNS _) (fun i x σ H' hx h => ?_) fun σ H' h => ?_
    · obtain ⟨rfl, ⟨o, rfl⟩, hf⟩ := h
      obtain ⟨y, rfl, hy⟩ := sg_at hx
      have hy2 := sg_short hy
      rw [drop_at hy] at hf
      walk_at "wp"
      refine ⟨by rw [len_tl]; exact Nat.le_trans hy2 (by decide), hzs, ?_⟩
      have hcut : tl (cutS z (some (p : Int)) (some ((p : Int) + (y.length : Int)))) = ((tl z).drop p).take (tl y).length := by
        have e := tl_cut z (q := p + y.length) hp
        rw [Nat.add_sub_cancel_left] at e
        rw [← len_tl]
        exact e
      by_cases hm : cutS z (some (p : Int)) (some ((p : Int) + (y.length : Int))) = y
      · rw [if_pos hm]
        rw [hm] at hcut
        rw [List.find?_cons, ← hcut] at hf
        simp only [beq_self_eq_true] at hf
        rw [hf] at q
        have : sgV (some (tl y)) = .str y := by
          show V.str ⟨(tl y).toArray⟩ = _
          rw [← str_eq (x := y) rfl]
        rw [← this]
        exact q
      · rw [if_neg hm]
        refine ⟨trivial, ⟨_, rfl⟩, ?_⟩
        rw [hf, List.find?_cons]
        have : (List.take (tl y).length ((tl z).drop p) == tl y) = false := by
          rw [← hcut, beq_eq_false_iff_ne]
          exact fun z => hm (ext_tl z)
        rw [this]
    · obtain ⟨rfl, ⟨o, rfl⟩, hf⟩ := h
      walk_at "wp"
      rw [hf] at q
      exact q
/-- a row of tokens as values in the heap -/
def TokL (K : PySem.W.Frag) (H : Hp) : List V → List (Tk × Nat) → Prop
  | [], [] => True
  | x :: xs, t :: ts => (∃ p, x = .ref p ∧ SqT K H p [.str t.1.kd.str, t.1.v, .int t.2]) ∧ TokL K H xs ts
  | _, _ => False
theorem TokL.len {K : PySem.W.Frag} {H : Hp} : ∀ {xs : List V} {ts : List (Tk × Nat)}, TokL K H xs ts → xs.length = ts.length
  | [], [], _ => rfl
  | _ :: _, _ :: _, h => congrArg (· + 1) (TokL.len h.2)
  | [], _ :: _, h => h.elim
  | _ :: _, [], h => h.elim
theorem TokL.at {K : PySem.W.Frag} {H : Hp} : ∀ {xs : List V} {ts : List (Tk × Nat)} {i : Nat} {t : Tk × Nat}, TokL K H xs ts → ts[i]? = some t → ∃ p, xs[i]? = some (.ref p) ∧ SqT K H p [.str t.1.kd.str, t.1.v, .int t.2]
  | x :: xs, u :: ts, 0, t, h, e => by
    obtain ⟨p, rfl, hp⟩ := h.1
    have e' : u = t := by simpa using e
    subst e'
    exact ⟨p, rfl, hp⟩
  | x :: xs, u :: ts, i + 1, t, h, e => by
    rw [List.getElem?_cons_succ] at e ⊢
    exact TokL.at h.2 e
  | [], [], _, _, _, e => by simp at e
  | [], _ :: _, _, _, h, _ => h.elim
  | _ :: _, [], _, _, h, _ => h.elim
/-- tuples stay -/
def TKeep (K : PySem.W.Frag) (H H' : Hp) : Prop := ∀ b xs, SqT K H b xs → SqT K H' b xs
theorem tkeep_same {K : PySem.W.Frag} {H H' : Hp} (e : Same H H') : TKeep K H H' := fun b xs h => by
  rcases h with (h | ⟨o, h⟩) | h
  · exact .inl (.inl (e _ _ h))
  · exact .inl (.inr ⟨o, e _ _ h⟩)
  · exact .inr h
/-- all but one stays -/
def But (d : Addr) (H H' : Hp) : Prop := ∀ b o, b ≠ d → H b = some o → H' b = some o
theorem But.of {d : Addr} {H H' : Hp} (e : Same H H') : But d H H' := fun b o _ h => e b o h
theorem But.trans {d : Addr} {H H1 H2 : Hp} (e : But d H H1) (f : But d H1 H2) : But d H H2 := fun b o n h => f b o n (e b o n h)
theorem tkeep_but {K : PySem.W.Frag} {d : Addr} {ds : List V} {H H' : Hp} (hd : H d = some (.lst ds)) (e : But d H H') : TKeep K H H' := fun b xs h => by
  rcases h with (h | ⟨o, h⟩) | h
  · exact .inl (.inl (e _ _ (fun z => by subst z; rw [hd] at h; cases h) h))
  · exact .inl (.inr ⟨o, e _ _ (fun z => by subst z; rw [hd] at h; cases h) h⟩)
  · exact .inr h
theorem same_upd {H : Hp} {p : Addr} {o : HO} (h : H p = none) : Same H (upd H p o) := fun b o' e => by
  by_cases z : b = p
  · subst z; rw [h] at e; cases e
  · rw [upd_ne z]; exact e
theorem TokL.keep {K : PySem.W.Frag} {H H' : Hp} (k : TKeep K H H') : ∀ {xs : List V} {ts : List (Tk × Nat)}, TokL K H xs ts → TokL K H' xs ts
  | [], [], _ => trivial
  | _ :: _, _ :: _, h => ⟨by obtain ⟨p, e, hp⟩ := h.1; exact ⟨p, e, k _ _ hp⟩, TokL.keep k h.2⟩
  | [], _ :: _, h => h.elim
  | _ :: _, [], h => h.elim
theorem TokL.snoc {K : PySem.W.Frag} {H : Hp} {t : Tk × Nat} {p : Addr} (hp : SqT K H p [.str t.1.kd.str, t.1.v, .int t.2]) : ∀ {xs : List V} {ts : List (Tk × Nat)}, TokL K H xs ts → TokL K H (xs ++ [.ref p]) (ts ++ [t])
  | [], [], _ => ⟨⟨p, rfl, hp⟩, trivial⟩
  | _ :: _, _ :: _, h => ⟨h.1, TokL.snoc hp h.2⟩
  | [], _ :: _, h => h.elim
  | _ :: _, [], h => h.elim
def Row (K : PySem.W.Frag) (H : Hp) (l : Addr) (ts : List (Tk × Nat)) : Prop := ∃ xs, SqL K H l xs ∧ TokL K H xs ts
def endCol (ts : List (Tk × Nat)) : Nat := match ts.getLast? with
  | some t => t.2 + 1
  | none => 1
def sp_end_column (K : PySem.W.Frag) : Sp := fun vs H Q _ => ∃ (l : Addr) (ts : List (Tk × Nat)), vs = [.ref l] ∧ Row K H l ts ∧ Q (.int (endCol ts)) H
theorem last_tok {K : PySem.W.Frag} {H : Hp} {xs : List V} {ts : List (Tk × Nat)} {x : V} (h : TokL K H xs ts) (e : atI xs (-1) = some x) : ∃ t p, ts.getLast? = some t ∧ x = .ref p ∧ SqT K H p [.str t.1.kd.str, t.1.v, .int t.2] := by
  have hl := h.len
  rcases List.eq_nil_or_concat ts with rfl | ⟨ts', t, rfl⟩
  · have : xs = [] := List.eq_nil_of_length_eq_zero (by rw [hl]; rfl)
    subst this
    simp [atI, ixN] at e
  · rw [List.concat_eq_append] at h hl ⊢
    obtain ⟨p, hx, hp⟩ := h.at (i := ts'.length) (t := t) (by simp)
    refine ⟨t, p, by simp, ?_, hp⟩
    have hn : xs.length = ts'.length + 1 := by rw [hl]; simp
    unfold atI ixN at e
    rw [if_neg (by omega), if_pos (by omega)] at e
    have e2 : xs[((-1 : Int) + (xs.length : Int)).toNat]? = some x := e
    rw [show ((-1 : Int) + (xs.length : Int)).toNat = ts'.length by omega, hx] at e2
    exact (Option.some.inj e2).symm
theorem atI_last {xs : List V} (h : xs ≠ []) : ∃ x, atI xs (-1) = some x := by
  have h0 : 0 < xs.length := List.length_pos_iff.mpr h
  refine ⟨xs[xs.length - 1], ?_⟩
  unfold atI ixN
  rw [if_neg (by omega), if_pos (by omega)]
  show xs[((-1 : Int) + (xs.length : Int)).toNat]? = _
  rw [show ((-1 : Int) + (xs.length : Int)).toNat = xs.length - 1 by omega, List.getElem?_eq_getElem]
theorem ok_end_column (T : Txt P K mg a) : FnOk P w K mg base CX0 1 a.f_end_column a.d_end_column ["tokens"] (sp_end_column K) := by
  refine T.F_end_column.ok sc_end_column (fun vs H Q E h => ?_) (fun cdv A outer s H vs Q E hr h => ?_)
  · obtain ⟨z, p, rfl, _⟩ := h
    rfl
  · obtain ⟨l, ts, rfl, ⟨xs, hl, ht⟩, q⟩ := h
    refine ⟨_, (pss_cons (ps_if (t_tru (pv 0) (by intro _; rfl)) (pss_one (ps_ret (pe_op op_add (pe_ix ix_tup (pe_ix ix_list (pv 0) (pe_un un_neg pe_int) (fun _ _ => rfl)) pe_int (fun _ _ => rfl)) pe_int))) pss_nil)
    (pss_one (ps_ret pe_int))), ?_⟩
    show tSeq _ _ _ [some (.ref l)] H
    walk_at "wp"
    refine ⟨!xs.isEmpty, .inl ⟨xs, hl, rfl⟩, ?_⟩
    cases xs with
    | nil =>
      have : ts = [] := List.eq_nil_of_length_eq_zero ht.len.symm
      subst this
      exact q
    | cons x xs =>
      show ∃ ys, SqL K H l ys ∧ _
      obtain ⟨y, hy⟩ := atI_last (xs := x :: xs) (by simp)
      obtain ⟨t, p, e, rfl, hp⟩ := last_tok ht hy
      refine ⟨x :: xs, hl, _, hy, ?_⟩
      walk_at "wp"
      refine ⟨_, hp, _, rfl, ?_⟩
      walk_at "wp"
      have ec : endCol ts = t.2 + 1 := by simp [endCol, e]
      rw [ec] at q
      exact q
theorem blank_iff {c : Nat} : ((⟨#[c]⟩ : Str) = " ") ↔ c = 32 := by
  constructor
  · intro h
    have := congrArg tl h
    rw [show tl (" " : Str) = [32] by decide +kernel] at this
    exact (List.cons.inj this).1
  · rintro rfl
    exact ext_tl (by decide +kernel)
theorem letters_tl : tl ("abcdefghijklmnopqrstuvwxyz" : Str) = (List.range 26).map (97 + ·) := by decide +kernel
theorem figures_tl : tl ("0123456789" : Str) = (List.range 10).map (48 + ·) := by decide +kernel
theorem mem_letters {c : Nat} : c ∈ tl ("abcdefghijklmnopqrstuvwxyz" : Str) ↔ letter c = true := by
  rw [letters_tl, letter_iff, List.mem_map]
  constructor
  · rintro ⟨i, h, rfl⟩
    have := List.mem_range.mp h
    omega
  · rintro ⟨h1, h2⟩
    exact ⟨c - 97, List.mem_range.mpr (by omega), by omega⟩
theorem mem_figures {c : Nat} : c ∈ tl ("0123456789" : Str) ↔ fig c = true := by
  rw [figures_tl, fig_iff, List.mem_map]
  constructor
  · rintro ⟨i, h, rfl⟩
    have := List.mem_range.mp h
    omega
  · rintro ⟨h1, h2⟩
    exact ⟨c - 48, List.mem_range.mpr (by omega), by omega⟩
theorem mem_aln {c : Nat} : c ∈ tl (("abcdefghijklmnopqrstuvwxyz" : Str) ++ ("0123456789" : Str)) ↔ aln c = true := by
  rw [tl_append, List.mem_append, mem_letters, mem_figures, aln, Bool.or_eq_true]
theorem run_by {S : Str} {p : Nat → Bool} (h : ∀ c, c ∈ tl S ↔ p c = true) {l a rest : List Nat} {i : Nat} (e : l.drop i = a ++ rest) (ha : ∀ x ∈ a, p x = true) (hn : NextNot p rest) : runEnd l i (tl S) = i + a.length := by
  unfold runEnd
  have : (fun c => decide (c ∈ tl S)) = p := by
    funext c
    cases q : p c with
    | true => exact decide_eq_true ((h c).mpr q)
    | false => exact decide_eq_false (fun z => by rw [(h c).mp z] at q; cases q)
  rw [this, e, run_of ha hn]
theorem same_put {H H' : Hp} {p : Addr} {o : HO} (hS : Same H H') (hp : H p = none) : Same H (upd H' p o) := fun b o' e => by
  by_cases z : b = p
  · subst z; rw [hp] at e; cases e
  · rw [upd_ne z]; exact hS b o' e
theorem but_put {H : Hp} {p : Addr} {o : HO} : But p H (upd H p o) := fun b o' n e => by rw [upd_ne n]; exact e
/-- one more token -/
theorem tok_step {K : PySem.W.Frag} {H H' : Hp} {p r : Addr} {xs : List V} {done : List (Tk × Nat)} {t : Tk × Nat} (hS : Same H H') (hp : H p = none) (hx : H' p = some (.lst xs)) (hT : TokL K H' xs done) (hr : H' r = none) {o1 o2 : V} (h1 : o1 = .str t.1.kd.str) (h2 : o2 = t.1.v) :
    Same H (upd (upd H' r (.tup [o1, o2, .int t.2])) p (.lst (xs ++ [.ref r]))) ∧ upd (upd H' r (.tup [o1, o2, .int t.2])) p (.lst (xs ++ [.ref r])) p = some (.lst (xs ++ [.ref r])) ∧
      TokL K (upd (upd H' r (.tup [o1, o2, .int t.2])) p (.lst (xs ++ [.ref r]))) (xs ++ [.ref r]) (done ++ [t]) := by
  have hne : r ≠ p := fun z => by subst z; rw [hx] at hr; cases hr
  subst h1 h2
  have s1 : Same H' (upd H' r (.tup [.str t.1.kd.str, t.1.v, .int t.2])) := same_upd hr
  have k2 : TKeep K (upd H' r (.tup [.str t.1.kd.str, t.1.v, .int t.2])) (upd (upd H' r (.tup [.str t.1.kd.str, t.1.v, .int t.2])) p (.lst (xs ++ [.ref r]))) :=
    tkeep_but (d := p) (ds := xs) (s1 _ _ hx) but_put
  refine ⟨same_put (hS.trans s1) hp, upd_same, TokL.snoc (k2 _ _ (.inl (.inl upd_same))) (hT.keep fun b ys h => k2 _ _ (tkeep_same s1 _ _ h))⟩
theorem txt_of {t : Tk} (h : t.kd ≠ .num) : ∃ s, t = .txt s := by
  cases t with
  | num n => exact absurd rfl h
  | txt s => exact ⟨s, rfl⟩
def sp_tokens_of (K : PySem.W.Frag) : Sp := fun vs H Q _ => ∃ (z : Str) (r : Int) (ts : List (Tk × Nat)), vs = [.str z, .int r] ∧ z.length ≤ 100000 ∧ LexSt (tl z) 0 ts .sign ∧
  ∀ H' l xs, Same H H' → H l = none → H' l = some (.lst xs) → TokL K H' xs ts → Q (.ref l) H'
theorem ok_tokens_of (T : Txt P K mg a) : FnOk P w K mg base CX0 2 a.f_tokens_of a.d_tokens_of ["line", "row"] (sp_tokens_of K) := by
  refine T.F_tokens_of.ok sc_tokens_of (fun vs H Q E h => ?_) (fun cdv A outer s H vs Q E hr h => ?_)
  · obtain ⟨z, p, ts, rfl, _⟩ := h
    rfl
  · obtain ⟨z, row, ts, rfl, hz, hlex, q⟩ := h
    have hzs : z.length ≤ sizeLine := Nat.le_trans hz (by decide)
    refine ⟨_, (pss_cons (ps_set (i := 2) sc_tokens_of.nd rfl (Or.inl rfl) (pe_lst pa_nil))
    (pss_cons (ps_set (i := 3) sc_tokens_of.nd rfl (Or.inl rfl) pe_int)
    (pss_cons (ps_while PassesOwn.never (pt_cmpR op_lt (pv 3) (pe_callB c_lenS (by rfl) T.n_len PySem.boot_len (pa_cons (pv 0) pa_nil)) (nomark _)) (pss_one (ps_if (pt_cmpR op_eq (pe_ix ix_str (pv 0) (pv 3) (fun _ _ => rfl)) pe_str (nomark _)) (pss_one (ps_set (i := 3) sc_tokens_of.nd rfl (Or.inl rfl) (pe_op op_add (pv 3) pe_int))) (pss_one (ps_if (pt_cmpR o_inS (pe_ix ix_str (pv 0) (pv 3) (fun _ _ => rfl)) (pe_glob (v := .str "abcdefghijklmnopqrstuvwxyz") (by rfl) T.c_LETTERS ⟨_, rfl⟩) (by rfl)) (pss_cons (ps_set (i := 4) sc_tokens_of.nd rfl (Or.inl rfl) (pe_call (ok_run_end T) (hr.mono (by decide)) (by rfl) T.g_run_end T.F_run_end.kp T.b_run_end .nil pass0 (pa_cons (pv 0) (pa_cons (pv 3) (pa_cons (pe_op o_addS (pe_glob (v := .str "abcdefghijklmnopqrstuvwxyz") (by rfl) T.c_LETTERS ⟨_, rfl⟩) (pe_glob (v := .str "0123456789") (by rfl) T.c_FIGURES ⟨_, rfl⟩)) pa_nil)))))
          (pss_cons (ps_if (pt_cmpR op_gt (pe_op op_sub (pv 4) (pv 3)) (pe_glob (v := .int 12) (by rfl) T.c_LONGEST ⟨_, rfl⟩) (nomark _)) (pss_one ps_never) pss_nil)
          (pss_cons (ps_expr (pe_bm PySem.F.plainAttrs_list PySem.F.slot_list_append PySem.F.type_list_append mt_append (pv 2) (pa_cons (pe_tup (pa_cons pe_str (pa_cons (pe_slice sl_str (pv 0) (po_some (pv 3)) (po_some (pv 4))) (pa_cons (pe_op op_add (pv 3) pe_int) pa_nil)))) pa_nil)))
          (pss_one (ps_set (i := 3) sc_tokens_of.nd rfl (Or.inl rfl) (pv 4)))))) (pss_one (ps_if (pt_cmpR o_inS (pe_ix ix_str (pv 0) (pv 3) (fun _ _ => rfl)) (pe_glob (v := .str "0123456789") (by rfl) T.c_FIGURES ⟨_, rfl⟩) (by rfl)) (pss_cons (ps_set (i := 4) sc_tokens_of.nd rfl (Or.inl rfl) (pe_call (ok_run_end T) (hr.mono (by decide)) (by rfl) T.g_run_end T.F_run_end.kp T.b_run_end .nil pass0 (pa_cons (pv 0) (pa_cons (pv 3) (pa_cons (pe_glob (v := .str "0123456789") (by rfl) T.c_FIGURES ⟨_, rfl⟩) pa_nil)))))
            (pss_cons (ps_if (pt_cmpR op_gt (pe_op op_sub (pv 4) (pv 3)) (pe_glob (v := .int 40) (by rfl) T.c_MOST_FIGURES ⟨_, rfl⟩) (nomark _)) (pss_one ps_never) pss_nil)
            (pss_cons (ps_expr (pe_bm PySem.F.plainAttrs_list PySem.F.slot_list_append PySem.F.type_list_append mt_append (pv 2) (pa_cons (pe_tup (pa_cons pe_str (pa_cons (pe_callTy c_intS (by rfl) T.n_int (by decide +kernel) (pa_cons (pe_slice sl_str (pv 0) (po_some (pv 3)) (po_some (pv 4))) pa_nil)) (pa_cons (pe_op op_add (pv 3) pe_int) pa_nil)))) pa_nil)))
            (pss_one (ps_set (i := 3) sc_tokens_of.nd rfl (Or.inl rfl) (pv 4)))))) (pss_cons (ps_set (i := 5) sc_tokens_of.nd rfl (Or.inl rfl) (pe_call (ok_sign_at T) (hr.mono (by decide)) (by rfl) T.g_sign_at T.F_sign_at.kp T.b_sign_at .nil pass0 (pa_cons (pv 0) (pa_cons (pv 3) pa_nil))))
            (pss_cons (ps_if (pt_cmpR o_isN (pv 5) pe_non (nomark _)) (pss_one ps_never) pss_nil)
            (pss_cons (ps_expr (pe_bm PySem.F.plainAttrs_list PySem.F.slot_list_append PySem.F.type_list_append mt_append (pv 2) (pa_cons (pe_tup (pa_cons pe_str (pa_cons (pv 5) (pa_cons (pe_op op_add (pv 3) pe_int) pa_nil)))) pa_nil)))
            (pss_one (ps_set (i := 3) sc_tokens_of.nd rfl (Or.inl rfl) (pe_op op_add (pv 3) (pe_callB c_lenS (by rfl) T.n_len PySem.boot_len (pa_cons (pv 5) pa_nil)))))))))))))))
    (pss_one (ps_ret (pv 2)))))), ?_⟩
    show tSeq _ _ _ [some (.str z), some (.int row), none, none, none, none] H
    walk_at "wp"
    refine ⟨Nat.zero_le _, fun p hp => ?_⟩
    refine while_in (fun σ H' => ∃ (pos : Nat) (prev : Kd) (done rest : List (Tk × Nat)) (xs : List V) (o1 o2 : Option V), σ = [some (.str z), some (.int row), some (.ref p), some (.int pos), o1, o2] ∧ pos ≤ z.length ∧
        LexSt ((tl z).drop pos) pos rest prev ∧ ts = done ++ rest ∧ H' p = some (.lst xs) ∧ TokL K H' xs done ∧ done.length ≤ pos ∧ Same H H')
      (fun σ _ => match σ with
        | [_, _, _, some (.int e), _, _] => z.length - e.toNat
        | _ => 0) ⟨0, .sign, [], ts, [], none, none, rfl, Nat.zero_le _, by rw [List.drop_zero]; exact hlex, rfl, upd_same, trivial, Nat.le_refl _, same_upd hp⟩ ?_
    rintro σ H' ⟨pos, prev, done, rest, xs, o1, o2, rfl, hpos, hL, hts, hx, hT, hd, hS⟩
    walk_at "wp"
    refine ⟨hzs, ?_⟩
    by_cases hl : pos < z.length
    · rw [decide_eq_true (show (pos : Int) < z.length by omega)]
      refine turnT ?_
      walk_at "wp"
      have hl2 : pos < (tl z).length := by rw [← len_tl]; exact hl
      obtain ⟨c, hc⟩ : ∃ c, (tl z)[pos]? = some c := ⟨(tl z)[pos]'hl2, List.getElem?_eq_getElem _⟩
      have hdr := drop_at hc
      have hxl : xs.length < sizeLine := by
        rw [hT.len]
        exact Nat.lt_of_le_of_lt (Nat.le_trans hd (Nat.le_trans hpos hz)) (by decide)
      refine ⟨hzs, c, atI_nat hc, ?_⟩
      rw [hdr] at hL
      by_cases h32 : c = 32
      · rw [if_pos (blank_iff.mpr h32)]
        subst h32
        refine ⟨⟨pos + 1, .sign, done, rest, xs, o1, o2, rfl, hl, lex_blank hL, hts, hx, hT, by omega, hS⟩, ?_⟩
        omega
      · rw [if_neg (fun z => h32 (blank_iff.mp z))]
        obtain ⟨t, toks', rest', r, hrest, hsplit, htl, htok, hL', hcase⟩ := lex_tok h32 hL
        have hdrop : (tl z).drop pos = t.tl ++ rest' := hdr.trans hsplit
        have hlen : pos + t.tl.length + rest'.length = z.length := by
          have := congrArg List.length hdrop
          rw [List.length_drop, List.length_append, ← len_tl] at this
          omega
        have hpos1 : 1 ≤ t.tl.length := by rw [htl, List.length_cons]; omega
        have hdrop2 : (tl z).drop (pos + t.tl.length) = rest' := by
          rw [← List.drop_drop, hdrop, List.drop_left]
        have hcut : tl (cutS z (some (pos : Int)) (some ((pos + t.tl.length : Nat) : Int))) = t.tl := by
          rw [tl_cut z hpos, hdrop, Nat.add_sub_cancel_left, List.take_left]
        refine ⟨hzs, c, atI_nat hc, ?_⟩
        have fin : ∀ (o1' o2' : Option V) (g1 g2 : V) (rr : Addr), H' rr = none → g1 = .str t.kd.str → g2 = t.v →
            (∃ (pos' : Nat) (prev : Kd) (done rest : List (Tk × Nat)) (ys : List V) (o1 o2 : Option V), [some (.str z), some (.int row), some (.ref p), some (.int ((pos : Int) + (t.tl.length : Int))), o1', o2'] = [some (.str z), some (.int row), some (.ref p), some (.int pos'), o1, o2] ∧ pos' ≤ z.length ∧
              LexSt ((tl z).drop pos') pos' rest prev ∧ ts = done ++ rest ∧ upd (upd H' rr (.tup [g1, g2, .int ((pos : Int) + 1)])) p (.lst (xs ++ [.ref rr])) p = some (.lst ys) ∧ TokL K (upd (upd H' rr (.tup [g1, g2, .int ((pos : Int) + 1)])) p (.lst (xs ++ [.ref rr]))) ys done ∧ done.length ≤ pos' ∧
              Same H (upd (upd H' rr (.tup [g1, g2, .int ((pos : Int) + 1)])) p (.lst (xs ++ [.ref rr])))) := fun o1' o2' g1 g2 rr hrr e1 e2 => by
          obtain ⟨b1, b2, b3⟩ := tok_step (t := (t, pos + 1)) hS hp hx hT hrr e1 e2
          refine ⟨pos + t.tl.length, t.kd, done ++ [(t, pos + 1)], toks', _, o1', o2', rfl, by omega, by rw [hdrop2]; exact hL', ?_, b2, b3, ?_, b1⟩
          · rw [hts, hrest, List.append_assoc]; rfl
          · rw [List.length_append]; simp only [List.length_cons, List.length_nil]; omega
        have hrs : ∀ rr, H' rr = none → ∀ o, upd H' rr o p = some (.lst xs) := fun rr hrr o => by
          rw [upd_ne (fun z => by subst z; rw [hx] at hrr; cases hrr)]; exact hx
        rcases hcase with ⟨k1, k2, k3, k4, k5⟩ | ⟨k1, k2, k3, k4, k5, k6, n, rfl⟩ | ⟨k1, k2, k3, k4⟩
        · rw [if_pos (mem_letters.mpr k1)]
          refine ⟨by decide +kernel, z, pos, _, rfl, by omega, hpos, ?_⟩
          rw [run_by (fun c => mem_aln) hdrop k2 k3]
          walk_at "wp"
          rw [if_neg (show ¬ (12 : Int) < ((pos + t.tl.length : Nat) : Int) - (pos : Int) by omega)]
          refine ⟨ty_list hx, hzs, by decide, fun rr hrr => ⟨xs, hrs rr hrr _, hxl, ?_, ?_⟩⟩
          · rw [Int.natCast_add]
            rw [Int.natCast_add] at hcut
            obtain ⟨sx, rfl⟩ := txt_of (t := t) (by rw [k5]; exact fun z => nomatch z)
            refine fin _ _ _ _ rr hrr (by rw [k5]; rfl) ?_
            show V.str _ = V.str sx
            rw [ext_tl (x := cutS z _ _) (y := sx) hcut]
          · show z.length - ((pos + t.tl.length : Nat) : Int).toNat < z.length - (pos : Int).toNat
            omega
        · rw [if_neg (fun z => by rw [mem_letters.mp z] at k1; cases k1)]
          refine ⟨hzs, c, atI_nat hc, ?_⟩
          rw [if_pos (mem_figures.mpr k2)]
          refine ⟨z, pos, _, rfl, by omega, hpos, ?_⟩
          rw [run_by (fun c => mem_figures) hdrop k3 k4]
          walk_at "wp"
          rw [if_neg (show ¬ (40 : Int) < ((pos + (Tk.num n).tl.length : Nat) : Int) - (pos : Int) by omega)]
          have hnum : cutS z (some (pos : Int)) (some ((pos + (Tk.num n).tl.length : Nat) : Int)) = Str.ofString (toString (n : Int)) := ext_tl hcut
          have hnl : (numL n).length ≤ 40 := by
            rw [← tl_numT]; exact k5
          refine ⟨ty_list hx, hzs, (n : Int), ?_, ?_, by decide, fun rr hrr => ⟨xs, hrs rr hrr _, hxl, ?_, ?_⟩⟩
          · rw [hnum]
            exact int_num (Nat.le_trans hnl (by decide))
          · rw [hnum, len_tl, tl_num]
            exact Nat.le_trans hnl (by decide)
          · rw [Int.natCast_add]
            exact fin _ _ _ _ rr hrr rfl rfl
          · show z.length - ((pos + (Tk.num n).tl.length : Nat) : Int).toNat < z.length - (pos : Int).toNat
            omega
        · rw [if_neg (fun z => by rw [mem_letters.mp z] at k1; cases k1)]
          refine ⟨hzs, c, atI_nat hc, ?_⟩
          rw [if_neg (fun z => by rw [mem_figures.mp z] at k2; cases k2)]
          refine ⟨z, pos, rfl, by omega, hpos, ?_⟩
          obtain ⟨sx, rfl⟩ := txt_of (t := t) (by rw [k4]; exact fun z => nomatch z)
          have hsg : sgV (signAt ((tl z).drop pos)) = .str sx := by
            rw [hdrop, signAt_of k3]
            show V.str ⟨(tl sx).toArray⟩ = _
            rw [← str_eq (x := sx) rfl]
          rw [hsg]
          walk_at "wp"
          rw [if_neg (show ¬ (V.str sx = V.non) from fun z => nomatch z)]
          have hsl : sx.length = (Tk.txt sx).tl.length := len_tl sx
          refine ⟨ty_list hx, by decide, fun rr hrr => ⟨xs, hrs rr hrr _, hxl, ?_⟩⟩
          refine ⟨by rw [hsl]; obtain ⟨_, _, _, _, _, _, h2⟩ := sign_head k3; exact Nat.le_trans h2 (by decide), ?_, ?_⟩
          · rw [hsl]
            exact fin _ _ _ _ rr hrr (by rw [k4]; rfl) rfl
          · show z.length - ((pos : Int) + (sx.length : Int)).toNat < z.length - (pos : Int).toNat
            omega
    · rw [decide_eq_false (show ¬ (pos : Int) < z.length by omega)]
      refine turnF ?_
      walk_at "wp"
      have : (tl z).drop pos = [] := List.drop_eq_nil_of_le (by rw [← len_tl]; omega)
      rw [this] at hL
      have := lex_nil hL
      subst this
      rw [List.append_nil] at hts
      subst hts
      exact q H' p xs hS hp hx hT
end
end T85

namespace T85
open PySem PySem.Spec PyProof.Rows L2 TL CW
local macro_rules | `(tactic| walk_at "wp") => `(tactic| simp only [CW.Lat, CW.LatE, CW.w_seq, CW.w_lcL, CW.w_yes, List.map_cons, List.map_nil, CW.w_mkO, CW.w_revT, CW.w_rev, CW.w_m1, CW.w_cxK, CW.w_forT, CW.w_forL, CW.w_forR, CW.w_forE, CW.w_asg, CW.w_drop, CW.w_ret, CW.w_retN, CW.w_next, CW.w_never, CW.w_brk, CW.w_cont, CW.w_if, CW.w_ifE, CW.w_var0, CW.w_vars, CW.w_C, CW.w_op, CW.w_un, CW.w_nil, CW.w_cons, CW.w_tup, CW.w_lst, CW.w_call, CW.w_callS, CW.w_cb, CW.w_sl, CW.w_noPart, CW.w_part, CW.w_B, CW.w_test, CW.w_and, CW.w_or, CW.w_not, CW.w_notV, CW.w_andV, CW.w_orV, CW.w_name, CW.w_set0, CW.w_sets, CW.w_gtup, CW.w_gnil, CW.w_gcons, CW.w_gsub, CW.w_exb, CW.w_exi, CW.w_I0, CW.w_I, CW.w_U, CW.w_eqI, CW.w_eqS, CW.w_eqIS, CW.w_neI, CW.w_neS, CW.w_ixL, CW.w_ixT, CW.w_ixS, CW.w_slS, CW.w_slL, CW.w_setL, CW.w_cat, CW.w_rep, CW.w_mulS, CW.w_in, CW.w_bm, CW.w_bm0, CW.w_append, CW.w_pop, CW.w_exr, CW.w_isN, CW.w_notN, CW.w_addS, CW.w_inS, CW.w_notInS, CW.w_abs, CW.w_max2, CW.w_min2, CW.w_int1, CW.w_int1b, CW.w_strI, CW.w_str1, CW.w_str2, CW.w_lenQ, CW.w_lenS, CW.w_intS, CW.w_tupQ, CW.w_tru,
  List.append_nil, List.cons_append, List.nil_append, decide_eq_true_eq, List.length_cons, List.length_nil, Ends.nx, Ends.rt])
local macro_rules | `(tactic| walk_at "wq") => `(tactic| simp only [CW.Lat, CW.LatE, CW.w_seq, CW.w_lcL, CW.w_yes, List.map_cons, List.map_nil, CW.w_mkO, CW.w_revT, CW.w_rev, CW.w_m1, CW.w_cxK, CW.w_forT, CW.w_forL, CW.w_forR, CW.w_forE, CW.w_asg, CW.w_drop, CW.w_ret, CW.w_retN, CW.w_next, CW.w_never, CW.w_brk, CW.w_cont, CW.w_if, CW.w_ifE, CW.w_var0, CW.w_vars, CW.w_C, CW.w_op, CW.w_un, CW.w_nil, CW.w_cons, CW.w_tup, CW.w_lst, CW.w_call, CW.w_callS, CW.w_cb, CW.w_sl, CW.w_noPart, CW.w_part, CW.w_B, CW.w_test, CW.w_not, CW.w_notV, CW.w_andV, CW.w_orV, CW.w_name, CW.w_set0, CW.w_sets, CW.w_gtup, CW.w_gnil, CW.w_gcons, CW.w_gsub, CW.w_exb, CW.w_exi, CW.w_I0, CW.w_I, CW.w_U, CW.w_eqI, CW.w_eqS, CW.w_eqIS, CW.w_neI, CW.w_neS, CW.w_ixL, CW.w_ixT, CW.w_ixS, CW.w_slS, CW.w_slL, CW.w_setL, CW.w_cat, CW.w_rep, CW.w_mulS, CW.w_in, CW.w_bm, CW.w_bm0, CW.w_append, CW.w_pop, CW.w_exr, CW.w_isN, CW.w_notN, CW.w_addS, CW.w_inS, CW.w_notInS, CW.w_abs, CW.w_max2, CW.w_min2, CW.w_int1, CW.w_int1b, CW.w_strI, CW.w_str1, CW.w_str2, CW.w_lenQ, CW.w_lenS, CW.w_intS, CW.w_tupQ, CW.w_tru,
  List.append_nil, List.cons_append, List.nil_append, decide_eq_true_eq, List.length_cons, List.length_nil, Ends.nx, Ends.rt])
local macro_rules | `(tactic| walk_at "ws") => `(tactic| simp only [CW.w_lcL, CW.w_yes, List.map_cons, List.map_nil, CW.w_mkO, CW.w_revT, CW.w_rev, CW.w_m1, CW.w_cxK, CW.w_forT, CW.w_forL, CW.w_forR, CW.w_forE, CW.w_asg, CW.w_drop, CW.w_ret, CW.w_retN, CW.w_next, CW.w_never, CW.w_brk, CW.w_cont, CW.w_var0, CW.w_vars, CW.w_C, CW.w_op, CW.w_un, CW.w_nil, CW.w_cons, CW.w_tup, CW.w_lst, CW.w_call, CW.w_callS, CW.w_cb, CW.w_sl, CW.w_noPart, CW.w_part, CW.w_B, CW.w_test, CW.w_not, CW.w_notV, CW.w_andV, CW.w_orV, CW.w_name, CW.w_set0, CW.w_sets, CW.w_gtup, CW.w_gnil, CW.w_gcons, CW.w_gsub, CW.w_exb, CW.w_exi, CW.w_I0, CW.w_I, CW.w_U, CW.w_eqI, CW.w_eqS, CW.w_eqIS, CW.w_neI, CW.w_neS, CW.w_ixL, CW.w_ixT, CW.w_ixS, CW.w_slS, CW.w_slL, CW.w_setL, CW.w_cat, CW.w_rep, CW.w_mulS, CW.w_in, CW.w_bm, CW.w_bm0, CW.w_append, CW.w_pop, CW.w_exr, CW.w_isN, CW.w_notN, CW.w_addS, CW.w_inS, CW.w_notInS, CW.w_abs, CW.w_max2, CW.w_min2, CW.w_int1, CW.w_int1b, CW.w_strI, CW.w_str1, CW.w_str2, CW.w_lenQ, CW.w_lenS, CW.w_intS, CW.w_tupQ, CW.w_tru,
  List.append_nil, List.cons_append, List.nil_append, decide_eq_true_eq, List.length_cons, List.length_nil, Ends.nx, Ends.rt])
section
variable {P : Program} {w : World} {K : PySem.W.Frag} {mg : Str → Option Value} {base : Heap} {a : Ad}
mutual
inductive Td (K : PySem.W.Frag) (H : Hp) : V → PyData → Prop
  | int (i : Int) : i.natAbs.log2 < 1920 → Td K H (.int i) (.int i)
  | str (x : Str) : Td K H (.str x) (.str x)
  | tup {a : Addr} {xs : List V} {ds : List PyData} : SqT K H a xs → TdAll K H xs ds → Td K H (.ref a) (.tuple ds)
inductive TdAll (K : PySem.W.Frag) (H : Hp) : List V → List PyData → Prop
  | nil : TdAll K H [] []
  | cons {v : V} {vs : List V} {d : PyData} {ds : List PyData} : Td K H v d → TdAll K H vs ds → TdAll K H (v :: vs) (d :: ds)
end
mutual
theorem Td.keep {H H' : Hp} (k : TKeep K H H') : ∀ {d : PyData} {v : V}, Td K H v d → Td K H' v d
  | _, _, .int i h => .int i h
  | _, _, .str x => .str x
  | _, _, .tup h hs => .tup (k _ _ h) (TdAll.keep k hs)
theorem TdAll.keep {H H' : Hp} (k : TKeep K H H') : ∀ {ds : List PyData} {vs : List V}, TdAll K H vs ds → TdAll K H' vs ds
  | _, _, .nil => .nil
  | _, _, .cons h hs => .cons (Td.keep k h) (TdAll.keep k hs)
end
mutual
theorem Td.dp {H : Hp} : ∀ {d : PyData} {v : V}, Td K H v d → Dp K H v d
  | _, _, .int i _ => .int i
  | _, _, .str x => .str x
  | _, _, .tup h hs => .tup h (TdAll.dp hs)
theorem TdAll.dp {H : Hp} : ∀ {ds : List PyData} {vs : List V}, TdAll K H vs ds → DpAll K H vs ds
  | _, _, .nil => .nil
  | _, _, .cons h hs => .cons (Td.dp h) (TdAll.dp hs)
end
theorem Td.ty {H : Hp} {v : V} {x : PyData} (h : Td K H v x) : (∃ i, v = .int i ∧ x = .int i ∧ i.natAbs.log2 < 1920) ∨ (∃ y, v = .str y ∧ x = .str y) ∨ ∃ a xs ds, v = .ref a ∧ x = .tuple ds ∧ SqT K H a xs ∧ TdAll K H xs ds := by
  cases h with
  | int i h => exact .inl ⟨i, rfl, rfl, h⟩
  | str x => exact .inr (.inl ⟨x, rfl, rfl⟩)
  | tup h hs => exact .inr (.inr ⟨_, _, _, rfl, rfl, h, hs⟩)
theorem Td.some_words {H : Hp} {v : V} {x : PyData} (h : Td K H v x) : 1 ≤ (words x).length := by
  rcases h.ty with ⟨i, _, rfl, _⟩ | ⟨y, _, rfl⟩ | ⟨b, xs, ds, _, rfl, _⟩
  · exact Nat.le_refl _
  · exact Nat.le_refl _
  · rw [words, List.length_cons]; omega
/-- what is left to write -/
def Lf (K : PySem.W.Frag) (H : Hp) (p q : Addr) (v : V) (ws : List Str) : Prop :=
  (∃ x, Td K H v x ∧ ws = words x) ∨ ∃ l, v = .ref l ∧ l ≠ p ∧ l ≠ q ∧ H l = some (.lst [.str cls]) ∧ ws = [cls]
def Lfs (K : PySem.W.Frag) (H : Hp) (p q : Addr) : List V → List (List Str) → Prop
  | [], [] => True
  | v :: vs, w :: ws => Lf K H p q v w ∧ Lfs K H p q vs ws
  | _, _ => False
theorem Lf.pos {H : Hp} {p q : Addr} {v : V} {ws : List Str} (h : Lf K H p q v ws) : 1 ≤ ws.length := by
  rcases h with ⟨x, h, rfl⟩ | ⟨_, _, _, _, _, rfl⟩
  · exact h.some_words
  · exact Nat.le_refl _
theorem Lfs.len {H : Hp} {p q : Addr} : ∀ {vs : List V} {ws : List (List Str)}, Lfs K H p q vs ws → vs.length ≤ ws.reverse.flatten.length
  | [], [], _ => Nat.zero_le _
  | v :: vs, w :: ws, h => by
    have := Lfs.len h.2
    have := h.1.pos
    rw [List.reverse_cons, List.flatten_append, List.length_append, List.length_cons]
    simp only [List.flatten_cons, List.flatten_nil, List.append_nil]
    omega
  | [], _ :: _, h => h.elim
  | _ :: _, [], h => h.elim
theorem Lfs.snoc {H : Hp} {p q : Addr} {v : V} {w : List Str} (hv : Lf K H p q v w) : ∀ {vs : List V} {ws : List (List Str)}, Lfs K H p q vs ws → Lfs K H p q (vs ++ [v]) (ws ++ [w])
  | [], [], _ => ⟨hv, trivial⟩
  | _ :: _, _ :: _, h => ⟨h.1, Lfs.snoc hv h.2⟩
  | [], _ :: _, h => h.elim
  | _ :: _, [], h => h.elim
theorem Lfs.last {H : Hp} {p q : Addr} {v : V} : ∀ {vs : List V} {wss : List (List Str)}, Lfs K H p q (vs ++ [v]) wss → ∃ ws w, wss = ws ++ [w] ∧ Lfs K H p q vs ws ∧ Lf K H p q v w
  | [], [w], h => ⟨[], w, rfl, trivial, h.1⟩
  | [], [], h => h.elim
  | [], _ :: _ :: _, h => h.2.elim
  | _ :: vs, [], h => h.elim
  | u :: vs, w :: ws, h => by
    obtain ⟨ws', w', e, h1, h2⟩ := Lfs.last (vs := vs) h.2
    exact ⟨w :: ws', w', by rw [e]; rfl, ⟨h.1, h1⟩, h2⟩
def Lf.keep {H H' : Hp} {p q : Addr} (k : TKeep K H H') (hb : ∀ b o, b ≠ p → b ≠ q → H b = some o → H' b = some o) {v : V} {w : List Str} (h : Lf K H p q v w) : Lf K H' p q v w := by
  rcases h with ⟨x, h, e⟩ | ⟨l, e1, n1, n2, h, e2⟩
  · exact .inl ⟨x, h.keep k, e⟩
  · exact .inr ⟨l, e1, n1, n2, hb _ _ n1 n2 h, e2⟩
theorem Lfs.keep {H H' : Hp} {p q : Addr} (k : TKeep K H H') (hb : ∀ b o, b ≠ p → b ≠ q → H b = some o → H' b = some o) : ∀ {vs : List V} {ws : List (List Str)}, Lfs K H p q vs ws → Lfs K H' p q vs ws
  | [], [], _ => trivial
  | _ :: _, _ :: _, h => ⟨h.1.keep k hb, Lfs.keep k hb h.2⟩
  | [], _ :: _, h => h.elim
  | _ :: _, [], h => h.elim
theorem TdAll.lfs {H : Hp} {p q : Addr} : ∀ {ds : List PyData} {xs : List V}, TdAll K H xs ds → ∀ {vs : List V} {ws : List (List Str)}, Lfs K H p q vs ws → Lfs K H p q (vs ++ xs.reverse) (ws ++ (ds.map words).reverse)
  | _, _, .nil, vs, ws, h => by rw [List.reverse_nil, List.map_nil, List.reverse_nil, List.append_nil, List.append_nil]; exact h
  | _, _, .cons hx hs, vs, ws, h => by
    rw [List.reverse_cons, List.map_cons, List.reverse_cons, ← List.append_assoc, ← List.append_assoc]
    exact Lfs.snoc (.inl ⟨_, hx, rfl⟩) (TdAll.lfs hs h)
theorem wordsAll_flat (ds : List PyData) : wordsAll ds = (ds.map words).flatten := by
  induction ds with
  | nil => rfl
  | cons d ds ih =>
    show words d ++ wordsAll ds = _
    rw [ih]
    rfl
def sp_write_thing (K : PySem.W.Frag) : Sp := fun vs H Q _ => ∃ (v : V) (x : PyData), vs = [v] ∧ Td K H v x ∧ (words x).length ≤ 10000 ∧ ((words x).map (·.length)).sum + (words x).length ≤ 1000000 ∧
  ∀ H', Same H H' → Q (.str (Txt.join " " (words x))) H'
theorem ok_write_thing (T : Txt P K mg a) : FnOk P w K mg base CX0 1 a.f_write_thing a.d_write_thing ["thing"] (sp_write_thing K) := by
  refine T.F_write_thing.ok sc_write_thing (fun vs H Q E h => ?_) (fun cdv A outer s H vs Q E hr h => ?_)
  · obtain ⟨z, x, rfl, _⟩ := h
    rfl
  · obtain ⟨v, x, rfl, hx, hw, hj, q⟩ := h
    refine ⟨_, (pss_cons (ps_set (i := 1) sc_write_thing.nd rfl (Or.inl rfl) (pe_lst pa_nil))
    (pss_cons (ps_set (i := 2) sc_write_thing.nd rfl (Or.inl rfl) (pe_lst (pa_cons (pv 0) pa_nil)))
    (pss_cons (ps_while PassesOwn.never (t_tru (pv 2) (by intro _; rfl)) (pss_cons (ps_set (i := 3) sc_write_thing.nd rfl (Or.inl rfl) (pe_bm0 PySem.F.plainAttrs_list PySem.F.slot_list_pop PySem.F.type_list_pop mt_pop (pv 2)))
      (pss_one (ps_if (pt_val (pe_callB call_isi (by rfl) T.n_isinstance (by decide +kernel) (pa_cons (pv 3) (pa_cons (pe_bltn (v := .ty "tuple") (by rfl) T.n_tuple (by decide +kernel) rfl) pa_nil)))) (pss_cons (ps_expr (pe_bm PySem.F.plainAttrs_list PySem.F.slot_list_append PySem.F.type_list_append mt_append (pv 1) (pa_cons pe_str pa_nil)))
        (pss_cons (ps_expr (pe_bm PySem.F.plainAttrs_list PySem.F.slot_list_append PySem.F.type_list_append mt_append (pv 2) (pa_cons (pe_lst (pa_cons pe_str pa_nil)) pa_nil)))
        (pss_one (ps_for PassesOwn.never rfl (pi_tup (pe_revT (pv 3))) (pg_name (i := 4) sc_write_thing.nd rfl (Or.inl rfl)) (pss_one (ps_expr (pe_bm PySem.F.plainAttrs_list PySem.F.slot_list_append PySem.F.type_list_append mt_append (pv 2) (pa_cons (pv 4) pa_nil)))))))) (pss_one (ps_if (pt_val (pe_callB call_isi (by rfl) T.n_isinstance (by decide +kernel) (pa_cons (pv 3) (pa_cons (pe_bltn (v := .ty "list") (by rfl) T.n_list (by decide +kernel) rfl) pa_nil)))) (pss_one (ps_expr (pe_bm PySem.F.plainAttrs_list PySem.F.slot_list_append PySem.F.type_list_append mt_append (pv 1) (pa_cons (pe_ix ix_list (pv 3) pe_int (fun _ _ => rfl)) pa_nil)))) (pss_one (ps_expr (pe_bm PySem.F.plainAttrs_list PySem.F.slot_list_append PySem.F.type_list_append mt_append (pv 1) (pa_cons (pe_callTy c_str (by rfl) T.n_str (by decide +kernel) (pa_cons (pv 3) pa_nil)) pa_nil))))))))))
    (pss_one (ps_ret (pe_join pe_str (pv 1))))))), ?_⟩
    show tSeq _ _ _ [some v, none, none, none, none] H
    walk_at "wp"
    refine ⟨Nat.zero_le _, fun p hp => ⟨by decide, fun p1 hp1 => ?_⟩⟩
    have hne : p1 ≠ p := fun z => by subst z; rw [upd_same] at hp1; cases hp1
    have hp1' : H p1 = none := by rw [upd_ne hne] at hp1; exact hp1
    refine while_n (fun m σ H' => ∃ (ws : List Str) (vs : List V) (wss : List (List Str)) (o1 o2 : Option V), σ = [some v, some (.ref p), some (.ref p1), o1, o2] ∧ H' p = some (.lst (ws.map .str)) ∧ H' p1 = some (.lst vs) ∧
        Lfs K H' p p1 vs wss ∧ words x = ws ++ wss.reverse.flatten ∧ m = wss.reverse.flatten.length ∧ Same H H') (words x).length
      ⟨[], [v], [words x], none, none, rfl, by rw [upd_ne (Ne.symm hne), upd_same]; rfl, upd_same, ⟨.inl ⟨x, hx.keep (tkeep_same ((same_upd hp).trans (same_upd hp1))), rfl⟩, trivial⟩, by simp, by simp, (same_upd hp).trans (same_upd hp1)⟩ ?_
    rintro m σ H' ⟨ws, vs, wss, o1, o2, rfl, hP, hV, hL, hW, rfl, hS⟩
    walk_at "wp"
    refine ⟨!vs.isEmpty, .inl ⟨vs, .inl (.inl hV), rfl⟩, ?_⟩
    rcases List.eq_nil_or_concat vs with rfl | ⟨vs', y, rfl⟩
    · refine turnNF ?_
      walk_at "wp"
      have : wss = [] := by
        cases wss with
        | nil => rfl
        | cons _ _ => exact hL.elim
      subst this
      have hW' : words x = ws := by rw [hW]; simp
      refine ⟨⟨_, rfl⟩, _, p, ws, rfl, rfl, .inl (.inl (.inl hP)), ?_, ?_⟩
      · rw [← hW']
        have : (Str.length " ") = 1 := by decide +kernel
        rw [this]
        omega
      · rw [← hW']
        exact q H' hS
    · rw [List.concat_eq_append] at hV hL ⊢
      have hne2 : (!(vs' ++ [y]).isEmpty) = true := by simp
      rw [hne2]
      refine turnNT ?_
      walk_at "wp"
      obtain ⟨wss', wy, rfl, hL', hy⟩ := hL.last
      have hflat : (wss' ++ [wy]).reverse.flatten = wy ++ wss'.reverse.flatten := by simp
      rw [hflat] at hW ⊢
      refine ⟨ty_list hV, vs', y, hV, ?_⟩
      have hwl : ws.length + wy.length + wss'.reverse.flatten.length ≤ 10000 := by
        have := congrArg List.length hW
        simp only [List.length_append] at this
        omega
      have hvl := hL'.len
      have b1 : ∀ b o, b ≠ p → b ≠ p1 → H' b = some o → upd H' p1 (.lst vs') b = some o := fun b o _ n e => by rw [upd_ne n]; exact e
      have k1 : TKeep K H' (upd H' p1 (.lst vs')) := tkeep_but hV but_put
      have hP1 : upd H' p1 (.lst vs') p = some (.lst (ws.map .str)) := by rw [upd_ne (Ne.symm hne)]; exact hP
      have hS1 : Same H (upd H' p1 (.lst vs')) := same_put hS hp1'
      have hL1 := hL'.keep k1 b1
      have hy1 := hy.keep k1 b1
      have hwsl : (ws.map V.str).length < sizeLine := by
        rw [List.length_map]
        exact Nat.lt_of_le_of_lt (show ws.length ≤ 10000 by omega) (by decide)
      rcases hy1 with ⟨d, hd, rfl⟩ | ⟨l, rfl, n1, n2, hl, rfl⟩
      · have hpp1 : upd H' p1 (.lst vs') p1 = some (.lst vs') := upd_same
        have word1 : ∀ (w1 : Str), words d = [w1] → ∃ m', m' < (words d ++ wss'.reverse.flatten).length ∧ ∃ ws2 vs2 wss2 o3 o4, [some v, some (.ref p), some (.ref p1), some y, o2] = [some v, some (.ref p), some (.ref p1), o3, o4] ∧
            upd (upd H' p1 (.lst vs')) p (.lst (ws.map V.str ++ [V.str w1])) p = some (.lst (ws2.map V.str)) ∧ upd (upd H' p1 (.lst vs')) p (.lst (ws.map V.str ++ [V.str w1])) p1 = some (.lst vs2) ∧
            Lfs K (upd (upd H' p1 (.lst vs')) p (.lst (ws.map V.str ++ [V.str w1]))) p p1 vs2 wss2 ∧ words x = ws2 ++ wss2.reverse.flatten ∧ m' = wss2.reverse.flatten.length ∧ Same H (upd (upd H' p1 (.lst vs')) p (.lst (ws.map V.str ++ [V.str w1]))) := fun w1 e => by
          refine ⟨_, ?_, ws ++ [w1], vs', wss', some y, o2, rfl, ?_, ?_, ?_, ?_, rfl, same_put hS1 hp⟩
          · rw [e, List.length_append, List.length_singleton]; omega
          · rw [upd_same, List.map_append]; rfl
          · rw [upd_ne hne]; exact hpp1
          · exact hL1.keep (tkeep_but hP1 but_put) fun b o n _ h => by rw [upd_ne n]; exact h
          · rw [hW, e, List.append_assoc]
        rcases hd.ty with ⟨i, rfl, rfl, hi⟩ | ⟨z, rfl, rfl⟩ | ⟨b, xs, ds, rfl, rfl, hb, hbs⟩
        · refine isi_ty (.base (.int i)) rfl ⟨false, rfl, iteF ?_⟩
          refine isi_ty (.base (.int i)) rfl ⟨false, rfl, iteF ⟨ty_list hP1, ?_⟩⟩
          walk_at "wp"
          refine ⟨hi, _, hP1, hwsl, ?_⟩
          exact word1 _ rfl
        · refine isi_ty (.base (.str z)) rfl ⟨false, rfl, iteF ?_⟩
          refine isi_ty (.base (.str z)) rfl ⟨false, rfl, iteF ⟨ty_list hP1, ?_⟩⟩
          walk_at "wp"
          refine ⟨_, hP1, hwsl, ?_⟩
          exact word1 _ rfl
        · refine isi_ty (ty_of_tup hb) rfl ⟨true, rfl, iteT ?_⟩
          have hq2 : upd (upd H' p1 (.lst vs')) p (.lst (ws.map V.str ++ [V.str "("])) p1 = some (.lst vs') := by rw [upd_ne hne]; exact hpp1
          have hvs : vs'.length < sizeLine := Nat.lt_of_le_of_lt (show vs'.length ≤ 10000 by omega) (by decide)
          refine ⟨ty_list hP1, _, hP1, hwsl, ty_list hq2, by decide, fun r hr => ?_⟩
          have hrp : p1 ≠ r := fun z => by subst z; rw [hq2] at hr; cases hr
          have hrp0 : r ≠ p := fun z => by subst z; rw [upd_same] at hr; cases hr
          have hr' : H' r = none := by
            rw [upd_ne hrp0, upd_ne (Ne.symm hrp)] at hr
            exact hr
          refine ⟨vs', by rw [upd_ne hrp]; exact hq2, hvs, ?_⟩
          generalize hH4 : upd (upd (upd (upd H' p1 (.lst vs')) p (.lst (ws.map V.str ++ [V.str "("]))) r (.lst [.str ")"])) p1 (.lst (vs' ++ [.ref r])) = H4
          have e4 : ∀ b o, b ≠ p → b ≠ p1 → upd H' p1 (.lst vs') b = some o → H4 b = some o := fun b o n1 n2 h => by
            rw [← hH4, upd_ne n2, upd_ne (fun z => by subst z; rw [upd_ne n2, hr'] at h; cases h), upd_ne n1]; exact h
          have k4 : TKeep K (upd H' p1 (.lst vs')) H4 := tkeep_but2 hP1 hpp1 e4
          have p4 : H4 p = some (.lst (ws.map V.str ++ [V.str "("])) := by rw [← hH4, upd_ne (Ne.symm hne), upd_ne (Ne.symm hrp0), upd_same]
          have q4 : H4 p1 = some (.lst (vs' ++ [.ref r])) := by rw [← hH4, upd_same]
          have r4 : H4 r = some (.lst [.str ")"]) := by rw [← hH4, upd_ne (Ne.symm hrp), upd_same]
          have s4 : Same H H4 := by
            rw [← hH4]
            refine same_put (fun b o e => ?_) hp1'
            have e1 := hS b o e
            rw [upd_ne (fun z => by subst z; rw [hr'] at e1; cases e1)]
            exact same_put hS1 hp b o e
          clear hH4
          walk_at "wp"
          refine ⟨xs, k4 _ _ hb, fun r2 hr2 => ?_⟩
          have s5 : Same H4 (upd H4 r2 (.tup xs.reverse)) := same_upd hr2
          have hxl : xs.length ≤ 10000 := by
            have h1 := (hbs.lfs (p := p) (q := p1) (vs := []) (ws := []) trivial).len
            have h2 : ((ds.map words).reverse.reverse).flatten.length ≤ 10000 := by
              rw [List.reverse_reverse, ← wordsAll_flat]
              have : (words (.tuple ds)).length = (wordsAll ds).length + 2 := by rw [words]; simp
              omega
            simp only [List.nil_append, List.length_reverse] at h1
            omega
          refine in_tup (xs := xs.reverse) (fun i σ H6 => (∃ o, σ = [some v, some (.ref p), some (.ref p1), some (.ref b), o]) ∧ H6 p1 = some (.lst (vs' ++ [.ref r] ++ xs.reverse.take i)) ∧ ∀ c o, c ≠ p1 → upd H4 r2 (.tup xs.reverse) c = some o → H6 c = some o)
            ⟨⟨_, rfl⟩, by rw [List.take_zero, List.append_nil]; exact s5 _ _ q4, fun c o _ h => h⟩ (fun i σ H6 _ h => .inl (.inl (h.2.2 _ _ (fun z => by subst z; rw [q4] at hr2; cases hr2) upd_same))) (fun i y σ H6 hy h => ?_) fun σ H6 h => ?_
          · obtain ⟨⟨o, rfl⟩, h1, h2⟩ := h
            have hil : i < xs.reverse.length := (List.getElem?_eq_some_iff.mp hy).1
            walk_at "wp"
            refine ⟨ty_list h1, _, h1, ?_, ⟨_, rfl⟩, ?_, fun c o n h => by rw [upd_ne n]; exact h2 c o n h⟩
            · refine Nat.lt_of_le_of_lt (m := 30000) ?_ (by decide)
              rw [List.length_append, List.length_append, List.length_take, List.length_reverse, List.length_singleton]
              omega
            · rw [upd_same, List.append_assoc, List.take_add_one, hy]
              simp
          · obtain ⟨⟨o, rfl⟩, h1, h2⟩ := h
            rw [List.take_length] at h1
            have e6 : ∀ c o, c ≠ p → c ≠ p1 → H4 c = some o → H6 c = some o := fun c o _ n h => h2 c o n (s5 c o h)
            have k6 : TKeep K H4 H6 := tkeep_but2 p4 q4 e6
            have ew : words (.tuple ds) = opn :: (wordsAll ds ++ [cls]) := by rw [words]
            have k7 : TKeep K (upd H' p1 (.lst vs')) H6 := fun b xs h => k6 _ _ (k4 _ _ h)
            have e7 : ∀ c o, c ≠ p → c ≠ p1 → upd H' p1 (.lst vs') c = some o → H6 c = some o := fun c o n1 n2 h => e6 c o n1 n2 (e4 c o n1 n2 h)
            refine ⟨_, ?_, ws ++ [opn], _, wss' ++ [[cls]] ++ (ds.map words).reverse, some (.ref b), o, rfl, ?_, h1, ?_, ?_, rfl, ?_⟩
            · rw [ew]
              simp only [List.reverse_append, List.reverse_reverse, List.flatten_append, ← wordsAll_flat, List.length_append, List.length_cons, List.length_nil, List.reverse_cons, List.reverse_nil, List.nil_append, List.flatten_cons, List.flatten_nil, List.append_nil]
              omega
            · rw [List.map_append]
              exact h2 _ _ (Ne.symm hne) (s5 _ _ p4)
            · refine (TdAll.keep k7 hbs).lfs (Lfs.snoc (.inr ⟨r, rfl, hrp0, Ne.symm hrp, e6 _ _ hrp0 (Ne.symm hrp) r4, rfl⟩) (hL1.keep k7 e7))
            · rw [hW, ew]
              simp only [List.reverse_append, List.reverse_reverse, List.flatten_append, ← wordsAll_flat, List.cons_append, List.reverse_cons, List.reverse_nil, List.nil_append, List.flatten_cons, List.flatten_nil, List.append_nil, List.append_assoc]
            · exact fun c o h => h2 c o (fun z => by subst z; rw [hp1'] at h; cases h) (s5 c o (s4 c o h))
      · refine isi_ty (.base (.lst hl)) rfl ⟨false, rfl, iteF ?_⟩
        refine isi_ty (.base (.lst hl)) rfl ⟨true, rfl, iteT ⟨ty_list hP1, ?_⟩⟩
        walk_at "wp"
        refine ⟨_, .inl (.inl hl), _, rfl, _, hP1, hwsl, ?_⟩
        refine ⟨_, ?_, ws ++ [cls], vs', wss', some (.ref l), o2, rfl, ?_, ?_, ?_, ?_, rfl, same_put hS1 hp⟩
        · first | omega | (simp only [List.length_append, List.length_cons, List.length_nil]; omega)
        · rw [upd_same, List.map_append]; rfl
        · rw [upd_ne hne]; exact upd_same
        · exact hL1.keep (tkeep_but hP1 but_put) fun b o n _ h => by rw [upd_ne n]; exact h
        · rw [hW, List.append_assoc]
end
end T85

namespace T85
open PySem PySem.Spec PyProof.Rows L2 TL CW
local macro_rules | `(tactic| walk_at "wp") => `(tactic| simp only [CW.Lat, CW.LatE, CW.w_seq, CW.w_lcL, CW.w_yes, List.map_cons, List.map_nil, CW.w_mkO, CW.w_revT, CW.w_rev, CW.w_m1, CW.w_cxK, CW.w_forT, CW.w_forL, CW.w_forR, CW.w_forE, CW.w_asg, CW.w_drop, CW.w_ret, CW.w_retN, CW.w_next, CW.w_never, CW.w_brk, CW.w_cont, CW.w_if, CW.w_ifE, CW.w_var0, CW.w_vars, CW.w_C, CW.w_op, CW.w_un, CW.w_nil, CW.w_cons, CW.w_tup, CW.w_lst, CW.w_call, CW.w_callS, CW.w_cb, CW.w_sl, CW.w_noPart, CW.w_part, CW.w_B, CW.w_test, CW.w_and, CW.w_or, CW.w_not, CW.w_notV, CW.w_andV, CW.w_orV, CW.w_name, CW.w_set0, CW.w_sets, CW.w_gtup, CW.w_gnil, CW.w_gcons, CW.w_gsub, CW.w_exb, CW.w_exi, CW.w_I0, CW.w_I, CW.w_U, CW.w_eqI, CW.w_eqS, CW.w_eqIS, CW.w_neI, CW.w_neS, CW.w_ixL, CW.w_ixT, CW.w_ixS, CW.w_slS, CW.w_slL, CW.w_setL, CW.w_cat, CW.w_rep, CW.w_mulS, CW.w_in, CW.w_bm, CW.w_bm0, CW.w_append, CW.w_pop, CW.w_exr, CW.w_isN, CW.w_notN, CW.w_addS, CW.w_inS, CW.w_notInS, CW.w_abs, CW.w_max2, CW.w_min2, CW.w_int1, CW.w_int1b, CW.w_strI, CW.w_str1, CW.w_str2, CW.w_lenQ, CW.w_lenS, CW.w_intS, CW.w_tupQ, CW.w_tru,
  List.append_nil, List.cons_append, List.nil_append, decide_eq_true_eq, List.length_cons, List.length_nil, Ends.nx, Ends.rt])
local macro_rules | `(tactic| walk_at "wq") => `(tactic| simp only [CW.Lat, CW.LatE, CW.w_seq, CW.w_lcL, CW.w_yes, List.map_cons, List.map_nil, CW.w_mkO, CW.w_revT, CW.w_rev, CW.w_m1, CW.w_cxK, CW.w_forT, CW.w_forL, CW.w_forR, CW.w_forE, CW.w_asg, CW.w_drop, CW.w_ret, CW.w_retN, CW.w_next, CW.w_never, CW.w_brk, CW.w_cont, CW.w_if, CW.w_ifE, CW.w_var0, CW.w_vars, CW.w_C, CW.w_op, CW.w_un, CW.w_nil, CW.w_cons, CW.w_tup, CW.w_lst, CW.w_call, CW.w_callS, CW.w_cb, CW.w_sl, CW.w_noPart, CW.w_part, CW.w_B, CW.w_test, CW.w_not, CW.w_notV, CW.w_andV, CW.w_orV, CW.w_name, CW.w_set0, CW.w_sets, CW.w_gtup, CW.w_gnil, CW.w_gcons, CW.w_gsub, CW.w_exb, CW.w_exi, CW.w_I0, CW.w_I, CW.w_U, CW.w_eqI, CW.w_eqS, CW.w_eqIS, CW.w_neI, CW.w_neS, CW.w_ixL, CW.w_ixT, CW.w_ixS, CW.w_slS, CW.w_slL, CW.w_setL, CW.w_cat, CW.w_rep, CW.w_mulS, CW.w_in, CW.w_bm, CW.w_bm0, CW.w_append, CW.w_pop, CW.w_exr, CW.w_isN, CW.w_notN, CW.w_addS, CW.w_inS, CW.w_notInS, CW.w_abs, CW.w_max2, CW.w_min2, CW.w_int1, CW.w_int1b, CW.w_strI, CW.w_str1, CW.w_str2, CW.w_lenQ, CW.w_lenS, CW.w_intS, CW.w_tupQ, CW.w_tru,
  List.append_nil, List.cons_append, List.nil_append, decide_eq_true_eq, List.length_cons, List.length_nil, Ends.nx, Ends.rt])
local macro_rules | `(tactic| walk_at "ws") => `(tactic| simp only [CW.w_lcL, CW.w_yes, List.map_cons, List.map_nil, CW.w_mkO, CW.w_revT, CW.w_rev, CW.w_m1, CW.w_cxK, CW.w_forT, CW.w_forL, CW.w_forR, CW.w_forE, CW.w_asg, CW.w_drop, CW.w_ret, CW.w_retN, CW.w_next, CW.w_never, CW.w_brk, CW.w_cont, CW.w_var0, CW.w_vars, CW.w_C, CW.w_op, CW.w_un, CW.w_nil, CW.w_cons, CW.w_tup, CW.w_lst, CW.w_call, CW.w_callS, CW.w_cb, CW.w_sl, CW.w_noPart, CW.w_part, CW.w_B, CW.w_test, CW.w_not, CW.w_notV, CW.w_andV, CW.w_orV, CW.w_name, CW.w_set0, CW.w_sets, CW.w_gtup, CW.w_gnil, CW.w_gcons, CW.w_gsub, CW.w_exb, CW.w_exi, CW.w_I0, CW.w_I, CW.w_U, CW.w_eqI, CW.w_eqS, CW.w_eqIS, CW.w_neI, CW.w_neS, CW.w_ixL, CW.w_ixT, CW.w_ixS, CW.w_slS, CW.w_slL, CW.w_setL, CW.w_cat, CW.w_rep, CW.w_mulS, CW.w_in, CW.w_bm, CW.w_bm0, CW.w_append, CW.w_pop, CW.w_exr, CW.w_isN, CW.w_notN, CW.w_addS, CW.w_inS, CW.w_notInS, CW.w_abs, CW.w_max2, CW.w_min2, CW.w_int1, CW.w_int1b, CW.w_strI, CW.w_str1, CW.w_str2, CW.w_lenQ, CW.w_lenS, CW.w_intS, CW.w_tupQ, CW.w_tru,
  List.append_nil, List.cons_append, List.nil_append, decide_eq_true_eq, List.length_cons, List.length_nil, Ends.nx, Ends.rt])
section
variable {P : Program} {w : World} {K : PySem.W.Frag} {mg : Str → Option Value} {base : Heap} {a : Ad}
def sp_TextFault (C : Addr) : Sp := fun vs H Q _ => ∃ (x : Addr) (row col : Nat) (r : Str), vs = [.ref x, .int row, .int col, .str r] ∧ H x = some (exo x C none) ∧ row < 10 ^ 20 ∧ col < 10 ^ 20 ∧ r.length ≤ 1000 ∧
  ∀ d H', H d = none → d ≠ x → H' d = some (exd d [("reason", .str r), ("column", .int col), ("row", .int row)]) → H' x = some (exo x C (some d)) → (∀ b o, b ≠ x → H b = some o → H' b = some o) → Q .non H'
theorem log2_small {n : Nat} (h : n < 10 ^ 100) : (n : Int).natAbs.log2 < 1920 := by
  rw [Int.natAbs_natCast]
  by_cases h0 : n = 0
  · subst h0; decide
  · exact (Nat.log2_lt h0).mpr (Nat.lt_trans h (by decide +kernel))
theorem num_len {n k : Nat} (hk : 0 < k) (h : n < 10 ^ k) : (Str.ofString (toString (n : Int))).length ≤ k := by
  rw [len_tl, tl_num]
  exact numL_len hk h
theorem app_len (x y : Str) : (x ++ y).length = x.length + y.length := by rw [len_tl, tl_append, List.length_append, ← len_tl, ← len_tl]
abbrev s_init : Stmt := inClass (top 2) 0
theorem sc_init : SuScope ["self", "row", "column", "reason"] (defScope s_init) := ⟨rfl, rfl, rfl, by decide +kernel, by decide +kernel, by decide +kernel,
  fun x h => (by decide +kernel : ∀ y ∈ (defScope s_init).names, y.2 = .free → y.1 = "__class__") (x, .free) (PySem.mem_of_lookup h) rfl, by rfl, by rfl⟩
theorem ok_TextFault (T : Txt P K mg a) : FnOk P w K mg base CX0 1 a.i_TextFault a.e_TextFault ["self", "row", "column", "reason"] (sp_TextFault a.C_TextFault) := by
  obtain ⟨cc, cda, oc, od, kV, doc, pm, ct, an, osl, hF, hfd, lk, hcd⟩ := T.init_TextFault
  rw [hfd] at lk ⊢
  refine ok_su (k := 0) (ar := ⟨"self", none, _⟩) hF lk hcd sc_init rfl rfl ?_ (fun env => ⟨_, rfl⟩) (fun env => rfl) (fun env => rfl) ?_
  · rintro vs H Q E ⟨x, row, col, r, rfl, _⟩
    rfl
  · rintro A outer s H vs Q E hr ⟨x, row, col, r, rfl, hx, h1, h2, h3, q⟩
    refine ⟨x, _, _, _, rfl, hx, pe_joined (.cons pe_str (.cons (pe_fmt (pv 1)) (.cons pe_str (.cons (pe_fmt (pv 2)) (.cons pe_str (.cons (pe_fmt (pv 3)) .nil)))))), pss_cons (ps_ost (pv 0) (pv 1)) (pss_cons (ps_ost (pv 0) (pv 2)) (pss_one (ps_ost (pv 0) (pv 3)))), ?_⟩
    have L1 := num_len (by decide) h1
    have L2 := num_len (by decide) h2
    have c1 : (Str.ofString "row ").length = 4 := by decide +kernel
    have c2 : (Str.ofString ", column ").length = 9 := by decide +kernel
    have c3 : (Str.ofString ": ").length = 2 := by decide +kernel
    have c0 : Str.empty.length = 0 := rfl
    have big : ∀ n, n ≤ 2000 → n ≤ sizeLine := fun n h => Nat.le_trans h (by decide)
    refine ⟨_, rfl, ?_, _, rfl, .inr ⟨_, rfl, log2_small (Nat.lt_trans h1 (by decide)), _, rfl, ?_, _, rfl, ?_, _, rfl, .inr ⟨_, rfl, log2_small (Nat.lt_trans h2 (by decide)), _, rfl, ?_, _, rfl, ?_, _, rfl, .inl ⟨_, rfl, ?_, _, rfl, ?_, ?_⟩⟩⟩⟩
    · simp only [app_len, c0, c1]; exact big _ (by omega)
    · simp only [app_len, c0, c1]; exact big _ (by omega)
    · simp only [app_len, c0, c1, c2]; exact big _ (by omega)
    · simp only [app_len, c0, c1, c2]; exact big _ (by omega)
    · simp only [app_len, c0, c1, c2, c3]; exact big _ (by omega)
    · exact big _ (by omega)
    · simp only [app_len, c0, c1, c2, c3]; exact big _ (by omega)
    · refine ⟨hx, _, rfl, _, rfl, x, a.C_TextFault, rfl, T.oex_TextFault, T.no_TextFault_row, .inl ⟨hx, fun d hd hdx => ?_⟩⟩
      have hxd : x ≠ d := Ne.symm hdx
      refine ⟨_, rfl, _, rfl, x, a.C_TextFault, rfl, T.oex_TextFault, T.no_TextFault_column, .inr ⟨d, [("row", .int row)], upd_same, by rw [upd_ne hdx, upd_same], Nat.le_add_left 1 899, ?_⟩⟩
      refine ⟨_, rfl, _, rfl, x, a.C_TextFault, rfl, T.oex_TextFault, T.no_TextFault_reason, .inr ⟨d, _, by rw [upd_ne hxd, upd_same], upd_same, Nat.le_add_left 2 898, ?_⟩⟩
      refine q d _ hd hdx upd_same ?_ ?_
      · rw [upd_ne hxd, upd_ne hxd, upd_same]
      · intro b o n h
        have nd : b ≠ d := fun z => by subst z; rw [hd] at h; cases h
        rw [upd_ne nd, upd_ne nd, upd_ne n, upd_ne nd]; exact h
def faultD (r : Str) (col row : Nat) : HO := .xd [("reason", .str r), ("column", .int col), ("row", .int row)]
theorem fault_mk {C : Addr} {H : Hp} {row col : Nat} {r : Str} {Q : XK} (h1 : row < 10 ^ 20) (h2 : col < 10 ^ 20) (h3 : r.length ≤ 1000) (q : ∀ d H', H d = none → Same H H' → H' d = some (faultD r col row) → Q (.ref C) (some d) H') :
    zMkO C (sp_TextFault C) [] [.int row, .int col, .str r] H Q := by
  refine ⟨Nat.le_add_left 3 997, fun x hx => ⟨x, row, col, r, rfl, upd_same, h1, h2, h3, fun d H' hd hdx e1 e2 e3 => ?_⟩⟩
  have hd' : H d = none := by rw [upd_ne hdx] at hd; exact hd
  refine ⟨rfl, d, _, e2, e1, hd', q d _ hd' (fun b o h => ?_) upd_same⟩
  have n1 : b ≠ d := fun z => by subst z; rw [hd'] at h; cases h
  have n2 : b ≠ x := fun z => by subst z; rw [hx] at h; cases h
  rw [upd_ne n1, del_ne n2]
  exact e3 b o n2 (by rw [upd_ne n2]; exact h)
/-! ### the nests -/
def Nall (K : PySem.W.Frag) (H : Hp) : List Addr → St3 → Prop
  | [], [] => True
  | b :: bs, ds :: st => (∃ xs, H b = some (.lst xs) ∧ TdAll K H xs ds) ∧ Nall K H bs st
  | _, _ => False
theorem TdAll.len {H : Hp} : ∀ {xs : List V} {ds : List PyData}, TdAll K H xs ds → xs.length = ds.length
  | _, _, .nil => rfl
  | _, _, .cons _ h => congrArg (· + 1) (TdAll.len h)
theorem TdAll.snoc {H : Hp} {v : V} {d : PyData} (hv : Td K H v d) : ∀ {ds : List PyData} {xs : List V}, TdAll K H xs ds → TdAll K H (xs ++ [v]) (ds ++ [d])
  | _, _, .nil => .cons hv .nil
  | _, _, .cons h hs => .cons h (TdAll.snoc hv hs)
theorem Nall.len {H : Hp} : ∀ {bs : List Addr} {st : St3}, Nall K H bs st → bs.length = st.length
  | [], [], _ => rfl
  | _ :: _, _ :: _, h => congrArg (· + 1) (Nall.len h.2)
  | [], _ :: _, h => h.elim
  | _ :: _, [], h => h.elim
theorem Nall.keep {H H' : Hp} (k : TKeep K H H') : ∀ {bs : List Addr} {st : St3}, (∀ b ∈ bs, ∀ xs, H b = some (.lst xs) → H' b = some (.lst xs)) → Nall K H bs st → Nall K H' bs st
  | [], [], _, _ => trivial
  | b :: bs, ds :: st, hb, h => by
    obtain ⟨⟨xs, h1, h2⟩, h3⟩ := h
    exact ⟨⟨xs, hb b List.mem_cons_self xs h1, h2.keep k⟩, Nall.keep k (fun c hc => hb c (List.mem_cons_of_mem _ hc)) h3⟩
  | [], _ :: _, _, h => h.elim
  | _ :: _, [], _, h => h.elim
/-- the nests at p: the lists at bs, the innermost first, hold st; H0: all that was there before -/
structure Nst (K : PySem.W.Frag) (H0 H : Hp) (p : Addr) (bs : List Addr) (st : St3) : Prop where
  at_p : H p = some (.lst (bs.reverse.map V.ref))
  nd : bs.Nodup
  np : p ∉ bs
  all : Nall K H bs st
  same : Same H0 H
  fp : H0 p = none
  fb : ∀ b ∈ bs, H0 b = none
theorem Nst.len {H0 H : Hp} {p : Addr} {bs : List Addr} {st : St3} (n : Nst K H0 H p bs st) : bs.length = st.length := n.all.len
theorem Nst.push {H0 H : Hp} {p b : Addr} {bs : List Addr} {ds : List PyData} {st : St3} {xs : List V} {v : V} {d : PyData} (n : Nst K H0 H p (b :: bs) (ds :: st)) (hb : H b = some (.lst xs)) (hx : TdAll K H xs ds) (hv : Td K H v d) :
    Nst K H0 (upd H b (.lst (xs ++ [v]))) p (b :: bs) ((ds ++ [d]) :: st) := by
  have k : TKeep K H (upd H b (.lst (xs ++ [v]))) := tkeep_but hb but_put
  have hn := List.nodup_cons.mp n.nd
  have hpb : p ≠ b := fun z => n.np (by rw [z]; exact List.mem_cons_self)
  refine ⟨by rw [upd_ne hpb]; exact n.at_p, n.nd, n.np, ⟨⟨_, upd_same, (hx.keep k).snoc (hv.keep k)⟩, n.all.2.keep k fun c hc ys h => ?_⟩, same_put n.same (n.fb b List.mem_cons_self), n.fp, n.fb⟩
  rw [upd_ne (fun z => hn.1 (by rw [← z]; exact hc))]
  exact h
theorem Nst.opn {H0 H : Hp} {p r : Addr} {bs : List Addr} {st : St3} (n : Nst K H0 H p bs st) (hr : H r = none) :
    Nst K H0 (upd (upd H r (.lst [])) p (.lst (bs.reverse.map V.ref ++ [.ref r]))) p (r :: bs) ([] :: st) := by
  have hrp : r ≠ p := fun z => by subst z; rw [n.at_p] at hr; cases hr
  have nb : ∀ {bs : List Addr} {st : St3}, Nall K H bs st → r ∉ bs := by
    intro bs
    induction bs with
    | nil => intro st _ z; cases z
    | cons c bs ih =>
      intro st h z
      cases st with
      | nil => exact h.elim
      | cons ds st =>
        rcases List.mem_cons.mp z with rfl | z
        · obtain ⟨xs, hx, _⟩ := h.1
          rw [hr] at hx; cases hx
        · exact ih h.2 z
  have hnr : r ∉ bs := nb n.all
  have s1 : Same H (upd H r (.lst [])) := same_upd hr
  have k1 : TKeep K (upd H r (.lst [])) (upd (upd H r (.lst [])) p (.lst (bs.reverse.map V.ref ++ [.ref r]))) := tkeep_but (s1 _ _ n.at_p) but_put
  refine ⟨by rw [upd_same, List.reverse_cons, List.map_append]; rfl, List.nodup_cons.mpr ⟨hnr, n.nd⟩, fun z => ?_, ⟨⟨[], by rw [upd_ne hrp, upd_same], .nil⟩, n.all.keep (fun c ys h => k1 _ _ (tkeep_same s1 _ _ h)) fun c hc ys h => ?_⟩, same_put (n.same.trans s1) n.fp, n.fp, fun c hc => ?_⟩
  · rcases List.mem_cons.mp z with z | z
    · exact hrp z.symm
    · exact n.np z
  · rw [upd_ne (fun z => n.np (by rw [← z]; exact hc))]
    exact s1 _ _ h
  · rcases List.mem_cons.mp hc with rfl | z
    · exact n.same.free hr
    · exact n.fb c z
theorem Nst.pop {H0 H : Hp} {p b1 b2 q : Addr} {bs : List Addr} {d1 d2 : List PyData} {st : St3} {x1 x2 : List V} (n : Nst K H0 H p (b1 :: b2 :: bs) (d1 :: d2 :: st)) (h1 : H b1 = some (.lst x1)) (t1 : TdAll K H x1 d1) (h2 : H b2 = some (.lst x2)) (t2 : TdAll K H x2 d2) (hq : H q = none) :
    Nst K H0 (upd (upd (upd H p (.lst ((b2 :: bs).reverse.map V.ref))) q (.tup x1)) b2 (.lst (x2 ++ [.ref q]))) p (b2 :: bs) ((d2 ++ [.tuple d1]) :: st) := by
  have hn := List.nodup_cons.mp n.nd
  have hqp : q ≠ p := fun z => by subst z; rw [n.at_p] at hq; cases hq
  have hp2 : p ∉ b2 :: bs := fun z => n.np (List.mem_cons_of_mem _ z)
  have hpb : p ≠ b2 := fun z => hp2 (by rw [z]; exact List.mem_cons_self)
  have k1 : TKeep K H (upd H p (.lst ((b2 :: bs).reverse.map V.ref))) := tkeep_but n.at_p but_put
  have hq1 : upd H p (.lst ((b2 :: bs).reverse.map V.ref)) q = none := by rw [upd_ne hqp]; exact hq
  have s2 : Same (upd H p (.lst ((b2 :: bs).reverse.map V.ref))) (upd (upd H p (.lst ((b2 :: bs).reverse.map V.ref))) q (.tup x1)) := same_upd hq1
  have k2 : TKeep K H (upd (upd H p (.lst ((b2 :: bs).reverse.map V.ref))) q (.tup x1)) := fun c ys h => tkeep_same s2 _ _ (k1 _ _ h)
  have n1 : Nst K H0 (upd (upd H p (.lst ((b2 :: bs).reverse.map V.ref))) q (.tup x1)) p (b2 :: bs) (d2 :: st) := by
    refine ⟨s2 _ _ upd_same, hn.2, hp2, n.all.2.keep k2 fun c hc ys h => s2 _ _ ?_, (same_put n.same n.fp).trans s2, n.fp, fun c hc => n.fb c (List.mem_cons_of_mem _ hc)⟩
    rw [upd_ne (fun z => hp2 (by rw [← z]; exact hc))]
    exact h
  refine n1.push ?_ (t2.keep k2) (.tup (.inl (.inl upd_same)) (t1.keep k2))
  exact s2 _ _ (by rw [upd_ne (Ne.symm hpb)]; exact h2)
theorem Nst.first {H0 H : Hp} {p : Addr} {bs : List Addr} {st : St3} (n : Nst K H0 H p bs st) (h : st.length = 1) : ∃ b ds xs, bs = [b] ∧ st = [ds] ∧ H b = some (.lst xs) ∧ TdAll K H xs ds := by
  have hl := n.len
  have ha := n.all
  clear n
  cases bs with
  | nil => rw [h] at hl; cases hl
  | cons b bs =>
    cases st with
    | nil => cases h
    | cons ds st =>
      have e1 : st = [] := List.eq_nil_of_length_eq_zero (by simpa using h)
      subst e1
      have e2 : bs = [] := List.eq_nil_of_length_eq_zero (by simpa using hl)
      subst e2
      obtain ⟨⟨xs, h1, h2⟩, _⟩ := ha
      exact ⟨b, ds, xs, rfl, rfl, h1, h2⟩
theorem Nst.top {H0 H : Hp} {p : Addr} {bs : List Addr} {st : St3} (n : Nst K H0 H p bs st) (h : 1 ≤ st.length) : ∃ b bs' ds st' xs, bs = b :: bs' ∧ st = ds :: st' ∧ H b = some (.lst xs) ∧ TdAll K H xs ds := by
  have hl := n.len
  have ha := n.all
  clear n
  cases bs with
  | nil => have : st.length = 0 := hl.symm; omega
  | cons b bs =>
    cases st with
    | nil => cases hl
    | cons ds st =>
      obtain ⟨⟨xs, h1, h2⟩, _⟩ := ha
      exact ⟨b, bs, ds, st, xs, rfl, rfl, h1, h2⟩
theorem Tk.td {H : Hp} (t : Tk) (h : t.Ok) : Td K H t.v t.d := by
  cases t with
  | num n => exact .int _ (log2_small (Nat.lt_trans h (by decide +kernel)))
  | txt s => exact .str s
theorem kd_sign {t : Tk} : (t.kd.str = "sign") ↔ t.kd = .sign := by
  cases t.kd <;> simp [Kd.str] <;> decide +kernel
theorem atI_neg1 {α : Type} (l : List α) (x : α) : atI (l ++ [x]) (-1) = some x := by
  unfold atI ixN
  rw [if_neg (by omega), if_pos (by rw [List.length_append, List.length_singleton]; omega)]
  show (l ++ [x])[((-1 : Int) + ((l ++ [x]).length : Int)).toNat]? = _
  rw [show ((-1 : Int) + ((l ++ [x]).length : Int)).toNat = l.length by rw [List.length_append, List.length_singleton]; omega]
  simp
theorem rd_nil (st : St3) (e : Nat) : rd st [] e = if 1 < st.length then .error (e, "thing") else ended st e := by
  cases st with
  | nil => rfl
  | cons x r =>
    cases x with
    | nil =>
      unfold rd
      rfl
    | cons y ys =>
      unfold rd
      rfl
def sp_read_thing (K : PySem.W.Frag) (C : Addr) : Sp := fun vs H Q E => ∃ (l : Addr) (row : Nat) (xs : List V) (ts : List (Tk × Nat)), vs = [.ref l, .int row] ∧ row < 10 ^ 20 ∧ H l = some (.lst xs) ∧ TokL K H xs ts ∧ (∀ t ∈ ts, t.1.Ok ∧ t.2 < 10 ^ 15) ∧ ts.length ≤ 10000 ∧
  match rd [[]] ts (endCol ts) with
  | .ok x => ∀ v H', Same H H' → Td K H' v x → Q v H'
  | .error (c, r) => ∀ d H', H d = none → Same H H' → H' d = some (faultD r c row) → E (.ref C) (some d) H'
theorem ok_read_thing (T : Txt P K mg a) : FnOk P w K mg base (L2.CX P w) 3 a.f_read_thing a.d_read_thing ["tokens", "row"] (sp_read_thing K a.C_TextFault) := by
  refine T.F_read_thing.okX sc_read_thing (fun vs H Q E h => ?_) (fun cdv A outer s H vs Q E hr h => ?_)
  · obtain ⟨l, row, xs, ts, rfl, _⟩ := h
    rfl
  · obtain ⟨l, row, xs, ts, rfl, hrow, hl, hT, hok, hn, q⟩ := h
    refine ⟨_, (pss_cons (ps_set (i := 2) sc_read_thing.nd rfl (Or.inl rfl) (pe_lst (pa_cons (pe_lst pa_nil) pa_nil)))
    (pss_cons (ps_for (passes_of rfl) rfl (pi_list (pv 0)) (pg_tup (by rfl) (pgs_cons (pg_name (i := 3) sc_read_thing.nd rfl (Or.inl rfl)) (pgs_cons (pg_name (i := 4) sc_read_thing.nd rfl (Or.inl rfl)) (pgs_cons (pg_name (i := 5) sc_read_thing.nd rfl (Or.inl rfl)) pgs_nil)))) (pss_cons (ps_if (PW.pt (pw_and (pt_cmpR op_eq (pe_callB c_lenQ (by rfl) T.n_len PySem.boot_len (pa_cons (pv 2) pa_nil)) pe_int (nomark _)) (pw_and1 (pt_cmpR op_eq (pe_callB c_lenQ (by rfl) T.n_len PySem.boot_len (pa_cons (pe_ix ix_list (pv 2) pe_int (fun _ _ => rfl)) pa_nil)) pe_int (nomark _))))) (pss_one (ps_raise rfl (takes_of rfl rfl rfl rfl) (pmk_oex T.oex_TextFault T.ini_TextFault T.typ_TextFault (ok_TextFault T) (hr.mono (by decide)) T.b_TextFault .nil (fun _ _ _ _ _ _ _ z => z.elim) (by rfl) T.g_TextFault (by exact (pa_cons (pv 1) (pa_cons (pv 5) (pa_cons pe_str pa_nil))))))) pss_nil)
      (pss_one (ps_if (pt_cmpR op_ne (pv 3) pe_str (nomark _)) (pss_one (ps_expr (pe_bm PySem.F.plainAttrs_list PySem.F.slot_list_append PySem.F.type_list_append mt_append (pe_ix ix_list (pv 2) (pe_un un_neg pe_int) (fun _ _ => rfl)) (pa_cons (pv 4) pa_nil)))) (pss_one (ps_if (pt_cmpR op_eq (pv 4) pe_str (nomark _)) (pss_cons (ps_if (pt_cmpR op_gt (pe_callB c_lenQ (by rfl) T.n_len PySem.boot_len (pa_cons (pv 2) pa_nil)) (pe_glob (v := .int 8) (by rfl) T.c_MOST_NESTS ⟨_, rfl⟩) (nomark _)) (pss_one (ps_raise rfl (takes_of rfl rfl rfl rfl) (pmk_oex T.oex_TextFault T.ini_TextFault T.typ_TextFault (ok_TextFault T) (hr.mono (by decide)) T.b_TextFault .nil (fun _ _ _ _ _ _ _ z => z.elim) (by rfl) T.g_TextFault (by exact (pa_cons (pv 1) (pa_cons (pv 5) (pa_cons pe_str pa_nil))))))) pss_nil)
          (pss_one (ps_expr (pe_bm PySem.F.plainAttrs_list PySem.F.slot_list_append PySem.F.type_list_append mt_append (pv 2) (pa_cons (pe_lst pa_nil) pa_nil))))) (pss_one (ps_if (PW.pt (pw_and (pt_cmpR op_eq (pv 4) pe_str (nomark _)) (pw_and1 (pt_cmpR op_gt (pe_callB c_lenQ (by rfl) T.n_len PySem.boot_len (pa_cons (pv 2) pa_nil)) pe_int (nomark _))))) (pss_cons (ps_set (i := 6) sc_read_thing.nd rfl (Or.inl rfl) (pe_callTy c_tupQ (by rfl) T.n_tuple (by decide +kernel) (pa_cons (pe_bm0 PySem.F.plainAttrs_list PySem.F.slot_list_pop PySem.F.type_list_pop mt_pop (pv 2)) pa_nil)))
            (pss_one (ps_expr (pe_bm PySem.F.plainAttrs_list PySem.F.slot_list_append PySem.F.type_list_append mt_append (pe_ix ix_list (pv 2) (pe_un un_neg pe_int) (fun _ _ => rfl)) (pa_cons (pv 6) pa_nil))))) (pss_one (ps_raise rfl (takes_of rfl rfl rfl rfl) (pmk_oex T.oex_TextFault T.ini_TextFault T.typ_TextFault (ok_TextFault T) (hr.mono (by decide)) T.b_TextFault .nil (fun _ _ _ _ _ _ _ z => z.elim) (by rfl) T.g_TextFault (by exact (pa_cons (pv 1) (pa_cons (pv 5) (pa_cons pe_str pa_nil)))))))))))))))
    (pss_cons (ps_if (PW.pt (pw_or (pt_cmpR op_gt (pe_callB c_lenQ (by rfl) T.n_len PySem.boot_len (pa_cons (pv 2) pa_nil)) pe_int (nomark _)) (pw_or1 (pt_cmpR op_eq (pe_callB c_lenQ (by rfl) T.n_len PySem.boot_len (pa_cons (pe_ix ix_list (pv 2) pe_int (fun _ _ => rfl)) pa_nil)) pe_int (nomark _))))) (pss_one (ps_raise rfl (takes_of rfl rfl rfl rfl) (pmk_oex T.oex_TextFault T.ini_TextFault T.typ_TextFault (ok_TextFault T) (hr.mono (by decide)) T.b_TextFault .nil (fun _ _ _ _ _ _ _ z => z.elim) (by rfl) T.g_TextFault (by exact (pa_cons (pv 1) (pa_cons (pe_call (ok_end_column T) (hr.mono (by decide)) (by rfl) T.g_end_column T.F_end_column.kp T.b_end_column .nil pass0 (pa_cons (pv 0) pa_nil)) (pa_cons pe_str pa_nil))))))) pss_nil)
    (pss_one (ps_ret (pe_ix ix_list (pe_ix ix_list (pv 2) pe_int (fun _ _ => rfl)) pe_int (fun _ _ => rfl))))))), ?_⟩
    show tSeq _ _ _ [some (.ref l), some (.int row), none, none, none, none, none] H
    walk_at "wp"
    refine ⟨Nat.zero_le _, fun p0 hp0 => ⟨by decide, fun p hp => ?_⟩⟩
    have hp0p : p ≠ p0 := fun z => by subst z; rw [upd_same] at hp; cases hp
    have hp' : H p = none := by rw [upd_ne hp0p] at hp; exact hp
    have hS0 : Same H (upd (upd H p0 (.lst [])) p (.lst [.ref p0])) := (same_upd hp0).trans (same_upd hp)
    have N0 : Nst K H (upd (upd H p0 (.lst [])) p (.lst [.ref p0])) p [p0] [[]] :=
      ⟨by rw [upd_same]; rfl, by simp, by simpa using hp0p, ⟨⟨[], by rw [upd_ne (Ne.symm hp0p), upd_same], .nil⟩, trivial⟩, hS0, hp', fun b hb => by rw [List.mem_singleton.mp hb]; exact hp0⟩
    refine in_list (xs := xs) (fun i σ H' => ∃ (bs : List Addr) (st : St3) (o3 o4 o5 o6 : Option V), σ = [some (.ref l), some (.int row), some (.ref p), o3, o4, o5, o6] ∧ Nst K H H' p bs st ∧ rd [[]] ts (endCol ts) = rd st (ts.drop i) (endCol ts) ∧
        1 ≤ st.length ∧ st.length ≤ 9 ∧ (∀ ds ∈ st, ds.length ≤ i)) ⟨_, _, _, _, _, _, rfl, N0, rfl, Nat.le_refl _, by decide, by simp⟩ (fun i σ H' _ h => ?_) (fun i x σ H' hx h => ?_) fun σ H' h => ?_
    · obtain ⟨bs, st, o3, o4, o5, o6, rfl, n, _⟩ := h
      exact .inl (.inl (n.same _ _ hl))
    · obtain ⟨bs, st, o3, o4, o5, o6, rfl, n, hrd, hs1, hs9, hsz⟩ := h
      have hi : i < ts.length := by rw [← hT.len]; exact (List.getElem?_eq_some_iff.mp hx).1
      have hti : ts[i]? = some ts[i] := List.getElem?_eq_getElem hi
      generalize ts[i] = tc at hti
      obtain ⟨t, c⟩ := tc
      obtain ⟨pt, hx2, hpt⟩ := hT.at hti
      rw [hx] at hx2
      cases hx2
      have hokt := hok _ (List.mem_of_getElem? hti)
      rw [drop_at hti, rd] at hrd
      have hpt' : SqT K H' pt [.str t.kd.str, t.v, .int c] := tkeep_same n.same _ _ hpt
      have hbl := n.len
      have hcol : c < 10 ^ 20 := Nat.lt_trans hokt.2 (by decide)
      rw [hrd] at q
      have hSq : SqL K H' p (bs.reverse.map V.ref) := .inl (.inl n.at_p)
      have mk : ∀ (r : Str), r.length ≤ 1000 → (∀ d H', H d = none → Same H H' → H' d = some (faultD r c row) → E (.ref a.C_TextFault) (some d) H') → ∀ (r' : V), r' = .str r → zMkO a.C_TextFault (sp_TextFault a.C_TextFault) [] [.int row, .int c, r'] H' (fun cls d H' => E cls d H') := fun r hr q r' e => by
        subst e
        exact fault_mk hrow hcol hr fun d H2 hd hs e => q d H2 (n.same.free hd) (n.same.trans hs) e
      have hlen1 : (bs.reverse.map V.ref).length = st.length := by rw [List.length_map, List.length_reverse, hbl]
      walk_at "wq"
      refine ⟨_, hpt', rfl, ?_⟩
      walk_at "wq"
      refine and_known (decide (st.length = 1)) (decide ((st.getLastD []).length = 1)) (fun B hB => ?_) (fun h1 B hB => ?_) ?_
      · walk_at "wq"
        refine ⟨_, .inl hSq, ?_⟩
        rw [hlen1, show decide ((st.length : Int) = 1) = decide (st.length = 1) from decide_eq_decide.mpr (by omega)]
        exact hB
      · obtain ⟨b, ds, ys, rfl, rfl, hb, hd⟩ := n.first (of_decide_eq_true h1)
        walk_at "wq"
        refine ⟨_, hSq, .ref b, rfl, ?_⟩
        walk_at "wq"
        refine ⟨ys, .inl (.inl (.inl hb)), ?_⟩
        rw [hd.len, show decide ((ds.length : Int) = 1) = decide (ds.length = 1) from decide_eq_decide.mpr (by omega)]
        exact hB
      · by_cases hend : st.length = 1 ∧ (st.getLastD []).length = 1
        · rw [if_pos hend] at q
          rw [decide_eq_true hend.1, decide_eq_true hend.2]
          exact iteT (mk _ (by decide) q _ rfl)
        · rw [if_neg hend] at q hrd
          have hf : (decide (st.length = 1) && decide ((st.getLastD []).length = 1)) = false := by
            rw [← Bool.not_eq_true, Bool.and_eq_true, decide_eq_true_eq, decide_eq_true_eq]
            exact hend
          rw [hf]
          refine iteF ?_
          obtain ⟨b, bs', ds, st', ys, rfl, rfl, hb, hd⟩ := n.top hs1
          have hds : ds.length ≤ i := hsz ds List.mem_cons_self
          have hyl : ys.length < sizeLine := by rw [hd.len]; exact Nat.lt_of_le_of_lt (show ds.length ≤ 10000 by omega) (by decide)
          have hrm : ((b :: bs').reverse.map V.ref) = bs'.reverse.map V.ref ++ [.ref b] := by rw [List.reverse_cons, List.map_append]; rfl
          by_cases hk : t.kd = .sign
          · obtain ⟨s, rfl⟩ := txt_of (t := t) (by rw [hk]; exact fun z => nomatch z)
            rw [if_neg (fun z => z hk)] at q hrd
            rw [decide_eq_true (kd_sign.mpr hk)]
            refine iteF ?_
            rw [show (Tk.txt s).v = .str s from rfl]
            walk_at "wq"
            refine ite2 (fun ho => ?_) (fun ho => ?_)
            · subst ho
              rw [if_pos (show Tk.txt "(" = Tk.txt T85.opn from rfl)] at q hrd
              refine ⟨_, .inl hSq, ?_⟩
              rw [hlen1]
              refine ite2 (fun h8 => ?_) (fun h8 => ?_)
              · rw [if_pos (by omega)] at q
                exact mk _ (by decide) q _ rfl
              · rw [if_neg (by omega)] at hrd
                refine ⟨ty_list n.at_p, Nat.zero_le _, fun r hr => ⟨_, ?_, ?_, r :: b :: bs', [] :: ds :: st', _, _, _, _, rfl, n.opn hr, hrd, by simp, ?_, fun d hd => ?_⟩⟩
                · rw [upd_ne (fun z => by rw [← z, n.at_p] at hr; cases hr)]
                  exact n.at_p
                · rw [hlen1]
                  exact Nat.lt_of_le_of_lt hs9 (by decide)
                · simp only [List.length_cons] at h8 ⊢; omega
                · rcases List.mem_cons.mp hd with rfl | hd
                  · exact Nat.zero_le _
                  · exact Nat.le_succ_of_le (hsz d hd)
            · rw [if_neg (show ¬ Tk.txt s = Tk.txt T85.opn from fun z => ho (Tk.txt.inj z))] at q hrd
              refine and_known (decide (s = ")")) (decide (1 < (ds :: st').length)) (fun B hB => ?_) (fun h1 B hB => ?_) ?_
              · walk_at "wq"
                exact hB
              · walk_at "wq"
                refine ⟨_, .inl hSq, ?_⟩
                rw [hlen1, show decide ((1 : Int) < ((ds :: st').length : Int)) = decide (1 < (ds :: st').length) from decide_eq_decide.mpr (by omega)]
                exact hB
              · by_cases hcl : Tk.txt s = Tk.txt T85.cls ∧ 1 < (ds :: st').length
                · rw [if_pos hcl] at q hrd
                  have hs : s = ")" := Tk.txt.inj hcl.1
                  rw [decide_eq_true hs, decide_eq_true hcl.2]
                  subst hs
                  cases st' with
                  | nil => exact absurd hcl.2 (by simp)
                  | cons d2 st2 =>
                    cases bs' with
                    | nil => exact absurd hbl (by simp)
                    | cons b2 bs2 =>
                      obtain ⟨⟨x2, h2, t2⟩, _⟩ := n.all.2
                      have hbp : b ≠ p := fun z => n.np (by rw [← z]; exact List.mem_cons_self)
                      have hrm2 : ((b2 :: bs2).reverse.map V.ref) = bs2.reverse.map V.ref ++ [.ref b2] := by rw [List.reverse_cons, List.map_append]; rfl
                      refine iteT ⟨ty_list n.at_p, _, .ref b, by rw [n.at_p, hrm], ?_⟩
                      walk_at "wq"
                      refine ⟨ys, .inl ⟨.inl (.inl (by rw [upd_ne hbp]; exact hb)), fun r hr => ?_⟩⟩
                      have hrp : r ≠ p := fun z => by rw [z, upd_same] at hr; cases hr
                      have hr' : H' r = none := by rw [upd_ne hrp] at hr; exact hr
                      have hpb2 : b2 ≠ p := fun z => n.np (by rw [← z]; exact List.mem_cons_of_mem _ List.mem_cons_self)
                      have hrb2 : b2 ≠ r := fun z => by rw [← z, h2] at hr'; cases hr'
                      have hb2 : upd (upd H' p (.lst ((b2 :: bs2).reverse.map V.ref))) r (.tup ys) b2 = some (.lst x2) := by rw [upd_ne hrb2, upd_ne hpb2]; exact h2
                      refine ⟨(b2 :: bs2).reverse.map V.ref, .inl (.inl (by rw [upd_ne (Ne.symm hrp), upd_same])), .ref b2, by rw [hrm2]; exact atI_neg1 _ _, ty_list hb2, ?_⟩
                      walk_at "wq"
                      have hd2 : d2.length ≤ i := hsz d2 (by simp)
                      refine ⟨x2, hb2, ?_, b2 :: bs2, _, _, _, _, _, rfl, n.pop hb hd h2 t2 hr', hrd, by simp, ?_, fun d hd => ?_⟩
                      · rw [t2.len]; exact Nat.lt_of_le_of_lt (show d2.length ≤ 10000 by omega) (by decide)
                      · simp only [List.length_cons] at hs9 ⊢; omega
                      · rcases List.mem_cons.mp hd with rfl | hd
                        · rw [List.length_append, List.length_singleton]; omega
                        · exact Nat.le_succ_of_le (hsz d (List.mem_cons_of_mem _ (List.mem_cons_of_mem _ hd)))
                · rw [if_neg hcl] at q
                  have hf2 : (decide (s = ")") && decide (1 < (ds :: st').length)) = false := by
                    rw [← Bool.not_eq_true, Bool.and_eq_true, decide_eq_true_eq, decide_eq_true_eq]
                    exact fun z => hcl ⟨congrArg Tk.txt z.1, z.2⟩
                  rw [hf2]
                  exact iteF (mk _ (by decide) q _ rfl)
          · rw [if_pos hk] at q hrd
            rw [decide_eq_false (fun z => hk (kd_sign.mp z))]
            refine iteT ⟨_, hSq, .ref b, by rw [hrm]; exact atI_neg1 _ _, ty_list hb, ?_⟩
            walk_at "wq"
            refine ⟨ys, hb, hyl, b :: bs', _, _, _, _, _, rfl, n.push hb hd (t.td hokt.1), hrd, hs1, hs9, fun d hd => ?_⟩
            rcases List.mem_cons.mp hd with rfl | hd
            · rw [List.length_append, List.length_singleton]; omega
            · exact Nat.le_succ_of_le (hsz d (List.mem_cons_of_mem _ hd))
    · obtain ⟨bs, st, o3, o4, o5, o6, rfl, n, hrd, hs1, hs9, hsz⟩ := h
      rw [hT.len, List.drop_length] at hrd
      rw [hrd, rd_nil] at q
      have hbl := n.len
      have hlen1 : (bs.reverse.map V.ref).length = st.length := by rw [List.length_map, List.length_reverse, hbl]
      have hSq : SqL K H' p (bs.reverse.map V.ref) := .inl (.inl n.at_p)
      have hec : endCol ts < 10 ^ 20 := by
        unfold endCol
        cases e : ts.getLast? with
        | none => decide
        | some t =>
          have := (hok t (List.mem_of_getLast? e)).2
          exact Nat.lt_of_le_of_lt (Nat.succ_le_of_lt this) (by decide)
      have mk : (∀ d H', H d = none → Same H H' → H' d = some (faultD "thing" (endCol ts) row) → E (.ref a.C_TextFault) (some d) H') → zMkO a.C_TextFault (sp_TextFault a.C_TextFault) [] [.int row, .int (endCol ts), .str "thing"] H' (fun cls d H' => E cls d H') := fun q =>
        fault_mk hrow hec (by decide) fun d H2 hd hs e => q d H2 (n.same.free hd) (n.same.trans hs) e
      have hrow' : Row K H' l ts := ⟨xs, .inl (.inl (n.same _ _ hl)), hT.keep (tkeep_same n.same)⟩
      walk_at "wq"
      refine or_known (decide (1 < st.length)) (decide ((st.getLastD []).length = 0)) (fun B hB => ?_) (fun h1 B hB => ?_) ?_
      · walk_at "wq"
        refine ⟨_, .inl hSq, ?_⟩
        rw [hlen1, show decide ((1 : Int) < (st.length : Int)) = decide (1 < st.length) from decide_eq_decide.mpr (by omega)]
        exact hB
      · obtain ⟨b, ds, ys, rfl, rfl, hb, hd⟩ := n.first (by have := of_decide_eq_false h1; omega)
        walk_at "wq"
        refine ⟨_, hSq, .ref b, rfl, ?_⟩
        walk_at "wq"
        refine ⟨ys, .inl (.inl (.inl hb)), ?_⟩
        rw [hd.len, show decide ((ds.length : Int) = 0) = decide (ds.length = 0) from decide_eq_decide.mpr (by omega)]
        exact hB
      · by_cases h1 : 1 < st.length
        · rw [if_pos h1] at q
          rw [decide_eq_true h1]
          refine iteT ⟨l, ts, rfl, hrow', ?_⟩
          exact mk q
        · rw [if_neg h1] at q
          rw [decide_eq_false h1]
          obtain ⟨b, ds, ys, rfl, rfl, hb, hd⟩ := n.first (by omega)
          cases hd with
          | nil =>
            refine iteT ⟨l, ts, rfl, hrow', ?_⟩
            exact mk q
          | @cons v vs x ds hx hxs =>
            refine iteF ⟨_, hSq, .ref b, rfl, ?_⟩
            walk_at "wq"
            exact ⟨_, .inl (.inl hb), v, atI_nat (xs := v :: vs) (j := 0) rfl, q v H' n.same hx⟩
end
end T85

namespace T85
open PySem PySem.Spec PyProof.Rows L2 TL CW
local macro_rules | `(tactic| walk_at "wp") => `(tactic| simp only [CW.Lat, CW.LatE, CW.w_seq, CW.w_lcL, CW.w_yes, List.map_cons, List.map_nil, CW.w_mkO, CW.w_revT, CW.w_rev, CW.w_m1, CW.w_cxK, CW.w_forT, CW.w_forL, CW.w_forR, CW.w_forE, CW.w_asg, CW.w_drop, CW.w_ret, CW.w_retN, CW.w_next, CW.w_never, CW.w_brk, CW.w_cont, CW.w_if, CW.w_ifE, CW.w_var0, CW.w_vars, CW.w_C, CW.w_op, CW.w_un, CW.w_nil, CW.w_cons, CW.w_tup, CW.w_lst, CW.w_call, CW.w_callS, CW.w_cb, CW.w_sl, CW.w_noPart, CW.w_part, CW.w_B, CW.w_test, CW.w_and, CW.w_or, CW.w_not, CW.w_notV, CW.w_andV, CW.w_orV, CW.w_name, CW.w_set0, CW.w_sets, CW.w_gtup, CW.w_gnil, CW.w_gcons, CW.w_gsub, CW.w_exb, CW.w_exi, CW.w_I0, CW.w_I, CW.w_U, CW.w_eqI, CW.w_eqS, CW.w_eqIS, CW.w_neI, CW.w_neS, CW.w_ixL, CW.w_ixT, CW.w_ixS, CW.w_slS, CW.w_slL, CW.w_setL, CW.w_cat, CW.w_rep, CW.w_mulS, CW.w_in, CW.w_bm, CW.w_bm0, CW.w_append, CW.w_pop, CW.w_exr, CW.w_isN, CW.w_notN, CW.w_addS, CW.w_inS, CW.w_notInS, CW.w_abs, CW.w_max2, CW.w_min2, CW.w_int1, CW.w_int1b, CW.w_strI, CW.w_str1, CW.w_str2, CW.w_lenQ, CW.w_lenS, CW.w_intS, CW.w_tupQ, CW.w_tru,
  List.append_nil, List.cons_append, List.nil_append, decide_eq_true_eq, List.length_cons, List.length_nil, Ends.nx, Ends.rt])
local macro_rules | `(tactic| walk_at "wq") => `(tactic| simp only [CW.Lat, CW.LatE, CW.w_seq, CW.w_lcL, CW.w_yes, List.map_cons, List.map_nil, CW.w_mkO, CW.w_revT, CW.w_rev, CW.w_m1, CW.w_cxK, CW.w_forT, CW.w_forL, CW.w_forR, CW.w_forE, CW.w_asg, CW.w_drop, CW.w_ret, CW.w_retN, CW.w_next, CW.w_never, CW.w_brk, CW.w_cont, CW.w_if, CW.w_ifE, CW.w_var0, CW.w_vars, CW.w_C, CW.w_op, CW.w_un, CW.w_nil, CW.w_cons, CW.w_tup, CW.w_lst, CW.w_call, CW.w_callS, CW.w_cb, CW.w_sl, CW.w_noPart, CW.w_part, CW.w_B, CW.w_test, CW.w_not, CW.w_notV, CW.w_andV, CW.w_orV, CW.w_name, CW.w_set0, CW.w_sets, CW.w_gtup, CW.w_gnil, CW.w_gcons, CW.w_gsub, CW.w_exb, CW.w_exi, CW.w_I0, CW.w_I, CW.w_U, CW.w_eqI, CW.w_eqS, CW.w_eqIS, CW.w_neI, CW.w_neS, CW.w_ixL, CW.w_ixT, CW.w_ixS, CW.w_slS, CW.w_slL, CW.w_setL, CW.w_cat, CW.w_rep, CW.w_mulS, CW.w_in, CW.w_bm, CW.w_bm0, CW.w_append, CW.w_pop, CW.w_exr, CW.w_isN, CW.w_notN, CW.w_addS, CW.w_inS, CW.w_notInS, CW.w_abs, CW.w_max2, CW.w_min2, CW.w_int1, CW.w_int1b, CW.w_strI, CW.w_str1, CW.w_str2, CW.w_lenQ, CW.w_lenS, CW.w_intS, CW.w_tupQ, CW.w_tru,
  List.append_nil, List.cons_append, List.nil_append, decide_eq_true_eq, List.length_cons, List.length_nil, Ends.nx, Ends.rt])
local macro_rules | `(tactic| walk_at "ws") => `(tactic| simp only [CW.w_lcL, CW.w_yes, List.map_cons, List.map_nil, CW.w_mkO, CW.w_revT, CW.w_rev, CW.w_m1, CW.w_cxK, CW.w_forT, CW.w_forL, CW.w_forR, CW.w_forE, CW.w_asg, CW.w_drop, CW.w_ret, CW.w_retN, CW.w_next, CW.w_never, CW.w_brk, CW.w_cont, CW.w_var0, CW.w_vars, CW.w_C, CW.w_op, CW.w_un, CW.w_nil, CW.w_cons, CW.w_tup, CW.w_lst, CW.w_call, CW.w_callS, CW.w_cb, CW.w_sl, CW.w_noPart, CW.w_part, CW.w_B, CW.w_test, CW.w_not, CW.w_notV, CW.w_andV, CW.w_orV, CW.w_name, CW.w_set0, CW.w_sets, CW.w_gtup, CW.w_gnil, CW.w_gcons, CW.w_gsub, CW.w_exb, CW.w_exi, CW.w_I0, CW.w_I, CW.w_U, CW.w_eqI, CW.w_eqS, CW.w_eqIS, CW.w_neI, CW.w_neS, CW.w_ixL, CW.w_ixT, CW.w_ixS, CW.w_slS, CW.w_slL, CW.w_setL, CW.w_cat, CW.w_rep, CW.w_mulS, CW.w_in, CW.w_bm, CW.w_bm0, CW.w_append, CW.w_pop, CW.w_exr, CW.w_isN, CW.w_notN, CW.w_addS, CW.w_inS, CW.w_notInS, CW.w_abs, CW.w_max2, CW.w_min2, CW.w_int1, CW.w_int1b, CW.w_strI, CW.w_str1, CW.w_str2, CW.w_lenQ, CW.w_lenS, CW.w_intS, CW.w_tupQ, CW.w_tru,
  List.append_nil, List.cons_append, List.nil_append, decide_eq_true_eq, List.length_cons, List.length_nil, Ends.nx, Ends.rt])
section
variable {P : Program} {w : World} {K : PySem.W.Frag} {mg : Str → Option Value} {base : Heap} {a : Ad}
/-- the drawer at d -/
def DrawAt (H : Hp) (d c : Addr) : Prop := ∃ (ns : List Int) (i : Nat) (r x : Int), H d = some (.lst [.ref c, .int i, .int r, .int x]) ∧ H c = some (.lst (ns.map V.int)) ∧ c ≠ d
theorem DrawAt.same {H H' : Hp} {d c : Addr} (h : DrawAt H d c) (e : Same H H') : DrawAt H' d c := by
  obtain ⟨ns, i, r, x, h1, h2, h3⟩ := h
  exact ⟨ns, i, r, x, e _ _ h1, e _ _ h2, h3⟩
theorem DrawAt.lst {H : Hp} {d c : Addr} (h : DrawAt H d c) : ∃ ds, H d = some (.lst ds) := by
  obtain ⟨ns, i, r, x, h1, _⟩ := h
  exact ⟨_, h1⟩
theorem DrawAt.put {H : Hp} {d c l : Addr} {o : HO} (h : DrawAt H d c) (n1 : l ≠ d) (n2 : l ≠ c) : DrawAt (upd H l o) d c := by
  obtain ⟨ns, i, r, x, h1, h2, h3⟩ := h
  exact ⟨ns, i, r, x, by rw [upd_ne (Ne.symm n1)]; exact h1, by rw [upd_ne (Ne.symm n2)]; exact h2, h3⟩
theorem DrawAt.new {H : Hp} {d c l : Addr} (h : DrawAt H d c) (n : H l = none) : l ≠ d ∧ l ≠ c := by
  obtain ⟨ns, i, r, x, h1, h2, h3⟩ := h
  exact ⟨fun z => (by rw [z, h1] at n; cases n), fun z => (by rw [z, h2] at n; cases n)⟩
theorem But.put {d l : Addr} {H H' : Hp} {o : HO} (b : But d H H') (hn : H l = none) : But d H (upd H' l o) := fun c o' n e => by
  rw [upd_ne (fun z => by rw [z, hn] at e; cases e)]
  exact b c o' n e
def sp_begin (K : PySem.W.Frag) : Sp := fun vs H Q _ => ∃ (l : Addr) (ns : List Int), vs = [.ref l] ∧ SqL K H l (ns.map V.int) ∧ ns.length ≤ 1000 ∧ ∀ d dc H', Same H H' → DrawAt H' d dc → H d = none → Q (.ref d) H'
theorem ok__law_begin (T : Txt P K mg a) : FnOk P w K mg base CX0 1 a.f__law_begin a.d__law_begin ["script"] (sp_begin K) := by
  refine T.F__law_begin.ok sc__law_begin (fun vs H Q E h => ?_) (fun cdv A outer s H vs Q E hr h => ?_)
  · obtain ⟨z, p, rfl, _⟩ := h
    rfl
  · obtain ⟨l, ns, rfl, hl, hn, q⟩ := h
    refine ⟨_, (pss_one (ps_ret (pe_lst (pa_cons (pe_lc (own := [("cell", 1)]) (g := gName 1) rfl sc__law_begin.nd (pi_list (pv 0)) (blkOk_by (own := [("cell", 1)]) (N := ["script", "cell"]) (sc := defScope s__law_begin) (by decide +kernel)) (fun _ _ _ _ _ => pg_name (i := 1) sc__law_begin.nd rfl (Or.inl rfl)) (fun _ _ _ _ _ => pts_nil) (fun _ _ _ _ _ => (pe_callTy c_int1 (by rfl) T.n_int (by decide +kernel) (pa_cons (pv 1) pa_nil)))) (pa_cons pe_int (pa_cons pe_int (pa_cons pe_int pa_nil))))))), ?_⟩
    show tRet _ _ [some (.ref l), none] H
    walk_at "wp"
    refine in_lc (xs := ns.map V.int) hl (fun D i H' => Same H H' ∧ H' D = some (.lst ((ns.map V.int).take i))) (fun D hD => ⟨same_upd hD, by rw [upd_same, List.take_zero]⟩) (fun D i H' hD _ h => h.1.seq hl) (fun D i x H' hD hx h => ?_) fun D H' hD h => ?_
    · obtain ⟨hS, hDl⟩ := h
      have hi := (List.getElem?_eq_some_iff.mp hx).1
      rw [List.length_map] at hi
      obtain ⟨n, rfl⟩ : ∃ n, x = V.int n := by
        rw [List.getElem?_map] at hx
        cases e : ns[i]? with
        | none => rw [e] at hx; cases hx
        | some n => rw [e] at hx; exact ⟨n, (Option.some.inj hx).symm⟩
      walk_at "wp"
      refine ⟨rfl, _, rfl, .inl ⟨n, rfl, ?_⟩⟩
      refine ⟨_, hDl, ?_, same_put hS hD, ?_⟩
      · rw [List.length_take, List.length_map]
        exact Nat.lt_of_le_of_lt (show min i ns.length ≤ 1000 by omega) (by decide)
      · rw [upd_same, List.take_add_one, hx]
        rfl
    · obtain ⟨hS, hDl⟩ := h
      rw [List.take_length] at hDl
      refine ⟨by decide, fun d hd => ?_⟩
      have hne : D ≠ d := fun z => by rw [z, hd] at hDl; cases hDl
      exact q d D _ (hS.trans (same_upd hd)) ⟨ns, 0, 0, 11, upd_same, by rw [upd_ne hne]; exact hDl, hne⟩ (hS.free hd)
end
section
variable {P : Program} {w : World} {K : PySem.W.Frag} {mg : Str → Option Value} {base : Heap} {a : Ad}
def sp_draw : Sp := fun vs H Q _ => ∃ (d dc : Addr) (m : Nat), vs = [.ref d, .int m] ∧ DrawAt H d dc ∧ 0 < m ∧ m < 1000000 ∧ ∀ (i : Nat) H', i < m → DrawAt H' d dc → But d H H' → Q (.int i) H'
theorem ok__law_draw (T : Txt P K mg a) : FnOk P w K mg base CX0 1 a.f__law_draw a.d__law_draw ["d", "many"] sp_draw := by
  refine T.F__law_draw.ok sc__law_draw (fun vs H Q E h => ?_) (fun cdv A outer s H vs Q E hr h => ?_)
  · obtain ⟨z, p, m, rfl, _⟩ := h
    rfl
  · obtain ⟨d, c, m, rfl, ⟨ns, i, r, x, h1, h2, h3⟩, hm, hm2, q⟩ := h
    refine ⟨_, (pss_cons (ps_if (pt_cmpR op_gt (pe_ix ix_list (pv 0) pe_int (fun _ _ => rfl)) pe_int (nomark _)) (pss_cons (ps_set (i := 2) sc__law_draw.nd rfl (Or.inl rfl) (pe_ix ix_list (pv 0) pe_int (fun _ _ => rfl)))
      (pss_cons (ps_asg (pe_op op_fdiv (pv 2) (pv 1)) (pg_sub (pv 0) pe_int set_list))
      (pss_one (ps_ret (pe_op op_mod (pe_callTy c_int1 (by rfl) T.n_int (by decide +kernel) (pa_cons (pv 2) pa_nil)) (pv 1)))))) pss_nil)
    (pss_cons (ps_set (i := 3) sc__law_draw.nd rfl (Or.inl rfl) pe_int)
    (pss_cons (ps_if (pt_cmpR op_lt (pe_ix ix_list (pv 0) pe_int (fun _ _ => rfl)) (pe_callB c_lenQ (by rfl) T.n_len PySem.boot_len (pa_cons (pe_ix ix_list (pv 0) pe_int (fun _ _ => rfl)) pa_nil)) (nomark _)) (pss_one (ps_set (i := 3) sc__law_draw.nd rfl (Or.inl rfl) (pe_op op_add (pe_op op_mul pe_int (pe_callB c_abs (by rfl) T.n_abs (by decide +kernel) (pa_cons (pe_ix ix_list (pe_ix ix_list (pv 0) pe_int (fun _ _ => rfl)) (pe_ix ix_list (pv 0) pe_int (fun _ _ => rfl)) (fun _ _ => rfl)) pa_nil))) (pe_callTy c_int1 (by rfl) T.n_int (by decide +kernel) (pa_cons (pe_cmpR op_lt (pe_ix ix_list (pe_ix ix_list (pv 0) pe_int (fun _ _ => rfl)) (pe_ix ix_list (pv 0) pe_int (fun _ _ => rfl)) (fun _ _ => rfl)) pe_int (nomark _)) pa_nil))))) pss_nil)
    (pss_cons (ps_asg (pe_op op_add (pe_ix ix_list (pv 0) pe_int (fun _ _ => rfl)) pe_int) (pg_sub (pv 0) pe_int set_list))
    (pss_cons (ps_if (pt_cmpR op_ge (pv 3) (pe_op op_mul pe_int (pe_op op_pow pe_int pe_int)) (nomark _)) (pss_cons (ps_set (i := 2) sc__law_draw.nd rfl (Or.inl rfl) (pe_op op_mod (pe_callTy c_int1 (by rfl) T.n_int (by decide +kernel) (pa_cons (pe_op op_fdiv (pv 3) pe_int) pa_nil)) (pe_op op_shl pe_int pe_int)))
      (pss_cons (ps_asg (pe_op op_fdiv (pv 2) (pv 1)) (pg_sub (pv 0) pe_int set_list))
      (pss_one (ps_ret (pe_op op_mod (pe_callTy c_int1 (by rfl) T.n_int (by decide +kernel) (pa_cons (pv 2) pa_nil)) (pv 1)))))) pss_nil)
    (pss_cons (ps_asg (pe_op op_mod (pe_callTy c_int1 (by rfl) T.n_int (by decide +kernel) (pa_cons (pe_op op_add (pe_op op_add (pe_op op_add (pe_op op_mul (pe_ix ix_list (pv 0) pe_int (fun _ _ => rfl)) pe_int) (pe_op op_mul (pe_op op_mod (pe_callTy c_int1 (by rfl) T.n_int (by decide +kernel) (pa_cons (pv 3) pa_nil)) pe_int) pe_int)) (pe_op op_mul (pe_ix ix_list (pv 0) pe_int (fun _ _ => rfl)) pe_int)) pe_int) pa_nil)) pe_int) (pg_sub (pv 0) pe_int set_list))
    (pss_one (ps_ret (pe_op op_mod (pe_callTy c_int1 (by rfl) T.n_int (by decide +kernel) (pa_cons (pe_op op_fdiv (pe_ix ix_list (pv 0) pe_int (fun _ _ => rfl)) pe_int) pa_nil)) (pv 1)))))))))), ?_⟩
    show tSeq _ _ _ [some (.ref d), some (.int m), none, none] H
    have hm0 : (0 : Int) < (m : Int) := by omega
    have mod_nat : ∀ z : Int, ∃ k : Nat, z % (m : Int) = (k : Int) ∧ k < m := fun z => by
      have g1 := Int.emod_nonneg z (by omega : (m : Int) ≠ 0)
      have g2 := Int.emod_lt_of_pos z hm0
      exact ⟨(z % (m : Int)).toNat, by omega, by omega⟩
    have fin : ∀ (z : Int) (ds : List V) (j : Nat) (r' x' : Int), ds = [.ref c, .int j, .int r', .int x'] → Q (.int (z % (m : Int))) (upd H d (.lst ds)) := fun z ds j r' x' e => by
      obtain ⟨k, e1, e2⟩ := mod_nat z
      rw [e1]
      exact q k _ e2 ⟨ns, j, r', x', by rw [upd_same, e], by rw [upd_ne h3]; exact h2, h3⟩ but_put
    have hq : ∀ H1 : Hp, H1 d = some (.lst [.ref c, .int i, .int r, .int x]) → SqL K H1 d [.ref c, .int i, .int r, .int x] := fun H1 h => .inl (.inl h)
    refine seq_gen (fun σ' H' => σ' = [some (.ref d), some (.int m), none, none] ∧ H' = H) (fun R hR => ?_) ?_
    · walk_at "wp"
      refine ⟨_, hq H h1, .int r, rfl, ?_⟩
      walk_at "wp"
      refine ite2 (fun hr0 => ?_) (fun hr0 => ?_)
      · refine ⟨_, hq H h1, .int r, rfl, ?_⟩
        walk_at "wp"
        refine ⟨⟨hm0, by omega⟩, _, 2, h1, rfl, hm0, ?_⟩
        exact fin r _ i _ x rfl
      · exact hR _ _ ⟨rfl, rfl⟩
    rintro σ' H' ⟨rfl, rfl⟩
    refine seq_gen (fun σ' H2 => σ' = [some (.ref d), some (.int m), none, some (.int 0)] ∧ H2 = H') (fun R hR => ?_) ?_
    · walk_at "wp"
      exact hR _ _ ⟨rfl, rfl⟩
    rintro σ' H' ⟨rfl, rfl⟩
    refine seq_gen (fun σ' H2 => (∃ sz : Int, σ' = [some (.ref d), some (.int m), none, some (.int sz)]) ∧ H2 = H') (fun R hR => ?_) ?_
    · walk_at "wp"
      refine ⟨_, hq H' h1, .int i, rfl, _, hq H' h1, .ref c, rfl, ?_⟩
      walk_at "wp"
      refine ⟨_, .inl (.inl (.inl h2)), ?_⟩
      refine ite2 (fun hi => ?_) (fun hi => ?_)
      · rw [List.length_map] at hi
        obtain ⟨n, hn⟩ : ∃ n, ns[i]? = some n := ⟨ns[i]'(by omega), List.getElem?_eq_getElem _⟩
        have hn2 : atI (ns.map V.int) (i : Int) = some (.int n) := atI_nat (by rw [List.getElem?_map, hn]; rfl)
        refine ⟨_, hq H' h1, .ref c, rfl, _, hq H' h1, .int i, rfl, ?_⟩
        walk_at "wp"
        refine ⟨_, .inl (.inl h2), _, hn2, ?_⟩
        walk_at "wp"
        refine ⟨.inl (by decide), _, hq H' h1, .ref c, rfl, _, hq H' h1, .int i, rfl, ?_⟩
        walk_at "wp"
        refine ⟨_, .inl (.inl h2), _, hn2, ?_⟩
        walk_at "wp"
        exact hR _ _ ⟨⟨_, rfl⟩, rfl⟩
      · exact hR _ _ ⟨⟨_, rfl⟩, rfl⟩
    rintro σ' H' ⟨⟨sz, rfl⟩, rfl⟩
    refine seq_gen (fun σ' H2 => σ' = [some (.ref d), some (.int m), none, some (.int sz)] ∧ H2 = upd H' d (.lst [.ref c, .int ((i + 1 : Nat) : Int), .int r, .int x])) (fun R hR => ?_) ?_
    · walk_at "wp"
      refine ⟨_, hq H' h1, .int i, rfl, ?_⟩
      walk_at "wp"
      exact ⟨_, 1, h1, rfl, hR _ _ ⟨rfl, rfl⟩⟩
    rintro σ' H2 ⟨rfl, rfl⟩
    have u2 : ∀ o1 o2, upd (upd H' d o1) d o2 = upd H' d o2 := fun o1 o2 => by
      funext b
      by_cases hb : b = d
      · rw [hb, upd_same, upd_same]
      · rw [upd_ne hb, upd_ne hb, upd_ne hb]
    refine seq_gen (fun σ' H2 => σ' = [some (.ref d), some (.int m), none, some (.int sz)] ∧ H2 = upd H' d (.lst [.ref c, .int ((i + 1 : Nat) : Int), .int r, .int x])) (fun R hR => ?_) ?_
    · walk_at "wp"
      have hB : (0 : Int) < 1 * 2 ^ Int.toNat 6000 := Int.mul_pos (by decide) (Int.pow_pos (by decide))
      generalize (1 * 2 ^ Int.toNat 6000 : Int) = B at hB
      refine ⟨⟨by decide, by decide, by decide⟩, .inl ⟨by decide, by decide⟩, ite2 (fun hz => ?_) (fun hz => ?_)⟩
      · refine ⟨⟨by decide, by decide⟩, ⟨by decide, by decide, by decide⟩, hB, ⟨hm0, by omega⟩, _, 2, upd_same, rfl, hm0, ?_⟩
        rw [u2]
        exact fin _ _ (i + 1) _ x rfl
      · exact hR _ _ ⟨rfl, rfl⟩
    rintro σ' H2 ⟨rfl, rfl⟩
    have hq2 : SqL K (upd H' d (.lst [.ref c, .int ((i + 1 : Nat) : Int), .int r, .int x])) d [.ref c, .int ((i + 1 : Nat) : Int), .int r, .int x] := .inl (.inl upd_same)
    walk_at "wp"
    refine ⟨_, hq2, .int x, rfl, ?_⟩
    walk_at "wp"
    refine ⟨.inr ⟨by decide, by decide⟩, by decide, .inr ⟨by decide, by decide⟩, _, hq2, .int ((i + 1 : Nat) : Int), rfl, ?_⟩
    walk_at "wp"
    refine ⟨.inr ⟨by decide, by decide⟩, by decide, _, 3, upd_same, rfl, _, .inl (.inl upd_same), _, rfl, ?_⟩
    walk_at "wp"
    refine ⟨⟨by decide, by decide⟩, hm0, ?_⟩
    rw [u2]
    exact fin _ _ (i + 1) _ _ rfl
end
end T85

namespace T85
open PySem PySem.Spec PyProof.Rows L2 TL CW
local macro_rules | `(tactic| walk_at "wp") => `(tactic| simp only [CW.Lat, CW.LatE, CW.w_seq, CW.w_lcL, CW.w_yes, List.map_cons, List.map_nil, CW.w_mkO, CW.w_revT, CW.w_rev, CW.w_m1, CW.w_cxK, CW.w_forT, CW.w_forL, CW.w_forR, CW.w_forE, CW.w_asg, CW.w_drop, CW.w_ret, CW.w_retN, CW.w_next, CW.w_never, CW.w_brk, CW.w_cont, CW.w_if, CW.w_ifE, CW.w_var0, CW.w_vars, CW.w_C, CW.w_op, CW.w_un, CW.w_nil, CW.w_cons, CW.w_tup, CW.w_lst, CW.w_call, CW.w_callS, CW.w_cb, CW.w_sl, CW.w_noPart, CW.w_part, CW.w_B, CW.w_test, CW.w_and, CW.w_or, CW.w_not, CW.w_notV, CW.w_andV, CW.w_orV, CW.w_name, CW.w_set0, CW.w_sets, CW.w_gtup, CW.w_gnil, CW.w_gcons, CW.w_gsub, CW.w_exb, CW.w_exi, CW.w_I0, CW.w_I, CW.w_U, CW.w_eqI, CW.w_eqS, CW.w_eqIS, CW.w_neI, CW.w_neS, CW.w_ixL, CW.w_ixT, CW.w_ixS, CW.w_slS, CW.w_slL, CW.w_setL, CW.w_cat, CW.w_rep, CW.w_mulS, CW.w_in, CW.w_bm, CW.w_bm0, CW.w_append, CW.w_pop, CW.w_exr, CW.w_isN, CW.w_notN, CW.w_addS, CW.w_inS, CW.w_notInS, CW.w_abs, CW.w_max2, CW.w_min2, CW.w_int1, CW.w_int1b, CW.w_strI, CW.w_str1, CW.w_str2, CW.w_lenQ, CW.w_lenS, CW.w_intS, CW.w_tupQ, CW.w_tru,
  List.append_nil, List.cons_append, List.nil_append, decide_eq_true_eq, List.length_cons, List.length_nil, Ends.nx, Ends.rt])
local macro_rules | `(tactic| walk_at "wq") => `(tactic| simp only [CW.Lat, CW.LatE, CW.w_seq, CW.w_lcL, CW.w_yes, List.map_cons, List.map_nil, CW.w_mkO, CW.w_revT, CW.w_rev, CW.w_m1, CW.w_cxK, CW.w_forT, CW.w_forL, CW.w_forR, CW.w_forE, CW.w_asg, CW.w_drop, CW.w_ret, CW.w_retN, CW.w_next, CW.w_never, CW.w_brk, CW.w_cont, CW.w_if, CW.w_ifE, CW.w_var0, CW.w_vars, CW.w_C, CW.w_op, CW.w_un, CW.w_nil, CW.w_cons, CW.w_tup, CW.w_lst, CW.w_call, CW.w_callS, CW.w_cb, CW.w_sl, CW.w_noPart, CW.w_part, CW.w_B, CW.w_test, CW.w_not, CW.w_notV, CW.w_andV, CW.w_orV, CW.w_name, CW.w_set0, CW.w_sets, CW.w_gtup, CW.w_gnil, CW.w_gcons, CW.w_gsub, CW.w_exb, CW.w_exi, CW.w_I0, CW.w_I, CW.w_U, CW.w_eqI, CW.w_eqS, CW.w_eqIS, CW.w_neI, CW.w_neS, CW.w_ixL, CW.w_ixT, CW.w_ixS, CW.w_slS, CW.w_slL, CW.w_setL, CW.w_cat, CW.w_rep, CW.w_mulS, CW.w_in, CW.w_bm, CW.w_bm0, CW.w_append, CW.w_pop, CW.w_exr, CW.w_isN, CW.w_notN, CW.w_addS, CW.w_inS, CW.w_notInS, CW.w_abs, CW.w_max2, CW.w_min2, CW.w_int1, CW.w_int1b, CW.w_strI, CW.w_str1, CW.w_str2, CW.w_lenQ, CW.w_lenS, CW.w_intS, CW.w_tupQ, CW.w_tru,
  List.append_nil, List.cons_append, List.nil_append, decide_eq_true_eq, List.length_cons, List.length_nil, Ends.nx, Ends.rt])
local macro_rules | `(tactic| walk_at "ws") => `(tactic| simp only [CW.w_lcL, CW.w_yes, List.map_cons, List.map_nil, CW.w_mkO, CW.w_revT, CW.w_rev, CW.w_m1, CW.w_cxK, CW.w_forT, CW.w_forL, CW.w_forR, CW.w_forE, CW.w_asg, CW.w_drop, CW.w_ret, CW.w_retN, CW.w_next, CW.w_never, CW.w_brk, CW.w_cont, CW.w_var0, CW.w_vars, CW.w_C, CW.w_op, CW.w_un, CW.w_nil, CW.w_cons, CW.w_tup, CW.w_lst, CW.w_call, CW.w_callS, CW.w_cb, CW.w_sl, CW.w_noPart, CW.w_part, CW.w_B, CW.w_test, CW.w_not, CW.w_notV, CW.w_andV, CW.w_orV, CW.w_name, CW.w_set0, CW.w_sets, CW.w_gtup, CW.w_gnil, CW.w_gcons, CW.w_gsub, CW.w_exb, CW.w_exi, CW.w_I0, CW.w_I, CW.w_U, CW.w_eqI, CW.w_eqS, CW.w_eqIS, CW.w_neI, CW.w_neS, CW.w_ixL, CW.w_ixT, CW.w_ixS, CW.w_slS, CW.w_slL, CW.w_setL, CW.w_cat, CW.w_rep, CW.w_mulS, CW.w_in, CW.w_bm, CW.w_bm0, CW.w_append, CW.w_pop, CW.w_exr, CW.w_isN, CW.w_notN, CW.w_addS, CW.w_inS, CW.w_notInS, CW.w_abs, CW.w_max2, CW.w_min2, CW.w_int1, CW.w_int1b, CW.w_strI, CW.w_str1, CW.w_str2, CW.w_lenQ, CW.w_lenS, CW.w_intS, CW.w_tupQ, CW.w_tru,
  List.append_nil, List.cons_append, List.nil_append, decide_eq_true_eq, List.length_cons, List.length_nil, Ends.nx, Ends.rt])
section
variable {P : Program} {w : World} {K : PySem.W.Frag} {mg : Str → Option Value} {base : Heap} {a : Ad}
def Tk.isNum : Tk → Bool
  | .num _ => true
  | .txt _ => false
def sp_is_int : Sp := fun vs H Q _ => ∃ t : Tk, vs = [t.v] ∧ Q (.bl t.isNum) H
theorem ok__law_is_int (T : Txt P K mg a) : FnOk P w K mg base CX0 1 a.f__law_is_int a.d__law_is_int ["thing"] sp_is_int := by
  refine T.F__law_is_int.ok sc__law_is_int (fun vs H Q E h => ?_) (fun cdv A outer s H vs Q E hr h => ?_)
  · obtain ⟨t, rfl, _⟩ := h
    rfl
  · obtain ⟨t, rfl, q⟩ := h
    refine ⟨_, (pss_one (ps_ret (pe_and (pe_callB call_isi (by rfl) T.n_isinstance (by decide +kernel) (pa_cons (pv 0) (pa_cons (pe_bltn (v := .ty "int") (by rfl) T.n_int (by decide +kernel) rfl) pa_nil))) (pe_one (pe_not (pe_callB call_isi (by rfl) T.n_isinstance (by decide +kernel) (pa_cons (pv 0) (pa_cons (pe_bltn (v := .ty "bool") (by rfl) T.n_bool (by decide +kernel) rfl) pa_nil)))))))), ?_⟩
    show tRet _ _ [some t.v] H
    cases t with
    | num n =>
      show tRet _ _ [some (.int n)] H
      walk_at "wp"
      refine isi_ty (.base (.int _)) rfl ⟨true, rfl, iteT ?_⟩
      exact isi_ty (.base (.int _)) rfl ⟨false, rfl, q⟩
    | txt z =>
      show tRet _ _ [some (.str z)] H
      walk_at "wp"
      exact isi_ty (.base (.str _)) rfl ⟨false, rfl, iteF q⟩
def sp_sort : Sp := fun vs H Q _ => ∃ t : Tk, t.Ok ∧ vs = [t.v] ∧ Q (.str t.kd.str) H
theorem ok__law_sort (T : Txt P K mg a) : FnOk P w K mg base CX0 2 a.f__law_sort a.d__law_sort ["value"] sp_sort := by
  refine T.F__law_sort.ok sc__law_sort (fun vs H Q E h => ?_) (fun cdv A outer s H vs Q E hr h => ?_)
  · obtain ⟨t, _, rfl, _⟩ := h
    rfl
  · obtain ⟨t, ht, rfl, q⟩ := h
    refine ⟨_, (pss_cons (ps_if (pt_val (pe_call (ok__law_is_int T) (hr.mono (by decide)) (by rfl) T.g__law_is_int T.F__law_is_int.kp T.b__law_is_int .nil pass0 (pa_cons (pv 0) pa_nil))) (pss_one (ps_ret pe_str)) pss_nil)
    (pss_one (ps_ret (pe_ifExp (pt_cmpR o_inS (pe_ix ix_str (pv 0) pe_int (fun _ _ => rfl)) pe_str (by rfl)) pe_str pe_str)))), ?_⟩
    show tSeq _ _ _ [some t.v] H
    walk_at "wp"
    refine ⟨t, rfl, ?_⟩
    walk_at "wp"
    cases t with
    | num n =>
      exact iteT q
    | txt z =>
      refine iteF ?_
      obtain ⟨c, r, e, _, h40, hsh⟩ := ht.shape
      have e' : tl z = c :: r := e
      have hz : z.length ≤ sizeLine := by
        rw [len_tl]
        exact Nat.le_trans (show (tl z).length ≤ 40 from h40) (by decide)
      rw [show (Tk.txt z).v = .str z from rfl]
      walk_at "wp"
      refine ⟨hz, c, atI_nat (j := 0) (by rw [show z.cps.toList = c :: r from e']; rfl), ?_⟩
      refine ite2 (fun hc => ?_) (fun hc => ?_)
      · have h1 := mem_letters.mp hc
        have : (Tk.txt z).kd = .name := by
          show txtKd (TL.tl z) = _
          rw [e']
          simp [txtKd, h1]
        rw [this] at q
        exact q
      · have : (Tk.txt z).kd = .sign := by
          show txtKd (TL.tl z) = _
          rw [e']
          have h1 : letter c = false := by
            cases h : letter c with
            | false => rfl
            | true => exact absurd (mem_letters.mpr h) hc
          simp [txtKd, h1]
        rw [this] at q
        exact q
/-- an atom: a number or a name -/
def Atom (t : Tk) : Prop := t.Ok ∧ t.kd ≠ .sign
theorem atom_num {n : Nat} (h : n < 10 ^ 40) : Atom (.num n) := ⟨h, fun z => nomatch z⟩
theorem atom_name {s : Str} (h : NameOk (tl s)) : Atom (.txt s) := by
  refine ⟨.inl h, fun z => ?_⟩
  obtain ⟨c, r, e, hc, _⟩ := h
  have z' : txtKd (TL.tl s) = .sign := z
  rw [e] at z'
  simp [txtKd, hc] at z'
def nameB (s : Str) : Bool := match tl s with
  | c :: r => letter c && r.all aln && decide (r.length ≤ 11)
  | [] => false
theorem atom_of {s : Str} (h : nameB s = true) : Atom (.txt s) := by
  refine atom_name ?_
  unfold nameB at h
  split at h
  · rename_i c r e
    rw [Bool.and_eq_true, Bool.and_eq_true, List.all_eq_true, decide_eq_true_eq] at h
    exact ⟨c, r, e, h.1.1, h.1.2, h.2⟩
  · cases h
theorem drawn {H : Hp} {d dc : Addr} {Q : VK} {E : XK} (hd : DrawAt H d dc) (m : Nat) (hm : 0 < m) (hm2 : m < 1000000) (k : ∀ (i : Nat) H', i < m → DrawAt H' d dc → But d H H' → Q (.int i) H') : sp_draw [.ref d, .int m] H Q E := ⟨d, dc, m, rfl, hd, hm, hm2, k⟩
theorem but_lst {H H' : Hp} {d dc p : Addr} {o : HO} (hd : DrawAt H d dc) (hp : H p = none) (h : But d (upd H p o) H') : H' p = some o := by
  refine h p o (fun z => ?_) upd_same
  obtain ⟨ds, e⟩ := hd.lst
  rw [← z, hp] at e
  cases e
theorem lt4 {i : Nat} (h : i < 4) : i = 0 ∨ i = 1 ∨ i = 2 ∨ i = 3 := by omega
theorem lt6 {i : Nat} (h : i < 6) : i = 0 ∨ i = 1 ∨ i = 2 ∨ i = 3 ∨ i = 4 ∨ i = 5 := by omega
def sp_atom : Sp := fun vs H Q _ => ∃ d dc : Addr, vs = [.ref d] ∧ DrawAt H d dc ∧ ∀ t H', Atom t → DrawAt H' d dc → But d H H' → Q t.v H'
theorem ok__law_atom (T : Txt P K mg a) : FnOk P w K mg base CX0 2 a.f__law_atom a.d__law_atom ["d"] sp_atom := by
  refine T.F__law_atom.ok sc__law_atom (fun vs H Q E h => ?_) (fun cdv A outer s H vs Q E hr h => ?_)
  · obtain ⟨t, _, rfl, _⟩ := h
    rfl
  · obtain ⟨d, dc, rfl, hd, q⟩ := h
    refine ⟨_, (pss_cons (ps_set (i := 1) sc__law_atom.nd rfl (Or.inl rfl) (pe_call (ok__law_draw T) (hr.mono (by decide)) (by rfl) T.g__law_draw T.F__law_draw.kp T.b__law_draw .nil pass0 (pa_cons (pv 0) (pa_cons pe_int pa_nil))))
    (pss_cons (ps_if (pt_cmpR op_lt (pv 1) pe_int (nomark _)) (pss_one (ps_ret (pe_ix ix_list (pe_lst (pa_cons (pe_call (ok__law_draw T) (hr.mono (by decide)) (by rfl) T.g__law_draw T.F__law_draw.kp T.b__law_draw .nil pass0 (pa_cons (pv 0) (pa_cons pe_int pa_nil))) (pa_cons (pe_call (ok__law_draw T) (hr.mono (by decide)) (by rfl) T.g__law_draw T.F__law_draw.kp T.b__law_draw .nil pass0 (pa_cons (pv 0) (pa_cons pe_int pa_nil))) (pa_cons (pe_op op_add (pe_op op_pow pe_int pe_int) (pe_call (ok__law_draw T) (hr.mono (by decide)) (by rfl) T.g__law_draw T.F__law_draw.kp T.b__law_draw .nil pass0 (pa_cons (pv 0) (pa_cons pe_int pa_nil)))) (pa_cons (pe_op op_sub (pe_op op_pow pe_int pe_int) pe_int) pa_nil))))) (pv 1) (fun _ _ => rfl)))) pss_nil)
    (pss_cons (ps_set (i := 2) sc__law_atom.nd rfl (Or.inl rfl) pe_str)
    (pss_cons (ps_if (pt_cmpR op_eq (pv 1) pe_int (nomark _)) (pss_one (ps_ret (pe_ix ix_list (pe_lst (pa_cons pe_str (pa_cons pe_str (pa_cons pe_str (pa_cons pe_str (pa_cons pe_str (pa_cons pe_str pa_nil))))))) (pe_call (ok__law_draw T) (hr.mono (by decide)) (by rfl) T.g__law_draw T.F__law_draw.kp T.b__law_draw .nil pass0 (pa_cons (pv 0) (pa_cons pe_int pa_nil))) (fun _ _ => rfl)))) pss_nil)
    (pss_cons (ps_set (i := 3) sc__law_atom.nd rfl (Or.inl rfl) (pe_ix ix_str (pv 2) (pe_call (ok__law_draw T) (hr.mono (by decide)) (by rfl) T.g__law_draw T.F__law_draw.kp T.b__law_draw .nil pass0 (pa_cons (pv 0) (pa_cons pe_int pa_nil))) (fun _ _ => rfl)))
    (pss_cons (ps_for PassesOwn.never rfl (pi_range1 (by rfl) T.n_range (pa_cons (pe_call (ok__law_draw T) (hr.mono (by decide)) (by rfl) T.g__law_draw T.F__law_draw.kp T.b__law_draw .nil pass0 (pa_cons (pv 0) (pa_cons pe_int pa_nil))) pa_nil)) (pg_name (i := 4) sc__law_atom.nd rfl (Or.inl rfl)) (pss_one (ps_set (i := 3) sc__law_atom.nd rfl (Or.inl rfl) (pe_op o_addS (pv 3) (pe_ix ix_str (pe_op o_addS (pv 2) pe_str) (pe_call (ok__law_draw T) (hr.mono (by decide)) (by rfl) T.g__law_draw T.F__law_draw.kp T.b__law_draw .nil pass0 (pa_cons (pv 0) (pa_cons pe_int pa_nil))) (fun _ _ => rfl))))))
    (pss_one (ps_ret (pv 3))))))))), ?_⟩
    show tSeq _ _ _ [some (.ref d), none, none, none, none] H
    walk_at "wp"
    refine drawn hd 8 (by decide) (by decide) fun i H1 hi hd1 b1 => ?_
    walk_at "wp"
    refine ite2 (fun h4 => ?_) (fun h4 => ?_)
    · refine drawn hd1 2 (by decide) (by decide) fun i1 H2 hi1 hd2 b2 => ?_
      refine drawn hd2 100 (by decide) (by decide) fun i2 H3 hi2 hd3 b3 => ?_
      refine ⟨⟨by decide, by decide, by decide⟩, drawn hd3 1000 (by decide) (by decide) fun i3 H4 hi3 hd4 b4 => ?_⟩
      walk_at "wp"
      refine ⟨⟨by decide, by decide, by decide⟩, by decide, fun p hp => ?_⟩
      have b5 : But d H (upd H4 p (.lst [.int i1, .int i2, .int (10 ^ Int.toNat 12 + (i3 : Int)), .int (10 ^ Int.toNat 40 - 1)])) := ((((b1.trans b2).trans b3).trans b4).trans (.of (same_upd hp)))
      have hd5 := hd4.same (same_upd (o := .lst [.int i1, .int i2, .int (10 ^ Int.toNat 12 + (i3 : Int)), .int (10 ^ Int.toNat 40 - 1)]) hp)
      refine ⟨_, .inl (.inl upd_same), ?_⟩
      rcases lt4 (show i < 4 by omega) with rfl | rfl | rfl | rfl
      · exact ⟨_, rfl, q (.num i1) _ (atom_num (Nat.lt_trans hi1 (by decide))) hd5 b5⟩
      · exact ⟨_, rfl, q (.num i2) _ (atom_num (Nat.lt_trans hi2 (by decide))) hd5 b5⟩
      · have e : (V.int (10 ^ Int.toNat 12 + (i3 : Int))) = (Tk.num (10 ^ 12 + i3)).v := by
          show _ = V.int ((10 ^ 12 + i3 : Nat) : Int)
          rw [Int.natCast_add]
          rfl
        refine ⟨_, rfl, ?_⟩
        have := q (.num (10 ^ 12 + i3)) _ (atom_num (Nat.lt_trans (Nat.add_lt_add_left hi3 _) (by decide))) hd5 b5
        rw [← e] at this
        exact this
      · have e : (V.int (10 ^ Int.toNat 40 - 1)) = (Tk.num (10 ^ 40 - 1)).v := by
          show _ = V.int ((10 ^ 40 - 1 : Nat) : Int)
          decide +kernel
        refine ⟨_, rfl, ?_⟩
        have := q (.num (10 ^ 40 - 1)) _ (atom_num (by decide)) hd5 b5
        rw [← e] at this
        exact this
    · refine ite2 (fun h5 => ?_) (fun h5 => ?_)
      · refine ⟨by decide, fun p hp => ?_⟩
        refine drawn (hd1.same (same_upd hp)) 6 (by decide) (by decide) fun j H2 hj hd2 b2 => ?_
        have hp2 := but_lst hd1 hp b2
        have b3 : But d H H2 := (b1.trans (.of (same_upd hp))).trans b2
        walk_at "wp"
        refine ⟨_, .inl (.inl hp2), ?_⟩
        rcases lt6 hj with rfl | rfl | rfl | rfl | rfl | rfl
        · exact ⟨_, rfl, q (.txt "end") _ (atom_of (by decide +kernel)) hd2 b3⟩
        · exact ⟨_, rfl, q (.txt "paper") _ (atom_of (by decide +kernel)) hd2 b3⟩
        · exact ⟨_, rfl, q (.txt "yes") _ (atom_of (by decide +kernel)) hd2 b3⟩
        · exact ⟨_, rfl, q (.txt "proof") _ (atom_of (by decide +kernel)) hd2 b3⟩
        · exact ⟨_, rfl, q (.txt "leaf") _ (atom_of (by decide +kernel)) hd2 b3⟩
        · exact ⟨_, rfl, q (.txt "abcdefghijkl") _ (atom_of (by decide +kernel)) hd2 b3⟩
      · refine drawn hd1 26 (by decide) (by decide) fun j H2 hj hd2 b2 => ?_
        have l26 : (Str.ofString "abcdefghijklmnopqrstuvwxyz").length = 26 := by decide +kernel
        have hlen26 : (tl ("abcdefghijklmnopqrstuvwxyz" : Str)).length = 26 := by rw [← len_tl]; exact l26
        obtain ⟨c, hc⟩ : ∃ c, (tl ("abcdefghijklmnopqrstuvwxyz" : Str))[j]? = some c := ⟨(tl ("abcdefghijklmnopqrstuvwxyz" : Str))[j]'(by omega), List.getElem?_eq_getElem _⟩
        have hcl := mem_letters.mp (List.mem_of_getElem? hc)
        walk_at "wp"
        refine ⟨by rw [l26]; decide, c, atI_nat hc, ?_⟩
        refine drawn hd2 12 (by decide) (by decide) fun m H3 hm hd3 b3 => ?_
        have b03 : But d H H3 := (b1.trans b2).trans b3
        refine in_range (by omega) (by omega) (fun t σ H' => DrawAt H' d dc ∧ But d H H' ∧ ∃ (o : Option V) (s : Str) (c : Nat) (r : List Nat), σ = [some (.ref d), some (.int i), some (.str "abcdefghijklmnopqrstuvwxyz"), some (.str s), o] ∧ tl s = c :: r ∧ letter c = true ∧ (∀ x ∈ r, aln x = true) ∧ r.length ≤ t)
          ⟨hd3, b03, _, _, c, [], rfl, rfl, hcl, by simp, Nat.le_refl _⟩ (fun t σ H' ht h => ?_) fun σ H' h => ?_
        · obtain ⟨hd4, b4, o, s, c, r, rfl, e, h1, h2, h3⟩ := h
          have l10 : (Str.ofString "0123456789").length = 10 := by decide +kernel
          walk_at "wp"
          refine ⟨by rw [l26, l10]; decide, ?_⟩
          refine drawn hd4 36 (by decide) (by decide) fun k H5 hk hd5 b5 => ?_
          have hl36 : (tl (("abcdefghijklmnopqrstuvwxyz" : Str) ++ ("0123456789" : Str))).length = 36 := by rw [tl_append, List.length_append, ← len_tl, ← len_tl, l26, l10]
          obtain ⟨x, hx⟩ : ∃ x, (tl (("abcdefghijklmnopqrstuvwxyz" : Str) ++ ("0123456789" : Str)))[k]? = some x := ⟨(tl (("abcdefghijklmnopqrstuvwxyz" : Str) ++ ("0123456789" : Str)))[k]'(by omega), List.getElem?_eq_getElem _⟩
          have hxl := mem_aln.mp (List.mem_of_getElem? hx)
          have hsl : s.length = r.length + 1 := by rw [len_tl, e, List.length_cons]
          walk_at "wp"
          refine ⟨?_, x, atI_nat hx, ?_, hd5, b4.trans b5, some (.int t), _, c, r ++ [x], rfl, ?_, h1, ?_, ?_⟩
          · rw [app_len, l26, l10]; decide
          · have : (⟨#[x]⟩ : Str).length = 1 := rfl
            rw [hsl, this]
            exact Nat.le_trans (show r.length + 1 + 1 ≤ 100 by omega) (by decide)
          · rw [tl_append, e]; rfl
          · intro y hy
            rcases List.mem_append.mp hy with hy | hy
            · exact h2 y hy
            · rw [List.mem_singleton.mp hy]; exact hxl
          · rw [List.length_append, List.length_singleton]; omega
        · obtain ⟨hd4, b4, o, s, c, r, rfl, e, h1, h2, h3⟩ := h
          walk_at "wp"
          exact q (.txt s) H' (atom_name ⟨c, r, e, h1, h2, by omega⟩) hd4 b4
end
end T85

namespace T85
open PySem PySem.Spec PyProof.Rows L2 TL CW
local macro_rules | `(tactic| walk_at "wp") => `(tactic| simp only [CW.Lat, CW.LatE, CW.w_seq, CW.w_lcL, CW.w_yes, List.map_cons, List.map_nil, CW.w_mkO, CW.w_revT, CW.w_rev, CW.w_m1, CW.w_cxK, CW.w_forT, CW.w_forL, CW.w_forR, CW.w_forE, CW.w_asg, CW.w_drop, CW.w_ret, CW.w_retN, CW.w_next, CW.w_never, CW.w_brk, CW.w_cont, CW.w_if, CW.w_ifE, CW.w_var0, CW.w_vars, CW.w_C, CW.w_op, CW.w_un, CW.w_nil, CW.w_cons, CW.w_tup, CW.w_lst, CW.w_call, CW.w_callS, CW.w_cb, CW.w_sl, CW.w_noPart, CW.w_part, CW.w_B, CW.w_test, CW.w_and, CW.w_or, CW.w_not, CW.w_notV, CW.w_andV, CW.w_orV, CW.w_name, CW.w_set0, CW.w_sets, CW.w_gtup, CW.w_gnil, CW.w_gcons, CW.w_gsub, CW.w_exb, CW.w_exi, CW.w_I0, CW.w_I, CW.w_U, CW.w_eqI, CW.w_eqS, CW.w_eqIS, CW.w_neI, CW.w_neS, CW.w_ixL, CW.w_ixT, CW.w_ixS, CW.w_slS, CW.w_slL, CW.w_setL, CW.w_cat, CW.w_rep, CW.w_mulS, CW.w_in, CW.w_bm, CW.w_bm0, CW.w_append, CW.w_pop, CW.w_exr, CW.w_isN, CW.w_notN, CW.w_addS, CW.w_inS, CW.w_notInS, CW.w_abs, CW.w_max2, CW.w_min2, CW.w_int1, CW.w_int1b, CW.w_strI, CW.w_str1, CW.w_str2, CW.w_lenQ, CW.w_lenS, CW.w_intS, CW.w_tupQ, CW.w_tru,
  List.append_nil, List.cons_append, List.nil_append, decide_eq_true_eq, List.length_cons, List.length_nil, Ends.nx, Ends.rt])
local macro_rules | `(tactic| walk_at "wq") => `(tactic| simp only [CW.Lat, CW.LatE, CW.w_seq, CW.w_lcL, CW.w_yes, List.map_cons, List.map_nil, CW.w_mkO, CW.w_revT, CW.w_rev, CW.w_m1, CW.w_cxK, CW.w_forT, CW.w_forL, CW.w_forR, CW.w_forE, CW.w_asg, CW.w_drop, CW.w_ret, CW.w_retN, CW.w_next, CW.w_never, CW.w_brk, CW.w_cont, CW.w_if, CW.w_ifE, CW.w_var0, CW.w_vars, CW.w_C, CW.w_op, CW.w_un, CW.w_nil, CW.w_cons, CW.w_tup, CW.w_lst, CW.w_call, CW.w_callS, CW.w_cb, CW.w_sl, CW.w_noPart, CW.w_part, CW.w_B, CW.w_test, CW.w_not, CW.w_notV, CW.w_andV, CW.w_orV, CW.w_name, CW.w_set0, CW.w_sets, CW.w_gtup, CW.w_gnil, CW.w_gcons, CW.w_gsub, CW.w_exb, CW.w_exi, CW.w_I0, CW.w_I, CW.w_U, CW.w_eqI, CW.w_eqS, CW.w_eqIS, CW.w_neI, CW.w_neS, CW.w_ixL, CW.w_ixT, CW.w_ixS, CW.w_slS, CW.w_slL, CW.w_setL, CW.w_cat, CW.w_rep, CW.w_mulS, CW.w_in, CW.w_bm, CW.w_bm0, CW.w_append, CW.w_pop, CW.w_exr, CW.w_isN, CW.w_notN, CW.w_addS, CW.w_inS, CW.w_notInS, CW.w_abs, CW.w_max2, CW.w_min2, CW.w_int1, CW.w_int1b, CW.w_strI, CW.w_str1, CW.w_str2, CW.w_lenQ, CW.w_lenS, CW.w_intS, CW.w_tupQ, CW.w_tru,
  List.append_nil, List.cons_append, List.nil_append, decide_eq_true_eq, List.length_cons, List.length_nil, Ends.nx, Ends.rt])
local macro_rules | `(tactic| walk_at "ws") => `(tactic| simp only [CW.w_lcL, CW.w_yes, List.map_cons, List.map_nil, CW.w_mkO, CW.w_revT, CW.w_rev, CW.w_m1, CW.w_cxK, CW.w_forT, CW.w_forL, CW.w_forR, CW.w_forE, CW.w_asg, CW.w_drop, CW.w_ret, CW.w_retN, CW.w_next, CW.w_never, CW.w_brk, CW.w_cont, CW.w_var0, CW.w_vars, CW.w_C, CW.w_op, CW.w_un, CW.w_nil, CW.w_cons, CW.w_tup, CW.w_lst, CW.w_call, CW.w_callS, CW.w_cb, CW.w_sl, CW.w_noPart, CW.w_part, CW.w_B, CW.w_test, CW.w_not, CW.w_notV, CW.w_andV, CW.w_orV, CW.w_name, CW.w_set0, CW.w_sets, CW.w_gtup, CW.w_gnil, CW.w_gcons, CW.w_gsub, CW.w_exb, CW.w_exi, CW.w_I0, CW.w_I, CW.w_U, CW.w_eqI, CW.w_eqS, CW.w_eqIS, CW.w_neI, CW.w_neS, CW.w_ixL, CW.w_ixT, CW.w_ixS, CW.w_slS, CW.w_slL, CW.w_setL, CW.w_cat, CW.w_rep, CW.w_mulS, CW.w_in, CW.w_bm, CW.w_bm0, CW.w_append, CW.w_pop, CW.w_exr, CW.w_isN, CW.w_notN, CW.w_addS, CW.w_inS, CW.w_notInS, CW.w_abs, CW.w_max2, CW.w_min2, CW.w_int1, CW.w_int1b, CW.w_strI, CW.w_str1, CW.w_str2, CW.w_lenQ, CW.w_lenS, CW.w_intS, CW.w_tupQ, CW.w_tru,
  List.append_nil, List.cons_append, List.nil_append, decide_eq_true_eq, List.length_cons, List.length_nil, Ends.nx, Ends.rt])
section
variable {P : Program} {w : World} {K : PySem.W.Frag} {mg : Str → Option Value} {base : Heap} {a : Ad}
def sp_values : Sp := fun vs H Q _ => ∃ d dc : Addr, vs = [.ref d] ∧ DrawAt H d dc ∧ ∀ ts l H', Bal 0 ts → (∀ t ∈ ts, t.Ok) → ts.length ≤ 80 → DrawAt H' d dc → But d H H' → H' l = some (.lst (ts.map Tk.v)) → H l = none → Q (.ref l) H'
theorem ok__law_values (T : Txt P K mg a) : FnOk P w K mg base CX0 3 a.f__law_values a.d__law_values ["d"] sp_values := by
  refine T.F__law_values.ok sc__law_values (fun vs H Q E h => ?_) (fun cdv A outer s H vs Q E hr h => ?_)
  · obtain ⟨t, _, rfl, _⟩ := h
    rfl
  · obtain ⟨d, dc, rfl, hd, q⟩ := h
    refine ⟨_, (pss_cons (ps_if (pt_cmpR op_eq (pe_call (ok__law_draw T) (hr.mono (by decide)) (by rfl) T.g__law_draw T.F__law_draw.kp T.b__law_draw .nil pass0 (pa_cons (pv 0) (pa_cons pe_int pa_nil))) pe_int (nomark _)) (pss_one (ps_ret (pe_lst (pa_cons (pe_call (ok__law_atom T) (hr.mono (by decide)) (by rfl) T.g__law_atom T.F__law_atom.kp T.b__law_atom .nil pass0 (pa_cons (pv 0) pa_nil)) pa_nil)))) pss_nil)
    (pss_cons (ps_set (i := 1) sc__law_values.nd rfl (Or.inl rfl) (pe_ix ix_list (pe_lst (pa_cons pe_int (pa_cons pe_int (pa_cons pe_int (pa_cons pe_int (pa_cons pe_int (pa_cons pe_int pa_nil))))))) (pe_call (ok__law_draw T) (hr.mono (by decide)) (by rfl) T.g__law_draw T.F__law_draw.kp T.b__law_draw .nil pass0 (pa_cons (pv 0) (pa_cons pe_int pa_nil))) (fun _ _ => rfl)))
    (pss_cons (ps_set (i := 2) sc__law_values.nd rfl (Or.inl rfl) (pe_op op_rep (pe_lst (pa_cons pe_str pa_nil)) (pe_ifExp (pt_cmpR op_eq (pe_call (ok__law_draw T) (hr.mono (by decide)) (by rfl) T.g__law_draw T.F__law_draw.kp T.b__law_draw .nil pass0 (pa_cons (pv 0) (pa_cons pe_int pa_nil))) pe_int (nomark _)) (pv 1) pe_int)))
    (pss_cons (ps_set (i := 3) sc__law_values.nd rfl (Or.inl rfl) (pe_callB c_lenQ (by rfl) T.n_len PySem.boot_len (pa_cons (pv 2) pa_nil)))
    (pss_cons (ps_for PassesOwn.never rfl (pi_range1 (by rfl) T.n_range (pa_cons (pe_call (ok__law_draw T) (hr.mono (by decide)) (by rfl) T.g__law_draw T.F__law_draw.kp T.b__law_draw .nil pass0 (pa_cons (pv 0) (pa_cons pe_int pa_nil))) pa_nil)) (pg_name (i := 4) sc__law_values.nd rfl (Or.inl rfl)) (pss_cons (ps_set (i := 5) sc__law_values.nd rfl (Or.inl rfl) (pe_call (ok__law_draw T) (hr.mono (by decide)) (by rfl) T.g__law_draw T.F__law_draw.kp T.b__law_draw .nil pass0 (pa_cons (pv 0) (pa_cons pe_int pa_nil))))
      (pss_one (ps_if (PW.pt (pw_and (pt_cmpR op_lt (pv 5) pe_int (nomark _)) (pw_and1 (pt_cmpR op_lt (pv 3) (pv 1) (nomark _))))) (pss_cons (ps_expr (pe_bm PySem.F.plainAttrs_list PySem.F.slot_list_append PySem.F.type_list_append mt_append (pv 2) (pa_cons pe_str pa_nil)))
        (pss_one (ps_set (i := 3) sc__law_values.nd rfl (Or.inl rfl) (pe_op op_add (pv 3) pe_int)))) (pss_one (ps_if (PW.pt (pw_and (pt_cmpR op_in_seq (pv 5) (pe_tup (pa_cons pe_int (pa_cons pe_int pa_nil))) (by rfl)) (pw_and1 (pt_cmpR op_gt (pv 3) pe_int (nomark _))))) (pss_cons (ps_expr (pe_bm PySem.F.plainAttrs_list PySem.F.slot_list_append PySem.F.type_list_append mt_append (pv 2) (pa_cons pe_str pa_nil)))
          (pss_one (ps_set (i := 3) sc__law_values.nd rfl (Or.inl rfl) (pe_op op_sub (pv 3) pe_int)))) (pss_one (ps_expr (pe_bm PySem.F.plainAttrs_list PySem.F.slot_list_append PySem.F.type_list_append mt_append (pv 2) (pa_cons (pe_call (ok__law_atom T) (hr.mono (by decide)) (by rfl) T.g__law_atom T.F__law_atom.kp T.b__law_atom .nil pass0 (pa_cons (pv 0) pa_nil)) pa_nil))))))))))
    (pss_one (ps_ret (pe_op op_cat (pv 2) (pe_op op_rep (pe_lst (pa_cons pe_str pa_nil)) (pv 3)))))))))), ?_⟩
    show tSeq _ _ _ [some (.ref d), none, none, none, none, none] H
    have sz : ∀ n, n ≤ 1000 → n ≤ sizeLine := fun n h => Nat.le_trans h (by decide)
    refine seq_gen (fun σ' H' => σ' = [some (.ref d), none, none, none, none, none] ∧ DrawAt H' d dc ∧ But d H H') (fun R hR => ?_) ?_
    · walk_at "wp"
      refine drawn hd 9 (by decide) (by decide) fun i H1 hi hd1 b1 => ?_
      walk_at "wp"
      refine ite2 (fun h => ?_) (fun h => hR _ _ ⟨rfl, hd1, b1⟩)
      refine ⟨d, dc, rfl, hd1, fun t H2 ht hd2 b2 => ⟨by decide, fun p hp => ?_⟩⟩
      have hk := kd_of ht.2
      refine q [t] p _ ?_ ?_ (by simp) (hd2.same (same_upd hp)) ((b1.trans b2).trans (.of (same_upd hp))) upd_same ?_
      · show (if t = .txt opn then Bal 1 [] else if t = .txt cls then (1 ≤ 0 ∧ _) else if (0 : Nat) = 0 then ([] : List Tk) = [] else Bal 0 [])
        rw [if_neg hk.1, if_neg hk.2, if_pos rfl]
      · intro u hu
        rw [List.mem_singleton.mp hu]
        exact ht.1
      · cases e : H p with
        | none => rfl
        | some o =>
          have hne : p ≠ d := fun z => by obtain ⟨ds, e2⟩ := hd2.lst; rw [← z, hp] at e2; cases e2
          have := b2 _ _ hne (b1 _ _ hne e)
          rw [hp] at this; cases this
    rintro σ' H1 ⟨rfl, hd1, b1⟩
    refine seq_gen (fun σ' H' => (∃ m : Nat, 1 ≤ m ∧ m ≤ 9 ∧ σ' = [some (.ref d), some (.int m), none, none, none, none]) ∧ DrawAt H' d dc ∧ But d H H') (fun R hR => ?_) ?_
    · walk_at "wp"
      refine ⟨by decide, fun p hp => drawn (hd1.same (same_upd hp)) 6 (by decide) (by decide) fun j H2 hj hd2 b2 => ?_⟩
      have hp2 := but_lst hd1 hp b2
      have b3 : But d H H2 := (b1.trans (.of (same_upd hp))).trans b2
      walk_at "wp"
      refine ⟨_, .inl (.inl hp2), ?_⟩
      rcases lt6 hj with rfl | rfl | rfl | rfl | rfl | rfl
      · exact ⟨_, rfl, hR _ _ ⟨⟨1, by decide, by decide, rfl⟩, hd2, b3⟩⟩
      · exact ⟨_, rfl, hR _ _ ⟨⟨2, by decide, by decide, rfl⟩, hd2, b3⟩⟩
      · exact ⟨_, rfl, hR _ _ ⟨⟨8, by decide, by decide, rfl⟩, hd2, b3⟩⟩
      · exact ⟨_, rfl, hR _ _ ⟨⟨8, by decide, by decide, rfl⟩, hd2, b3⟩⟩
      · exact ⟨_, rfl, hR _ _ ⟨⟨9, by decide, by decide, rfl⟩, hd2, b3⟩⟩
      · exact ⟨_, rfl, hR _ _ ⟨⟨9, by decide, by decide, rfl⟩, hd2, b3⟩⟩
    rintro σ' H2 ⟨⟨m, hm1, hm9, rfl⟩, hd2, b2⟩
    clear hd1 b1
    have fresh : ∀ {H' : Hp} {p : Addr}, DrawAt H' d dc → But d H H' → H' p = none → H p = none ∧ p ≠ d := fun {H' p} hd' b hp => by
      have hne : p ≠ d := fun z => by obtain ⟨ds, e2⟩ := hd'.lst; rw [← z, hp] at e2; cases e2
      refine ⟨?_, hne⟩
      cases e : H p with
      | none => rfl
      | some o =>
        have := b _ _ hne e
        rw [hp] at this; cases this
    refine seq_gen (fun σ' H' => (∃ (l : Addr) (k : Nat), 1 ≤ k ∧ k ≤ 9 ∧ σ' = [some (.ref d), some (.int m), some (.ref l), none, none, none] ∧ H' l = some (.lst (List.replicate k (.str opn))) ∧ l ≠ d ∧ H l = none) ∧ DrawAt H' d dc ∧ But d H H') (fun R hR => ?_) ?_
    · have rep : ∀ k : Nat, (List.replicate k [V.str opn]).flatten = List.replicate k (.str opn) := fun k => by
        induction k with
        | zero => rfl
        | succ k ih => rw [List.replicate_succ, List.flatten_cons, ih]; rfl
      have key : ∀ (k : Nat) (p : Addr) (H3 : Hp), 1 ≤ k → k ≤ 9 → H3 p = some (.lst [.str opn]) → DrawAt H3 d dc → But d H H3 → rRep (.ref p) (.int k) H3 fun x H1 => gName 2 x [some (.ref d), some (.int m), none, none, none, none] H1 R := fun k p H3 k1 k9 hp hd3 b3 => by
        refine ⟨p, k, _, rfl, rfl, hp, by omega, by omega, sz _ (by simp; omega), fun r hr => ?_⟩
        obtain ⟨f1, f2⟩ := fresh hd3 b3 hr
        refine hR _ _ ⟨⟨r, k, k1, k9, rfl, ?_, f2, f1⟩, hd3.same (same_upd hr), b3.trans (.of (same_upd hr))⟩
        rw [upd_same]
        exact congrArg (fun z => some (HO.lst z)) (rep k)
      refine ⟨by decide, fun p hp => ?_⟩
      refine ifE_gen (fun H3 => H3 p = some (.lst [.str opn]) ∧ DrawAt H3 d dc ∧ But d H H3) (fun H3 => H3 p = some (.lst [.str opn]) ∧ DrawAt H3 d dc ∧ But d H H3) (fun R' h1 h2 => ?_) (fun H3 h => ?_) (fun H3 h => ?_)
      · walk_at "wp"
        refine drawn (hd2.same (same_upd hp)) 2 (by decide) (by decide) fun i H3 hi hd3 b3 => ?_
        have hp3 := but_lst hd2 hp b3
        have b4 : But d H H3 := (b2.trans (.of (same_upd hp))).trans b3
        walk_at "wp"
        exact dec_to (fun _ => h1 _ ⟨hp3, hd3, b4⟩) (fun _ => h2 _ ⟨hp3, hd3, b4⟩)
      · exact ⟨_, rfl, key m p H3 hm1 hm9 h.1 h.2.1 h.2.2⟩
      · exact key 1 p H3 (by decide) (by decide) h.1 h.2.1 h.2.2
    rintro σ' H3 ⟨⟨l, k, hk1, hk9, rfl, hl, hld, hHl⟩, hd3, b3⟩
    clear hd2 b2
    refine seq_gen (fun σ' H' => σ' = [some (.ref d), some (.int m), some (.ref l), some (.int k), none, none] ∧ H' = H3) (fun R hR => ?_) ?_
    · walk_at "wp"
      refine ⟨_, .inl (.inl (.inl hl)), ?_⟩
      rw [List.length_replicate]
      exact hR _ _ ⟨rfl, rfl⟩
    rintro σ' H3 ⟨rfl, rfl⟩
    refine seq_gen (fun σ' H' => ∃ (ts : List Tk) (dep : Nat) (o1 o2 : Option V), σ' = [some (.ref d), some (.int m), some (.ref l), some (.int dep), o1, o2] ∧ H' l = some (.lst (ts.map Tk.v)) ∧ 1 ≤ dep ∧ dep ≤ 9 ∧ ts.length ≤ 62 ∧ (∀ t ∈ ts, t.Ok) ∧ (∀ rest, Bal dep rest → Bal 0 (ts ++ rest)) ∧ DrawAt H' d dc ∧ But d H H') (fun R hR => ?_) ?_
    · walk_at "wq"
      refine drawn hd3 54 (by decide) (by decide) fun n H4 hn hd4 b4 => ?_
      refine in_range (by omega) (by omega) (fun i σ' H' => ∃ (ts : List Tk) (dep : Nat) (o1 o2 : Option V), σ' = [some (.ref d), some (.int m), some (.ref l), some (.int dep), o1, o2] ∧ H' l = some (.lst (ts.map Tk.v)) ∧ 1 ≤ dep ∧ dep ≤ 9 ∧ ts.length ≤ 9 + i ∧ (∀ t ∈ ts, t.Ok) ∧ (∀ rest, Bal dep rest → Bal 0 (ts ++ rest)) ∧ DrawAt H' d dc ∧ But d H H')
        ⟨List.replicate k (.txt opn), k, none, none, rfl, ?_, hk1, hk9, by rw [List.length_replicate]; omega, ?_, ?_, hd4, b3.trans b4⟩ (fun i σ' H' hi h => ?_) fun σ' H' h => ?_
      · rw [List.map_replicate]
        exact b4 _ _ hld hl
      · intro t ht
        rw [List.eq_of_mem_replicate ht]
        exact .inr (by rw [tl_opn]; decide)
      · have : ∀ (k e : Nat) (rest : List Tk), Bal (e + k) rest → Bal e (List.replicate k (.txt opn) ++ rest) := by
          intro k
          induction k with
          | zero => intro e rest h; exact h
          | succ k ih =>
            intro e rest h
            rw [List.replicate_succ, List.cons_append]
            show (if Tk.txt opn = .txt opn then Bal (e + 1) _ else _)
            rw [if_pos rfl]
            exact ih (e + 1) rest (by rw [Nat.add_assoc, Nat.add_comm 1 k]; exact h)
        intro rest h
        exact this k 0 rest (by rw [Nat.zero_add]; exact h)
      · obtain ⟨ts, dep, o1, o2, rfl, hl2, hd1, hd9, hlen, hok, hbal, hdr, hb⟩ := h
        have hll : (ts.map Tk.v).length < sizeLine := by
          rw [List.length_map]
          exact Nat.lt_of_le_of_lt (show ts.length ≤ 100 by omega) (by decide)
        have hlc : l ≠ dc := by
          obtain ⟨ns, _, _, _, _, e, _⟩ := hd
          exact fun z => by rw [z, e] at hHl; cases hHl
        show tSeq _ _ _ [some (.ref d), some (.int m), some (.ref l), some (.int dep), some (.int i), o2] H'
        refine seq_gen (fun σ2 H2 => (∃ way : Nat, σ2 = [some (.ref d), some (.int m), some (.ref l), some (.int dep), some (.int i), some (.int way)]) ∧ H2 l = some (.lst (ts.map Tk.v)) ∧ DrawAt H2 d dc ∧ But d H H2) (fun R' hR' => ?_) ?_
        · walk_at "wq"
          exact drawn hdr 7 (by decide) (by decide) fun way H5 hw hd5 b5 => hR' _ _ ⟨⟨way, rfl⟩, b5 _ _ hld hl2, hd5, hb.trans b5⟩
        rintro σ' H5 ⟨⟨way, rfl⟩, hl5, hd5, b05⟩
        refine if_gen (fun H6 => H6 = H5 ∧ dep < m) (fun H6 => H6 = H5) (fun R' h1 h2 => ?_) (fun H6 h => ?_) (fun H6 h => ?_)
        · refine and_known (decide ((way : Int) < 2)) (decide ((dep : Int) < m)) (fun B hB => ?_) (fun _ B hB => ?_) ?_
          · walk_at "wq"; exact hB
          · walk_at "wq"; exact hB
          · by_cases c1 : (way : Int) < 2
            · by_cases c2 : (dep : Int) < m
              · rw [decide_eq_true c1, decide_eq_true c2]; exact h1 _ ⟨rfl, by omega⟩
              · rw [decide_eq_true c1, decide_eq_false c2]; exact h2 _ rfl
            · rw [decide_eq_false c1]; exact h2 _ rfl
        · obtain ⟨rfl, hdm⟩ := h
          walk_at "wq"
          refine ⟨ty_list hl5, _, hl5, hll, ts ++ [.txt opn], dep + 1, _, _, rfl, by rw [upd_same, List.map_append]; rfl, by omega, by omega, by rw [List.length_append, List.length_singleton]; omega, ?_, fun rest hr => ?_, hd5.put hld hlc, b05.put hHl⟩
          · intro t ht
            rcases List.mem_append.mp ht with ht | ht
            · exact hok t ht
            · rw [List.mem_singleton.mp ht]
              exact .inr (by rw [tl_opn]; decide)
          · rw [List.append_assoc]
            refine hbal _ ?_
            show (if Tk.txt opn = .txt opn then Bal (dep + 1) _ else _)
            rw [if_pos rfl]
            exact hr
        · subst h
          refine if_gen (fun H7 => Same H6 H7 ∧ 1 < dep) (fun H7 => Same H6 H7) (fun R' h1 h2 => ?_) (fun H7 h => ?_) (fun H7 h => ?_)
          · walk_at "wp"
            refine ⟨by decide, fun p hp => ⟨_, .inr (.inl (.inl upd_same)), rfl, rfl, ?_⟩⟩
            have hS : Same H6 (upd H6 p (.tup [.int 2, .int 3])) := same_upd hp
            refine iteT_or (fun _ => ?_) (fun _ => h2 _ hS)
            exact dec_to (fun c => h1 _ ⟨hS, by omega⟩) (fun _ => h2 _ hS)
          · obtain ⟨hS, hdm⟩ := h
            have hl7 := hS _ _ hl5
            walk_at "wq"
            refine ⟨ty_list hl7, _, hl7, hll, ts ++ [.txt cls], dep - 1, some (.int i), some (.int way), by rw [show ((dep : Int) - 1) = ((dep - 1 : Nat) : Int) by omega], by rw [upd_same, List.map_append]; rfl, by omega, by omega, by rw [List.length_append, List.length_singleton]; omega, ?_, fun rest hr => ?_, (hd5.same hS).put hld hlc, (b05.trans (.of hS)).put hHl⟩
            · intro t ht
              rcases List.mem_append.mp ht with ht | ht
              · exact hok t ht
              · rw [List.mem_singleton.mp ht]
                exact .inr (by rw [tl_cls]; decide)
            · rw [List.append_assoc]
              refine hbal _ ?_
              show (if Tk.txt cls = .txt opn then _ else if Tk.txt cls = .txt cls then (1 ≤ dep ∧ if dep = 1 then _ else Bal (dep - 1) _) else _)
              rw [if_neg (fun z => opn_ne (Tk.txt.inj z).symm), if_pos rfl, if_neg (by omega)]
              exact ⟨by omega, hr⟩
          · have hl7 := h _ _ hl5
            walk_at "wq"
            refine ⟨ty_list hl7, d, dc, rfl, hd5.same h, fun t H8 ht hd8 b8 => ?_⟩
            have hl8 := b8 _ _ hld hl7
            have hk := kd_of ht.2
            refine ⟨_, hl8, hll, ts ++ [t], dep, _, _, rfl, by rw [upd_same, List.map_append]; rfl, hd1, hd9, by rw [List.length_append, List.length_singleton]; omega, ?_, fun rest hr => ?_, hd8.put hld hlc, ((b05.trans (.of h)).trans b8).put hHl⟩
            · intro u hu
              rcases List.mem_append.mp hu with hu | hu
              · exact hok u hu
              · rw [List.mem_singleton.mp hu]
                exact ht.1
            · rw [List.append_assoc]
              refine hbal _ ?_
              show (if t = .txt opn then _ else if t = .txt cls then _ else if dep = 0 then _ else Bal dep _)
              rw [if_neg hk.1, if_neg hk.2, if_neg (by omega)]
              exact hr
      · obtain ⟨ts, dep, o1, o2, rfl, hl2, hd1, hd9, hlen, hok, hbal, hdr, hb⟩ := h
        exact hR _ _ ⟨ts, dep, o1, o2, rfl, hl2, hd1, hd9, by omega, hok, hbal, hdr, hb⟩
    rintro σ' H4 ⟨ts, dep, o1, o2, rfl, hl4, h1, h9, hlen, hok, hbal, hd4, b4⟩
    have flat : ∀ n : Nat, (List.replicate n [V.str ")"]).flatten = (List.replicate n (Tk.txt cls)).map Tk.v := fun n => by
      induction n with
      | zero => rfl
      | succ n ih => rw [List.replicate_succ, List.replicate_succ, List.flatten_cons, ih]; rfl
    have hcls : ∀ n : Nat, 1 ≤ n → Bal n (List.replicate n (.txt cls)) := fun n => by
      induction n with
      | zero => intro h; omega
      | succ n ih =>
        intro _
        rw [List.replicate_succ]
        show (if Tk.txt cls = .txt opn then _ else if Tk.txt cls = .txt cls then (1 ≤ n + 1 ∧ if n + 1 = 1 then List.replicate n (Tk.txt cls) = [] else Bal (n + 1 - 1) (List.replicate n (Tk.txt cls))) else _)
        rw [if_neg (fun z => opn_ne (Tk.txt.inj z).symm), if_pos rfl]
        refine ⟨by omega, ?_⟩
        by_cases hn : n = 0
        · subst hn; rfl
        · rw [if_neg (by omega)]
          exact ih (by omega)
    walk_at "wq"
    refine ⟨by decide, fun p hp => ⟨_, upd_same, by omega, by omega, sz _ (by simp; omega), fun r hr => ?_⟩⟩
    have hpd := hd4.new hp
    have hlp : l ≠ p := fun z => by rw [← z, hl4] at hp; cases hp
    have s1 : Same H4 (upd H4 p (.lst [.str ")"])) := same_upd hp
    have hlr : l ≠ r := fun z => by rw [← z, s1 _ _ hl4] at hr; cases hr
    have s2 : Same H4 (upd (upd H4 p (.lst [.str ")"])) r (.lst (List.replicate (dep : Int).toNat [V.str ")"]).flatten)) := s1.trans (same_upd hr)
    refine ⟨_, _, s2 _ _ hl4, upd_same, ?_, fun r1 hr1 => ?_⟩
    · rw [flat, List.length_map, List.length_map, List.length_replicate]
      exact sz _ (by omega)
    · have s3 := s2.trans (same_upd (o := .lst (ts.map Tk.v ++ (List.replicate (dep : Int).toNat [V.str ")"]).flatten)) hr1)
      refine q (ts ++ List.replicate dep (.txt cls)) r1 _ (hbal _ (hcls dep h1)) ?_ ?_ (hd4.same s3) (b4.trans (.of s3)) ?_ ?_
      · intro t ht
        rcases List.mem_append.mp ht with ht | ht
        · exact hok t ht
        · rw [List.eq_of_mem_replicate ht]
          exact .inr (by rw [tl_cls]; decide)
      · rw [List.length_append, List.length_replicate]; omega
      · rw [upd_same, flat, List.map_append]
        rfl
      · exact (fresh (hd4.same s2) (b4.trans (.of s2)) hr1).1
end
section
variable {P : Program} {w : World} {K : PySem.W.Frag} {mg : Str → Option Value} {base : Heap} {a : Ad}
def sp_built (K : PySem.W.Frag) : Sp := fun vs H Q _ => ∃ (l : Addr) (xs : List V) (ts : List (Tk × Nat)), vs = [.ref l] ∧ H l = some (.lst xs) ∧ TokL K H xs ts ∧ (∀ t ∈ ts, t.1.Ok) ∧ ts.length ≤ 10000 ∧ Bal 0 (ts.map (·.1)) ∧
  ∀ x v H', bl [[]] (ts.map (·.1)) = [[x]] → Same H H' → Td K H' v x → Q v H'
theorem ok__law_built (T : Txt P K mg a) : FnOk P w K mg base CX0 1 a.f__law_built a.d__law_built ["tokens"] (sp_built K) := by
  refine T.F__law_built.ok sc__law_built (fun vs H Q E h => ?_) (fun cdv A outer s H vs Q E hr h => ?_)
  · obtain ⟨t, xs, ts, rfl, _⟩ := h
    rfl
  · obtain ⟨l, xs, ts, rfl, hl, hT, hok, hn, hB, q⟩ := h
    refine ⟨_, (pss_cons (ps_set (i := 1) sc__law_built.nd rfl (Or.inl rfl) (pe_lst (pa_cons (pe_lst pa_nil) pa_nil)))
    (pss_cons (ps_for PassesOwn.never rfl (pi_list (pv 0)) (pg_tup (by rfl) (pgs_cons (pg_name (i := 2) sc__law_built.nd rfl (Or.inl rfl)) (pgs_cons (pg_name (i := 3) sc__law_built.nd rfl (Or.inl rfl)) (pgs_cons (pg_name (i := 4) sc__law_built.nd rfl (Or.inl rfl)) pgs_nil)))) (pss_one (ps_if (pt_cmpR op_eq (pv 3) pe_str (nomark _)) (pss_one (ps_expr (pe_bm PySem.F.plainAttrs_list PySem.F.slot_list_append PySem.F.type_list_append mt_append (pv 1) (pa_cons (pe_lst pa_nil) pa_nil)))) (pss_one (ps_if (pt_cmpR op_eq (pv 3) pe_str (nomark _)) (pss_cons (ps_set (i := 5) sc__law_built.nd rfl (Or.inl rfl) (pe_bm0 PySem.F.plainAttrs_list PySem.F.slot_list_pop PySem.F.type_list_pop mt_pop (pv 1)))
          (pss_one (ps_expr (pe_bm PySem.F.plainAttrs_list PySem.F.slot_list_append PySem.F.type_list_append mt_append (pe_ix ix_list (pv 1) (pe_un un_neg pe_int) (fun _ _ => rfl)) (pa_cons (pe_callTy c_tupQ (by rfl) T.n_tuple (by decide +kernel) (pa_cons (pv 5) pa_nil)) pa_nil))))) (pss_one (ps_expr (pe_bm PySem.F.plainAttrs_list PySem.F.slot_list_append PySem.F.type_list_append mt_append (pe_ix ix_list (pv 1) (pe_un un_neg pe_int) (fun _ _ => rfl)) (pa_cons (pv 3) pa_nil)))))))))
    (pss_one (ps_ret (pe_ix ix_list (pe_ix ix_list (pv 1) pe_int (fun _ _ => rfl)) pe_int (fun _ _ => rfl)))))), ?_⟩
    show tSeq _ _ _ [some (.ref l), none, none, none, none, none] H
    walk_at "wq"
    refine ⟨Nat.zero_le _, fun p0 hp0 => ⟨by decide, fun p hp => ?_⟩⟩
    have hp0p : p ≠ p0 := fun z => by subst z; rw [upd_same] at hp; cases hp
    have hp' : H p = none := by rw [upd_ne hp0p] at hp; exact hp
    have hS0 : Same H (upd (upd H p0 (.lst [])) p (.lst [.ref p0])) := (same_upd hp0).trans (same_upd hp)
    have N0 : Nst K H (upd (upd H p0 (.lst [])) p (.lst [.ref p0])) p [p0] [[]] :=
      ⟨by rw [upd_same]; rfl, by simp, by simpa using hp0p, ⟨⟨[], by rw [upd_ne (Ne.symm hp0p), upd_same], .nil⟩, trivial⟩, hS0, hp', fun b hb => by rw [List.mem_singleton.mp hb]; exact hp0⟩
    obtain ⟨x0, hx0⟩ := bl_bal _ [[]] 0 at0 hB
    refine in_list (xs := xs) (fun i σ H' => ∃ (bs : List Addr) (st : St3) (o3 o4 o5 o6 : Option V), σ = [some (.ref l), some (.ref p), o3, o4, o5, o6] ∧ Nst K H H' p bs st ∧ bl st ((ts.drop i).map (·.1)) = [[x0]] ∧
        (ts.drop i = [] ∨ ∃ d, AtDepth st d false ∧ Bal d ((ts.drop i).map (·.1))) ∧ st.length ≤ i + 1 ∧ (∀ ds ∈ st, ds.length ≤ i)) ⟨_, _, _, _, _, _, rfl, N0, hx0, .inr ⟨0, at0, hB⟩, Nat.le_refl _, by simp⟩ (fun i σ H' _ h => ?_) (fun i x σ H' hx h => ?_) fun σ H' h => ?_
    · obtain ⟨bs, st, o3, o4, o5, o6, rfl, n, _⟩ := h
      exact .inl (.inl (n.same _ _ hl))
    · obtain ⟨bs, st, o3, o4, o5, o6, rfl, n, hbl, hdep, hsl, hsz⟩ := h
      have hi : i < ts.length := by rw [← hT.len]; exact (List.getElem?_eq_some_iff.mp hx).1
      have hti : ts[i]? = some ts[i] := List.getElem?_eq_getElem hi
      generalize ts[i] = tc at hti
      obtain ⟨t, c⟩ := tc
      obtain ⟨pt, hx2, hpt⟩ := hT.at hti
      rw [hx] at hx2
      cases hx2
      have hokt := hok _ (List.mem_of_getElem? hti)
      rw [drop_at hti, List.map_cons] at hbl hdep
      have hpt' : SqT K H' pt [.str t.kd.str, t.v, .int c] := tkeep_same n.same _ _ hpt
      rcases hdep with hdep | ⟨d, hA, hBd⟩
      · cases hdep
      have hSq : SqL K H' p (bs.reverse.map V.ref) := .inl (.inl n.at_p)
      have hlb := n.len
      have hlen1 : (bs.reverse.map V.ref).length = st.length := by rw [List.length_map, List.length_reverse, hlb]
      have big : ∀ k, k ≤ 20000 → k < sizeLine := fun k h => Nat.lt_of_le_of_lt h (by decide)
      have hB' : (if t = .txt opn then Bal (d + 1) ((ts.drop (i + 1)).map (·.1)) else if t = .txt cls then (1 ≤ d ∧ if d = 1 then (ts.drop (i + 1)).map (·.1) = [] else Bal (d - 1) ((ts.drop (i + 1)).map (·.1))) else if d = 0 then (ts.drop (i + 1)).map (·.1) = [] else Bal d ((ts.drop (i + 1)).map (·.1))) := hBd
      have hbl' : bl (bstep st t) ((ts.drop (i + 1)).map (·.1)) = [[x0]] := hbl
      obtain ⟨b, bs', ds, st', ys, rfl, rfl, hb, hd⟩ := n.top (by rw [hA.1]; omega)
      have hds : ds.length ≤ i := hsz ds List.mem_cons_self
      have hyl : ys.length < sizeLine := by rw [hd.len]; exact big _ (by omega)
      have hrm : ((b :: bs').reverse.map V.ref) = bs'.reverse.map V.ref ++ [.ref b] := by rw [List.reverse_cons, List.map_append]; rfl
      show gTup K _ _ (.ref pt) [some (.ref l), some (.ref p), o3, o4, o5, o6] H' _
      walk_at "wq"
      refine ⟨_, hpt', rfl, ?_⟩
      by_cases ho : t = .txt opn
      · subst ho
        rw [show (Tk.txt opn).v = .str opn from rfl]
        walk_at "wq"
        rw [if_pos rfl] at hB'
        rw [show bstep (ds :: st') (.txt opn) = [] :: ds :: st' from if_pos rfl] at hbl'
        refine iteT' (show opn = "(" from rfl) ⟨ty_list n.at_p, Nat.zero_le _, fun r hr => ⟨_, ?_, by rw [hlen1]; exact big _ (by omega), r :: b :: bs', [] :: ds :: st', _, _, _, _, rfl, n.opn hr, hbl', .inr ⟨_, hA.opn, hB'⟩, by simp only [List.length_cons] at hsl ⊢; omega, fun e he => ?_⟩⟩
        · rw [upd_ne (fun z => by rw [← z, n.at_p] at hr; cases hr)]
          exact n.at_p
        · rcases List.mem_cons.mp he with rfl | he
          · exact Nat.zero_le _
          · exact Nat.le_succ_of_le (hsz e he)
      · rw [if_neg ho] at hB'
        by_cases hc : t = .txt cls
        · subst hc
          rw [show (Tk.txt cls).v = .str cls from rfl]
          walk_at "wq"
          rw [if_pos rfl] at hB'
          rw [show bstep (ds :: st') (.txt cls) = popd (ds :: st') from (if_neg ho).trans (if_pos rfl)] at hbl'
          have hp1 := hA.pop (by omega)
          have hA1 := hA.1
          refine iteF' (show ¬ cls = "(" from fun z => opn_ne z.symm) (iteT' (show cls = ")" from rfl) ?_)
          cases st' with
          | nil => simp only [List.length_cons, List.length_nil] at hA1; omega
          | cons d2 st2 =>
            cases bs' with
            | nil => exact absurd hlb (by simp)
            | cons b2 bs2 =>
              obtain ⟨⟨x2, h2, t2⟩, _⟩ := n.all.2
              have hbp : b ≠ p := fun z => n.np (by rw [← z]; exact List.mem_cons_self)
              have hpb2 : b2 ≠ p := fun z => n.np (by rw [← z]; exact List.mem_cons_of_mem _ List.mem_cons_self)
              have hrm2 : ((b2 :: bs2).reverse.map V.ref) = bs2.reverse.map V.ref ++ [.ref b2] := by rw [List.reverse_cons, List.map_append]; rfl
              refine ⟨ty_list n.at_p, _, .ref b, by rw [n.at_p, hrm], ?_⟩
              refine ⟨(b2 :: bs2).reverse.map V.ref, .inl (.inl upd_same), .ref b2, by rw [hrm2]; exact atI_neg1 _ _, ty_list (by rw [upd_ne hpb2]; exact h2), ?_⟩
              walk_at "wq"
              refine ⟨ys, .inl ⟨.inl (.inl (by rw [upd_ne hbp]; exact hb)), fun r hr => ?_⟩⟩
              have hrp : r ≠ p := fun z => by rw [z, upd_same] at hr; cases hr
              have hr' : H' r = none := by rw [upd_ne hrp] at hr; exact hr
              have hrb2 : b2 ≠ r := fun z => by rw [← z, h2] at hr'; cases hr'
              have hb2 : upd (upd H' p (.lst ((b2 :: bs2).reverse.map V.ref))) r (.tup ys) b2 = some (.lst x2) := by rw [upd_ne hrb2, upd_ne hpb2]; exact h2
              have hd2 : d2.length ≤ i := hsz d2 (by simp)
              refine ⟨x2, hb2, ?_, b2 :: bs2, _, _, _, _, _, rfl, n.pop hb hd h2 t2 hr' , hbl', ?_, by simp only [List.length_cons] at hsl ⊢; omega, fun e he => ?_⟩
              · rw [t2.len]; exact big _ (by omega)
              · by_cases q1 : d = 1
                · rw [if_pos q1] at hB'
                  exact .inl (List.map_eq_nil_iff.mp hB'.2)
                · rw [if_neg q1] at hB'
                  rw [decide_eq_false (by omega)] at hp1
                  exact .inr ⟨_, hp1, hB'.2⟩
              · rcases List.mem_cons.mp he with rfl | he
                · rw [List.length_append, List.length_singleton]; omega
                · exact Nat.le_succ_of_le (hsz e (List.mem_cons_of_mem _ (List.mem_cons_of_mem _ he)))
        · rw [if_neg hc] at hB'
          rw [show bstep (ds :: st') t = T85.push t.d (ds :: st') from (if_neg ho).trans (if_neg hc)] at hbl'
          have fin : ∃ xs, SqL K H' p xs ∧ ∃ v, atI xs (-1) = some v ∧ tyV K "list" v H' ∧ rAppend v [t.v] H' fun _ H1 => ∃ (bs : List Addr) (st : St3) (o3' o4' o5' o6' : Option V), [some (.ref l), some (.ref p), some (.str t.kd.str), some t.v, some (.int c), o6] = [some (.ref l), some (.ref p), o3', o4', o5', o6'] ∧ Nst K H H1 p bs st ∧ bl st ((ts.drop (i + 1)).map (·.1)) = [[x0]] ∧
              (ts.drop (i + 1) = [] ∨ ∃ d, AtDepth st d false ∧ Bal d ((ts.drop (i + 1)).map (·.1))) ∧ st.length ≤ i + 1 + 1 ∧ (∀ ds ∈ st, ds.length ≤ i + 1) := by
            refine ⟨_, hSq, .ref b, by rw [hrm]; exact atI_neg1 _ _, ty_list hb, ?_⟩
            walk_at "wq"
            refine ⟨ys, hb, hyl, b :: bs', _, _, _, _, _, rfl, n.push hb hd (t.td hokt), hbl', ?_, by simp only [List.length_cons] at hsl ⊢; omega, fun e he => ?_⟩
            · by_cases q1 : d = 0
              · rw [if_pos q1] at hB'
                exact .inl (List.map_eq_nil_iff.mp hB')
              · rw [if_neg q1] at hB'
                have hp1 := hA.push t.d
                rw [decide_eq_false q1] at hp1
                exact .inr ⟨_, hp1, hB'⟩
            · rcases List.mem_cons.mp he with rfl | he
              · rw [List.length_append, List.length_singleton]; omega
              · exact Nat.le_succ_of_le (hsz e (List.mem_cons_of_mem _ he))
          cases t with
          | num z =>
            rw [show (Tk.num z).v = .int z from rfl] at fin ⊢
            walk_at "wq"
            exact iteF (iteF fin)
          | txt z =>
            rw [show (Tk.txt z).v = .str z from rfl] at fin ⊢
            walk_at "wq"
            refine iteF' (fun e => ho (by rw [e]; rfl)) (iteF' (fun e => hc (by rw [e]; rfl)) fin)
    · obtain ⟨bs, st, o3, o4, o5, o6, rfl, n, hbl, _, hsl, hsz⟩ := h
      rw [hT.len, List.drop_length] at hbl
      have hst : st = [[x0]] := hbl
      subst hst
      obtain ⟨b, ds, ys, rfl, e, hb, hd⟩ := n.first rfl
      cases e
      walk_at "wq"
      refine ⟨_, .inl (.inl n.at_p), .ref b, rfl, ?_⟩
      walk_at "wq"
      cases hd with
      | @cons v vs _ _ hx hxs =>
        exact ⟨_, .inl (.inl hb), v, atI_nat (xs := v :: vs) (j := 0) rfl, q x0 v H' hx0 n.same hx⟩
end
end T85

namespace T85
open PySem PySem.Spec PyProof.Rows L2 TL CW
local macro_rules | `(tactic| walk_at "wp") => `(tactic| simp only [CW.Lat, CW.LatE, CW.w_seq, CW.w_lcL, CW.w_yes, List.map_cons, List.map_nil, CW.w_mkO, CW.w_revT, CW.w_rev, CW.w_m1, CW.w_cxK, CW.w_forT, CW.w_forL, CW.w_forR, CW.w_forE, CW.w_asg, CW.w_drop, CW.w_ret, CW.w_retN, CW.w_next, CW.w_never, CW.w_brk, CW.w_cont, CW.w_if, CW.w_ifE, CW.w_var0, CW.w_vars, CW.w_C, CW.w_op, CW.w_un, CW.w_nil, CW.w_cons, CW.w_tup, CW.w_lst, CW.w_call, CW.w_callS, CW.w_cb, CW.w_sl, CW.w_noPart, CW.w_part, CW.w_B, CW.w_test, CW.w_and, CW.w_or, CW.w_not, CW.w_notV, CW.w_andV, CW.w_orV, CW.w_name, CW.w_set0, CW.w_sets, CW.w_gtup, CW.w_gnil, CW.w_gcons, CW.w_gsub, CW.w_exb, CW.w_exi, CW.w_I0, CW.w_I, CW.w_U, CW.w_eqI, CW.w_eqS, CW.w_eqIS, CW.w_neI, CW.w_neS, CW.w_ixL, CW.w_ixT, CW.w_ixS, CW.w_slS, CW.w_slL, CW.w_setL, CW.w_cat, CW.w_rep, CW.w_mulS, CW.w_in, CW.w_bm, CW.w_bm0, CW.w_append, CW.w_pop, CW.w_exr, CW.w_isN, CW.w_notN, CW.w_addS, CW.w_inS, CW.w_notInS, CW.w_abs, CW.w_max2, CW.w_min2, CW.w_int1, CW.w_int1b, CW.w_strI, CW.w_str1, CW.w_str2, CW.w_lenQ, CW.w_lenS, CW.w_intS, CW.w_tupQ, CW.w_tru,
  List.append_nil, List.cons_append, List.nil_append, decide_eq_true_eq, List.length_cons, List.length_nil, Ends.nx, Ends.rt])
local macro_rules | `(tactic| walk_at "wq") => `(tactic| simp only [CW.Lat, CW.LatE, CW.w_seq, CW.w_lcL, CW.w_yes, List.map_cons, List.map_nil, CW.w_mkO, CW.w_revT, CW.w_rev, CW.w_m1, CW.w_cxK, CW.w_forT, CW.w_forL, CW.w_forR, CW.w_forE, CW.w_asg, CW.w_drop, CW.w_ret, CW.w_retN, CW.w_next, CW.w_never, CW.w_brk, CW.w_cont, CW.w_if, CW.w_ifE, CW.w_var0, CW.w_vars, CW.w_C, CW.w_op, CW.w_un, CW.w_nil, CW.w_cons, CW.w_tup, CW.w_lst, CW.w_call, CW.w_callS, CW.w_cb, CW.w_sl, CW.w_noPart, CW.w_part, CW.w_B, CW.w_test, CW.w_not, CW.w_notV, CW.w_andV, CW.w_orV, CW.w_name, CW.w_set0, CW.w_sets, CW.w_gtup, CW.w_gnil, CW.w_gcons, CW.w_gsub, CW.w_exb, CW.w_exi, CW.w_I0, CW.w_I, CW.w_U, CW.w_eqI, CW.w_eqS, CW.w_eqIS, CW.w_neI, CW.w_neS, CW.w_ixL, CW.w_ixT, CW.w_ixS, CW.w_slS, CW.w_slL, CW.w_setL, CW.w_cat, CW.w_rep, CW.w_mulS, CW.w_in, CW.w_bm, CW.w_bm0, CW.w_append, CW.w_pop, CW.w_exr, CW.w_isN, CW.w_notN, CW.w_addS, CW.w_inS, CW.w_notInS, CW.w_abs, CW.w_max2, CW.w_min2, CW.w_int1, CW.w_int1b, CW.w_strI, CW.w_str1, CW.w_str2, CW.w_lenQ, CW.w_lenS, CW.w_intS, CW.w_tupQ, CW.w_tru,
  List.append_nil, List.cons_append, List.nil_append, decide_eq_true_eq, List.length_cons, List.length_nil, Ends.nx, Ends.rt])
local macro_rules | `(tactic| walk_at "ws") => `(tactic| simp only [CW.w_lcL, CW.w_yes, List.map_cons, List.map_nil, CW.w_mkO, CW.w_revT, CW.w_rev, CW.w_m1, CW.w_cxK, CW.w_forT, CW.w_forL, CW.w_forR, CW.w_forE, CW.w_asg, CW.w_drop, CW.w_ret, CW.w_retN, CW.w_next, CW.w_never, CW.w_brk, CW.w_cont, CW.w_var0, CW.w_vars, CW.w_C, CW.w_op, CW.w_un, CW.w_nil, CW.w_cons, CW.w_tup, CW.w_lst, CW.w_call, CW.w_callS, CW.w_cb, CW.w_sl, CW.w_noPart, CW.w_part, CW.w_B, CW.w_test, CW.w_not, CW.w_notV, CW.w_andV, CW.w_orV, CW.w_name, CW.w_set0, CW.w_sets, CW.w_gtup, CW.w_gnil, CW.w_gcons, CW.w_gsub, CW.w_exb, CW.w_exi, CW.w_I0, CW.w_I, CW.w_U, CW.w_eqI, CW.w_eqS, CW.w_eqIS, CW.w_neI, CW.w_neS, CW.w_ixL, CW.w_ixT, CW.w_ixS, CW.w_slS, CW.w_slL, CW.w_setL, CW.w_cat, CW.w_rep, CW.w_mulS, CW.w_in, CW.w_bm, CW.w_bm0, CW.w_append, CW.w_pop, CW.w_exr, CW.w_isN, CW.w_notN, CW.w_addS, CW.w_inS, CW.w_notInS, CW.w_abs, CW.w_max2, CW.w_min2, CW.w_int1, CW.w_int1b, CW.w_strI, CW.w_str1, CW.w_str2, CW.w_lenQ, CW.w_lenS, CW.w_intS, CW.w_tupQ, CW.w_tru,
  List.append_nil, List.cons_append, List.nil_append, decide_eq_true_eq, List.length_cons, List.length_nil, Ends.nx, Ends.rt])
section
variable {P : Program} {w : World} {K : PySem.W.Frag} {mg : Str → Option Value} {base : Heap} {a : Ad}
theorem eq_tk {H : Hp} {Q : VK} {t : Tk} {z : Str} : rEq t.v (.str z) H Q = Q (.bl (decide (t = .txt z))) H := by
  cases t with
  | num n =>
    rw [show (Tk.num n).v = .int n from rfl, w_eqIS, decide_eq_false (fun e => nomatch e)]
  | txt s =>
    rw [show (Tk.txt s).v = .str s from rfl, w_eqS]
    by_cases h : s = z
    · rw [decide_eq_true h, decide_eq_true (congrArg Tk.txt h)]
    · rw [decide_eq_false h, decide_eq_false (fun e => h (Tk.txt.inj e))]
theorem in_tk {t : Tk} : inV t.v [.str "(", .str ")"] = (decide (t = .txt opn) || decide (t = .txt cls)) := by
  cases t with
  | num n => rfl
  | txt s =>
    by_cases h1 : s = "("
    · subst h1; rfl
    · by_cases h2 : s = ")"
      · subst h2; rfl
      · show inV (.str s) [.str "(", .str ")"] = (decide (Tk.txt s = Tk.txt "(") || decide (Tk.txt s = Tk.txt ")"))
        rw [decide_eq_false (fun e => h1 (Tk.txt.inj e)), decide_eq_false (fun e => h2 (Tk.txt.inj e))]
        have e1 : eqV (.str "(") (.str s) = false := by
          show ((("(" : Str) == s) : Bool) = false
          exact beq_eq_false_iff_ne.mpr (Ne.symm h1)
        have e2 : eqV (.str ")") (.str s) = false := by
          show (((")" : Str) == s) : Bool) = false
          exact beq_eq_false_iff_ne.mpr (Ne.symm h2)
        simp [inV, e1, e2]
theorem flat_tk (t : Tk) : flatV t.v = true := by cases t <;> rfl
def faultV (H : Hp) (Q : VK) : Option (Nat × Str) → Prop
  | none => ∀ H', Same H H' → Q .non H'
  | some (c, r) => ∀ p H', Same H H' → H' p = some (.tup [.int c, .str r]) → H p = none → Q (.ref p) H'
def sp_fault (K : PySem.W.Frag) : Sp := fun vs H Q _ => ∃ (l : Addr) (xs : List V) (ts : List (Tk × Nat)), vs = [.ref l] ∧ H l = some (.lst xs) ∧ TokL K H xs ts ∧ faultV H Q (lf 0 false ts (endCol ts))
theorem ok__law_fault (T : Txt P K mg a) : FnOk P w K mg base CX0 1 a.f__law_fault a.d__law_fault ["tokens"] (sp_fault K) := by
  refine T.F__law_fault.ok sc__law_fault (fun vs H Q E h => ?_) (fun cdv A outer s H vs Q E hr h => ?_)
  · obtain ⟨t, xs, ts, rfl, _⟩ := h
    rfl
  · obtain ⟨l, xs, ts, rfl, hl, hT, q⟩ := h
    refine ⟨_, (pss_cons (ps_set (i := 1) sc__law_fault.nd rfl (Or.inl rfl) pe_int)
    (pss_cons (ps_set (i := 2) sc__law_fault.nd rfl (Or.inl rfl) pe_bl)
    (pss_cons (ps_for PassesOwn.never rfl (pi_list (pv 0)) (pg_tup (by rfl) (pgs_cons (pg_name (i := 3) sc__law_fault.nd rfl (Or.inl rfl)) (pgs_cons (pg_name (i := 4) sc__law_fault.nd rfl (Or.inl rfl)) (pgs_cons (pg_name (i := 5) sc__law_fault.nd rfl (Or.inl rfl)) pgs_nil)))) (pss_cons (ps_if (pt_val (pv 2)) (pss_one (ps_ret (pe_tup (pa_cons (pv 5) (pa_cons pe_str pa_nil))))) pss_nil)
      (pss_cons (ps_if (PW.pt (pw_and (pt_cmpR op_eq (pv 4) pe_str (nomark _)) (pw_and1 (pt_cmpR op_eq (pv 1) pe_int (nomark _))))) (pss_one (ps_ret (pe_tup (pa_cons (pv 5) (pa_cons pe_str pa_nil))))) pss_nil)
      (pss_cons (ps_if (PW.pt (pw_and (pt_cmpR op_eq (pv 3) pe_str (nomark _)) (pw_and1 (PW.pt (pw_or (pt_cmpR op_notIn_seq (pv 4) (pe_tup (pa_cons pe_str (pa_cons pe_str pa_nil))) (by rfl)) (pw_or1 (PW.pt (pw_and (pt_cmpR op_eq (pv 4) pe_str (nomark _)) (pw_and1 (pt_cmpR op_eq (pv 1) pe_int (nomark _))))))))))) (pss_one (ps_ret (pe_tup (pa_cons (pv 5) (pa_cons pe_str pa_nil))))) pss_nil)
      (pss_cons (ps_set (i := 1) sc__law_fault.nd rfl (Or.inl rfl) (pe_op op_sub (pe_op op_add (pv 1) (pe_callTy c_int1 (by rfl) T.n_int (by decide +kernel) (pa_cons (pe_cmpR op_eq (pv 4) pe_str (nomark _)) pa_nil))) (pe_callTy c_int1 (by rfl) T.n_int (by decide +kernel) (pa_cons (pe_cmpR op_eq (pv 4) pe_str (nomark _)) pa_nil))))
      (pss_one (ps_set (i := 2) sc__law_fault.nd rfl (Or.inl rfl) (pe_cmpR op_eq (pv 1) pe_int (nomark _)))))))))
    (pss_cons (ps_if (pt_val (pv 2)) (pss_one (ps_ret pe_non)) pss_nil)
    (pss_one (ps_ret (pe_tup (pa_cons (pe_ifExp (pt_cmpR op_gt (pe_callB c_lenQ (by rfl) T.n_len PySem.boot_len (pa_cons (pv 0) pa_nil)) pe_int (nomark _)) (pe_op op_add (pe_ix ix_tup (pe_ix ix_list (pv 0) (pe_un un_neg pe_int) (fun _ _ => rfl)) pe_int (fun _ _ => rfl)) pe_int) pe_int) (pa_cons pe_str pa_nil))))))))), ?_⟩
    show tSeq _ _ _ [some (.ref l), none, none, none, none, none] H
    refine seq_gen (fun σ' H' => σ' = [some (.ref l), some (.int 0), none, none, none, none] ∧ H' = H) (fun R hR => ?_) ?_
    · walk_at "wq"
      exact hR _ _ ⟨rfl, rfl⟩
    rintro σ' H1 ⟨rfl, rfl⟩
    refine seq_gen (fun σ' H' => σ' = [some (.ref l), some (.int 0), some (.bl false), none, none, none] ∧ H' = H1) (fun R hR => ?_) ?_
    · walk_at "wq"
      exact hR _ _ ⟨rfl, rfl⟩
    rintro σ' H1 ⟨rfl, rfl⟩
    refine seq_gen (fun σ' H' => ∃ (d : Nat) (done : Bool) (o3 o4 o5 : Option V), σ' = [some (.ref l), some (.int d), some (.bl done), o3, o4, o5] ∧ Same H1 H' ∧ lf 0 false ts (endCol ts) = lf d done [] (endCol ts)) (fun R hR => ?_) ?_
    · walk_at "ws"
      refine in_list (xs := xs) (fun i σ H' => ∃ (d : Nat) (done : Bool) (o3 o4 o5 : Option V), σ = [some (.ref l), some (.int d), some (.bl done), o3, o4, o5] ∧ Same H1 H' ∧ lf 0 false ts (endCol ts) = lf d done (ts.drop i) (endCol ts))
        ⟨0, false, none, none, none, rfl, Same.refl _, rfl⟩ (fun i σ H' _ h => ?_) (fun i x σ H' hx h => ?_) fun σ H' h => ?_
      · obtain ⟨d, done, o3, o4, o5, rfl, hS, _⟩ := h
        exact .inl (.inl (hS _ _ hl))
      · obtain ⟨d, done, o3, o4, o5, rfl, hS, hlf⟩ := h
        have hi : i < ts.length := by rw [← hT.len]; exact (List.getElem?_eq_some_iff.mp hx).1
        have hti : ts[i]? = some ts[i] := List.getElem?_eq_getElem hi
        generalize ts[i] = tc at hti
        obtain ⟨t, c⟩ := tc
        obtain ⟨pt, hx2, hpt⟩ := hT.at hti
        rw [hx] at hx2
        cases hx2
        rw [drop_at hti, lf] at hlf
        have hpt' : SqT K H' pt [.str t.kd.str, t.v, .int c] := tkeep_same hS _ _ hpt
        have out : ∀ (r : Str), lf 0 false ts (endCol ts) = some (c, r) → ∀ (v : V), v = .str r → ∀ H2, Same H' H2 → (0 + 1 + 1 ≤ sizeLine ∧ ∀ p, H2 p = none → Q (.ref p) (upd H2 p (.tup [.int c, v]))) := fun r e v ev H2 h2 => by
          subst ev
          rw [e] at q
          exact ⟨by decide, fun p hp => q p _ ((hS.trans h2).trans (same_upd hp)) upd_same ((hS.trans h2).free hp)⟩
        walk_at "ws"
        refine ⟨_, hpt', rfl, ?_⟩
        walk_at "ws"
        refine seq_gen (fun σ' H2 => σ' = [some (.ref l), some (.int d), some (.bl done), some (.str t.kd.str), some t.v, some (.int c)] ∧ H2 = H' ∧ done = false) (fun R hR => ?_) ?_
        · walk_at "wq"
          cases done with
          | true =>
            rw [if_pos rfl] at hlf
            exact out _ hlf _ rfl _ (Same.refl _)
          | false => exact hR _ _ ⟨rfl, rfl, rfl⟩
        rintro σ' H2 ⟨rfl, rfl, rfl⟩
        rw [if_neg Bool.false_ne_true] at hlf
        refine seq_gen (fun σ' H3 => σ' = [some (.ref l), some (.int d), some (.bl false), some (.str t.kd.str), some t.v, some (.int c)] ∧ H3 = H2 ∧ ¬ (t = .txt opn ∧ d = 8)) (fun R hR => ?_) ?_
        · walk_at "wq"
          refine and_known (decide (t = .txt opn)) (decide (d = 8)) (fun B hB => ?_) (fun _ B hB => ?_) ?_
          · walk_at "wq"
            simp only [eq_tk, CW.w_exb]
            exact hB
          · walk_at "wq"
            rw [show decide ((d : Int) = 8) = decide (d = 8) from decide_eq_decide.mpr (by omega)]
            exact hB
          · by_cases h : t = .txt opn ∧ d = 8
            · rw [if_pos h] at hlf
              rw [decide_eq_true h.1, decide_eq_true h.2]
              exact iteT (out _ hlf _ rfl _ (Same.refl _))
            · have : (decide (t = .txt opn) && decide (d = 8)) = false := by
                rw [← Bool.not_eq_true, Bool.and_eq_true, decide_eq_true_eq, decide_eq_true_eq]
                exact h
              rw [this]
              exact iteF (hR _ _ ⟨rfl, rfl, h⟩)
        rintro σ' H3 ⟨rfl, rfl, hn8⟩
        rw [if_neg hn8] at hlf
        refine seq_gen (fun σ' H4 => σ' = [some (.ref l), some (.int d), some (.bl false), some (.str t.kd.str), some t.v, some (.int c)] ∧ Same H3 H4 ∧ ¬ (t.kd = .sign ∧ ((t ≠ .txt opn ∧ t ≠ .txt cls) ∨ (t = .txt cls ∧ d = 0)))) (fun R hR => ?_) ?_
        · refine if_gen (fun H4 => Same H3 H4 ∧ (t.kd = .sign ∧ ((t ≠ .txt opn ∧ t ≠ .txt cls) ∨ (t = .txt cls ∧ d = 0)))) (fun H4 => Same H3 H4 ∧ ¬ (t.kd = .sign ∧ ((t ≠ .txt opn ∧ t ≠ .txt cls) ∨ (t = .txt cls ∧ d = 0)))) (fun R' h1 h2 => ?_) (fun H4 h => ?_) (fun H4 h => ?_)
          · walk_at "wp"
            simp only [eq_tk, CW.w_exb, kd_sign]
            refine iteT_or (fun hk => ⟨by decide, fun p hp => ?_⟩) (fun hk => h2 _ ⟨Same.refl _, fun z => hk z.1⟩)
            have hS2 : Same H3 (upd H3 p (.tup [.str "(", .str ")"])) := same_upd hp
            refine ⟨_, .inr (.inl (.inl upd_same)), flat_tk t, rfl, ?_⟩
            rw [if_pos trivial, in_tk]
            by_cases ho : t = .txt opn
            · have n2 : ¬ t = .txt ")" := fun z => opn_ne (Tk.txt.inj (ho.symm.trans z))
              rw [decide_eq_true ho, decide_eq_false n2]
              exact iteF (iteF (h2 _ ⟨hS2, fun z => by rcases z.2 with ⟨z1, _⟩ | ⟨z1, _⟩; exact z1 ho; exact n2 z1⟩))
            · by_cases hc : t = .txt cls
              · rw [decide_eq_false ho, decide_eq_true hc, decide_eq_true (show t = .txt ")" from hc)]
                refine iteF (iteT (dec_to (fun hz => h1 _ ⟨hS2, hk, .inr ⟨hc, by omega⟩⟩) fun hz => h2 _ ⟨hS2, fun z => ?_⟩))
                rcases z.2 with ⟨_, z1⟩ | ⟨_, z1⟩
                · exact z1 hc
                · exact hz (by omega)
              · rw [decide_eq_false ho, decide_eq_false hc]
                exact iteT (h1 _ ⟨hS2, hk, .inl ⟨ho, hc⟩⟩)
          · rw [if_pos h.2] at hlf
            walk_at "wq"
            exact out _ hlf _ rfl _ h.1
          · walk_at "wq"
            exact hR _ _ ⟨rfl, h.1, h.2⟩
        rintro σ' H4 ⟨rfl, hS4, hnt⟩
        rw [if_neg hnt] at hlf
        walk_at "wq"
        simp only [eq_tk, CW.w_exb, CW.w_int1b, CW.w_I0]
        have hcd : t = .txt cls → d ≠ 0 := fun hc hz => hnt ⟨by rw [hc]; exact kd_cls, .inr ⟨hc, hz⟩⟩
        have hd' : ((d : Int) + (if decide (t = Tk.txt "(") = true then 1 else 0)) - (if decide (t = Tk.txt ")") = true then 1 else 0) = ((if t = Tk.txt opn then d + 1 else if t = Tk.txt cls then d - 1 else d : Nat) : Int) := by
          by_cases ho : t = .txt opn
          · have n2 : ¬ t = .txt ")" := fun z => opn_ne (Tk.txt.inj (ho.symm.trans z))
            rw [if_pos ho, if_pos (decide_eq_true (show t = .txt "(" from ho)), if_neg (by rw [decide_eq_false n2]; exact Bool.false_ne_true)]
            omega
          · by_cases hc : t = .txt cls
            · have := hcd hc
              rw [if_neg ho, if_pos hc, if_neg (by rw [decide_eq_false (show ¬ t = .txt "(" from ho)]; exact Bool.false_ne_true), if_pos (decide_eq_true (show t = .txt ")" from hc))]
              omega
            · rw [if_neg ho, if_neg hc, if_neg (by rw [decide_eq_false (show ¬ t = .txt "(" from ho)]; exact Bool.false_ne_true), if_neg (by rw [decide_eq_false (show ¬ t = .txt ")" from hc)]; exact Bool.false_ne_true)]
              omega
        rw [hd']
        walk_at "wq"
        refine ⟨_, _, _, _, _, rfl, hS.trans hS4, ?_⟩
        rw [hlf]
        show lf _ (decide (_ = 0)) _ _ = _
        congr 1
        exact decide_eq_decide.mpr (by omega)
      · obtain ⟨d, done, o3, o4, o5, rfl, hS, hlf⟩ := h
        rw [hT.len, List.drop_length] at hlf
        exact hR _ _ ⟨d, done, o3, o4, o5, rfl, hS, hlf⟩
    rintro σ' H' ⟨d, done, o3, o4, o5, rfl, hS, hlf⟩
    rw [lf] at hlf
    refine seq_gen (fun σ' H2 => σ' = [some (.ref l), some (.int d), some (.bl done), o3, o4, o5] ∧ H2 = H' ∧ done = false) (fun R hR => ?_) ?_
    · walk_at "wq"
      cases done with
      | true =>
        rw [hlf, if_pos rfl] at q
        exact q _ hS
      | false => exact hR _ _ ⟨rfl, rfl, rfl⟩
    rintro σ' H2 ⟨rfl, rfl, rfl⟩
    rw [if_neg Bool.false_ne_true] at hlf
    rw [hlf] at q
    walk_at "wq"
    refine ⟨_, .inl (.inl (.inl (hS _ _ hl))), ?_⟩
    have fin : ∀ v : V, v = .int (endCol ts) → (0 + 1 + 1 ≤ sizeLine ∧ ∀ p, H2 p = none → Q (.ref p) (upd H2 p (.tup [v, .str "thing"]))) := fun v ev => by
      subst ev
      exact ⟨by decide, fun p hp => q p _ (hS.trans (same_upd hp)) upd_same (hS.free hp)⟩
    refine iteT_or (fun h => ?_) (fun h => ?_)
    · have hne : xs ≠ [] := fun z => by subst z; simp at h
      obtain ⟨y, hy⟩ := atI_last hne
      obtain ⟨t, pl, e, rfl, hpl⟩ := last_tok hT hy
      refine ⟨_, .inl (.inl (hS _ _ hl)), _, hy, ?_⟩
      walk_at "wq"
      refine ⟨_, tkeep_same hS _ _ hpl, _, rfl, ?_⟩
      walk_at "wq"
      refine fin _ ?_
      have : endCol ts = t.2 + 1 := by simp [endCol, e]
      rw [this]
      rfl
    · have : ts = [] := by
        refine List.eq_nil_of_length_eq_zero ?_
        rw [← hT.len]; omega
      subst this
      exact fin _ rfl
end
end T85

namespace T85
open PySem PySem.Spec PyProof.Rows L2 TL CW
local macro_rules | `(tactic| walk_at "wp") => `(tactic| simp only [CW.Lat, CW.LatE, CW.w_seq, CW.w_lcL, CW.w_yes, List.map_cons, List.map_nil, CW.w_mkO, CW.w_revT, CW.w_rev, CW.w_m1, CW.w_cxK, CW.w_forT, CW.w_forL, CW.w_forR, CW.w_forE, CW.w_asg, CW.w_drop, CW.w_ret, CW.w_retN, CW.w_next, CW.w_never, CW.w_brk, CW.w_cont, CW.w_if, CW.w_ifE, CW.w_var0, CW.w_vars, CW.w_C, CW.w_op, CW.w_un, CW.w_nil, CW.w_cons, CW.w_tup, CW.w_lst, CW.w_call, CW.w_callS, CW.w_cb, CW.w_sl, CW.w_noPart, CW.w_part, CW.w_B, CW.w_test, CW.w_and, CW.w_or, CW.w_not, CW.w_notV, CW.w_andV, CW.w_orV, CW.w_name, CW.w_set0, CW.w_sets, CW.w_gtup, CW.w_gnil, CW.w_gcons, CW.w_gsub, CW.w_exb, CW.w_exi, CW.w_I0, CW.w_I, CW.w_U, CW.w_eqI, CW.w_eqS, CW.w_eqIS, CW.w_neI, CW.w_neS, CW.w_ixL, CW.w_ixT, CW.w_ixS, CW.w_slS, CW.w_slL, CW.w_setL, CW.w_cat, CW.w_rep, CW.w_mulS, CW.w_in, CW.w_bm, CW.w_bm0, CW.w_append, CW.w_pop, CW.w_exr, CW.w_isN, CW.w_notN, CW.w_addS, CW.w_inS, CW.w_notInS, CW.w_abs, CW.w_max2, CW.w_min2, CW.w_int1, CW.w_int1b, CW.w_strI, CW.w_str1, CW.w_str2, CW.w_lenQ, CW.w_lenS, CW.w_intS, CW.w_tupQ, CW.w_tru,
  List.append_nil, List.cons_append, List.nil_append, decide_eq_true_eq, List.length_cons, List.length_nil, Ends.nx, Ends.rt])
local macro_rules | `(tactic| walk_at "wq") => `(tactic| simp only [CW.Lat, CW.LatE, CW.w_seq, CW.w_lcL, CW.w_yes, List.map_cons, List.map_nil, CW.w_mkO, CW.w_revT, CW.w_rev, CW.w_m1, CW.w_cxK, CW.w_forT, CW.w_forL, CW.w_forR, CW.w_forE, CW.w_asg, CW.w_drop, CW.w_ret, CW.w_retN, CW.w_next, CW.w_never, CW.w_brk, CW.w_cont, CW.w_if, CW.w_ifE, CW.w_var0, CW.w_vars, CW.w_C, CW.w_op, CW.w_un, CW.w_nil, CW.w_cons, CW.w_tup, CW.w_lst, CW.w_call, CW.w_callS, CW.w_cb, CW.w_sl, CW.w_noPart, CW.w_part, CW.w_B, CW.w_test, CW.w_not, CW.w_notV, CW.w_andV, CW.w_orV, CW.w_name, CW.w_set0, CW.w_sets, CW.w_gtup, CW.w_gnil, CW.w_gcons, CW.w_gsub, CW.w_exb, CW.w_exi, CW.w_I0, CW.w_I, CW.w_U, CW.w_eqI, CW.w_eqS, CW.w_eqIS, CW.w_neI, CW.w_neS, CW.w_ixL, CW.w_ixT, CW.w_ixS, CW.w_slS, CW.w_slL, CW.w_setL, CW.w_cat, CW.w_rep, CW.w_mulS, CW.w_in, CW.w_bm, CW.w_bm0, CW.w_append, CW.w_pop, CW.w_exr, CW.w_isN, CW.w_notN, CW.w_addS, CW.w_inS, CW.w_notInS, CW.w_abs, CW.w_max2, CW.w_min2, CW.w_int1, CW.w_int1b, CW.w_strI, CW.w_str1, CW.w_str2, CW.w_lenQ, CW.w_lenS, CW.w_intS, CW.w_tupQ, CW.w_tru,
  List.append_nil, List.cons_append, List.nil_append, decide_eq_true_eq, List.length_cons, List.length_nil, Ends.nx, Ends.rt])
local macro_rules | `(tactic| walk_at "ws") => `(tactic| simp only [CW.w_lcL, CW.w_yes, List.map_cons, List.map_nil, CW.w_mkO, CW.w_revT, CW.w_rev, CW.w_m1, CW.w_cxK, CW.w_forT, CW.w_forL, CW.w_forR, CW.w_forE, CW.w_asg, CW.w_drop, CW.w_ret, CW.w_retN, CW.w_next, CW.w_never, CW.w_brk, CW.w_cont, CW.w_var0, CW.w_vars, CW.w_C, CW.w_op, CW.w_un, CW.w_nil, CW.w_cons, CW.w_tup, CW.w_lst, CW.w_call, CW.w_callS, CW.w_cb, CW.w_sl, CW.w_noPart, CW.w_part, CW.w_B, CW.w_test, CW.w_not, CW.w_notV, CW.w_andV, CW.w_orV, CW.w_name, CW.w_set0, CW.w_sets, CW.w_gtup, CW.w_gnil, CW.w_gcons, CW.w_gsub, CW.w_exb, CW.w_exi, CW.w_I0, CW.w_I, CW.w_U, CW.w_eqI, CW.w_eqS, CW.w_eqIS, CW.w_neI, CW.w_neS, CW.w_ixL, CW.w_ixT, CW.w_ixS, CW.w_slS, CW.w_slL, CW.w_setL, CW.w_cat, CW.w_rep, CW.w_mulS, CW.w_in, CW.w_bm, CW.w_bm0, CW.w_append, CW.w_pop, CW.w_exr, CW.w_isN, CW.w_notN, CW.w_addS, CW.w_inS, CW.w_notInS, CW.w_abs, CW.w_max2, CW.w_min2, CW.w_int1, CW.w_int1b, CW.w_strI, CW.w_str1, CW.w_str2, CW.w_lenQ, CW.w_lenS, CW.w_intS, CW.w_tupQ, CW.w_tru,
  List.append_nil, List.cons_append, List.nil_append, decide_eq_true_eq, List.length_cons, List.length_nil, Ends.nx, Ends.rt])
section
variable {P : Program} {w : World} {K : PySem.W.Frag} {mg : Str → Option Value} {base : Heap} {a : Ad}
def cutT (ts : List Tk) (lo hi : Option Int) : List Tk := (ts.drop (HT.sIx ts.length 0 lo)).take (HT.sIx ts.length ts.length hi - HT.sIx ts.length 0 lo)
theorem cutV_map (ts : List Tk) (lo hi : Option Int) : cutV (ts.map Tk.v) lo hi = (cutT ts lo hi).map Tk.v := by
  unfold cutV cutT
  rw [List.length_map, List.map_take, List.map_drop]
theorem cutT_mem {ts : List Tk} {lo hi : Option Int} {t : Tk} (h : t ∈ cutT ts lo hi) : t ∈ ts := List.mem_of_mem_drop (List.mem_of_mem_take h)
theorem cutT_len (ts : List Tk) (lo hi : Option Int) : (cutT ts lo hi).length ≤ ts.length := by
  unfold cutT
  rw [List.length_take, List.length_drop]
  omega
def odds : List Tk := [.txt "(", .txt ")", .txt ",", .txt ":", .txt "==", .txt "<", .txt "+", .txt "-", .txt "*", .txt "/", .txt "end", .num 7]
theorem odds_ok : ∀ t ∈ odds, t.Ok := by
  intro t ht
  simp only [odds, List.mem_cons, List.not_mem_nil, or_false] at ht
  rcases ht with rfl | rfl | rfl | rfl | rfl | rfl | rfl | rfl | rfl | rfl | rfl | rfl
  · exact .inr (by decide +kernel)
  · exact .inr (by decide +kernel)
  · exact .inr (by decide +kernel)
  · exact .inr (by decide +kernel)
  · exact .inr (by decide +kernel)
  · exact .inr (by decide +kernel)
  · exact .inr (by decide +kernel)
  · exact .inr (by decide +kernel)
  · exact .inr (by decide +kernel)
  · exact .inr (by decide +kernel)
  · exact (atom_of (s := "end") (by decide +kernel)).1
  · show (7 : Nat) < 10 ^ 40
    decide
/-- two lists that stand, one behind the other: a new list -/
theorem cat_two {H4 H5 : Hp} {x y : Addr} {t1 t2 : List Tk} {Q : VK} {n : Nat} (hx : H5 x = some (.lst (t1.map Tk.v))) (hy : H5 y = some (.lst (t2.map Tk.v))) (h1 : t1.length ≤ 2000) (h2 : t2.length ≤ 2000)
    (k : ∀ r, H5 r = none → Q (.ref r) (upd H5 r (.lst ((t1 ++ t2).map Tk.v)))) : ∃ xs zs, H5 x = some (.lst xs) ∧ H5 y = some (.lst zs) ∧ xs.length + zs.length ≤ sizeLine ∧ ∀ r, H5 r = none → Q (.ref r) (upd H5 r (.lst (xs ++ zs))) := by
  refine ⟨_, _, hx, hy, ?_, fun r hr => ?_⟩
  · rw [List.length_map, List.length_map]
    exact Nat.le_trans (show t1.length + t2.length ≤ 4000 by omega) (by decide)
  · rw [← List.map_append]
    exact k r hr
def sp_damaged : Sp := fun vs H Q _ => ∃ (d dc l : Addr) (ts : List Tk), vs = [.ref d, .ref l] ∧ DrawAt H d dc ∧ H l = some (.lst (ts.map Tk.v)) ∧ l ≠ d ∧ (∀ t ∈ ts, t.Ok) ∧ ts.length ≤ 1000 ∧
  ∀ (ts' : List Tk) (l' : Addr) (H' : Hp), (∀ t ∈ ts', t.Ok) → ts'.length ≤ 2 * ts.length + 1 → DrawAt H' d dc → But d H H' → H' l' = some (.lst (ts'.map Tk.v)) → l' ≠ d → Q (.ref l') H'
theorem ok__law_damaged (T : Txt P K mg a) : FnOk P w K mg base CX0 2 a.f__law_damaged a.d__law_damaged ["d", "values"] sp_damaged := by
  refine T.F__law_damaged.ok sc__law_damaged (fun vs H Q E h => ?_) (fun cdv A outer s H vs Q E hr h => ?_)
  · obtain ⟨d, dc, l, ts, rfl, _⟩ := h
    rfl
  · obtain ⟨d, dc, l, ts, rfl, hd, hl, hld, hok, hn, q⟩ := h
    refine ⟨_, (pss_cons (ps_set (i := 2) sc__law_damaged.nd rfl (Or.inl rfl) (pe_lst (pa_cons pe_str (pa_cons pe_str (pa_cons pe_str (pa_cons pe_str (pa_cons pe_str (pa_cons pe_str (pa_cons pe_str (pa_cons pe_str (pa_cons pe_str (pa_cons pe_str (pa_cons pe_str (pa_cons pe_int pa_nil))))))))))))))
    (pss_cons (ps_set (i := 3) sc__law_damaged.nd rfl (Or.inl rfl) (pe_call (ok__law_draw T) (hr.mono (by decide)) (by rfl) T.g__law_draw T.F__law_draw.kp T.b__law_draw .nil pass0 (pa_cons (pv 0) (pa_cons (pe_op op_add (pe_callB c_lenQ (by rfl) T.n_len PySem.boot_len (pa_cons (pv 1) pa_nil)) pe_int) pa_nil))))
    (pss_cons (ps_set (i := 4) sc__law_damaged.nd rfl (Or.inl rfl) (pe_ix ix_list (pv 2) (pe_call (ok__law_draw T) (hr.mono (by decide)) (by rfl) T.g__law_draw T.F__law_draw.kp T.b__law_draw .nil pass0 (pa_cons (pv 0) (pa_cons (pe_callB c_lenQ (by rfl) T.n_len PySem.boot_len (pa_cons (pv 2) pa_nil)) pa_nil))) (fun _ _ => rfl)))
    (pss_cons (ps_set (i := 5) sc__law_damaged.nd rfl (Or.inl rfl) (pe_call (ok__law_draw T) (hr.mono (by decide)) (by rfl) T.g__law_draw T.F__law_draw.kp T.b__law_draw .nil pass0 (pa_cons (pv 0) (pa_cons pe_int pa_nil))))
    (pss_cons (ps_if (pt_cmpR op_eq (pv 5) pe_int (nomark _)) (pss_one (ps_ret (pe_op op_cat (pe_slice sl_list (pv 1) po_none (po_some (pv 3))) (pe_slice sl_list (pv 1) (po_some (pe_op op_add (pv 3) pe_int)) po_none)))) pss_nil)
    (pss_cons (ps_if (pt_cmpR op_eq (pv 5) pe_int (nomark _)) (pss_one (ps_ret (pe_op op_cat (pe_slice sl_list (pv 1) po_none (po_some (pv 3))) (pe_slice sl_list (pv 1) (po_some (pe_callB (c_max2 rfl) (by rfl) T.n_max (by decide +kernel) (pa_cons pe_int (pa_cons (pe_op op_sub (pv 3) pe_int) pa_nil)))) po_none)))) pss_nil)
    (pss_cons (ps_if (pt_cmpR op_lt (pv 5) pe_int (nomark _)) (pss_one (ps_ret (pe_op op_cat (pe_op op_cat (pe_slice sl_list (pv 1) po_none (po_some (pv 3))) (pe_lst (pa_cons (pv 4) pa_nil))) (pe_slice sl_list (pv 1) (po_some (pv 3)) po_none)))) pss_nil)
    (pss_cons (ps_if (pt_cmpR op_eq (pv 5) pe_int (nomark _)) (pss_one (ps_ret (pe_op op_cat (pe_op op_cat (pe_slice sl_list (pv 1) po_none (po_some (pv 3))) (pe_lst (pa_cons (pv 4) pa_nil))) (pe_slice sl_list (pv 1) (po_some (pe_op op_add (pv 3) pe_int)) po_none)))) pss_nil)
    (pss_one (ps_ret (pe_slice sl_list (pv 1) po_none (po_some (pv 3))))))))))))), ?_⟩
    show tSeq _ _ _ [some (.ref d), some (.ref l), none, none, none, none] H
    walk_at "wq"
    refine ⟨by decide, fun p hp => ?_⟩
    have s0 : Same H (upd H p (.lst (odds.map Tk.v))) := same_upd hp
    refine ⟨_, .inl (.inl (.inl (s0 _ _ hl))), ?_⟩
    rw [List.length_map, show ((ts.length : Int) + 1) = ((ts.length + 1 : Nat) : Int) by omega]
    refine drawn (hd.same s0) _ (by omega) (by omega) fun at_ H1 hat hd1 b1 => ?_
    have hp1 : H1 p = some (.lst (odds.map Tk.v)) := but_lst hd hp b1
    have hl1 := b1 _ _ hld (s0 _ _ hl)
    have b01 : But d H H1 := (But.of s0).trans b1
    refine ⟨_, .inl (.inl (.inl hp1)), ?_⟩
    refine drawn hd1 12 (by decide) (by decide) fun oi H2 hoi hd2 b2 => ?_
    have hpd : p ≠ d := (hd.new hp).1
    have hp2 := b2 _ _ hpd hp1
    have hl2 := b2 _ _ hld hl1
    have b02 := b01.trans b2
    obtain ⟨ot, hot⟩ : ∃ ot, odds[oi]? = some ot := ⟨odds[oi]'(by show oi < 12; exact hoi), List.getElem?_eq_getElem _⟩
    have hotk := odds_ok ot (List.mem_of_getElem? hot)
    walk_at "wq"
    refine ⟨_, .inl (.inl hp2), _, atI_nat (v := ot.v) (by rw [List.getElem?_map, hot]; rfl), ?_⟩
    refine drawn hd2 6 (by decide) (by decide) fun way H4 hway hd4 b4 => ?_
    have hl4 := b4 _ _ hld hl2
    have b04 := b02.trans b4
    clear hp1 hl1 b01 hp2 hl2 b02 hd1 hd2 b1 b2 b4 hp
    have hL4 : SqL K H4 l (ts.map Tk.v) := .inl (.inl hl4)
    have fin : ∀ (H5 : Hp) (r : Addr) (ts' : List Tk), Same H4 H5 → H5 r = none → (∀ t ∈ ts', t.Ok) → ts'.length ≤ 2 * ts.length + 1 → Q (.ref r) (upd H5 r (.lst (ts'.map Tk.v))) := fun H5 r ts' hS hr ho hle => by
      have hd5 := hd4.same hS
      exact q ts' r _ ho hle (hd5.same (same_upd hr)) (b04.trans (.of (hS.trans (same_upd hr)))) upd_same (hd5.new hr).1
    have cl : ∀ lo hi, (cutT ts lo hi).length ≤ ts.length := fun lo hi => cutT_len ts lo hi
    have co : ∀ lo hi, ∀ t ∈ cutT ts lo hi, t.Ok := fun lo hi t ht => hok t (cutT_mem ht)
    have two : ∀ lo hi lo2 hi2 x, H4 x = none → ∃ xs', SqL K (upd H4 x (.lst (cutV (ts.map Tk.v) lo hi))) l xs' ∧ ∀ y, upd H4 x (.lst (cutV (ts.map Tk.v) lo hi)) y = none → ∃ xs zs, upd (upd H4 x (.lst (cutV (ts.map Tk.v) lo hi))) y (.lst (cutV xs' lo2 hi2)) x = some (.lst xs) ∧
        upd (upd H4 x (.lst (cutV (ts.map Tk.v) lo hi))) y (.lst (cutV xs' lo2 hi2)) y = some (.lst zs) ∧ xs.length + zs.length ≤ sizeLine ∧ ∀ r, upd (upd H4 x (.lst (cutV (ts.map Tk.v) lo hi))) y (.lst (cutV xs' lo2 hi2)) r = none → Q (.ref r) (upd (upd (upd H4 x (.lst (cutV (ts.map Tk.v) lo hi))) y (.lst (cutV xs' lo2 hi2))) r (.lst (xs ++ zs))) := fun lo hi lo2 hi2 x hx => by
      have sx : Same H4 (upd H4 x (.lst (cutV (ts.map Tk.v) lo hi))) := same_upd hx
      refine ⟨_, .inl (.inl (sx _ _ hl4)), fun y hy => ?_⟩
      rw [cutV_map] at sx hy ⊢
      rw [cutV_map]
      have hxy : x ≠ y := fun z => by rw [← z, upd_same] at hy; cases hy
      refine cat_two (H4 := H4) (n := 0) (t1 := cutT ts lo hi) (t2 := cutT ts lo2 hi2) (by rw [upd_ne hxy, upd_same]) upd_same (by have := cl lo hi; omega) (by have := cl lo2 hi2; omega) fun r hr => ?_
      refine fin _ r _ (sx.trans (same_upd hy)) hr (fun t ht => ?_) ?_
      · rcases List.mem_append.mp ht with ht | ht
        · exact co _ _ t ht
        · exact co _ _ t ht
      · have h1 := cl lo hi
        have h2 := cl lo2 hi2
        rw [List.length_append]; omega
    walk_at "wq"
    refine ite2 (fun _ => ?_) (fun _ => ?_)
    · refine ⟨_, hL4, fun x hx => ?_⟩
      exact two _ _ _ _ x hx
    refine ite2 (fun _ => ?_) (fun _ => ?_)
    · refine ⟨_, hL4, fun x hx => ?_⟩
      exact two _ _ _ _ x hx
    have three : ∀ lo hi lo2 hi2 x, H4 x = none → (0 + 1 ≤ sizeLine ∧ ∀ y, upd H4 x (.lst (cutV (ts.map Tk.v) lo hi)) y = none → ∃ xs zs, upd (upd H4 x (.lst (cutV (ts.map Tk.v) lo hi))) y (.lst [ot.v]) x = some (.lst xs) ∧
        upd (upd H4 x (.lst (cutV (ts.map Tk.v) lo hi))) y (.lst [ot.v]) y = some (.lst zs) ∧ xs.length + zs.length ≤ sizeLine ∧ ∀ r, upd (upd H4 x (.lst (cutV (ts.map Tk.v) lo hi))) y (.lst [ot.v]) r = none → ∃ xs', SqL K (upd (upd (upd H4 x (.lst (cutV (ts.map Tk.v) lo hi))) y (.lst [ot.v])) r (.lst (xs ++ zs))) l xs' ∧
          ∀ u, upd (upd (upd H4 x (.lst (cutV (ts.map Tk.v) lo hi))) y (.lst [ot.v])) r (.lst (xs ++ zs)) u = none → ∃ ys ws, upd (upd (upd (upd H4 x (.lst (cutV (ts.map Tk.v) lo hi))) y (.lst [ot.v])) r (.lst (xs ++ zs))) u (.lst (cutV xs' lo2 hi2)) r = some (.lst ys) ∧
            upd (upd (upd (upd H4 x (.lst (cutV (ts.map Tk.v) lo hi))) y (.lst [ot.v])) r (.lst (xs ++ zs))) u (.lst (cutV xs' lo2 hi2)) u = some (.lst ws) ∧ ys.length + ws.length ≤ sizeLine ∧
              ∀ r2, upd (upd (upd (upd H4 x (.lst (cutV (ts.map Tk.v) lo hi))) y (.lst [ot.v])) r (.lst (xs ++ zs))) u (.lst (cutV xs' lo2 hi2)) r2 = none → Q (.ref r2) (upd (upd (upd (upd (upd H4 x (.lst (cutV (ts.map Tk.v) lo hi))) y (.lst [ot.v])) r (.lst (xs ++ zs))) u (.lst (cutV xs' lo2 hi2))) r2 (.lst (ys ++ ws)))) := fun lo hi lo2 hi2 x hx => by
      have sx : Same H4 (upd H4 x (.lst (cutV (ts.map Tk.v) lo hi))) := same_upd hx
      refine ⟨by decide, fun y hy => ?_⟩
      rw [cutV_map] at sx hy ⊢
      have hxy : x ≠ y := fun z => by rw [← z, upd_same] at hy; cases hy
      have sy := sx.trans (same_upd (o := .lst [ot.v]) hy)
      have c1 := cl lo hi
      have c2 := cl lo2 hi2
      refine ⟨(cutT ts lo hi).map Tk.v, [ot].map Tk.v, by rw [upd_ne hxy, upd_same], upd_same, ?_, fun r hr => ?_⟩
      · rw [List.length_map, List.length_map, List.length_singleton]
        exact Nat.le_trans (show (cutT ts lo hi).length + 1 ≤ 4000 by omega) (by decide)
      rw [← List.map_append]
      have sr := sy.trans (same_upd (o := .lst ((cutT ts lo hi ++ [ot]).map Tk.v)) hr)
      refine ⟨_, .inl (.inl (sr _ _ hl4)), fun u hu => ?_⟩
      rw [cutV_map]
      have hru : r ≠ u := fun z => by rw [← z, upd_same] at hu; cases hu
      refine cat_two (H4 := H4) (n := 0) (t1 := cutT ts lo hi ++ [ot]) (t2 := cutT ts lo2 hi2) (by rw [upd_ne hru, upd_same]) upd_same (by rw [List.length_append, List.length_singleton]; omega) (by omega) fun r2 hr2 => ?_
      refine fin _ r2 _ (sr.trans (same_upd hu)) hr2 (fun t ht => ?_) ?_
      · rcases List.mem_append.mp ht with ht | ht
        · rcases List.mem_append.mp ht with ht | ht
          · exact co _ _ t ht
          · rw [List.mem_singleton.mp ht]; exact hotk
        · exact co _ _ t ht
      · rw [List.length_append, List.length_append, List.length_singleton]; omega
    refine ite2 (fun _ => ?_) (fun _ => ?_)
    · refine ⟨_, hL4, fun x hx => ?_⟩
      exact three _ _ _ _ x hx
    refine ite2 (fun _ => ?_) (fun _ => ?_)
    · refine ⟨_, hL4, fun x hx => ?_⟩
      exact three _ _ _ _ x hx
    · refine ⟨_, hL4, fun x hx => ?_⟩
      rw [cutV_map]
      exact fin _ x _ (Same.refl _) hx (co _ _) (by have := cl none (some (at_ : Int)); omega)
end
end T85

namespace T85
open PySem PySem.Spec PyProof.Rows L2 TL CW
local macro_rules | `(tactic| walk_at "wp") => `(tactic| simp only [CW.Lat, CW.LatE, CW.w_seq, CW.w_lcL, CW.w_yes, List.map_cons, List.map_nil, CW.w_mkO, CW.w_revT, CW.w_rev, CW.w_m1, CW.w_cxK, CW.w_forT, CW.w_forL, CW.w_forR, CW.w_forE, CW.w_asg, CW.w_drop, CW.w_ret, CW.w_retN, CW.w_next, CW.w_never, CW.w_brk, CW.w_cont, CW.w_if, CW.w_ifE, CW.w_var0, CW.w_vars, CW.w_C, CW.w_op, CW.w_un, CW.w_nil, CW.w_cons, CW.w_tup, CW.w_lst, CW.w_call, CW.w_callS, CW.w_cb, CW.w_sl, CW.w_noPart, CW.w_part, CW.w_B, CW.w_test, CW.w_and, CW.w_or, CW.w_not, CW.w_notV, CW.w_andV, CW.w_orV, CW.w_name, CW.w_set0, CW.w_sets, CW.w_gtup, CW.w_gnil, CW.w_gcons, CW.w_gsub, CW.w_exb, CW.w_exi, CW.w_I0, CW.w_I, CW.w_U, CW.w_eqI, CW.w_eqS, CW.w_eqIS, CW.w_neI, CW.w_neS, CW.w_ixL, CW.w_ixT, CW.w_ixS, CW.w_slS, CW.w_slL, CW.w_setL, CW.w_cat, CW.w_rep, CW.w_mulS, CW.w_in, CW.w_bm, CW.w_bm0, CW.w_append, CW.w_pop, CW.w_exr, CW.w_isN, CW.w_notN, CW.w_addS, CW.w_inS, CW.w_notInS, CW.w_abs, CW.w_max2, CW.w_min2, CW.w_int1, CW.w_int1b, CW.w_strI, CW.w_str1, CW.w_str2, CW.w_lenQ, CW.w_lenS, CW.w_intS, CW.w_tupQ, CW.w_tru,
  List.append_nil, List.cons_append, List.nil_append, decide_eq_true_eq, List.length_cons, List.length_nil, Ends.nx, Ends.rt])
local macro_rules | `(tactic| walk_at "wq") => `(tactic| simp only [CW.Lat, CW.LatE, CW.w_seq, CW.w_lcL, CW.w_yes, List.map_cons, List.map_nil, CW.w_mkO, CW.w_revT, CW.w_rev, CW.w_m1, CW.w_cxK, CW.w_forT, CW.w_forL, CW.w_forR, CW.w_forE, CW.w_asg, CW.w_drop, CW.w_ret, CW.w_retN, CW.w_next, CW.w_never, CW.w_brk, CW.w_cont, CW.w_if, CW.w_ifE, CW.w_var0, CW.w_vars, CW.w_C, CW.w_op, CW.w_un, CW.w_nil, CW.w_cons, CW.w_tup, CW.w_lst, CW.w_call, CW.w_callS, CW.w_cb, CW.w_sl, CW.w_noPart, CW.w_part, CW.w_B, CW.w_test, CW.w_not, CW.w_notV, CW.w_andV, CW.w_orV, CW.w_name, CW.w_set0, CW.w_sets, CW.w_gtup, CW.w_gnil, CW.w_gcons, CW.w_gsub, CW.w_exb, CW.w_exi, CW.w_I0, CW.w_I, CW.w_U, CW.w_eqI, CW.w_eqS, CW.w_eqIS, CW.w_neI, CW.w_neS, CW.w_ixL, CW.w_ixT, CW.w_ixS, CW.w_slS, CW.w_slL, CW.w_setL, CW.w_cat, CW.w_rep, CW.w_mulS, CW.w_in, CW.w_bm, CW.w_bm0, CW.w_append, CW.w_pop, CW.w_exr, CW.w_isN, CW.w_notN, CW.w_addS, CW.w_inS, CW.w_notInS, CW.w_abs, CW.w_max2, CW.w_min2, CW.w_int1, CW.w_int1b, CW.w_strI, CW.w_str1, CW.w_str2, CW.w_lenQ, CW.w_lenS, CW.w_intS, CW.w_tupQ, CW.w_tru,
  List.append_nil, List.cons_append, List.nil_append, decide_eq_true_eq, List.length_cons, List.length_nil, Ends.nx, Ends.rt])
local macro_rules | `(tactic| walk_at "ws") => `(tactic| simp only [CW.w_lcL, CW.w_yes, List.map_cons, List.map_nil, CW.w_mkO, CW.w_revT, CW.w_rev, CW.w_m1, CW.w_cxK, CW.w_forT, CW.w_forL, CW.w_forR, CW.w_forE, CW.w_asg, CW.w_drop, CW.w_ret, CW.w_retN, CW.w_next, CW.w_never, CW.w_brk, CW.w_cont, CW.w_var0, CW.w_vars, CW.w_C, CW.w_op, CW.w_un, CW.w_nil, CW.w_cons, CW.w_tup, CW.w_lst, CW.w_call, CW.w_callS, CW.w_cb, CW.w_sl, CW.w_noPart, CW.w_part, CW.w_B, CW.w_test, CW.w_not, CW.w_notV, CW.w_andV, CW.w_orV, CW.w_name, CW.w_set0, CW.w_sets, CW.w_gtup, CW.w_gnil, CW.w_gcons, CW.w_gsub, CW.w_exb, CW.w_exi, CW.w_I0, CW.w_I, CW.w_U, CW.w_eqI, CW.w_eqS, CW.w_eqIS, CW.w_neI, CW.w_neS, CW.w_ixL, CW.w_ixT, CW.w_ixS, CW.w_slS, CW.w_slL, CW.w_setL, CW.w_cat, CW.w_rep, CW.w_mulS, CW.w_in, CW.w_bm, CW.w_bm0, CW.w_append, CW.w_pop, CW.w_exr, CW.w_isN, CW.w_notN, CW.w_addS, CW.w_inS, CW.w_notInS, CW.w_abs, CW.w_max2, CW.w_min2, CW.w_int1, CW.w_int1b, CW.w_strI, CW.w_str1, CW.w_str2, CW.w_lenQ, CW.w_lenS, CW.w_intS, CW.w_tupQ, CW.w_tru,
  List.append_nil, List.cons_append, List.nil_append, decide_eq_true_eq, List.length_cons, List.length_nil, Ends.nx, Ends.rt])
section
variable {P : Program} {w : World} {K : PySem.W.Frag} {mg : Str → Option Value} {base : Heap} {a : Ad}
def strictIts : List Tk → It
  | [] => []
  | t :: r => (0, t) :: r.map fun u => (1, u)
theorem strict_snoc (t : Tk) : ∀ ts : List Tk, strictIts (ts ++ [t]) = strictIts ts ++ [((if 0 < ts.length then 1 else 0), t)]
  | [] => rfl
  | u :: r => by
    show (0, u) :: (r ++ [t]).map (fun u => (1, u)) = ((0, u) :: r.map fun u => (1, u)) ++ _
    rw [List.map_append, if_pos (by simp)]
    rfl
theorem inKd (a k : Kd) : (!inV (.str "sign") [.str a.str, .str k.str]) = (a != .sign && k != .sign) := by cases a <;> cases k <;> decide +kernel
theorem neKd (a k : Kd) : (!PyData.eqv (.tuple [.str a.str, .str k.str]) (.tuple [.str "number", .str "name"])) = !(a == .num && k == .name) := by cases a <;> cases k <;> decide +kernel
theorem shKd (a k : Kd) : SeqAt.shaped (.tuple [.str a.str, .str k.str]) = true := by cases a <;> cases k <;> decide +kernel
theorem need_is (a k : Kd) : need a k = ((a != .sign && k != .sign) && !(a == .num && k == .name)) := by cases a <;> cases k <;> rfl
theorem str_tk {H : Hp} {Q : VK} {t : Tk} (h : t.Ok) (q : Q (.str t.str) H) : zStr [t.v] H Q := by
  cases t with
  | num n => exact .inl ⟨n, rfl, log2_small (Nat.lt_trans h (by decide +kernel)), q⟩
  | txt s => exact .inr ⟨s, rfl, q⟩
theorem blank_str : (V.str " ") = .str ⟨#[32]⟩ := congrArg V.str (ext_tl (by decide +kernel))
theorem mul_blank {H : Hp} {Q : VK} {g : Nat} (hg : g ≤ 1000) (q : Q (.str ⟨(List.replicate g 32).toArray⟩) H) : rMulS (.str " ") (.int g) H Q := by
  refine ⟨32, g, blank_str, rfl, by omega, by omega, ?_⟩
  rw [show ((g : Int)).toNat = g by omega]
  exact q
def sp_spelt (K : PySem.W.Frag) : Sp := fun vs H Q _ => ∃ (d dc l : Addr) (ts : List Tk) (b : Bool), vs = [.ref d, .ref l, .bl b] ∧ DrawAt H d dc ∧ H l = some (.lst (ts.map Tk.v)) ∧ l ≠ d ∧ (∀ t ∈ ts, t.Ok) ∧ ts.length ≤ 1000 ∧
  ∀ (z : Str) (q p : Addr) (xs : List V) (its : It) (g0 e : Nat) (H' : Hp), H' p = some (.tup [.str z, .ref q]) → H' q = some (.lst xs) → TokL K H' xs (toksOf g0 its) → its.map (·.2) = ts → tl z = List.replicate g0 32 ++ (codesOf its ++ List.replicate e 32) →
    gapsOk .sign its → z.length ≤ 60000 → (b = false → g0 = 0 ∧ e = 0 ∧ its = strictIts ts) → DrawAt H' d dc → But d H H' → q ≠ d → Q (.ref p) H'
theorem ok__law_spelt (T : Txt P K mg a) : FnOk P w K mg base CX0 3 a.f__law_spelt a.d__law_spelt ["d", "values", "is_loose"] (sp_spelt K) := by
  refine T.F__law_spelt.ok sc__law_spelt (fun vs H Q E h => ?_) (fun cdv A outer s H vs Q E hr h => ?_)
  · obtain ⟨d, dc, l, ts, b, rfl, _⟩ := h
    rfl
  · obtain ⟨d, dc, l, ts, b, rfl, hd, hl, hld, hok, hn, q⟩ := h
    have sz : ∀ n, n ≤ 100000 → n ≤ sizeLine := fun n h => Nat.le_trans h (by decide)
    refine ⟨_, (pss_cons (ps_set (i := 3) sc__law_spelt.nd rfl (Or.inl rfl) (pe_ifExp (pt_val (pv 2)) (pe_op op_mulS pe_str (pe_call (ok__law_draw T) (hr.mono (by decide)) (by rfl) T.g__law_draw T.F__law_draw.kp T.b__law_draw .nil pass0 (pa_cons (pv 0) (pa_cons pe_int pa_nil)))) pe_str))
    (pss_cons (ps_set (i := 4) sc__law_spelt.nd rfl (Or.inl rfl) (pe_lst pa_nil))
    (pss_cons (ps_set (i := 5) sc__law_spelt.nd rfl (Or.inl rfl) pe_str)
    (pss_cons (ps_for PassesOwn.never rfl (pi_enum (by rfl) T.n_enumerate (pa_cons (pv 1) pa_nil)) (pg_tup (by rfl) (pgs_cons (pg_name (i := 6) sc__law_spelt.nd rfl (Or.inl rfl)) (pgs_cons (pg_name (i := 7) sc__law_spelt.nd rfl (Or.inl rfl)) pgs_nil))) (pss_cons (ps_set (i := 8) sc__law_spelt.nd rfl (Or.inl rfl) (pe_call (ok__law_sort T) (hr.mono (by decide)) (by rfl) T.g__law_sort T.F__law_sort.kp T.b__law_sort .nil pass0 (pa_cons (pv 7) pa_nil)))
      (pss_cons (ps_set (i := 9) sc__law_spelt.nd rfl (Or.inl rfl) (pe_callTy c_int1 (by rfl) T.n_int (by decide +kernel) (pa_cons (pe_cmpR op_gt (pv 6) pe_int (nomark _)) pa_nil)))
      (pss_cons (ps_if (pt_val (pv 2)) (pss_cons (ps_set (i := 9) sc__law_spelt.nd rfl (Or.inl rfl) (pe_callTy c_int1 (by rfl) T.n_int (by decide +kernel) (pa_cons (pe_and (pe_cmpR op_notIn_seq pe_str (pe_tup (pa_cons (pv 5) (pa_cons (pv 8) pa_nil))) (by rfl)) (pe_one (pe_cmpR (op_neD hr.units) (pe_tup (pa_cons (pv 5) (pa_cons (pv 8) pa_nil))) (pe_tup (pa_cons pe_str (pa_cons pe_str pa_nil))) (nomark _)))) pa_nil)))
        (pss_one (ps_set (i := 9) sc__law_spelt.nd rfl (Or.inl rfl) (pe_op op_add (pv 9) (pe_ix ix_list (pe_lst (pa_cons pe_int (pa_cons pe_int (pa_cons pe_int (pa_cons pe_int (pa_cons pe_int pa_nil)))))) (pe_call (ok__law_draw T) (hr.mono (by decide)) (by rfl) T.g__law_draw T.F__law_draw.kp T.b__law_draw .nil pass0 (pa_cons (pv 0) (pa_cons pe_int pa_nil))) (fun _ _ => rfl)))))) pss_nil)
      (pss_cons (ps_set (i := 3) sc__law_spelt.nd rfl (Or.inl rfl) (pe_op o_addS (pv 3) (pe_op op_mulS pe_str (pv 9))))
      (pss_cons (ps_expr (pe_bm PySem.F.plainAttrs_list PySem.F.slot_list_append PySem.F.type_list_append mt_append (pv 4) (pa_cons (pe_tup (pa_cons (pv 8) (pa_cons (pv 7) (pa_cons (pe_op op_add (pe_callB c_lenS (by rfl) T.n_len PySem.boot_len (pa_cons (pv 3) pa_nil)) pe_int) pa_nil)))) pa_nil)))
      (pss_cons (ps_set (i := 3) sc__law_spelt.nd rfl (Or.inl rfl) (pe_op o_addS (pv 3) (pe_callTy c_str (by rfl) T.n_str (by decide +kernel) (pa_cons (pv 7) pa_nil))))
      (pss_one (ps_set (i := 5) sc__law_spelt.nd rfl (Or.inl rfl) (pv 8))))))))))
    (pss_one (ps_ret (pe_tup (pa_cons (pe_op o_addS (pv 3) (pe_op op_mulS pe_str (pe_ifExp (pt_val (pv 2)) (pe_call (ok__law_draw T) (hr.mono (by decide)) (by rfl) T.g__law_draw T.F__law_draw.kp T.b__law_draw .nil pass0 (pa_cons (pv 0) (pa_cons pe_int pa_nil))) pe_int))) (pa_cons (pv 4) pa_nil))))))))), ?_⟩
    show tSeq _ _ _ [some (.ref d), some (.ref l), some (.bl b), none, none, none, none, none, none, none] H
    refine seq_gen (fun σ' H' => (∃ (z : Str) (g0 : Nat), σ' = [some (.ref d), some (.ref l), some (.bl b), some (.str z), none, none, none, none, none, none] ∧ tl z = List.replicate g0 32 ∧ g0 ≤ 2 ∧ (b = false → g0 = 0)) ∧ DrawAt H' d dc ∧ But d H H') (fun R hR => ?_) ?_
    · walk_at "wq"
      cases b with
      | true =>
        refine iteT (drawn hd 3 (by decide) (by decide) fun g H1 hg hd1 b1 => mul_blank (by omega) ?_)
        exact hR _ _ ⟨⟨_, g, rfl, rfl, by omega, fun z => Bool.noConfusion z⟩, hd1, b1⟩
      | false => exact iteF (hR _ _ ⟨⟨_, 0, rfl, by decide +kernel, by decide, fun _ => rfl⟩, hd, .of (Same.refl _)⟩)
    rintro σ' H1 ⟨⟨z0, g0, rfl, hz0, hg0, hb0⟩, hd1, b1⟩
    refine seq_gen (fun σ' H' => (∃ q : Addr, σ' = [some (.ref d), some (.ref l), some (.bl b), some (.str z0), some (.ref q), none, none, none, none, none] ∧ H' q = some (.lst []) ∧ H q = none ∧ q ≠ d ∧ q ≠ dc) ∧ DrawAt H' d dc ∧ But d H H') (fun R hR => ?_) ?_
    · walk_at "wq"
      refine ⟨Nat.zero_le _, fun q hq => hR _ _ ⟨⟨q, rfl, upd_same, ?_, hd1.new hq⟩, hd1.same (same_upd hq), b1.trans (.of (same_upd hq))⟩⟩
      cases e : H q with
      | none => rfl
      | some o =>
        have := b1 _ _ (hd1.new hq).1 e
        rw [hq] at this; cases this
    rintro σ' H2 ⟨⟨q1, rfl, hq2, hqH, hqd, hqc⟩, hd2, b2⟩
    refine seq_gen (fun σ' H' => σ' = [some (.ref d), some (.ref l), some (.bl b), some (.str z0), some (.ref q1), some (.str "sign"), none, none, none, none] ∧ H' = H2) (fun R hR => ?_) ?_
    · walk_at "wq"
      exact hR _ _ ⟨rfl, rfl⟩
    rintro σ' H2 ⟨rfl, rfl⟩
    clear hd1 b1
    refine seq_gen (fun σ' H' => ∃ (z : Str) (xs : List V) (its : It) (o5 o6 o7 o8 o9 : Option V), σ' = [some (.ref d), some (.ref l), some (.bl b), some (.str z), some (.ref q1), o5, o6, o7, o8, o9] ∧ DrawAt H' d dc ∧ But d H H' ∧ H' q1 = some (.lst xs) ∧
        TokL K H' xs (toksOf g0 its) ∧ its.map (·.2) = ts ∧ tl z = List.replicate g0 32 ++ codesOf its ∧ gapsOk .sign its ∧ z.length ≤ 2 + 50 * ts.length ∧ (b = false → its = strictIts ts)) (fun R hR => ?_) ?_
    · walk_at "ws"
      refine in_enum (xs := ts.map Tk.v) (fun i σ H' => ∃ (z : Str) (xs : List V) (its : It) (o6 o7 o8 o9 : Option V), σ = [some (.ref d), some (.ref l), some (.bl b), some (.str z), some (.ref q1), some (.str (lastKd .sign its).str), o6, o7, o8, o9] ∧ DrawAt H' d dc ∧ But d H H' ∧ H' q1 = some (.lst xs) ∧
          TokL K H' xs (toksOf g0 its) ∧ its.map (·.2) = ts.take i ∧ tl z = List.replicate g0 32 ++ codesOf its ∧ gapsOk .sign its ∧ z.length ≤ 2 + 50 * i ∧ (b = false → its = strictIts (ts.take i)))
        ⟨z0, [], [], none, none, none, none, rfl, hd2, b2, hq2, trivial, rfl, by rw [hz0]; simp [codesOf], trivial, by rw [len_tl, hz0, List.length_replicate]; omega, fun _ => rfl⟩
        (fun i σ H' _ h => ?_) (fun i x σ H' Tp hx h hTp => ?_) fun σ H' h => ?_
      · obtain ⟨z, xs, its, o6, o7, o8, o9, rfl, hd', b', _⟩ := h
        exact .inl (.inl (b' _ _ hld hl))
      · obtain ⟨z, xs, its, o6, o7, o8, o9, rfl, hd', b', hq, hT, hits, hz, hgap, hzl, hst⟩ := h
        obtain ⟨t, ht, rfl⟩ : ∃ t, ts[i]? = some t ∧ x = t.v := by
          rw [List.getElem?_map] at hx
          cases e : ts[i]? with
          | none => rw [e] at hx; cases hx
          | some t => rw [e] at hx; exact ⟨t, rfl, (Option.some.inj hx).symm⟩
        have hi : i < ts.length := (List.getElem?_eq_some_iff.mp ht).1
        have hokt := hok t (List.mem_of_getElem? ht)
        have sT : Same H' (upd H' Tp (.tup [.int i, t.v])) := same_upd hTp
        have kT := tkeep_same (K := K) sT
        have hd3 := hd'.same sT
        have b3 := b'.trans (.of sT)
        have hq3 := sT _ _ hq
        have hT3 := hT.keep kT
        have hpt : SqT K (upd H' Tp (.tup [.int i, t.v])) Tp [.int i, t.v] := .inl (.inl upd_same)
        clear hq hT hd' b'
        generalize upd H' Tp (.tup [.int i, t.v]) = H3 at sT kT hd3 b3 hq3 hT3 hpt
        clear hTp sT kT
        walk_at "ws"
        refine ⟨_, hpt, rfl, ?_⟩
        walk_at "ws"
        refine seq_gen (fun σ' H4 => σ' = [some (.ref d), some (.ref l), some (.bl b), some (.str z), some (.ref q1), some (.str (lastKd .sign its).str), some (.int i), some t.v, some (.str t.kd.str), o9] ∧ H4 = H3) (fun R hR => ?_) ?_
        · walk_at "wq"
          exact ⟨t, hokt, rfl, hR _ _ ⟨rfl, rfl⟩⟩
        rintro σ' H3 ⟨rfl, rfl⟩
        refine seq_gen (fun σ' H4 => σ' = [some (.ref d), some (.ref l), some (.bl b), some (.str z), some (.ref q1), some (.str (lastKd .sign its).str), some (.int i), some t.v, some (.str t.kd.str), some (.int ((if 0 < i then 1 else 0 : Nat) : Int))] ∧ H4 = H3) (fun R hR => ?_) ?_
        · walk_at "wq"
          refine hR _ _ ⟨?_, rfl⟩
          by_cases h0 : 0 < i
          · rw [if_pos (by omega), if_pos h0]; rfl
          · rw [if_neg (by omega), if_neg h0]; rfl
        rintro σ' H3 ⟨rfl, rfl⟩
        refine seq_gen (fun σ' H4 => ∃ g : Nat, σ' = [some (.ref d), some (.ref l), some (.bl b), some (.str z), some (.ref q1), some (.str (lastKd .sign its).str), some (.int i), some t.v, some (.str t.kd.str), some (.int g)] ∧ g ≤ 3 ∧ (need (lastKd .sign its) t.kd = true → 1 ≤ g) ∧ (b = false → g = if 0 < i then 1 else 0) ∧
          DrawAt H4 d dc ∧ But d H3 H4) (fun R hR => ?_) ?_
        · walk_at "wq"
          cases b with
          | false =>
            refine iteF (hR _ _ ⟨_, rfl, ?_, ?_, fun _ => rfl, hd3, .of (Same.refl _)⟩)
            · by_cases h0 : 0 < i
              · rw [if_pos h0]; decide
              · rw [if_neg h0]; decide
            · intro hne
              by_cases h0 : 0 < i
              · rw [if_pos h0]; exact Nat.le_refl _
              · have hi0 : i = 0 := by omega
                subst hi0
                have : its = [] := by rw [List.take_zero] at hits; exact List.map_eq_nil_iff.mp hits
                subst this
                cases t.kd <;> cases hne
          | true =>
            refine iteT ⟨by decide, fun p1 hp1 => ⟨_, .inr (.inl (.inl upd_same)), rfl, rfl, ?_⟩⟩
            have s1 : Same H3 (upd H3 p1 (.tup [.str (lastKd .sign its).str, .str t.kd.str])) := same_upd hp1
            rw [if_pos trivial, inKd]
            have tail : ∀ (c : Bool) (H4 : Hp), Same H3 H4 → c = need (lastKd .sign its) t.kd → (0 + 1 + 1 + 1 + 1 + 1 ≤ sizeLine ∧ ∀ p, H4 p = none → sp_draw [.ref d, .int 5] (upd H4 p (.lst [.int 0, .int 0, .int 0, .int 1, .int 2])) (fun y H2 => rIxL K (.ref p) y H2 fun y H2 => rI0 (fun i j => .int (i + j)) (.int (if c = true then 1 else 0)) y H2 fun x H1 =>
                R [some (.ref d), some (.ref l), some (.bl true), some (.str z), some (.ref q1), some (.str (lastKd .sign its).str), some (.int i), some t.v, some (.str t.kd.str), some x] H1) E0) := fun c H4 hS hc => by
              refine ⟨by decide, fun p hp => drawn ((hd3.same hS).same (same_upd hp)) 5 (by decide) (by decide) fun j H5 hj hd5 b5 => ?_⟩
              have hp5 := but_lst (hd3.same hS) hp b5
              have key : ∀ k : Nat, k ≤ 2 → R [some (.ref d), some (.ref l), some (.bl true), some (.str z), some (.ref q1), some (.str (lastKd .sign its).str), some (.int i), some t.v, some (.str t.kd.str), some (.int ((if c = true then 1 else 0) + (k : Int)))] H5 := fun k hk => by
                refine hR _ _ ⟨(if c = true then 1 else 0) + k, ?_, ?_, ?_, fun z => Bool.noConfusion z, hd5, (But.of (hS.trans (same_upd hp))).trans b5⟩
                · by_cases hcc : c = true
                  · rw [if_pos hcc, if_pos hcc, Int.natCast_add]; rfl
                  · rw [if_neg hcc, if_neg hcc, Int.natCast_add]; rfl
                · by_cases hcc : c = true
                  · rw [if_pos hcc]; omega
                  · rw [if_neg hcc]; omega
                · intro hne
                  rw [← hc] at hne
                  rw [if_pos hne]; omega
              walk_at "wq"
              refine ⟨_, .inl (.inl hp5), ?_⟩
              rcases (show j = 0 ∨ j = 1 ∨ j = 2 ∨ j = 3 ∨ j = 4 by omega) with rfl | rfl | rfl | rfl | rfl
              · exact ⟨_, rfl, _, _, rfl, rfl, key 0 (by decide)⟩
              · exact ⟨_, rfl, _, _, rfl, rfl, key 0 (by decide)⟩
              · exact ⟨_, rfl, _, _, rfl, rfl, key 0 (by decide)⟩
              · exact ⟨_, rfl, _, _, rfl, rfl, key 1 (by decide)⟩
              · exact ⟨_, rfl, _, _, rfl, rfl, key 2 (by decide)⟩
            refine iteT_or (fun h1 => ⟨by decide, fun p2 hp2 => ⟨by decide, fun p3 hp3 => ?_⟩⟩) (fun h1 => tail false _ s1 ?_)
            · have n23 : p2 ≠ p3 := fun z => by rw [← z, upd_same] at hp3; cases hp3
              refine ⟨.tuple [.str (lastKd .sign its).str, .str t.kd.str], .tuple [.str "number", .str "name"], .tup (.inl (.inl (by rw [upd_ne n23]; exact upd_same))) (.cons (.str _) (.cons (.str _) .nil)),
                .tup (.inl (.inl upd_same)) (.cons (.str _) (.cons (.str _) .nil)), shKd _ _, shKd .num .name, ?_⟩
              rw [neKd]
              walk_at "wq"
              refine tail _ _ ((s1.trans (same_upd hp2)).trans (same_upd hp3)) ?_
              rw [need_is, h1]
              rfl
            · rw [Bool.not_eq_true] at h1
              rw [need_is, h1]
              rfl
        rintro σ' H4 ⟨g, rfl, hg3, hgn, hgs, hd4, b4⟩
        have hq4 := b4 _ _ hqd hq3
        have kT4 : TKeep K H3 H4 := by
          obtain ⟨ds, e⟩ := hd3.lst
          exact tkeep_but e b4
        have hT4 := hT3.keep kT4
        have b04 := b3.trans b4
        clear hq3 hT3 b3 b4 kT4
        have hzg : (⟨(List.replicate g 32).toArray⟩ : Str).length = g := by rw [len_tl]; simp [tl]
        have hts40 : t.str.length ≤ 40 := by
          obtain ⟨_, _, _, _, h40, _⟩ := hokt.shape
          rw [len_tl]; exact h40
        have hzl2 : z.length = g0 + (codesOf its).length := by rw [len_tl, hz, List.length_append, List.length_replicate]
        have hxl : xs.length < sizeLine := by
          have h1 : xs.length = its.length := by
            rw [hT4.len]
            have := congrArg List.length (toksOf_fst its g0)
            simpa using this
          have h2 := congrArg List.length hits
          rw [List.length_map, List.length_take] at h2
          rw [h1]
          exact Nat.lt_of_le_of_lt (show its.length ≤ 1000 by omega) (by decide)
        walk_at "wq"
        refine mul_blank (by omega) ?_
        walk_at "wq"
        have hcol : (((z ++ (⟨(List.replicate g 32).toArray⟩ : Str)).length : Int) + 1) = ((g0 + (codesOf its).length + g + 1 : Nat) : Int) := by
          rw [app_len, hzg, hzl2]; omega
        rw [hcol]
        refine ⟨by rw [hzg]; exact sz _ (by omega), ty_list hq4, by rw [app_len, hzg]; exact sz _ (by omega), by decide, fun p hp => ⟨xs, ?_, hxl, ?_⟩⟩
        · rw [upd_ne (fun z => by rw [← z, hq4] at hp; cases hp)]; exact hq4
        · obtain ⟨_, b2', b3'⟩ := tok_step (K := K) (H := fun _ => none) (t := (t, g0 + (codesOf its).length + g + 1)) (o1 := .str t.kd.str) (o2 := t.v) (fun b o h => nomatch h) rfl hq4 hT4 hp rfl rfl
          have sp := same_upd (o := .tup [.str t.kd.str, t.v, .int ((g0 + (codesOf its).length + g + 1 : Nat) : Int)]) hp
          have htake : ts.take (i + 1) = ts.take i ++ [t] := by rw [List.take_add_one, ht]; rfl
          refine str_tk hokt ⟨_, _, rfl, rfl, by rw [app_len, hzg]; exact sz _ (by omega), _, xs ++ [.ref p], its ++ [(g, t)], _, _, _, _, by rw [lastKd_append], (hd4.same sp).put hqd hqc, (b04.trans (.of sp)).put hqH, b2', ?_, ?_, ?_, ?_, ?_, fun hb => ?_⟩
          · rw [toksOf_append]
            exact b3'
          · rw [List.map_append, hits, htake]
            rfl
          · rw [tl_append, tl_append, hz, codesOf_append]
            show (_ ++ List.replicate g 32) ++ t.tl = List.replicate g0 32 ++ (codesOf its ++ (List.replicate g 32 ++ (t.tl ++ [])))
            simp only [List.append_assoc, List.append_nil]
          · rw [gapsOk_append]
            exact ⟨hgap, hgn, trivial⟩
          · rw [app_len, app_len, hzg]; omega
          · rw [htake, strict_snoc, hst hb, hgs hb, List.length_take]
            rw [show min i ts.length = i by omega]
      · obtain ⟨z, xs, its, o6, o7, o8, o9, rfl, hd', b', hq, hT, hits, hz, hgap, hzl, hst⟩ := h
        rw [List.length_map, List.take_length] at hits hst
        rw [List.length_map] at hzl
        exact hR _ _ ⟨z, xs, its, _, o6, o7, o8, o9, rfl, hd', b', hq, hT, hits, hz, hgap, hzl, hst⟩
    rintro σ' H3 ⟨z, xs, its, o5, o6, o7, o8, o9, rfl, hd3, b3, hq3, hT3, hits, hz, hgap, hzl, hst⟩
    have done : ∀ (e : Nat) (H4 : Hp), e ≤ 2 → (b = false → e = 0) → DrawAt H4 d dc → But d H3 H4 → rMulS (.str " ") (.int e) H4 fun y H2 => zAddS (.str z) y H2 fun x H1 => 0 + 1 + 1 ≤ sizeLine ∧ ∀ p, H1 p = none → Q (.ref p) (upd H1 p (.tup [x, .ref q1])) := fun e H4 he hbe hd4 b4 => by
      have hze : (⟨(List.replicate e 32).toArray⟩ : Str).length = e := by rw [len_tl]; simp [tl]
      refine mul_blank (by omega) ⟨z, _, rfl, rfl, by rw [hze]; exact sz _ (by omega), by decide, fun p hp => ?_⟩
      have hq4 := b4 _ _ hqd hq3
      have sp := same_upd (o := .tup [.str (z ++ ⟨(List.replicate e 32).toArray⟩), .ref q1]) hp
      have kT4 : TKeep K H3 H4 := by
        obtain ⟨ds, e⟩ := hd3.lst
        exact tkeep_but e b4
      refine q _ q1 p xs its g0 e _ upd_same (sp _ _ hq4) ((hT3.keep kT4).keep (tkeep_same sp)) hits ?_ hgap ?_ (fun hb => ⟨hb0 hb, hbe hb, hst hb⟩) (hd4.same sp) ((b3.trans b4).trans (.of sp)) hqd
      · rw [tl_append, hz, List.append_assoc]
      · rw [app_len, hze]; omega
    walk_at "wq"
    cases b with
    | true => exact iteT (drawn hd3 3 (by decide) (by decide) fun e H4 he hd4 b4 => done e H4 (by omega) (fun z => Bool.noConfusion z) hd4 b4)
    | false => exact iteF (done 0 H3 (by decide) (fun _ => rfl) hd3 (.of (Same.refl _)))
end
end T85

namespace T85
open PySem PySem.Spec PyProof.Rows L2 TL CW
local macro_rules | `(tactic| walk_at "wp") => `(tactic| simp only [CW.Lat, CW.LatE, CW.w_seq, CW.w_lcL, CW.w_yes, List.map_cons, List.map_nil, CW.w_mkO, CW.w_revT, CW.w_rev, CW.w_m1, CW.w_cxK, CW.w_forT, CW.w_forL, CW.w_forR, CW.w_forE, CW.w_asg, CW.w_drop, CW.w_ret, CW.w_retN, CW.w_next, CW.w_never, CW.w_brk, CW.w_cont, CW.w_if, CW.w_ifE, CW.w_var0, CW.w_vars, CW.w_C, CW.w_op, CW.w_un, CW.w_nil, CW.w_cons, CW.w_tup, CW.w_lst, CW.w_call, CW.w_callS, CW.w_cb, CW.w_sl, CW.w_noPart, CW.w_part, CW.w_B, CW.w_test, CW.w_and, CW.w_or, CW.w_not, CW.w_notV, CW.w_andV, CW.w_orV, CW.w_name, CW.w_set0, CW.w_sets, CW.w_gtup, CW.w_gnil, CW.w_gcons, CW.w_gsub, CW.w_exb, CW.w_exi, CW.w_I0, CW.w_I, CW.w_U, CW.w_eqI, CW.w_eqS, CW.w_eqIS, CW.w_neI, CW.w_neS, CW.w_ixL, CW.w_ixT, CW.w_ixS, CW.w_slS, CW.w_slL, CW.w_setL, CW.w_cat, CW.w_rep, CW.w_mulS, CW.w_in, CW.w_bm, CW.w_bm0, CW.w_append, CW.w_pop, CW.w_exr, CW.w_isN, CW.w_notN, CW.w_addS, CW.w_inS, CW.w_notInS, CW.w_abs, CW.w_max2, CW.w_min2, CW.w_int1, CW.w_int1b, CW.w_strI, CW.w_str1, CW.w_str2, CW.w_lenQ, CW.w_lenS, CW.w_intS, CW.w_tupQ, CW.w_tru,
  List.append_nil, List.cons_append, List.nil_append, decide_eq_true_eq, List.length_cons, List.length_nil, Ends.nx, Ends.rt])
local macro_rules | `(tactic| walk_at "wq") => `(tactic| simp only [CW.Lat, CW.LatE, CW.w_seq, CW.w_lcL, CW.w_yes, List.map_cons, List.map_nil, CW.w_mkO, CW.w_revT, CW.w_rev, CW.w_m1, CW.w_cxK, CW.w_forT, CW.w_forL, CW.w_forR, CW.w_forE, CW.w_asg, CW.w_drop, CW.w_ret, CW.w_retN, CW.w_next, CW.w_never, CW.w_brk, CW.w_cont, CW.w_if, CW.w_ifE, CW.w_var0, CW.w_vars, CW.w_C, CW.w_op, CW.w_un, CW.w_nil, CW.w_cons, CW.w_tup, CW.w_lst, CW.w_call, CW.w_callS, CW.w_cb, CW.w_sl, CW.w_noPart, CW.w_part, CW.w_B, CW.w_test, CW.w_not, CW.w_notV, CW.w_andV, CW.w_orV, CW.w_name, CW.w_set0, CW.w_sets, CW.w_gtup, CW.w_gnil, CW.w_gcons, CW.w_gsub, CW.w_exb, CW.w_exi, CW.w_I0, CW.w_I, CW.w_U, CW.w_eqI, CW.w_eqS, CW.w_eqIS, CW.w_neI, CW.w_neS, CW.w_ixL, CW.w_ixT, CW.w_ixS, CW.w_slS, CW.w_slL, CW.w_setL, CW.w_cat, CW.w_rep, CW.w_mulS, CW.w_in, CW.w_bm, CW.w_bm0, CW.w_append, CW.w_pop, CW.w_exr, CW.w_isN, CW.w_notN, CW.w_addS, CW.w_inS, CW.w_notInS, CW.w_abs, CW.w_max2, CW.w_min2, CW.w_int1, CW.w_int1b, CW.w_strI, CW.w_str1, CW.w_str2, CW.w_lenQ, CW.w_lenS, CW.w_intS, CW.w_tupQ, CW.w_tru,
  List.append_nil, List.cons_append, List.nil_append, decide_eq_true_eq, List.length_cons, List.length_nil, Ends.nx, Ends.rt])
local macro_rules | `(tactic| walk_at "ws") => `(tactic| simp only [CW.w_lcL, CW.w_yes, List.map_cons, List.map_nil, CW.w_mkO, CW.w_revT, CW.w_rev, CW.w_m1, CW.w_cxK, CW.w_forT, CW.w_forL, CW.w_forR, CW.w_forE, CW.w_asg, CW.w_drop, CW.w_ret, CW.w_retN, CW.w_next, CW.w_never, CW.w_brk, CW.w_cont, CW.w_var0, CW.w_vars, CW.w_C, CW.w_op, CW.w_un, CW.w_nil, CW.w_cons, CW.w_tup, CW.w_lst, CW.w_call, CW.w_callS, CW.w_cb, CW.w_sl, CW.w_noPart, CW.w_part, CW.w_B, CW.w_test, CW.w_not, CW.w_notV, CW.w_andV, CW.w_orV, CW.w_name, CW.w_set0, CW.w_sets, CW.w_gtup, CW.w_gnil, CW.w_gcons, CW.w_gsub, CW.w_exb, CW.w_exi, CW.w_I0, CW.w_I, CW.w_U, CW.w_eqI, CW.w_eqS, CW.w_eqIS, CW.w_neI, CW.w_neS, CW.w_ixL, CW.w_ixT, CW.w_ixS, CW.w_slS, CW.w_slL, CW.w_setL, CW.w_cat, CW.w_rep, CW.w_mulS, CW.w_in, CW.w_bm, CW.w_bm0, CW.w_append, CW.w_pop, CW.w_exr, CW.w_isN, CW.w_notN, CW.w_addS, CW.w_inS, CW.w_notInS, CW.w_abs, CW.w_max2, CW.w_min2, CW.w_int1, CW.w_int1b, CW.w_strI, CW.w_str1, CW.w_str2, CW.w_lenQ, CW.w_lenS, CW.w_intS, CW.w_tupQ, CW.w_tru,
  List.append_nil, List.cons_append, List.nil_append, decide_eq_true_eq, List.length_cons, List.length_nil, Ends.nx, Ends.rt])
section
variable {P : Program} {w : World} {K : PySem.W.Frag} {mg : Str → Option Value} {base : Heap} {a : Ad}
def rIsEc (K : PySem.W.Frag) (D b : Addr) (cls : Value) (d : Option Addr) : List V → Hp → VK → Prop := fun xs H Q => cls = .ref D ∧ rIsET K D b d xs H Q
theorem call_isEc {X : Cx} {b D : Addr} {cls : Value} {d : Option Addr} {oe : Obj} {pn : List (Addr × Obj)} (C : EcC X.K D) (hz : Zc cls d oe) (hf : ∃ vs, oe.data = .fields vs) :
    CallR (X.suite b ((b, oe) :: pn)) (.builtin "isinstance") (rIsEc X.K D b cls d) := by
  intro pins s σ H xs us Q I r h
  obtain ⟨e, h⟩ := h
  subst e
  exact call_isET C hz hf pins s σ H xs us Q I r h
def tb__law_reads_so (K : PySem.W.Frag) (a : Ad) : WX → TS := fun W => tAsg (tCallS (sp_read_thing K a.C_TextFault) (WE W) (tCons (tVar 0) (tCons (tVar 1) tNil))) (gName 4)
def ts__law_reads_so (K : PySem.W.Frag) (a : Ad) : Addr → Value → Option Addr → TS := fun b cls d =>
  tSeq (tIfS (tOr (tTest (tOp zIsN (tVar 3) (tC .non))) (tOr (tTest (tOp rNe (tCB (rRepr K) (tCons (tVar 0) tNil)) (tVar 2)))
      (tB (tCB (rIsEc K a.C_TextFault b cls d) (tCons (tVar 5) (tCons (tTup (tCons (tC (.ref a.C_DeskFault)) (tCons (tC (.ref a.C_DossierFault)) (tCons (tC (.ref a.C_NotOfKind)) tNil)))) tNil)))))) (tRet (tC (.bl false))) tNext)
    (tRet (tOp rEq (tCB (rRepr K) (tCons (tTup (tCons (tXf b cls d a.C_TextFault "row" (tVar 5)) (tCons (tXf b cls d a.C_TextFault "column" (tVar 5)) (tCons (tXf b cls d a.C_TextFault "reason" (tVar 5)) tNil)))) tNil))
      (tCB (rRepr K) (tCons (tOp (rCatT K) (tTup (tCons (tVar 1) tNil)) (tVar 3)) tNil))))
theorem tok_dp {H : Hp} : ∀ {xs : List V} {ts : List (Tk × Nat)}, TokL K H xs ts → (∀ t ∈ ts, t.1.Ok) → DpAll K H xs (ts.map fun t => .tuple [.str t.1.kd.str, t.1.d, .int t.2])
  | [], [], _, _ => .nil
  | x :: xs, t :: ts, h, ho => by
    obtain ⟨p, rfl, hp⟩ := h.1
    exact .cons (.tup hp (.cons (.str _) (.cons (t.1.td (ho t List.mem_cons_self)).dp (.cons (.int _) .nil)))) (tok_dp h.2 fun u hu => ho u (List.mem_cons_of_mem _ hu))
  | [], _ :: _, h, _ => h.elim
  | _ :: _, [], h, _ => h.elim
theorem row_repr {H : Hp} {Q : VK} {l : Addr} {xs : List V} {ts : List (Tk × Nat)} (hl : H l = some (.lst xs)) (hT : TokL K H xs ts) (hok : ∀ t ∈ ts, t.1.Ok ∧ t.2 < 10 ^ 15) (hn : ts.length ≤ 350) (q : Q (.str (rowD ts).shown) H) : rRepr K [.ref l] H Q := by
  obtain ⟨a1, a2, a3, a4⟩ := row_ok hok hn
  exact ⟨.ref l, rowD ts, rfl, .lst (.inl (.inl hl)) (tok_dp hT fun t ht => (hok t ht).1), a1, a2, a3, a4, q⟩
theorem told_repr {H : Hp} {Q : VK} {p : Addr} {row c : Nat} {r : Str} (hp : SqT K H p [.int row, .int c, .str r]) (hr : row < 10 ^ 20) (hc : c < 10 ^ 15 + 1) (hs : r = "end" ∨ r = "deep" ∨ r = "thing") (q : Q (.str (PyData.tuple [.int row, .int c, .str r]).shown) H) : rRepr K [.ref p] H Q := by
  obtain ⟨a1, a2, a3, a4⟩ := told_ok hr hc hs
  exact ⟨.ref p, _, rfl, .tup hp (.cons (.int _) (.cons (.int _) (.cons (.str _) .nil))), a1, a2, a3, a4, q⟩
theorem lk_rea {x y z : V} : List.lookup ("reason" : Str) [(("reason" : Str), x), (("column" : Str), y), (("row" : Str), z)] = some x := by
  have e1 : (("reason" : Str) == "reason") = true := by decide +kernel
  rw [List.lookup_cons, e1]
theorem lk_col {x y z : V} : List.lookup ("column" : Str) [(("reason" : Str), x), (("column" : Str), y), (("row" : Str), z)] = some y := by
  have e1 : (("column" : Str) == "reason") = false := by decide +kernel
  have e2 : (("column" : Str) == "column") = true := by decide +kernel
  rw [List.lookup_cons, e1]
  show List.lookup ("column" : Str) [(("column" : Str), y), (("row" : Str), z)] = some y
  rw [List.lookup_cons, e2]
theorem lk_row {x y z : V} : List.lookup ("row" : Str) [(("reason" : Str), x), (("column" : Str), y), (("row" : Str), z)] = some z := by
  have e1 : (("row" : Str) == "reason") = false := by decide +kernel
  have e2 : (("row" : Str) == "column") = false := by decide +kernel
  have e3 : (("row" : Str) == "row") = true := by decide +kernel
  rw [List.lookup_cons, e1]
  show List.lookup ("row" : Str) [(("column" : Str), y), (("row" : Str), z)] = some z
  rw [List.lookup_cons, e2]
  show List.lookup ("row" : Str) [(("row" : Str), z)] = some z
  rw [List.lookup_cons, e3]
def sp_reads_so (K : PySem.W.Frag) : Sp := fun vs H Q _ => ∃ (l : Addr) (row : Nat) (xs : List V) (ts : List (Tk × Nat)), vs = [.ref l, .int row] ∧ row < 10 ^ 20 ∧ H l = some (.lst xs) ∧ TokL K H xs ts ∧ (∀ t ∈ ts, t.1.Ok ∧ t.2 < 10 ^ 15) ∧ ts.length ≤ 350 ∧ ∀ H', Same H H' → Q (.bl true) H'
theorem ok__law_reads_so (T : Txt P K mg a) : OkG P w K mg base CX0 4 a.f__law_reads_so a.d__law_reads_so ["tokens", "row"] (sp_reads_so K) := by
  refine okG_of T.F__law_reads_so sc__law_reads_so (fun vs H Q E h => ?_) (fun cdv A outer s H vs Q E hgu hr h => ?_)
  · obtain ⟨l, row, xs, ts, rfl, _⟩ := h
    rfl
  · obtain ⟨l, row, xs, ts, rfl, hrow, hl, hT, hok, hn, q⟩ := h
    refine ⟨_, (pss_cons (ps_set (i := 2) sc__law_reads_so.nd rfl (Or.inl rfl) (pe_callB (call_repr hgu hr.units) (by rfl) T.n_repr (by decide +kernel) (pa_cons (pv 0) pa_nil)))
    (pss_cons (ps_set (i := 3) sc__law_reads_so.nd rfl (Or.inl rfl) (pe_call (ok__law_fault T) (hr.mono (by decide)) (by rfl) T.g__law_fault T.F__law_fault.kp T.b__law_fault .nil pass0 (pa_cons (pv 0) pa_nil)))
    (pss_cons (ps_try_as (i := 5) (tb := tb__law_reads_so K a) (ts := ts__law_reads_so K a) (Wout := fun _ _ _ _ => False) rfl rfl sc__law_reads_so.nd rfl rfl ⟨rfl, by decide, Or.inl T.g_TextFault⟩ takes0
      (fun W pn xe tk _ => (pss_one (ps_set (i := 4) sc__law_reads_so.nd rfl (Or.inl rfl) (by exact (pe_callS (ok_read_thing T) (hr.mono (by decide)) (by rfl) T.g_read_thing T.F_read_thing.kp T.b_read_thing (fun σ => passAt tk σ) (by exact (pa_cons (pv 0) (pa_cons (pv 1) pa_nil))))))))
      (fun ea oe cls d pn hz hf => (pss_cons (ps_if (PW.pt (pw_or (pt_cmpR o_isN (pv 3) pe_non (nomark _)) (pw_or (pt_cmpR op_ne (pe_callB (call_repr hgu hr.units) (by rfl) T.n_repr (by decide +kernel) (pa_cons (pv 0) pa_nil)) (pv 2) (nomark _)) (pw_or1 (pt_val (pe_callB (call_isEc T.ec_TextFault hz hf) (by rfl) T.n_isinstance (by decide +kernel) (pa_cons (pv 5) (pa_cons (pe_tup (pa_cons (pe_glob (v := .ref _) (by rfl) T.g_DeskFault rfl) (pa_cons (pe_glob (v := .ref _) (by rfl) T.g_DossierFault rfl) (pa_cons (pe_glob (v := .ref _) (by rfl) T.g_NotOfKind rfl) pa_nil)))) pa_nil)))))))) (pss_one (ps_ret pe_bl)) pss_nil)
      (pss_one (ps_ret (pe_cmpR op_eq (pe_callB (call_repr hgu hr.units) (by rfl) T.n_repr (by decide +kernel) (pa_cons (pe_tup (pa_cons (pe_xf T.xf_TextFault T.no_TextFault_row hz hf (pv 5)) (pa_cons (pe_xf T.xf_TextFault T.no_TextFault_column hz hf (pv 5)) (pa_cons (pe_xf T.xf_TextFault T.no_TextFault_reason hz hf (pv 5)) pa_nil)))) pa_nil)) (pe_callB (call_repr hgu hr.units) (by rfl) T.n_repr (by decide +kernel) (pa_cons (pe_op op_catT (pe_tup (pa_cons (pv 1) pa_nil)) (pv 3)) pa_nil)) (nomark _)))))))
    (pss_cons (ps_if (PW.pt (pw_or (pt_cmpR o_notN (pv 3) pe_non (nomark _)) (pw_or1 (pt_cmpR op_ne (pe_callB (call_repr hgu hr.units) (by rfl) T.n_repr (by decide +kernel) (pa_cons (pv 0) pa_nil)) (pv 2) (nomark _))))) (pss_one (ps_ret pe_bl)) pss_nil)
    (pss_cons (ps_set (i := 6) sc__law_reads_so.nd rfl (Or.inl rfl) (pe_call (ok__law_built T) (hr.mono (by decide)) (by rfl) T.g__law_built T.F__law_built.kp T.b__law_built .nil pass0 (pa_cons (pv 0) pa_nil)))
    (pss_one (ps_ret (pe_and (pe_cmpR (op_eqD hr.units) (pv 4) (pv 6) (nomark _)) (pe_one (pe_cmpR op_eq (pe_callB (call_repr hgu hr.units) (by rfl) T.n_repr (by decide +kernel) (pa_cons (pv 4) pa_nil)) (pe_callB (call_repr hgu hr.units) (by rfl) T.n_repr (by decide +kernel) (pa_cons (pv 6) pa_nil)) (nomark _))))))))))), ?_⟩
    show tSeq _ _ _ [some (.ref l), some (.int row), none, none, none, none, none] H
    have hlt : ∀ t ∈ ts, t.2 < 10 ^ 15 + 1 := fun t ht => Nat.lt_succ_of_lt (hok t ht).2
    have hec : endCol ts < 10 ^ 15 + 1 := by
      unfold endCol
      cases e : ts.getLast? with
      | none => decide
      | some t => exact Nat.succ_lt_succ (hok t (List.mem_of_getLast? e)).2
    have hrd := rd_lf ts [[]] 0 false (endCol ts) at0 (by decide)
    refine seq_gen (fun σ' H' => σ' = [some (.ref l), some (.int row), some (.str (rowD ts).shown), none, none, none, none] ∧ H' = H) (fun R hR => ?_) ?_
    · walk_at "wq"
      exact row_repr hl hT hok hn (hR _ _ ⟨rfl, rfl⟩)
    rintro σ' H1 ⟨rfl, rfl⟩
    refine seq_gen (fun σ' H' => ∃ v : V, σ' = [some (.ref l), some (.int row), some (.str (rowD ts).shown), some v, none, none, none] ∧ Same H1 H' ∧ match lf 0 false ts (endCol ts) with
      | none => v = .non
      | some (c, r) => ∃ p, v = .ref p ∧ H' p = some (.tup [.int c, .str r])) (fun R hR => ?_) ?_
    · walk_at "wq"
      refine ⟨l, xs, ts, rfl, hl, hT, ?_⟩
      cases e : lf 0 false ts (endCol ts) with
      | none => exact fun H' hS => hR _ _ ⟨.non, rfl, hS, by rw [e]⟩
      | some f =>
        obtain ⟨c, r⟩ := f
        exact fun p H' hS hp _ => hR _ _ ⟨.ref p, rfl, hS, by rw [e]; exact ⟨p, rfl, hp⟩⟩
    rintro σ' H2 ⟨v, rfl, hS2, hv⟩
    have hl2 := hS2 _ _ hl
    have hT2 := hT.keep (tkeep_same hS2)
    cases e : lf 0 false ts (endCol ts) with
    | none =>
      rw [e] at hv
      subst hv
      rw [e] at hrd
      obtain ⟨x, hx⟩ := bl_bal _ [[]] 0 at0 (bal_of_lf ts 0 _ e)
      have hrd' : rd [[]] ts (endCol ts) = .ok x := by
        rw [hrd]
        show ended (bl [[]] (ts.map (·.1))) _ = _
        rw [hx]
        rfl
      obtain ⟨a1, a2, a3, a4, a5⟩ := thing_ok (fun t ht => (hok t ht).1) (by omega) e hx
      refine seq_gen (fun σ' H' => ∃ tv : V, σ' = [some (.ref l), some (.int row), some (.str (rowD ts).shown), some .non, some tv, none, none] ∧ Same H2 H' ∧ Td K H' tv x) (fun R hR => ?_) ?_
      · show tAsg _ _ _ _ _
        walk_at "wq"
        refine ⟨l, row, xs, ts, rfl, hrow, hl2, hT2, hok, by omega, ?_⟩
        rw [hrd']
        exact fun tv H' hS htd => hR _ _ ⟨tv, rfl, hS, htd⟩
      rintro σ' H3 ⟨tv, rfl, hS3, htd⟩
      have hl3 := hS3 _ _ hl2
      have hT3 := hT2.keep (tkeep_same hS3)
      walk_at "wq"
      refine or_known false false (fun B hB => ?_) (fun _ B hB => ?_) (iteF ?_)
      · walk_at "wq"
        exact hB
      · walk_at "wq"
        refine row_repr hl3 hT3 hok hn ?_
        walk_at "wq"
        rw [show (!decide True) = false from rfl]
        exact hB
      · refine ⟨l, xs, ts, rfl, hl3, hT3, fun t ht => (hok t ht).1, by omega, bal_of_lf ts 0 _ e, fun y w H' hy hS4 htd4 => ?_⟩
        have hyx : y = x := by
          rw [hx] at hy
          cases hy
          rfl
        subst hyx
        have htd4' := htd.keep (tkeep_same hS4)
        walk_at "wq"
        have hsh : SeqAt.shaped y = true := by
          unfold SeqAt.shaped
          rw [a5, decide_eq_true (by omega)]
          rfl
        refine ⟨y, y, htd4'.dp, htd4.dp, hsh, hsh, true, by rw [SeqAt.eqv_refl y a5], iteT ⟨tv, y, rfl, htd4'.dp, a1, a2, a3, a4, ⟨w, y, rfl, htd4.dp, a1, a2, a3, a4, ?_⟩⟩⟩
        walk_at "wq"
        rw [show decide True = true from rfl]
        exact q H' (((hS2.trans hS3).trans hS4))
    | some f =>
      obtain ⟨c, r⟩ := f
      rw [e] at hv
      obtain ⟨p, rfl, hp⟩ := hv
      rw [e] at hrd
      have hrd' : rd [[]] ts (endCol ts) = .error (c, r) := hrd
      obtain ⟨hc, hr⟩ := lf_res ts 0 false _ c r hlt hec e
      refine seq_gen (fun σ' H' => False) (fun R hR => ?_) (fun σ' H' h => h.elim)
      show tAsg _ _ _ _ _
      walk_at "wq"
      refine ⟨l, row, xs, ts, rfl, hrow, hl2, hT2, hok, by omega, ?_⟩
      rw [hrd']
      intro d H3 hd hS3 hd3
      have hl3 := hS3 _ _ hl2
      have hT3 := hT2.keep (tkeep_same hS3)
      refine ⟨true, T.ex_TextFault, fun _ ea hea => ?_, fun q => nomatch q⟩
      show tSeq _ _ _ [some (.ref l), some (.int row), some (.str (rowD ts).shown), some (.ref p), none, some (.ref ea), none] H3
      refine seq_gen (fun σ' H' => σ' = [some (.ref l), some (.int row), some (.str (rowD ts).shown), some (.ref p), none, some (.ref ea), none] ∧ Same H3 H') (fun R hR => ?_) ?_
      · refine if_gen (fun _ => False) (fun H' => Same H3 H') (fun R' _ h2 => ?_) (fun H' h => h.elim) (fun H' h => hR _ _ ⟨rfl, h⟩)
        walk_at "wp"
        rw [if_neg (fun z => nomatch z)]
        refine row_repr hl3 hT3 hok hn ?_
        walk_at "wp"
        rw [show (!decide True) = false from rfl]
        refine iteF ⟨by decide, fun q1 hq1 => ⟨rfl, d, q1, _, _, _, false, rfl, same_upd hq1 _ _ hd3, rfl, upd_same, .cons (.own _) (.cons (.own _) (.cons (.own _) .nil)), T.k1_TextFault, ?_⟩⟩
        walk_at "wp"
        exact h2 _ (same_upd hq1)
      rintro σ' H4 ⟨rfl, hS4⟩
      have hd4 := hS4 _ _ hd3
      have hp4 := hS4 _ _ (hS3 _ _ hp)
      walk_at "wq"
      refine ⟨_, rfl, rfl, rfl, d, _, .int row, rfl, hd4, lk_row, ?_⟩
      refine ⟨_, rfl, rfl, rfl, d, _, .int c, rfl, hd4, lk_col, ?_⟩
      refine ⟨_, rfl, rfl, rfl, d, _, .str r, rfl, hd4, lk_rea, by decide, fun q1 hq1 => ?_⟩
      refine told_repr (.inl (.inl upd_same)) hrow hc hr ⟨by decide, fun q2 hq2 => ?_⟩
      have s1 := same_upd (o := .tup [.int row, .int c, .str r]) hq1
      have s2 := s1.trans (same_upd (o := .tup [.int row]) hq2)
      refine ⟨q2, p, [.int row], [.int c, .str r], rfl, rfl, .inl (.inl upd_same), .inl (.inl (s2 _ _ hp4)), by simp, Nat.le_trans (Nat.le_refl 3) (by decide), fun z => (by cases z), fun _ q3 hq3 => ?_⟩
      refine told_repr (.inl (.inl upd_same)) hrow hc hr ?_
      walk_at "wq"
      rw [show decide True = true from rfl]
      exact q _ ((((hS2.trans hS3).trans hS4).trans s2).trans (same_upd hq3))
end
end T85

namespace T85
open PySem PySem.Spec PyProof.Rows L2 TL CW
local macro_rules | `(tactic| walk_at "wp") => `(tactic| simp only [CW.Lat, CW.LatE, CW.w_seq, CW.w_lcL, CW.w_yes, List.map_cons, List.map_nil, CW.w_mkO, CW.w_revT, CW.w_rev, CW.w_m1, CW.w_cxK, CW.w_forT, CW.w_forL, CW.w_forR, CW.w_forE, CW.w_asg, CW.w_drop, CW.w_ret, CW.w_retN, CW.w_next, CW.w_never, CW.w_brk, CW.w_cont, CW.w_if, CW.w_ifE, CW.w_var0, CW.w_vars, CW.w_C, CW.w_op, CW.w_un, CW.w_nil, CW.w_cons, CW.w_tup, CW.w_lst, CW.w_call, CW.w_callS, CW.w_cb, CW.w_sl, CW.w_noPart, CW.w_part, CW.w_B, CW.w_test, CW.w_and, CW.w_or, CW.w_not, CW.w_notV, CW.w_andV, CW.w_orV, CW.w_name, CW.w_set0, CW.w_sets, CW.w_gtup, CW.w_gnil, CW.w_gcons, CW.w_gsub, CW.w_exb, CW.w_exi, CW.w_I0, CW.w_I, CW.w_U, CW.w_eqI, CW.w_eqS, CW.w_eqIS, CW.w_neI, CW.w_neS, CW.w_ixL, CW.w_ixT, CW.w_ixS, CW.w_slS, CW.w_slL, CW.w_setL, CW.w_cat, CW.w_rep, CW.w_mulS, CW.w_in, CW.w_bm, CW.w_bm0, CW.w_append, CW.w_pop, CW.w_exr, CW.w_isN, CW.w_notN, CW.w_addS, CW.w_inS, CW.w_notInS, CW.w_abs, CW.w_max2, CW.w_min2, CW.w_int1, CW.w_int1b, CW.w_strI, CW.w_str1, CW.w_str2, CW.w_lenQ, CW.w_lenS, CW.w_intS, CW.w_tupQ, CW.w_tru,
  List.append_nil, List.cons_append, List.nil_append, decide_eq_true_eq, List.length_cons, List.length_nil, Ends.nx, Ends.rt])
local macro_rules | `(tactic| walk_at "wq") => `(tactic| simp only [CW.Lat, CW.LatE, CW.w_seq, CW.w_lcL, CW.w_yes, List.map_cons, List.map_nil, CW.w_mkO, CW.w_revT, CW.w_rev, CW.w_m1, CW.w_cxK, CW.w_forT, CW.w_forL, CW.w_forR, CW.w_forE, CW.w_asg, CW.w_drop, CW.w_ret, CW.w_retN, CW.w_next, CW.w_never, CW.w_brk, CW.w_cont, CW.w_if, CW.w_ifE, CW.w_var0, CW.w_vars, CW.w_C, CW.w_op, CW.w_un, CW.w_nil, CW.w_cons, CW.w_tup, CW.w_lst, CW.w_call, CW.w_callS, CW.w_cb, CW.w_sl, CW.w_noPart, CW.w_part, CW.w_B, CW.w_test, CW.w_not, CW.w_notV, CW.w_andV, CW.w_orV, CW.w_name, CW.w_set0, CW.w_sets, CW.w_gtup, CW.w_gnil, CW.w_gcons, CW.w_gsub, CW.w_exb, CW.w_exi, CW.w_I0, CW.w_I, CW.w_U, CW.w_eqI, CW.w_eqS, CW.w_eqIS, CW.w_neI, CW.w_neS, CW.w_ixL, CW.w_ixT, CW.w_ixS, CW.w_slS, CW.w_slL, CW.w_setL, CW.w_cat, CW.w_rep, CW.w_mulS, CW.w_in, CW.w_bm, CW.w_bm0, CW.w_append, CW.w_pop, CW.w_exr, CW.w_isN, CW.w_notN, CW.w_addS, CW.w_inS, CW.w_notInS, CW.w_abs, CW.w_max2, CW.w_min2, CW.w_int1, CW.w_int1b, CW.w_strI, CW.w_str1, CW.w_str2, CW.w_lenQ, CW.w_lenS, CW.w_intS, CW.w_tupQ, CW.w_tru,
  List.append_nil, List.cons_append, List.nil_append, decide_eq_true_eq, List.length_cons, List.length_nil, Ends.nx, Ends.rt])
local macro_rules | `(tactic| walk_at "ws") => `(tactic| simp only [CW.w_lcL, CW.w_yes, List.map_cons, List.map_nil, CW.w_mkO, CW.w_revT, CW.w_rev, CW.w_m1, CW.w_cxK, CW.w_forT, CW.w_forL, CW.w_forR, CW.w_forE, CW.w_asg, CW.w_drop, CW.w_ret, CW.w_retN, CW.w_next, CW.w_never, CW.w_brk, CW.w_cont, CW.w_var0, CW.w_vars, CW.w_C, CW.w_op, CW.w_un, CW.w_nil, CW.w_cons, CW.w_tup, CW.w_lst, CW.w_call, CW.w_callS, CW.w_cb, CW.w_sl, CW.w_noPart, CW.w_part, CW.w_B, CW.w_test, CW.w_not, CW.w_notV, CW.w_andV, CW.w_orV, CW.w_name, CW.w_set0, CW.w_sets, CW.w_gtup, CW.w_gnil, CW.w_gcons, CW.w_gsub, CW.w_exb, CW.w_exi, CW.w_I0, CW.w_I, CW.w_U, CW.w_eqI, CW.w_eqS, CW.w_eqIS, CW.w_neI, CW.w_neS, CW.w_ixL, CW.w_ixT, CW.w_ixS, CW.w_slS, CW.w_slL, CW.w_setL, CW.w_cat, CW.w_rep, CW.w_mulS, CW.w_in, CW.w_bm, CW.w_bm0, CW.w_append, CW.w_pop, CW.w_exr, CW.w_isN, CW.w_notN, CW.w_addS, CW.w_inS, CW.w_notInS, CW.w_abs, CW.w_max2, CW.w_min2, CW.w_int1, CW.w_int1b, CW.w_strI, CW.w_str1, CW.w_str2, CW.w_lenQ, CW.w_lenS, CW.w_intS, CW.w_tupQ, CW.w_tru,
  List.append_nil, List.cons_append, List.nil_append, decide_eq_true_eq, List.length_cons, List.length_nil, Ends.nx, Ends.rt])
section
variable {P : Program} {w : World} {K : PySem.W.Frag} {mg : Str → Option Value} {base : Heap} {a : Ad}
theorem join_strict (t : Tk) : ∀ r : List Tk, joinL [32] ((t :: r).map Tk.tl) = t.tl ++ codesOf (r.map fun u => (1, u))
  | [] => by simp [joinL, codesOf]
  | u :: r => by
    show t.tl ++ ([32] ++ joinL [32] ((u :: r).map Tk.tl)) = t.tl ++ (List.replicate 1 32 ++ (u.tl ++ codesOf (r.map fun u => (1, u))))
    rw [join_strict u r]
    rfl
theorem strict_line {ts : List Tk} (h : ts ≠ []) : tl (Txt.join " " (ts.map Tk.str)) = codesOf (strictIts ts) := by
  rw [join_eq, tl_join, show tl (" " : Str) = [32] by decide +kernel, List.map_map]
  cases ts with
  | nil => exact absurd rfl h
  | cons t r => exact join_strict t r
theorem joinL_app (S : List Nat) : ∀ {a b : List (List Nat)}, a ≠ [] → b ≠ [] → joinL S (a ++ b) = joinL S a ++ (S ++ joinL S b)
  | [], _, ha, _ => absurd rfl ha
  | [x], b, _, hb => by
    cases b with
    | nil => exact absurd rfl hb
    | cons y b => rfl
  | x :: y :: a, b, _, hb => by
    show x ++ (S ++ joinL S (y :: a ++ b)) = (x ++ (S ++ joinL S (y :: a))) ++ (S ++ joinL S b)
    rw [joinL_app S (a := y :: a) (by simp) hb]
    simp only [List.append_assoc]
theorem big_num : tl (Str.ofString (toString (10 ^ Int.toNat 60 : Int))) = 49 :: List.replicate 60 48 := by decide +kernel
def abc : Str := "abcdefghijklmnopqrstuvwxyz"
theorem second_line {x : PyData} {z : Str} (hne : words x ≠ []) (hz : tl z = joinL [32] ((words x).map tl)) :
    Txt.join " " (words (.tuple [.str abc, x, .int (10 ^ Int.toNat 60), .tuple []])) = ((((((("( " : Str) ++ abc) ++ " ") ++ z) ++ " 1") ++ ⟨(List.replicate 60 48).toArray⟩) ++ " ( ) )") := by
  have hw : words (.tuple [.str abc, x, .int (10 ^ Int.toNat 60), .tuple []]) = [opn, abc] ++ (words x ++ [Str.ofString (toString (10 ^ Int.toNat 60 : Int)), opn, cls, cls]) := by
    rw [words]
    simp [wordsAll, words]
  refine ext_tl ?_
  rw [hw, join_eq, tl_join, show tl (" " : Str) = [32] by decide +kernel, List.map_append, List.map_append, joinL_app _ (by simp) (by simp), joinL_app _ (by simpa using hne) (by simp), ← hz]
  simp only [tl_append, List.map_cons, List.map_nil, joinL, big_num, tl_opn, tl_cls, show tl ("( " : Str) = [40, 32] by decide +kernel, show tl (" " : Str) = [32] by decide +kernel, show tl (" 1" : Str) = [32, 49] by decide +kernel, show tl (" ( ) )" : Str) = [32, 40, 32, 41, 32, 41] by decide +kernel]
  rw [tl_mk]
  simp only [List.append_assoc, List.cons_append, List.nil_append]
theorem toks_ok : ∀ (its : It) (p : Nat), (∀ t ∈ its.map (·.2), t.Ok) → ∀ u ∈ toksOf p its, u.1.Ok ∧ u.2 ≤ p + (codesOf its).length
  | [], _, _, u, hu => by cases hu
  | (g, t) :: its, p, h, u, hu => by
    have ht := h t (by simp)
    obtain ⟨c, r, e, _⟩ := ht.shape
    have hlen : (codesOf ((g, t) :: its)).length = g + (t.tl.length + (codesOf its).length) := by
      show (List.replicate g 32 ++ (t.tl ++ codesOf its)).length = _
      rw [List.length_append, List.length_append, List.length_replicate]
    have h1 : 1 ≤ t.tl.length := by rw [e, List.length_cons]; omega
    rcases List.mem_cons.mp hu with rfl | hu
    · refine ⟨ht, ?_⟩
      show p + g + 1 ≤ _
      omega
    · obtain ⟨a1, a2⟩ := toks_ok its (p + g + t.tl.length) (fun v hv => h v (List.mem_cons_of_mem _ hv)) u hu
      exact ⟨a1, by omega⟩
theorem toks_len (its : It) (p : Nat) : (toksOf p its).length = its.length := by
  have := congrArg List.length (toksOf_fst its p)
  simpa using this
/-- what stands between the law's steps -/
structure LawSt (K : PySem.W.Frag) (H : Hp) (d dc lv fq : Addr) (ts : List Tk) (xs : List V) (toks : List (Tk × Nat)) : Prop where
  dr : DrawAt H d dc
  hv : H lv = some (.lst (ts.map Tk.v))
  lvd : lv ≠ d
  hf : H fq = some (.lst xs)
  fqd : fq ≠ d
  tok : TokL K H xs toks
theorem LawSt.same {H H' : Hp} {d dc lv fq : Addr} {ts : List Tk} {xs : List V} {toks : List (Tk × Nat)} (s : LawSt K H d dc lv fq ts xs toks) (e : Same H H') : LawSt K H' d dc lv fq ts xs toks :=
  ⟨s.dr.same e, e _ _ s.hv, s.lvd, e _ _ s.hf, s.fqd, s.tok.keep (tkeep_same e)⟩
theorem LawSt.but {H H' : Hp} {d dc lv fq : Addr} {ts : List Tk} {xs : List V} {toks : List (Tk × Nat)} (s : LawSt K H d dc lv fq ts xs toks) (e : But d H H') (hd : DrawAt H' d dc) : LawSt K H' d dc lv fq ts xs toks := by
  obtain ⟨ds, h⟩ := s.dr.lst
  exact ⟨hd, e _ _ s.lvd s.hv, s.lvd, e _ _ s.fqd s.hf, s.fqd, s.tok.keep (tkeep_but h e)⟩
def sp_law (K : PySem.W.Frag) : Sp := fun vs H Q _ => ∃ (l : Addr) (ns : List Int), vs = [.ref l] ∧ SqL K H l (ns.map V.int) ∧ ns.length ≤ 63 ∧ ∀ H', Q (.bl true) H'
theorem ok_law (T : Txt P K mg a) : OkG P w K mg base CX0 6 a.f_law a.d_law ["script"] (sp_law K) := by
  refine okG_of T.F_law sc_law (fun vs H Q E h => ?_) (fun cdv A outer s H vs Q E hgu hr h => ?_)
  · obtain ⟨l, ns, rfl, _⟩ := h
    rfl
  · obtain ⟨l, ns, rfl, hl, hn, q⟩ := h
    refine ⟨_, PSs.nox (pss_cons (ps_set (i := 1) sc_law.nd rfl (Or.inl rfl) (pe_call (ok__law_begin T) (hr.mono (by decide)) (by rfl) T.g__law_begin T.F__law_begin.kp T.b__law_begin .nil pass0 (pa_cons (pv 0) pa_nil)))
    (pss_cons (ps_set (i := 2) sc_law.nd rfl (Or.inl rfl) (pe_ix ix_list (pe_lst (pa_cons pe_int (pa_cons (pe_op op_add pe_int (pe_call (ok__law_draw T) (hr.mono (by decide)) (by rfl) T.g__law_draw T.F__law_draw.kp T.b__law_draw .nil pass0 (pa_cons (pv 1) (pa_cons pe_int pa_nil)))) (pa_cons pe_int pa_nil)))) (pe_call (ok__law_draw T) (hr.mono (by decide)) (by rfl) T.g__law_draw T.F__law_draw.kp T.b__law_draw .nil pass0 (pa_cons (pv 1) (pa_cons pe_int pa_nil))) (fun _ _ => rfl)))
    (pss_cons (ps_set (i := 3) sc_law.nd rfl (Or.inl rfl) (pe_call (ok__law_values T) (hr.mono (by decide)) (by rfl) T.g__law_values T.F__law_values.kp T.b__law_values .nil pass0 (pa_cons (pv 1) pa_nil)))
    (pss_cons (ps_asg (pe_call (ok__law_spelt T) (hr.mono (by decide)) (by rfl) T.g__law_spelt T.F__law_spelt.kp T.b__law_spelt .nil pass0 (pa_cons (pv 1) (pa_cons (pv 3) (pa_cons pe_bl pa_nil)))) (pg_tup (by rfl) (pgs_cons (pg_name (i := 4) sc_law.nd rfl (Or.inl rfl)) (pgs_cons (pg_name (i := 5) sc_law.nd rfl (Or.inl rfl)) pgs_nil))))
    (pss_cons (ps_set (i := 6) sc_law.nd rfl (Or.inl rfl) (pe_call (ok__law_built T) (hr.mono (by decide)) (by rfl) T.g__law_built T.F__law_built.kp T.b__law_built .nil pass0 (pa_cons (pv 5) pa_nil)))
    (pss_cons (ps_if (PW.pt (pw_or (pt_cmpR op_ne (pe_call (ok_write_thing T) (hr.mono (by decide)) (by rfl) T.g_write_thing T.F_write_thing.kp T.b_write_thing .nil pass0 (pa_cons (pv 6) pa_nil)) (pv 4) (nomark _)) (pw_or1 (pt_not (pt_val (pe_callG (ok__law_reads_so T) hgu (hr.mono (by decide)) (by rfl) T.g__law_reads_so T.F__law_reads_so.kp T.b__law_reads_so pass0 (pa_cons (pv 5) (pa_cons (pv 2) pa_nil)))))))) (pss_one (ps_ret pe_bl)) pss_nil)
    (pss_cons (ps_set (i := 7) sc_law.nd rfl (Or.inl rfl) pe_str)
    (pss_cons (ps_if (pt_cmpR op_ne (pe_call (ok_write_thing T) (hr.mono (by decide)) (by rfl) T.g_write_thing T.F_write_thing.kp T.b_write_thing .nil pass0 (pa_cons (pe_tup (pa_cons (pv 7) (pa_cons (pv 6) (pa_cons (pe_op op_pow pe_int pe_int) (pa_cons (pe_tup pa_nil) pa_nil))))) pa_nil)) (pe_op o_addS (pe_op o_addS (pe_op o_addS (pe_op o_addS (pe_op o_addS (pe_op o_addS pe_str (pv 7)) pe_str) (pv 4)) pe_str) (pe_op op_mulS pe_str pe_int)) pe_str) (nomark _)) (pss_one (ps_ret pe_bl)) pss_nil)
    (pss_cons (ps_for PassesOwn.never rfl (pi_range1 (by rfl) T.n_range (pa_cons pe_int pa_nil)) (pg_name (i := 8) sc_law.nd rfl (Or.inl rfl)) (pss_cons (ps_asg (pe_call (ok__law_spelt T) (hr.mono (by decide)) (by rfl) T.g__law_spelt T.F__law_spelt.kp T.b__law_spelt .nil pass0 (pa_cons (pv 1) (pa_cons (pv 3) (pa_cons (pe_or (pe_cmpR op_eq (pv 8) pe_int (nomark _)) (pe_one (pe_cmpR op_eq (pe_call (ok__law_draw T) (hr.mono (by decide)) (by rfl) T.g__law_draw T.F__law_draw.kp T.b__law_draw .nil pass0 (pa_cons (pv 1) (pa_cons pe_int pa_nil))) pe_int (nomark _)))) pa_nil)))) (pg_tup (by rfl) (pgs_cons (pg_name (i := 4) sc_law.nd rfl (Or.inl rfl)) (pgs_cons (pg_name (i := 9) sc_law.nd rfl (Or.inl rfl)) pgs_nil))))
      (pss_cons (ps_if (PW.pt (pw_or (pt_cmpR op_ne (pe_callB (call_repr hgu hr.units) (by rfl) T.n_repr (by decide +kernel) (pa_cons (pe_call (ok_tokens_of T) (hr.mono (by decide)) (by rfl) T.g_tokens_of T.F_tokens_of.kp T.b_tokens_of .nil pass0 (pa_cons (pv 4) (pa_cons (pv 2) pa_nil))) pa_nil)) (pe_callB (call_repr hgu hr.units) (by rfl) T.n_repr (by decide +kernel) (pa_cons (pv 9) pa_nil)) (nomark _)) (pw_or1 (pt_not (pt_val (pe_callG (ok__law_reads_so T) hgu (hr.mono (by decide)) (by rfl) T.g__law_reads_so T.F__law_reads_so.kp T.b__law_reads_so pass0 (pa_cons (pv 9) (pa_cons (pv 2) pa_nil)))))))) (pss_one (ps_ret pe_bl)) pss_nil)
      (pss_one (ps_set (i := 3) sc_law.nd rfl (Or.inl rfl) (pe_call (ok__law_damaged T) (hr.mono (by decide)) (by rfl) T.g__law_damaged T.F__law_damaged.kp T.b__law_damaged .nil pass0 (pa_cons (pv 1) (pa_cons (pv 3) pa_nil))))))))
    (pss_one (ps_ret (pe_and (pe_callG (ok__law_reads_so T) hgu (hr.mono (by decide)) (by rfl) T.g__law_reads_so T.F__law_reads_so.kp T.b__law_reads_so pass0 (pa_cons (pe_lst pa_nil) (pa_cons (pv 2) pa_nil))) (pe_one (pe_callG (ok__law_reads_so T) hgu (hr.mono (by decide)) (by rfl) T.g__law_reads_so T.F__law_reads_so.kp T.b__law_reads_so pass0 (pa_cons (pv 5) (pa_cons (pv 2) pa_nil)))))))))))))))), ?_⟩
    show tSeq _ _ _ [some (.ref l), none, none, none, none, none, none, none, none, none] H
    have sz : ∀ n, n ≤ 1000000 → n ≤ sizeLine := fun n h => Nat.le_trans h (by decide)
    refine seq_gen (fun σ' H' => (∃ d dc, σ' = [some (.ref l), some (.ref d), none, none, none, none, none, none, none, none] ∧ DrawAt H' d dc)) (fun R hR => ?_) ?_
    · walk_at "wq"
      exact ⟨l, ns, rfl, hl, by omega, fun d dc H' _ hd _ => hR _ _ ⟨d, dc, rfl, hd⟩⟩
    rintro σ' H1 ⟨d, dc, rfl, hd1⟩
    refine seq_gen (fun σ' H' => (∃ row : Nat, row < 10 ^ 20 ∧ σ' = [some (.ref l), some (.ref d), some (.int row), none, none, none, none, none, none, none]) ∧ DrawAt H' d dc) (fun R hR => ?_) ?_
    · walk_at "wq"
      refine drawn hd1 4000 (by decide) (by decide) fun j H2 hj hd2 b2 => ?_
      walk_at "wq"
      refine ⟨by decide, fun p hp => drawn (hd2.same (same_upd hp)) 3 (by decide) (by decide) fun k H3 hk hd3 b3 => ?_⟩
      have hp3 := but_lst hd2 hp b3
      walk_at "wq"
      refine ⟨_, .inl (.inl hp3), ?_⟩
      rcases (show k = 0 ∨ k = 1 ∨ k = 2 by omega) with rfl | rfl | rfl
      · exact ⟨_, rfl, hR _ _ ⟨⟨1, by decide, rfl⟩, hd3⟩⟩
      · refine ⟨_, rfl, hR _ _ ⟨⟨1 + j, by omega, ?_⟩, hd3⟩⟩
        rw [Int.natCast_add]
        rfl
      · exact ⟨_, rfl, hR _ _ ⟨⟨4000, by decide, rfl⟩, hd3⟩⟩
    rintro σ' H2 ⟨⟨row, hrow, rfl⟩, hd2⟩
    refine seq_gen (fun σ' H' => ∃ (ts : List Tk) (lv : Addr), σ' = [some (.ref l), some (.ref d), some (.int row), some (.ref lv), none, none, none, none, none, none] ∧ Bal 0 ts ∧ (∀ t ∈ ts, t.Ok) ∧ ts.length ≤ 80 ∧ DrawAt H' d dc ∧ H' lv = some (.lst (ts.map Tk.v)) ∧ lv ≠ d) (fun R hR => ?_) ?_
    · walk_at "wq"
      refine ⟨d, dc, rfl, hd2, fun ts lv H' hb ho hn hd' _ hlv hfr => hR _ _ ⟨ts, lv, rfl, hb, ho, hn, hd', hlv, (hd2.new hfr).1⟩⟩
    rintro σ' H3 ⟨ts, lv, rfl, hBal, hok, hlen, hd3, hlv, hlvd⟩
    have htn : ts ≠ [] := fun z => by rw [z] at hBal; exact hBal
    refine seq_gen (fun σ' H' => ∃ (z : Str) (fq : Addr) (xs : List V), σ' = [some (.ref l), some (.ref d), some (.int row), some (.ref lv), some (.str z), some (.ref fq), none, none, none, none] ∧ tl z = codesOf (strictIts ts) ∧ z.length ≤ 60000 ∧ LawSt K H' d dc lv fq ts xs (toksOf 0 (strictIts ts)) ∧ (strictIts ts).map (·.2) = ts) (fun R hR => ?_) ?_
    · walk_at "wq"
      refine ⟨d, dc, lv, ts, false, rfl, hd3, hlv, hlvd, hok, by omega, fun z fq p xs its g0 e H' hp hfq hT hits hz hgap hzl hb hd' hb' hfqd => ?_⟩
      obtain ⟨rfl, rfl, rfl⟩ := hb rfl
      walk_at "wq"
      refine ⟨_, .inl (.inl hp), rfl, ?_⟩
      walk_at "wq"
      refine hR _ _ ⟨z, fq, xs, rfl, by simpa using hz, hzl, ⟨hd', hb' _ _ hlvd hlv, hlvd, hfq, hfqd, hT⟩, hits⟩
    rintro σ' H4 ⟨z, fq, xs, rfl, hz, hzl, hst, hits⟩
    clear hd1 hd2 hd3 hlv
    have htoks : ∀ t ∈ toksOf 0 (strictIts ts), t.1.Ok ∧ t.2 < 10 ^ 15 := fun u hu => by
      obtain ⟨a1, a2⟩ := toks_ok (strictIts ts) 0 (by rw [hits]; exact hok) u hu
      refine ⟨a1, ?_⟩
      rw [← hz, ← len_tl] at a2
      exact Nat.lt_of_le_of_lt (show u.2 ≤ 60000 by omega) (by decide)
    have htl : (toksOf 0 (strictIts ts)).length ≤ 350 := by
      rw [toks_len]
      have := congrArg List.length hits
      rw [List.length_map] at this
      omega
    have hfst : (toksOf 0 (strictIts ts)).map (·.1) = ts := by rw [toksOf_fst, hits]
    generalize htk : toksOf 0 (strictIts ts) = toks at hst htoks htl hfst
    obtain ⟨x, hx⟩ := bl_bal ts [[]] 0 at0 hBal
    have hwx : words x = ts.map Tk.str := words_built hBal hx
    have hline : Txt.join " " (words x) = z := by
      rw [hwx]
      exact ext_tl ((strict_line htn).trans hz.symm)
    have hsum : ∀ l : List Tk, (∀ t ∈ l, t.Ok) → ((l.map Tk.str).map (·.length)).sum ≤ 40 * l.length := by
      intro l
      induction l with
      | nil => intro _; exact Nat.le_refl _
      | cons t l ih =>
        intro h
        have h1 := ih fun u hu => h u (List.mem_cons_of_mem _ hu)
        obtain ⟨_, _, _, _, h40, _⟩ := (h t List.mem_cons_self).shape
        have h2 : t.str.length ≤ 40 := by rw [len_tl]; exact h40
        simp only [List.map_cons, List.sum_cons, List.length_cons] at h1 ⊢
        omega
    have hwl : (words x).length = ts.length := by rw [hwx, List.length_map]
    have hws : ((words x).map (·.length)).sum ≤ 40 * ts.length := by rw [hwx]; exact hsum ts hok
    refine seq_gen (fun σ' H' => ∃ tv : V, σ' = [some (.ref l), some (.ref d), some (.int row), some (.ref lv), some (.str z), some (.ref fq), some tv, none, none, none] ∧ LawSt K H' d dc lv fq ts xs toks ∧ Td K H' tv x) (fun R hR => ?_) ?_
    · walk_at "wq"
      refine ⟨fq, xs, toks, rfl, hst.hf, hst.tok, fun t ht => (htoks t ht).1, by omega, by rw [hfst]; exact hBal, fun y v H' hy hS htd => ?_⟩
      rw [hfst, hx] at hy
      have : x = y := by
        have := (List.cons.inj hy).1
        exact (List.cons.inj this).1
      subst this
      exact hR _ _ ⟨v, rfl, hst.same hS, htd⟩
    rintro σ' H5 ⟨tv, rfl, hst5, htd5⟩
    have reads : ∀ (H' : Hp) (Q' : VK) (E' : XK), LawSt K H' d dc lv fq ts xs toks → (∀ H2, Same H' H2 → Q' (.bl true) H2) → sp_reads_so K [.ref fq, .int row] H' Q' E' := fun H' Q' E' hs hq =>
      ⟨fq, row, xs, toks, rfl, hrow, hs.hf, hs.tok, htoks, htl, hq⟩
    refine seq_gen (fun σ' H' => σ' = [some (.ref l), some (.ref d), some (.int row), some (.ref lv), some (.str z), some (.ref fq), some tv, none, none, none] ∧ LawSt K H' d dc lv fq ts xs toks ∧ Td K H' tv x) (fun R hR => ?_) ?_
    · refine if_gen (fun _ => False) (fun H' => LawSt K H' d dc lv fq ts xs toks ∧ Td K H' tv x) (fun R' _ h2 => ?_) (fun H' h => h.elim) (fun H' h => hR _ _ ⟨rfl, h⟩)
      walk_at "wp"
      refine ⟨tv, x, rfl, htd5, by omega, by omega, fun H6 hS6 => ?_⟩
      rw [hline]
      walk_at "wp"
      rw [show (!decide True) = false from rfl]
      refine iteF (reads H6 _ _ (hst5.same hS6) fun H7 hS7 => ?_)
      walk_at "wp"
      exact h2 _ ⟨(hst5.same hS6).same hS7, htd5.keep (tkeep_same (hS6.trans hS7))⟩
    rintro σ' H6 ⟨rfl, hst6, htd6⟩
    refine seq_gen (fun σ' H' => σ' = [some (.ref l), some (.ref d), some (.int row), some (.ref lv), some (.str z), some (.ref fq), some tv, some (.str abc), none, none] ∧ H' = H6) (fun R hR => ?_) ?_
    · walk_at "wq"
      exact hR _ _ ⟨rfl, rfl⟩
    rintro σ' H6 ⟨rfl, rfl⟩
    clear hst hst5 htd5
    refine seq_gen (fun σ' H' => σ' = [some (.ref l), some (.ref d), some (.int row), some (.ref lv), some (.str z), some (.ref fq), some tv, some (.str abc), none, none] ∧ LawSt K H' d dc lv fq ts xs toks) (fun R hR => ?_) ?_
    · refine if_gen (fun _ => False) (fun H' => LawSt K H' d dc lv fq ts xs toks) (fun R' _ h2 => ?_) (fun H' h => h.elim) (fun H' h => hR _ _ ⟨rfl, h⟩)
      walk_at "wp"
      refine ⟨⟨by decide, by decide, by decide⟩, Nat.zero_le _, fun p1 hp1 => ⟨by decide, fun p2 hp2 => ?_⟩⟩
      have s1 := same_upd (o := .tup []) hp1
      have s2 := s1.trans (same_upd (o := .tup [.str abc, tv, .int (10 ^ Int.toNat 60), .ref p1]) hp2)
      have htd2 : Td K (upd (upd H6 p1 (.tup [])) p2 (.tup [.str abc, tv, .int (10 ^ Int.toNat 60), .ref p1])) (.ref p2) (.tuple [.str abc, x, .int (10 ^ Int.toNat 60), .tuple []]) := by
        have h12 : p1 ≠ p2 := fun z => by rw [← z, upd_same] at hp2; cases hp2
        refine .tup (.inl (.inl upd_same)) (.cons (.str _) (.cons (htd6.keep (tkeep_same s2)) (.cons (.int _ (by decide +kernel)) (.cons (.tup (xs := []) (.inl (.inl (by rw [upd_ne h12, upd_same]))) .nil) .nil))))
      have hw2 : words (.tuple [.str abc, x, .int (10 ^ Int.toNat 60), .tuple []]) = [opn, abc] ++ (words x ++ [Str.ofString (toString (10 ^ Int.toNat 60 : Int)), opn, cls, cls]) := by
        rw [words]
        simp [wordsAll, words]
      have l1 : abc.length = 26 := by decide +kernel
      have l2 : opn.length = 1 := by decide +kernel
      have l3 : cls.length = 1 := by decide +kernel
      have l4 : (Str.ofString (toString (10 ^ Int.toNat 60 : Int))).length = 61 := by rw [len_tl, big_num]; rfl
      refine ⟨.ref p2, _, rfl, htd2, ?_, ?_, fun H7 hS7 => ?_⟩
      · rw [hw2]
        simp only [List.length_append, List.length_cons, List.length_nil]
        omega
      · rw [hw2]
        simp only [List.map_append, List.sum_append, List.length_append, List.map_cons, List.map_nil, List.sum_cons, List.sum_nil, List.length_cons, List.length_nil, l1, l2, l3, l4]
        omega
      · have hzj : tl z = joinL [32] ((words x).map tl) := by
          rw [← hline, join_eq, tl_join, show tl (" " : Str) = [32] by decide +kernel]
        have hne : words x ≠ [] := fun e => by rw [e] at hwl; exact htn (List.eq_nil_of_length_eq_zero hwl.symm)
        rw [second_line hne hzj]
        have m1 : (Str.ofString "( ").length = 2 := by decide +kernel
        have m2 : (Str.ofString " ").length = 1 := by decide +kernel
        have m3 : (Str.ofString " 1").length = 2 := by decide +kernel
        have m4 : (Str.ofString " ( ) )").length = 6 := by decide +kernel
        have m5 : (⟨(List.replicate 60 48).toArray⟩ : Str).length = 60 := by rw [len_tl]; simp [tl]
        refine ⟨sz _ (by rw [m1, l1]; omega), sz _ (by simp only [app_len, m1, m2, l1]; omega), sz _ (by simp only [app_len, m1, m2, l1]; omega), sz _ (by simp only [app_len, m1, m2, m3, l1]; omega), 48, 60, congrArg V.str (ext_tl (by decide +kernel)), rfl, by decide, by decide, ?_⟩
        refine ⟨_, _, rfl, rfl, sz _ ?_, _, _, rfl, rfl, sz _ ?_, ?_⟩
        · show _ + (⟨(List.replicate 60 48).toArray⟩ : Str).length ≤ _
          simp only [app_len, m1, m2, m3, m5, l1]; omega
        · show (_ ++ (⟨(List.replicate 60 48).toArray⟩ : Str)).length + _ ≤ _
          simp only [app_len, m1, m2, m3, m4, m5, l1]; omega
        · refine ⟨rfl, false, congrArg V.bl ?_, h2 _ ((hst6.same s2).same hS7)⟩
          rw [show Int.toNat 60 = 60 from rfl, decide_eq_true rfl]
          rfl
    rintro σ' H7 ⟨rfl, hst7⟩
    refine seq_gen (fun σ' H' => (∃ o3 o4 o8 o9, σ' = [some (.ref l), some (.ref d), some (.int row), o3, o4, some (.ref fq), some tv, some (.str abc), o8, o9]) ∧ ∃ lv' ts', LawSt K H' d dc lv' fq ts' xs toks) (fun R hR => ?_) ?_
    · walk_at "ws"
      refine in_range (by decide) (by decide) (fun i σ H' => ∃ (ts' : List Tk) (lv' : Addr) (o4 o8 o9 : Option V), σ = [some (.ref l), some (.ref d), some (.int row), some (.ref lv'), o4, some (.ref fq), some tv, some (.str abc), o8, o9] ∧ LawSt K H' d dc lv' fq ts' xs toks ∧ (∀ t ∈ ts', t.Ok) ∧ ts'.length + 1 ≤ 81 * 2 ^ i)
        ⟨ts, lv, _, _, _, rfl, hst7, hok, by omega⟩ (fun i σ H' hi h => ?_) fun σ H' h => ?_
      · obtain ⟨ts', lv', o4, o8, o9, rfl, hs, hok', hle⟩ := h
        have hi2 : i ≤ 2 := by omega
        have hle2 : ts'.length ≤ 323 := by
          have : 81 * 2 ^ i ≤ 81 * 2 ^ 2 := Nat.mul_le_mul_left _ (Nat.pow_le_pow_right (by decide) hi2)
          omega
        show tSeq _ _ _ [some (.ref l), some (.ref d), some (.int row), some (.ref lv'), o4, some (.ref fq), some tv, some (.str abc), some (.int i), o9] H'
        refine seq_gen (fun σ2 H2 => ∃ (zz : Str) (qq : Addr) (ys : List V) (its : It) (g0 e : Nat), σ2 = [some (.ref l), some (.ref d), some (.int row), some (.ref lv'), some (.str zz), some (.ref fq), some tv, some (.str abc), some (.int i), some (.ref qq)] ∧ LawSt K H2 d dc lv' fq ts' xs toks ∧ H2 qq = some (.lst ys) ∧ TokL K H2 ys (toksOf g0 its) ∧
          its.map (·.2) = ts' ∧ tl zz = List.replicate g0 32 ++ (codesOf its ++ List.replicate e 32) ∧ gapsOk .sign its ∧ zz.length ≤ 60000) (fun R2 hR2 => ?_) ?_
        · have sp : ∀ (b : Bool) (H2 : Hp), LawSt K H2 d dc lv' fq ts' xs toks → sp_spelt K [.ref d, .ref lv', .bl b] H2 (fun x H1 => gTup K 2 (gCons (gName 4) (gCons (gName 9) gNil)) x [some (.ref l), some (.ref d), some (.int row), some (.ref lv'), o4, some (.ref fq), some tv, some (.str abc), some (.int i), o9] H1 R2) E0 := fun b H2 hs2 => by
            refine ⟨d, dc, lv', ts', b, rfl, hs2.dr, hs2.hv, hs2.lvd, hok', by omega, fun zz qq p ys its g0 e H3 hp hqq hT hits' hzz hgap hzl' _ hd' hb' _ => ?_⟩
            walk_at "wq"
            refine ⟨_, .inl (.inl hp), rfl, ?_⟩
            walk_at "wq"
            exact hR2 _ _ ⟨zz, qq, ys, its, g0, e, rfl, hs2.but hb' hd', hqq, hT, hits', hzz, hgap, hzl'⟩
          walk_at "ws"
          refine iteT_or (fun _ => sp true H' hs) (fun _ => drawn hs.dr 2 (by decide) (by decide) fun j H2 _ hd2 b2 => ?_)
          walk_at "ws"
          exact sp _ H2 (hs.but b2 hd2)
        rintro σ2 H2 ⟨zz, qq, ys, its, g0, e, rfl, hs2, hqq, hT, hits', hzz, hgap, hzl'⟩
        have hcl : g0 + (codesOf its).length + e = zz.length := by
          rw [len_tl, hzz, List.length_append, List.length_append, List.length_replicate, List.length_replicate]; omega
        have htoks' : ∀ t ∈ toksOf g0 its, t.1.Ok ∧ t.2 < 10 ^ 15 := fun u hu => by
          obtain ⟨a1, a2⟩ := toks_ok its g0 (by rw [hits']; exact hok') u hu
          exact ⟨a1, Nat.lt_of_le_of_lt (show u.2 ≤ 60000 by omega) (by decide)⟩
        have htl' : (toksOf g0 its).length ≤ 350 := by
          rw [toks_len]
          have := congrArg List.length hits'
          rw [List.length_map] at this
          omega
        have hlex : LexSt (tl zz) 0 (toksOf g0 its) .sign := by
          refine ⟨g0, its, e, hzz, by rw [Nat.zero_add], fun y hy => hok' _ ?_, ?_⟩
          · rw [← hits']; exact List.mem_map.mpr ⟨y, hy, rfl⟩
          · by_cases h0 : g0 = 0
            · rw [if_pos h0]; exact hgap
            · rw [if_neg h0]; exact hgap
        generalize toksOf g0 its = tk2 at hT htoks' htl' hlex
        refine seq_gen (fun σ3 H3 => σ3 = [some (.ref l), some (.ref d), some (.int row), some (.ref lv'), some (.str zz), some (.ref fq), some tv, some (.str abc), some (.int i), some (.ref qq)] ∧ LawSt K H3 d dc lv' fq ts' xs toks) (fun R2 hR2 => ?_) ?_
        · refine if_gen (fun _ => False) (fun H3 => LawSt K H3 d dc lv' fq ts' xs toks) (fun R' _ h2 => ?_) (fun H3 h => h.elim) (fun H3 h => hR2 _ _ ⟨rfl, h⟩)
          walk_at "wp"
          refine ⟨zz, row, tk2, rfl, by omega, hlex, fun H3 q3 y3 hS3 _ hq3 hT3 => ?_⟩
          refine row_repr hq3 hT3 htoks' htl' (row_repr (hS3 _ _ hqq) (hT.keep (tkeep_same hS3)) htoks' htl' ?_)
          walk_at "wp"
          rw [show (!decide True) = false from rfl]
          refine iteF ⟨qq, row, ys, tk2, rfl, hrow, hS3 _ _ hqq, hT.keep (tkeep_same hS3), htoks', htl', fun H4 hS4 => ?_⟩
          walk_at "wp"
          exact h2 _ (hs2.same (hS3.trans hS4))
        rintro σ3 H3 ⟨rfl, hs3⟩
        walk_at "wq"
        refine ⟨d, dc, lv', ts', rfl, hs3.dr, hs3.hv, hs3.lvd, hok', by omega, fun ts2 lv2 H4 hok2 hlen2 hd4 b4 hlv2 hlvd2 => ?_⟩
        have hs4 := hs3.but b4 hd4
        refine ⟨ts2, lv2, _, _, _, rfl, ⟨hd4, hlv2, hlvd2, hs4.hf, hs4.fqd, hs4.tok⟩, hok2, ?_⟩
        rw [Nat.pow_succ]
        omega
      · obtain ⟨ts', lv', o4, o8, o9, rfl, hs, _⟩ := h
        exact hR _ _ ⟨⟨_, _, _, _, rfl⟩, lv', ts', hs⟩
    rintro σ' H8 ⟨⟨o3, o4, o8, o9, rfl⟩, lv', ts', hs8⟩
    walk_at "wq"
    refine ⟨Nat.zero_le _, fun p hp => ⟨p, row, [], [], rfl, hrow, upd_same, trivial, by simp, by simp, fun H9 hS9 => ?_⟩⟩
    walk_at "wq"
    have hs9 := (hs8.same (same_upd hp)).same hS9
    exact ⟨fq, row, xs, toks, rfl, hrow, hs9.hf, hs9.tok, htoks, htl, fun H10 _ => q H10⟩
end
end T85

namespace T85
open PySem PySem.Spec PyProof.Rows L2 TL CW
section
variable {K : PySem.W.Frag} {C D D1 D2 D3 : Addr}
theorem kit_no (hn : ((Value.ref C : Value) == .ref D) = false) (hi : PySem.W.isClsIn K D = true) (ht : PySem.W.typeIn K (.ref D) = some (.type "type")) (hs : PySem.W.subIn K (.ref C) (.ref D) = some false) : PySem.W.kitOne K (.ref C) (.ref D) = some false := by
  have hi' : (PySem.W.clsIn K D).isSome = true := hi
  unfold PySem.W.kitOne
  rw [if_neg (by rw [hn]; exact Bool.false_ne_true)]
  unfold PySem.W.kitCls
  simp only [hi', ht, Bool.true_and]
  exact hs
theorem kit3 (h1 : PySem.W.kitOne K (.ref C) (.ref D1) = some false) (h2 : PySem.W.kitOne K (.ref C) (.ref D2) = some false) (h3 : PySem.W.kitOne K (.ref C) (.ref D3) = some false) : PySem.W.kitAny K (.ref C) [.ref D1, .ref D2, .ref D3] = some false := by
  simp only [PySem.W.kitAny, h1, h2, h3]
theorem exm_of (hb : PySem.W.subIn K (.ref C) (.type "BaseException") = some true) (hi : PySem.W.isClsIn K C = true) (ht : PySem.W.typeIn K (.ref C) = some (.type "type")) (hs : PySem.W.subIn K (.ref C) (.ref C) = some true) : PySem.W.exmOne K (.ref C) (.ref C) = some true := by
  have hi' : (PySem.W.clsIn K C).isSome = true := hi
  unfold PySem.W.exmOne
  simp only [hb, beq_self_eq_true, if_true]
  unfold PySem.W.kitCls
  simp only [hi', ht, Bool.true_and]
  exact hs
end
theorem all_mk {w : World} {K : PySem.W.Frag} {h : Heap} {mg : Str → Option Value} {fa : Addr} (X : K.In h) (G0 : h.Ns mainGlobals mg) (hfa : mg "law" = some (.ref fa))
    {f_run_end : Addr} {od_run_end an_run_end : Option Addr} {sl_run_end : Array (Option Value)} {oc_run_end kV_run_end dc_run_end pm_run_end cd_run_end ct_run_end : Value}
    {f_sign_at : Addr} {od_sign_at an_sign_at : Option Addr} {sl_sign_at : Array (Option Value)} {oc_sign_at kV_sign_at dc_sign_at pm_sign_at cd_sign_at ct_sign_at : Value}
    {f_tokens_of : Addr} {od_tokens_of an_tokens_of : Option Addr} {sl_tokens_of : Array (Option Value)} {oc_tokens_of kV_tokens_of dc_tokens_of pm_tokens_of cd_tokens_of ct_tokens_of : Value}
    {f_end_column : Addr} {od_end_column an_end_column : Option Addr} {sl_end_column : Array (Option Value)} {oc_end_column kV_end_column dc_end_column pm_end_column cd_end_column ct_end_column : Value}
    {f_write_thing : Addr} {od_write_thing an_write_thing : Option Addr} {sl_write_thing : Array (Option Value)} {oc_write_thing kV_write_thing dc_write_thing pm_write_thing cd_write_thing ct_write_thing : Value}
    {f_read_thing : Addr} {od_read_thing an_read_thing : Option Addr} {sl_read_thing : Array (Option Value)} {oc_read_thing kV_read_thing dc_read_thing pm_read_thing cd_read_thing ct_read_thing : Value}
    {f__law_begin : Addr} {od__law_begin an__law_begin : Option Addr} {sl__law_begin : Array (Option Value)} {oc__law_begin kV__law_begin dc__law_begin pm__law_begin cd__law_begin ct__law_begin : Value}
    {f__law_draw : Addr} {od__law_draw an__law_draw : Option Addr} {sl__law_draw : Array (Option Value)} {oc__law_draw kV__law_draw dc__law_draw pm__law_draw cd__law_draw ct__law_draw : Value}
    {f__law_is_int : Addr} {od__law_is_int an__law_is_int : Option Addr} {sl__law_is_int : Array (Option Value)} {oc__law_is_int kV__law_is_int dc__law_is_int pm__law_is_int cd__law_is_int ct__law_is_int : Value}
    {f__law_atom : Addr} {od__law_atom an__law_atom : Option Addr} {sl__law_atom : Array (Option Value)} {oc__law_atom kV__law_atom dc__law_atom pm__law_atom cd__law_atom ct__law_atom : Value}
    {f__law_values : Addr} {od__law_values an__law_values : Option Addr} {sl__law_values : Array (Option Value)} {oc__law_values kV__law_values dc__law_values pm__law_values cd__law_values ct__law_values : Value}
    {f__law_sort : Addr} {od__law_sort an__law_sort : Option Addr} {sl__law_sort : Array (Option Value)} {oc__law_sort kV__law_sort dc__law_sort pm__law_sort cd__law_sort ct__law_sort : Value}
    {f__law_spelt : Addr} {od__law_spelt an__law_spelt : Option Addr} {sl__law_spelt : Array (Option Value)} {oc__law_spelt kV__law_spelt dc__law_spelt pm__law_spelt cd__law_spelt ct__law_spelt : Value}
    {f__law_built : Addr} {od__law_built an__law_built : Option Addr} {sl__law_built : Array (Option Value)} {oc__law_built kV__law_built dc__law_built pm__law_built cd__law_built ct__law_built : Value}
    {f__law_fault : Addr} {od__law_fault an__law_fault : Option Addr} {sl__law_fault : Array (Option Value)} {oc__law_fault kV__law_fault dc__law_fault pm__law_fault cd__law_fault ct__law_fault : Value}
    {f__law_damaged : Addr} {od__law_damaged an__law_damaged : Option Addr} {sl__law_damaged : Array (Option Value)} {oc__law_damaged kV__law_damaged dc__law_damaged pm__law_damaged cd__law_damaged ct__law_damaged : Value}
    {f__law_reads_so : Addr} {od__law_reads_so an__law_reads_so : Option Addr} {sl__law_reads_so : Array (Option Value)} {oc__law_reads_so kV__law_reads_so dc__law_reads_so pm__law_reads_so cd__law_reads_so ct__law_reads_so : Value}
    {f_law : Addr} {od_law an_law : Option Addr} {sl_law : Array (Option Value)} {oc_law kV_law dc_law pm_law cd_law ct_law : Value}
    {C_CauseError : Addr}
    {C_TextFault : Addr}
    {C_NotOfKind : Addr}
    {C_DossierFault : Addr}
    {C_DeskFault : Addr}
    {t_MOST_NESTS : Tok}
    {t_LETTERS : Tok}
    {t_FIGURES : Tok}
    {t_LONGEST : Tok}
    {a_SIGNS : Addr} {u0_SIGNS u1_SIGNS u2_SIGNS u3_SIGNS u4_SIGNS u5_SIGNS u6_SIGNS u7_SIGNS u8_SIGNS u9_SIGNS : Tok} {d_SIGNS : Option Addr} {n_SIGNS : Nat} {sl_SIGNS : Array (Option Value)}
    {t_MOST_FIGURES : Tok}
    {i_TextFault cc cda : Addr} {ocI kVI docI pmI ctI : Value} {odI anI : Option Addr} {oslI : Array (Option Value)} {ccl : Value} {cdd : Option Addr} {vsC : Array Value} {ccs : Array (Option Value)} {cl : Value} {cld : Option Addr} {csl : Array (Option Value)} {nm q : Str} {NC : Addr} {bs : List Value} {sn : List Str} {sub : List Value} {ab : Bool} {col : Option Bool} {dd : Option Addr} {m0 m1 m2 m3 m5 : Option Value}
    (a_run_end : PySem.W.nsIn K mainGlobals "run_end" = some (some (.ref f_run_end)))
    (l_run_end : K.lookup f_run_end = some ⟨oc_run_end, od_run_end, .func (PySem.W.fnOf "run_end" "run_end" (defArgs s_run_end) (defBody s_run_end) (defScope s_run_end) .none kV_run_end dc_run_end pm_run_end an_run_end cd_run_end ct_run_end), sl_run_end⟩)
    (c_run_end : PySem.W.codeIn K cd_run_end "run_end" = true)
    (k_run_end : PySem.W.keepIn K (.ref f_run_end) = true)
    (a_sign_at : PySem.W.nsIn K mainGlobals "sign_at" = some (some (.ref f_sign_at)))
    (l_sign_at : K.lookup f_sign_at = some ⟨oc_sign_at, od_sign_at, .func (PySem.W.fnOf "sign_at" "sign_at" (defArgs s_sign_at) (defBody s_sign_at) (defScope s_sign_at) .none kV_sign_at dc_sign_at pm_sign_at an_sign_at cd_sign_at ct_sign_at), sl_sign_at⟩)
    (c_sign_at : PySem.W.codeIn K cd_sign_at "sign_at" = true)
    (k_sign_at : PySem.W.keepIn K (.ref f_sign_at) = true)
    (a_tokens_of : PySem.W.nsIn K mainGlobals "tokens_of" = some (some (.ref f_tokens_of)))
    (l_tokens_of : K.lookup f_tokens_of = some ⟨oc_tokens_of, od_tokens_of, .func (PySem.W.fnOf "tokens_of" "tokens_of" (defArgs s_tokens_of) (defBody s_tokens_of) (defScope s_tokens_of) .none kV_tokens_of dc_tokens_of pm_tokens_of an_tokens_of cd_tokens_of ct_tokens_of), sl_tokens_of⟩)
    (c_tokens_of : PySem.W.codeIn K cd_tokens_of "tokens_of" = true)
    (k_tokens_of : PySem.W.keepIn K (.ref f_tokens_of) = true)
    (a_end_column : PySem.W.nsIn K mainGlobals "end_column" = some (some (.ref f_end_column)))
    (l_end_column : K.lookup f_end_column = some ⟨oc_end_column, od_end_column, .func (PySem.W.fnOf "end_column" "end_column" (defArgs s_end_column) (defBody s_end_column) (defScope s_end_column) .none kV_end_column dc_end_column pm_end_column an_end_column cd_end_column ct_end_column), sl_end_column⟩)
    (c_end_column : PySem.W.codeIn K cd_end_column "end_column" = true)
    (k_end_column : PySem.W.keepIn K (.ref f_end_column) = true)
    (a_write_thing : PySem.W.nsIn K mainGlobals "write_thing" = some (some (.ref f_write_thing)))
    (l_write_thing : K.lookup f_write_thing = some ⟨oc_write_thing, od_write_thing, .func (PySem.W.fnOf "write_thing" "write_thing" (defArgs s_write_thing) (defBody s_write_thing) (defScope s_write_thing) .none kV_write_thing dc_write_thing pm_write_thing an_write_thing cd_write_thing ct_write_thing), sl_write_thing⟩)
    (c_write_thing : PySem.W.codeIn K cd_write_thing "write_thing" = true)
    (k_write_thing : PySem.W.keepIn K (.ref f_write_thing) = true)
    (a_read_thing : PySem.W.nsIn K mainGlobals "read_thing" = some (some (.ref f_read_thing)))
    (l_read_thing : K.lookup f_read_thing = some ⟨oc_read_thing, od_read_thing, .func (PySem.W.fnOf "read_thing" "read_thing" (defArgs s_read_thing) (defBody s_read_thing) (defScope s_read_thing) .none kV_read_thing dc_read_thing pm_read_thing an_read_thing cd_read_thing ct_read_thing), sl_read_thing⟩)
    (c_read_thing : PySem.W.codeIn K cd_read_thing "read_thing" = true)
    (k_read_thing : PySem.W.keepIn K (.ref f_read_thing) = true)
    (a__law_begin : PySem.W.nsIn K mainGlobals "_law_begin" = some (some (.ref f__law_begin)))
    (l__law_begin : K.lookup f__law_begin = some ⟨oc__law_begin, od__law_begin, .func (PySem.W.fnOf "_law_begin" "_law_begin" (defArgs s__law_begin) (defBody s__law_begin) (defScope s__law_begin) .none kV__law_begin dc__law_begin pm__law_begin an__law_begin cd__law_begin ct__law_begin), sl__law_begin⟩)
    (c__law_begin : PySem.W.codeIn K cd__law_begin "_law_begin" = true)
    (k__law_begin : PySem.W.keepIn K (.ref f__law_begin) = true)
    (a__law_draw : PySem.W.nsIn K mainGlobals "_law_draw" = some (some (.ref f__law_draw)))
    (l__law_draw : K.lookup f__law_draw = some ⟨oc__law_draw, od__law_draw, .func (PySem.W.fnOf "_law_draw" "_law_draw" (defArgs s__law_draw) (defBody s__law_draw) (defScope s__law_draw) .none kV__law_draw dc__law_draw pm__law_draw an__law_draw cd__law_draw ct__law_draw), sl__law_draw⟩)
    (c__law_draw : PySem.W.codeIn K cd__law_draw "_law_draw" = true)
    (k__law_draw : PySem.W.keepIn K (.ref f__law_draw) = true)
    (a__law_is_int : PySem.W.nsIn K mainGlobals "_law_is_int" = some (some (.ref f__law_is_int)))
    (l__law_is_int : K.lookup f__law_is_int = some ⟨oc__law_is_int, od__law_is_int, .func (PySem.W.fnOf "_law_is_int" "_law_is_int" (defArgs s__law_is_int) (defBody s__law_is_int) (defScope s__law_is_int) .none kV__law_is_int dc__law_is_int pm__law_is_int an__law_is_int cd__law_is_int ct__law_is_int), sl__law_is_int⟩)
    (c__law_is_int : PySem.W.codeIn K cd__law_is_int "_law_is_int" = true)
    (k__law_is_int : PySem.W.keepIn K (.ref f__law_is_int) = true)
    (a__law_atom : PySem.W.nsIn K mainGlobals "_law_atom" = some (some (.ref f__law_atom)))
    (l__law_atom : K.lookup f__law_atom = some ⟨oc__law_atom, od__law_atom, .func (PySem.W.fnOf "_law_atom" "_law_atom" (defArgs s__law_atom) (defBody s__law_atom) (defScope s__law_atom) .none kV__law_atom dc__law_atom pm__law_atom an__law_atom cd__law_atom ct__law_atom), sl__law_atom⟩)
    (c__law_atom : PySem.W.codeIn K cd__law_atom "_law_atom" = true)
    (k__law_atom : PySem.W.keepIn K (.ref f__law_atom) = true)
    (a__law_values : PySem.W.nsIn K mainGlobals "_law_values" = some (some (.ref f__law_values)))
    (l__law_values : K.lookup f__law_values = some ⟨oc__law_values, od__law_values, .func (PySem.W.fnOf "_law_values" "_law_values" (defArgs s__law_values) (defBody s__law_values) (defScope s__law_values) .none kV__law_values dc__law_values pm__law_values an__law_values cd__law_values ct__law_values), sl__law_values⟩)
    (c__law_values : PySem.W.codeIn K cd__law_values "_law_values" = true)
    (k__law_values : PySem.W.keepIn K (.ref f__law_values) = true)
    (a__law_sort : PySem.W.nsIn K mainGlobals "_law_sort" = some (some (.ref f__law_sort)))
    (l__law_sort : K.lookup f__law_sort = some ⟨oc__law_sort, od__law_sort, .func (PySem.W.fnOf "_law_sort" "_law_sort" (defArgs s__law_sort) (defBody s__law_sort) (defScope s__law_sort) .none kV__law_sort dc__law_sort pm__law_sort an__law_sort cd__law_sort ct__law_sort), sl__law_sort⟩)
    (c__law_sort : PySem.W.codeIn K cd__law_sort "_law_sort" = true)
    (k__law_sort : PySem.W.keepIn K (.ref f__law_sort) = true)
    (a__law_spelt : PySem.W.nsIn K mainGlobals "_law_spelt" = some (some (.ref f__law_spelt)))
    (l__law_spelt : K.lookup f__law_spelt = some ⟨oc__law_spelt, od__law_spelt, .func (PySem.W.fnOf "_law_spelt" "_law_spelt" (defArgs s__law_spelt) (defBody s__law_spelt) (defScope s__law_spelt) .none kV__law_spelt dc__law_spelt pm__law_spelt an__law_spelt cd__law_spelt ct__law_spelt), sl__law_spelt⟩)
    (c__law_spelt : PySem.W.codeIn K cd__law_spelt "_law_spelt" = true)
    (k__law_spelt : PySem.W.keepIn K (.ref f__law_spelt) = true)
    (a__law_built : PySem.W.nsIn K mainGlobals "_law_built" = some (some (.ref f__law_built)))
    (l__law_built : K.lookup f__law_built = some ⟨oc__law_built, od__law_built, .func (PySem.W.fnOf "_law_built" "_law_built" (defArgs s__law_built) (defBody s__law_built) (defScope s__law_built) .none kV__law_built dc__law_built pm__law_built an__law_built cd__law_built ct__law_built), sl__law_built⟩)
    (c__law_built : PySem.W.codeIn K cd__law_built "_law_built" = true)
    (k__law_built : PySem.W.keepIn K (.ref f__law_built) = true)
    (a__law_fault : PySem.W.nsIn K mainGlobals "_law_fault" = some (some (.ref f__law_fault)))
    (l__law_fault : K.lookup f__law_fault = some ⟨oc__law_fault, od__law_fault, .func (PySem.W.fnOf "_law_fault" "_law_fault" (defArgs s__law_fault) (defBody s__law_fault) (defScope s__law_fault) .none kV__law_fault dc__law_fault pm__law_fault an__law_fault cd__law_fault ct__law_fault), sl__law_fault⟩)
    (c__law_fault : PySem.W.codeIn K cd__law_fault "_law_fault" = true)
    (k__law_fault : PySem.W.keepIn K (.ref f__law_fault) = true)
    (a__law_damaged : PySem.W.nsIn K mainGlobals "_law_damaged" = some (some (.ref f__law_damaged)))
    (l__law_damaged : K.lookup f__law_damaged = some ⟨oc__law_damaged, od__law_damaged, .func (PySem.W.fnOf "_law_damaged" "_law_damaged" (defArgs s__law_damaged) (defBody s__law_damaged) (defScope s__law_damaged) .none kV__law_damaged dc__law_damaged pm__law_damaged an__law_damaged cd__law_damaged ct__law_damaged), sl__law_damaged⟩)
    (c__law_damaged : PySem.W.codeIn K cd__law_damaged "_law_damaged" = true)
    (k__law_damaged : PySem.W.keepIn K (.ref f__law_damaged) = true)
    (a__law_reads_so : PySem.W.nsIn K mainGlobals "_law_reads_so" = some (some (.ref f__law_reads_so)))
    (l__law_reads_so : K.lookup f__law_reads_so = some ⟨oc__law_reads_so, od__law_reads_so, .func (PySem.W.fnOf "_law_reads_so" "_law_reads_so" (defArgs s__law_reads_so) (defBody s__law_reads_so) (defScope s__law_reads_so) .none kV__law_reads_so dc__law_reads_so pm__law_reads_so an__law_reads_so cd__law_reads_so ct__law_reads_so), sl__law_reads_so⟩)
    (c__law_reads_so : PySem.W.codeIn K cd__law_reads_so "_law_reads_so" = true)
    (k__law_reads_so : PySem.W.keepIn K (.ref f__law_reads_so) = true)
    (a_law : PySem.W.nsIn K mainGlobals "law" = some (some (.ref f_law)))
    (l_law : K.lookup f_law = some ⟨oc_law, od_law, .func (PySem.W.fnOf "law" "law" (defArgs s_law) (defBody s_law) (defScope s_law) .none kV_law dc_law pm_law an_law cd_law ct_law), sl_law⟩)
    (c_law : PySem.W.codeIn K cd_law "law" = true)
    (k_law : PySem.W.keepIn K (.ref f_law) = true)
    (a_CauseError : PySem.W.nsIn K mainGlobals "CauseError" = some (some (.ref C_CauseError)))
    (a_TextFault : PySem.W.nsIn K mainGlobals "TextFault" = some (some (.ref C_TextFault)))
    (a_NotOfKind : PySem.W.nsIn K mainGlobals "NotOfKind" = some (some (.ref C_NotOfKind)))
    (a_DossierFault : PySem.W.nsIn K mainGlobals "DossierFault" = some (some (.ref C_DossierFault)))
    (a_DeskFault : PySem.W.nsIn K mainGlobals "DeskFault" = some (some (.ref C_DeskFault)))
    (a_MOST_NESTS : PySem.W.nsIn K mainGlobals "MOST_NESTS" = some (some (.int 8 t_MOST_NESTS)))
    (a_LETTERS : PySem.W.nsIn K mainGlobals "LETTERS" = some (some (.str "abcdefghijklmnopqrstuvwxyz" t_LETTERS)))
    (a_FIGURES : PySem.W.nsIn K mainGlobals "FIGURES" = some (some (.str "0123456789" t_FIGURES)))
    (a_LONGEST : PySem.W.nsIn K mainGlobals "LONGEST" = some (some (.int 12 t_LONGEST)))
    (g_SIGNS : PySem.W.nsIn K mainGlobals "SIGNS" = some (some (.ref a_SIGNS)))
    (l_SIGNS : K.lookup a_SIGNS = some ⟨.type "tuple", d_SIGNS, .seq #[.str "==" u0_SIGNS, .str "<" u1_SIGNS, .str "+" u2_SIGNS, .str "-" u3_SIGNS, .str "*" u4_SIGNS, .str "/" u5_SIGNS, .str "(" u6_SIGNS, .str ")" u7_SIGNS, .str "," u8_SIGNS, .str ":" u9_SIGNS] n_SIGNS, sl_SIGNS⟩)
    (a_MOST_FIGURES : PySem.W.nsIn K mainGlobals "MOST_FIGURES" = some (some (.int 40 t_MOST_FIGURES)))
    (n_len : PySem.W.nsIn K mainGlobals "len" = some none)
    (n_abs : PySem.W.nsIn K mainGlobals "abs" = some none)
    (n_int : PySem.W.nsIn K mainGlobals "int" = some none)
    (n_isinstance : PySem.W.nsIn K mainGlobals "isinstance" = some none)
    (n_str : PySem.W.nsIn K mainGlobals "str" = some none)
    (n_tuple : PySem.W.nsIn K mainGlobals "tuple" = some none)
    (n_list : PySem.W.nsIn K mainGlobals "list" = some none)
    (n_repr : PySem.W.nsIn K mainGlobals "repr" = some none)
    (n_range : PySem.W.nsIn K mainGlobals "range" = some none)
    (n_enumerate : PySem.W.nsIn K mainGlobals "enumerate" = some none)
    (n_max : PySem.W.nsIn K mainGlobals "max" = some none)
    (n_bool : PySem.W.nsIn K mainGlobals "bool" = some none)
    (xL : K.lookup C_TextFault = some (excClassObj nm q C_TextFault NC bs [.ref C_CauseError, .type "ValueError", .type "Exception", .type "BaseException", .type "object"] true sn sub ab col dd m0 m1 m2 m3 m5 "ValueError.__new__"))
    (sa : PySem.W.findIn K (.ref C_TextFault) "__setattr__" = some (some (.builtin "object.__setattr__")))
    (ga : PySem.W.findIn K (.ref C_TextFault) "__getattribute__" = some (some (.builtin "BaseException.__getattribute__")))
    (gg : PySem.W.findIn K (.ref C_TextFault) "__getattr__" = some none)
    (nr : PySem.W.findIn K (.ref C_TextFault) "row" = some none)
    (nc : PySem.W.findIn K (.ref C_TextFault) "column" = some none)
    (ns : PySem.W.findIn K (.ref C_TextFault) "reason" = some none)
    (ini : PySem.W.findIn K (.ref C_TextFault) "__init__" = some (some (.ref i_TextFault)))
    (ti : PySem.W.typeIn K (.ref i_TextFault) = some (.type "function"))
    (li : K.lookup i_TextFault = some ⟨ocI, odI, .func (PySem.W.ksFn "__init__" "TextFault.__init__" (defArgs (inClass (top 2) 0)) (defBody (inClass (top 2) 0)) (defScope (inClass (top 2) 0)) .none kVI docI pmI anI (.ref cda) ctI cc), oslI⟩)
    (ci : PySem.W.codeIn K (.ref cda) "TextFault.__init__" = true)
    (lc : K.lookup cda = some ⟨ccl, cdd, .fields vsC, ccs⟩)
    (le : K.lookup cc = some ⟨cl, cld, .cell (some (.ref C_TextFault)), csl⟩)
    (exC : PySem.W.subIn K (.ref C_TextFault) (.type "BaseException") = some true)
    (tyC : PySem.W.typeIn K (.ref C_TextFault) = some (.type "type"))
    (kC : PySem.W.keepIn K (.ref C_TextFault) = true)
    (hdC : PySem.W.hasDictIn K C_TextFault = true)
    (isC : PySem.W.isClsIn K C_TextFault = true)
    (mro : PySem.W.mroIn K C_TextFault (.ref C_TextFault) = some true)
    (sup : PySem.W.ks_superIn K C_TextFault C_TextFault "__init__" = some (some (.builtin "ValueError.__init__")))
    (sVE : PySem.W.subIn K (.ref C_TextFault) (.type "ValueError") = some true)
    (opq : PySem.W.nsIn K cStatics "thirdparty.any" = some none)
    (nS : PySem.W.nsIn K mainGlobals "super" = some none)
    (cla : PySem.W.findIn K (.ref C_TextFault) "__class__" = some (some (.builtin "object.__class__")))
    (spe : PySem.W.specialIn K (.builtin "object.__class__") "__get__" = some (some (.builtin "getset_descriptor.__get__")))
    (tak : PySem.W.takesIn K (.builtin "object.__class__") = some true)
    (mob : PySem.W.mroIn K C_TextFault (.type "object") = some true)
    (is1 : PySem.W.isClsIn K C_DeskFault = true)
    (ty1 : PySem.W.typeIn K (.ref C_DeskFault) = some (.type "type"))
    (su1 : PySem.W.subIn K (.ref C_TextFault) (.ref C_DeskFault) = some false)
    (ne1 : ((Value.ref C_TextFault : Value) == .ref C_DeskFault) = false)
    (is2 : PySem.W.isClsIn K C_DossierFault = true)
    (ty2 : PySem.W.typeIn K (.ref C_DossierFault) = some (.type "type"))
    (su2 : PySem.W.subIn K (.ref C_TextFault) (.ref C_DossierFault) = some false)
    (ne2 : ((Value.ref C_TextFault : Value) == .ref C_DossierFault) = false)
    (is3 : PySem.W.isClsIn K C_NotOfKind = true)
    (ty3 : PySem.W.typeIn K (.ref C_NotOfKind) = some (.type "type"))
    (su3 : PySem.W.subIn K (.ref C_TextFault) (.ref C_NotOfKind) = some false)
    (ne3 : ((Value.ref C_TextFault : Value) == .ref C_NotOfKind) = false)
    (sCC : PySem.W.subIn K (.ref C_TextFault) (.ref C_TextFault) = some true)
    (vF : ∃ (file : Str) (tf : Tok), vsC[2]? = some (.str file tf) ∧ ((PySem.Challenge.pw_causewrit_k85_things_there_and_back.main.file : Str) == file) = true)
    : ∃ fd : FuncData, (∀ (s : Shared) (u : Value), BindsTo s fd ⟨[u], []⟩ [("script", u)]) ∧ ∀ base : Heap, K.In base → base.Ns mainGlobals mg → OkG PySem.Challenge.pw_causewrit_k85_things_there_and_back w K mg base CX0 6 fa fd ["script"] (sp_law K) := by
  have e := hfa.symm.trans (PySem.W.mg_of X G0 a_law)
  cases e
  let ad : Ad := {
    f_run_end := f_run_end
    d_run_end := PySem.W.fnOf "run_end" "run_end" (defArgs s_run_end) (defBody s_run_end) (defScope s_run_end) .none kV_run_end dc_run_end pm_run_end an_run_end cd_run_end ct_run_end
    f_sign_at := f_sign_at
    d_sign_at := PySem.W.fnOf "sign_at" "sign_at" (defArgs s_sign_at) (defBody s_sign_at) (defScope s_sign_at) .none kV_sign_at dc_sign_at pm_sign_at an_sign_at cd_sign_at ct_sign_at
    f_tokens_of := f_tokens_of
    d_tokens_of := PySem.W.fnOf "tokens_of" "tokens_of" (defArgs s_tokens_of) (defBody s_tokens_of) (defScope s_tokens_of) .none kV_tokens_of dc_tokens_of pm_tokens_of an_tokens_of cd_tokens_of ct_tokens_of
    f_end_column := f_end_column
    d_end_column := PySem.W.fnOf "end_column" "end_column" (defArgs s_end_column) (defBody s_end_column) (defScope s_end_column) .none kV_end_column dc_end_column pm_end_column an_end_column cd_end_column ct_end_column
    f_write_thing := f_write_thing
    d_write_thing := PySem.W.fnOf "write_thing" "write_thing" (defArgs s_write_thing) (defBody s_write_thing) (defScope s_write_thing) .none kV_write_thing dc_write_thing pm_write_thing an_write_thing cd_write_thing ct_write_thing
    f_read_thing := f_read_thing
    d_read_thing := PySem.W.fnOf "read_thing" "read_thing" (defArgs s_read_thing) (defBody s_read_thing) (defScope s_read_thing) .none kV_read_thing dc_read_thing pm_read_thing an_read_thing cd_read_thing ct_read_thing
    f__law_begin := f__law_begin
    d__law_begin := PySem.W.fnOf "_law_begin" "_law_begin" (defArgs s__law_begin) (defBody s__law_begin) (defScope s__law_begin) .none kV__law_begin dc__law_begin pm__law_begin an__law_begin cd__law_begin ct__law_begin
    f__law_draw := f__law_draw
    d__law_draw := PySem.W.fnOf "_law_draw" "_law_draw" (defArgs s__law_draw) (defBody s__law_draw) (defScope s__law_draw) .none kV__law_draw dc__law_draw pm__law_draw an__law_draw cd__law_draw ct__law_draw
    f__law_is_int := f__law_is_int
    d__law_is_int := PySem.W.fnOf "_law_is_int" "_law_is_int" (defArgs s__law_is_int) (defBody s__law_is_int) (defScope s__law_is_int) .none kV__law_is_int dc__law_is_int pm__law_is_int an__law_is_int cd__law_is_int ct__law_is_int
    f__law_atom := f__law_atom
    d__law_atom := PySem.W.fnOf "_law_atom" "_law_atom" (defArgs s__law_atom) (defBody s__law_atom) (defScope s__law_atom) .none kV__law_atom dc__law_atom pm__law_atom an__law_atom cd__law_atom ct__law_atom
    f__law_values := f__law_values
    d__law_values := PySem.W.fnOf "_law_values" "_law_values" (defArgs s__law_values) (defBody s__law_values) (defScope s__law_values) .none kV__law_values dc__law_values pm__law_values an__law_values cd__law_values ct__law_values
    f__law_sort := f__law_sort
    d__law_sort := PySem.W.fnOf "_law_sort" "_law_sort" (defArgs s__law_sort) (defBody s__law_sort) (defScope s__law_sort) .none kV__law_sort dc__law_sort pm__law_sort an__law_sort cd__law_sort ct__law_sort
    f__law_spelt := f__law_spelt
    d__law_spelt := PySem.W.fnOf "_law_spelt" "_law_spelt" (defArgs s__law_spelt) (defBody s__law_spelt) (defScope s__law_spelt) .none kV__law_spelt dc__law_spelt pm__law_spelt an__law_spelt cd__law_spelt ct__law_spelt
    f__law_built := f__law_built
    d__law_built := PySem.W.fnOf "_law_built" "_law_built" (defArgs s__law_built) (defBody s__law_built) (defScope s__law_built) .none kV__law_built dc__law_built pm__law_built an__law_built cd__law_built ct__law_built
    f__law_fault := f__law_fault
    d__law_fault := PySem.W.fnOf "_law_fault" "_law_fault" (defArgs s__law_fault) (defBody s__law_fault) (defScope s__law_fault) .none kV__law_fault dc__law_fault pm__law_fault an__law_fault cd__law_fault ct__law_fault
    f__law_damaged := f__law_damaged
    d__law_damaged := PySem.W.fnOf "_law_damaged" "_law_damaged" (defArgs s__law_damaged) (defBody s__law_damaged) (defScope s__law_damaged) .none kV__law_damaged dc__law_damaged pm__law_damaged an__law_damaged cd__law_damaged ct__law_damaged
    f__law_reads_so := f__law_reads_so
    d__law_reads_so := PySem.W.fnOf "_law_reads_so" "_law_reads_so" (defArgs s__law_reads_so) (defBody s__law_reads_so) (defScope s__law_reads_so) .none kV__law_reads_so dc__law_reads_so pm__law_reads_so an__law_reads_so cd__law_reads_so ct__law_reads_so
    f_law := fa
    d_law := PySem.W.fnOf "law" "law" (defArgs s_law) (defBody s_law) (defScope s_law) .none kV_law dc_law pm_law an_law cd_law ct_law
    C_CauseError := C_CauseError
    C_TextFault := C_TextFault
    C_NotOfKind := C_NotOfKind
    C_DossierFault := C_DossierFault
    C_DeskFault := C_DeskFault
    i_TextFault := i_TextFault
    e_TextFault := PySem.W.ksFn "__init__" "TextFault.__init__" (defArgs (inClass (top 2) 0)) (defBody (inClass (top 2) 0)) (defScope (inClass (top 2) 0)) .none kVI docI pmI anI (.ref cda) ctI cc
    t_MOST_NESTS := t_MOST_NESTS
    t_LETTERS := t_LETTERS
    t_FIGURES := t_FIGURES
    t_LONGEST := t_LONGEST
    a_SIGNS := a_SIGNS
    t_MOST_FIGURES := t_MOST_FIGURES
  }
  have oex : OexC K C_TextFault := ⟨⟨nm, q, NC, bs, _, sn, sub, ab, col, dd, m0, m1, m2, m3, m5, xL, rfl⟩, sa, exC, tyC, kC⟩
  have T : Txt PySem.Challenge.pw_causewrit_k85_things_there_and_back K mg ad := {
    g_run_end := PySem.W.mg_of X G0 a_run_end
    F_run_end := fun_mk (st := s_run_end) l_run_end c_run_end k_run_end
    b_run_end := (fun_mk (st := s_run_end) l_run_end c_run_end k_run_end).binds (ps := ["line", "place", "signs"]) fun _ _ _ _ _ _ us hl => match us, hl with | [_, _, _], _ => rfl
    g_sign_at := PySem.W.mg_of X G0 a_sign_at
    F_sign_at := fun_mk (st := s_sign_at) l_sign_at c_sign_at k_sign_at
    b_sign_at := (fun_mk (st := s_sign_at) l_sign_at c_sign_at k_sign_at).binds (ps := ["line", "place"]) fun _ _ _ _ _ _ us hl => match us, hl with | [_, _], _ => rfl
    g_tokens_of := PySem.W.mg_of X G0 a_tokens_of
    F_tokens_of := fun_mk (st := s_tokens_of) l_tokens_of c_tokens_of k_tokens_of
    b_tokens_of := (fun_mk (st := s_tokens_of) l_tokens_of c_tokens_of k_tokens_of).binds (ps := ["line", "row"]) fun _ _ _ _ _ _ us hl => match us, hl with | [_, _], _ => rfl
    g_end_column := PySem.W.mg_of X G0 a_end_column
    F_end_column := fun_mk (st := s_end_column) l_end_column c_end_column k_end_column
    b_end_column := (fun_mk (st := s_end_column) l_end_column c_end_column k_end_column).binds (ps := ["tokens"]) fun _ _ _ _ _ _ us hl => match us, hl with | [_], _ => rfl
    g_write_thing := PySem.W.mg_of X G0 a_write_thing
    F_write_thing := fun_mk (st := s_write_thing) l_write_thing c_write_thing k_write_thing
    b_write_thing := (fun_mk (st := s_write_thing) l_write_thing c_write_thing k_write_thing).binds (ps := ["thing"]) fun _ _ _ _ _ _ us hl => match us, hl with | [_], _ => rfl
    g_read_thing := PySem.W.mg_of X G0 a_read_thing
    F_read_thing := fun_mk (st := s_read_thing) l_read_thing c_read_thing k_read_thing
    b_read_thing := (fun_mk (st := s_read_thing) l_read_thing c_read_thing k_read_thing).binds (ps := ["tokens", "row"]) fun _ _ _ _ _ _ us hl => match us, hl with | [_, _], _ => rfl
    g__law_begin := PySem.W.mg_of X G0 a__law_begin
    F__law_begin := fun_mk (st := s__law_begin) l__law_begin c__law_begin k__law_begin
    b__law_begin := (fun_mk (st := s__law_begin) l__law_begin c__law_begin k__law_begin).binds (ps := ["script"]) fun _ _ _ _ _ _ us hl => match us, hl with | [_], _ => rfl
    g__law_draw := PySem.W.mg_of X G0 a__law_draw
    F__law_draw := fun_mk (st := s__law_draw) l__law_draw c__law_draw k__law_draw
    b__law_draw := (fun_mk (st := s__law_draw) l__law_draw c__law_draw k__law_draw).binds (ps := ["d", "many"]) fun _ _ _ _ _ _ us hl => match us, hl with | [_, _], _ => rfl
    g__law_is_int := PySem.W.mg_of X G0 a__law_is_int
    F__law_is_int := fun_mk (st := s__law_is_int) l__law_is_int c__law_is_int k__law_is_int
    b__law_is_int := (fun_mk (st := s__law_is_int) l__law_is_int c__law_is_int k__law_is_int).binds (ps := ["thing"]) fun _ _ _ _ _ _ us hl => match us, hl with | [_], _ => rfl
    g__law_atom := PySem.W.mg_of X G0 a__law_atom
    F__law_atom := fun_mk (st := s__law_atom) l__law_atom c__law_atom k__law_atom
    b__law_atom := (fun_mk (st := s__law_atom) l__law_atom c__law_atom k__law_atom).binds (ps := ["d"]) fun _ _ _ _ _ _ us hl => match us, hl with | [_], _ => rfl
    g__law_values := PySem.W.mg_of X G0 a__law_values
    F__law_values := fun_mk (st := s__law_values) l__law_values c__law_values k__law_values
    b__law_values := (fun_mk (st := s__law_values) l__law_values c__law_values k__law_values).binds (ps := ["d"]) fun _ _ _ _ _ _ us hl => match us, hl with | [_], _ => rfl
    g__law_sort := PySem.W.mg_of X G0 a__law_sort
    F__law_sort := fun_mk (st := s__law_sort) l__law_sort c__law_sort k__law_sort
    b__law_sort := (fun_mk (st := s__law_sort) l__law_sort c__law_sort k__law_sort).binds (ps := ["value"]) fun _ _ _ _ _ _ us hl => match us, hl with | [_], _ => rfl
    g__law_spelt := PySem.W.mg_of X G0 a__law_spelt
    F__law_spelt := fun_mk (st := s__law_spelt) l__law_spelt c__law_spelt k__law_spelt
    b__law_spelt := (fun_mk (st := s__law_spelt) l__law_spelt c__law_spelt k__law_spelt).binds (ps := ["d", "values", "is_loose"]) fun _ _ _ _ _ _ us hl => match us, hl with | [_, _, _], _ => rfl
    g__law_built := PySem.W.mg_of X G0 a__law_built
    F__law_built := fun_mk (st := s__law_built) l__law_built c__law_built k__law_built
    b__law_built := (fun_mk (st := s__law_built) l__law_built c__law_built k__law_built).binds (ps := ["tokens"]) fun _ _ _ _ _ _ us hl => match us, hl with | [_], _ => rfl
    g__law_fault := PySem.W.mg_of X G0 a__law_fault
    F__law_fault := fun_mk (st := s__law_fault) l__law_fault c__law_fault k__law_fault
    b__law_fault := (fun_mk (st := s__law_fault) l__law_fault c__law_fault k__law_fault).binds (ps := ["tokens"]) fun _ _ _ _ _ _ us hl => match us, hl with | [_], _ => rfl
    g__law_damaged := PySem.W.mg_of X G0 a__law_damaged
    F__law_damaged := fun_mk (st := s__law_damaged) l__law_damaged c__law_damaged k__law_damaged
    b__law_damaged := (fun_mk (st := s__law_damaged) l__law_damaged c__law_damaged k__law_damaged).binds (ps := ["d", "values"]) fun _ _ _ _ _ _ us hl => match us, hl with | [_, _], _ => rfl
    g__law_reads_so := PySem.W.mg_of X G0 a__law_reads_so
    F__law_reads_so := fun_mk (st := s__law_reads_so) l__law_reads_so c__law_reads_so k__law_reads_so
    b__law_reads_so := (fun_mk (st := s__law_reads_so) l__law_reads_so c__law_reads_so k__law_reads_so).binds (ps := ["tokens", "row"]) fun _ _ _ _ _ _ us hl => match us, hl with | [_, _], _ => rfl
    g_law := PySem.W.mg_of X G0 a_law
    F_law := fun_mk (st := s_law) l_law c_law k_law
    b_law := (fun_mk (st := s_law) l_law c_law k_law).binds (ps := ["script"]) fun _ _ _ _ _ _ us hl => match us, hl with | [_], _ => rfl
    g_CauseError := PySem.W.mg_of X G0 a_CauseError
    g_TextFault := PySem.W.mg_of X G0 a_TextFault
    g_NotOfKind := PySem.W.mg_of X G0 a_NotOfKind
    g_DossierFault := PySem.W.mg_of X G0 a_DossierFault
    g_DeskFault := PySem.W.mg_of X G0 a_DeskFault
    c_MOST_NESTS := PySem.W.mg_of X G0 a_MOST_NESTS
    c_LETTERS := PySem.W.mg_of X G0 a_LETTERS
    c_FIGURES := PySem.W.mg_of X G0 a_FIGURES
    c_LONGEST := PySem.W.mg_of X G0 a_LONGEST
    c_SIGNS := PySem.W.mg_of X G0 g_SIGNS
    q_SIGNS := fun H => .inr ⟨_, _, _, l_SIGNS, rfl, rfl, (by show 10 ≤ sizeLine; decide), (.cons ⟨_, rfl⟩ (.cons ⟨_, rfl⟩ (.cons ⟨_, rfl⟩ (.cons ⟨_, rfl⟩ (.cons ⟨_, rfl⟩ (.cons ⟨_, rfl⟩ (.cons ⟨_, rfl⟩ (.cons ⟨_, rfl⟩ (.cons ⟨_, rfl⟩ (.cons ⟨_, rfl⟩ .nil))))))))))⟩
    c_MOST_FIGURES := PySem.W.mg_of X G0 a_MOST_FIGURES
    n_len := PySem.W.mg_none_of X G0 n_len
    n_abs := PySem.W.mg_none_of X G0 n_abs
    n_int := PySem.W.mg_none_of X G0 n_int
    n_isinstance := PySem.W.mg_none_of X G0 n_isinstance
    n_str := PySem.W.mg_none_of X G0 n_str
    n_tuple := PySem.W.mg_none_of X G0 n_tuple
    n_list := PySem.W.mg_none_of X G0 n_list
    n_repr := PySem.W.mg_none_of X G0 n_repr
    n_range := PySem.W.mg_none_of X G0 n_range
    n_enumerate := PySem.W.mg_none_of X G0 n_enumerate
    n_max := PySem.W.mg_none_of X G0 n_max
    n_bool := PySem.W.mg_none_of X G0 n_bool
    oex_TextFault := oex
    ini_TextFault := ini
    typ_TextFault := ti
    b_TextFault := .all fun us hl => match us, hl with | [_, _, _, _], _ => rfl
    init_TextFault := ⟨cc, cda, ocI, odI, kVI, docI, pmI, ctI, anI, oslI, ⟨oex, (by obtain ⟨file, tf, h1, h2⟩ := vF; exact ⟨_, _, vsC, _, file, tf, lc, h1, h2⟩), ⟨_, _, _, le⟩, mro, sup, sVE, opq, PySem.W.mg_none_of X G0 nS, by decide +kernel⟩, rfl, li, ci⟩
    xf_TextFault := ⟨ga, gg, exC, hdC⟩
    no_TextFault_row := nr
    no_TextFault_column := nc
    no_TextFault_reason := ns
    ec_TextFault := ⟨isC, ga, gg, exC, cla, spe, tak, mob⟩
    k1_TextFault := kit3 (kit_no ne1 is1 ty1 su1) (kit_no ne2 is2 ty2 su2) (kit_no ne3 is3 ty3 su3)
    ex_TextFault := exm_of exC isC tyC sCC
  }
  exact ⟨ad.d_law, fun s u => .of_eq rfl, fun base _ _ => ok_law T⟩

end T85

open PySem PySem.W PyProof.Rows in
set_option maxRecDepth 100000 in
set_option maxHeartbeats 0 in
theorem PySem.Challenge.cw_causewrit_k85_things_there_and_back_holds : PySem.Challenge.rw_causewrit_k85_things_there_and_back.Holds := by
  w_on; o_law; k_head; (case hw => w_witness2)
  k_fill
  refine CW.walk_G (l := PySem.Challenge.rw_causewrit_k85_things_there_and_back) (n := 63) (k := 6) (x := "script") (sp := T85.sp_law) rfl (by decide) rfl ⟨rfl, by decide, by decide⟩ (fun w h Y => PySem.W.kIn_of Y) ?F (fun K H b zs hl _ hS => ⟨b, zs, rfl, hS, hl, fun _ => rfl⟩)
  case F =>
    intro w mg fa h KX G hmg
    refine' T85.all_mk KX G hmg ?zq_a_run_end ?zq_l_run_end ?zq_c_run_end ?zq_k_run_end ?zq_a_sign_at ?zq_l_sign_at ?zq_c_sign_at ?zq_k_sign_at ?zq_a_tokens_of ?zq_l_tokens_of ?zq_c_tokens_of ?zq_k_tokens_of ?zq_a_end_column ?zq_l_end_column ?zq_c_end_column ?zq_k_end_column ?zq_a_write_thing ?zq_l_write_thing ?zq_c_write_thing ?zq_k_write_thing ?zq_a_read_thing ?zq_l_read_thing ?zq_c_read_thing ?zq_k_read_thing ?zq_a__law_begin ?zq_l__law_begin ?zq_c__law_begin ?zq_k__law_begin ?zq_a__law_draw ?zq_l__law_draw ?zq_c__law_draw ?zq_k__law_draw ?zq_a__law_is_int ?zq_l__law_is_int ?zq_c__law_is_int ?zq_k__law_is_int ?zq_a__law_atom ?zq_l__law_atom ?zq_c__law_atom ?zq_k__law_atom ?zq_a__law_values ?zq_l__law_values ?zq_c__law_values ?zq_k__law_values ?zq_a__law_sort ?zq_l__law_sort ?zq_c__law_sort ?zq_k__law_sort ?zq_a__law_spelt ?zq_l__law_spelt ?zq_c__law_spelt ?zq_k__law_spelt ?zq_a__law_built ?zq_l__law_built ?zq_c__law_built ?zq_k__law_built ?zq_a__law_fault ?zq_l__law_fault ?zq_c__law_fault ?zq_k__law_fault ?zq_a__law_damaged ?zq_l__law_damaged ?zq_c__law_damaged ?zq_k__law_damaged ?zq_a__law_reads_so ?zq_l__law_reads_so ?zq_c__law_reads_so ?zq_k__law_reads_so ?zq_a_law ?zq_l_law ?zq_c_law ?zq_k_law ?zq_a_CauseError ?zq_a_TextFault ?zq_a_NotOfKind ?zq_a_DossierFault ?zq_a_DeskFault ?zq_a_MOST_NESTS ?zq_a_LETTERS ?zq_a_FIGURES ?zq_a_LONGEST ?zq_g_SIGNS ?zq_l_SIGNS ?zq_a_MOST_FIGURES ?zq_n_len ?zq_n_abs ?zq_n_int ?zq_n_isinstance ?zq_n_str ?zq_n_tuple ?zq_n_list ?zq_n_repr ?zq_n_range ?zq_n_enumerate ?zq_n_max ?zq_n_bool ?zq_xL ?zq_sa ?zq_ga ?zq_gg ?zq_nr ?zq_nc ?zq_ns ?zq_ini ?zq_ti ?zq_li ?zq_ci ?zq_lc ?zq_le ?zq_exC ?zq_tyC ?zq_kC ?zq_hdC ?zq_isC ?zq_mro ?zq_sup ?zq_sVE ?zq_opq ?zq_nS ?zq_cla ?zq_spe ?zq_tak ?zq_mob ?zq_is1 ?zq_ty1 ?zq_su1 ?zq_ne1 ?zq_is2 ?zq_ty2 ?zq_su2 ?zq_ne2 ?zq_is3 ?zq_ty3 ?zq_su3 ?zq_ne3 ?zq_sCC ?zq_vF
    (case zq_a_run_end => k_is)
    (case zq_l_run_end => k_is)
    (case zq_c_run_end => k_is)
    (case zq_k_run_end => k_is)
    (case zq_a_sign_at => k_is)
    (case zq_l_sign_at => k_is)
    (case zq_c_sign_at => k_is)
    (case zq_k_sign_at => k_is)
    (case zq_a_tokens_of => k_is)
    (case zq_l_tokens_of => k_is)
    (case zq_c_tokens_of => k_is)
    (case zq_k_tokens_of => k_is)
    (case zq_a_end_column => k_is)
    (case zq_l_end_column => k_is)
    (case zq_c_end_column => k_is)
    (case zq_k_end_column => k_is)
    (case zq_a_write_thing => k_is)
    (case zq_l_write_thing => k_is)
    (case zq_c_write_thing => k_is)
    (case zq_k_write_thing => k_is)
    (case zq_a_read_thing => k_is)
    (case zq_l_read_thing => k_is)
    (case zq_c_read_thing => k_is)
    (case zq_k_read_thing => k_is)
    (case zq_a__law_begin => k_is)
    (case zq_l__law_begin => k_is)
    (case zq_c__law_begin => k_is)
    (case zq_k__law_begin => k_is)
    (case zq_a__law_draw => k_is)
    (case zq_l__law_draw => k_is)
    (case zq_c__law_draw => k_is)
    (case zq_k__law_draw => k_is)
    (case zq_a__law_is_int => k_is)
    (case zq_l__law_is_int => k_is)
    (case zq_c__law_is_int => k_is)
    (case zq_k__law_is_int => k_is)
    (case zq_a__law_atom => k_is)
    (case zq_l__law_atom => k_is)
    (case zq_c__law_atom => k_is)
    (case zq_k__law_atom => k_is)
    (case zq_a__law_values => k_is)
    (case zq_l__law_values => k_is)
    (case zq_c__law_values => k_is)
    (case zq_k__law_values => k_is)
    (case zq_a__law_sort => k_is)
    (case zq_l__law_sort => k_is)
    (case zq_c__law_sort => k_is)
    (case zq_k__law_sort => k_is)
    (case zq_a__law_spelt => k_is)
    (case zq_l__law_spelt => k_is)
    (case zq_c__law_spelt => k_is)
    (case zq_k__law_spelt => k_is)
    (case zq_a__law_built => k_is)
    (case zq_l__law_built => k_is)
    (case zq_c__law_built => k_is)
    (case zq_k__law_built => k_is)
    (case zq_a__law_fault => k_is)
    (case zq_l__law_fault => k_is)
    (case zq_c__law_fault => k_is)
    (case zq_k__law_fault => k_is)
    (case zq_a__law_damaged => k_is)
    (case zq_l__law_damaged => k_is)
    (case zq_c__law_damaged => k_is)
    (case zq_k__law_damaged => k_is)
    (case zq_a__law_reads_so => k_is)
    (case zq_l__law_reads_so => k_is)
    (case zq_c__law_reads_so => k_is)
    (case zq_k__law_reads_so => k_is)
    (case zq_a_law => k_is)
    (case zq_l_law => k_is)
    (case zq_c_law => k_is)
    (case zq_k_law => k_is)
    (case zq_a_CauseError => k_is)
    (case zq_a_TextFault => k_is)
    (case zq_a_NotOfKind => k_is)
    (case zq_a_DossierFault => k_is)
    (case zq_a_DeskFault => k_is)
    (case zq_a_MOST_NESTS => k_is)
    (case zq_a_LETTERS => k_is)
    (case zq_a_FIGURES => k_is)
    (case zq_a_LONGEST => k_is)
    (case zq_g_SIGNS => k_is)
    (case zq_l_SIGNS => k_is)
    (case zq_a_MOST_FIGURES => k_is)
    (case zq_n_len => k_is)
    (case zq_n_abs => k_is)
    (case zq_n_int => k_is)
    (case zq_n_isinstance => k_is)
    (case zq_n_str => k_is)
    (case zq_n_tuple => k_is)
    (case zq_n_list => k_is)
    (case zq_n_repr => k_is)
    (case zq_n_range => k_is)
    (case zq_n_enumerate => k_is)
    (case zq_n_max => k_is)
    (case zq_n_bool => k_is)
    (case zq_xL => k_is)
    (case zq_sa => k_is)
    (case zq_ga => k_is)
    (case zq_gg => k_is)
    (case zq_nr => k_is)
    (case zq_nc => k_is)
    (case zq_ns => k_is)
    (case zq_ini => k_is)
    (case zq_ti => k_is)
    (case zq_li => k_is)
    (case zq_ci => k_is)
    (case zq_lc => k_is)
    (case zq_le => k_is)
    (case zq_exC => k_is)
    (case zq_tyC => k_is)
    (case zq_kC => k_is)
    (case zq_hdC => k_is)
    (case zq_isC => k_is)
    (case zq_mro => k_is)
    (case zq_sup => ks_is)
    (case zq_sVE => k_is)
    (case zq_opq => k_is)
    (case zq_nS => k_is)
    (case zq_cla => k_is)
    (case zq_spe => k_is)
    (case zq_tak => k_is)
    (case zq_mob => k_is)
    (case zq_is1 => k_is)
    (case zq_ty1 => k_is)
    (case zq_su1 => k_is)
    (case zq_ne1 => rfl)
    (case zq_is2 => k_is)
    (case zq_ty2 => k_is)
    (case zq_su2 => k_is)
    (case zq_ne2 => rfl)
    (case zq_is3 => k_is)
    (case zq_ty3 => k_is)
    (case zq_su3 => k_is)
    (case zq_ne3 => rfl)
    (case zq_sCC => k_is)
    (case zq_vF => exact ⟨_, _, rfl, by decide +kernel⟩)
#print axioms PySem.Challenge.cw_causewrit_k85_things_there_and_back_holds
