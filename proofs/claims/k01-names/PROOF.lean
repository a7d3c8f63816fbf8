import PyProof.Rows.All
import HandS.ExcInit
import HandS.ExcValue
import KE.KExcSuper
import KE.KExcIs
import HandS.HeadHook2
import HandS.ForMost
import HandS.Wide
import KE.DataEq
import KE.SortData
import HandS.Text
import HandS.ForExc
import HandS.Style
import HandS.TupAny
import HandS.TupMul
import HandS.Flow
import HandS.IsInst
import KE.GoesEnum
import KE.GoesNew
import HandS.TryOnly
import HandS.Walk
import HandS.Small
import HandS.Defaults
import HandS.DictComp
import HandS.Conv
import HandS.Deep
import HandS.Rev
import KE.SortKeyHeap
import HandS.SortKw
import HandS.Keys
import HandS.ExcField
import HandS.ExcIs
import HandS.HeadEnd
import HandS.WordsExc
import HandS.HeadHook1
import KE.KStateDown
import KE.KxText
import HandS.More
import HandS.Head0
import HandS.Head1
import HandS.Head2
import PySem.Challenge.RW_fringes_k01_check_name
set_option Elab.async false
set_option linter.all false
set_option maxRecDepth 100000
set_option maxHeartbeats 0
namespace Ly
open PySem PySem.Spec PyProof.Rows L2
/-! ### super().__init__(..), bound -/
section
variable {prog : Program} {w : World} {A : Around} {E : Value → Shared → Prop} {h : Heap} {g : Array GenState} {d : Drawn} {t : Nat} {os : OsState}
variable {nm q : Str} {C N : Addr} {bs bm : List Value} {hdct : Bool} {sn : List Str} {sub : List Value} {ab : Bool} {col : Option Bool} {dd : Option Addr} {k0 k1 k2 k3 k5 : Option Value}
theorem call_mw {u e t0 : Addr} {rest : List Value} {Q : Value → Shared → Prop}
    (hC : h.get? C = some (excClassObj nm q C N bs bm hdct sn sub ab col dd k0 k1 k2 k3 k5 "ValueError.__new__")) (he : h.get? e = some (HandSPX.excO C t0)) (hu : h.get? u = some (PySem.W.kxs_mw "ValueError.__init__" e)) (hrest : rest.length ≤ sizeLine)
    (hq : ∀ h' t1, (∀ b o, b ≠ e → h.get? b = some o → h'.get? b = some o) → h'.get? e = some (HandSPX.excO C t1) → Q .none ⟨h', g, d, t, os⟩) :
    wpAny (model prog w) A (call (.ref u) rest) Q E ⟨h, g, d, t, os⟩ := by
  refine wpAny_call (codeAny_of_tree ?_)
  show wpAny _ A.in1 (callAny (.ref u) ⟨rest, []⟩) _ _ _
  simp only [callAny]
  refine wpAny_bind (wpAny_load hu ?_)
  simp only [PySem.W.kxs_mw, show (Value.type "method-wrapper" == Value.type "method" || Value.type "method-wrapper" == Value.type "builtin_function_or_method" || Value.type "method-wrapper" == Value.type "method-wrapper") = true by decide, if_true]
  refine W.KFB.if_so (by decide) ?_
  refine wpAny_bind (PySem.W.check_bound_init F.excBase_ValueError.toExcCallFacts hC he rfl ?_)
  refine wpAny_bind (wpAny_pure (wpAny_pure ?_))
  refine ⟨Code.quiet_builtin _ (by decide +kernel), codeAny_builtin F.excBase_ValueError.initEntry ?_⟩
  rw [Around.under_plainId F.excBase_ValueError.init.plain _]
  wp_walk
  refine hq _ h.objs.size (fun b o hb ho => ?_) ?_
  · rw [Heap.get?_update_other _ _ (Ne.symm hb)]
    exact Heap.get?_push_of_some _ ho
  · rw [Heap.get?_update_self _ (Heap.get?_push_of_some _ he) rfl]
    rfl
end
/-! ### the context of such an __init__ -/
abbrev iEnv (qual : Str) (scope : Scope) (L f cda cc : Addr) : Env := PySem.W.ksEnv qual scope L f (.ref cda) cc
def cxI (CX : CXT) (P : Program) (w : World) (K : PySem.W.Frag) (mg : Str → Option Value) (base : Heap) (N : List Str) (qual : Str) (scope : Scope) (f cda cc : Addr) (A : Around) (outer : List Env) (s : Shared) (H : Hp) (E : XK) : Cx where
  prog := P
  w := w
  K := K
  mg := mg
  base := base
  A := A.deeper (iEnv qual scope s.heap.objs.size f cda cc)
  N := N
  s_0 := s
  H_0 := H
  env := iEnv qual scope s.heap.objs.size f cda cc
  outer := outer
  stack := iEnv qual scope s.heap.objs.size f cda cc :: outer
  ex := []
  calm := true
  fn := fun _ => false
  pn := []
  xe := fun e s' => wpAny (model P w) (A.deeper (iEnv qual scope s.heap.objs.size f cda cc)) (leaving (iEnv qual scope s.heap.objs.size f cda cc) e) (fun _ s'' => CX outer H s E e s'') (fun e' s'' => CX outer H s E e' s'') s'
structure InitS (ps : List Str) (scope : Scope) : Prop where
  kind : scope.kind = .function
  co : scope.isCoroutine = false
  gen : scope.isGenerator = false
  nd : ps.Nodup
  par : ∀ p ∈ ps, scope.names.lookup p = some .local ∧ (p == ("__debug__" : Str)) = false ∧ (p == ("__classdict__" : Str)) = false
  nocell : ∀ x ∈ scope.names, x.2 ≠ .cell
  free : ∀ x ∈ scope.names, x.2 = .free → x.1 = "__class__"
  sup : scope.names.lookup ("super" : Str) = some .globalImplicit
  cls : scope.names.lookup ("__class__" : Str) = some .free
theorem lookup_mem {l : List (Str × Value)} {k : Str} {v : Value} : (l.map (·.1)).Nodup → (k, v) ∈ l → l.lookup k = some v := by
  induction l with
  | nil => intro _ h; cases h
  | cons p l ih =>
    intro nd h
    obtain ⟨a, b⟩ := p
    rcases List.mem_cons.mp h with e | h
    · cases e; simp [List.lookup]
    · have hne : k ≠ a := fun e => (List.nodup_cons.mp nd).1 (by rw [← e]; exact List.mem_map.mpr ⟨(k, v), h, rfl⟩)
      have : (k == a) = false := by simpa using hne
      rw [List.lookup, this]
      exact ih (List.nodup_cons.mp nd).2 h
theorem zip_sub : ∀ (ps : List Str) (us : List Value), ((ps.zip us).map (·.1)).Sublist ps
  | [], _ => List.nil_sublist _
  | _ :: _, [] => List.nil_sublist _
  | p :: ps, u :: us => (zip_sub ps us).cons_cons p
theorem zip_rev {ps : List Str} {us : List Value} {i : Nat} {p : Str} {u : Value} (nd : ps.Nodup) (h1 : ps[i]? = some p) (h2 : us[i]? = some u) : (ps.zip us).reverse.lookup p = some u := by
  refine lookup_mem ?_ ?_
  · rw [List.map_reverse]
    exact (List.reverse_perm _).nodup_iff.mpr (nd.sublist (zip_sub ps us))
  · rw [List.mem_reverse]
    refine List.mem_of_getElem? (i := i) ?_
    rw [List.getElem?_zip_eq_some]
    exact ⟨h1, h2⟩
section
variable {CX : CXT} {P : Program} {w : World} {K : PySem.W.Frag} {mg : Str → Option Value} {base : Heap} {ps : List Str} {qual : Str} {scope : Scope} {f cda cc : Addr} {A : Around} {outer : List Env} {s : Shared} {H : Hp} {E : XK} {us : List Value} {vs : List V}
theorem inv_startI {h₀ : Heap} {tk : Nat} {cl : Value} {cld : Option Addr} {D : Addr} {csl : Array (Option Value)} (S : InitS ps scope) (hd : A.handled = none) (e0 : Env0 P w K mg base A outer s H) (hl : vs.length = ps.length) (r : Vals vs us)
    (hcc : K.lookup cc = some ⟨cl, cld, .cell (some (.ref D)), csl⟩) (hns : h₀.Ns s.heap.objs.size (fun x => (ps.zip us).reverse.lookup x)) (hk : ∀ b o, s.heap.get? b = some o → h₀.get? b = some o) :
    Inv (cxI CX P w K mg base ps qual scope f cda cc A outer s H E) [] (vs.map some) H { s with heap := h₀, toks := tk } := by
  have hb := e0.mod.kin _ _ hcc
  have noA : ∀ b : Addr, b ∉ (cxI CX P w K mg base ps qual scope f cda cc A outer s H E).ex := fun b z => absurd (show b ∈ ([] : List Addr) from z) (by simp)
  have look1 : ∀ {y : Str} {c : Addr}, List.lookup y [(("__class__" : Str), cc)] = some c → y = "__class__" ∧ c = cc := fun {y c} e => by
    rw [List.lookup] at e
    cases q : (y == ("__class__" : Str)) with
    | true => rw [q] at e; cases e; exact ⟨eq_of_beq q, rfl⟩
    | false => rw [q] at e; cases e
  refine ⟨⟨e0.mod, S.kind, rfl, rfl, Nat.le_refl _, fun y z c h1 h2 => ?_, fun y hy => ?_, (fun y c h _ => nomatch h), fun _ => hd, Around.frames_deeper e0.frames, .inr ⟨rfl, rfl⟩, fun b z => absurd z (noA b), e0.bs, e0.bsz, fun b _ _ => noA b, fun b z => absurd z (noA b), e0.funs, e0.frf⟩,
    rfl, e0.bare, Un.kept hk, ⟨_, hns, fun i y v h1 h2 h3 => ?_⟩, fun y c h => ?_, e0.hok.fresh (Nat.le_refl _), fun y c h => ?_, fun p hp => absurd (show p ∈ ([] : List (Addr × Obj)) from hp) (by simp), e0.hok.kept hk, ?_⟩
  · obtain ⟨rfl, _⟩ := look1 h1
    obtain ⟨rfl, _⟩ := look1 h2
    rfl
  · have hy : scope.names.lookup y = some .cell ∨ scope.names.lookup y = some .free := hy
    rcases hy with hy | hy
    · exact absurd rfl (S.nocell _ (PySem.mem_of_lookup hy))
    · have := S.free _ (PySem.mem_of_lookup hy) rfl
      have this : y = "__class__" := this
      subst this
      exact ⟨cc, by show List.lookup _ [_] = _; simp [List.lookup]⟩
  · have ha : vs[i]? = some v := by
      rw [List.getElem?_map] at h2
      cases e : vs[i]? with
      | none => rw [e] at h2; cases h2
      | some a => rw [e] at h2; cases h2; rfl
    obtain ⟨u, hu, rv⟩ := r.get ha
    exact ⟨u, rv, .inl ⟨(S.par y (List.mem_of_getElem? h1)).1, zip_rev S.nd h1 hu⟩⟩
  · obtain ⟨_, rfl⟩ := look1 h
    exact ⟨_, _, hk _ _ (e0.bs _ _ hb).1, rfl⟩
  · obtain ⟨_, rfl⟩ := look1 h
    exact (e0.bs _ _ hb).2
  · rw [List.length_map]
    exact hl
end
/-- names in the slots -/
def nmAt (N : List Str) : List Nat → List Expr → Bool
  | [], [] => true
  | i :: is, e :: es => (match e with
    | .Name x _ => decide (N[i]? = some x) && nmAt N is es
    | _ => false)
  | _, _ => false
section
variable {CX : CXT} {P : Program} {w : World} {K : PySem.W.Frag} {mg : Str → Option Value} {base : Heap} {ps : List Str} {qual : Str} {scope : Scope} {f cda cc : Addr} {A : Around} {outer : List Env} {s s0 : Shared} {H H0 : Hp} {EE : XK} {us : List Value} {vs : List V} {σ : L2.St}
theorem nm_one {env : Env} {x : Str} {p pos : Pos} {es : List Expr} : starEach (.Name x p :: es) env = (false, eval (.Name x p) env) :: starEach es env := rfl
theorem nm_any {N : List Str} {env : Env} {pos : Pos} : ∀ {is : List Nat} {es : List Expr}, nmAt N is es = true → (backTo pos (starEach es env)).any (·.1) = false
  | [], [], _ => rfl
  | [], _ :: _, h => by cases h
  | _ :: _, [], h => by cases h
  | i :: is, e :: es, h => by
    unfold nmAt at h
    split at h
    · obtain ⟨_, h⟩ := Bool.and_eq_true_iff.mp h
      rw [nm_one (pos := pos)]
      show (false || (backTo pos (starEach es env)).any (·.1)) = false
      rw [Bool.false_or]
      exact nm_any h
    · cases h
theorem nm_run {M : Model} {A : Around} {E : Value → Shared → Prop} {s : Shared} {env : Env} {N : List Str} {pos : Pos} {m : Str → Option Value} (hk : env.scope.kind = .function) (hns : s.heap.Ns env.locals m)
    (hloc : ∀ x ∈ N, env.kindOf x = some .local ∧ (x == ("__debug__" : Str)) = false) : ∀ {is : List Nat} {es : List Expr} {us : List Value} {Q : List Value → Shared → Prop}, nmAt N is es = true → (∀ (k : Nat) x, (is[k]?).bind (N[·]?) = some x → ∃ u, us[k]? = some u ∧ m x = some u) → us.length = is.length → Q us s →
      wpAny M A (spliced (backTo pos (starEach es env))) Q E s
  | [], [], us, Q, _, _, hl, hq => by
    have : us = [] := List.length_eq_zero_iff.mp hl
    subst this
    exact Calls.spliced_nil hq
  | [], _ :: _, _, _, h, _, _, _ => by cases h
  | _ :: _, [], _, _, h, _, _, _ => by cases h
  | i :: is, e :: es, us, Q, h, hv, hl, hq => by
    unfold nmAt at h
    split at h
    · rename_i x p
      obtain ⟨h1, h⟩ := Bool.and_eq_true_iff.mp h
      have h1 := of_decide_eq_true h1
      cases us with
      | nil => simp at hl
      | cons u us =>
        obtain ⟨u', e1, e2⟩ := hv 0 x (by simpa using h1)
        have e1 : u = u' := by simpa using e1
        subst e1
        obtain ⟨l1, l2⟩ := hloc x (List.mem_of_getElem? h1)
        show wpAny _ _ (spliced ((false, eval (.Name x p) env) :: backTo pos (starEach es env))) _ _ s
        refine Calls.spliced_cons (wpAny_Name (wpAny_loadName_local hk l1 hns e2 ?_) l2)
        exact nm_run hk hns hloc h (fun k y hy => by simpa using hv (k + 1) y (by simpa using hy)) (by simpa using hl) hq
    · cases h
theorem mcall_eq {o : Expr} {name : Str} {p2 p3 : Pos} {es : List Expr} {env : Env} (hform : methodCallForm (es.length + ([] : List Keyword).length) (backTo p3 (starEach es env)) (backToKw p3 (keywordEach [] env)) = true) (hline : (p2.endLine == p3.line) = true) :
    eval (.Call (.Attribute o name p2) es [] p3) env = (do
      let ov ← attributeBase o name env (eval o env)
      standAt p2.atName
      let (f, first) ← holding [ov] (getMethod ov name (do return (← importBound o env).getD true))
      callWith p3 f first (backTo p3 (starEach es env)) []) := by
  have hpos : methodCallPos true o env p2 p3 = pure p3 := by unfold methodCallPos; simp [hline]
  have key : ∀ ov, methodCall o name p2 p3 env ov (es.length + ([] : List Keyword).length) (backTo p3 (starEach es env)) (backToKw p3 (keywordEach [] env)) = (do
      let (f, first) ← holding [ov] (getMethod ov name (do return (← importBound o env).getD true))
      callWith p3 f first (backTo p3 (starEach es env)) []) := by
    intro ov
    unfold methodCall
    rw [hform, hpos]
    rfl
  show (do
    let ov ← attributeBase o name env (eval o env)
    standAt p2.atName
    methodCall o name p2 p3 env ov (es.length + ([] : List Keyword).length) (backTo p3 (starEach es env)) (backToKw p3 (keywordEach [] env))) = _
  simp only [key]
theorem nm_all {N : List Str} {env : Env} {pos : Pos} : ∀ {is : List Nat} {es : List Expr}, nmAt N is es = true → (backTo pos (starEach es env)).all (fun x => !x.1) = true ∧ es.length = is.length
  | [], [], _ => ⟨rfl, rfl⟩
  | [], _ :: _, h => by cases h
  | _ :: _, [], h => by cases h
  | i :: is, e :: es, h => by
    unfold nmAt at h
    split at h
    · obtain ⟨_, h⟩ := Bool.and_eq_true_iff.mp h
      obtain ⟨h1, h2⟩ := nm_all (pos := pos) (env := env) h
      rw [nm_one (pos := pos)]
      exact ⟨by show (true && (backTo pos (starEach es env)).all (fun x => !x.1)) = true; rw [h1]; rfl, congrArg (· + 1) h2⟩
    · cases h
/-- what the written part says for super() -/
structure SupC (P : Program) (K : PySem.W.Frag) (C cc cda f : Addr) (fd : FuncData) : Prop where
  oex : OexC K C
  cell : ∃ cl cld csl, K.lookup cc = some ⟨cl, cld, .cell (some (.ref C)), csl⟩
  fn : ∃ oc od osl, K.lookup f = some ⟨oc, od, .func fd, osl⟩
  code : ∃ ccl cdd ccs file tf, ∃ vs : Array Value, K.lookup cda = some ⟨ccl, cdd, .fields vs, ccs⟩ ∧ vs[2]? = some (.str file tf) ∧ ((P.main.file : Str) == file) = true
  top : (P.main.scope.names.lookup ("super" : Str)).isSome = false
  mro : PySem.W.mroIn K C (.ref C) = some true
  sub : PySem.W.subIn K (.ref C) (.type "ValueError") = some true
  along : ∀ cd, PySem.W.clsIn K C = some cd → PySem.W.alongIn K "__init__" ((cd.mro.dropWhile (· != .ref C)).drop 1) = some (some (.builtin "ValueError.__init__"))
  opq : PySem.W.nsIn K cStatics "thirdparty.any" = some none
theorem super_ok {fd : FuncData} {ar : Arg} {a C : Addr} {es : List Expr} {is : List Nat} {p0 p1 p2 p3 p4 : Pos} {body : List Stmt} {Q : Flow → Shared → Prop} (T : SupC P K C cc cda f fd) (S : InitS ps scope) (hp : (fd.params.posonlyargs ++ fd.params.args).head? = some ar) (hps : ps[0]? = some ar.arg) (hsup : mg "super" = none)
    (I : Inv (cxI CX P w K mg base ps qual scope f cda cc A outer s0 H0 EE) [] σ H s) (ea : H a = some (exo a C none)) (h0 : σ[0]? = some (some (.ref a))) (hn : nmAt ps is es = true) (hz : is.length ≤ 20) (hline : (p2.endLine == p3.line) = true) (hσ : ∀ (k i : Nat), is[k]? = some i → ∃ v, σ[i]? = some (some v)) (he : ∃ e r, es = e :: r)
    (hq : ∀ s', Inv (cxI CX P w K mg base ps qual scope f cda cc A outer s0 H0 EE) [] σ H s' → Q .next s') :
    _root_.PySem.wpAt (model P w) (A.deeper (iEnv qual scope s0.heap.objs.size f cda cc)) (.func body (iEnv qual scope s0.heap.objs.size f cda cc)) (exec (.Expr (.Call (.Attribute (.Call (.Name "super" p0) [] [] p1) "__init__" p2) es [] p3) p4) (iEnv qual scope s0.heap.objs.size f cda cc)) Q
      (cxI CX P w K mg base ps qual scope f cda cc A outer s0 H0 EE).xe s := by
  obtain ⟨cl, cld, csl, hcell⟩ := T.cell
  obtain ⟨oc, od, osl, hf⟩ := T.fn
  obtain ⟨ccl, cdd, ccs, file, tf, wv, hcode, hvs, hfile⟩ := T.code
  obtain ⟨nm, q, N, bs, bm, sn, sub, ab, col, dd, k0, k1, k2, k3, k5, hC, hbm⟩ := T.oex.cls
  have hcl : PySem.W.clsIn K C = some { name := nm, bases := bs, mro := .ref C :: bm, ns := N, qualname := q, hasDict := true, slotNames := sn, subclasses := sub, abstract := ab, collection := col, hasDel := false } := by unfold PySem.W.clsIn; rw [hC] <;> rfl
  obtain ⟨m, hns, hloc⟩ := I.loc
  have hL : ∀ x ∈ ps, (iEnv qual scope s0.heap.objs.size f cda cc).kindOf x = some .local ∧ (x == ("__debug__" : Str)) = false := fun x hx => ⟨(S.par x hx).1, (S.par x hx).2.1⟩
  have hval : ∀ (i : Nat) x v, ps[i]? = some x → σ[i]? = some (some v) → ∃ u, RelV v u ∧ m x = some u := fun i x v e1 e2 => by
    obtain ⟨u, ru, l⟩ := hloc i x v e1 e2 (.inl (hL x (List.mem_of_getElem? e1)).1)
    refine ⟨u, ru, ?_⟩
    rcases l with ⟨_, l⟩ | ⟨l, _⟩
    · exact l
    · have z : scope.names.lookup x = some .local := (hL x (List.mem_of_getElem? e1)).1
      rcases l with l | l
      · have l : scope.names.lookup x = some .cell := l
        rw [z] at l; cases l
      · have l : scope.names.lookup x = some .free := l
        rw [z] at l; cases l
  obtain ⟨ua, ra, ma⟩ := hval 0 _ _ hps h0
  obtain rfl : ua = Value.ref a := ra
  have KI : K.In s.heap := I.kIn
  obtain ⟨t1, ho⟩ := exo_at I.hok ea
  obtain ⟨us, hus, hul⟩ : ∃ us : List Value, us.length = is.length ∧ ∀ (k : Nat) x, (is[k]?).bind (ps[·]?) = some x → ∃ u, us[k]? = some u ∧ m x = some u := by
    refine ⟨is.map fun i => (((ps[i]?).bind m).getD .none), by simp, fun k x hx => ?_⟩
    cases e : is[k]? with
    | none => rw [e] at hx; cases hx
    | some i =>
      rw [e] at hx
      have hx : ps[i]? = some x := hx
      obtain ⟨v, hv⟩ := hσ k i e
      obtain ⟨u, ru, mu⟩ := hval i x v hx hv
      exact ⟨u, by rw [List.getElem?_map, e]; show some (((ps[i]?).bind m).getD .none) = _; rw [hx]; show some ((m x).getD .none) = _; rw [mu]; rfl, mu⟩
  have hform : methodCallForm (es.length + ([] : List Keyword).length) (backTo p3 (starEach es (iEnv qual scope s0.heap.objs.size f cda cc))) (backToKw p3 (keywordEach [] (iEnv qual scope s0.heap.objs.size f cda cc))) = true := by
    obtain ⟨a1, a2⟩ := nm_all (env := iEnv qual scope s0.heap.objs.size f cda cc) (pos := p3) hn
    unfold methodCallForm
    rw [a1, a2]
    show (true && true && decide (is.length + 0 + 0 < 30)) = true
    rw [decide_eq_true (by omega)]
    rfl
  refine ks_wpAt_Expr_any (ks_wpAt_MethodCall ?_ (mcall_eq hform hline)) (by unfold interactive; rw [show (iEnv qual scope s0.heap.objs.size f cda cc).scope.kind = .function from S.kind]; rfl)
  refine ks_wpAt_super_base (env := iEnv qual scope s0.heap.objs.size f cda cc) S.sup S.cls (by decide) rfl (KI _ _ hf) rfl hp rfl (KI _ _ hcode) rfl hvs hfile T.top ?_
  obtain ⟨mb, hb1, hb2⟩ := I.mod.blt
  refine PySem.W.ks_loadName_global S.kind S.sup (Calls.loadGlobal_builtin (I.mod.glob.keeps I.bk) hsup (hb1.keeps I.bk) ((hb2 _ (by decide)).trans (by decide +kernel : bootBuiltins "super" = some (.type "super"))) ⟨rfl, ?_⟩)
  refine wpAny_loadName_free S.kind S.cls (c := cc) (by show List.lookup _ [_] = _; simp [List.lookup]) ⟨_, KI _ _ hcell, rfl⟩ ?_
  refine wpAny_loadName_local S.kind (hL _ (List.mem_of_getElem? hps)).1 hns ma ?_
  obtain ⟨h, g, d, t, os⟩ := s
  have hCo : h.get? C = some (excClassObj nm q C N bs bm true sn sub ab col dd k0 k1 k2 k3 k5 "ValueError.__new__") := KI _ _ hC
  refine ks_wpAny_isType_cls hCo rfl ⟨rfl, ?_⟩
  refine ks_wpAny_call_super hCo rfl ho rfl (fun c z => by cases z) (PySem.W.looks_mroIn KI T.mro) (fun h1 e1 kk1 => ?_)
  have KI1 : K.In h1 := fun b o e => kk1 b o (KI b o e)
  have tyA : PySem.W.Looks (model P w) h1 (typeOf (.ref a)) (.ref C) := fun A Q E s k q => wpAny_typeOf_ref (k _ _ (kk1 _ _ ho)) q
  have xC : a ≠ C := fun z => by
    rw [z] at ho
    rw [hCo] at ho
    cases ho
  refine PySem.W.kxs_getMethod PySem.W.kxs_ValueError e1 (PySem.W.looks_opaque KI1 T.opq) (l₀ := .ref C :: bm) ?_ rfl KI1 (T.along _ hcl) (tyA.andThen (PySem.W.looks_subIn KI1 T.sub)) xC (by decide) ?_
  · exact fun A Q E s k q => wpAny_bind ((PySem.W.looks_clsIn KI1 hcl) A _ E s k (wpAny_pure q))
  obtain ⟨e, r, rfl⟩ := he
  have kk2 : ∀ b o, h.get? b = some o → (h1.push (PySem.W.kxs_mw "ValueError.__init__" a)).get? b = some o := fun b o z => Heap.get?_push_of_some _ (kk1 b o z)
  have hu2 : (h1.push (PySem.W.kxs_mw "ValueError.__init__" a)).get? h1.objs.size = some (PySem.W.kxs_mw "ValueError.__init__" a) := Heap.get?_push_size _ rfl
  refine PySem.W.kxs_callWith (i := "ValueError.__init__") (u := h1.objs.size) (x := a) (nm_any hn) ?_
  have J : Inv (cxI CX P w K mg base ps qual scope f cda cc A outer s0 H0 EE) [] σ H ⟨h1.push (PySem.W.kxs_mw "ValueError.__init__" a), g, d, t + 1, os⟩ := I.kept (t' := t + 1) kk2
  have hns2 : (h1.push (PySem.W.kxs_mw "ValueError.__init__" a)).Ns (iEnv qual scope s0.heap.objs.size f cda cc).locals m := by
    obtain ⟨oL, es', ep, hL', r'⟩ := hns
    exact ⟨oL, es', ep, kk2 _ _ hL', r'⟩
  obtain ⟨x, px, rfl⟩ : ∃ x px, e = .Name x px := by
    cases is with
    | nil => cases hn
    | cons i is =>
      unfold nmAt at hn
      split at hn
      · exact ⟨_, _, rfl⟩
      · cases hn
  show wpAny _ _ (evalArgs (Value.ref h1.objs.size) true ((false, eval (.Name x px) (iEnv qual scope s0.heap.objs.size f cda cc)) :: backTo p3 (starEach r (iEnv qual scope s0.heap.objs.size f cda cc))) []) _ _ _
  refine Calls.evalArgs_plain ?_
  refine nm_run S.kind hns2 hL hn hul hus ⟨hu2, ?_⟩
  refine call_mw (kk2 _ _ hCo) (kk2 _ _ ho) hu2 (by show us.length ≤ sizeLine; rw [sizeLine_eq]; omega) (fun h' t2 k hx => ?_)
  have J2 := J.write (t' := t + 1) (x := a) (e := a) (o := exo a C none) (by rw [ea]; exact True.intro) (.inl rfl) k ⟨_, hx⟩ (exo_ok hx)
  have eu : upd H a (exo a C none) = H := by
    funext b
    by_cases hb : b = a
    · rw [hb, upd_same, ea]
    · rw [upd_ne hb]
  rw [eu] at J2
  exact hq _ J2
end
end Ly

namespace Ly
open PySem PySem.Spec PyProof.Rows L2
/-- self.x = x, from the k-th parameter on -/
def fldB (N : List Str) : Nat → List Stmt → Bool
  | k, [] => decide (N.length = k)
  | k, st :: r => (match st with
    | .Assign ts e _ => (match ts, e with
      | [.Attribute (.Name s _) f _], .Name x _ => decide (N[0]? = some s) && (decide (N[k]? = some x) && (decide (f = x) && fldB N (k + 1) r))
      | _, _ => false)
    | _ => false)
def initB (ps : List Str) (body : List Stmt) : Bool := match body with
  | .Expr e _ :: rest => (match e with
    | .Call f es ks p3 => (match f, ks with
      | .Attribute (.Call (.Name s _) [] [] _) m p2, [] => decide (s = ("super" : Str)) && (decide (m = ("__init__" : Str)) && (nmAt ps (List.range' 1 (ps.length - 1)) es && (decide (p2.endLine = p3.line) && (fldB ps 1 rest && (decide (2 ≤ ps.length) && decide (ps.length ≤ 20))))))
      | _, _ => false)
    | _ => false)
  | _ => false
section
variable {X : Cx} {C : Addr}
theorem drop_cons {α : Type} {l : List α} {k : Nat} {x : α} (h : l[k]? = some x) : l.drop k = x :: l.drop (k + 1) := by
  obtain ⟨hk, rfl⟩ := List.getElem?_eq_some_iff.mp h
  exact List.drop_eq_getElem_cons hk
theorem sw_attr {x f : Str} {p p2 p3 : Pos} {o : Expr} {n : Nat} {env : Env} : swapsWith (.Name x p) (some (.Attribute o f p2)) n env = pure false := rfl
theorem fld_old (T : OexC X.K C) (hL : ∀ x ∈ X.N, Vis X.env.scope x ∧ (x == ("__debug__" : Str)) = false ∧ (x == ("__classdict__" : Str)) = false) : ∀ (sts : List Stmt) (k : Nat), 1 ≤ k → (∀ x ∈ X.N.drop k, PySem.W.findIn X.K (.ref C) x = some none) → fldB X.N k sts = true →
    PSs X sts (fun D σ H => ∃ a dx fs ys, σ[0]? = some (some (.ref a)) ∧ (∀ (j : Nat) y, ys[j]? = some y → σ[k + j]? = some (some y)) ∧ ys.length = sts.length ∧ a ≠ dx ∧ H a = some (exo a C (some dx)) ∧ H dx = some (exd dx fs) ∧ fs.length + sts.length ≤ 900 ∧ ∀ H2, H2 dx = some (exd dx (((X.N.drop k).zip ys).reverse ++ fs)) → (∀ b, b ≠ dx → H2 b = H b) → D.nx σ H2)
  | [], k, _, _, _ => ⟨fun pins s σ H D I h => by
    obtain ⟨a, dx, fs, ys, h1, h2, h3, hne, h4, h5, h6, h7⟩ := h
    have : ys = [] := List.length_eq_zero_iff.mp h3
    subst this
    exact pss_nil.run pins s σ H D I (h7 H (by rw [List.zip_nil_right]; exact h5) fun _ _ => rfl)⟩
  | st :: r, k, hk, hno, hf => by
    unfold fldB at hf
    split at hf
    · rename_i st' ts e p
      split at hf
      · rename_i s' p1 f p2 x p3
        obtain ⟨f1', g1⟩ := Bool.and_eq_true_iff.mp hf
        obtain ⟨f2', g2⟩ := Bool.and_eq_true_iff.mp g1
        obtain ⟨f3', g3⟩ := Bool.and_eq_true_iff.mp g2
        have f1 := of_decide_eq_true f1'
        have f2 := of_decide_eq_true f2'
        have f3 := of_decide_eq_true f3'
        clear hf g1 g2 f1' f2' f3'
        subst f3
        obtain ⟨v1, v2, v3⟩ := hL _ (List.mem_of_getElem? f1)
        obtain ⟨w1, w2, w3⟩ := hL _ (List.mem_of_getElem? f2)
        have hd := drop_cons f2
        refine ⟨fun pins s σ H D I h => (pss_cons (ps_ost (pe_var f1 v1 v2 v3) (pe_var f2 w1 w2 w3) rfl) (fld_old T hL r (k + 1) (by omega) (fun y hy => hno y (by rw [hd]; exact List.mem_cons_of_mem _ hy)) g3)).run pins s σ H D I ?_⟩
        obtain ⟨a, dx, fs, ys, h1, h2, h3, hne, h4, h5, h6, h7⟩ := h
        cases ys with
        | nil => simp at h3
        | cons y ys =>
          refine ⟨y, h2 0 y rfl, .ref a, h1, a, C, rfl, T, hno _ (by rw [hd]; exact List.mem_cons_self), .inr ⟨dx, fs, h4, h5, by simp at h6; omega, ?_⟩⟩
          refine ⟨a, dx, (f, y) :: fs, ys, h1, fun j y' hj => ?_, by simpa using h3, hne, ?_, upd_same, by simp at h6 ⊢; omega, fun H2 q1 q2 => h7 H2 ?_ fun b hb => ?_⟩
          · have := h2 (j + 1) y' (by simpa using hj)
            rw [show k + (j + 1) = k + 1 + j by omega] at this
            exact this
          · rw [upd_ne hne]
            exact h4
          · rw [q1, hd]
            simp
          · rw [q2 b hb, upd_ne hb]
      · cases hf
    · cases hf
/-- the first field -/
theorem fld_new (T : OexC X.K C) (hL : ∀ x ∈ X.N, Vis X.env.scope x ∧ (x == ("__debug__" : Str)) = false ∧ (x == ("__classdict__" : Str)) = false) (hno : ∀ x ∈ X.N.drop 1, PySem.W.findIn X.K (.ref C) x = some none) {sts : List Stmt} (hf : fldB X.N 1 sts = true) (h2 : 2 ≤ X.N.length) (h20 : X.N.length ≤ 20) :
    PSs X sts (fun D σ H => ∃ a ys, σ[0]? = some (some (.ref a)) ∧ (∀ (j : Nat) y, ys[j]? = some y → σ[1 + j]? = some (some y)) ∧ ys.length + 1 = X.N.length ∧ H a = some (exo a C none) ∧ ∀ dx H2, H dx = none → dx ≠ a → H2 a = some (exo a C (some dx)) → H2 dx = some (exd dx ((X.N.drop 1).zip ys).reverse) → (∀ b, b ≠ a → b ≠ dx → H2 b = H b) → D.nx σ H2) := by
  have hlen : ∀ (sts : List Stmt) (k : Nat), fldB X.N k sts = true → X.N.length = k + sts.length := by
    intro sts
    induction sts with
    | nil => intro k h; exact of_decide_eq_true h
    | cons st r ih =>
      intro k h
      unfold fldB at h
      split at h
      · split at h
        · have := ih (k + 1) (Bool.and_eq_true_iff.mp (Bool.and_eq_true_iff.mp (Bool.and_eq_true_iff.mp h).2).2).2
          rw [List.length_cons]; omega
        · cases h
      · cases h
  have hl := hlen sts 1 hf
  cases sts with
  | nil => simp at hl; omega
  | cons st r =>
    unfold fldB at hf
    split at hf
    · rename_i st' ts e p
      split at hf
      · rename_i s' p1 f p2 x p3
        obtain ⟨f1', g1⟩ := Bool.and_eq_true_iff.mp hf
        obtain ⟨f2', g2⟩ := Bool.and_eq_true_iff.mp g1
        obtain ⟨f3', g3⟩ := Bool.and_eq_true_iff.mp g2
        have f1 := of_decide_eq_true f1'
        have f2 := of_decide_eq_true f2'
        have f3 := of_decide_eq_true f3'
        clear hf g1 g2 f1' f2' f3'
        subst f3
        obtain ⟨v1, v2, v3⟩ := hL _ (List.mem_of_getElem? f1)
        obtain ⟨w1, w2, w3⟩ := hL _ (List.mem_of_getElem? f2)
        have hd := drop_cons f2
        refine ⟨fun pins s σ H D I h => (pss_cons (ps_ost (pe_var f1 v1 v2 v3) (pe_var f2 w1 w2 w3) rfl) (fld_old T hL r 2 (by omega) (fun y hy => hno y (by rw [hd]; exact List.mem_cons_of_mem _ hy)) g3)).run pins s σ H D I ?_⟩
        obtain ⟨a, ys, h1, h2, h3, h4, h5⟩ := h
        cases ys with
        | nil => simp at h3; omega
        | cons y ys =>
          refine ⟨y, h2 0 y rfl, .ref a, h1, a, C, rfl, T, hno _ (by rw [hd]; exact List.mem_cons_self), .inl ⟨h4, fun dx n ne => ?_⟩⟩
          refine ⟨a, dx, [(f, y)], ys, h1, fun j y' hj => ?_, by simp at hl h3; omega, Ne.symm ne, upd_same, by rw [upd_ne ne, upd_same], by simp at hl ⊢; omega, fun H2 q1 q2 => h5 dx H2 n ne ?_ ?_ fun b hb hb2 => ?_⟩
          · have := h2 (j + 1) y' (by simpa using hj)
            rw [show 1 + (j + 1) = 2 + j by omega] at this
            exact this
          · rw [q2 a (Ne.symm ne), upd_same]
          · rw [q1, hd]
            simp
          · rw [q2 b hb2, upd_ne hb, upd_ne hb2]
      · cases hf
    · cases hf
end
/-- the promise of such an __init__ -/
def spI (C : Addr) (ps : List Str) : Sp := fun vs H Q _ => ∃ a ys, vs = .ref a :: ys ∧ vs.length = ps.length ∧ H a = some (exo a C none) ∧ ∀ dx H2, H dx = none → dx ≠ a → H2 a = some (exo a C (some dx)) → H2 dx = some (exd dx ((ps.drop 1).zip ys).reverse) → (∀ b, b ≠ a → b ≠ dx → H2 b = H b) → Q .non H2
section
variable {CX : CXT} {P : Program} {w : World} {K : PySem.W.Frag} {mg : Str → Option Value} {base : Heap} {ps : List Str} {name qual : Str} {scope : Scope} {f cda cc C : Addr} {params : Arguments} {body : List Stmt} {dV kV doc pm ct oc : Value} {an od : Option Addr} {osl : Array (Option Value)} {ar : Arg} {k : Nat}
theorem init_fn (lk : K.lookup f = some ⟨oc, od, .func (PySem.W.ksFn name qual params body scope dV kV doc pm an (.ref cda) ct cc), osl⟩) (T : SupC P K C cc cda f (PySem.W.ksFn name qual params body scope dV kV doc pm an (.ref cda) ct cc)) (hcd : PySem.W.codeIn K (.ref cda) qual = true) (S : InitS ps scope) (hB : initB ps body = true) (hno : ∀ x ∈ ps.drop 1, PySem.W.findIn K (.ref C) x = some none)
    (hp : (params.posonlyargs ++ params.args).head? = some ar) (hps : ps[0]? = some ar.arg) (hsup : mg "super" = none) :
    FnOk P w K mg base CX (k + 1) f (PySem.W.ksFn name qual params body scope dV kV doc pm an (.ref cda) ct cc) ps (spI C ps) := by
  refine ⟨fun vs H Q E h => by obtain ⟨a, ys, _, h, _⟩ := h; exact h, fun A outer s H args us vs Q E hr e0 hb r hsp => ?_⟩
  obtain ⟨a, ys, hvs, hl, ea, hq⟩ := hsp
  obtain ⟨cl, cld, csl, hcell⟩ := T.cell
  have KX : K.In s.heap := e0.mod.kin.keeps fun b o e => (e0.bs b o e).1
  have lim : s.heap.NoLimit := e0.mod.nolimit.keeps fun b o e => (e0.bs b o e).1
  have hloc : ∀ y ∈ ps.zip us, scope.names.lookup y.1 = some .local := fun ⟨n, v⟩ hy => (S.par n (List.of_mem_zip hy).1).1
  refine ks_codeAny_call_defAt (fd := PySem.W.ksFn name qual params body scope dV kV doc pm an (.ref cda) ct cc) (body := body) (binds := ps.zip us) hr.depth (KX _ _ lk) rfl lim (PySem.W.codeRec_of KX hcd) rfl hb S.nocell hloc (fun h₀ hns hk => ?_) S.co S.gen S.kind
  show _root_.PySem.wpAt (model P w) (A.deeper (iEnv qual scope s.heap.objs.size f cda cc)) (.func body (iEnv qual scope s.heap.objs.size f cda cc)) (execs body (iEnv qual scope s.heap.objs.size f cda cc)) _ (cxI CX P w K mg base ps qual scope f cda cc A outer s H E).xe _
  have I : Inv (cxI CX P w K mg base ps qual scope f cda cc A outer s H E) [] (vs.map some) H { s with heap := h₀, toks := s.toks + (ps.zip us).length } := inv_startI S hr.hd e0 hl r hcell hns hk
  unfold initB at hB
  split at hB
  · rename_i e p4 rest
    split at hB
    · rename_i fx es ks p3
      split at hB
      · rename_i s' p0 p1 m p2
        obtain ⟨b1, hB⟩ := Bool.and_eq_true_iff.mp hB
        obtain ⟨b2, hB⟩ := Bool.and_eq_true_iff.mp hB
        obtain ⟨b3, hB⟩ := Bool.and_eq_true_iff.mp hB
        obtain ⟨b4, hB⟩ := Bool.and_eq_true_iff.mp hB
        obtain ⟨b5, hB⟩ := Bool.and_eq_true_iff.mp hB
        obtain ⟨b6, b7⟩ := Bool.and_eq_true_iff.mp hB
        have b1 := of_decide_eq_true b1
        have b2 := of_decide_eq_true b2
        have b4 := of_decide_eq_true b4
        have b6 := of_decide_eq_true b6
        have b7 := of_decide_eq_true b7
        subst b1
        subst b2
        have h0 : (vs.map some)[0]? = some (some (V.ref a)) := by rw [hvs]; rfl
        refine ks_wpAt_execs_cons (super_ok (body := _) T S hp hps hsup I ea h0 b3 (by rw [List.length_range']; omega) (beq_iff_eq.mpr b4) (fun k i hi => ?_) ?_ fun s' J => ?_)
        · obtain ⟨hk', ei⟩ := List.getElem?_eq_some_iff.mp hi
          rw [List.length_range'] at hk'
          rw [List.getElem_range'] at ei
          have : i < vs.length := by omega
          exact ⟨vs[i], by rw [List.getElem?_map, List.getElem?_eq_getElem this]; rfl⟩
        · cases es with
          | nil =>
            have : nmAt ps (List.range' 1 (ps.length - 1)) [] = true := b3
            rw [show ps.length - 1 = (ps.length - 2) + 1 by omega] at this
            cases this
          | cons e r => exact ⟨e, r, rfl⟩
        · have hLX : ∀ x ∈ ps, Vis scope x ∧ (x == ("__debug__" : Str)) = false ∧ (x == ("__classdict__" : Str)) = false := fun x hx => ⟨.inl (S.par x hx).1, (S.par x hx).2.1, (S.par x hx).2.2⟩
          refine wpAt_of_wpAny ?_
          refine wpAny_mono ((fld_new (X := cxI CX P w K mg base ps qual scope f cda cc A outer s H E) T.oex hLX hno b5 b6 b7).run [] s' _ H { nx := fun _ H' => Q .non H', rt := fun _ _ => False } J ⟨a, ys, h0, fun j y hj => ?_, ?_, ea, hq⟩) (fun fl s2 hs => ?_) fun _ _ z => z
          · rw [hvs, List.getElem?_map, show 1 + j = j + 1 by omega, List.getElem?_cons_succ, hj]
            rfl
          · rw [hvs] at hl
            exact hl
          · have fin : ∀ {σ' : L2.St} {H' : Hp}, Inv (cxI CX P w K mg base ps qual scope f cda cc A outer s H E) [] σ' H' s2 → Q .non H' → CE outer P w H s Q .none s2 := fun {σ' H'} J q => ⟨.non, H', J.os, J.bare, J.base, J.hok, rfl, q⟩
            cases fl with
            | next =>
              obtain ⟨σ', H', J, q⟩ := hs
              exact fin J q
            | ret u =>
              obtain ⟨v, σ', H', J, rv, q⟩ := hs
              exact q.elim
            | brk =>
              obtain ⟨_, _, _, q⟩ := hs
              exact False.elim q
            | cont =>
              obtain ⟨_, _, _, q⟩ := hs
              exact False.elim q
      · cases hB
    · cases hB
  · cases hB
end
end Ly

/-! My own layer (Ly), part A: pure data, outcomes, the small language and its evaluator. -/
namespace Ly
open PySem PySem.Spec L2

/-- pure data; lists and dicts bear a mark: true where their holder may still change them -/
inductive D where
  | non | bl (b : Bool) | int (i : Int) | str (x : Str)
  | tup (xs : List D)
  | lst (o : Bool) (xs : List D)
  | dk (o : Bool) (ks : List Key) (vs : List D)
  | dt (o : Bool) (ks : List (List Key)) (vs : List D)
  | exc (c : Str) (ns : List Str) (fs : List D)
  /-- the script -/
  | scr (ns : List Int)

abbrev Ev := List (Option D)
inductive Out (α : Type) where
  | ok (a : α) (ρ : Ev)
  | exc (x : D) (ρ : Ev)
  | bad
def Out.bind {α β : Type} : Out α → (α → Ev → Out β) → Out β
  | .ok a ρ, f => f a ρ
  | .exc x ρ, _ => .exc x ρ
  | .bad, _ => .bad
/-- what a def gives: its value (or error) and the data behind it of the parameters that it may change -/
inductive FOut where
  | ret (d : D) (outs : List D)
  | exc (x : D) (outs : List D)
  | bad
abbrev FSem := List D → FOut
/-- the defs that may be called -/
class Fns where
  F : Nat → FSem
  G : Nat → D
  /-- is the class the one or one of its heirs -/
  S : Str → Str → Option Bool
  /-- the fields of an error's class -/
  N : Str → Option (List Str)

/-- nothing in it may be changed any more -/
def frzD : D → Bool
  | .lst true _ => false
  | .dk true _ _ => false
  | .dt true _ _ => false
  | _ => true
mutual
/-- the same, given up for change -/
def fzD : D → D
  | .lst true xs => .lst false (fzDs xs)
  | .dk true ks vs => .dk false ks (fzDs vs)
  | .dt true ks vs => .dt false ks (fzDs vs)
  | .non => .non
  | .bl b => .bl b
  | .int i => .int i
  | .str x => .str x
  | .tup xs => .tup xs
  | .lst false xs => .lst false xs
  | .dk false ks vs => .dk false ks vs
  | .dt false ks vs => .dt false ks vs
  | .exc c ns fs => .exc c ns fs
  | .scr ns => .scr ns
def fzDs : List D → List D
  | [] => []
  | d :: ds => fzD d :: fzDs ds
end

/-! ### operations by values -/
inductive Ty where
  | int | str | bool | tuple | list | dict
  deriving DecidableEq
inductive O2 where
  | add | sub | mul | fdiv | mod | pow | eq | ne | lt | le | gt | ge | isN | notN | isIn | notIn | idx | min2 | max2
  deriving DecidableEq
inductive O1 where
  | neg | notO | len | tuple | list | int | str | abs | sum | minL | maxL | isT (t : Ty) | srt | rev
  deriving DecidableEq


mutual
def toP : D → PyData
  | .non => .none
  | .bl b => .bool b
  | .int i => .int i
  | .str x => .str x
  | .tup xs => .tuple (toPs xs)
  | .lst _ xs => .list (toPs xs)
  | .dk _ _ _ => .dict []
  | .dt _ _ _ => .dict []
  | .exc _ _ _ => .dict []
  | .scr _ => .dict []
def toPs : List D → List PyData
  | [] => []
  | d :: ds => toP d :: toPs ds
end
def eqG (d e : D) : Option D :=
  if (toP d).plain = true ∧ (toP e).plain = true ∧ min (toP d).depth (toP e).depth ≤ 64 then some (.bl (PyData.eqv (toP d) (toP e))) else none
def eqS : D → D → Option D
  | .int i, .int j => some (.bl (decide (i = j)))
  | .str x, .str y => some (.bl (decide (x = y)))
  | d, e => eqG d e
def notS : Option D → Option D
  | some (.bl b) => some (.bl (!b))
  | _ => none
def keyD : D → Option Key
  | .int i => some (.inl i)
  | .str x => some (.inr x)
  | _ => none
def keysD : List D → Option (List Key)
  | [] => some []
  | d :: ds => match keyD d, keysD ds with
    | some k, some ks => some (k :: ks)
    | _, _ => none
def look {κ : Type} [DecidableEq κ] (k : κ) : List κ → List D → Option D
  | j :: ks, v :: vs => if j = k then some v else look k ks vs
  | _, _ => none
def flatD : D → Bool
  | .non => true
  | .bl _ => true
  | .int _ => true
  | .str _ => true
  | _ => false
/-- items that may be read out of it and kept -/
def kids : D → Option (List D)
  | .tup xs => some xs
  | .lst false xs => some xs
  | .lst true xs => if xs.all frzD = true then some xs else none
  | _ => none
def lim : Nat := 16777216
def addS : D → D → Option D
  | .int i, .int j => some (.int (i + j))
  | .str x, .str y => if x.length + y.length ≤ lim then some (.str (x ++ y)) else none
  | .tup xs, .tup ys => if xs.length + ys.length ≤ lim then some (.tup (xs ++ ys)) else none
  | .lst o xs, .lst p ys => if ((o = false ∨ xs.all frzD = true) ∧ (p = false ∨ ys.all frzD = true)) ∧ xs.length + ys.length ≤ lim then some (.lst true (xs ++ ys)) else none
  | _, _ => none
/-- a text some times -/
def repS (x : Str) (k : Int) : Str := ⟨(List.replicate k.toNat x.cps.toList).flatten.toArray⟩
def mulS : D → D → Option D
  | .int i, .int j => if ((-18446744073709551616 < i ∧ i < 18446744073709551616) ∨ (-18446744073709551616 < j ∧ j < 18446744073709551616)) ∨ (i.natAbs.log2 < 2000 ∧ j.natAbs.log2 < 2000) then some (.int (i * j)) else none
  | .str x, .int k => if (-9223372036854775808 ≤ k ∧ k < 9223372036854775808) ∧ x.length * k.toNat ≤ lim ∧ x.length ≤ lim then some (.str (repS x k)) else none
  | .lst true xs, .int k => if xs.all frzD = true ∧ (-9223372036854775808 ≤ k ∧ k < 9223372036854775808) ∧ xs.length * k.toNat ≤ lim then some (.lst true (List.replicate k.toNat xs).flatten) else none
  | .tup xs, .int k => if (xs.isEmpty = false ∧ (2 ≤ k ∧ k ≤ 1000)) ∧ xs.length ≤ 1000 then some (.tup (List.replicate k.toNat xs).flatten) else none
  | _, _ => none
def I2 (f : Int → Int → D) : D → D → Option D
  | .int i, .int j => some (f i j)
  | _, _ => none
def inS (d : D) : D → Option D
  | .tup xs => if (toP d).plain = true ∧ PyData.plainAll (toPs xs) = true ∧ min (PyData.depthAll (toPs xs)) (toP d).depth ≤ 64 then some (.bl ((toPs xs).any fun y => PyData.eqv y (toP d))) else none
  | .lst _ xs => if (toP d).plain = true ∧ PyData.plainAll (toPs xs) = true ∧ min (PyData.depthAll (toPs xs)) (toP d).depth ≤ 64 then some (.bl ((toPs xs).any fun y => PyData.eqv y (toP d))) else none
  | .str y => (match d with
    | .str x => some (.bl (!(Builtin.Str.occurrences y x 0 y.length 1).isEmpty))
    | _ => none)
  | .dk _ ks vs => (match keyD d with
    | some k => some (.bl (look k ks vs).isSome)
    | none => none)
  | _ => none
def idxS : D → D → Option D
  | .tup xs, .int i => atI xs i
  | .lst _ xs, .int i => atI xs i
  | .scr ns, .int i => (match atI ns i with
    | some n => some (.int n)
    | none => none)
  | .str x, .int i => if x.length ≤ lim then (match atI x.cps.toList i with
    | some c => some (.str ⟨#[c]⟩)
    | none => none) else none
  | .dk _ ks vs, d => (match keyD d with
    | some k => look k ks vs
    | none => none)
  | _, _ => none
def isNon : D → Bool
  | .non => true
  | _ => false
def isS (x y : D) : Option D := match y with
  | .non => some (.bl (isNon x))
  | .bl b => (match x with
    | .bl a => some (.bl (decide (a = b)))
    | _ => none)
  | _ => none
def ltS : D → D → Option D
  | .int i, .int j => some (.bl (decide (i < j)))
  | .str x, .str y => some (.bl (decide (x.cps.toList < y.cps.toList)))
  | _, _ => none
def gtS : D → D → Option D
  | .int i, .int j => some (.bl (decide (j < i)))
  | .str x, .str y => some (.bl (decide (y.cps.toList < x.cps.toList)))
  | _, _ => none
def O2.sem : O2 → D → D → Option D
  | .add, x, y => addS x y
  | .sub, x, y => I2 (fun i j => .int (i - j)) x y
  | .mul, x, y => mulS x y
  | .fdiv, .int i, .int j => if 0 < j ∧ j < 18446744073709551616 then some (.int (i / j)) else none
  | .fdiv, _, _ => none
  | .mod, .int i, .int j => if 0 < j then some (.int (i % j)) else none
  | .mod, _, _ => none
  | .pow, .int i, .int j => if (0 ≤ j ∧ j ≤ 1000000) ∧ (-18446744073709551616 < i ∧ i < 18446744073709551616) then some (.int (i ^ j.toNat)) else none
  | .pow, _, _ => none
  | .eq, x, y => eqS x y
  | .ne, x, y => notS (eqS x y)
  | .lt, x, y => ltS x y
  | .le, x, y => I2 (fun i j => .bl (decide (i ≤ j))) x y
  | .gt, x, y => gtS x y
  | .ge, x, y => I2 (fun i j => .bl (decide (j ≤ i))) x y
  | .isN, x, y => isS x y
  | .notN, x, y => notS (isS x y)
  | .isIn, x, y => inS x y
  | .notIn, x, y => notS (inS x y)
  | .idx, x, y => idxS x y
  | .min2, x, y => I2 (fun i j => .int (if j < i then j else i)) x y
  | .max2, x, y => I2 (fun i j => .int (if j > i then j else i)) x y
def ints? : List D → Option (List Int)
  | [] => some []
  | .int i :: ds => (match ints? ds with
    | some r => some (i :: r)
    | none => none)
  | _ :: _ => none
def Ty.is : Ty → D → Bool
  | .int, .int _ => true
  | .int, .bl _ => true
  | .str, .str _ => true
  | .bool, .bl _ => true
  | .tuple, .tup _ => true
  | .list, .lst _ _ => true
  | .dict, .dk _ _ _ => true
  | .dict, .dt _ _ _ => true
  | _, _ => false
/-- isinstance of one class -/
def isTS (T : Ty) (d : D) : Option D := match d with
  | .scr _ => none
  | .dt _ _ _ => none
  | .exc _ _ _ => none
  | _ => some (.bl (T.is d))
/-- a slice's part -/
def partS : List D → Option (Option Int)
  | [] => some none
  | [.int i] => some (some i)
  | _ => none
def truth : D → Option Bool
  | .non => some false
  | .bl b => some b
  | .int i => some (i != 0)
  | .str x => if x.length ≤ lim then some (x.length != 0) else none
  | .tup xs => some (!xs.isEmpty)
  | .lst _ xs => some (!xs.isEmpty)
  | .dk true ks _ => some (!ks.isEmpty)
  | _ => none
def tupB : D → Bool
  | .tup (_ :: _) => true
  | _ => false
def atmB : D → Bool
  | .int _ => true
  | .str _ => true
  | .bl _ => true
  | _ => false
/-- may be put in order: all alike -/
def ordB (xs : List D) : Bool := xs.all fun x => xs.all fun y => PySem.W.alike (toP x) (toP y)
def srtL (xs : List D) : List D := xs.mergeSort (PySem.W.dataLe false toP)
def sortS (xs : List D) : Option D :=
  if ((ordB xs = true ∧ (xs.all tupB = true ∨ xs.all atmB = true)) ∧ xs.all frzD = true) ∧ xs.length ≤ lim ∧ (xs.all fun x => (toP x).plain && decide ((toP x).depth ≤ 32)) = true then some (.lst true (srtL xs)) else none
def intKs : List Key → Option (List Int)
  | [] => some []
  | .inl i :: r => (match intKs r with
    | some l => some (i :: l)
    | none => none)
  | .inr _ :: _ => none
/-- a dict's keys in order, whole numbers -/
def srtDk (ks : List Key) : Option D := match intKs ks with
  | some l => if l.length < 64 then some (.lst true ((l.mergeSort fun x y => decide (x ≤ y)).map D.int)) else none
  | none => none
def recvD : D → Bool
  | .dk _ _ _ => true
  | _ => false
/-- d.get(k, e) -/
def getS (x y z : D) : Option D := match x with
  | .dk _ ks vs => (match keyD y with
    | some k => some ((look k ks vs).getD z)
    | none => none)
  | _ => none
/-- the def's texts of the items -/
def keyL (F : FSem) : List D → Option (List Str)
  | [] => some []
  | d :: ds => (match F [d], keyL F ds with
    | .ret (.str x) [], some l => some (x :: l)
    | _, _ => none)
def byKeys {α : Type} (xs : List α) (ks : List Str) : List α := ((xs.zip ks).mergeSort fun p q => decide (p.2.cps.toList ≤ q.2.cps.toList)).map (·.1)
def srtKS (F : FSem) (x : D) : Option D := match x with
  | .lst _ xs => if xs.all frzD = true ∧ xs.length ≤ lim then (match keyL F xs with
    | some ks => some (.lst true (byKeys xs ks))
    | none => none) else none
  | _ => none
def O1.sem : O1 → D → Option D
  | .neg, .int i => some (.int (-i))
  | .notO, d => (match truth d with
    | some b => some (.bl (!b))
    | none => none)
  | .len, .tup xs => some (.int xs.length)
  | .len, .lst _ xs => some (.int xs.length)
  | .len, .scr ns => some (.int ns.length)
  | .len, .str x => if x.length ≤ lim then some (.int x.length) else none
  | .len, .dk true ks _ => some (.int ks.length)
  | .tuple, d => (match kids d with
    | some xs => some (.tup xs)
    | none => none)
  | .list, d => (match kids d with
    | some xs => some (.lst true xs)
    | none => none)
  | .int, .int i => some (.int i)
  | .int, .bl b => some (.int (if b then 1 else 0))
  | .str, .int i => if -1000000000000000000 < i ∧ i < 1000000000000000000 then some (.str (toString i)) else none
  | .abs, .int i => some (.int (if i < 0 then -i else i))
  | .sum, .lst _ xs => (match ints? xs with
    | some r => some (.int r.sum)
    | none => none)
  | .minL, .lst _ xs => (match ints? xs with
    | some (i :: r) => some (.int (r.foldl min i))
    | _ => none)
  | .maxL, .lst _ xs => (match ints? xs with
    | some (i :: r) => some (.int (r.foldl max i))
    | _ => none)
  | .isT t, d => isTS t d
  | .srt, .lst _ xs => sortS xs
  | .srt, .dk _ ks _ => srtDk ks
  | .rev, .tup xs => some (.tup xs.reverse)
  | _, _ => none
def slcS (d : D) (lo hi : Option Int) : Option D :=
  match d with
  | .tup xs => some (.tup ((xs.drop (HT.sIx xs.length 0 lo)).take (HT.sIx xs.length xs.length hi - HT.sIx xs.length 0 lo)))
  | .str x => if x.length ≤ lim then some (.str (cutS x lo hi)) else none
  | .scr ns => some (.lst true (((ns.drop (HT.sIx ns.length 0 lo)).take (HT.sIx ns.length ns.length hi - HT.sIx ns.length 0 lo)).map D.int))
  | .lst o xs => if o = false ∨ xs.all frzD = true then some (.lst true ((xs.drop (HT.sIx xs.length 0 lo)).take (HT.sIx xs.length xs.length hi - HT.sIx xs.length 0 lo))) else none
  | _ => none

/-- the first place of an equal one -/
def idxOf (d : PyData) : List PyData → Nat → Option Nat
  | [], _ => none
  | z :: zs, n => if PyData.eqv z d = true then some n else idxOf d zs (n + 1)
def indexS (x y : D) : Option D := match x with
  | .lst _ xs => if (flatD y = true ∧ xs.all flatD = true) ∨ (SeqAt.shaped (.list (toPs xs)) = true ∧ SeqAt.shaped (toP y) = true ∧ (toP y).plain = true ∧ PyData.plainAll (toPs xs) = true) then (match idxOf (toP y) (toPs xs) 0 with
    | some n => some (.int (n : Nat))
    | none => none) else none
  | _ => none
/-- methods that change nothing -/
inductive Mth where
  | index | join | split | count | upper | strip | words
  deriving DecidableEq
/-- what may be asked so -/
def Mth.recv : Mth → D → Bool
  | .index, .lst _ _ => true
  | .index, _ => false
  | _, .str _ => true
  | _, _ => false
def strs? : List D → Option (List Str)
  | [] => some []
  | .str x :: ds => (match strs? ds with
    | some r => some (x :: r)
    | none => none)
  | _ :: _ => none
def joinS (a : Str) (xs : List D) : Option D := match strs? xs with
  | some ys => if (ys.map (·.length)).sum + ys.length * a.length ≤ lim then some (.str (Txt.join a ys)) else none
  | none => none
def seqD : D → Option (List D)
  | .tup xs => some xs
  | .lst _ xs => some xs
  | _ => none
def Mth.sem : Mth → D → List D → Option D
  | .index, x, [y] => indexS x y
  | .join, .str a, [y] => (match seqD y with
    | some xs => joinS a xs
    | none => none)
  | .split, .str a, [.str b] => if (b.length == 0) = false ∧ a.length + 2 ≤ lim then some (.lst true ((Txt.split a b).map D.str)) else none
  | .count, .str a, [.str b] => some (.int (Txt.count a b))
  | .upper, .str a, [] => if a.length ≤ 5592405 then some (.str (Txt.upper a)) else none
  | .strip, .str a, [] => if a.length ≤ lim then some (.str (Txt.strip a)) else none
  | .words, .str a, [] => if a.length + 2 ≤ lim then some (.lst true ((Txt.words a).map D.str)) else none
  | _, _, _ => none

/-! ### the small language -/
mutual
inductive Tg where
  | nm (i : Nat)
  | tp (ts : Tgs)
inductive Tgs where
  | nil
  | cons (t : Tg) (ts : Tgs)
end
inductive LM where
  | ext | ins | rem
  deriving DecidableEq
mutual
inductive E where
  /-- a name's value, borrowed -/
  | var (i : Nat)
  /-- .. given up for change -/
  | mv (i : Nat)
  /-- .. moved out: the name has no value behind it -/
  | mvo (i : Nat)
  | cst (d : D)
  /-- a constant of the module -/
  | glo (k : Nat)
  /-- must be frozen -/
  | ck (e : E)
  /-- made frozen -/
  | fz (e : E)
  | o2 (op : O2) (a b : E)
  | o1 (op : O1) (a : E)
  | and (a b : E)
  | or (a b : E)
  | ite (c a b : E)
  | tup (es : Es)
  | lst (es : Es)
  | slc (a : E) (lo hi : Es)
  /-- a call of the def k, with the names that it may change -/
  | call (slots : List (Option Nat)) (k : Nat) (es : Es)
  /-- x.pop(), x.pop(i) of the list of the name -/
  | pop (i : Nat)
  | popAt (i : Nat) (at_ : E)
  /-- [elt for tg in it if c]: own slots, target, iterable, tests, element -/
  | lc (own : List Nat) (tg : Tg) (it : It) (c : Es) (elt : E)
  /-- {} -/
  | dnil
  /-- list(range(..)) -/
  | lrg (es : Es)
  | trg (es : Es)
  /-- a.m(..) -/
  | me (m : Mth) (a : E) (es : Es)
  /-- x[p].pop(a) -/
  | popP (i : Nat) (p a : E)
  /-- a call by keywords: where the parameters stand among them -/
  | callK (k : Nat) (perm : List Nat) (es : Es)
  /-- x[b], x read behind b -/
  | ixL (i : Nat) (b : E)
  /-- a.get(k, d) -/
  | get (a k d : E)
  /-- sorted(a, key=the def k) -/
  | srtK (k : Nat) (a : E)
  /-- a < b < c -/
  | cmp2 (o1 o2 : O2) (a b c : E)
  /-- e.f of an error -/
  | fld (a : E) (f : Str)
  /-- isinstance(e, (T, ..)) of an error -/
  | isX (a : E) (Ts : List Str)
  /-- {k: e for tg in it if c} -/
  | dc (own : List Nat) (tg : Tg) (it : It) (c : Es) (k e : E)
inductive Es where
  | nil
  | cons (e : E) (es : Es)
  /-- the name i is handed to a def that may change it -/
  | io (i : Nat) (es : Es)
inductive It where
  | seq (e : E)
  | rng (es : Es)
  | enum (e : E)
  | zip (a b : E)
  | revd (e : E)
end
mutual
inductive S where
  | pass
  | expr (e : E)
  | asg (i : Nat) (e : E)
  | asgT (tg : Tg) (e : E)
  | asgP (i j : Nat) (a b : E)
  | aug (i : Nat) (op : O2) (e : E)
  | setI (i : Nat) (ix e : E)
  | app (i : Nat) (e : E)
  /-- x[p].append(e), x[p][ix] = e, x[ix] op= e -/
  | appP (i : Nat) (p e : E)
  | setP (i : Nat) (p ix e : E)
  | augI (i : Nat) (ix : E) (op : O2) (e : E)
  /-- x.extend(e), x.insert(e, e), x.remove(e) -/
  | lme (m : LM) (i : Nat) (es : Es)
  | iff (c : E) (a b : Ss)
  | whl (c : E) (b : Ss)
  | forr (tg : Tg) (it : It) (b : Ss)
  | ret (e : E)
  | retN
  | brk
  | cnt
  /-- raise c(es) -/
  | rai (c : Str) (es : Es)
  | tri (b : Ss) (hs : Hs)
inductive Ss where
  | nil
  | cons (s : S) (ss : Ss)
/-- except c as n: h -/
inductive Hs where
  | nil
  | cons (c : Str) (n : Option Nat) (h : Ss) (r : Hs)
end

/-! ### what it does -/
mutual
def bindT : Tg → D → Ev → Option Ev
  | .nm i, d, ρ => some (ρ.set i (some d))
  | .tp ts, d, ρ => (match d with
    | .tup xs => bindTs ts xs ρ
    | .lst false xs => bindTs ts xs ρ
    | _ => none)
def bindTs : Tgs → List D → Ev → Option Ev
  | .nil, [], ρ => some ρ
  | .cons t ts, d :: ds, ρ => (match bindT t d ρ with
    | some ρ' => bindTs ts ds ρ'
    | none => none)
  | _, _, _ => none
end
def getV (ρ : Ev) (i : Nat) : Option D := ρ.getD i none
/-- the data at a path of places within lists -/
def fill : List (Option Nat) → List D → Ev → Option (List D)
  | [], [], _ => some []
  | none :: r, d :: ds, ρ => if frzD d = true then (match fill r ds ρ with
    | some l => some (d :: l)
    | none => none) else none
  | some i :: r, _ :: ds, ρ => (match getV ρ i, fill r ds ρ with
    | some d, some l => some (d :: l)
    | _, _ => none)
  | _, _, _ => none
def wb : List (Option Nat) → List D → Ev → Option Ev
  | [], [], ρ => some ρ
  | none :: r, os, ρ => wb r os ρ
  | some i :: r, o :: os, ρ => wb r os (ρ.set i (some o))
  | _, _, _ => none
def callOut (slots : List (Option Nat)) (sem : FSem) (ds : List D) (ρ : Ev) : Out D :=
  match fill slots ds ρ with
  | none => .bad
  | some ds' => match sem ds' with
    | .ret d outs => (match wb slots outs ρ with
      | some ρ' => .ok d ρ'
      | none => .bad)
    | .exc x outs => (match wb slots outs ρ with
      | some ρ' => .exc x ρ'
      | none => .bad)
    | .bad => .bad
def popF (xs : List D) : Option (D × List D) := match xs[xs.length - 1]? with
  | some d => if frzD d = true then some (d, xs.dropLast) else none
  | none => none
def popAtF (i : Int) (xs : List D) : Option (D × List D) := match ixN xs.length i with
  | some j => (match xs[j]? with
    | some d => if frzD d = true ∧ xs.length ≤ lim then some (d, xs.eraseIdx j) else none
    | none => none)
  | none => none
/-- the list of the name, changed by f -/
def onL {α : Type} (f : List D → Option (α × List D)) (i : Nat) (ρ : Ev) : Out α :=
  match getV ρ i with
  | some (.lst true xs) => (match f xs with
    | some (a, ys) => .ok a (ρ.set i (some (.lst true ys)))
    | none => .bad)
  | _ => .bad
def isL (ρ : Ev) (i : Nat) : Bool := match getV ρ i with
  | some (.lst true _) => true
  | _ => false
/-- the list within the list of the name, at k, changed by f: of frozen things -/
def onP {α : Type} (f : List D → Option (α × List D)) (i : Nat) (k : Int) (ρ : Ev) : Out α :=
  match getV ρ i with
  | some (.lst true xs) => (match ixN xs.length k with
    | some n => (match xs[n]? with
      | some (.lst true ys) => if ys.all frzD = true then (match f ys with
        | some (a, zs) => if zs.all frzD = true then .ok a (ρ.set i (some (.lst true (xs.set n (.lst true zs))))) else .bad
        | none => .bad) else .bad
      | _ => .bad)
    | none => .bad)
  | _ => .bad
def isP (ρ : Ev) (i : Nat) (k : Int) : Bool := match getV ρ i with
  | some (.lst true xs) => (match ixN xs.length k with
    | some n => (match xs[n]? with
      | some (.lst true _) => true
      | _ => false)
    | none => false)
  | _ => false
def setF (j : Int) (d : D) (ys : List D) : Option (Unit × List D) := match ixN ys.length j with
  | some n => some ((), ys.set n d)
  | none => none
def appF (d : D) (xs : List D) : Option (Unit × List D) := if xs.length < lim then some ((), xs ++ [d]) else none
def remI (k : Int) : List D → Option (List D)
  | [] => none
  | .int j :: xs => if j = k then some xs else (match remI k xs with
    | some ys => some (.int j :: ys)
    | none => none)
  | _ :: _ => none
def isIntD : D → Bool
  | .int _ => true
  | _ => false
def LM.f : LM → List D → List D → Option (Unit × List D)
  | .ext, [.lst _ ys], xs => if ys.all frzD = true ∧ xs.length + ys.length ≤ lim then some ((), xs ++ ys) else none
  | .ins, [.int i, d], xs => if (frzD d = true ∧ xs.length < lim) ∧ (0 ≤ i ∧ i < 9223372036854775808) then some ((), xs.take i.toNat ++ [d] ++ xs.drop i.toNat) else none
  | .rem, [.int k], xs => if xs.all isIntD = true then (match remI k xs with
    | some ys => some ((), ys)
    | none => none) else none
  | _, _, _ => none
def permD (perm : List Nat) (ds : List D) : List D := perm.map fun n => ds.getD n .non
def wipeE (ρ : Ev) : List Nat → Ev
  | [] => ρ
  | v :: vs => (wipeE ρ vs).set v none
def lcLoop (f : D → Ev → Out (List D)) : List D → Ev → Out (List D)
  | [], ρ => .ok [] ρ
  | d :: ds, ρ => (f d ρ).bind fun x ρ1 => (lcLoop f ds ρ1).bind fun r ρ2 => .ok (x ++ r) ρ2
/-- d[k] = v -/
def put {κ : Type} [DecidableEq κ] (k : κ) (v : D) (ks : List κ) (vs : List D) : List κ × List D :=
  if (ks.any fun j => decide (j = k)) = true then (ks, List.zipWith (fun j w => if j = k then v else w) ks vs) else (ks ++ [k], vs ++ [v])
def dcLoop (f : D → Ev → Out (Option (Key × D))) : List D → List Key × List D → Ev → Out (List Key × List D)
  | [], acc, ρ => .ok acc ρ
  | d :: ds, acc, ρ => (f d ρ).bind fun x ρ1 => dcLoop f ds (match x with
    | some (k, v) => put k v acc.1 acc.2
    | none => acc) ρ1
def enumD : Nat → List D → List D
  | _, [] => []
  | n, d :: ds => .tup [.int n, d] :: enumD (n + 1) ds
def zipD : List D → List D → List D
  | x :: xs, y :: ys => .tup [x, y] :: zipD xs ys
  | _, _ => []
def rngD (lo : Int) : Nat → List D
  | 0 => []
  | n + 1 => .int lo :: rngD (lo + 1) n
def rngOf : List D → Option (List D)
  | [.int j] => if -4611686018427387904 ≤ j ∧ j < 4611686018427387904 then some (rngD 0 j.toNat) else none
  | [.int i, .int j] => if (-4611686018427387904 ≤ i ∧ i < 4611686018427387904) ∧ (-4611686018427387904 ≤ j ∧ j < 4611686018427387904) then some (rngD i (j - i).toNat) else none
  | _ => none
def trgS (ds : List D) : Option D := match rngOf ds with
  | some l => if l.length ≤ lim then some (.tup l) else none
  | none => none
def lrgS (ds : List D) : Option D := match rngOf ds with
  | some l => if l.length ≤ lim then some (.lst true l) else none
  | none => none
def seqOf : D → Option (List D)
  | .tup xs => some xs
  | .lst false xs => some xs
  | .scr ns => some (ns.map D.int)
  | .str x => some (x.cps.toList.map fun c => .str ⟨#[c]⟩)
  | _ => none
def revOf : D → Option (List D)
  | .str _ => none
  | d => (seqOf d).map List.reverse
def liftO {α : Type} (o : Option α) (ρ : Ev) : Out α := match o with
  | some a => .ok a ρ
  | none => .bad
def lookF (f : Str) : List Str → List D → Option D
  | n :: ns, d :: ds => if n = f then some d else lookF f ns ds
  | _, _ => none
def bindH (n : Option Nat) (x : D) (ρ : Ev) : Ev := match n with
  | none => ρ
  | some i => ρ.set i (some x)
def unbH (n : Option Nat) (ρ : Ev) : Ev := match n with
  | none => ρ
  | some i => ρ.set i none
variable [Fns]
def fldS (f : Str) : D → Option D
  | .exc c ns fs => if Fns.N c = some ns ∧ ns.length = fs.length then lookF f ns fs else none
  | _ => none
def anyX (c : Str) : List Str → Option Bool
  | [] => some false
  | T :: Ts => (match Fns.S c T with
    | some true => some true
    | some false => anyX c Ts
    | none => none)
def isXS (Ts : List Str) : D → Option D
  | .exc c ns _ => if Fns.N c = some ns then (match anyX c Ts with
    | some b => some (.bl b)
    | none => none) else none
  | _ => none
def clsX (x : D) (T : Str) : Option Bool := match x with
  | .exc c _ _ => Fns.S c T
  | _ => none
mutual
def ev : E → Ev → Out D
  | .var i, ρ => liftO (getV ρ i) ρ
  | .mv i, ρ => (match getV ρ i with
    | some d => .ok (fzD d) (ρ.set i (some (fzD d)))
    | none => .bad)
  | .mvo i, ρ => (match getV ρ i with
    | some d => .ok d (ρ.set i none)
    | none => .bad)
  | .cst d, ρ => .ok d ρ
  | .glo k, ρ => .ok (Fns.G k) ρ
  | .ck e, ρ => (ev e ρ).bind fun d ρ => if frzD d = true then .ok d ρ else .bad
  | .fz e, ρ => (ev e ρ).bind fun d ρ => .ok (fzD d) ρ
  | .o2 op a b, ρ => (ev a ρ).bind fun x ρ => (ev b ρ).bind fun y ρ => liftO (op.sem x y) ρ
  | .o1 op a, ρ => (ev a ρ).bind fun x ρ => liftO (op.sem x) ρ
  | .and a b, ρ => (ev a ρ).bind fun x ρ => (match truth x with
    | some true => ev b ρ
    | some false => .ok x ρ
    | none => .bad)
  | .or a b, ρ => (ev a ρ).bind fun x ρ => (match truth x with
    | some true => .ok x ρ
    | some false => ev b ρ
    | none => .bad)
  | .ite c a b, ρ => (ev c ρ).bind fun x ρ => (match truth x with
    | some true => ev a ρ
    | some false => ev b ρ
    | none => .bad)
  | .tup es, ρ => (evs es ρ).bind fun ds ρ => if ds.all frzD = true ∧ ds.length ≤ lim then .ok (.tup ds) ρ else .bad
  | .lst es, ρ => (evs es ρ).bind fun ds ρ => if ds.length ≤ lim then .ok (.lst true ds) ρ else .bad
  | .slc a lo hi, ρ => (ev a ρ).bind fun x ρ => (evs lo ρ).bind fun l ρ => (match partS l with
    | some l' => (evs hi ρ).bind fun h ρ => (match partS h with
      | some h' => liftO (slcS x l' h') ρ
      | none => .bad)
    | none => .bad)
  | .call slots k es, ρ => (evs es ρ).bind fun ds ρ => callOut slots (Fns.F k) ds ρ
  | .pop i, ρ => onL popF i ρ
  | .popAt i a, ρ => if isL ρ i = true then (ev a ρ).bind fun x ρ => (match x with
    | .int k => onL (popAtF k) i ρ
    | _ => .bad) else .bad
  | .lc own tg it c elt, ρ => (evIt it ρ).bind fun items ρ1 =>
    match lcLoop (fun d ρ => match bindT tg d ρ with
      | some ρ => (evC c ρ).bind fun b ρ => if b = true then (ev elt ρ).bind fun y ρ => .ok [y] (wipeE ρ own) else .ok [] (wipeE ρ own)
      | none => .bad) items (wipeE ρ1 own) with
    | .ok ys ρ2 => if ys.length ≤ lim then .ok (.lst true ys) ρ2 else .bad
    | .exc _ _ => .bad
    | .bad => .bad
  | .dnil, ρ => .ok (.dk true [] []) ρ
  | .lrg es, ρ => (evs es ρ).bind fun ds ρ => liftO (lrgS ds) ρ
  | .trg es, ρ => (evs es ρ).bind fun ds ρ => liftO (trgS ds) ρ
  | .popP i p a, ρ => if isL ρ i = true then (ev p ρ).bind fun k ρ => (match k with
    | .int k => if isP ρ i k = true then (ev a ρ).bind fun x ρ => (match x with
      | .int j => onP (popAtF j) i k ρ
      | _ => .bad) else .bad
    | _ => .bad) else .bad
  | .callK k perm es, ρ => (evs es ρ).bind fun ds ρ => if ds.all frzD = true then (match Fns.F k (permD perm ds) with
    | .ret d [] => .ok d ρ
    | .exc x [] => .exc x ρ
    | _ => .bad) else .bad
  | .ixL i b, ρ => if (getV ρ i).isSome = true then (ev b ρ).bind fun y ρ => liftO ((getV ρ i).bind fun d => idxS d y) ρ else .bad
  | .get a k d, ρ => (ev a ρ).bind fun x ρ => if recvD x = true then (ev k ρ).bind fun y ρ => (ev d ρ).bind fun z ρ => liftO (getS x y z) ρ else .bad
  | .srtK k a, ρ => (ev a ρ).bind fun x ρ => liftO (srtKS (Fns.F k) x) ρ
  | .cmp2 o1 o2 a b c, ρ => (ev a ρ).bind fun x ρ => (ev b ρ).bind fun y ρ => (match o1.sem x y with
    | some (.bl true) => (ev c ρ).bind fun z ρ => (match o2.sem y z with
      | some (.bl r) => .ok (.bl r) ρ
      | _ => .bad)
    | some (.bl false) => .ok (.bl false) ρ
    | _ => .bad)
  | .me m a es, ρ => (ev a ρ).bind fun x ρ => if m.recv x = true then (evs es ρ).bind fun ds ρ => liftO (m.sem x ds) ρ else .bad
  | .fld a f, ρ => (ev a ρ).bind fun x ρ => liftO (fldS f x) ρ
  | .isX a Ts, ρ => (ev a ρ).bind fun x ρ => liftO (isXS Ts x) ρ
  | .dc own tg it c k e, ρ => (evIt it ρ).bind fun items ρ1 =>
    match dcLoop (fun d ρ => match bindT tg d ρ with
      | some ρ => (evC c ρ).bind fun b ρ => if b = true then (ev k ρ).bind fun x ρ => (ev e ρ).bind fun y ρ => (match keyD x with
        | some j => if frzD y = true then .ok (some (j, y)) (wipeE ρ own) else .bad
        | none => .bad) else .ok none (wipeE ρ own)
      | none => .bad) items ([], []) (wipeE ρ1 own) with
    | .ok ks ρ2 => if ks.1.length < lim then .ok (.dk true ks.1 ks.2) ρ2 else .bad
    | .exc _ _ => .bad
    | .bad => .bad
def evs : Es → Ev → Out (List D)
  | .nil, ρ => .ok [] ρ
  | .cons e es, ρ => (ev e ρ).bind fun d ρ => (evs es ρ).bind fun ds ρ => .ok (d :: ds) ρ
  | .io i es, ρ => (match getV ρ i with
    | some _ => (evs es ρ).bind fun ds ρ => .ok (.non :: ds) ρ
    | none => .bad)
/-- the tests of a comprehension: none or one -/
def evC : Es → Ev → Out Bool
  | .nil, ρ => .ok true ρ
  | .cons e _, ρ => (ev e ρ).bind fun d ρ => liftO (truth d) ρ
  | .io _ _, _ => .bad
def evIt : It → Ev → Out (List D)
  | .seq e, ρ => (ev e ρ).bind fun d ρ => liftO (seqOf d) ρ
  | .rng es, ρ => (evs es ρ).bind fun ds ρ => liftO (rngOf ds) ρ
  | .enum e, ρ => (ev e ρ).bind fun d ρ => liftO ((seqOf d).map (enumD 0)) ρ
  | .zip a b, ρ => (ev a ρ).bind fun x ρ => (ev b ρ).bind fun y ρ => (match seqOf x, seqOf y with
    | some xs, some ys => .ok (zipD xs ys) ρ
    | _, _ => .bad)
  | .revd e, ρ => (ev e ρ).bind fun d ρ => liftO (revOf d) ρ
end
def lcF (own : List Nat) (tg : Tg) (c : Es) (elt : E) : D → Ev → Out (List D) := fun d ρ => match bindT tg d ρ with
  | some ρ => (evC c ρ).bind fun b ρ => if b = true then (ev elt ρ).bind fun y ρ => .ok [y] (wipeE ρ own) else .ok [] (wipeE ρ own)
  | none => .bad
def dcF (own : List Nat) (tg : Tg) (c : Es) (k e : E) : D → Ev → Out (Option (Key × D)) := fun d ρ => match bindT tg d ρ with
  | some ρ => (evC c ρ).bind fun b ρ => if b = true then (ev k ρ).bind fun x ρ => (ev e ρ).bind fun y ρ => (match keyD x with
    | some j => if frzD y = true then .ok (some (j, y)) (wipeE ρ own) else .bad
    | none => .bad) else .ok none (wipeE ρ own)
  | none => .bad
inductive Fl where
  | nx | bk | ct | rt (d : D)
def FUEL : Nat := 1099511627776
def forLoop (tg : Tg) (body : Ev → Out Fl) : List D → Ev → Out Fl
  | [], ρ => .ok .nx ρ
  | d :: ds, ρ => match bindT tg d ρ with
    | none => .bad
    | some ρ1 => match body ρ1 with
      | .ok .nx ρ2 => forLoop tg body ds ρ2
      | .ok .ct ρ2 => forLoop tg body ds ρ2
      | .ok .bk ρ2 => .ok .nx ρ2
      | .ok (.rt v) ρ2 => .ok (.rt v) ρ2
      | .exc x ρ2 => .exc x ρ2
      | .bad => .bad
def whLoop (c : Ev → Out D) (body : Ev → Out Fl) : Nat → Ev → Out Fl
  | 0, _ => .bad
  | n + 1, ρ => match c ρ with
    | .ok d ρ1 => (match truth d with
      | some true => (match body ρ1 with
        | .ok .nx ρ2 => whLoop c body n ρ2
        | .ok .ct ρ2 => whLoop c body n ρ2
        | .ok .bk ρ2 => .ok .nx ρ2
        | .ok (.rt v) ρ2 => .ok (.rt v) ρ2
        | .exc x ρ2 => .exc x ρ2
        | .bad => .bad)
      | some false => .ok .nx ρ1
      | none => .bad)
    | .exc x ρ1 => .exc x ρ1
    | .bad => .bad
mutual
def ex : S → Ev → Out Fl
  | .pass, ρ => .ok .nx ρ
  | .expr e, ρ => (ev e ρ).bind fun _ ρ => .ok .nx ρ
  | .asg i e, ρ => (ev e ρ).bind fun d ρ => .ok .nx (ρ.set i (some d))
  | .asgT tg e, ρ => (ev e ρ).bind fun d ρ => (match bindT tg d ρ with
    | some ρ' => .ok .nx ρ'
    | none => .bad)
  | .asgP i j a b, ρ => (ev a ρ).bind fun x ρ => (ev b ρ).bind fun y ρ => .ok .nx ((ρ.set i (some x)).set j (some y))
  | .aug i op e, ρ => (match getV ρ i with
    | some (.int m) => (ev e ρ).bind fun y ρ => (match y with
      | .int n => (match op.sem (.int m) (.int n) with
        | some z => .ok .nx (ρ.set i (some z))
        | none => .bad)
      | _ => .bad)
    | _ => .bad)
  | .setI i ix e, ρ => (ev e ρ).bind fun d ρ => (match getV ρ i with
    | some x => (ev ix ρ).bind fun k ρ => (match x, k with
      | .lst true xs, .int j => (match ixN xs.length j with
        | some n => .ok .nx (ρ.set i (some (.lst true (xs.set n d))))
        | none => .bad)
      | .dk true ks vs, k => (match keyD k with
        | some j => if frzD d = true ∧ ks.length < lim then .ok .nx (ρ.set i (some (.dk true (put j d ks vs).1 (put j d ks vs).2))) else .bad
        | none => .bad)
      | _, _ => .bad)
    | none => .bad)
  | .app i e, ρ => if isL ρ i = true then (ev e ρ).bind fun d ρ => (onL (appF d) i ρ).bind fun _ ρ => .ok .nx ρ else .bad
  | .appP i p e, ρ => if isL ρ i = true then (ev p ρ).bind fun k ρ => (match k with
    | .int k => if isP ρ i k = true then (ev e ρ).bind fun d ρ => (onP (appF d) i k ρ).bind fun _ ρ => .ok .nx ρ else .bad
    | _ => .bad) else .bad
  | .setP i p ix e, ρ => (ev e ρ).bind fun d ρ => if isL ρ i = true then (ev p ρ).bind fun k ρ => (match k with
    | .int k => if isP ρ i k = true then (ev ix ρ).bind fun j ρ => (match j with
      | .int j => (onP (setF j d) i k ρ).bind fun _ ρ => .ok .nx ρ
      | _ => .bad) else .bad
    | _ => .bad) else .bad
  | .lme m i es, ρ => if isL ρ i = true then (evs es ρ).bind fun ds ρ => (onL (m.f ds) i ρ).bind fun _ ρ => .ok .nx ρ else .bad
  | .augI i ix op e, ρ => if isL ρ i = true then (ev ix ρ).bind fun k ρ => (match k, getV ρ i with
    | .int k, some (.lst true xs) => (match idxS (.lst true xs) (.int k) with
      | some (.int m) => (ev e ρ).bind fun y ρ => (match y, getV ρ i with
        | .int j, some (.lst true ys) => (match op.sem (.int m) (.int j), ixN ys.length k with
          | some z, some n => .ok .nx (ρ.set i (some (.lst true (ys.set n z))))
          | _, _ => .bad)
        | _, _ => .bad)
      | _ => .bad)
    | _, _ => .bad) else .bad
  | .iff c a b, ρ => (ev c ρ).bind fun x ρ => (match truth x with
    | some true => exs a ρ
    | some false => exs b ρ
    | none => .bad)
  | .whl c b, ρ => whLoop (ev c) (exs b) FUEL ρ
  | .forr tg it b, ρ => (evIt it ρ).bind fun items ρ => forLoop tg (exs b) items ρ
  | .ret e, ρ => (ev e ρ).bind fun d ρ => .ok (.rt d) ρ
  | .retN, ρ => .ok (.rt .non) ρ
  | .brk, ρ => .ok .bk ρ
  | .cnt, ρ => .ok .ct ρ
  | .rai c es, ρ => (evs es ρ).bind fun ds ρ => (match Fns.N c with
    | some ns => if ns.length = ds.length ∧ ds.all frzD = true then .exc (.exc c ns ds) ρ else .bad
    | none => .bad)
  | .tri b hs, ρ => (match exs b ρ with
    | .exc x ρ' => exH hs x ρ'
    | r => r)
def exs : Ss → Ev → Out Fl
  | .nil, ρ => .ok .nx ρ
  | .cons s ss, ρ => match ex s ρ with
    | .ok .nx ρ' => exs ss ρ'
    | r => r
def exH : Hs → D → Ev → Out Fl
  | .nil, x, ρ => .exc x ρ
  | .cons c n h r, x, ρ => (match clsX x c with
    | some true => (match exs h (bindH n x ρ) with
      | .ok f ρ' => .ok f (unbH n ρ')
      | _ => .bad)
    | some false => exH r x ρ
    | none => .bad)
end
/-- where the names that a def may change stand -/
def ixs : List Bool → List Nat
  | [] => []
  | true :: r => 0 :: (ixs r).map (· + 1)
  | false :: r => (ixs r).map (· + 1)
def outsOf : List Nat → Ev → Option (List D)
  | [], _ => some []
  | i :: r, ρ => match getV ρ i, outsOf r ρ with
    | some d, some l => some (d :: l)
    | _, _ => none
/-- a def: how many names, the parameters that it may change, its body -/
def runFn (n : Nat) (io : List Bool) (b : Ss) : FSem := fun ds =>
  match exs b (ds.map some ++ List.replicate (n - ds.length) none) with
  | .ok .nx ρ => (match outsOf (ixs io) ρ with
    | some l => .ret .non l
    | none => .bad)
  | .ok (.rt d) ρ => (match outsOf (ixs io) ρ with
    | some l => .ret d l
    | none => .bad)
  | .exc x ρ => (match outsOf (ixs io) ρ with
    | some l => .exc x l
    | none => .bad)
  | _ => .bad
/-- classes of errors: its fields (if it has an __init__ of its own), itself and those above it -/
abbrev XT := List (Str × List Str × List Str)
def xtS (X : XT) (c T : Str) : Option Bool := match X.lookup c, X.lookup T with
  | some p, some _ => if p.1.isEmpty = true then none else some (p.2.contains T)
  | _, _ => none
def xtN (X : XT) (c : Str) : Option (List Str) := match X.lookup c with
  | some p => if p.1.isEmpty = true then none else some p.1
  | none => none
abbrev tabF (X : XT) (l : List FSem) : Fns := ⟨fun k => l.getD k (fun _ => .bad), fun _ => .non, xtS X, xtN X⟩
/-- a def that calls itself, so deep -/
def recF (X : XT) (n : Nat) (io : List Bool) (b : Ss) (t : List FSem) : Nat → FSem
  | 0 => fun _ => .bad
  | m + 1 => @runFn (tabF X (t ++ [recF X n io b t m])) n io b
end Ly

namespace Ly
open PySem PySem.Spec L2

/-- at a: a caught error of the class, with its dict -/
def exT (cls : Value) (d : Option Addr) (a : Addr) : HO := .ext fun h => ∃ (oe : Obj) (vs : Array Value), h.get? a = some oe ∧ Zc cls d oe ∧ oe.data = .fields vs
/-- what may be changed -/
def Mb : HO → Prop
  | .lst _ => True
  | .dK _ => True
  | .dT _ => True
  | _ => False
/-- a list that stands still for good -/
def SqF (H : Hp) (a : Addr) (xs : List V) : Prop := ∃ o, H a = some (.frz o (.lst xs))
/-- the script: known to the object, or an object of the module -/
def SqS (K : PySem.W.Frag) (H : Hp) (a : Addr) (xs : List V) : Prop :=
  (∃ o, H a = some (.frz o (.lst xs))) ∨
    ∃ (o : Obj) (its : Array Value) (n : Nat), K.lookup a = some o ∧ o.cls = .type "list" ∧ o.dict = none ∧ o.data = .seq its n ∧ its.size ≤ sizeLine ∧ Vals xs its.toList
theorem SqS.sq {K : PySem.W.Frag} {H : Hp} {a : Addr} {xs : List V} (h : SqS K H a xs) : SqL K H a xs := by
  rcases h with h | h
  · exact .inl (.inr h)
  · exact .inr h
theorem SqF.sq {K : PySem.W.Frag} {H : Hp} {a : Addr} {xs : List V} (h : SqF H a xs) : SqL K H a xs := .inl (.inr h)
mutual
/-- v stands for d in H; S: the addresses that its holder may change -/
def Rep (K : PySem.W.Frag) (H : Hp) : D → V → List Addr → Prop
  | .non, v, S => v = .non ∧ S = []
  | .bl b, v, S => v = .bl b ∧ S = []
  | .int i, v, S => v = .int i ∧ S = []
  | .str x, v, S => v = .str x ∧ S = []
  | .tup ds, v, S => S = [] ∧ ∃ a vs, v = .ref a ∧ SqT K H a vs ∧ Reps K H ds vs []
  | .lst false ds, v, S => S = [] ∧ ∃ a vs, v = .ref a ∧ SqF H a vs ∧ Reps K H ds vs []
  | .lst true ds, v, S => ∃ a vs S', v = .ref a ∧ H a = some (.lst vs) ∧ Reps K H ds vs S' ∧ S = a :: S'
  | .dk false ks ds, v, S => S = [] ∧ ∃ a vs o, v = .ref a ∧ H a = some (.frz o (.dK (ks.zip vs))) ∧ ks.length = vs.length ∧ Reps K H ds vs []
  | .dk true ks ds, v, S => ∃ a vs S', v = .ref a ∧ H a = some (.dK (ks.zip vs)) ∧ ks.length = vs.length ∧ Reps K H ds vs S' ∧ S = a :: S'
  | .dt false ks ds, v, S => S = [] ∧ ∃ a vs o, v = .ref a ∧ H a = some (.frz o (.dT (ks.zip vs))) ∧ ks.length = vs.length ∧ Reps K H ds vs []
  | .dt true ks ds, v, S => ∃ a vs S', v = .ref a ∧ H a = some (.dT (ks.zip vs)) ∧ ks.length = vs.length ∧ Reps K H ds vs S' ∧ S = a :: S'
  | .exc c ns fs, v, S => S = [] ∧ ∃ a d vs, v = .ref a ∧ H a = some (exT (.ref (He.ga K c)) (some d) a) ∧ H d = some (.xd (ns.zip vs).reverse) ∧ ns.length = vs.length ∧ Reps K H fs vs []
  | .scr ns, v, S => S = [] ∧ ∃ a, v = .ref a ∧ SqS K H a (ns.map V.int)
def Reps (K : PySem.W.Frag) (H : Hp) : List D → List V → List Addr → Prop
  | [], vs, S => vs = [] ∧ S = []
  | d :: ds, vs, S => ∃ v r S1 S2, vs = v :: r ∧ Rep K H d v S1 ∧ Reps K H ds r S2 ∧ S = S1 ++ S2
end
/-- how an error in the air lies -/
def erX (K : PySem.W.Frag) : D → Value → Option Addr → Hp → Prop := fun x cls dd H => ∃ c ns fs d vs, x = .exc c ns fs ∧ cls = .ref (He.ga K c) ∧ dd = some d ∧ H d = some (.xd (ns.zip vs).reverse) ∧ ns.length = vs.length ∧ Reps K H fs vs []
/-- all of S and all that cannot be changed stays -/
def Kp (S : List Addr) (H H' : Hp) : Prop := ∀ a o, H a = some o → (a ∈ S ∨ ¬ Mb o) → H' a = some o
theorem Kp.sub {S T : List Addr} {H H' : Hp} (k : Kp S H H') (h : ∀ a ∈ T, a ∈ S) : Kp T H H' := fun a o e q => k a o e (q.imp (h a) id)
theorem Kp.refl {S : List Addr} {H : Hp} : Kp S H H := fun _ _ e _ => e
theorem Kp.trans {S : List Addr} {H H1 H2 : Hp} (k : Kp S H H1) (k' : Kp S H1 H2) : Kp S H H2 := fun a o e q => k' a o (k a o e q) q
section
variable {K : PySem.W.Frag} {H H' : Hp}
theorem SqT.kp {S : List Addr} {a : Addr} {vs : List V} (h : SqT K H a vs) (k : Kp S H H') : SqT K H' a vs := by
  rcases h with (h | ⟨o, h⟩) | h
  · exact .inl (.inl (k a _ h (.inr fun z => z)))
  · exact .inl (.inr ⟨o, k a _ h (.inr fun z => z)⟩)
  · exact .inr h
theorem SqF.kp {S : List Addr} {a : Addr} {vs : List V} (h : SqF H a vs) (k : Kp S H H') : SqF H' a vs := by
  obtain ⟨o, h⟩ := h
  exact ⟨o, k a _ h (.inr fun z => z)⟩
mutual
theorem Rep.kp : ∀ (d : D) {v : V} {S : List Addr}, Rep K H d v S → Kp S H H' → Rep K H' d v S
  | .non, _, _, h, _ => h
  | .bl _, _, _, h, _ => h
  | .int _, _, _, h, _ => h
  | .str _, _, _, h, _ => h
  | .tup ds, _, _, h, k => by
    obtain ⟨rfl, a, vs, rfl, q, r⟩ := h
    exact ⟨rfl, a, vs, rfl, SqT.kp q k, Reps.kp ds r k⟩
  | .lst false ds, _, _, h, k => by
    obtain ⟨rfl, a, vs, rfl, q, r⟩ := h
    exact ⟨rfl, a, vs, rfl, SqF.kp q k, Reps.kp ds r k⟩
  | .lst true ds, _, _, h, k => by
    obtain ⟨a, vs, S', rfl, q, r, rfl⟩ := h
    exact ⟨a, vs, S', rfl, k a _ q (.inl List.mem_cons_self), Reps.kp ds r (k.sub fun b hb => List.mem_cons_of_mem _ hb), rfl⟩
  | .dk false ks ds, _, _, h, k => by
    obtain ⟨rfl, a, vs, o, rfl, q, l, r⟩ := h
    exact ⟨rfl, a, vs, o, rfl, k a _ q (.inr fun z => z), l, Reps.kp ds r k⟩
  | .dk true ks ds, _, _, h, k => by
    obtain ⟨a, vs, S', rfl, q, l, r, rfl⟩ := h
    exact ⟨a, vs, S', rfl, k a _ q (.inl List.mem_cons_self), l, Reps.kp ds r (k.sub fun b hb => List.mem_cons_of_mem _ hb), rfl⟩
  | .dt false ks ds, _, _, h, k => by
    obtain ⟨rfl, a, vs, o, rfl, q, l, r⟩ := h
    exact ⟨rfl, a, vs, o, rfl, k a _ q (.inr fun z => z), l, Reps.kp ds r k⟩
  | .dt true ks ds, _, _, h, k => by
    obtain ⟨a, vs, S', rfl, q, l, r, rfl⟩ := h
    exact ⟨a, vs, S', rfl, k a _ q (.inl List.mem_cons_self), l, Reps.kp ds r (k.sub fun b hb => List.mem_cons_of_mem _ hb), rfl⟩
  | .exc c ns fs, _, _, h, k => by
    obtain ⟨rfl, a, d, vs, rfl, q1, q2, l, r⟩ := h
    exact ⟨rfl, a, d, vs, rfl, k a _ q1 (.inr fun z => z), k d _ q2 (.inr fun z => z), l, Reps.kp fs r k⟩
  | .scr ns, _, _, h, k => by
    obtain ⟨rfl, a, rfl, q⟩ := h
    exact ⟨rfl, a, rfl, q.imp (fun ⟨o, q⟩ => ⟨o, k a _ q (.inr fun z => z)⟩) id⟩
theorem Reps.kp : ∀ (ds : List D) {vs : List V} {S : List Addr}, Reps K H ds vs S → Kp S H H' → Reps K H' ds vs S
  | [], _, _, h, _ => h
  | d :: ds, _, _, h, k => by
    obtain ⟨v, r, S1, S2, rfl, q1, q2, rfl⟩ := h
    exact ⟨v, r, S1, S2, rfl, Rep.kp d q1 (k.sub fun b hb => List.mem_append_left _ hb), Reps.kp ds q2 (k.sub fun b hb => List.mem_append_right _ hb), rfl⟩
end
/-- what may be changed is there, and is of a kind that may -/
def Owns (H : Hp) (S : List Addr) : Prop := ∀ a ∈ S, ∃ o, H a = some o ∧ Mb o
theorem Owns.app {S T : List Addr} (h : Owns H S) (h' : Owns H T) : Owns H (S ++ T) := fun a ha => (List.mem_append.mp ha).elim (h a) (h' a)
mutual
theorem Rep.owns : ∀ (d : D) {v : V} {S : List Addr}, Rep K H d v S → Owns H S
  | .non, _, _, h => by obtain ⟨_, rfl⟩ := h; exact fun a ha => absurd ha List.not_mem_nil
  | .bl _, _, _, h => by obtain ⟨_, rfl⟩ := h; exact fun a ha => absurd ha List.not_mem_nil
  | .int _, _, _, h => by obtain ⟨_, rfl⟩ := h; exact fun a ha => absurd ha List.not_mem_nil
  | .str _, _, _, h => by obtain ⟨_, rfl⟩ := h; exact fun a ha => absurd ha List.not_mem_nil
  | .tup ds, _, _, h => by obtain ⟨rfl, _⟩ := h; exact fun a ha => absurd ha List.not_mem_nil
  | .lst false ds, _, _, h => by obtain ⟨rfl, _⟩ := h; exact fun a ha => absurd ha List.not_mem_nil
  | .lst true ds, _, _, h => by
    obtain ⟨a, vs, S', rfl, q, r, rfl⟩ := h
    exact fun b hb => (List.mem_cons.mp hb).elim (fun e => ⟨.lst vs, e ▸ q, show Mb (.lst vs) from True.intro⟩) (Reps.owns ds r b)
  | .dk false ks ds, _, _, h => by obtain ⟨rfl, _⟩ := h; exact fun a ha => absurd ha List.not_mem_nil
  | .dk true ks ds, _, _, h => by
    obtain ⟨a, vs, S', rfl, q, l, r, rfl⟩ := h
    exact fun b hb => (List.mem_cons.mp hb).elim (fun e => ⟨.dK (ks.zip vs), e ▸ q, show Mb (.dK (ks.zip vs)) from True.intro⟩) (Reps.owns ds r b)
  | .dt false ks ds, _, _, h => by obtain ⟨rfl, _⟩ := h; exact fun a ha => absurd ha List.not_mem_nil
  | .dt true ks ds, _, _, h => by
    obtain ⟨a, vs, S', rfl, q, l, r, rfl⟩ := h
    exact fun b hb => (List.mem_cons.mp hb).elim (fun e => ⟨.dT (ks.zip vs), e ▸ q, show Mb (.dT (ks.zip vs)) from True.intro⟩) (Reps.owns ds r b)
  | .exc _ _ _, _, _, h => by obtain ⟨rfl, _⟩ := h; exact fun a ha => absurd ha List.not_mem_nil
  | .scr ns, _, _, h => by obtain ⟨rfl, _⟩ := h; exact fun a ha => absurd ha List.not_mem_nil
theorem Reps.owns : ∀ (ds : List D) {vs : List V} {S : List Addr}, Reps K H ds vs S → Owns H S
  | [], _, _, h => by obtain ⟨_, rfl⟩ := h; exact fun a ha => absurd ha List.not_mem_nil
  | d :: ds, _, _, h => by
    obtain ⟨v, r, S1, S2, rfl, q1, q2, rfl⟩ := h
    exact (Rep.owns d q1).app (Reps.owns ds q2)
end
theorem Rep.frz {d : D} {v : V} {S : List Addr} (h : Rep K H d v S) (hf : frzD d = true) : S = [] := by
  cases d with
  | non => exact h.2
  | bl _ => exact h.2
  | int _ => exact h.2
  | str _ => exact h.2
  | tup _ => exact h.1
  | lst o _ =>
    cases o with
    | false => exact h.1
    | true => cases hf
  | dk o _ _ =>
    cases o with
    | false => exact h.1
    | true => cases hf
  | dt o _ _ =>
    cases o with
    | false => exact h.1
    | true => cases hf
  | exc _ _ _ => exact h.1
  | scr _ => exact h.1
theorem Reps.frz : ∀ {ds : List D} {vs : List V} {S : List Addr}, Reps K H ds vs S → ds.all frzD = true → S = []
  | [], _, _, h, _ => h.2
  | d :: ds, _, _, h, hf => by
    obtain ⟨v, r, S1, S2, rfl, q1, q2, rfl⟩ := h
    rw [List.all_cons, Bool.and_eq_true] at hf
    rw [q1.frz hf.1, Reps.frz q2 hf.2]
    rfl
theorem Reps.length : ∀ {ds : List D} {vs : List V} {S : List Addr}, Reps K H ds vs S → ds.length = vs.length
  | [], _, _, h => by rw [h.1]; rfl
  | d :: ds, _, _, h => by
    obtain ⟨v, r, S1, S2, rfl, q1, q2, rfl⟩ := h
    rw [List.length_cons, List.length_cons, Reps.length q2]
/-- one item -/
theorem Reps.get : ∀ {ds : List D} {vs : List V} {S : List Addr} {i : Nat} {d : D}, Reps K H ds vs S → ds[i]? = some d → ∃ v T, vs[i]? = some v ∧ Rep K H d v T ∧ ∀ a ∈ T, a ∈ S
  | [], _, _, _, _, _, e => by simp at e
  | d :: ds, _, _, 0, _, h, e => by
    obtain ⟨v, r, S1, S2, rfl, q1, q2, rfl⟩ := h
    simp at e
    subst e
    exact ⟨v, S1, rfl, q1, fun a ha => List.mem_append_left _ ha⟩
  | d :: ds, _, _, i + 1, _, h, e => by
    obtain ⟨v, r, S1, S2, rfl, q1, q2, rfl⟩ := h
    obtain ⟨v', T, e1, e2, e3⟩ := Reps.get (i := i) q2 (by simpa using e)
    exact ⟨v', T, by simpa using e1, e2, fun a ha => List.mem_append_right _ (e3 a ha)⟩
theorem Reps.get0 {ds : List D} {vs : List V} {i : Nat} {d : D} (h : Reps K H ds vs []) (e : ds[i]? = some d) : ∃ v, vs[i]? = some v ∧ Rep K H d v [] := by
  obtain ⟨v, T, e1, e2, e3⟩ := h.get e
  have : T = [] := List.eq_nil_iff_forall_not_mem.mpr fun a ha => absurd (e3 a ha) List.not_mem_nil
  subst this
  exact ⟨v, e1, e2⟩
theorem Reps.of_get : ∀ {ds : List D} {vs : List V} {i : Nat} {v : V} {S : List Addr}, Reps K H ds vs S → vs[i]? = some v → ∃ d T, ds[i]? = some d ∧ Rep K H d v T ∧ ∀ a ∈ T, a ∈ S := fun {ds vs i v S} h e => by
  have hl := h.length
  obtain ⟨hi, e1⟩ := List.getElem?_eq_some_iff.mp e
  have hi' : i < ds.length := by omega
  obtain ⟨v', T, e1', e2, e3⟩ := h.get (List.getElem?_eq_getElem hi')
  rw [e] at e1'
  cases e1'
  exact ⟨_, T, List.getElem?_eq_getElem hi', e2, e3⟩
theorem Reps.nil : Reps K H [] [] [] := ⟨rfl, rfl⟩
theorem Reps.cons {d : D} {v : V} {S1 S2 : List Addr} {ds : List D} {vs : List V} (h : Rep K H d v S1) (h' : Reps K H ds vs S2) : Reps K H (d :: ds) (v :: vs) (S1 ++ S2) := ⟨v, vs, S1, S2, rfl, h, h', rfl⟩
theorem Reps.app : ∀ {ds es : List D} {vs ws : List V} {S T : List Addr}, Reps K H ds vs S → Reps K H es ws T → Reps K H (ds ++ es) (vs ++ ws) (S ++ T)
  | [], _, _, _, _, _, h, h' => by
    obtain ⟨rfl, rfl⟩ := h
    exact h'
  | d :: ds, _, _, _, _, _, h, h' => by
    obtain ⟨v, r, S1, S2, rfl, q1, q2, rfl⟩ := h
    rw [List.append_assoc]
    exact Reps.cons q1 (Reps.app q2 h')
theorem Reps.take0 : ∀ {ds : List D} {vs : List V} (n : Nat), Reps K H ds vs [] → Reps K H (ds.take n) (vs.take n) []
  | [], _, n, h => by
    obtain ⟨rfl, _⟩ := h
    rw [List.take_nil, List.take_nil]
    exact Reps.nil
  | d :: ds, _, 0, h => Reps.nil
  | d :: ds, _, n + 1, h => by
    obtain ⟨v, r, S1, S2, rfl, q1, q2, e⟩ := h
    obtain ⟨rfl, rfl⟩ := List.append_eq_nil_iff.mp e.symm
    exact Reps.cons (S1 := []) (S2 := []) q1 (Reps.take0 n q2)
theorem Reps.drop0 : ∀ {ds : List D} {vs : List V} (n : Nat), Reps K H ds vs [] → Reps K H (ds.drop n) (vs.drop n) []
  | [], _, n, h => by
    obtain ⟨rfl, _⟩ := h
    rw [List.drop_nil, List.drop_nil]
    exact Reps.nil
  | d :: ds, _, 0, h => h
  | d :: ds, _, n + 1, h => by
    obtain ⟨v, r, S1, S2, rfl, q1, q2, e⟩ := h
    obtain ⟨rfl, rfl⟩ := List.append_eq_nil_iff.mp e.symm
    exact Reps.drop0 n q2

/-! ### a def's names -/
def Vars (K : PySem.W.Frag) (H : Hp) : Ev → St → List Addr → Prop
  | [], [], SV => SV = []
  | none :: ρ, _ :: σ, SV => Vars K H ρ σ SV
  | some d :: ρ, some v :: σ, SV => ∃ S R, Rep K H d v S ∧ Vars K H ρ σ R ∧ SV = S ++ R
  | _, _, _ => False
theorem Vars.length : ∀ {ρ : Ev} {σ : St} {SV : List Addr}, Vars K H ρ σ SV → ρ.length = σ.length
  | [], [], _, _ => rfl
  | none :: ρ, _ :: σ, _, h => congrArg (· + 1) (Vars.length (ρ := ρ) (σ := σ) h)
  | some d :: ρ, some v :: σ, _, h => by
    obtain ⟨S, R, _, h, _⟩ := h
    exact congrArg (· + 1) (Vars.length h)
  | some d :: ρ, none :: σ, _, h => h.elim
  | [], _ :: _, _, h => h.elim
  | none :: _, [], _, h => h.elim
  | some _ :: _, [], _, h => h.elim
theorem Vars.owns : ∀ {ρ : Ev} {σ : St} {SV : List Addr}, Vars K H ρ σ SV → Owns H SV
  | [], [], _, h => by
    have h : _ = [] := h
    subst h
    exact fun a ha => absurd ha List.not_mem_nil
  | none :: ρ, _ :: σ, _, h => Vars.owns (ρ := ρ) (σ := σ) h
  | some d :: ρ, some v :: σ, _, h => by
    obtain ⟨S, R, q, h, rfl⟩ := h
    exact (q.owns).app (Vars.owns h)
  | some d :: ρ, none :: σ, _, h => h.elim
  | [], _ :: _, _, h => h.elim
  | none :: _, [], _, h => h.elim
  | some _ :: _, [], _, h => h.elim
theorem Vars.kp : ∀ {ρ : Ev} {σ : St} {SV : List Addr}, Vars K H ρ σ SV → Kp SV H H' → Vars K H' ρ σ SV
  | [], [], _, h, _ => h
  | none :: ρ, _ :: σ, _, h, k => Vars.kp (ρ := ρ) (σ := σ) h k
  | some d :: ρ, some v :: σ, _, h, k => by
    obtain ⟨S, R, q, h, rfl⟩ := h
    exact ⟨S, R, q.kp d (k.sub fun a ha => List.mem_append_left _ ha), Vars.kp h (k.sub fun a ha => List.mem_append_right _ ha), rfl⟩
  | some d :: ρ, none :: σ, _, h, _ => h.elim
  | [], _ :: _, _, h, _ => h.elim
  | none :: _, [], _, h, _ => h.elim
  | some _ :: _, [], _, h, _ => h.elim
/-- one name apart from the others -/
structure Foc (K : PySem.W.Frag) (H : Hp) (ρ : Ev) (σ : St) (SV : List Addr) (i : Nat) (S R : List Addr) : Prop where
  perm : SV.Perm (S ++ R)
  here : ∀ d, ρ[i]? = some (some d) → ∃ v, σ[i]? = some (some v) ∧ Rep K H d v S
  nil : ρ[i]? = some none → S = []
  set : ∀ H' d' v' S', Kp R H H' → Rep K H' d' v' S' → ∃ SV', Vars K H' (ρ.set i (some d')) (σ.set i (some v')) SV' ∧ SV'.Perm (S' ++ R)
  out : ∀ H' σ', Kp R H H' → (∀ j, j ≠ i → σ'[j]? = σ[j]?) → σ'.length = σ.length → ∃ SV', Vars K H' (ρ.set i none) σ' SV' ∧ SV'.Perm R
theorem tail_eq {o o' : Option V} {σ σ' : List (Option V)} (h : ∀ j, j ≠ 0 → (o' :: σ')[j]? = (o :: σ)[j]?) : σ' = σ := by
  apply List.ext_getElem?
  intro j
  simpa using h (j + 1) (by omega)
theorem Vars.foc : ∀ {ρ : Ev} {σ : St} {SV : List Addr} (i : Nat), Vars K H ρ σ SV → i < ρ.length → ∃ S R, Foc K H ρ σ SV i S R
  | [], _, _, _, _, hi => absurd hi (Nat.not_lt_zero _)
  | none :: ρ, x :: σ, SV, 0, h, _ => by
    refine ⟨[], SV, .refl _, fun d e => by simp at e, fun _ => rfl, fun H' d' v' S' k r => ⟨S' ++ SV, ⟨S', SV, r, Vars.kp (ρ := ρ) (σ := σ) h k, rfl⟩, .refl _⟩, fun H' σ' k hs hl => ?_⟩
    cases σ' with
    | nil => simp at hl
    | cons y σ' =>
      have := tail_eq hs
      subst this
      exact ⟨SV, Vars.kp (ρ := ρ) (σ := σ') h k, .refl _⟩
  | some d :: ρ, some v :: σ, SV, 0, h, _ => by
    obtain ⟨S, R, q, h, rfl⟩ := h
    refine ⟨S, R, .refl _, fun d' e => by simp at e; subst e; exact ⟨v, rfl, q⟩, fun e => by simp at e, fun H' d' v' S' k r => ⟨S' ++ R, ⟨S', R, r, Vars.kp h k, rfl⟩, .refl _⟩, fun H' σ' k hs hl => ?_⟩
    cases σ' with
    | nil => simp at hl
    | cons y σ' =>
      have := tail_eq hs
      subst this
      exact ⟨R, Vars.kp h k, .refl _⟩
  | none :: ρ, x :: σ, SV, i + 1, h, hi => by
    obtain ⟨S, R, f⟩ := Vars.foc (ρ := ρ) (σ := σ) i h (by simpa using hi)
    refine ⟨S, R, f.perm, fun d e => by obtain ⟨v, e1, e2⟩ := f.here d (by simpa using e); exact ⟨v, by simpa using e1, e2⟩, fun e => f.nil (by simpa using e), fun H' d' v' S' k r => ?_, fun H' σ' k hs hl => ?_⟩
    · obtain ⟨SV', a, b⟩ := f.set H' d' v' S' k r
      exact ⟨SV', a, b⟩
    · cases σ' with
      | nil => simp at hl
      | cons y σ' =>
        obtain ⟨SV', a, b⟩ := f.out H' σ' k (fun j hj => by simpa using hs (j + 1) (by omega)) (by simpa using hl)
        exact ⟨SV', a, b⟩
  | some d :: ρ, some v :: σ, SV, i + 1, h, hi => by
    obtain ⟨S0, R0, q, h, rfl⟩ := h
    obtain ⟨S, R, f⟩ := Vars.foc i h (by simpa using hi)
    refine ⟨S, S0 ++ R, ?_, fun d e => by obtain ⟨v, e1, e2⟩ := f.here d (by simpa using e); exact ⟨v, by simpa using e1, e2⟩, fun e => f.nil (by simpa using e), fun H' d' v' S' k r => ?_, fun H' σ' k hs hl => ?_⟩
    · refine (f.perm.append_left S0).trans ?_
      rw [← List.append_assoc, ← List.append_assoc]
      exact (List.perm_append_comm).append_right R
    · obtain ⟨SV', a, b⟩ := f.set H' d' v' S' (k.sub fun a ha => List.mem_append_right _ ha) r
      refine ⟨S0 ++ SV', ⟨S0, SV', q.kp d (k.sub fun a ha => List.mem_append_left _ ha), a, rfl⟩, (b.append_left S0).trans ?_⟩
      rw [← List.append_assoc, ← List.append_assoc]
      exact (List.perm_append_comm).append_right R
    · cases σ' with
      | nil => simp at hl
      | cons y σ' =>
        obtain ⟨SV', a, b⟩ := f.out H' σ' (k.sub fun a ha => List.mem_append_right _ ha) (fun j hj => by simpa using hs (j + 1) (by omega)) (by simpa using hl)
        have hy : y = some v := by simpa using hs 0 (by omega)
        subst hy
        exact ⟨S0 ++ SV', ⟨S0, SV', q.kp d (k.sub fun a ha => List.mem_append_left _ ha), a, rfl⟩, b.append_left S0⟩
  | some d :: ρ, none :: σ, _, _, h, _ => h.elim
  | none :: _, [], _, _, h, _ => h.elim
  | some _ :: _, [], _, _, h, _ => h.elim
theorem getV_some {ρ : Ev} {i : Nat} {d : D} (h : getV ρ i = some d) : ρ[i]? = some (some d) ∧ i < ρ.length := by
  unfold getV at h
  by_cases hi : i < ρ.length
  · rw [List.getD_eq_getElem?_getD, List.getElem?_eq_getElem hi] at h
    rw [List.getElem?_eq_getElem hi]
    exact ⟨congrArg some h, hi⟩
  · rw [List.getD_eq_getElem?_getD, List.getElem?_eq_none (by omega)] at h
    cases h
theorem set_same {α : Type} : ∀ {l : List α} {i : Nat} {x : α}, l[i]? = some x → l.set i x = l
  | [], _, _, h => by simp at h
  | y :: l, 0, x, h => by simp at h; subst h; rfl
  | y :: l, i + 1, x, h => by
    rw [List.set_cons_succ, set_same (l := l) (by simpa using h)]
end
end Ly

namespace Ly
open PySem PySem.Spec L2
variable [Fns]

mutual
/-- its value is nobody else's to change -/
def own : E → Bool
  | .var _ => false
  | .o2 op _ _ => (match op with
    | .idx => false
    | _ => true)
  | .ixL _ _ => false
  | .get _ _ _ => false
  | .and a b => own a && own b
  | .or a b => own a && own b
  | .ite _ a b => own a && own b
  | _ => true
end
mutual
/-- it changes nothing -/
def quiet : E → Bool
  | .var _ => true
  | .mv _ => false
  | .mvo _ => false
  | .cst _ => true
  | .glo _ => true
  | .ck e => quiet e
  | .fz e => false
  | .o2 _ a b => quiet a && quiet b
  | .o1 _ a => quiet a
  | .and a b => quiet a && quiet b
  | .or a b => quiet a && quiet b
  | .ite c a b => quiet c && (quiet a && quiet b)
  | .tup es => quiets es
  | .lst es => quiets es
  | .slc a lo hi => quiet a && (quiets lo && quiets hi)
  | .call slots _ es => slots.all (·.isNone) && quiets es
  | .pop _ => false
  | .popAt _ _ => false
  | .lc _ _ _ _ _ => false
  | .dnil => true
  | .lrg es => quiets es
  | .trg es => quiets es
  | .me _ a es => quiet a && quiets es
  | .popP _ _ _ => false
  | .callK _ _ es => quiets es
  | .ixL _ b => quiet b
  | .get a k d => quiet a && (quiet k && quiet d)
  | .srtK _ a => quiet a
  | .cmp2 _ _ a b c => quiet a && (quiet b && quiet c)
  | .fld a _ => quiet a
  | .isX a _ => quiet a
  | .dc _ _ _ _ _ _ => false
def quiets : Es → Bool
  | .nil => true
  | .cons e es => quiet e && quiets es
  | .io _ es => quiets es
end
def owns : Es → Bool
  | .nil => true
  | .cons e es => own e && owns es
  | .io _ es => owns es

def Ext (SV : List Addr) (H H' : Hp) : Prop := ∀ a o, H a = some o → a ∉ SV → H' a = some o
theorem Ext.refl {SV : List Addr} {H : Hp} : Ext SV H H := fun _ _ e _ => e
theorem Ext.kp {SV S : List Addr} {H H' : Hp} (x : Ext SV H H') (ow : Owns H SV) (d : ∀ a ∈ S, a ∉ SV) : Kp S H H' := fun a o e q => by
  refine x a o e fun ha => ?_
  rcases q with q | q
  · exact d a q ha
  · obtain ⟨o', e', m⟩ := ow a ha
    rw [e] at e'
    cases e'
    exact q m
theorem Ext.all {H H' : Hp} (x : Ext [] H H') (S : List Addr) : Kp S H H' := fun a o e _ => x a o e List.not_mem_nil
theorem Ext.weak {H H' : Hp} (x : Ext [] H H') (S : List Addr) : Ext S H H' := fun a o e _ => x a o e List.not_mem_nil
theorem Ext.new {SV : List Addr} {H : Hp} {p : Addr} {o : HO} (h : H p = none) : Ext SV H (upd H p o) := fun a u e _ => by
  rw [upd_ne (ne_of_none e h)]
  exact e

/-- the names behind a step -/
structure EnvP (K : PySem.W.Frag) (SV : List Addr) (H : Hp) (σ : St) (ρ' : Ev) (H' : Hp) (SV' : List Addr) : Prop where
  vars : Vars K H' ρ' σ SV'
  nd : SV'.Nodup
  src : ∀ a ∈ SV', a ∈ SV ∨ H a = none
  ext : Ext SV H H'
section
variable {K : PySem.W.Frag} {SV SV1 SV2 : List Addr} {H H1 H2 : Hp} {σ : St} {ρ ρ1 ρ2 : Ev}
theorem EnvP.refl (v : Vars K H ρ σ SV) (nd : SV.Nodup) : EnvP K SV H σ ρ H SV := ⟨v, nd, fun _ h => .inl h, .refl⟩
theorem src_trans {S : List Addr} (e1 : EnvP K SV H σ ρ1 H1 SV1) (h : ∀ a ∈ S, a ∈ SV1 ∨ H1 a = none) : ∀ a ∈ S, a ∈ SV ∨ H a = none := fun a ha => by
  rcases h a ha with h | h
  · exact e1.src a h
  · by_cases hs : a ∈ SV
    · exact .inl hs
    · cases q : H a with
      | none => exact .inr rfl
      | some o =>
        have := e1.ext a o q hs
        rw [h] at this
        cases this
theorem EnvP.trans (e1 : EnvP K SV H σ ρ1 H1 SV1) (e2 : EnvP K SV1 H1 σ ρ2 H2 SV2) : EnvP K SV H σ ρ2 H2 SV2 :=
  ⟨e2.vars, e2.nd, src_trans e1 e2.src, fun a o e hs => e2.ext a o (e1.ext a o e hs) fun h1 => by
    rcases e1.src a h1 with h | h
    · exact hs h
    · rw [e] at h; cases h⟩
/-- a value -/
structure ResP (K : PySem.W.Frag) (SV : List Addr) (H : Hp) (SV' : List Addr) (H' : Hp) (o : Bool) (d : D) (v : V) (S : List Addr) : Prop where
  rep : Rep K H' d v S
  src : o = true → ∀ a ∈ S, a ∈ SV ∨ H a = none
  sep : o = true → (S ++ SV').Nodup
/-- nothing has been changed -/
def Qt (SV : List Addr) (H : Hp) (ρ ρ' : Ev) (H' : Hp) (SV' : List Addr) : Prop := ρ' = ρ ∧ SV' = SV ∧ Ext [] H H'
theorem ResP.carry {o q : Bool} {d : D} {v : V} {S : List Addr} (r : ResP K SV H SV1 H1 o d v S) (e2 : EnvP K SV1 H1 σ ρ2 H2 SV2) (e1 : EnvP K SV H σ ρ1 H1 SV1) (hq : q = true → Qt SV1 H1 ρ1 ρ2 H2 SV2) (h : o = true ∨ q = true) :
    Rep K H2 d v S ∧ (o = true → (S ++ SV2).Nodup) := by
  have sep : o = true → (∀ a ∈ S, a ∉ SV1) := fun ho a ha hb => by
    have := (List.nodup_append.mp (r.sep ho)).2.2 a ha a hb
    exact this rfl
  have kp : Kp S H1 H2 := by
    rcases h with h | h
    · exact e2.ext.kp e1.vars.owns (sep h)
    · exact (hq h).2.2.all S
  refine ⟨r.rep.kp d kp, fun ho => ?_⟩
  refine List.nodup_append.mpr ⟨(List.nodup_append.mp (r.sep ho)).1, e2.nd, fun a ha b hb e => ?_⟩
  subst e
  rcases e2.src a hb with z | z
  · exact sep ho a ha z
  · obtain ⟨o', e', _⟩ := r.rep.owns d a ha
    rw [z] at e'
    cases e'
end

/-- what an error's datum lies as -/
structure Cfg where
  K : PySem.W.Frag
  ER : D → Value → Option Addr → Hp → Prop
/-- what is asked of an outcome, begun at SV, H -/
def tK {α β : Type} (C : Cfg) (W : WX) (σ : St) (SV : List Addr) (H : Hp) (R : α → Ev → List Addr → Hp → β → Prop) (m : Out α) (Q : β → Hp → Prop) : Prop :=
  match m with
  | .ok d ρ' => ∀ v H' SV', EnvP C.K SV H σ ρ' H' SV' → R d ρ' SV' H' v → Q v H'
  | .exc x ρ' => ∀ cls dd H' SV', EnvP C.K SV H σ ρ' H' SV' → C.ER x cls dd H' → W cls dd σ H'
  | .bad => False
/-- an expression's value, begun at SV, H, ρ -/
def RD (K : PySem.W.Frag) (SV : List Addr) (H : Hp) (ρ : Ev) (o q : Bool) (d : D) (ρ' : Ev) (SV' : List Addr) (H' : Hp) (v : V) : Prop := (∃ S, ResP K SV H SV' H' o d v S) ∧ (q = true → Qt SV H ρ ρ' H' SV')
def tD (C : Cfg) (W : WX) (e : E) : TE := fun σ H Q => ∃ ρ SV, Vars C.K H ρ σ SV ∧ SV.Nodup ∧ tK C W σ SV H (RD C.K SV H ρ (own e) (quiet e)) (ev e ρ) Q
theorem tK_bind {α β γ δ : Type} {C : Cfg} {W : WX} {σ : St} {SV : List Addr} {H : Hp} {R : α → Ev → List Addr → Hp → β → Prop} {R' : γ → Ev → List Addr → Hp → δ → Prop} {m : Out α} {f : α → Ev → Out γ} {Q : δ → Hp → Prop} {Q1 : β → Hp → Prop}
    (h : tK C W σ SV H R' (m.bind f) Q)
    (k : ∀ d ρ1 v H1 SV1, EnvP C.K SV H σ ρ1 H1 SV1 → R d ρ1 SV1 H1 v → tK C W σ SV1 H1 (fun z ρ2 SV2 H2 w => EnvP C.K SV H σ ρ2 H2 SV2 ∧ R' z ρ2 SV2 H2 w) (f d ρ1) Q → Q1 v H1) : tK C W σ SV H R m Q1 := by
  cases m with
  | bad => exact h
  | exc x ρ' => exact h
  | ok d ρ1 =>
    intro v H1 SV1 e1 r1
    have h : tK C W σ SV H R' (f d ρ1) Q := h
    refine k d ρ1 v H1 SV1 e1 r1 ?_
    cases hf : f d ρ1 with
    | bad => rw [hf] at h; exact h
    | exc x ρ2 =>
      rw [hf] at h
      exact fun cls dd H2 SV2 e2 er => h cls dd H2 SV2 (e1.trans e2) er
    | ok z ρ2 =>
      rw [hf] at h
      exact fun w H2 SV2 e2 ⟨p1, p2⟩ => h w H2 SV2 p1 p2
/-- .. with what is asked as from the first beginning -/
theorem tK_bind0 {α β γ δ : Type} {C : Cfg} {W : WX} {σ : St} {SV : List Addr} {H : Hp} {R : α → Ev → List Addr → Hp → β → Prop} {R' : γ → Ev → List Addr → Hp → δ → Prop} {m : Out α} {f : α → Ev → Out γ} {Q : δ → Hp → Prop} {Q1 : β → Hp → Prop}
    (h : tK C W σ SV H R' (m.bind f) Q)
    (k : ∀ d ρ1 v H1 SV1, EnvP C.K SV H σ ρ1 H1 SV1 → R d ρ1 SV1 H1 v → tK C W σ SV H R' (f d ρ1) Q → Q1 v H1) : tK C W σ SV H R m Q1 := by
  cases m with
  | bad => exact h
  | exc x ρ' => exact h
  | ok d ρ1 => exact fun v H1 SV1 e1 r1 => k d ρ1 v H1 SV1 e1 r1 h
theorem tK_bindE {α β γ δ : Type} {C : Cfg} {W : WX} {σ : St} {SV : List Addr} {H : Hp} {R : α → Ev → List Addr → Hp → β → Prop} {R' : γ → Ev → List Addr → Hp → δ → Prop} {m : Out α} {f : α → Ev → Out γ} {Q : δ → Hp → Prop} {Q1 : β → Hp → Prop}
    (h : tK C W σ SV H R' (m.bind f) Q)
    (k : ∀ d ρ1 v H1 SV1, m = .ok d ρ1 → EnvP C.K SV H σ ρ1 H1 SV1 → R d ρ1 SV1 H1 v → tK C W σ SV H R' (f d ρ1) Q → Q1 v H1) : tK C W σ SV H R m Q1 := by
  cases m with
  | bad => exact h
  | exc x ρ' => exact h
  | ok d ρ1 => exact fun v H1 SV1 e1 r1 => k d ρ1 v H1 SV1 rfl e1 r1 h
theorem tK_lift {α β : Type} {C : Cfg} {W : WX} {σ : St} {SV : List Addr} {H : Hp} {R : α → Ev → List Addr → Hp → β → Prop} {o : Option α} {ρ : Ev} {Q : β → Hp → Prop} (h : tK C W σ SV H R (liftO o ρ) Q) :
    ∃ z, o = some z ∧ ∀ v H' SV', EnvP C.K SV H σ ρ H' SV' → R z ρ SV' H' v → Q v H' := by
  cases o with
  | none => exact h.elim
  | some z => exact ⟨z, rfl, h⟩

theorem pemono {X : Cx} {e : Expr} {t t' : TE} (h : PE X e t) (k : ∀ σ H Q, t' σ H Q → t σ H Q) : PE X e t' := ⟨fun pins s σ H Q I q => h.run pins s σ H Q I (k σ H Q q)⟩
theorem ptmono {X : Cx} {e : Expr} {t t' : TT} (h : PT X e t) (k : ∀ σ H Q, t' σ H Q → t σ H Q) : PT X e t' := ⟨fun pins s σ H Q I q => h.run pins s σ H Q I (k σ H Q q)⟩

/-! ### two values -/
/-- an operation whose result is new, or frozen -/
def rD (K : PySem.W.Frag) (g : D → D → Option D) : R2 := fun x y H Q => ∃ d e z S T, Rep K H d x S ∧ Rep K H e y T ∧ g d e = some z ∧ ∀ w H' S', Ext [] H H' → Rep K H' z w S' → S'.Nodup → (∀ a ∈ S', H a = none) → Q w H'
section
variable {K : PySem.W.Frag} {SV SV1 SV2 : List Addr} {H H1 H2 H' : Hp} {σ : St} {ρ ρ1 ρ2 : Ev}
/-- behind a new value -/
theorem EnvP.ext0 (e : EnvP K SV H σ ρ H1 SV1) (x : Ext [] H1 H') : EnvP K SV1 H1 σ ρ H' SV1 := ⟨e.vars.kp (x.all _), e.nd, fun a h => .inl h, x.weak _⟩
theorem fresh_sep {S' : List Addr} (e : EnvP K SV H σ ρ H1 SV1) (nd : S'.Nodup) (h : ∀ a ∈ S', H1 a = none) : (∀ a ∈ S', a ∈ SV ∨ H a = none) ∧ (S' ++ SV1).Nodup :=
  ⟨src_trans e fun a ha => .inr (h a ha), List.nodup_append.mpr ⟨nd, e.nd, fun a ha b hb q => by
    subst q
    obtain ⟨o, e1, _⟩ := e.vars.owns a hb
    rw [h a ha] at e1
    cases e1⟩⟩
theorem Qt.trans (a : Qt SV H ρ ρ1 H1 SV1) (b : Qt SV1 H1 ρ1 ρ2 H2 SV2) : Qt SV H ρ ρ2 H2 SV2 := by
  obtain ⟨rfl, rfl, x⟩ := a
  obtain ⟨rfl, rfl, y⟩ := b
  exact ⟨rfl, rfl, fun a o e h => y a o (x a o e h) h⟩
theorem Qt.ext (a : Qt SV H ρ ρ1 H1 SV1) (x : Ext [] H1 H') : Qt SV H ρ ρ1 H' SV1 := ⟨a.1, a.2.1, fun b o e h => x b o (a.2.2 b o e h) h⟩
end
/-- a value is at hand: go on -/
theorem tD_o2 {C : Cfg} {W : WX} {a b : E} {op : O2} {σ : St} {H : Hp} {Q : VK} (hop : own (.o2 op a b) = true) (hs : (own a || quiet b) = true) (h : tD C W (.o2 op a b) σ H Q) :
    tOp (rD C.K op.sem) (tD C W a) (tD C W b) σ H Q := by
  obtain ⟨ρ, SV, hv, nd, h⟩ := h
  have h : tK C W σ SV H (RD C.K SV H ρ (own (.o2 op a b)) (quiet a && quiet b)) ((ev a ρ).bind fun x ρ => (ev b ρ).bind fun y ρ => liftO (op.sem x y) ρ) Q := h
  refine ⟨ρ, SV, hv, nd, tK_bind h fun d ρ1 v H1 SV1 e1 r1 h1 => ⟨ρ1, SV1, e1.vars, e1.nd, tK_bind h1 fun e ρ2 u H2 SV2 e2 r2 h2 => ?_⟩⟩
  obtain ⟨z, hz, h2⟩ := tK_lift h2
  obtain ⟨⟨S, r1⟩, q1⟩ := r1
  obtain ⟨⟨T, r2⟩, q2⟩ := r2
  have hs' : own a = true ∨ quiet b = true := by simpa using hs
  obtain ⟨rep1, sep1⟩ := r1.carry e2 e1 q2 hs'
  have et := e1.trans e2
  refine ⟨d, e, z, S, T, rep1, r2.rep, hz, fun w H' S' x rep nd' new => ?_⟩
  have en := et.ext0 x
  obtain ⟨f1, f2⟩ := fresh_sep et nd' new
  refine h2 w H' SV2 en ⟨e2.trans en, et.trans en, ⟨S', rep, fun _ => f1, fun _ => f2⟩, fun q => ?_⟩
  rw [Bool.and_eq_true] at q
  exact ((q1 q.1).trans (q2 q.2)).ext x
theorem se_bin {X : Cx} {C : Cfg} {W : WX} {a b : Expr} {a' b' : E} {op : Operator} {o : O2} {pos : Pos} (ho : OpR X (binaryOp op) (rD C.K o.sem)) (ha : PE X a (tD C W a')) (hb : PE X b (tD C W b')) (hop : own (.o2 o a' b') = true) (hs : (own a' || quiet b') = true) :
    PE X (.BinOp a op b pos) (tD C W (.o2 o a' b')) := pemono (pe_op ho ha hb) fun _ _ _ h => tD_o2 hop hs h
end Ly

namespace Ly
open PySem PySem.Spec L2
variable [Fns]
section
variable {X : Cx} {K : PySem.W.Frag} {H : Hp}
theorem lim_eq : lim = sizeLine := sizeLine_eq.symm
/-- a value without parts that may be changed -/
theorem k0 {d : D} {v : V} {Q : VK} (k : ∀ w H' S', Ext [] H H' → Rep K H' d w S' → S'.Nodup → (∀ a ∈ S', H a = none) → Q w H') (r : Rep K H d v []) : Q v H := k v H [] .refl r .nil fun a ha => absurd ha List.not_mem_nil
theorem kInt {i : Int} {Q : VK} (k : ∀ w H' S', Ext [] H H' → Rep K H' (.int i) w S' → S'.Nodup → (∀ a ∈ S', H a = none) → Q w H') : Q (.int i) H := k0 k ⟨rfl, rfl⟩
theorem kBl {b : Bool} {Q : VK} (k : ∀ w H' S', Ext [] H H' → Rep K H' (.bl b) w S' → S'.Nodup → (∀ a ∈ S', H a = none) → Q w H') : Q (.bl b) H := k0 k ⟨rfl, rfl⟩
theorem kStr {x : Str} {Q : VK} (k : ∀ w H' S', Ext [] H H' → Rep K H' (.str x) w S' → S'.Nodup → (∀ a ∈ S', H a = none) → Q w H') : Q (.str x) H := k0 k ⟨rfl, rfl⟩
/-- a new tuple, a new list -/
theorem kTup {ds : List D} {vs : List V} {Q : VK} (k : ∀ w H' S', Ext [] H H' → Rep K H' (.tup ds) w S' → S'.Nodup → (∀ a ∈ S', H a = none) → Q w H') (r : Reps K H ds vs []) : ∀ p, H p = none → Q (.ref p) (upd H p (.tup vs)) := fun p hp =>
  k (.ref p) _ [] (Ext.new hp) ⟨rfl, p, vs, rfl, .inl (.inl upd_same), r.kp ds ((Ext.new (SV := []) hp).all _)⟩ .nil fun a ha => absurd ha List.not_mem_nil
theorem kLst {ds : List D} {vs : List V} {Q : VK} (k : ∀ w H' S', Ext [] H H' → Rep K H' (.lst true ds) w S' → S'.Nodup → (∀ a ∈ S', H a = none) → Q w H') (r : Reps K H ds vs []) : ∀ p, H p = none → Q (.ref p) (upd H p (.lst vs)) := fun p hp =>
  k (.ref p) _ [p] (Ext.new hp) ⟨p, vs, [], rfl, upd_same, r.kp ds ((Ext.new (SV := []) hp).all _), rfl⟩ (by simp) fun a ha => by
    have : a = p := by simpa using ha
    subst this
    exact hp
/-- a list's or tuple's items, frozen -/
theorem lst_sq {o : Bool} {ds : List D} {v : V} {S : List Addr} (r : Rep K H (.lst o ds) v S) : ∃ a vs T, v = .ref a ∧ Rd H a (.lst vs) ∧ Reps K H ds vs T ∧ ((o = false ∨ ds.all frzD = true) → T = []) := by
  cases o with
  | false =>
    obtain ⟨rfl, a, vs, rfl, q, r⟩ := r
    exact ⟨a, vs, [], rfl, .inr q, r, fun _ => rfl⟩
  | true =>
    obtain ⟨a, vs, S', rfl, q, r, rfl⟩ := r
    refine ⟨a, vs, S', rfl, .inl q, r, fun h => ?_⟩
    rcases h with h | h
    · cases h
    · exact r.frz h

/-! ### as the library's data -/
mutual
theorem rep_dp : ∀ (d : D) {v : V} {S : List Addr}, Rep K H d v S → (toP d).plain = true → Dp K H v (toP d)
  | .non, _, _, h, _ => by obtain ⟨rfl, _⟩ := h; exact .non
  | .bl b, _, _, h, _ => by obtain ⟨rfl, _⟩ := h; exact .bl b
  | .int i, _, _, h, _ => by obtain ⟨rfl, _⟩ := h; exact .int i
  | .str x, _, _, h, _ => by obtain ⟨rfl, _⟩ := h; exact .str x
  | .tup ds, _, _, h, p => by
    obtain ⟨rfl, a, vs, rfl, q, r⟩ := h
    exact .tup q (reps_dp ds r p)
  | .lst o ds, _, _, h, p => by
    obtain ⟨a, vs, T, rfl, q, r, _⟩ := lst_sq h
    exact .lst (.inl q) (reps_dp ds r p)
  | .dk _ _ _, _, _, _, p => by cases p
  | .dt _ _ _, _, _, _, p => by cases p
  | .exc _ _ _, _, _, _, p => by cases p
  | .scr _, _, _, _, p => by cases p
theorem reps_dp : ∀ (ds : List D) {vs : List V} {S : List Addr}, Reps K H ds vs S → PyData.plainAll (toPs ds) = true → DpAll K H vs (toPs ds)
  | [], _, _, h, _ => by obtain ⟨rfl, _⟩ := h; exact .nil
  | d :: ds, _, _, h, p => by
    obtain ⟨v, r, S1, S2, rfl, q1, q2, rfl⟩ := h
    have p : ((toP d).plain && PyData.plainAll (toPs ds)) = true := p
    rw [Bool.and_eq_true] at p
    exact .cons (rep_dp d q1 p.1) (reps_dp ds q2 p.2)
end

/-! ### arithmetic -/
theorem I2_some {f : Int → Int → D} {d e z : D} (h : I2 f d e = some z) : ∃ i j, d = .int i ∧ e = .int j ∧ z = f i j := by
  cases d <;> cases e <;> first | (cases h; exact ⟨_, _, rfl, rfl, rfl⟩) | cases h
theorem rI2 {f : Value → Value → Sem Value} {g : Int → Int → V} {gd : Int → Int → D} (hg : ∀ i j H, Rep K H (gd i j) (g i j) []) (ho : OpR X f (rI0 g)) : OpR X f (rD K (I2 gd)) := by
  intro pins s σ H x y v u Q I rx ry h
  obtain ⟨d, e, z, S, T, r1, r2, hz, k⟩ := h
  obtain ⟨i, j, rfl, rfl, rfl⟩ := I2_some hz
  exact ho pins s σ H x y v u Q I rx ry ⟨i, j, r1.1, r2.1, k0 k (hg i j H)⟩
theorem od_sub : OpR X (binaryOp .Sub) (rD X.K O2.sub.sem) := rI2 (gd := fun i j => .int (i - j)) (fun _ _ _ => ⟨rfl, rfl⟩) op_sub
theorem rS2 {f : Value → Value → Sem Value} {gi : Int → Int → Bool} {gs : Str → Str → Bool} {h : D → D → Option D} (hi : ∀ i j, h (.int i) (.int j) = some (.bl (gi i j))) (hs : ∀ x y, h (.str x) (.str y) = some (.bl (gs x y))) (hn : ∀ d e z, h d e = some z → (∃ i j, d = .int i ∧ e = .int j) ∨ ∃ x y, d = .str x ∧ e = .str y)
    (oi : OpR X f (rI0 fun i j => .bl (gi i j))) (os : OpR X f (fun x y H Q => ∃ i j, x = .str i ∧ y = .str j ∧ Q (.bl (gs i j)) H)) : OpR X f (rD K h) := by
  intro pins s σ H x y v u Q I rx ry q
  obtain ⟨d, e, z, S, T, r1, r2, hz, k⟩ := q
  rcases hn d e z hz with ⟨i, j, rfl, rfl⟩ | ⟨i, j, rfl, rfl⟩
  · rw [hi] at hz
    cases hz
    exact oi pins s σ H x y v u Q I rx ry ⟨i, j, r1.1, r2.1, k0 k ⟨rfl, rfl⟩⟩
  · rw [hs] at hz
    cases hz
    exact os pins s σ H x y v u Q I rx ry ⟨i, j, r1.1, r2.1, k0 k ⟨rfl, rfl⟩⟩
theorem ltS_in : ∀ d e z, ltS d e = some z → (∃ i j, d = .int i ∧ e = .int j) ∨ ∃ x y, d = .str x ∧ e = .str y := fun d e z h => by
  cases d <;> cases e <;> first
    | (cases h; done)
    | exact .inl ⟨_, _, rfl, rfl⟩
    | exact .inr ⟨_, _, rfl, rfl⟩
theorem gtS_in : ∀ d e z, gtS d e = some z → (∃ i j, d = .int i ∧ e = .int j) ∨ ∃ x y, d = .str x ∧ e = .str y := fun d e z h => by
  cases d <;> cases e <;> first
    | (cases h; done)
    | exact .inl ⟨_, _, rfl, rfl⟩
    | exact .inr ⟨_, _, rfl, rfl⟩
theorem od_lt : OpR X (compareOp .Lt) (rD X.K O2.lt.sem) := rS2 (gi := fun i j => decide (i < j)) (gs := fun x y => decide (x.cps.toList < y.cps.toList)) (h := ltS) (fun _ _ => rfl) (fun _ _ => rfl) ltS_in op_lt op_lt_str
theorem od_le : OpR X (compareOp .LtE) (rD X.K O2.le.sem) := rI2 (gd := fun i j => .bl (decide (i ≤ j))) (fun _ _ _ => ⟨rfl, rfl⟩) op_le
theorem od_gt : OpR X (compareOp .Gt) (rD X.K O2.gt.sem) := rS2 (gi := fun i j => decide (j < i)) (gs := fun x y => decide (y.cps.toList < x.cps.toList)) (h := gtS) (fun _ _ => rfl) (fun _ _ => rfl) gtS_in op_gt op_gt_str
theorem od_ge : OpR X (compareOp .GtE) (rD X.K O2.ge.sem) := rI2 (gd := fun i j => .bl (decide (j ≤ i))) (fun _ _ _ => ⟨rfl, rfl⟩) op_ge
theorem od_mod : OpR X (binaryOp .Mod) (rD X.K O2.mod.sem) := by
  intro pins s σ H x y v u Q I rx ry h
  obtain ⟨d, e, z, S, T, r1, r2, hz, k⟩ := h
  cases d with
  | int i =>
    cases e with
    | int j =>
      change (if 0 < j then some (D.int (i % j)) else none) = some z at hz
      split at hz
      · rename_i hc
        cases hz
        exact op_mod pins s σ H x y v u Q I rx ry ⟨i, j, r1.1, r2.1, hc, kInt k⟩
      · cases hz
    | _ => cases hz
  | _ => cases e <;> cases hz
theorem log2_lt64 {j : Nat} (h : j < 18446744073709551616) : j.log2 < 9000 := by
  have : j.log2 < 64 := PySem.Flt.log2_lt_of (k := 64) (by decide) (by simpa using h)
  omega
theorem od_fdiv : OpR X (binaryOp .FloorDiv) (rD X.K O2.fdiv.sem) := by
  intro pins s σ H x y v u Q I rx ry h
  obtain ⟨d, e, z, S, T, r1, r2, hz, k⟩ := h
  cases d with
  | int i =>
    cases e with
    | int j =>
      change (if 0 < j ∧ j < 18446744073709551616 then some (D.int (i / j)) else none) = some z at hz
      split at hz
      · rename_i hc
        cases hz
        exact op_fdivW pins s σ H x y v u Q I rx ry ⟨i, j, r1.1, r2.1, ⟨hc.1, log2_lt64 (by omega)⟩, kInt k⟩
      · cases hz
    | _ => cases hz
  | _ => cases e <;> cases hz
theorem od_pow : OpR X (binaryOp .Pow) (rD X.K O2.pow.sem) := by
  intro pins s σ H x y v u Q I rx ry h
  obtain ⟨d, e, z, S, T, r1, r2, hz, k⟩ := h
  cases d with
  | int i =>
    cases e with
    | int j =>
      change (if (0 ≤ j ∧ j ≤ 1000000) ∧ (-18446744073709551616 < i ∧ i < 18446744073709551616) then some (D.int (i ^ j.toNat)) else none) = some z at hz
      split at hz
      · rename_i hc
        cases hz
        exact op_pow pins s σ H x y v u Q I rx ry ⟨i, j, r1.1, r2.1, ⟨hc.1.1, hc.1.2, by have := hc.2; omega⟩, kInt k⟩
      · cases hz
    | _ => cases hz
  | _ => cases e <;> cases hz
theorem rd_list {pins : List (Addr × Obj)} {s : Shared} {σ : St} {H : Hp} {a : Addr} {xs : List V} (I : Inv X pins σ H s) (h : Rd H a (.lst xs)) : xs.length ≤ sizeLine ∧ ∃ (its : List Value) (n : Nat), Vals xs its ∧ s.heap.get? a = some { cls := .type "list", data := .seq its.toArray n } := h.ok I.hok
/-- lists that are read, put together -/
theorem cat_any {pins : List (Addr × Obj)} {s : Shared} {σ : St} {H : Hp} {Q : VK} {a b : Addr} {xs ys : List V} (I : Inv X pins σ H s) (ha : Rd H a (.lst xs)) (hb : Rd H b (.lst ys)) (hz : xs.length + ys.length ≤ sizeLine)
    (q : ∀ p, H p = none → Q (.ref p) (upd H p (.lst (xs ++ ys)))) : wpAny (model X.prog X.w) X.A (binaryOp .Add (.ref a) (.ref b)) (EP X pins σ Q) X.xe s := by
  obtain ⟨z, its, n, r, e⟩ := rd_list I ha
  obtain ⟨z2, its2, n2, r2, e2⟩ := rd_list I hb
  have l1 := r.length
  have l2 := r2.length
  refine PySem.P.add_list e e2 ?_ (by rw [List.size_toArray, List.size_toArray]; omega)
  have ea : its.toArray ++ its2.toArray = (its ++ its2).toArray := by simp
  rw [ea]
  exact ⟨.ref _, _, I.lnew (t' := s.toks) (r.append r2) (by rw [List.length_append]; omega), rfl, q _ I.fresh⟩
theorem od_add : OpR X (binaryOp .Add) (rD X.K O2.add.sem) := by
  intro pins s σ H x y v u Q I rx ry h
  obtain ⟨d, e, z, S, T, r1, r2, hz, k⟩ := h
  cases d with
  | int i =>
    cases e with
    | int j =>
      cases hz
      exact op_add pins s σ H x y v u Q I rx ry ⟨i, j, r1.1, r2.1, kInt k⟩
    | _ => cases hz
  | str a =>
    cases e with
    | str b =>
      change (if a.length + b.length ≤ lim then some (D.str (a ++ b)) else none) = some z at hz
      split at hz
      · rename_i hc
        cases hz
        exact op_add_str pins s σ H x y v u Q I rx ry ⟨a, b, r1.1, r2.1, by rw [← lim_eq]; exact hc, kStr k⟩
      · cases hz
    | _ => cases hz
  | tup xs =>
    cases e with
    | tup ys =>
      change (if xs.length + ys.length ≤ lim then some (D.tup (xs ++ ys)) else none) = some z at hz
      split at hz
      · rename_i hc
        cases hz
        obtain ⟨_, a, vs, rfl, q1, rr1⟩ := r1
        obtain ⟨_, b, ws, rfl, q2, rr2⟩ := r2
        have l1 := rr1.length
        have l2 := rr2.length
        refine op_catA pins s σ H (.ref a) (.ref b) v u Q I rx ry ⟨a, b, vs, ws, rfl, rfl, q1, q2, by rw [← lim_eq, ← l1, ← l2]; exact hc, fun z => ?_, fun _ z => ?_, fun _ _ => ?_⟩
        · subst z
          have : xs = [] := List.length_eq_zero_iff.mp (by simpa using l1)
          subst this
          exact k0 k ⟨rfl, b, ws, rfl, q2, rr2⟩
        · subst z
          have : ys = [] := List.length_eq_zero_iff.mp (by simpa using l2)
          subst this
          rw [List.append_nil] at k
          exact k0 k ⟨rfl, a, vs, rfl, q1, rr1⟩
        · exact kTup k (rr1.app rr2)
      · cases hz
    | _ => cases hz
  | lst o xs =>
    cases e with
    | lst p ys =>
      change (if ((o = false ∨ xs.all frzD = true) ∧ (p = false ∨ ys.all frzD = true)) ∧ xs.length + ys.length ≤ lim then some (D.lst true (xs ++ ys)) else none) = some z at hz
      split at hz
      · rename_i hc
        cases hz
        obtain ⟨a, vs, T1, rfl, q1, rr1, f1⟩ := lst_sq r1
        obtain ⟨b, ws, T2, rfl, q2, rr2, f2⟩ := lst_sq r2
        have e1 := f1 hc.1.1
        have e2 := f2 hc.1.2
        subst e1 e2
        cases rx
        cases ry
        refine cat_any I q1 q2 (by rw [← lim_eq, ← rr1.length, ← rr2.length]; exact hc.2) (kLst k (rr1.app rr2))
      · cases hz
    | _ => cases hz
  | _ => cases e <;> cases hz
theorem rep_fold : ∀ (n : Nat) (x : Array Nat) (a : Array Nat), ((List.replicate n x).foldl (· ++ ·) a).toList = a.toList ++ (List.replicate n x.toList).flatten
  | 0, x, a => by simp
  | n + 1, x, a => by
    rw [List.replicate_succ, List.foldl_cons, rep_fold n x (a ++ x), List.replicate_succ, List.flatten_cons, Array.toList_append, List.append_assoc]
theorem op_smul : OpR X (binaryOp .Mult) (fun x y H Q => ∃ (a : Str) (n : Int), x = .str a ∧ y = .int n ∧ (-9223372036854775808 ≤ n ∧ n < 9223372036854775808) ∧ a.length * n.toNat ≤ 16777216 ∧ a.length ≤ 16777216 ∧ Q (.str (repS a n)) H) := by
  intro pins s σ H x y v u Q I rx ry h
  obtain ⟨a, n, rfl, rfl, ⟨h1, h2⟩, h3, h4, q⟩ := h
  obtain ⟨t, rfl⟩ := rx
  obtain ⟨t', rfl⟩ := ry
  have hsl : sizeLine = 16777216 := sizeLine_eq
  refine PySem.P.mul_str (by rw [decide_eq_false (by omega), decide_eq_false (by omega)]; rfl) (fun g1 g2 => ?_) (fun _ _ => ?_) ?_
  · have hn : 1 ≤ n := by omega
    have e : (a.length : Int) * n ≤ 16777216 := by
      have : ((a.length * n.toNat : Nat) : Int) ≤ 16777216 := by omega
      rw [Int.natCast_mul, Int.toNat_of_nonneg (by omega)] at this
      exact this
    have : (a.length : Int) ≤ (2 ^ 63 - 1) / n := by
      rw [Int.le_ediv_iff_mul_le (by omega)]
      omega
    omega
  · unfold PySem.Builtin.Str.tooLong
    exact decide_eq_false (by omega)
  · by_cases c1 : n < 1
    · rw [if_pos c1]
      have e : repS a n = Str.empty := by
        unfold repS
        rw [show n.toNat = 0 by omega]
        rfl
      exact ⟨by decide, ⟨.str (repS a n), H, I.tok _, ⟨_, by rw [e]⟩, q⟩⟩
    · rw [if_neg c1]
      by_cases c2 : (n == 1 || a.length == 0) = true
      · rw [if_pos c2]
        have e : repS a n = a := by
          unfold repS
          rw [Bool.or_eq_true, beq_iff_eq, beq_iff_eq] at c2
          rcases c2 with c2 | c2
          · subst c2
            show (⟨(List.replicate 1 a.cps.toList).flatten.toArray⟩ : Str) = a
            simp
          · have c2 : a.cps.size = 0 := c2
            have : a.cps.toList = [] := by
              apply List.eq_nil_of_length_eq_zero
              rw [Array.length_toList]
              exact c2
            rw [this]
            have e2 : (List.replicate n.toNat ([] : List Nat)).flatten = [] := by simp
            rw [e2]
            cases a with
            | mk cps =>
              have : cps = #[] := Array.toList_inj.mp this
              rw [this]
        exact ⟨.str (repS a n), H, I, ⟨t, by rw [e]⟩, q⟩
      · rw [if_neg c2]
        have e : (⟨(List.replicate n.toNat a.cps).foldl (· ++ ·) #[]⟩ : Str) = repS a n := by
          unfold repS
          congr 1
          apply Array.toList_inj.mp
          rw [rep_fold]
          simp
        rw [e]
        have hlen : (repS a n).length ≤ sizeLine := by
          show (repS a n).cps.size ≤ _
          unfold repS
          rw [List.size_toArray, List.length_flatten]
          simp only [List.map_replicate, List.sum_replicate_nat, Array.length_toList]
          rw [Nat.mul_comm]
          show a.length * n.toNat ≤ _
          omega
        exact ⟨by first | exact hlen | exact decide_eq_true hlen, ⟨.str (repS a n), H, I.tok _, ⟨_, rfl⟩, q⟩⟩
theorem od_mul : OpR X (binaryOp .Mult) (rD X.K O2.mul.sem) := by
  intro pins s σ H x y v u Q I rx ry h
  obtain ⟨d, e, z, S, T, r1, r2, hz, k⟩ := h
  cases d with
  | int i =>
    cases e with
    | int j =>
      change (if ((-18446744073709551616 < i ∧ i < 18446744073709551616) ∨ (-18446744073709551616 < j ∧ j < 18446744073709551616)) ∨ (i.natAbs.log2 < 2000 ∧ j.natAbs.log2 < 2000) then some (D.int (i * j)) else none) = some z at hz
      split at hz
      · rename_i hc
        cases hz
        rcases hc with hc | hc
        · exact op_mul pins s σ H x y v u Q I rx ry ⟨i, j, r1.1, r2.1, hc.imp (fun h => ⟨by omega, by omega⟩) (fun h => ⟨by omega, by omega⟩), kInt k⟩
        · exact op_mulW pins s σ H x y v u Q I rx ry ⟨i, j, r1.1, r2.1, show i.natAbs.log2 + j.natAbs.log2 < 1000000 by omega, kInt k⟩
      · cases hz
    | _ => cases hz
  | tup xs =>
    cases e with
    | int n =>
      change (if (xs.isEmpty = false ∧ (2 ≤ n ∧ n ≤ 1000)) ∧ xs.length ≤ 1000 then some (D.tup (List.replicate n.toNat xs).flatten) else none) = some z at hz
      split at hz
      · rename_i hc
        cases hz
        obtain ⟨_, a, vs, rfl, q, r⟩ := r1
        have l1 := r.length
        refine op_repT pins s σ H (.ref a) y v u Q I rx ry ⟨a, n, vs, rfl, r2.1, q, fun z => ?_, hc.1.2.1, hc.1.2.2, by omega, kTup k ?_⟩
        · subst z
          have : xs = [] := List.length_eq_zero_iff.mp (by simpa using l1)
          rw [this] at hc
          exact absurd hc.1.1 (by decide)
        · generalize n.toNat = m
          induction m with
          | zero => exact Reps.nil
          | succ m ih =>
            rw [List.replicate_succ, List.replicate_succ, List.flatten_cons, List.flatten_cons]
            exact r.app ih
      · cases hz
    | _ => cases hz
  | str a =>
    cases e with
    | int n =>
      change (if (-9223372036854775808 ≤ n ∧ n < 9223372036854775808) ∧ a.length * n.toNat ≤ lim ∧ a.length ≤ lim then some (D.str (repS a n)) else none) = some z at hz
      split at hz
      · rename_i hc
        cases hz
        exact op_smul pins s σ H x y v u Q I rx ry ⟨a, n, r1.1, r2.1, hc.1, hc.2.1, hc.2.2, kStr k⟩
      · cases hz
    | _ => cases hz
  | lst o xs =>
    cases o with
    | false => cases e <;> cases hz
    | true =>
      cases e with
      | int n =>
        change (if xs.all frzD = true ∧ (-9223372036854775808 ≤ n ∧ n < 9223372036854775808) ∧ xs.length * n.toNat ≤ lim then some (D.lst true (List.replicate n.toNat xs).flatten) else none) = some z at hz
        split at hz
        · rename_i hc
          cases hz
          obtain ⟨a, vs, S', rfl, q, r, rfl⟩ := r1
          have e1 := r.frz hc.1
          subst e1
          refine op_rep pins s σ H (.ref a) y v u Q I rx ry ⟨a, n, vs, rfl, r2.1, q, by omega, by omega, by rw [← lim_eq, ← r.length]; exact hc.2.2, kLst k ?_⟩
          generalize n.toNat = m
          induction m with
          | zero => exact Reps.nil
          | succ m ih =>
            rw [List.replicate_succ, List.replicate_succ, List.flatten_cons, List.flatten_cons]
            exact r.app ih
        · cases hz
      | _ => cases hz
  | _ => cases e <;> cases hz
theorem non_dec {d : D} {x : V} {S : List Addr} (r : Rep K H d x S) : decide (x = .non) = isNon d := by
  cases d with
  | non => rw [r.1]; rfl
  | bl _ => rw [r.1]; rfl
  | int _ => rw [r.1]; rfl
  | str _ => rw [r.1]; rfl
  | tup _ => obtain ⟨_, a, vs, rfl, _⟩ := r; rfl
  | lst o _ => obtain ⟨a, vs, T, rfl, _⟩ := lst_sq r; rfl
  | dk o _ _ =>
    cases o with
    | false => obtain ⟨_, a, vs, o, rfl, _⟩ := r; rfl
    | true => obtain ⟨a, vs, S', rfl, _⟩ := r; rfl
  | dt o _ _ =>
    cases o with
    | false => obtain ⟨_, a, vs, o, rfl, _⟩ := r; rfl
    | true => obtain ⟨a, vs, S', rfl, _⟩ := r; rfl
  | exc _ _ _ => obtain ⟨_, a, d, vs, rfl, _⟩ := r; rfl
  | scr _ => obtain ⟨_, a, rfl, _⟩ := r; rfl
theorem isS_some {d e z : D} (h : isS d e = some z) : (e = .non ∧ z = .bl (isNon d)) ∨ ∃ a b, d = .bl a ∧ e = .bl b ∧ z = .bl (decide (a = b)) := by
  cases e with
  | non => cases h; exact .inl ⟨rfl, rfl⟩
  | bl b =>
    cases d with
    | bl a => cases h; exact .inr ⟨a, b, rfl, rfl, rfl⟩
    | _ => cases h
  | _ => cases h
theorem od_isN : OpR X (compareOp .Is) (rD X.K O2.isN.sem) := by
  intro pins s σ H x y v u Q I rx ry h
  obtain ⟨d, e, z, S, T, r1, r2, hz, k⟩ := h
  rcases isS_some hz with ⟨rfl, rfl⟩ | ⟨a, b, rfl, rfl, rfl⟩
  · exact op_isN pins s σ H x y v u Q I rx ry ⟨r2.1, by rw [non_dec r1]; exact kBl k⟩
  · exact op_isBl pins s σ H x y v u Q I rx ry ⟨a, b, r1.1, r2.1, kBl k⟩
theorem notS_some {o : Option D} {z : D} (h : notS o = some z) : ∃ b, o = some (.bl b) ∧ z = .bl (!b) := by
  unfold notS at h
  split at h
  · cases h; exact ⟨_, rfl, rfl⟩
  · cases h
theorem od_notN : OpR X (compareOp .IsNot) (rD X.K O2.notN.sem) := by
  intro pins s σ H x y v u Q I rx ry h
  obtain ⟨d, e, z, S, T, r1, r2, hz, k⟩ := h
  obtain ⟨b, hb, rfl⟩ := notS_some (show notS (isS d e) = some z from hz)
  rcases isS_some hb with ⟨rfl, e2⟩ | ⟨a, b', rfl, rfl, e2⟩
  · cases e2
    exact op_notN pins s σ H x y v u Q I rx ry ⟨r2.1, by rw [non_dec r1]; exact kBl k⟩
  · cases e2
    exact op_notBl pins s σ H x y v u Q I rx ry ⟨a, b', r1.1, r2.1, kBl k⟩

/-! ### equality of data, membership -/
theorem eqG_some {d e z : D} (h : eqG d e = some z) : (toP d).plain = true ∧ (toP e).plain = true ∧ min (toP d).depth (toP e).depth ≤ 64 ∧ z = .bl (PyData.eqv (toP d) (toP e)) := by
  unfold eqG at h
  split at h
  · rename_i hc
    cases h
    exact ⟨hc.1, hc.2.1, hc.2.2, rfl⟩
  · cases h
theorem eqS_some {d e z : D} (h : eqS d e = some z) : (toP d).plain = true ∧ (toP e).plain = true ∧ min (toP d).depth (toP e).depth ≤ 64 ∧ z = .bl (PyData.eqv (toP d) (toP e)) := by
  unfold eqS at h
  split at h
  · rename_i i j
    cases h
    exact ⟨rfl, rfl, by simp [toP, PyData.depth], by simp only [toP, PyData.eqv]; rw [Bool.beq_eq_decide_eq]⟩
  · rename_i i j
    cases h
    exact ⟨rfl, rfl, by simp [toP, PyData.depth], by simp only [toP, PyData.eqv]; rw [Bool.beq_eq_decide_eq]⟩
  · exact eqG_some h
theorem od_eq (hu : X.A.units + 64 < cLine) : OpR X (compareOp .Eq) (rD X.K O2.eq.sem) := by
  intro pins s σ H x y v u Q I rx ry h
  obtain ⟨d, e, z, S, T, r1, r2, hz, k⟩ := h
  obtain ⟨p1, p2, hd, rfl⟩ := eqS_some hz
  obtain ⟨as, ra⟩ := (rep_dp d r1 p1).reads I _ _ _ rx
  obtain ⟨bs, rb⟩ := (rep_dp e r2 p2).reads I _ _ _ ry
  exact SeqAt.eq_plain ra rb p1 p2 (by omega) ⟨.bl _, H, I, rfl, kBl k⟩
theorem od_ne (hu : X.A.units + 64 < cLine) : OpR X (compareOp .NotEq) (rD X.K O2.ne.sem) := by
  intro pins s σ H x y v u Q I rx ry h
  obtain ⟨d, e, z, S, T, r1, r2, hz, k⟩ := h
  obtain ⟨b, hb, rfl⟩ := notS_some (show notS (eqS d e) = some z from hz)
  obtain ⟨p1, p2, hd, e2⟩ := eqS_some hb
  cases e2
  obtain ⟨as, ra⟩ := (rep_dp d r1 p1).reads I _ _ _ rx
  obtain ⟨bs, rb⟩ := (rep_dp e r2 p2).reads I _ _ _ ry
  exact SeqAt.ne_plain ra rb p1 p2 (by omega) ⟨.bl _, H, I, rfl, kBl k⟩
theorem inS_seq {d : D} {xs : List D} {z : D} (h : (if (toP d).plain = true ∧ PyData.plainAll (toPs xs) = true ∧ min (PyData.depthAll (toPs xs)) (toP d).depth ≤ 64 then some (D.bl ((toPs xs).any fun y => PyData.eqv y (toP d))) else none) = some z) :
    (toP d).plain = true ∧ PyData.plainAll (toPs xs) = true ∧ min (PyData.depthAll (toPs xs)) (toP d).depth ≤ 64 ∧ z = D.bl ((toPs xs).any fun y => PyData.eqv y (toP d)) := by
  split at h
  · rename_i hc
    cases h
    exact ⟨hc.1, hc.2.1, hc.2.2, rfl⟩
  · cases h
/-- a dict with number and text keys, read -/
theorem dk_rd' {o : Bool} {ks : List Key} {ds : List D} {v : V} {S : List Addr} (r : Rep K H (.dk o ks ds) v S) : ∃ a vs T, v = .ref a ∧ Rd H a (.dK (ks.zip vs)) ∧ ks.length = vs.length ∧ Reps K H ds vs T ∧ (o = false → T = []) := by
  cases o with
  | false =>
    obtain ⟨rfl, a, vs, o, rfl, q, l, r⟩ := r
    exact ⟨a, vs, [], rfl, .inr ⟨o, q⟩, l, r, fun _ => rfl⟩
  | true =>
    obtain ⟨a, vs, S', rfl, q, l, r, rfl⟩ := r
    exact ⟨a, vs, S', rfl, .inl q, l, r, fun z => nomatch z⟩
theorem keyD_some {d : D} {k : Key} {v : V} {S : List Addr} (h : keyD d = some k) (r : Rep K H d v S) : v = kV k := by
  cases d with
  | int i => cases h; exact r.1
  | str x => cases h; exact r.1
  | _ => cases h
/-- what a dict holds: by data, by values -/
theorem look_val {κ : Type} [DecidableEq κ] (k : κ) : ∀ {ks : List κ} {ds : List D} {vs : List V} {S : List Addr}, Reps K H ds vs S → ks.length = vs.length →
    (∀ d, look k ks ds = some d → ∃ v T, valV (ks.zip vs) k = some v ∧ Rep K H d v T) ∧ (look k ks ds = none → valV (ks.zip vs) k = none)
  | [], [], vs, _, h, l => by
    obtain ⟨rfl, _⟩ := h
    refine ⟨fun d e => ?_, fun _ => rfl⟩
    have e : (none : Option D) = some d := e
    cases e
  | [], d :: ds, vs, _, h, l => by
    have := h.length
    have l : 0 = vs.length := l
    rw [← l] at this
    simp at this
  | j :: ks, [], vs, _, h, l => by
    obtain ⟨rfl, _⟩ := h
    simp at l
  | j :: ks, d :: ds, _, _, h, l => by
    obtain ⟨v, r, S1, S2, rfl, q1, q2, rfl⟩ := h
    obtain ⟨ih1, ih2⟩ := look_val k q2 (by simpa using l)
    have e : look k (j :: ks) (d :: ds) = if j = k then some d else look k ks ds := rfl
    rw [e, List.zip_cons_cons]
    by_cases hj : j = k
    · rw [if_pos hj, valV_pos (p := (j, v)) hj]
      exact ⟨fun d' e' => by cases e'; exact ⟨v, S1, rfl, q1⟩, fun e' => by cases e'⟩
    · rw [if_neg hj, valV_neg (p := (j, v)) hj]
      exact ⟨ih1, ih2⟩
theorem od_in (hu : X.A.units + 66 < cLine) : OpR X (compareOp .In) (rD X.K O2.isIn.sem) := by
  intro pins s σ H x y v u Q I rx ry h
  obtain ⟨d, e, z, S, T, r1, r2, hz, k⟩ := h
  replace hz : inS d e = some z := hz
  cases e with
  | tup xs =>
    obtain ⟨p1, p2, hd, rfl⟩ := inS_seq hz
    obtain ⟨as, ra⟩ := (rep_dp d r1 p1).reads I _ _ _ rx
    obtain ⟨bs, rb⟩ := (rep_dp (.tup xs) r2 p2).reads I _ _ _ ry
    exact SeqAt.in_tuple_data rb ra p2 p1 (by omega) ⟨.bl _, H, I, rfl, kBl k⟩
  | lst o xs =>
    obtain ⟨p1, p2, hd, rfl⟩ := inS_seq hz
    obtain ⟨as, ra⟩ := (rep_dp d r1 p1).reads I _ _ _ rx
    obtain ⟨bs, rb⟩ := (rep_dp (.lst o xs) r2 p2).reads I _ _ _ ry
    exact SeqAt.in_list_data rb ra p2 p1 (by omega) ⟨.bl _, H, I, rfl, kBl k⟩
  | str b =>
    cases d with
    | str a =>
      cases hz
      exact op_in_str pins s σ H x y v u Q I rx ry ⟨a, b, r1.1, r2.1, kBl k⟩
    | _ => cases hz
  | dk o ks vs =>
    change (match keyD d with | some k => some (D.bl (look k ks vs).isSome) | none => none) = some z at hz
    cases hk : keyD d with
    | none => rw [hk] at hz; cases hz
    | some key =>
      rw [hk] at hz
      cases hz
      have ex := keyD_some hk r1
      obtain ⟨a, ws, T', rfl, q, l, r, _⟩ := dk_rd' r2
      cases ry
      have g : DGet H a x (valV (ks.zip ws) key) := .inl ⟨_, key, q, ex, rfl⟩
      have es : (valV (ks.zip ws) key).isSome = (look key ks vs).isSome := by
        obtain ⟨h1, h2⟩ := look_val key r l
        cases e : look key ks vs with
        | none => rw [h2 e]; rfl
        | some d' =>
          obtain ⟨v', T, e1, _⟩ := h1 d' e
          rw [e1]
          rfl
      exact d_in (by omega) I g rx fun s3 I3 => ⟨.bl _, H, I3, rfl, by rw [es]; exact kBl k⟩
  | _ => cases hz
theorem od_notIn (hu : X.A.units + 66 < cLine) : OpR X (compareOp .NotIn) (rD X.K O2.notIn.sem) := by
  intro pins s σ H x y v u Q I rx ry h
  obtain ⟨d, e, z, S, T, r1, r2, hz, k⟩ := h
  obtain ⟨b, hb, rfl⟩ := notS_some (show notS (inS d e) = some z from hz)
  clear hz
  rename inS d e = some (.bl b) => hz
  cases e with
  | tup xs =>
    obtain ⟨p1, p2, hd, e2⟩ := inS_seq hz
    cases e2
    obtain ⟨as, ra⟩ := (rep_dp d r1 p1).reads I _ _ _ rx
    obtain ⟨bs, rb⟩ := (rep_dp (.tup xs) r2 p2).reads I _ _ _ ry
    exact SeqAt.notIn_tuple_data rb ra p2 p1 (by omega) ⟨.bl _, H, I, rfl, kBl k⟩
  | lst o xs =>
    obtain ⟨p1, p2, hd, e2⟩ := inS_seq hz
    cases e2
    obtain ⟨as, ra⟩ := (rep_dp d r1 p1).reads I _ _ _ rx
    obtain ⟨bs, rb⟩ := (rep_dp (.lst o xs) r2 p2).reads I _ _ _ ry
    exact SeqAt.notIn_list_data rb ra p2 p1 (by omega) ⟨.bl _, H, I, rfl, kBl k⟩
  | str b' =>
    cases d with
    | str a =>
      cases hz
      exact op_notIn_str pins s σ H x y v u Q I rx ry ⟨a, b', r1.1, r2.1, kBl k⟩
    | _ => cases hz
  | dk o ks vs =>
    change (match keyD d with | some k => some (D.bl (look k ks vs).isSome) | none => none) = some (.bl b) at hz
    cases hk : keyD d with
    | none => rw [hk] at hz; cases hz
    | some key =>
      rw [hk] at hz
      cases hz
      have ex := keyD_some hk r1
      obtain ⟨a, ws, T', rfl, q, l, r, _⟩ := dk_rd' r2
      cases ry
      have g : DGet H a x (valV (ks.zip ws) key) := .inl ⟨_, key, q, ex, rfl⟩
      have es : (valV (ks.zip ws) key).isSome = (look key ks vs).isSome := by
        obtain ⟨h1, h2⟩ := look_val key r l
        cases e : look key ks vs with
        | none => rw [h2 e]; rfl
        | some d' =>
          obtain ⟨v', T, e1, _⟩ := h1 d' e
          rw [e1]
          rfl
      exact d_notIn (by omega) I g rx fun s3 I3 => ⟨.bl _, H, I3, rfl, by rw [es]; exact kBl k⟩
  | _ => cases hz

/-! ### an item -/
theorem atI_rep {ds : List D} {vs : List V} {S : List Addr} {i : Int} {d : D} (r : Reps K H ds vs S) (h : atI ds i = some d) : ∃ v T, atI vs i = some v ∧ Rep K H d v T := by
  unfold atI at h ⊢
  rw [← r.length]
  cases e : ixN ds.length i with
  | none => rw [e] at h; cases h
  | some j =>
    rw [e] at h
    obtain ⟨v, T, e1, e2, _⟩ := r.get (show ds[j]? = some d from h)
    exact ⟨v, T, e1, e2⟩
/-- x[i]: nothing changes, the item is some part -/
def rIdxD (K : PySem.W.Frag) : R2 := fun x y H Q => ∃ d e z S T, Rep K H d x S ∧ Rep K H e y T ∧ idxS d e = some z ∧ ∀ w S', Rep K H z w S' → Q w H
theorem ix_any (hu : X.A.units + 1 < cLine) : IxR X (rIdxD X.K) := by
  intro value slice pins s σ H x y v u Q I rx ry h hs
  obtain ⟨d, e, z, S, T, r1, r2, hz, k⟩ := h
  cases d with
  | tup xs =>
    cases e with
    | int i =>
      obtain ⟨_, a, vs, rfl, q, r⟩ := r1
      obtain ⟨w, T', e1, e2⟩ := atI_rep r hz
      exact ix_tup value slice pins s σ H (.ref a) y v u Q I rx ry ⟨a, vs, i, w, rfl, r2.1, q, e1, k w T' e2⟩ hs
    | _ => cases hz
  | lst o xs =>
    cases e with
    | int i =>
      obtain ⟨a, vs, T1, rfl, q, r, _⟩ := lst_sq r1
      obtain ⟨w, T', e1, e2⟩ := atI_rep r hz
      exact ix_list value slice pins s σ H (.ref a) y v u Q I rx ry ⟨a, vs, i, w, rfl, r2.1, .inl q, e1, k w T' e2⟩ hs
    | _ => cases hz
  | scr ns =>
    cases e with
    | int i =>
      obtain ⟨_, a, rfl, q⟩ := r1
      change (match atI ns i with | some n => some (D.int n) | none => none) = some z at hz
      cases hn : atI ns i with
      | none => rw [hn] at hz; cases hz
      | some n =>
        rw [hn] at hz
        cases hz
        have e1 : atI (ns.map V.int) i = some (.int n) := by
          unfold atI at hn ⊢
          rw [List.length_map]
          cases e : ixN ns.length i with
          | none => rw [e] at hn; cases hn
          | some j =>
            rw [e] at hn
            show (ns.map V.int)[j]? = some (V.int n)
            rw [List.getElem?_map, show ns[j]? = some n from hn]
            rfl
        exact ix_list value slice pins s σ H (.ref a) y v u Q I rx ry ⟨a, _, i, _, rfl, r2.1, q.sq, e1, k _ [] ⟨rfl, rfl⟩⟩ hs
    | _ => cases hz
  | str a =>
    cases e with
    | int i =>
      change (if a.length ≤ lim then (match atI a.cps.toList i with | some c => some (D.str ⟨#[c]⟩) | none => none) else none) = some z at hz
      split at hz
      · rename_i hc
        cases e1 : atI a.cps.toList i with
        | none => rw [e1] at hz; cases hz
        | some c =>
          rw [e1] at hz
          cases hz
          exact ix_str value slice pins s σ H x y v u Q I rx ry ⟨a, i, c, r1.1, r2.1, by rw [← lim_eq]; exact hc, e1, k _ [] ⟨rfl, rfl⟩⟩ hs
      · cases hz
    | _ => cases hz
  | dk o ks vs =>
    change (match keyD e with | some k => look k ks vs | none => none) = some z at hz
    cases hk : keyD e with
    | none => rw [hk] at hz; cases hz
    | some key =>
      rw [hk] at hz
      have ey := keyD_some hk r2
      obtain ⟨a, ws, T', rfl, q, l, r, _⟩ := dk_rd' r1
      cases rx
      obtain ⟨w, T1, e1, e2⟩ := (look_val key r l).1 z hz
      have g : DGet H a y (some w) := .inl ⟨_, key, q, ey, e1.symm⟩
      exact PyProof.Rows.tail_any (dict_typeIs I g) PySem.F.slot_dict_getitem.lookup (d_getItem hu I g ry fun w' s3 I3 rw' => ⟨w, H, I3, rw', k w T1 e2⟩) hs
  | _ => cases e <;> cases hz
end
end Ly

namespace Ly
open PySem PySem.Spec L2
variable [Fns]
section
variable {X : Cx} {C : Cfg} {W : WX} {pos : Pos}

/-- reading a name -/
theorem var_at {K : PySem.W.Frag} {H : Hp} {ρ : Ev} {σ : St} {SV : List Addr} {i : Nat} {d : D} (hv : Vars K H ρ σ SV) (h : getV ρ i = some d) : ∃ v S R, σ[i]? = some (some v) ∧ Rep K H d v S ∧ Foc K H ρ σ SV i S R := by
  obtain ⟨e, hi⟩ := getV_some h
  obtain ⟨S, R, f⟩ := hv.foc i hi
  obtain ⟨v, e1, e2⟩ := f.here d e
  exact ⟨v, S, R, e1, e2, f⟩
theorem se_var {i : Nat} {x : Str} (hN : X.N[i]? = some x) (hv : Vis X.env.scope x) (hd : (x == ("__debug__" : Str)) = false) (hcd : (x == ("__classdict__" : Str)) = false) : PE X (.Name x pos) (tD C W (.var i)) := by
  refine pemono (pe_var hN hv hd hcd) fun σ H Q h => ?_
  obtain ⟨ρ, SV, hv, nd, h⟩ := h
  obtain ⟨d, hd, h⟩ := tK_lift (show tK C W σ SV H (RD C.K SV H ρ false true) (liftO (getV ρ i) ρ) Q from h)
  obtain ⟨v, S, R, e1, e2, f⟩ := var_at hv hd
  exact ⟨v, e1, h v H SV (.refl hv nd) ⟨⟨S, e2, (fun z => nomatch z), (fun z => nomatch z)⟩, fun _ => ⟨rfl, rfl, .refl⟩⟩⟩
/-- a constant -/
theorem tD_cst {d : D} {v : V} {e : E} {σ : St} {H : Hp} {Q : VK} (he : ∀ ρ, ev e ρ = .ok d ρ) (ho : own e = true) (hr : ∀ H, Rep C.K H d v []) (h : tD C W e σ H Q) : Q v H := by
  obtain ⟨ρ, SV, hv, nd, h⟩ := h
  rw [he] at h
  exact h v H SV (.refl hv nd) ⟨⟨[], hr H, (fun _ a ha => absurd ha List.not_mem_nil), (fun _ => nd)⟩, fun _ => ⟨rfl, rfl, .refl⟩⟩
theorem se_int {i : Int} {j : Nat} : PE X (.Constant (.int i) j pos) (tD C W (.cst (.int i))) := pemono pe_int fun _ _ _ h => tD_cst (d := .int i) (fun _ => rfl) rfl (fun _ => ⟨rfl, rfl⟩) h
theorem se_bl {i : Bool} {j : Nat} : PE X (.Constant (.bool i) j pos) (tD C W (.cst (.bl i))) := pemono pe_bl fun _ _ _ h => tD_cst (d := .bl i) (fun _ => rfl) rfl (fun _ => ⟨rfl, rfl⟩) h
theorem se_non {j : Nat} : PE X (.Constant .none j pos) (tD C W (.cst .non)) := pemono pe_non fun _ _ _ h => tD_cst (d := .non) (fun _ => rfl) rfl (fun _ => ⟨rfl, rfl⟩) h
theorem se_str {x : Str} {j : Nat} : PE X (.Constant (.str x) j pos) (tD C W (.cst (.str x))) := pemono pe_str fun _ _ _ h => tD_cst (d := .str x) (fun _ => rfl) rfl (fun _ => ⟨rfl, rfl⟩) h
theorem se_glo {x : Str} {k : Nat} {v : V} {u : Value} (hg : Gl X x) (hm : X.mg x = some u) (r : RelV v u) (hr : ∀ H, Rep C.K H (Fns.G k) v []) (hd : (x == ("__debug__" : Str)) = false) : PE X (.Name x pos) (tD C W (.glo k)) :=
  pemono (pe_glob hg hm r hd) fun _ _ _ h => tD_cst (d := Fns.G k) (fun _ => rfl) rfl hr h

/-! ### freezing -/
theorem upd_none' {H : Hp} {a b : Addr} {o : HO} (h : H a = none) (hb : H b ≠ none) : upd H b o a = none := by
  rw [upd_ne (fun e => hb (by rw [← e]; exact h))]
  exact h
/-- H' is H with what lies at S given up -/
def Fz (S : List Addr) (H H' : Hp) : Prop := Ext S H H' ∧ ∀ a, H a = none → H' a = none
theorem Fz.refl {S : List Addr} {H : Hp} : Fz S H H := ⟨.refl, fun _ h => h⟩
theorem lock_fz {pins : List (Addr × Obj)} {σ : St} {H : Hp} {s : Shared} {a : Addr} {u : HO} (I : Inv X pins σ H s) (h : H a = some u) (m : Mb u) : ∃ od, Inv X pins σ (upd H a (.frz od u)) s ∧ Fz [a] H (upd H a (.frz od u)) := by
  have mu : Mut (some u) := by cases u <;> first | exact True.intro | exact m.elim
  obtain ⟨od, I1⟩ := I.lock h mu
  refine ⟨od, I1, fun b o e hb => ?_, fun b hb => upd_none' hb (by rw [h]; simp)⟩
  rw [upd_ne (fun e => hb (by simp [e]))]
  exact e
theorem Fz.trans {S T : List Addr} {H H1 H2 : Hp} (f : Fz S H H1) (g : Fz T H1 H2) : Fz (S ++ T) H H2 :=
  ⟨fun a o e h => g.1 a o (f.1 a o e fun z => h (List.mem_append_left _ z)) fun z => h (List.mem_append_right _ z), fun a h => g.2 a (f.2 a h)⟩
theorem Fz.kp {S T : List Addr} {K : PySem.W.Frag} {H H' : Hp} (f : Fz S H H') (ow : Owns H S) (d : ∀ a ∈ T, a ∉ S) : Kp T H H' := f.1.kp ow d
theorem Fz.sub {S T : List Addr} {H H' : Hp} (f : Fz S H H') (h : ∀ a ∈ S, a ∈ T) : Fz T H H' := ⟨fun a o e hn => f.1 a o e fun z => hn (h a z), f.2⟩
theorem own1 {H : Hp} {a : Addr} {o : HO} (h : H a = some o) (m : Mb o) : Owns H [a] := fun b hb => by
  have e : b = a := by simpa using hb
  rw [e]
  exact ⟨o, h, m⟩
mutual
theorem frz_rep {pins : List (Addr × Obj)} {σ : St} {s : Shared} : ∀ (d : D) {H : Hp} {v : V} {S : List Addr}, Inv X pins σ H s → Rep X.K H d v S → S.Nodup → ∃ H', Inv X pins σ H' s ∧ Rep X.K H' (fzD d) v [] ∧ Fz S H H'
  | .non, H, v, S, I, r, _ => by obtain ⟨rfl, rfl⟩ := r; exact ⟨H, I, ⟨rfl, rfl⟩, .refl⟩
  | .bl b, H, v, S, I, r, _ => by obtain ⟨rfl, rfl⟩ := r; exact ⟨H, I, ⟨rfl, rfl⟩, .refl⟩
  | .int b, H, v, S, I, r, _ => by obtain ⟨rfl, rfl⟩ := r; exact ⟨H, I, ⟨rfl, rfl⟩, .refl⟩
  | .str b, H, v, S, I, r, _ => by obtain ⟨rfl, rfl⟩ := r; exact ⟨H, I, ⟨rfl, rfl⟩, .refl⟩
  | .tup ds, H, v, S, I, r, _ => by obtain ⟨rfl, r⟩ := r; exact ⟨H, I, ⟨rfl, r⟩, .refl⟩
  | .lst false ds, H, v, S, I, r, _ => by obtain ⟨rfl, r⟩ := r; exact ⟨H, I, ⟨rfl, r⟩, .refl⟩
  | .dk false ks ds, H, v, S, I, r, _ => by obtain ⟨rfl, r⟩ := r; exact ⟨H, I, ⟨rfl, r⟩, .refl⟩
  | .dt false ks ds, H, v, S, I, r, _ => by obtain ⟨rfl, r⟩ := r; exact ⟨H, I, ⟨rfl, r⟩, .refl⟩
  | .lst true ds, H, v, S, I, r, nd => by
    obtain ⟨a, vs, S', rfl, q, r, rfl⟩ := r
    obtain ⟨na, nd'⟩ := List.nodup_cons.mp nd
    obtain ⟨H1, I1, r1, f1⟩ := frz_reps ds I r nd'
    obtain ⟨od, I2, f2⟩ := lock_fz I1 (f1.1 a _ q na) (show Mb (.lst vs) from True.intro)
    refine ⟨_, I2, ⟨rfl, a, vs, rfl, ⟨od, upd_same⟩, r1.kp _ (f2.1.kp (own1 (f1.1 a _ q na) (show Mb (.lst vs) from True.intro)) fun b hb => absurd hb List.not_mem_nil)⟩, (f1.trans f2).sub fun b hb => ?_⟩
    rcases List.mem_append.mp hb with h | h
    · exact List.mem_cons_of_mem _ h
    · rw [show b = a by simpa using h]; exact List.mem_cons_self
  | .dk true ks ds, H, v, S, I, r, nd => by
    obtain ⟨a, vs, S', rfl, q, l, r, rfl⟩ := r
    obtain ⟨na, nd'⟩ := List.nodup_cons.mp nd
    obtain ⟨H1, I1, r1, f1⟩ := frz_reps ds I r nd'
    obtain ⟨od, I2, f2⟩ := lock_fz I1 (f1.1 a _ q na) (show Mb (.dK (ks.zip vs)) from True.intro)
    refine ⟨_, I2, ⟨rfl, a, vs, od, rfl, upd_same, l, r1.kp _ (f2.1.kp (own1 (f1.1 a _ q na) (show Mb (.dK (ks.zip vs)) from True.intro)) fun b hb => absurd hb List.not_mem_nil)⟩, (f1.trans f2).sub fun b hb => ?_⟩
    rcases List.mem_append.mp hb with h | h
    · exact List.mem_cons_of_mem _ h
    · rw [show b = a by simpa using h]; exact List.mem_cons_self
  | .dt true ks ds, H, v, S, I, r, nd => by
    obtain ⟨a, vs, S', rfl, q, l, r, rfl⟩ := r
    obtain ⟨na, nd'⟩ := List.nodup_cons.mp nd
    obtain ⟨H1, I1, r1, f1⟩ := frz_reps ds I r nd'
    obtain ⟨od, I2, f2⟩ := lock_fz I1 (f1.1 a _ q na) (show Mb (.dT (ks.zip vs)) from True.intro)
    refine ⟨_, I2, ⟨rfl, a, vs, od, rfl, upd_same, l, r1.kp _ (f2.1.kp (own1 (f1.1 a _ q na) (show Mb (.dT (ks.zip vs)) from True.intro)) fun b hb => absurd hb List.not_mem_nil)⟩, (f1.trans f2).sub fun b hb => ?_⟩
    rcases List.mem_append.mp hb with h | h
    · exact List.mem_cons_of_mem _ h
    · rw [show b = a by simpa using h]; exact List.mem_cons_self
  | .exc _ _ _, H, v, S, I, r, _ => by obtain ⟨rfl, r⟩ := r; exact ⟨H, I, ⟨rfl, r⟩, .refl⟩
  | .scr _, H, v, S, I, r, _ => by obtain ⟨rfl, r⟩ := r; exact ⟨H, I, ⟨rfl, r⟩, .refl⟩
theorem frz_reps {pins : List (Addr × Obj)} {σ : St} {s : Shared} : ∀ (ds : List D) {H : Hp} {vs : List V} {S : List Addr}, Inv X pins σ H s → Reps X.K H ds vs S → S.Nodup → ∃ H', Inv X pins σ H' s ∧ Reps X.K H' (fzDs ds) vs [] ∧ Fz S H H'
  | [], H, vs, S, I, r, _ => by obtain ⟨rfl, rfl⟩ := r; exact ⟨H, I, ⟨rfl, rfl⟩, .refl⟩
  | d :: ds, H, _, _, I, r, nd => by
    obtain ⟨v, vs, S1, S2, rfl, q1, q2, rfl⟩ := r
    obtain ⟨n1, n2, n3⟩ := List.nodup_append.mp nd
    obtain ⟨H1, I1, r1, f1⟩ := frz_rep d I q1 n1
    have q2' : Reps X.K H1 ds vs S2 := q2.kp ds (f1.1.kp (q1.owns d) fun a ha hb => n3 a hb a ha rfl)
    obtain ⟨H2, I2, r2, f2⟩ := frz_reps ds I1 q2' n2
    exact ⟨H2, I2, Reps.cons (S1 := []) (S2 := []) (r1.kp _ (f2.1.kp (q2'.owns ds) fun a ha => absurd ha List.not_mem_nil)) r2, f1.trans f2⟩
end
/-- behind giving up S, which is no name's -/
theorem EnvP.fz {K : PySem.W.Frag} {SV SV1 S : List Addr} {H H1 H2 : Hp} {σ : St} {ρ : Ev} (e : EnvP K SV H σ ρ H1 SV1) (ow : Owns H1 S) (nd : (S ++ SV1).Nodup) (src : ∀ a ∈ S, a ∈ SV ∨ H a = none) (f : Fz S H1 H2) : EnvP K SV H σ ρ H2 SV1 := by
  have dis : ∀ a ∈ SV1, a ∉ S := fun a ha hb => (List.nodup_append.mp nd).2.2 a hb a ha rfl
  refine ⟨e.vars.kp (f.1.kp ow dis), e.nd, e.src, fun a o h hs => f.1 a o (e.ext a o h hs) fun z => ?_⟩
  rcases src a z with q | q
  · exact hs q
  · rw [h] at q; cases q
theorem fz_frz (d : D) : frzD (fzD d) = true := by
  cases d with
  | lst o _ => cases o <;> rfl
  | dk o _ _ => cases o <;> rfl
  | dt o _ _ => cases o <;> rfl
  | _ => rfl
theorem se_fz {e : Expr} {a : E} (hK : X.K = C.K) (ho : own a = true) (ha : PE X e (tD C W a)) : PE X e (tD C W (.fz a)) := by
  refine ⟨fun pins s σ H Q I h => ?_⟩
  obtain ⟨ρ, SV, hv, nd, h⟩ := h
  have h : tK C W σ SV H (RD C.K SV H ρ true false) ((ev a ρ).bind fun d ρ => .ok (fzD d) ρ) Q := h
  refine thn (ha.run pins s σ H (fun v H1 => ∃ d S, Rep X.K H1 d v S ∧ S.Nodup ∧ ∀ H2, Rep X.K H2 (fzD d) v [] → Fz S H1 H2 → Q v H2) I ⟨ρ, SV, hv, nd, tK_bind0 h fun d ρ1 v H1 SV1 e1 ⟨⟨S, r1⟩, _⟩ h1 => ?_⟩) fun u s1 ⟨v, H1, I1, rv, d, S, r, n, k⟩ => ?_
  · refine ⟨d, S, by rw [hK]; exact r1.rep, (List.nodup_append.mp (r1.sep ho)).1, fun H2 r2 f => ?_⟩
    have e2 : EnvP C.K SV H σ ρ1 H2 SV1 := e1.fz (r1.rep.owns d) (r1.sep ho) (r1.src ho) f
    exact h1 v H2 SV1 e2 ⟨⟨[], by rw [← hK]; exact r2, (fun _ a ha => absurd ha List.not_mem_nil), (fun _ => e1.nd)⟩, (fun z => nomatch z)⟩
  · obtain ⟨H2, I2, r2, f⟩ := frz_rep d I1 r n
    exact ⟨v, H2, I2, rv, k H2 r2 f⟩
theorem se_ck {e : Expr} {a : E} (ha : PE X e (tD C W a)) : PE X e (tD C W (.ck a)) := by
  refine pemono ha fun σ H Q h => ?_
  obtain ⟨ρ, SV, hv, nd, h⟩ := h
  have h : tK C W σ SV H (RD C.K SV H ρ true (quiet a)) ((ev a ρ).bind fun d ρ => if frzD d = true then .ok d ρ else .bad) Q := h
  refine ⟨ρ, SV, hv, nd, tK_bind0 h fun d ρ1 v H1 SV1 e1 ⟨⟨S, r1⟩, q1⟩ h1 => ?_⟩
  by_cases hf : frzD d = true
  · rw [if_pos hf] at h1
    have := r1.rep.frz hf
    subst this
    exact h1 v H1 SV1 e1 ⟨⟨[], r1.rep, (fun _ a ha => absurd ha List.not_mem_nil), (fun _ => e1.nd)⟩, q1⟩
  · rw [if_neg hf] at h1
    exact h1.elim
/-- a name given up -/
theorem se_mv {i : Nat} {x : Str} (hK : X.K = C.K) (hN : X.N[i]? = some x) (hv : Vis X.env.scope x) (hd : (x == ("__debug__" : Str)) = false) (hcd : (x == ("__classdict__" : Str)) = false) : PE X (.Name x pos) (tD C W (.mv i)) := by
  refine ⟨fun pins s σ H Q I h => ?_⟩
  obtain ⟨ρ, SV, hv', nd, h⟩ := h
  cases hg : getV ρ i with
  | none =>
    have h : tK C W σ SV H (RD C.K SV H ρ true false) (match getV ρ i with | some d => .ok (fzD d) (ρ.set i (some (fzD d))) | none => .bad) Q := h
    rw [hg] at h
    exact h.elim
  | some d =>
    have h : tK C W σ SV H (RD C.K SV H ρ true false) (match getV ρ i with | some d => .ok (fzD d) (ρ.set i (some (fzD d))) | none => .bad) Q := h
    rw [hg] at h
    obtain ⟨v, S, R, e1, e2, f⟩ := var_at hv' hg
    have ndp : (S ++ R).Nodup := f.perm.nodup_iff.mp nd
    refine thn ((pe_var hN hv hd hcd).run pins s σ H (fun w H1 => w = v ∧ H1 = H) I ⟨v, e1, rfl, rfl⟩) fun u s1 ⟨w, H1, I1, rv, ew, eH⟩ => ?_
    subst ew eH
    obtain ⟨H2, I2, r2, fz⟩ := frz_rep d I1 (by rw [hK]; exact e2) (List.nodup_append.mp ndp).1
    refine ⟨w, H2, I2, rv, ?_⟩
    have ow : Owns H1 S := e2.owns d
    have kR : Kp R H1 H2 := Fz.kp (K := C.K) fz ow fun a ha hb => (List.nodup_append.mp ndp).2.2 a hb a ha rfl
    rw [hK] at r2
    obtain ⟨SV', v1, p1⟩ := f.set H2 (fzD d) w [] kR r2
    rw [set_same e1] at v1
    have mem : ∀ a, a ∈ SV' → a ∈ SV := fun a ha => f.perm.mem_iff.mpr (List.mem_append_right _ (p1.mem_iff.mp ha))
    refine h w H2 SV' ⟨v1, p1.nodup_iff.mpr (List.nodup_append.mp ndp).2.1, fun a ha => .inl (mem a ha), fun a o e hs => fz.1 a o e fun z => hs (f.perm.mem_iff.mpr (List.mem_append_left _ z))⟩
      ⟨⟨[], r2, (fun _ a ha => absurd ha List.not_mem_nil), (fun _ => p1.nodup_iff.mpr (List.nodup_append.mp ndp).2.1)⟩, (fun z => nomatch z)⟩
theorem se_mvo {i : Nat} {x : Str} (hN : X.N[i]? = some x) (hv : Vis X.env.scope x) (hd : (x == ("__debug__" : Str)) = false) (hcd : (x == ("__classdict__" : Str)) = false) : PE X (.Name x pos) (tD C W (.mvo i)) := by
  refine pemono (pe_var hN hv hd hcd) fun σ H Q h => ?_
  obtain ⟨ρ, SV, hv', nd, h⟩ := h
  have h : tK C W σ SV H (RD C.K SV H ρ true false) (match getV ρ i with | some d => .ok d (ρ.set i none) | none => .bad) Q := h
  cases hg : getV ρ i with
  | none => rw [hg] at h; exact h.elim
  | some d =>
    rw [hg] at h
    obtain ⟨v, S, R, e1, e2, f⟩ := var_at hv' hg
    have ndp : (S ++ R).Nodup := f.perm.nodup_iff.mp nd
    obtain ⟨SV', v1, p1⟩ := f.out H σ .refl (fun _ _ => rfl) rfl
    refine ⟨v, e1, h v H SV' ⟨v1, p1.nodup_iff.mpr (List.nodup_append.mp ndp).2.1, fun a ha => .inl (f.perm.mem_iff.mpr (List.mem_append_right _ (p1.mem_iff.mp ha))), .refl⟩
      ⟨⟨S, e2, (fun _ a ha => .inl (f.perm.mem_iff.mpr (List.mem_append_left _ ha))), (fun _ => (p1.append_left S).nodup_iff.mpr ndp)⟩, (fun z => nomatch z)⟩⟩
end
end Ly

namespace Ly
open PySem PySem.Spec L2
variable [Fns]
section
variable {X : Cx} {C : Cfg} {W : WX} {pos : Pos} {a b c : Expr} {a' b' c' : E}
theorem se_bin' {op : Operator} {o : O2} (hK : X.K = C.K) (ho : OpR X (binaryOp op) (rD X.K o.sem)) (ha : PE X a (tD C W a')) (hb : PE X b (tD C W b')) (hop : own (.o2 o a' b') = true) (hs : (own a' || quiet b') = true) :
    PE X (.BinOp a op b pos) (tD C W (.o2 o a' b')) := se_bin (by rw [← hK]; exact ho) ha hb hop hs
theorem se_cmp {op : CmpOp} {o : O2} (hK : X.K = C.K) (ho : OpR X (compareOp op) (rD X.K o.sem)) (ha : PE X a (tD C W a')) (hb : PE X b (tD C W b')) (hop : own (.o2 o a' b') = true) (hs : (own a' || quiet b') = true) (hm : behindInMarks op b = false) :
    PE X (.Compare a [op] [b] pos) (tD C W (.o2 o a' b')) := pemono (pe_cmpR (by rw [← hK]; exact ho) ha hb hm) fun _ _ _ h => tD_o2 hop hs h
theorem se_idx (hK : X.K = C.K) (hu : X.A.units + 1 < cLine) (ha : PE X a (tD C W a')) (hb : PE X b (tD C W b')) (hs : (own a' || quiet b') = true) (hp : PlainIx b) : PE X (.Subscript a b pos) (tD C W (.o2 .idx a' b')) := by
  refine pemono (pe_ix (by rw [← hK]; exact ix_any hu : IxR X (rIdxD C.K)) ha hb hp) fun σ H Q h => ?_
  obtain ⟨ρ, SV, hv, nd, h⟩ := h
  have h : tK C W σ SV H (RD C.K SV H ρ false (quiet a' && quiet b')) ((ev a' ρ).bind fun x ρ => (ev b' ρ).bind fun y ρ => liftO (idxS x y) ρ) Q := h
  refine ⟨ρ, SV, hv, nd, tK_bind h fun d ρ1 v H1 SV1 e1 r1 h1 => ⟨ρ1, SV1, e1.vars, e1.nd, tK_bind h1 fun e ρ2 u H2 SV2 e2 r2 h2 => ?_⟩⟩
  obtain ⟨z, hz, h2⟩ := tK_lift h2
  obtain ⟨⟨S, r1⟩, q1⟩ := r1
  obtain ⟨⟨T, r2⟩, q2⟩ := r2
  have hs' : own a' = true ∨ quiet b' = true := by simpa using hs
  obtain ⟨rep1, sep1⟩ := r1.carry e2 e1 q2 hs'
  refine ⟨d, e, z, S, T, rep1, r2.rep, hz, fun w S' rep => ?_⟩
  have en : EnvP C.K SV2 H2 σ ρ2 H2 SV2 := .refl e2.vars e2.nd
  refine h2 w H2 SV2 en ⟨e2.trans en, (e1.trans e2).trans en, ⟨S', rep, (fun z => nomatch z), (fun z => nomatch z)⟩, fun q => ?_⟩
  rw [Bool.and_eq_true] at q
  exact (q1 q.1).trans (q2 q.2)

/-! ### one value -/
def rD1 (K : PySem.W.Frag) (g : D → Option D) : V → Hp → VK → Prop := fun x H Q => ∃ d z S, Rep K H d x S ∧ g d = some z ∧ ∀ w H' S', Ext [] H H' → Rep K H' z w S' → S'.Nodup → (∀ a ∈ S', H a = none) → Q w H'
theorem tD_o1 {o : O1} {σ : St} {H : Hp} {Q : VK} (h : tD C W (.o1 o a') σ H Q) : tUn (rD1 C.K o.sem) (tD C W a') σ H Q := by
  obtain ⟨ρ, SV, hv, nd, h⟩ := h
  have h : tK C W σ SV H (RD C.K SV H ρ true (quiet a')) ((ev a' ρ).bind fun x ρ => liftO (o.sem x) ρ) Q := h
  refine ⟨ρ, SV, hv, nd, tK_bind h fun d ρ1 v H1 SV1 e1 r1 h1 => ?_⟩
  obtain ⟨z, hz, h1⟩ := tK_lift h1
  obtain ⟨⟨S, r1⟩, q1⟩ := r1
  refine ⟨d, z, S, r1.rep, hz, fun w H' S' x rep nd' new => ?_⟩
  have en := e1.ext0 x
  obtain ⟨f1, f2⟩ := fresh_sep e1 nd' new
  exact h1 w H' SV1 en ⟨e1.trans en, ⟨S', rep, (fun _ => f1), (fun _ => f2)⟩, fun q => (q1 q).ext x⟩
theorem un_neg' : UnR X (unaryOp .USub) (rD1 X.K O1.neg.sem) := by
  intro pins s σ H x v Q I rx h
  obtain ⟨d, z, S, r1, hz, k⟩ := h
  cases d with
  | int i =>
    cases hz
    exact un_neg pins s σ H x v Q I rx ⟨i, r1.1, kInt k⟩
  | _ => cases hz
theorem se_neg (hK : X.K = C.K) (ha : PE X a (tD C W a')) : PE X (.UnaryOp .USub a pos) (tD C W (.o1 .neg a')) := pemono (pe_un (by rw [← hK]; exact un_neg' : UnR X (unaryOp .USub) (rD1 C.K O1.neg.sem)) ha) fun _ _ _ h => tD_o1 h
/-- truth by data -/
theorem tru_rep {K : PySem.W.Frag} {H : Hp} {d : D} {x : V} {S : List Addr} {k : Bool} (r : Rep K H d x S) (h : truth d = some k) : TruV K x H k := by
  cases d with
  | non => cases h; rw [r.1]; rfl
  | bl b => cases h; rw [r.1]; rfl
  | int i => cases h; rw [r.1]; rfl
  | str y =>
    rw [r.1]
    change (if y.length ≤ lim then some (y.length != 0) else none) = some k at h
    split at h
    · rename_i hc
      cases h
      refine ⟨by rw [← lim_eq]; exact hc, ?_⟩
      cases y.length <;> rfl
    · cases h
  | tup ds =>
    cases h
    obtain ⟨_, a, vs, rfl, q, r⟩ := r
    refine .inr (.inl ⟨vs, q, ?_⟩)
    have := r.length
    cases ds <;> cases vs <;> first | rfl | simp at this
  | lst o ds =>
    cases h
    obtain ⟨a, vs, T, rfl, q, r, _⟩ := lst_sq r
    refine .inl ⟨vs, .inl q, ?_⟩
    have := r.length
    cases ds <;> cases vs <;> first | rfl | simp at this
  | dk o ks ds =>
    cases o with
    | false => cases h
    | true =>
      cases h
      obtain ⟨a, vs, S', rfl, q, l, r, _⟩ := r
      refine .inr (.inr ⟨_, q, ?_⟩)
      cases ks <;> cases vs <;> first | rfl | simp at l
  | _ => cases h
/-- not x -/
theorem se_not (hK : X.K = C.K) (ha : PE X a (tD C W a')) : PE X (.UnaryOp .Not a pos) (tD C W (.o1 .notO a')) := by
  refine pemono (pe_notT ha) fun σ H Q h => ?_
  obtain ⟨ρ, SV, hv, nd, h⟩ := tD_o1 h
  refine ⟨ρ, SV, hv, nd, ?_⟩
  cases m : ev a' ρ with
  | bad => rw [m] at h; exact h
  | exc x ρ' => rw [m] at h; exact h
  | ok d ρ1 =>
    rw [m] at h
    intro v H1 SV1 e1 r1
    obtain ⟨d, z, S, r, hz, k⟩ := h v H1 SV1 e1 r1
    change (match truth d with | some b => some (D.bl (!b)) | none => none) = some z at hz
    cases ht : truth d with
    | none => rw [ht] at hz; cases hz
    | some t =>
      rw [ht] at hz
      cases hz
      exact ⟨t, by rw [hK]; exact tru_rep r ht, kBl k⟩
/-- x and y, x or y, by truth -/
theorem qt_and {SV SV1 SV2 : List Addr} {H H1 H2 : Hp} {ρ ρ1 ρ2 : Ev} {p q : Bool} (h1 : p = true → Qt SV H ρ ρ1 H1 SV1) (h2 : q = true → Qt SV1 H1 ρ1 ρ2 H2 SV2) : (p && q) = true → Qt SV H ρ ρ2 H2 SV2 := fun h => by
  rw [Bool.and_eq_true] at h
  exact (h1 h.1).trans (h2 h.2)
/-- the value of a second part is the value of the whole -/
theorem RD.next {K : PySem.W.Frag} {SV SV1 SV2 : List Addr} {H H1 H2 : Hp} {σ : St} {ρ ρ1 ρ2 : Ev} {o o' p q : Bool} {d : D} {v : V} (e1 : EnvP K SV H σ ρ1 H1 SV1) (h1 : p = true → Qt SV H ρ ρ1 H1 SV1) (r : RD K SV1 H1 ρ1 o q d ρ2 SV2 H2 v) (ho : o' = true → o = true) (q' : Bool) (hq : q' = true → p = true ∧ q = true) : RD K SV H ρ o' q' d ρ2 SV2 H2 v := by
  obtain ⟨⟨S, r⟩, r2⟩ := r
  exact ⟨⟨S, r.rep, (fun z => src_trans e1 (r.src (ho z))), (fun z => r.sep (ho z))⟩, fun z => (h1 (hq z).1).trans (r2 (hq z).2)⟩
theorem tK_next {σ : St} {SV SV1 : List Addr} {H H1 : Hp} {ρ ρ1 : Ev} {o o' p q q' : Bool} {m : Out D} {Q : VK} (e1 : EnvP C.K SV H σ ρ1 H1 SV1) (h1 : p = true → Qt SV H ρ ρ1 H1 SV1) (ho : o' = true → o = true) (hq : q' = true → p = true ∧ q = true)
    (h : tK C W σ SV1 H1 (fun z ρ2 SV2 H2 w => EnvP C.K SV H σ ρ2 H2 SV2 ∧ RD C.K SV H ρ o' q' z ρ2 SV2 H2 w) m Q) : tK C W σ SV1 H1 (RD C.K SV1 H1 ρ1 o q) m Q := by
  cases m with
  | bad => exact h
  | exc x ρ' => exact h
  | ok d ρ2 => exact fun v H2 SV2 e2 r2 => h v H2 SV2 e2 ⟨e1.trans e2, r2.next e1 h1 ho q' hq⟩
theorem se_and {rest : List Expr} (hK : X.K = C.K) (ha : PE X a (tD C W a')) (hb : PE X (.BoolOp .And (b :: rest) pos) (tD C W b')) : PE X (.BoolOp .And (a :: b :: rest) pos) (tD C W (.and a' b')) := by
  refine pemono (pe_andT ha hb) fun σ H Q h => ?_
  obtain ⟨ρ, SV, hv, nd, h⟩ := h
  have h : tK C W σ SV H (RD C.K SV H ρ (own a' && own b') (quiet a' && quiet b')) ((ev a' ρ).bind fun x ρ => (match truth x with | some true => ev b' ρ | some false => .ok x ρ | none => .bad)) Q := h
  refine ⟨ρ, SV, hv, nd, tK_bind h fun d ρ1 v H1 SV1 e1 ⟨⟨S, r1⟩, q1⟩ h1 => ?_⟩
  cases ht : truth d with
  | none => rw [ht] at h1; exact h1.elim
  | some t =>
    rw [ht] at h1
    refine ⟨t, by rw [hK]; exact tru_rep r1.rep ht, ?_⟩
    cases t with
    | true =>
      rw [if_pos rfl]
      exact ⟨ρ1, SV1, e1.vars, e1.nd, tK_next e1 q1 (fun z => (Bool.and_eq_true_iff.mp z).2) (fun z => Bool.and_eq_true_iff.mp z) h1⟩
    | false =>
      rw [if_neg Bool.false_ne_true]
      exact h1 v H1 SV1 (.refl e1.vars e1.nd) ⟨e1, ⟨S, r1.rep, (fun z => r1.src (Bool.and_eq_true_iff.mp z).1), (fun z => r1.sep (Bool.and_eq_true_iff.mp z).1)⟩, fun z => q1 (Bool.and_eq_true_iff.mp z).1⟩
theorem se_or {rest : List Expr} (hK : X.K = C.K) (ha : PE X a (tD C W a')) (hb : PE X (.BoolOp .Or (b :: rest) pos) (tD C W b')) : PE X (.BoolOp .Or (a :: b :: rest) pos) (tD C W (.or a' b')) := by
  refine pemono (pe_orT ha hb) fun σ H Q h => ?_
  obtain ⟨ρ, SV, hv, nd, h⟩ := h
  have h : tK C W σ SV H (RD C.K SV H ρ (own a' && own b') (quiet a' && quiet b')) ((ev a' ρ).bind fun x ρ => (match truth x with | some true => .ok x ρ | some false => ev b' ρ | none => .bad)) Q := h
  refine ⟨ρ, SV, hv, nd, tK_bind h fun d ρ1 v H1 SV1 e1 ⟨⟨S, r1⟩, q1⟩ h1 => ?_⟩
  cases ht : truth d with
  | none => rw [ht] at h1; exact h1.elim
  | some t =>
    rw [ht] at h1
    refine ⟨t, by rw [hK]; exact tru_rep r1.rep ht, ?_⟩
    cases t with
    | false =>
      rw [if_neg Bool.false_ne_true]
      exact ⟨ρ1, SV1, e1.vars, e1.nd, tK_next e1 q1 (fun z => (Bool.and_eq_true_iff.mp z).2) (fun z => Bool.and_eq_true_iff.mp z) h1⟩
    | true =>
      rw [if_pos rfl]
      exact h1 v H1 SV1 (.refl e1.vars e1.nd) ⟨e1, ⟨S, r1.rep, (fun z => r1.src (Bool.and_eq_true_iff.mp z).1), (fun z => r1.sep (Bool.and_eq_true_iff.mp z).1)⟩, fun z => q1 (Bool.and_eq_true_iff.mp z).1⟩

/-! ### tests -/
def evT (e : E) (ρ : Ev) : Out Bool := (ev e ρ).bind fun d ρ => liftO (truth d) ρ
def RB (SV : List Addr) (H : Hp) (ρ : Ev) (q : Bool) (b : Bool) (ρ' : Ev) (SV' : List Addr) (H' : Hp) (v : Bool) : Prop := v = b ∧ (q = true → Qt SV H ρ ρ' H' SV')
def tT (C : Cfg) (W : WX) (e : E) : TT := fun σ H Q => ∃ ρ SV, Vars C.K H ρ σ SV ∧ SV.Nodup ∧ tK C W σ SV H (RB SV H ρ (quiet e)) (evT e ρ) Q
theorem st_truth (hK : X.K = C.K) (ha : PE X a (tD C W a')) (he : ∀ whole, isTrue a X.env whole = (do let v ← whole; standAt a.pos; holding [v] (truthy v))) : PT X a (tT C W a') := by
  refine ptmono (pt_truth ha he) fun σ H Q h => ?_
  obtain ⟨ρ, SV, hv, nd, h⟩ := h
  refine ⟨ρ, SV, hv, nd, tK_bind h fun d ρ1 v H1 SV1 e1 ⟨⟨S, r1⟩, q1⟩ h1 => ?_⟩
  obtain ⟨t, ht, h1⟩ := tK_lift h1
  exact ⟨t, by rw [hK]; exact tru_rep r1.rep ht, h1 t H1 SV1 (.refl e1.vars e1.nd) ⟨e1, rfl, q1⟩⟩
def isCmp : O2 → Bool
  | .eq => true
  | .ne => true
  | .lt => true
  | .le => true
  | .gt => true
  | .ge => true
  | .isN => true
  | .notN => true
  | .isIn => true
  | .notIn => true
  | _ => false
theorem inS_bl {d e z : D} (hz : inS d e = some z) : ∃ b, z = .bl b := by
  cases e with
  | tup xs => exact ⟨_, (inS_seq hz).2.2.2⟩
  | lst o xs => exact ⟨_, (inS_seq hz).2.2.2⟩
  | str y => cases d <;> first | (cases hz; exact ⟨_, rfl⟩) | cases hz
  | dk o ks vs =>
    change (match keyD d with | some k => some (D.bl (look k ks vs).isSome) | none => none) = some z at hz
    cases hk : keyD d with
    | none => rw [hk] at hz; cases hz
    | some k => rw [hk] at hz; cases hz; exact ⟨_, rfl⟩
  | _ => cases hz
theorem cmp_bl {o : O2} (h : isCmp o = true) {d e z : D} (hz : o.sem d e = some z) : ∃ b, z = .bl b := by
  cases o with
  | eq => exact ⟨_, (eqS_some hz).2.2.2⟩
  | ne =>
    obtain ⟨b, _, e⟩ := notS_some (show notS (eqS d e) = some z from hz)
    exact ⟨_, e⟩
  | lt =>
    have hz : ltS d e = some z := hz
    rcases ltS_in d e z hz with ⟨i, j, rfl, rfl⟩ | ⟨i, j, rfl, rfl⟩ <;> cases hz <;> exact ⟨_, rfl⟩
  | le => obtain ⟨_, _, _, _, e⟩ := I2_some hz; exact ⟨_, e⟩
  | gt =>
    have hz : gtS d e = some z := hz
    rcases gtS_in d e z hz with ⟨i, j, rfl, rfl⟩ | ⟨i, j, rfl, rfl⟩ <;> cases hz <;> exact ⟨_, rfl⟩
  | ge => obtain ⟨_, _, _, _, e⟩ := I2_some hz; exact ⟨_, e⟩
  | isN => rcases isS_some hz with ⟨_, h2⟩ | ⟨_, _, _, _, h2⟩ <;> exact ⟨_, h2⟩
  | notN =>
    obtain ⟨b, _, e⟩ := notS_some (show notS (isS d e) = some z from hz)
    exact ⟨_, e⟩
  | isIn => exact inS_bl hz
  | notIn =>
    obtain ⟨b, _, e⟩ := notS_some (show notS (inS d e) = some z from hz)
    exact ⟨_, e⟩
  | _ => cases h
theorem ev_o2_ok {o : O2} {a b : E} {ρ ρ1 : Ev} {d : D} (h : ev (.o2 o a b) ρ = .ok d ρ1) : ∃ x y, o.sem x y = some d := by
  have h : ((ev a ρ).bind fun x ρ => (ev b ρ).bind fun y ρ => liftO (o.sem x y) ρ) = .ok d ρ1 := h
  cases ha : ev a ρ with
  | bad => rw [ha] at h; cases h
  | exc x ρ' => rw [ha] at h; cases h
  | ok x ρ' =>
    rw [ha] at h
    have h : ((ev b ρ').bind fun y ρ => liftO (o.sem x y) ρ) = .ok d ρ1 := h
    cases hb : ev b ρ' with
    | bad => rw [hb] at h; cases h
    | exc x ρ' => rw [hb] at h; cases h
    | ok y ρ'' =>
      rw [hb] at h
      have h : liftO (o.sem x y) ρ'' = .ok d ρ1 := h
      cases hs : o.sem x y with
      | none => rw [hs] at h; cases h
      | some z => rw [hs] at h; cases h; exact ⟨x, y, hs⟩
theorem st_cmp {op : CmpOp} {o : O2} (hK : X.K = C.K) (hc : isCmp o = true) (ho : OpR X (compareOp op) (rD X.K o.sem)) (ha : PE X a (tD C W a')) (hb : PE X b (tD C W b')) (hs : (own a' || quiet b') = true) (hm : behindInMarks op b = false) :
    PT X (.Compare a [op] [b] pos) (tT C W (.o2 o a' b')) := by
  refine ptmono (pt_cmpR (by rw [← hK]; exact ho : OpR X (compareOp op) (rD C.K o.sem)) ha hb hm) fun σ H Q h => ?_
  obtain ⟨ρ, SV, hv, nd, h⟩ := h
  have hop : own (.o2 o a' b') = true := by cases o <;> first | rfl | cases hc
  refine tD_o2 hop hs ⟨ρ, SV, hv, nd, tK_bindE (R := RD C.K SV H ρ (own (.o2 o a' b')) (quiet (.o2 o a' b'))) h fun d ρ1 v H1 SV1 hm e1 ⟨⟨S, r1⟩, q1⟩ h1 => ?_⟩
  obtain ⟨x, y, hz⟩ := ev_o2_ok hm
  obtain ⟨b, rfl⟩ := cmp_bl hc hz
  have h1 : ∀ v H' SV', EnvP C.K SV H σ ρ1 H' SV' → RB SV H ρ (quiet (.o2 o a' b')) b ρ1 SV' H' v → Q v H' := h1
  exact ⟨b, r1.rep.1, h1 b H1 SV1 e1 ⟨rfl, q1⟩⟩
/-- tests joined -/
theorem evT_and {a b : E} {ρ : Ev} : evT (.and a b) ρ = (evT a ρ).bind fun c ρ => if c = true then evT b ρ else .ok false ρ := by
  have e : evT (.and a b) ρ = ((ev a ρ).bind fun x ρ => (match truth x with | some true => ev b ρ | some false => .ok x ρ | none => .bad)).bind fun d ρ => liftO (truth d) ρ := rfl
  rw [e]
  unfold evT
  cases ev a ρ with
  | bad => rfl
  | exc x ρ' => rfl
  | ok x ρ' =>
    show Out.bind (match truth x with | some true => ev b ρ' | some false => .ok x ρ' | none => .bad) _ = Out.bind (liftO (truth x) ρ') _
    cases ht : truth x with
    | none => rfl
    | some t =>
      cases t with
      | true => rfl
      | false => show liftO (truth x) ρ' = _; rw [ht]; rfl
theorem evT_or {a b : E} {ρ : Ev} : evT (.or a b) ρ = (evT a ρ).bind fun c ρ => if c = true then .ok true ρ else evT b ρ := by
  have e : evT (.or a b) ρ = ((ev a ρ).bind fun x ρ => (match truth x with | some true => .ok x ρ | some false => ev b ρ | none => .bad)).bind fun d ρ => liftO (truth d) ρ := rfl
  rw [e]
  unfold evT
  cases ev a ρ with
  | bad => rfl
  | exc x ρ' => rfl
  | ok x ρ' =>
    show Out.bind (match truth x with | some true => .ok x ρ' | some false => ev b ρ' | none => .bad) _ = Out.bind (liftO (truth x) ρ') _
    cases ht : truth x with
    | none => rfl
    | some t =>
      cases t with
      | true => show liftO (truth x) ρ' = _; rw [ht]; rfl
      | false => rfl
theorem evT_not {a : E} {ρ : Ev} : evT (.o1 .notO a) ρ = (evT a ρ).bind fun c ρ => .ok (!c) ρ := by
  have e : evT (.o1 .notO a) ρ = ((ev a ρ).bind fun x ρ => liftO (match truth x with | some b => some (D.bl (!b)) | none => none) ρ).bind fun d ρ => liftO (truth d) ρ := by
    unfold evT
    have e : ∀ x, O1.notO.sem x = (match truth x with | some b => some (D.bl (!b)) | none => none) := fun x => by cases x <;> rfl
    show ((ev a ρ).bind fun x ρ => liftO (O1.notO.sem x) ρ).bind _ = _
    simp only [e]
  rw [e]
  unfold evT
  cases ev a ρ with
  | bad => rfl
  | exc x ρ' => rfl
  | ok x ρ' =>
    show Out.bind (liftO (match truth x with | some b => some (D.bl (!b)) | none => none) ρ') _ = Out.bind (liftO (truth x) ρ') _
    cases truth x <;> rfl
theorem tKB_next {σ : St} {SV SV1 : List Addr} {H H1 : Hp} {ρ ρ1 : Ev} {p q q' : Bool} {m : Out Bool} {Q : Bool → Hp → Prop} (e1 : EnvP C.K SV H σ ρ1 H1 SV1) (h1 : p = true → Qt SV H ρ ρ1 H1 SV1) (hq : q' = true → p = true ∧ q = true)
    (h : tK C W σ SV1 H1 (fun z ρ2 SV2 H2 w => EnvP C.K SV H σ ρ2 H2 SV2 ∧ RB SV H ρ q' z ρ2 SV2 H2 w) m Q) : tK C W σ SV1 H1 (RB SV1 H1 ρ1 q) m Q := by
  cases m with
  | bad => exact h
  | exc x ρ' => exact h
  | ok d ρ2 => exact fun v H2 SV2 e2 r2 => h v H2 SV2 e2 ⟨e1.trans e2, r2.1, fun z => (h1 (hq z).1).trans (r2.2 (hq z).2)⟩
theorem sw_and {rest : List Expr} (ha : PT X a (tT C W a')) (hb : PW X (.BoolOp .And (b :: rest) pos) (tT C W b')) : PW X (.BoolOp .And (a :: b :: rest) pos) (tT C W (.and a' b')) := by
  refine ⟨fun wh pins s σ H Q I h => (pw_and ha hb).run wh pins s σ H Q I ?_⟩
  obtain ⟨ρ, SV, hv, nd, h⟩ := h
  rw [evT_and] at h
  refine ⟨ρ, SV, hv, nd, tK_bind h fun d ρ1 v H1 SV1 e1 ⟨ed, q1⟩ h1 => ?_⟩
  subst ed
  cases v with
  | true =>
    rw [if_pos rfl] at h1 ⊢
    exact ⟨ρ1, SV1, e1.vars, e1.nd, tKB_next e1 q1 (fun z => Bool.and_eq_true_iff.mp z) h1⟩
  | false =>
    rw [if_neg Bool.false_ne_true] at h1 ⊢
    exact h1 false H1 SV1 (.refl e1.vars e1.nd) ⟨e1, rfl, fun z => q1 (Bool.and_eq_true_iff.mp z).1⟩
theorem sw_or {rest : List Expr} (ha : PT X a (tT C W a')) (hb : PW X (.BoolOp .Or (b :: rest) pos) (tT C W b')) : PW X (.BoolOp .Or (a :: b :: rest) pos) (tT C W (.or a' b')) := by
  refine ⟨fun wh pins s σ H Q I h => (pw_or ha hb).run wh pins s σ H Q I ?_⟩
  obtain ⟨ρ, SV, hv, nd, h⟩ := h
  rw [evT_or] at h
  refine ⟨ρ, SV, hv, nd, tK_bind h fun d ρ1 v H1 SV1 e1 ⟨ed, q1⟩ h1 => ?_⟩
  subst ed
  cases v with
  | false =>
    rw [if_neg Bool.false_ne_true] at h1 ⊢
    exact ⟨ρ1, SV1, e1.vars, e1.nd, tKB_next e1 q1 (fun z => Bool.and_eq_true_iff.mp z) h1⟩
  | true =>
    rw [if_pos rfl] at h1 ⊢
    exact h1 true H1 SV1 (.refl e1.vars e1.nd) ⟨e1, rfl, fun z => q1 (Bool.and_eq_true_iff.mp z).1⟩
theorem st_not (ha : PT X a (tT C W a')) : PT X (.UnaryOp .Not a pos) (tT C W (.o1 .notO a')) := by
  refine ptmono (pt_not ha) fun σ H Q h => ?_
  obtain ⟨ρ, SV, hv, nd, h⟩ := h
  rw [evT_not] at h
  refine ⟨ρ, SV, hv, nd, tK_bind0 h fun d ρ1 v H1 SV1 e1 ⟨ed, q1⟩ h1 => ?_⟩
  subst ed
  exact h1 (!v) H1 SV1 e1 ⟨rfl, q1⟩
/-- a if c else b -/
theorem se_ite (hc : PT X c (tT C W c')) (ha : PE X a (tD C W a')) (hb : PE X b (tD C W b')) : PE X (.IfExp c a b pos) (tD C W (.ite c' a' b')) := by
  refine pemono (pe_ifExp hc ha hb) fun σ H Q h => ?_
  obtain ⟨ρ, SV, hv, nd, h⟩ := h
  have e : ev (.ite c' a' b') ρ = (evT c' ρ).bind fun t ρ => if t = true then ev a' ρ else ev b' ρ := by
    have e : ev (.ite c' a' b') ρ = (ev c' ρ).bind fun x ρ => (match truth x with | some true => ev a' ρ | some false => ev b' ρ | none => .bad) := rfl
    rw [e]
    unfold evT
    cases ev c' ρ with
    | bad => rfl
    | exc x ρ' => rfl
    | ok x ρ' =>
      show (match truth x with | some true => ev a' ρ' | some false => ev b' ρ' | none => .bad) = Out.bind (liftO (truth x) ρ') _
      cases truth x with
      | none => rfl
      | some t => cases t <;> rfl
  rw [e] at h
  have h : tK C W σ SV H (RD C.K SV H ρ (own a' && own b') (quiet c' && (quiet a' && quiet b'))) ((evT c' ρ).bind fun t ρ => if t = true then ev a' ρ else ev b' ρ) Q := h
  refine ⟨ρ, SV, hv, nd, tK_bind h fun d ρ1 v H1 SV1 e1 ⟨ed, q1⟩ h1 => ?_⟩
  subst ed
  cases v with
  | true =>
    rw [if_pos rfl] at h1 ⊢
    exact ⟨ρ1, SV1, e1.vars, e1.nd, tK_next e1 q1 (fun z => (Bool.and_eq_true_iff.mp z).1) (fun z => ⟨(Bool.and_eq_true_iff.mp z).1, (Bool.and_eq_true_iff.mp (Bool.and_eq_true_iff.mp z).2).1⟩) h1⟩
  | false =>
    rw [if_neg Bool.false_ne_true] at h1 ⊢
    exact ⟨ρ1, SV1, e1.vars, e1.nd, tK_next e1 q1 (fun z => (Bool.and_eq_true_iff.mp z).2) (fun z => ⟨(Bool.and_eq_true_iff.mp z).1, (Bool.and_eq_true_iff.mp (Bool.and_eq_true_iff.mp z).2).2⟩) h1⟩
theorem sw_and1 (ha : PT X a (tT C W a')) : PW X (.BoolOp .And [a] pos) (tT C W a') := pw_and1 ha
theorem sw_or1 (ha : PT X a (tT C W a')) : PW X (.BoolOp .Or [a] pos) (tT C W a') := pw_or1 ha
end
end Ly

namespace Ly
open PySem PySem.Spec L2
variable [Fns]
/-- arguments: values for those that are expressions, the names' own values for those that are handed over -/
inductive AR (K : PySem.W.Frag) (H : Hp) (σ : St) : Es → List D → List V → List Addr → Prop
  | nil : AR K H σ .nil [] [] []
  | cons {e : E} {es : Es} {d : D} {ds : List D} {v : V} {vs : List V} {S T : List Addr} : Rep K H d v S → AR K H σ es ds vs T → AR K H σ (.cons e es) (d :: ds) (v :: vs) (S ++ T)
  | io {i : Nat} {es : Es} {ds : List D} {v : V} {vs : List V} {T : List Addr} : σ[i]? = some (some v) → AR K H σ es ds vs T → AR K H σ (.io i es) (.non :: ds) (v :: vs) T
theorem AR.kp {K : PySem.W.Frag} {H H' : Hp} {σ : St} : ∀ {es : Es} {ds : List D} {vs : List V} {S : List Addr}, AR K H σ es ds vs S → Kp S H H' → AR K H' σ es ds vs S
  | _, _, _, _, .nil, _ => .nil
  | _, _, _, _, .cons r t, k => .cons (r.kp _ (k.sub fun a ha => List.mem_append_left _ ha)) (AR.kp t (k.sub fun a ha => List.mem_append_right _ ha))
  | _, _, _, _, .io e t, k => .io e (AR.kp t k)
theorem AR.owns {K : PySem.W.Frag} {H : Hp} {σ : St} : ∀ {es : Es} {ds : List D} {vs : List V} {S : List Addr}, AR K H σ es ds vs S → Owns H S
  | _, _, _, _, .nil => fun a ha => absurd ha List.not_mem_nil
  | _, _, _, _, .cons r t => (r.owns _).app (AR.owns t)
  | _, _, _, _, .io e t => AR.owns t
/-- no name is handed over -/
def plainEs : Es → Bool
  | .nil => true
  | .cons _ es => plainEs es
  | .io _ _ => false
theorem AR.reps {K : PySem.W.Frag} {H : Hp} {σ : St} : ∀ {es : Es} {ds : List D} {vs : List V} {S : List Addr}, AR K H σ es ds vs S → plainEs es = true → Reps K H ds vs S
  | _, _, _, _, .nil, _ => Reps.nil
  | _, _, _, _, .cons r t, p => Reps.cons r (AR.reps t p)
  | _, _, _, _, .io _ _, p => by cases p
structure ResA (K : PySem.W.Frag) (SV : List Addr) (H : Hp) (σ : St) (SV' : List Addr) (H' : Hp) (es : Es) (ds : List D) (vs : List V) (S : List Addr) : Prop where
  rep : AR K H' σ es ds vs S
  src : ∀ a ∈ S, a ∈ SV ∨ H a = none
  sep : (S ++ SV').Nodup
def RA (K : PySem.W.Frag) (SV : List Addr) (H : Hp) (σ : St) (ρ : Ev) (es : Es) (ds : List D) (ρ' : Ev) (SV' : List Addr) (H' : Hp) (vs : List V) : Prop := (∃ S, ResA K SV H σ SV' H' es ds vs S) ∧ (quiets es = true → Qt SV H ρ ρ' H' SV')
def tA (C : Cfg) (W : WX) (es : Es) : TA := fun σ H Q => ∃ ρ SV, Vars C.K H ρ σ SV ∧ SV.Nodup ∧ tK C W σ SV H (RA C.K SV H σ ρ es) (evs es ρ) Q
theorem pamono {X : Cx} {es : List Expr} {t t' : TA} (h : PA X es t) (k : ∀ σ H Q, t' σ H Q → t σ H Q) : PA X es t' := ⟨fun pos pins s σ H Q I q => h.run pos pins s σ H Q I (k σ H Q q)⟩
section
variable {X : Cx} {C : Cfg} {W : WX} {pos : Pos} {e : Expr} {es : List Expr} {e' : E} {es' : Es}
theorem sa_nil : PA X [] (tA C W .nil) := by
  refine pamono pa_nil fun σ H Q h => ?_
  obtain ⟨ρ, SV, hv, nd, h⟩ := h
  exact h [] H SV (.refl hv nd) ⟨⟨[], .nil, fun a ha => absurd ha List.not_mem_nil, nd⟩, fun _ => ⟨rfl, rfl, .refl⟩⟩
theorem ta_cons_read {σ : St} {H : Hp} {Q : List V → Hp → Prop} (ho : own e' = true) (h : tA C W (.cons e' es') σ H Q) : tCons (tD C W e') (tA C W es') σ H Q := by
  obtain ⟨ρ, SV, hv, nd, h⟩ := h
  have h : tK C W σ SV H (RA C.K SV H σ ρ (.cons e' es')) ((ev e' ρ).bind fun d ρ => (evs es' ρ).bind fun ds ρ => .ok (d :: ds) ρ) Q := h
  refine ⟨ρ, SV, hv, nd, tK_bind h fun d ρ1 v H1 SV1 e1 ⟨⟨S, r1⟩, q1⟩ h1 => ⟨ρ1, SV1, e1.vars, e1.nd, tK_bind0 h1 fun ds ρ2 vs H2 SV2 e2 ⟨⟨T, r2⟩, q2⟩ h2 => ?_⟩⟩
  have hsep := r1.sep ho
  have sep1 : ∀ a ∈ S, a ∉ SV1 := fun a ha hb => (List.nodup_append.mp hsep).2.2 a ha a hb rfl
  have kS : Kp S H1 H2 := e2.ext.kp e1.vars.owns sep1
  have ow := r1.rep.owns d
  have et := e1.trans e2
  refine h2 (v :: vs) H2 SV2 e2 ⟨et, ⟨S ++ T, .cons (r1.rep.kp d kS) r2.rep, fun a ha => ?_, ?_⟩, fun q => ?_⟩
  · rcases List.mem_append.mp ha with h | h
    · exact r1.src ho a h
    · exact src_trans e1 r2.src a h
  · rw [List.append_assoc]
    refine List.nodup_append.mpr ⟨(List.nodup_append.mp hsep).1, r2.sep, fun a ha b hb e => ?_⟩
    subst e
    have bad : ¬ (a ∈ SV1 ∨ H1 a = none) := fun z => by
      rcases z with z | z
      · exact sep1 a ha z
      · obtain ⟨o, eo, _⟩ := ow a ha
        rw [z] at eo
        cases eo
    rcases List.mem_append.mp hb with h | h
    · exact bad (r2.src a h)
    · exact bad (e2.src a h)
  · have q : (quiet e' && quiets es') = true := q
    rw [Bool.and_eq_true] at q
    exact (q1 q.1).trans (q2 q.2)
theorem sa_cons (ho : own e' = true) (ha : PE X e (tD C W e')) (hr : PA X es (tA C W es')) (hs : starEach (e :: es) X.env = (false, eval e X.env) :: starEach es X.env) : PA X (e :: es) (tA C W (.cons e' es')) := by
  exact pamono (pa_cons ha hr hs) fun σ H Q h => ta_cons_read ho h
theorem sa_io {i : Nat} {x : Str} (hN : X.N[i]? = some x) (hv : Vis X.env.scope x) (hd : (x == ("__debug__" : Str)) = false) (hcd : (x == ("__classdict__" : Str)) = false) (hr : PA X es (tA C W es'))
    (hs : starEach (.Name x pos :: es) X.env = (false, eval (.Name x pos) X.env) :: starEach es X.env) : PA X (.Name x pos :: es) (tA C W (.io i es')) := by
  refine pamono (pa_cons (pe_var hN hv hd hcd) hr hs) fun σ H Q h => ?_
  obtain ⟨ρ, SV, hv, nd, h⟩ := h
  have h : tK C W σ SV H (RA C.K SV H σ ρ (.io i es')) (match getV ρ i with | some _ => (evs es' ρ).bind fun ds ρ => .ok (.non :: ds) ρ | none => .bad) Q := h
  cases hg : getV ρ i with
  | none => rw [hg] at h; exact h.elim
  | some d =>
    rw [hg] at h
    obtain ⟨v, S, R, ev, _, _⟩ := var_at hv hg
    refine ⟨v, ev, ρ, SV, hv, nd, tK_bind0 h fun ds ρ2 vs H2 SV2 e2 ⟨⟨T, r2⟩, q2⟩ h2 => ?_⟩
    exact h2 (v :: vs) H2 SV2 e2 ⟨⟨T, .io ev r2.rep, r2.src, r2.sep⟩, q2⟩
/-! ### displays -/
theorem se_tup {k : Nat} (hp : plainEs es' = true) (h : PA X es (tA C W es')) : PE X (.Tuple es k pos) (tD C W (.tup es')) := by
  refine pemono (pe_tup h) fun σ H Q h => ?_
  obtain ⟨ρ, SV, hv, nd, h⟩ := h
  have h : tK C W σ SV H (RD C.K SV H ρ true (quiets es')) ((evs es' ρ).bind fun ds ρ => if ds.all frzD = true ∧ ds.length ≤ lim then .ok (.tup ds) ρ else .bad) Q := h
  refine ⟨ρ, SV, hv, nd, tK_bind0 h fun ds ρ1 vs H1 SV1 e1 ⟨⟨S, r1⟩, q1⟩ h1 => ?_⟩
  by_cases hc : ds.all frzD = true ∧ ds.length ≤ lim
  · rw [if_pos hc] at h1
    have r := r1.rep.reps hp
    have := r.frz hc.1
    subst this
    refine ⟨by rw [← lim_eq, ← r.length]; exact hc.2, kTup (K := C.K) (fun w H' S' x rep nd' new => ?_) r⟩
    have en := e1.ext0 x
    obtain ⟨f1, f2⟩ := fresh_sep e1 nd' new
    exact h1 w H' SV1 (e1.trans en) ⟨⟨S', rep, (fun _ => f1), (fun _ => f2)⟩, fun q => (q1 q).ext x⟩
  · rw [if_neg hc] at h1
    exact h1.elim
theorem se_lst (hp : plainEs es' = true) (h : PA X es (tA C W es')) : PE X (.List es pos) (tD C W (.lst es')) := by
  refine pemono (pe_lst h) fun σ H Q h => ?_
  obtain ⟨ρ, SV, hv, nd, h⟩ := h
  have h : tK C W σ SV H (RD C.K SV H ρ true (quiets es')) ((evs es' ρ).bind fun ds ρ => if ds.length ≤ lim then .ok (.lst true ds) ρ else .bad) Q := h
  refine ⟨ρ, SV, hv, nd, tK_bind0 h fun ds ρ1 vs H1 SV1 e1 ⟨⟨S, r1⟩, q1⟩ h1 => ?_⟩
  by_cases hc : ds.length ≤ lim
  · rw [if_pos hc] at h1
    have r := r1.rep.reps hp
    refine ⟨by rw [← lim_eq, ← r.length]; exact hc, fun p hp => ?_⟩
    have x : Ext [] H1 (upd H1 p (.lst vs)) := Ext.new hp
    have en := e1.ext0 x
    have pS : p ∉ S := fun z => by
      obtain ⟨o, eo, _⟩ := r.owns ds p z
      rw [hp] at eo
      cases eo
    have pV : p ∉ SV1 := fun z => by
      obtain ⟨o, eo, _⟩ := e1.vars.owns p z
      rw [hp] at eo
      cases eo
    refine h1 (.ref p) _ SV1 (e1.trans en) ⟨⟨p :: S, ⟨p, vs, S, rfl, upd_same, r.kp ds (x.all _), rfl⟩, (fun _ a ha => ?_), (fun _ => ?_)⟩, fun q => (q1 q).ext x⟩
    · rcases List.mem_cons.mp ha with e | h
      · subst e
        exact src_trans e1 (S := [a]) (fun b hb => .inr (by rw [show b = a by simpa using hb]; exact hp)) a (by simp)
      · exact r1.src a h
    · rw [List.cons_append]
      exact List.nodup_cons.mpr ⟨fun z => (List.mem_append.mp z).elim pS pV, r1.sep⟩
  · rw [if_neg hc] at h1
    exact h1.elim

/-! ### one-argument built-ins -/
def rC1 (K : PySem.W.Frag) (g : D → Option D) : List V → Hp → VK → Prop := fun xs H Q => ∃ x, xs = [x] ∧ rD1 K g x H Q
theorem tD_c1 {o : O1} {a' : E} {σ : St} {H : Hp} {Q : VK} (h : tD C W (.o1 o a') σ H Q) : tCB (rC1 C.K o.sem) (tCons (tD C W a') tNil) σ H Q := by
  obtain ⟨ρ, SV, hv, nd, h⟩ := tD_o1 h
  refine ⟨ρ, SV, hv, nd, ?_⟩
  cases m : ev a' ρ with
  | bad => rw [m] at h; exact h
  | exc x ρ' => rw [m] at h; exact h
  | ok d ρ1 => rw [m] at h; exact fun v H1 SV1 e1 r1 => ⟨v, rfl, h v H1 SV1 e1 r1⟩
theorem se_cb {a : Expr} {a' : E} {o : O1} {x : Str} {id : String} {p : Pos} (hK : X.K = C.K) (hc : CallR X (.builtin id) (rC1 X.K o.sem)) (hg : Gl X x) (hm : X.mg x = none) (hv : bootBuiltins x = some (.builtin id)) (ha : PE X a (tD C W a')) (hn : x ≠ "__name__") (hdb : (x == ("__debug__" : Str)) = false)
    (he : starEach [a] X.env = (false, eval a X.env) :: starEach [] X.env) : PE X (.Call (.Name x p) [a] [] pos) (tD C W (.o1 o a')) :=
  pemono (pe_callB (by rw [← hK]; exact hc : CallR X (.builtin id) (rC1 C.K o.sem)) hg hm hv (pa_cons ha pa_nil he) hn hdb he) fun _ _ _ h => tD_c1 h
theorem se_ct {a : Expr} {a' : E} {o : O1} {x : Str} {T : String} {p : Pos} (hK : X.K = C.K) (hc : CallR X (.type T) (rC1 X.K o.sem)) (hg : Gl X x) (hm : X.mg x = none) (hv : bootBuiltins x = some (.type T)) (ha : PE X a (tD C W a')) (hn : x ≠ "__name__") (hdb : (x == ("__debug__" : Str)) = false)
    (he : starEach [a] X.env = (false, eval a X.env) :: starEach [] X.env) : PE X (.Call (.Name x p) [a] [] pos) (tD C W (.o1 o a')) :=
  pemono (pe_callTy (by rw [← hK]; exact hc : CallR X (.type T) (rC1 C.K o.sem)) hg hm hv (pa_cons ha pa_nil he) hn hdb he) fun _ _ _ h => tD_c1 h
end

/-! ### a def's promise -/
def AF (K : PySem.W.Frag) (H : Hp) : List Bool → List D → List V → List Addr → Prop
  | [], [], [], S => S = []
  | io :: r, d :: ds, v :: vs, S => ∃ S1 S2, Rep K H d v S1 ∧ (io = false → S1 = []) ∧ AF K H r ds vs S2 ∧ S = S1 ++ S2
  | _, _, _, _ => False
def OF (K : PySem.W.Frag) (H : Hp) : List Bool → List D → List V → List Addr → Prop
  | [], [], [], S => S = []
  | false :: r, os, _ :: vs, S => OF K H r os vs S
  | true :: r, o :: os, v :: vs, S => ∃ S1 S2, Rep K H o v S1 ∧ OF K H r os vs S2 ∧ S = S1 ++ S2
  | _, _, _, _ => False
def spD (C : Cfg) (io : List Bool) (sem : FSem) : Sp := fun vs H Q E => ∃ ds S, AF C.K H io ds vs S ∧ S.Nodup ∧
  match sem ds with
  | .ret d outs => ∀ v H' T U, Ext S H H' → Rep C.K H' d v T → OF C.K H' io outs vs U → (T ++ U).Nodup → (∀ a ∈ T ++ U, a ∈ S ∨ H a = none) → Q v H'
  | .exc x outs => ∀ cls dd H' U, Ext S H H' → OF C.K H' io outs vs U → U.Nodup → (∀ a ∈ U, a ∈ S ∨ H a = none) → C.ER x cls dd H' → E cls dd H'
  | .bad => False
theorem AF.length {K : PySem.W.Frag} {H : Hp} : ∀ {io : List Bool} {ds : List D} {vs : List V} {S : List Addr}, AF K H io ds vs S → vs.length = io.length
  | [], [], [], _, _ => rfl
  | _ :: _, _ :: _, _ :: _, _, h => by
    obtain ⟨S1, S2, _, _, h, _⟩ := h
    exact congrArg (· + 1) (AF.length h)
  | [], [], _ :: _, _, h => h.elim
  | [], _ :: _, _, _, h => h.elim
  | _ :: _, [], _, _, h => h.elim
  | _ :: _, _ :: _, [], _, h => h.elim
theorem AF.owns {K : PySem.W.Frag} {H : Hp} : ∀ {io : List Bool} {ds : List D} {vs : List V} {S : List Addr}, AF K H io ds vs S → Owns H S
  | [], [], [], _, h => by
    have h : _ = [] := h
    subst h
    exact fun a ha => absurd ha List.not_mem_nil
  | _ :: _, _ :: _, _ :: _, _, h => by
    obtain ⟨S1, S2, r, _, h, rfl⟩ := h
    exact (r.owns _).app (AF.owns h)
  | [], [], _ :: _, _, h => h.elim
  | [], _ :: _, _, _, h => h.elim
  | _ :: _, [], _, _, h => h.elim
  | _ :: _, _ :: _, [], _, h => h.elim

/-! ### the names handed over -/
def align : List (Option Nat) → Es → Bool
  | [], .nil => true
  | none :: r, .cons _ es => align r es
  | some i :: r, .io j es => i == j && align r es
  | _, _ => false
def ios (slots : List (Option Nat)) : List Nat := slots.filterMap id
theorem wb_set : ∀ {slots : List (Option Nat)} {os : List D} {ρ : Ev} {i : Nat} {x : Option D}, i ∉ ios slots → wb slots os (ρ.set i x) = (wb slots os ρ).map fun ρ' => ρ'.set i x
  | [], [], _, _, _, _ => rfl
  | [], _ :: _, _, _, _, _ => rfl
  | none :: r, os, ρ, i, x, h => wb_set (slots := r) (os := os) h
  | some j :: r, [], _, _, _, _ => rfl
  | some j :: r, o :: os, ρ, i, x, h => by
    have h1 : i ≠ j := fun e => h (by simp [ios, e])
    have h2 : i ∉ ios r := fun e => h (by simp [ios] at e ⊢; exact .inr e)
    show wb r os ((ρ.set i x).set j (some o)) = (wb r os (ρ.set j (some o))).map fun ρ' => ρ'.set i x
    rw [List.set_comm _ _ h1]
    exact wb_set h2
theorem fill_set : ∀ {slots : List (Option Nat)} {ds : List D} {ρ : Ev} {i : Nat} {x : Option D}, i ∉ ios slots → fill slots ds (ρ.set i x) = fill slots ds ρ
  | [], [], _, _, _, _ => rfl
  | [], _ :: _, _, _, _, _ => rfl
  | none :: r, [], _, _, _, _ => rfl
  | none :: r, d :: ds, ρ, i, x, h => by
    show (if frzD d = true then _ else _) = (if frzD d = true then _ else _)
    rw [fill_set (slots := r) (ds := ds) (show i ∉ ios r from h)]
  | some j :: r, [], _, _, _, _ => rfl
  | some j :: r, d :: ds, ρ, i, x, h => by
    have h1 : i ≠ j := fun e => h (by simp [ios, e])
    have h2 : i ∉ ios r := fun e => h (by simp [ios] at e ⊢; exact .inr e)
    have e : getV (ρ.set i x) j = getV ρ j := by
      unfold getV
      rw [List.getD_eq_getElem?_getD, List.getD_eq_getElem?_getD, List.getElem?_set_ne h1]
    show (match getV (ρ.set i x) j, fill r ds (ρ.set i x) with | some d, some l => some (d :: l) | _, _ => none) = (match getV ρ j, fill r ds ρ with | some d, some l => some (d :: l) | _, _ => none)
    rw [e, fill_set h2]
theorem call_args {K : PySem.W.Frag} {H : Hp} {σ : St} : ∀ {slots : List (Option Nat)} {es : Es} {ds ds' : List D} {vs : List V} {S SV : List Addr} {ρ : Ev}, AR K H σ es ds vs S → align slots es = true → (ios slots).Nodup → fill slots ds ρ = some ds' → Vars K H ρ σ SV →
    ∃ T R, AF K H (slots.map (·.isSome)) ds' vs T ∧ SV.Perm (T ++ R) ∧ S = [] ∧ ∀ H' outs U, Kp R H H' → OF K H' (slots.map (·.isSome)) outs vs U → ∃ ρ' SV', wb slots outs ρ = some ρ' ∧ Vars K H' ρ' σ SV' ∧ SV'.Perm (U ++ R)
  | [], _, _, _, _, _, SV, ρ, .nil, _, _, hf, hv => by
    cases hf
    refine ⟨[], SV, rfl, .refl _, rfl, fun H' outs U k h => ?_⟩
    cases outs with
    | nil =>
      have h : U = [] := h
      subst h
      exact ⟨ρ, SV, rfl, hv.kp k, .refl _⟩
    | cons _ _ => exact h.elim
  | none :: r, _, _, _, _, _, SV, ρ, @AR.cons _ _ _ e es d ds v vs S T rd t, ha, hn, hf, hv => by
    have hf : (if frzD d = true then (match fill r ds ρ with | some l => some (d :: l) | none => none) else none) = some _ := hf
    split at hf
    · rename_i hz
      cases hfl : fill r ds ρ with
      | none => rw [hfl] at hf; cases hf
      | some l =>
        rw [hfl] at hf
        cases hf
        obtain ⟨T', R, a1, a2, a3, a4⟩ := call_args t ha hn hfl hv
        have := rd.frz hz
        subst this a3
        exact ⟨T', R, ⟨[], T', rd, fun _ => rfl, a1, rfl⟩, a2, rfl, a4⟩
    · cases hf
  | some i :: r, _, _, _, _, _, SV, ρ, @AR.io _ _ _ j es ds v vs T hs t, ha, hn, hf, hv => by
    have ha : (i == j && align r es) = true := ha
    rw [Bool.and_eq_true] at ha
    have hij : i = j := by simpa using ha.1
    subst hij
    have hn : (i :: ios r).Nodup := hn
    obtain ⟨hi, hn⟩ := List.nodup_cons.mp hn
    have hf : (match getV ρ i, fill r ds ρ with | some d, some l => some (d :: l) | _, _ => none) = some _ := hf
    cases hg : getV ρ i with
    | none => rw [hg] at hf; cases hf
    | some d =>
      cases hfl : fill r ds ρ with
      | none => rw [hg, hfl] at hf; cases hf
      | some l =>
        rw [hg, hfl] at hf
        cases hf
        obtain ⟨v', S1, R1, e1, e2, f⟩ := var_at hv hg
        rw [hs] at e1
        cases e1
        obtain ⟨SV2, v2, p2⟩ := f.out H σ .refl (fun _ _ => rfl) rfl
        obtain ⟨T', R, a1, a2, a3, a4⟩ := call_args t ha.2 hn ((fill_set hi).trans hfl) v2
        refine ⟨S1 ++ T', R, ⟨S1, T', e2, (fun z => by cases z), a1, rfl⟩, ?_, a3, fun H' outs U k h => ?_⟩
        · refine f.perm.trans ?_
          rw [List.append_assoc]
          exact (p2.symm.trans a2).append_left S1
        · cases outs with
          | nil => exact h.elim
          | cons o os =>
            obtain ⟨U1, U2, h1, h2, rfl⟩ := h
            obtain ⟨ρ', SV', b1, b2, b3⟩ := a4 H' os U2 k h2
            have hlen : i < ρ'.length := by
              have l1 := b2.length
              have l2 := hv.length
              have := (getV_some hg).2
              omega
            rw [wb_set hi] at b1
            cases hw : wb r os ρ with
            | none => rw [hw] at b1; cases b1
            | some ρ2 =>
              rw [hw] at b1
              cases b1
              obtain ⟨S3, R3, f3⟩ := b2.foc i hlen
              have n3 : S3 = [] := f3.nil (by rw [List.getElem?_set_self (by simpa using hlen)])
              subst n3
              obtain ⟨SV4, c1, c2⟩ := f3.set H' o v U1 .refl h1
              rw [List.set_set, set_same hs] at c1
              refine ⟨_, SV4, by rw [show wb (some i :: r) (o :: os) ρ = wb r os (ρ.set i (some o)) from rfl, wb_set hi, hw]; rfl, c1, c2.trans ?_⟩
              rw [List.append_assoc]
              exact (f3.perm.symm.trans b3).append_left U1
  | [], _, _, _, _, _, _, _, .cons _ _, ha, _, _, _ => by cases ha
  | [], _, _, _, _, _, _, _, .io _ _, ha, _, _, _ => by cases ha
  | none :: _, _, _, _, _, _, _, _, .nil, ha, _, _, _ => by cases ha
  | none :: _, _, _, _, _, _, _, _, .io _ _, ha, _, _, _ => by cases ha
  | some _ :: _, _, _, _, _, _, _, _, .nil, ha, _, _, _ => by cases ha
  | some _ :: _, _, _, _, _, _, _, _, .cons _ _, ha, _, _, _ => by cases ha
end Ly

namespace Ly
open PySem PySem.Spec L2
variable [Fns]
theorem AF_no {K : PySem.W.Frag} {H : Hp} : ∀ {slots : List (Option Nat)} {ds : List D} {vs : List V} {T : List Addr}, slots.all (·.isNone) = true → AF K H (slots.map (·.isSome)) ds vs T → T = []
  | [], [], [], _, _, h => h
  | none :: r, _ :: _, _ :: _, _, hs, h => by
    obtain ⟨S1, S2, _, e1, h, rfl⟩ := h
    rw [e1 rfl, AF_no (slots := r) (by simpa using hs) h]
    rfl
  | some _ :: _, _, _, _, hs, _ => by simp at hs
  | [], [], _ :: _, _, _, h => h.elim
  | [], _ :: _, _, _, _, h => h.elim
  | none :: _, [], _, _, _, h => h.elim
  | none :: _, _ :: _, [], _, _, h => h.elim
theorem OF_no {K : PySem.W.Frag} {H : Hp} : ∀ {slots : List (Option Nat)} {os : List D} {vs : List V} {T : List Addr} {ρ ρ' : Ev}, slots.all (·.isNone) = true → OF K H (slots.map (·.isSome)) os vs T → wb slots os ρ = some ρ' → T = [] ∧ ρ' = ρ
  | [], [], [], _, _, _, _, h, e => ⟨h, by cases e; rfl⟩
  | none :: r, os, _ :: vs, _, ρ, ρ', hs, h, e => OF_no (slots := r) (os := os) (vs := vs) (by simpa using hs) h e
  | some _ :: _, _, _, _, _, _, hs, _, _ => by simp at hs
  | [], [], _ :: _, _, _, _, _, h, _ => h.elim
  | [], _ :: _, _, _, _, _, _, h, _ => h.elim
  | none :: _, [], [], _, _, _, _, h, _ => h.elim
  | none :: _, _ :: _, [], _, _, _, _, h, _ => h.elim
section
variable {X : Cx} {C : Cfg} {W : WX} {pos : Pos} {e : Expr} {es : List Expr} {es' : Es}
/-- a def that may be called here, by its name -/
def FnG (C : Cfg) (X : Cx) (k : Nat) (x : Str) (io : List Bool) (sem : FSem) : Prop :=
  ∃ (f : Addr) (fd : FuncData) (ps : List Str), X.mg x = some (.ref f) ∧ FnOk X.prog X.w X.K X.mg X.base (L2.CX X.prog X.w) k f fd ps (spD C io sem) ∧ PySem.W.keepIn X.K (.ref f) = true ∧ Binds X.K fd ps []
theorem call_post {K : PySem.W.Frag} {SV SV1 SV' T R U : List Addr} {H H1 H' : Hp} {σ : St} {ρ1 ρ' : Ev} (e1 : EnvP K SV H σ ρ1 H1 SV1) (p : SV1.Perm (T ++ R)) (x : Ext T H1 H') (src : ∀ a ∈ U, a ∈ T ∨ H1 a = none) (nd : U.Nodup) (v : Vars K H' ρ' σ SV') (p' : SV'.Perm (U ++ R)) :
    EnvP K SV1 H1 σ ρ' H' SV' := by
  have ndp := p.nodup_iff.mp e1.nd
  have ow : Owns H1 SV1 := e1.vars.owns
  refine ⟨v, p'.nodup_iff.mpr (List.nodup_append.mpr ⟨nd, (List.nodup_append.mp ndp).2.1, fun a ha b hb e => ?_⟩), fun a ha => ?_, fun a o e hs => x a o e fun z => hs (p.mem_iff.mpr (List.mem_append_left _ z))⟩
  · subst e
    rcases src a ha with z | z
    · exact (List.nodup_append.mp ndp).2.2 a z a hb rfl
    · obtain ⟨o, eo, _⟩ := ow a (p.mem_iff.mpr (List.mem_append_right _ hb))
      rw [z] at eo
      cases eo
  · rcases List.mem_append.mp (p'.mem_iff.mp ha) with h | h
    · exact (src a h).imp (fun z => p.mem_iff.mpr (List.mem_append_left _ z)) id
    · exact .inl (p.mem_iff.mpr (List.mem_append_right _ h))
theorem sp_call {slots : List (Option Nat)} {sem : FSem} {SV SV1 S : List Addr} {H H1 : Hp} {σ : St} {ρ ρ1 : Ev} {ds : List D} {vs : List V} {Q : VK} (hal : align slots es' = true) (hnd : (ios slots).Nodup) (e1 : EnvP C.K SV H σ ρ1 H1 SV1) (r1 : ResA C.K SV H σ SV1 H1 es' ds vs S) (q1 : quiets es' = true → Qt SV H ρ ρ1 H1 SV1)
    (h : tK C W σ SV H (RD C.K SV H ρ true (slots.all (·.isNone) && quiets es')) (callOut slots sem ds ρ1) Q) : spD C (slots.map (·.isSome)) sem vs H1 Q (WE W σ) := by
  cases hf : fill slots ds ρ1 with
  | none =>
    unfold callOut at h
    rw [hf] at h
    exact h.elim
  | some ds' =>
    obtain ⟨T, R, a1, a2, a3, a4⟩ := call_args r1.rep hal hnd hf e1.vars
    have ndp := a2.nodup_iff.mp e1.nd
    have kR : ∀ {H' : Hp}, Ext T H1 H' → Kp R H1 H' := fun x => x.kp a1.owns fun a ha hb => (List.nodup_append.mp ndp).2.2 a hb a ha rfl
    refine ⟨ds', T, a1, (List.nodup_append.mp ndp).1, ?_⟩
    have h : tK C W σ SV H (RD C.K SV H ρ true (slots.all (·.isNone) && quiets es')) (match sem ds' with
      | .ret d outs => (match wb slots outs ρ1 with
        | some ρ' => .ok d ρ'
        | none => .bad)
      | .exc x outs => (match wb slots outs ρ1 with
        | some ρ' => .exc x ρ'
        | none => .bad)
      | .bad => .bad) Q := by
      unfold callOut at h
      rw [hf] at h
      exact h
    cases hs : sem ds' with
    | bad =>
      rw [hs] at h
      exact h
    | exc x outs =>
      rw [hs] at h
      intro cls dd H' U xt hO nd src er
      obtain ⟨ρ', SV', w1, v', p'⟩ := a4 H' outs U (kR xt) hO
      have h : tK C W σ SV H (RD C.K SV H ρ true (slots.all (·.isNone) && quiets es')) (match wb slots outs ρ1 with | some ρ' => .exc x ρ' | none => .bad) Q := h
      rw [w1] at h
      exact h cls dd H' SV' (e1.trans (call_post e1 a2 xt src nd v' p')) er
    | ret d outs =>
      rw [hs] at h
      intro v H' T' U xt rep hO nd src
      obtain ⟨ρ', SV', w1, v', p'⟩ := a4 H' outs U (kR xt) hO
      have h9 : tK C W σ SV H (RD C.K SV H ρ true (slots.all (·.isNone) && quiets es')) (match wb slots outs ρ1 with | some ρ' => .ok d ρ' | none => .bad) Q := h
      rw [w1] at h9
      obtain ⟨n1, n2, n3⟩ := List.nodup_append.mp nd
      have srcT : ∀ a ∈ T', a ∈ SV1 ∨ H1 a = none := fun a ha => (src a (List.mem_append_left _ ha)).imp (fun z => a2.mem_iff.mpr (List.mem_append_left _ z)) id
      by_cases hq : slots.all (·.isNone) = true
      · obtain ⟨rfl, rfl⟩ := OF_no hq hO w1
        have := AF_no hq a1
        subst this
        have en := e1.ext0 xt
        have fr : ∀ a ∈ T', H1 a = none := fun a ha => by
          rcases src a (List.mem_append_left _ ha) with z | z
          · exact absurd z List.not_mem_nil
          · exact z
        obtain ⟨f1, f2⟩ := fresh_sep e1 n1 fr
        exact h9 v H' SV1 (e1.trans en) ⟨⟨T', rep, (fun _ => f1), (fun _ => f2)⟩, fun q => (q1 (Bool.and_eq_true_iff.mp q).2).ext xt⟩
      · have cp := call_post e1 a2 xt (fun a ha => src a (List.mem_append_right _ ha)) n2 v' p'
        refine h9 v H' SV' (e1.trans cp) ⟨⟨T', rep, (fun _ => src_trans e1 srcT), (fun _ => ?_)⟩, fun q => absurd (Bool.and_eq_true_iff.mp q).1 hq⟩
        refine List.nodup_append.mpr ⟨n1, cp.nd, fun a ha b hb e => ?_⟩
        subst e
        rcases List.mem_append.mp (p'.mem_iff.mp hb) with z | z
        · exact n3 a ha a z rfl
        · rcases src a (List.mem_append_left _ ha) with y | y
          · exact (List.nodup_append.mp ndp).2.2 a y a z rfl
          · obtain ⟨o, eo, _⟩ := e1.vars.owns a (a2.mem_iff.mpr (List.mem_append_right _ z))
            rw [y] at eo
            cases eo
theorem se_call {slots : List (Option Nat)} {j k : Nat} {x : Str} {p : Pos} (tk : Takes X W) (G : FnG C X k x (slots.map (·.isSome)) (Fns.F j)) (hr : Room k X.A) (hg : Gl X x) (hal : align slots es' = true) (hnd : (ios slots).Nodup) (ha : PA X (e :: es) (tA C W es')) (hdb : (x == ("__debug__" : Str)) = false)
    (he : starEach (e :: es) X.env = (false, eval e X.env) :: starEach es X.env) (hpl : (backTo pos (starEach es X.env)).any (·.1) = false) : PE X (.Call (.Name x p) (e :: es) [] pos) (tD C W (.call slots j es')) := by
  obtain ⟨f, fd, ps, hm, F, hk, hb⟩ := G
  refine pemono (pe_callS F hr hg hm hk hb (fun σ => passAt tk σ) ha hdb he hpl) fun σ H Q h => ?_
  obtain ⟨ρ, SV, hv, nd, h⟩ := h
  have h : tK C W σ SV H (RD C.K SV H ρ true (slots.all (·.isNone) && quiets es')) ((evs es' ρ).bind fun ds ρ => callOut slots (Fns.F j) ds ρ) Q := h
  exact ⟨ρ, SV, hv, nd, tK_bind0 h fun ds ρ1 vs H1 SV1 e1 ⟨⟨S, r1⟩, q1⟩ h1 => sp_call hal hnd e1 r1 q1 h1⟩
end
end Ly

namespace Ly
open PySem PySem.Spec L2
variable [Fns]
section
variable {X : Cx}
theorem cd_len : CallR X (.builtin "len") (rC1 X.K O1.len.sem) := by
  intro pins s σ H xs us Q I rx h
  obtain ⟨x, rfl, d, z, S, r, hz, k⟩ := h
  cases d with
  | tup ds =>
    cases hz
    obtain ⟨_, a, vs, rfl, q, r⟩ := r
    exact call_len_seq pins s σ H _ us Q I rx ⟨a, vs, rfl, .inr q, by rw [← r.length]; exact kInt k⟩
  | lst o ds =>
    cases hz
    obtain ⟨a, vs, T, rfl, q, r, _⟩ := lst_sq r
    exact call_len_seq pins s σ H _ us Q I rx ⟨a, vs, rfl, .inl (.inl q), by rw [← r.length]; exact kInt k⟩
  | scr ns =>
    cases hz
    obtain ⟨_, a, rfl, q⟩ := r
    exact call_len_seq pins s σ H _ us Q I rx ⟨a, _, rfl, .inl q.sq, by rw [List.length_map]; exact kInt k⟩
  | str y =>
    change (if y.length ≤ lim then some (D.int y.length) else none) = some z at hz
    split at hz
    · rename_i hc
      cases hz
      exact call_len_str pins s σ H _ us Q I rx ⟨y, by rw [r.1], by rw [← lim_eq]; exact hc, kInt k⟩
    · cases hz
  | dk o ks ds =>
    cases o with
    | false => cases hz
    | true =>
      cases hz
      obtain ⟨a, vs, S', rfl, q, l, r, _⟩ := r
      exact call_lenD pins s σ H _ us Q I rx ⟨a, _, rfl, q, by rw [List.length_zip, ← l, Nat.min_self]; exact kInt k⟩
  | _ => cases hz
theorem kids_some {d : D} {xs : List D} (h : kids d = some xs) : d = .tup xs ∨ ∃ o, d = .lst o xs ∧ (o = false ∨ xs.all frzD = true) := by
  cases d with
  | tup ys => cases h; exact .inl rfl
  | lst o ys =>
    cases o with
    | false => cases h; exact .inr ⟨_, rfl, .inl rfl⟩
    | true =>
      change (if ys.all frzD = true then some ys else none) = some xs at h
      split at h
      · rename_i hc; cases h; exact .inr ⟨_, rfl, .inr hc⟩
      · cases h
  | _ => cases h
theorem cd_tuple : CallR X (.type "tuple") (rC1 X.K O1.tuple.sem) := by
  intro pins s σ H xs us Q I rx h
  obtain ⟨x, rfl, d, z, S, r, hz, k⟩ := h
  change (match kids d with | some xs => some (D.tup xs) | none => none) = some z at hz
  cases hk : kids d with
  | none => rw [hk] at hz; cases hz
  | some ds =>
    rw [hk] at hz
    cases hz
    rcases kids_some hk with rfl | ⟨o, rfl, hc⟩
    · obtain ⟨_, a, vs, rfl, q, r⟩ := r
      exact call_tuple_of pins s σ H _ us Q I rx ⟨a, vs, rfl, .inr ⟨q, k0 k ⟨rfl, a, vs, rfl, q, r⟩⟩⟩
    · obtain ⟨a, vs, T, rfl, q, r, f⟩ := lst_sq r
      have := f hc
      subst this
      exact call_tuple_of pins s σ H _ us Q I rx ⟨a, vs, rfl, .inl ⟨.inl q, kTup k r⟩⟩
theorem cd_list : CallR X (.type "list") (rC1 X.K O1.list.sem) := by
  intro pins s σ H xs us Q I rx h
  obtain ⟨x, rfl, d, z, S, r, hz, k⟩ := h
  change (match kids d with | some xs => some (D.lst true xs) | none => none) = some z at hz
  cases hk : kids d with
  | none => rw [hk] at hz; cases hz
  | some ds =>
    rw [hk] at hz
    cases hz
    rcases kids_some hk with rfl | ⟨o, rfl, hc⟩
    · obtain ⟨_, a, vs, rfl, q, r⟩ := r
      exact call_list_of pins s σ H _ us Q I rx ⟨a, vs, rfl, .inr q, kLst k r⟩
    · obtain ⟨a, vs, T, rfl, q, r, f⟩ := lst_sq r
      have := f hc
      subst this
      exact call_list_of pins s σ H _ us Q I rx ⟨a, vs, rfl, .inl (.inl q), kLst k r⟩
theorem cd_int : CallR X (.type "int") (rC1 X.K O1.int.sem) := by
  intro pins s σ H xs us Q I rx h
  obtain ⟨x, rfl, d, z, S, r, hz, k⟩ := h
  cases d with
  | int i => cases hz; exact call_int1 pins s σ H _ us Q I rx (.inl ⟨i, by rw [r.1], kInt k⟩)
  | bl b => cases hz; exact call_int1 pins s σ H _ us Q I rx (.inr ⟨b, by rw [r.1], kInt k⟩)
  | _ => cases hz
theorem cd_abs : CallR X (.builtin "abs") (rC1 X.K O1.abs.sem) := by
  intro pins s σ H xs us Q I rx h
  obtain ⟨x, rfl, d, z, S, r, hz, k⟩ := h
  cases d with
  | int i => cases hz; exact call_abs pins s σ H _ us Q I rx ⟨i, by rw [r.1], kInt k⟩
  | _ => cases hz
theorem cd_str : CallR X (.type "str") (rC1 X.K O1.str.sem) := by
  intro pins s σ H xs us Q I rx h
  obtain ⟨x, rfl, d, z, S, r, hz, k⟩ := h
  cases d with
  | int i =>
    change (if -1000000000000000000 < i ∧ i < 1000000000000000000 then some (D.str (toString i)) else none) = some z at hz
    split at hz
    · rename_i hc
      cases hz
      refine call_str_int pins s σ H _ us Q I rx ⟨i, by rw [r.1], ?_, kStr k⟩
      have : i.natAbs.log2 < 64 := PySem.Flt.log2_lt_of (k := 64) (by decide) (by omega)
      omega
    · cases hz
  | _ => cases hz
theorem ints_rep {K : PySem.W.Frag} {H : Hp} : ∀ {ds : List D} {vs : List V} {S : List Addr} {r : List Int}, Reps K H ds vs S → ints? ds = some r → vs = r.map V.int
  | [], _, _, _, h, e => by
    obtain ⟨rfl, _⟩ := h
    cases e
    rfl
  | d :: ds, _, _, r, h, e => by
    obtain ⟨v, t, S1, S2, rfl, q1, q2, rfl⟩ := h
    cases d with
    | int i =>
      change (match ints? ds with | some r => some (i :: r) | none => none) = some r at e
      cases hi : ints? ds with
      | none => rw [hi] at e; cases e
      | some l =>
        rw [hi] at e
        cases e
        rw [ints_rep q2 hi, q1.1]
        rfl
    | _ => cases e
theorem cd_sum (hc : X.calm = true) : CallR X (.builtin "sum") (rC1 X.K O1.sum.sem) := by
  intro pins s σ H xs us Q I rx h
  obtain ⟨x, rfl, d, z, S, r, hz, k⟩ := h
  cases d with
  | lst o ds =>
    change (match ints? ds with | some r => some (D.int r.sum) | none => none) = some z at hz
    cases hi : ints? ds with
    | none => rw [hi] at hz; cases hz
    | some l =>
      rw [hi] at hz
      cases hz
      obtain ⟨a, vs, T, rfl, q, r, _⟩ := lst_sq r
      have := ints_rep r hi
      subst this
      exact cr_sum hc pins s σ H _ us Q I rx ⟨a, l, rfl, .inl q, kInt k⟩
  | _ => cases hz
theorem foldl_min (i : Int) : ∀ r : List Int, r.foldl min i ∈ i :: r ∧ ∀ y ∈ i :: r, r.foldl min i ≤ y := fun r => by
  induction r generalizing i with
  | nil => simp
  | cons j r ih =>
    obtain ⟨h1, h2⟩ := ih (min i j)
    rw [List.foldl_cons]
    refine ⟨?_, fun y hy => ?_⟩
    · rcases List.mem_cons.mp h1 with h | h
      · rw [h]
        by_cases c : i ≤ j
        · rw [Int.min_def, if_pos c]; simp
        · rw [Int.min_def, if_neg c]; simp
      · exact List.mem_cons_of_mem _ (List.mem_cons_of_mem _ h)
    · have hm := h2 (min i j) List.mem_cons_self
      rcases List.mem_cons.mp hy with h | h
      · omega
      · rcases List.mem_cons.mp h with h | h
        · omega
        · exact h2 y (List.mem_cons_of_mem _ h)
theorem foldl_max (i : Int) : ∀ r : List Int, r.foldl max i ∈ i :: r ∧ ∀ y ∈ i :: r, y ≤ r.foldl max i := fun r => by
  induction r generalizing i with
  | nil => simp
  | cons j r ih =>
    obtain ⟨h1, h2⟩ := ih (max i j)
    rw [List.foldl_cons]
    refine ⟨?_, fun y hy => ?_⟩
    · rcases List.mem_cons.mp h1 with h | h
      · rw [h]
        by_cases c : i ≤ j
        · rw [Int.max_def, if_pos c]; simp
        · rw [Int.max_def, if_neg c]; simp
      · exact List.mem_cons_of_mem _ (List.mem_cons_of_mem _ h)
    · have hm := h2 (max i j) List.mem_cons_self
      rcases List.mem_cons.mp hy with h | h
      · omega
      · rcases List.mem_cons.mp h with h | h
        · omega
        · exact h2 y (List.mem_cons_of_mem _ h)
theorem cd_min (hc : X.calm = true) : CallR X (.builtin "min") (rC1 X.K O1.minL.sem) := by
  intro pins s σ H xs us Q I rx h
  obtain ⟨x, rfl, d, z, S, r, hz, k⟩ := h
  cases d with
  | lst o ds =>
    change (match ints? ds with | some (i :: r) => some (D.int (r.foldl min i)) | _ => none) = some z at hz
    cases hi : ints? ds with
    | none => rw [hi] at hz; cases hz
    | some l =>
      rw [hi] at hz
      cases l with
      | nil => cases hz
      | cons i l =>
        cases hz
        obtain ⟨a, vs, T, rfl, q, r, _⟩ := lst_sq r
        have := ints_rep r hi
        subst this
        refine cr_min hc pins s σ H _ us Q I rx ⟨a, i :: l, rfl, .inl q, by simp, fun m hm hy => ?_⟩
        obtain ⟨h1, h2⟩ := foldl_min i l
        have := hy _ h1
        have := h2 m hm
        rw [show m = l.foldl min i by omega]
        exact kInt k
  | _ => cases hz
theorem cd_max (hc : X.calm = true) : CallR X (.builtin "max") (rC1 X.K O1.maxL.sem) := by
  intro pins s σ H xs us Q I rx h
  obtain ⟨x, rfl, d, z, S, r, hz, k⟩ := h
  cases d with
  | lst o ds =>
    change (match ints? ds with | some (i :: r) => some (D.int (r.foldl max i)) | _ => none) = some z at hz
    cases hi : ints? ds with
    | none => rw [hi] at hz; cases hz
    | some l =>
      rw [hi] at hz
      cases l with
      | nil => cases hz
      | cons i l =>
        cases hz
        obtain ⟨a, vs, T, rfl, q, r, _⟩ := lst_sq r
        have := ints_rep r hi
        subst this
        refine cr_max hc pins s σ H _ us Q I rx ⟨a, i :: l, rfl, .inl q, by simp, fun m hm hy => ?_⟩
        obtain ⟨h1, h2⟩ := foldl_max i l
        have := hy _ h1
        have := h2 m hm
        rw [show m = l.foldl max i by omega]
        exact kInt k
  | _ => cases hz

/-! ### two arguments -/
def rC2 (K : PySem.W.Frag) (g : D → D → Option D) : List V → Hp → VK → Prop := fun xs H Q => ∃ x y, xs = [x, y] ∧ rD K g x y H Q
variable {C : Cfg} {W : WX} {pos : Pos}
theorem se_cb2 {a b : Expr} {a' b' : E} {o : O2} {x : Str} {id : String} {p : Pos} (hK : X.K = C.K) (hc : CallR X (.builtin id) (rC2 X.K o.sem)) (hg : Gl X x) (hm : X.mg x = none) (hv : bootBuiltins x = some (.builtin id)) (ha : PE X a (tD C W a')) (hb : PE X b (tD C W b')) (hop : own (.o2 o a' b') = true) (hs : (own a' || quiet b') = true)
    (hn : x ≠ "__name__") (hdb : (x == ("__debug__" : Str)) = false) (he : starEach [a, b] X.env = (false, eval a X.env) :: starEach [b] X.env) (he2 : starEach [b] X.env = (false, eval b X.env) :: starEach [] X.env) (hpl : (backTo pos (starEach [b] X.env)).any (·.1) = false) : PE X (.Call (.Name x p) [a, b] [] pos) (tD C W (.o2 o a' b')) := by
  refine pemono (pe_callB (by rw [← hK]; exact hc : CallR X (.builtin id) (rC2 C.K o.sem)) hg hm hv (pa_cons ha (pa_cons hb pa_nil he2) he) hn hdb he hpl) fun σ H Q h => ?_
  obtain ⟨ρ, SV, hv, nd, h⟩ := tD_o2 hop hs h
  refine ⟨ρ, SV, hv, nd, ?_⟩
  cases m : ev a' ρ with
  | bad => rw [m] at h; exact h
  | exc x ρ' => rw [m] at h; exact h
  | ok d ρ1 =>
    rw [m] at h
    intro v H1 SV1 e1 r1
    obtain ⟨ρ2, SV2, hv2, nd2, h2⟩ := h v H1 SV1 e1 r1
    refine ⟨ρ2, SV2, hv2, nd2, ?_⟩
    cases m2 : ev b' ρ2 with
    | bad => rw [m2] at h2; exact h2
    | exc x ρ' => rw [m2] at h2; exact h2
    | ok d2 ρ3 => rw [m2] at h2; exact fun w H2 SV3 e2 r2 => ⟨v, w, rfl, h2 w H2 SV3 e2 r2⟩
theorem cd_min2 (hc : X.calm = true) : CallR X (.builtin "min") (rC2 X.K O2.min2.sem) := by
  intro pins s σ H xs us Q I rx h
  obtain ⟨x, y, rfl, d, e, z, S, T, r1, r2, hz, k⟩ := h
  obtain ⟨i, j, rfl, rfl, rfl⟩ := I2_some hz
  exact call_min2 hc pins s σ H _ us Q I rx ⟨i, j, by rw [r1.1, r2.1], kInt k⟩
theorem cd_max2 (hc : X.calm = true) : CallR X (.builtin "max") (rC2 X.K O2.max2.sem) := by
  intro pins s σ H xs us Q I rx h
  obtain ⟨x, y, rfl, d, e, z, S, T, r1, r2, hz, k⟩ := h
  obtain ⟨i, j, rfl, rfl, rfl⟩ := I2_some hz
  exact call_max2 hc pins s σ H _ us Q I rx ⟨i, j, by rw [r1.1, r2.1], kInt k⟩
end
end Ly

namespace Ly
open PySem PySem.Spec L2
variable [Fns]

/-- an iterator that hands out new tuples; Js: what stands of its sources; It i vs: its i-th tuple -/
def JT (n : Nat) (Js : Hp → Prop) (Itm : Nat → List V → Prop) : L2.It :=
  ⟨fun i H => Js H ∧ i < n, fun i H v H' => ∃ T vs, v = .ref T ∧ H T = none ∧ H' = upd H T (.tup vs) ∧ Itm i vs, fun i H => Js H ∧ i = n⟩
theorem turn_T {P : Program} {w : World} {K : PySem.W.Frag} {elts : List Expr} {kk : Nat} {tpos : Pos} {I : Addr} {fpT wr : List Addr} {n : Nat} {Js : Hp → Prop} {Itm : Nat → List V → Prop} {tn : Nat → Heap → Prop}
    (mem : I ∈ fpT) (hwr : ∀ b ∈ wr, b ∈ fpT) (obj : ∀ i h, tn i h → ∀ b ∈ fpT, ∃ o, h.get? b = some o ∧ ∀ v, o.data ≠ .cell v) (keep : ∀ i h h', tn i h → (∀ b ∈ fpT, ∀ o, h.get? b = some o → h'.get? b = some o) → tn i h')
    (slf : ∀ (A : Around) (i : Nat) (s : Shared) (Q : Value → Shared → Prop) (E : Value → Shared → Prop), tn i s.heap → Q (.ref I) s → wpAny (model P w) A (pyIter (.ref I)) Q E s) (small : ∀ i vs, Itm i vs → vs.length ≤ sizeLine)
    (src : ∀ (X : Cx), X.prog = P → X.w = w → X.K = K → X.calm = true → ∀ (i : Nat) (pins : List (Addr × Obj)) (s : Shared) (σ : St) (H : Hp), Inv X pins σ H s → (∀ b ∈ fpT, FpOk X pins H b) → tn i s.heap → Js H →
      ∃ (fp : List Addr) (Pt : Nat → Array Value → Prop) (St' : Nat → Heap → Prop) (Mid : Nat → Addr → Heap → Prop), WalksT P w X.A I fp wr n Pt St' Mid ∧ St' i s.heap ∧ (∀ h', St' (i + 1) h' → tn (i + 1) h') ∧ ∀ vals, Pt i vals → ∃ vs, Vals vs vals.toList ∧ Itm i vs) :
    Turn P w K (.Tuple elts kk tpos) (JT n Js Itm) fpT I tn where
  mem := mem
  obj := obj
  keep := keep
  item := by
    intro X hP hw hK hc i pins s σ H E Iv hf st hg
    obtain ⟨fp, Pt, St', Mid, W, st', up, itm⟩ := src X hP hw hK hc i pins s σ H Iv hf st hg.1
    subst hP hw hK
    have lt : ∀ b ∈ wr, b < s.heap.objs.size := fun b hb => by
      obtain ⟨o, ho, _⟩ := obj i s.heap st b (hwr b hb)
      exact Heap.lt_size ho
    refine W.item i s _ _ hg.2 st' fun T vals h' tk hPt hT htup hmid hk => ?_
    refine ⟨.ref T, rfl, W.go elts kk tpos i T { s with heap := h', toks := tk } _ _ hmid fun h'' hst'' hk'' => ?_⟩
    obtain ⟨vs, rv, im⟩ := itm vals hPt
    have hTw : T ∉ wr := W.apart i T h' hmid
    have htup2 : h''.IsTuple T vals := htup.at fun o e => hk'' T o hTw e
    have new : ObjOk X.prog X.w (upd H T (.tup vs)) h'' T (.tup vs) := ⟨small i vs im, vals.toList, rv, by rw [Array.toArray_toList]; exact htup2⟩
    have I1 : Inv X pins σ (upd H T (.tup vs)) { s with heap := h'', toks := tk } := Iv.turnedNew (ch := wr) (fun b o hb e => hk'' b o hb (hk b o hb e)) (fun b hb => hf b (hwr b hb)) hT new
    refine ⟨.ref T, _, I1, rfl, ⟨T, vs, rfl, Iv.hok.fresh hT, rfl, im⟩, up h'' hst'', fun b hb => ?_⟩
    obtain ⟨o, ho, _⟩ := obj i s.heap st b hb
    rw [upd_ne (Nat.ne_of_lt (Nat.lt_of_lt_of_le (Heap.lt_size ho) hT))]
    exact (hf b hb).1
  done := by
    intro X hP hw hK hc i pins s σ H E Iv hf st hg
    obtain ⟨fp, Pt, St', Mid, W, st', up, itm⟩ := src X hP hw hK hc i pins s σ H Iv hf st hg.1
    subst hP hw hK
    have st'' : St' n s.heap := by rw [← hg.2]; exact st'
    exact W.done s _ _ st'' fun h' tk hk => ⟨rfl, Iv.turnedL (ch := wr) (fun b o hb e => hk b o hb e) (fun b hb => hf b (hwr b hb))⟩
  self := slf

/-! ### a source by itself -/
/-- a value that is walked, as it stands: a list, a tuple, a text -/
inductive Sr where
  | L (a : Addr)
  | T (a : Addr)
  | S (x : Str) (t : Tok)
def Sr.val : Sr → Value
  | .L a => .ref a
  | .T a => .ref a
  | .S x t => .str x t
def Sr.obj : Sr → Obj
  | .L a => { cls := .type "list_iterator", data := .fields #[.ref a, .int 0 0] }
  | .T a => { cls := .type "tuple_iterator", data := .fields #[.ref a, .int 0 0] }
  | .S x t => { cls := .type (strIterType x), data := .fields #[.str x t, .int 0 0] }
/-- its items, in the abstract heap -/
def Sr.ok (K : PySem.W.Frag) (H : Hp) (vs : List V) : Sr → Prop
  | .L a => SqL K H a vs
  | .T a => SqT K H a vs
  | .S x _ => vs = x.cps.toList.map fun c => .str ⟨#[c]⟩
/-- its iterator at it, ahead of turn i -/
def Sr.at_ (it : Addr) (i : Nat) (h : Heap) : Sr → Prop
  | .L a => h.IsListIter it a i
  | .T a => h.IsTupleIter it a i
  | .S x t => h.IsStrIter it (strIterType x) x t i
def Sr.fp (it : Addr) : Sr → List Addr
  | .L a => [it, a]
  | .T a => [it, a]
  | .S _ _ => [it]
def Sr.st (h : Heap) (its : Array Value) : Sr → Prop
  | .L a => h.IsList a its
  | .T a => h.IsTuple a its
  | .S _ _ => True
def Sr.item (i : Nat) (its : Array Value) (v : Value) : Sr → Prop
  | .S x _ => ∃ c u, x.cps[i]? = some c ∧ v = .str ⟨#[c]⟩ u
  | _ => its[i]? = some v
theorem Sr.obj0 {it : Addr} {h : Heap} : ∀ s : Sr, h.get? it = some s.obj → s.at_ it 0 h
  | .L a, e => ⟨_, e, rfl, rfl⟩
  | .T a, e => ⟨_, e, rfl, rfl⟩
  | .S x t, e => ⟨_, e, rfl, rfl⟩
theorem Sr.atObj {it : Addr} {i : Nat} {h : Heap} : ∀ s : Sr, s.at_ it i h → ∃ o, h.get? it = some o ∧ (∃ c vs, o.cls = .type c ∧ o.data = .fields vs ∧ c ≠ "list" ∧ c ≠ "tuple")
  | .L a, ⟨o, e, c, d⟩ => ⟨o, e, _, _, c, d, by decide, by decide⟩
  | .T a, ⟨o, e, c, d⟩ => ⟨o, e, _, _, c, d, by decide, by decide⟩
  | .S x t, ⟨o, e, c, d⟩ => ⟨o, e, _, _, c, d, by unfold strIterType; split <;> decide, by unfold strIterType; split <;> decide⟩
theorem Sr.keep {it : Addr} {i : Nat} {h h' : Heap} (k : ∀ o, h.get? it = some o → h'.get? it = some o) : ∀ s : Sr, s.at_ it i h → s.at_ it i h'
  | .L a, e => e.at k
  | .T a, e => e.at k
  | .S x t, ⟨o, e, c, d⟩ => ⟨o, k o e, c, d⟩
section
variable {X : Cx} {pins : List (Addr × Obj)} {σ : St} {H : Hp} {s : Shared}
/-- a source in the machine -/
theorem Sr.there (I : Inv X pins σ H s) {vs : List V} : ∀ sr : Sr, sr.ok X.K H vs → ∃ its : Array Value, sr.st s.heap its ∧ Begins sr.val sr.obj (fun h => sr.st h its) ∧ (∀ i v, sr.item i its v → ∃ x, vs[i]? = some x ∧ RelV x v) ∧
    (match sr with | .S x _ => x.cps.size | _ => its.size) = vs.length
  | .L a, h => by
    obtain ⟨its, r, p, hz⟩ := I.list h
    refine ⟨its.toArray, p.isList, begins_list a its.toArray, fun i v e => ?_, by simp [r.length]⟩
    have e : its[i]? = some v := by simpa [Sr.item] using e
    obtain ⟨hi, ei⟩ := List.getElem?_eq_some_iff.mp e
    obtain ⟨u, e1, e2⟩ := r.get (List.getElem?_eq_getElem (show i < vs.length by rw [r.length]; exact hi))
    rw [e] at e1
    cases e1
    exact ⟨_, List.getElem?_eq_getElem _, e2⟩
  | .T a, h => by
    obtain ⟨its, r, p, hz⟩ := I.tuple h
    refine ⟨its.toArray, p, begins_tuple a its.toArray, fun i v e => ?_, by simp [r.length]⟩
    have e : its[i]? = some v := by simpa [Sr.item] using e
    obtain ⟨hi, ei⟩ := List.getElem?_eq_some_iff.mp e
    obtain ⟨u, e1, e2⟩ := r.get (List.getElem?_eq_getElem (show i < vs.length by rw [r.length]; exact hi))
    rw [e] at e1
    cases e1
    exact ⟨_, List.getElem?_eq_getElem _, e2⟩
  | .S x t, h => by
    have h : vs = x.cps.toList.map fun c => V.str ⟨#[c]⟩ := h
    subst h
    refine ⟨#[], trivial, begins_text x t, fun i v e => ?_, by simp⟩
    obtain ⟨c, u, ec, rfl⟩ := e
    refine ⟨.str ⟨#[c]⟩, ?_, u, rfl⟩
    rw [List.getElem?_map, Array.getElem?_toList, ec]
    rfl
theorem Sr.draws (hh : X.A.in1.handled = none) {its : Array Value} {it : Addr} {vs : List V} (hn : ∀ sr : Sr, (match sr with | .S x _ => x.cps.size | _ => its.size) = (match sr with | .S x _ => x.cps.size | _ => its.size)) : ∀ sr : Sr, (∀ a, sr = .L a ∨ sr = .T a → a ≠ it) →
    Draws X.prog X.w X.A.in1 it (sr.fp it) (match sr with | .S x _ => x.cps.size | _ => its.size) (fun i v => sr.item i its v) (fun i h => sr.at_ it i h ∧ sr.st h its)
  | .L a, h => Draws.list hh it a (h a (.inl rfl)) its
  | .T a, h => Draws.tuple hh it a (h a (.inr rfl)) its
  | .S x t, _ => by
    have D := Draws.text (prog := X.prog) (w := X.w) hh it x t
    exact ⟨fun i h st => D.live i h st.1, fun i h h' st k => ⟨D.frame i h h' st.1 k, trivial⟩, fun i s Q E hi st hQ => D.item i s Q E hi st.1 fun x h' tk p st' sb => hQ x h' tk p ⟨st', trivial⟩ sb, fun s Q E st hE => D.done s Q E st.1 hE⟩
theorem Sr.ne {sr : Sr} {its : Array Value} {it : Addr} {h : Heap} (st : sr.st h its) (at_ : ∃ o, h.get? it = some o ∧ (∃ c vs, o.cls = .type c ∧ o.data = .fields vs ∧ c ≠ "list" ∧ c ≠ "tuple")) : ∀ a, sr = .L a ∨ sr = .T a → a ≠ it := fun a e q => by
  subst q
  obtain ⟨o, ho, c, vs, hc, _, h1, h2⟩ := at_
  rcases e with rfl | rfl
  · obtain ⟨o', ho', hc', _⟩ := (show h.IsList a its from st)
    rw [ho] at ho'
    cases ho'
    rw [hc] at hc'
    exact h1 (by simpa using hc')
  · obtain ⟨o', ho', hc', _⟩ := (show h.IsTuple a its from st)
    rw [ho] at ho'
    cases ho'
    rw [hc] at hc'
    exact h2 (by simpa using hc')
theorem handled_in1 {A : Around} (h : A.handled = none) : A.in1.handled = none := h
end
end Ly

namespace Ly
open PySem PySem.Spec L2
variable [Fns]
open Sem (wp)
theorem meets_enum1 {v : Value} {o : Obj} {H : Heap → Prop} (B : Begins v o H) :
    Meets (Builtin.«enumerate.__new__» ⟨[.type "enumerate", v], []⟩) (fun _ R s => H s.heap ∧
      R (.ok (.ret (.ref (s.heap.push o).objs.size))) { s with heap := (s.heap.push o).push { cls := .type "enumerate", data := .fields #[.none, .bool false, .ref s.heap.objs.size, rawInt 0, .none, .none] } }) :=
  .of_wp fun prog w A R s h => by
    obtain ⟨hp, g, d, tk, os⟩ := s; obtain ⟨h1, h⟩ := h
    have hsub := sub_enumerate
    have q1 : ∀ {A' : Around} {E : Value → Shared → Prop} {Q : Value → Shared → Prop}, Q (.ref hp.objs.size) ⟨hp.push o, g, d, tk, os⟩ → wpAny (model prog w) A' (pyIter v) Q E ⟨hp, g, d, tk, os⟩ :=
      fun q => B.iter prog w _ _ ⟨hp, g, d, tk, os⟩ _ h1 q
    wp_walk using q1
    refine wpAny_stack_any fun st => wpAny_pure ?_
    split
    · rename_i c _ _ _ _ _
      cases (c == Value.type "enumerate")
      · wp_walk using q1
        exact ⟨_, rfl, h⟩
      · wp_walk using q1
        exact ⟨_, rfl, h⟩
    · wp_walk using q1
      exact ⟨_, rfl, h⟩
theorem enum_begins1 {prog : Program} {w : World} {A : Around} {E : Value → Shared → Prop} {s : Shared} {v : Value} {o : Obj} {H : Heap → Prop} {Q : Value → Shared → Prop} (B : Begins v o H) (h1 : H s.heap)
    (h : ∀ h', IsEnum h' (s.heap.objs.size + 1) s.heap.objs.size 0 .none → h'.get? s.heap.objs.size = some o → h'.objs.size = s.heap.objs.size + 2 →
      (∀ b o, s.heap.get? b = some o → h'.get? b = some o) → Q (.ref (s.heap.objs.size + 1)) { s with heap := h' }) :
    wpAny (model prog w) A (call (.type "enumerate") [v]) Q E s := by
  refine callType_new F.called_enumerate (by decide) (F.typeCall_enumerate_1 _) (F.newCall_enumerate_1 _) (fun obj => F.args_object_init_2 obj _) F.entry_enumerate_new (meets_enum1 B) ⟨h1, ?_⟩
  have hz : (s.heap.push o).objs.size = s.heap.objs.size + 1 := Heap.size_push ..
  show _ ∧ _
  rw [hz]
  have he : IsEnum ((s.heap.push o).push { cls := .type "enumerate", data := .fields #[.none, .bool false, .ref s.heap.objs.size, rawInt 0, .none, .none] }) (s.heap.objs.size + 1) s.heap.objs.size 0 .none := by
    have := Heap.get?_push_size (s.heap.push o) (o := { cls := .type "enumerate", data := .fields #[.none, .bool false, .ref s.heap.objs.size, rawInt 0, .none, .none] }) rfl
    rw [hz] at this; exact this
  refine ⟨⟨_, he, rfl⟩, h _ he (Heap.get?_push_of_some _ (Heap.get?_push_size _ B.free)) (by rw [Heap.size_push, hz]) fun b o x => Heap.get?_push_of_some _ (Heap.get?_push_of_some _ x)⟩

/-- the pairs of enumerate -/
def enumItm (vs : List V) (i : Nat) (ws : List V) : Prop := ∃ x, vs[i]? = some x ∧ ws = [.int (i : Nat), x]
theorem turn_enumS {P : Program} {w : World} {K : PySem.W.Frag} {elts : List Expr} {kk : Nat} {tpos : Pos} {sr : Sr} {vs : List V} {e it : Addr} :
    Turn P w K (.Tuple elts kk tpos) (JT vs.length (fun H => sr.ok K H vs) (enumItm vs)) [e, it] e (fun i h => (∃ old, IsEnum h e it ((i : Nat) : Int) old) ∧ sr.at_ it i h ∧ e ≠ it) := by
  refine turn_T (wr := [e, it]) (by simp) (fun b hb => hb) (fun i h st b hb => ?_) (fun i h h' st k => ?_) (fun A i s Q E st h => ?_) (fun i ws h => ?_) (fun X hP hw hK hc i pins s σ H Iv hf st hg => ?_)
  · obtain ⟨⟨old, he⟩, ha, _⟩ := st
    have e' : b = e ∨ b = it := by simpa using hb
    rcases e' with z | z
    · rw [z]; exact ⟨_, he, fun v q => nomatch q⟩
    · obtain ⟨o, ho, c, vs, _, hd, _⟩ := sr.atObj ha
      rw [z]; exact ⟨o, ho, fun v q => by rw [hd] at q; cases q⟩
  · obtain ⟨⟨old, he⟩, ha, hne⟩ := st
    exact ⟨⟨old, k e (by simp) _ he⟩, sr.keep (fun o q => k it (by simp) o q) ha, hne⟩
  · obtain ⟨⟨_, he⟩, _⟩ := st
    exact wpAny_pyIter_enum he h
  · obtain ⟨x, _, rfl⟩ := h
    show 2 ≤ sizeLine
    decide
  · subst hP hw hK
    obtain ⟨⟨old, he⟩, ha, hne⟩ := st
    obtain ⟨its, hst, B, itm, hlen⟩ := Sr.there Iv sr hg
    have hdi := Sr.ne hst (sr.atObj ha)
    have hde := Sr.ne hst (it := e) ⟨_, he, "enumerate", _, rfl, rfl, by decide, by decide⟩
    have D := Sr.draws (X := X) (its := its) (it := it) (vs := vs) (handled_in1 (Iv.ok.hd hc)) (fun _ => rfl) sr hdi
    rw [hlen] at D
    have hef : e ∉ sr.fp it := by
      cases sr with
      | L a => intro q; have q : e = it ∨ e = a := by simpa [Sr.fp] using q
               exact q.elim hne fun z => hde a (.inl rfl) z.symm
      | T a => intro q; have q : e = it ∨ e = a := by simpa [Sr.fp] using q
               exact q.elim hne fun z => hde a (.inr rfl) z.symm
      | S x t => intro q; have q : e = it := by simpa [Sr.fp] using q
                 exact hne q
    have hif : it ∈ sr.fp it := by cases sr <;> simp [Sr.fp]
    refine ⟨_, _, _, _, WalksT.enumerateD D e hne hef hif, ⟨⟨old, he⟩, ha, hst⟩, fun h' z => ⟨z.1, z.2.1, hne⟩, fun vals hp => ?_⟩
    obtain ⟨t, x, hx, rfl⟩ := hp
    obtain ⟨y, hy, ry⟩ := itm i x hx
    exact ⟨[.int i, y], .cons ⟨t, rfl⟩ (.cons ry .nil), y, hy, rfl⟩
section
variable {X : Cx}
/-- what a value is as a source -/
def srcOf (sr : Sr) (x : V) (u : Value) : Prop := RelV x u ∧ u = sr.val
def iEnumS (K : PySem.W.Frag) (ta : TA) : TI := fun σ H R => ta σ H fun ws H1 => ∃ x, ws = [x] ∧ ∀ u, RelV x u → ∃ (sr : Sr) (vs : List V), u = sr.val ∧ sr.ok K H1 vs ∧ R (JT vs.length (fun H => sr.ok K H vs) (enumItm vs)) H1
theorem pi_enumS {e : Expr} {ta : TA} {p pos tpos : Pos} {elts : List Expr} {kk : Nat} (hg : Gl X "enumerate") (hm : X.mg "enumerate" = none) (ha : PA X [e] ta) (hs : starEach [e] X.env = [(false, eval e X.env)]) :
    PI X (.Tuple elts kk tpos) (.Call (.Name "enumerate" p) [e] [] pos) (iEnumS X.K ta) := by
  refine ⟨fun pins s σ H R I h => ?_⟩
  refine PyProof.Rows.Call_ (ld_blt I hg hm PyProof.Rows.boot_enumerate (PyProof.Rows.callWith_type1 (thn (ha.run pos pins s σ H _ I h) fun us s1 ⟨ws, H1, I1, r1, q1⟩ => ?_) hs rfl))
  obtain ⟨x, ex, q⟩ := q1
  subst ex
  cases r1 with
  | cons r rr =>
    cases rr
    obtain ⟨sr, vs, rfl, hok, q⟩ := q _ r
    obtain ⟨its, hst, B, itm, hlen⟩ := Sr.there I1 sr hok
    refine enum_begins1 B hst fun h' he hit hsz hk => wpAny_pyIter_enum he ?_
    have I2 : Inv X pins σ H1 { s1 with heap := h' } := I1.kept (t' := s1.toks) hk
    refine ⟨s1.heap.objs.size + 1, [s1.heap.objs.size + 1, s1.heap.objs.size], _, _, H1, rfl, I2, turn_enumS (sr := sr) (vs := vs) (e := s1.heap.objs.size + 1) (it := s1.heap.objs.size), ⟨⟨.none, he⟩, sr.obj0 hit, Nat.succ_ne_self _⟩, fun b hb => ?_, q⟩
    have e' : b = s1.heap.objs.size + 1 ∨ b = s1.heap.objs.size := by simpa using hb
    have hle : s1.heap.objs.size ≤ b := by
      rcases e' with z | z
      · rw [z]; exact Nat.le_add_right _ _
      · rw [z]; exact Nat.le_refl _
    exact I1.fpOk hle (I1.hok.fresh hle)
end

/-! ### zip of two -/
def zipItm (vs ws : List V) (i : Nat) (us : List V) : Prop := ∃ x y, vs[i]? = some x ∧ ws[i]? = some y ∧ us = [x, y]
theorem Sr.notfp {sr : Sr} {its : Array Value} {it c : Addr} {h : Heap} (st : sr.st h its) (hne : c ≠ it) (hc : ∀ a, sr = .L a ∨ sr = .T a → a ≠ c) : c ∉ sr.fp it := by
  cases sr with
  | L a => intro q; have q : c = it ∨ c = a := by simpa [Sr.fp] using q
           exact q.elim hne fun z => hc a (.inl rfl) z.symm
  | T a => intro q; have q : c = it ∨ c = a := by simpa [Sr.fp] using q
           exact q.elim hne fun z => hc a (.inr rfl) z.symm
  | S x t => intro q; have q : c = it := by simpa [Sr.fp] using q
             exact hne q
theorem Sr.infp {sr : Sr} {it : Addr} : it ∈ sr.fp it := by cases sr <;> simp [Sr.fp]
/-- the source's own object is tracked, or one of the module: none of the iterators' cells -/
theorem Sr.notT {X : Cx} {pins : List (Addr × Obj)} {σ : St} {H : Hp} {s : Shared} {sr : Sr} {vs : List V} {c : Addr} (I : Inv X pins σ H s) (hok : sr.ok X.K H vs) (hc : FpOk X pins H c) : ∀ a, sr = .L a ∨ sr = .T a → a ≠ c := fun a e q => by
  subst q
  have base : ∀ o, X.K.lookup a = some o → False := fun o ho => by
    have hb : X.base.get? a = some o := I.ok.mod.kin a o ho
    rcases hc.2.2.2.1 with z | z
    · exact I.ok.noex a o hb z
    · have := (I.ok.bs a o hb).1
      exact absurd (Nat.lt_of_lt_of_le (Heap.lt_size this) z) (Nat.lt_irrefl _)
  have track : ∀ u, Rd H a u → False := fun u hu => by
    rcases hu with hu | ⟨o, hu⟩
    · rw [hc.1] at hu; cases hu
    · rw [hc.1] at hu; cases hu
  rcases e with rfl | rfl
  · rcases (show SqL X.K H a vs from hok) with z | ⟨o, _, _, z, _⟩
    · exact track _ z
    · exact base o z
  · rcases (show SqT X.K H a vs from hok) with z | ⟨o, _, _, z, _⟩
    · exact track _ z
    · exact base o z
theorem turn_zipS {P : Program} {w : World} {K : PySem.W.Frag} {elts : List Expr} {kk : Nat} {tpos : Pos} {sr1 sr2 : Sr} {vs ws : List V} {z TI TO i1 i2 : Addr} (nd : [z, TI, TO, i1, i2].Nodup) :
    Turn P w K (.Tuple elts kk tpos) (JT (min vs.length ws.length) (fun H => sr1.ok K H vs ∧ sr2.ok K H ws) (zipItm vs ws)) [z, TI, TO, i1, i2] z
      (fun i h => IsZip h z TI TO .none ∧ IsTupOf2 h TI (.ref i1) (.ref i2) ∧ (∃ a1 a2, IsTupOf2 h TO a1 a2) ∧ sr1.at_ i1 i h ∧ sr2.at_ i2 i h) := by
  simp only [List.nodup_cons, List.mem_cons, List.not_mem_nil, not_or, not_false_eq_true, and_true, List.nodup_nil, or_false] at nd
  obtain ⟨⟨n1, n2, n3, n4⟩, ⟨n5, n6, n7⟩, ⟨n8, n9⟩, n10⟩ := nd
  refine turn_T (wr := [z, TO, i1, i2]) (by simp) (fun b hb => ?_) (fun i h st b hb => ?_) (fun i h h' st k => ?_) (fun A i s Q E st h => ?_) (fun i us h => ?_) (fun X hP hw hK hc i pins s σ H Iv hf st hg => ?_)
  · have e' : b = z ∨ b = TO ∨ b = i1 ∨ b = i2 := by simpa using hb
    rcases e' with q | q | q | q <;> simp [q]
  · obtain ⟨hz, hTI, ⟨x, y, hTO⟩, h1, h2⟩ := st
    have e' : b = z ∨ b = TI ∨ b = TO ∨ b = i1 ∨ b = i2 := by simpa using hb
    rcases e' with q | q | q | q | q
    · rw [q]; exact ⟨_, hz, fun v q => nomatch q⟩
    · rw [q]; exact ⟨_, hTI, fun v q => nomatch q⟩
    · rw [q]; exact ⟨_, hTO, fun v q => nomatch q⟩
    · obtain ⟨o, ho, c, vs, _, hd, _⟩ := sr1.atObj h1
      rw [q]; exact ⟨o, ho, fun v q => by rw [hd] at q; cases q⟩
    · obtain ⟨o, ho, c, vs, _, hd, _⟩ := sr2.atObj h2
      rw [q]; exact ⟨o, ho, fun v q => by rw [hd] at q; cases q⟩
  · obtain ⟨hz, hTI, ⟨x, y, hTO⟩, h1, h2⟩ := st
    exact ⟨k z (by simp) _ hz, k TI (by simp) _ hTI, ⟨x, y, k TO (by simp) _ hTO⟩, sr1.keep (fun o q => k i1 (by simp) o q) h1, sr2.keep (fun o q => k i2 (by simp) o q) h2⟩
  · exact wpAny_pyIter_zip st.1 h
  · obtain ⟨x, y, _, _, rfl⟩ := h
    show 2 ≤ sizeLine
    decide
  · subst hP hw hK
    obtain ⟨hz, hTI, ⟨x, y, hTO⟩, h1, h2⟩ := st
    obtain ⟨its1, st1, B1, itm1, len1⟩ := Sr.there Iv sr1 hg.1
    obtain ⟨its2, st2, B2, itm2, len2⟩ := Sr.there Iv sr2 hg.2
    have m1 : ∀ c, c ∈ [z, TI, TO, i1, i2] → ∀ a, sr1 = .L a ∨ sr1 = .T a → a ≠ c := fun c hc => Sr.notT Iv hg.1 (hf c hc)
    have m2 : ∀ c, c ∈ [z, TI, TO, i1, i2] → ∀ a, sr2 = .L a ∨ sr2 = .T a → a ≠ c := fun c hc => Sr.notT Iv hg.2 (hf c hc)
    have D1 := Sr.draws (X := X) (its := its1) (it := i1) (vs := vs) (handled_in1 (Iv.ok.hd hc)) (fun _ => rfl) sr1 (m1 i1 (by simp))
    have D2 := Sr.draws (X := X) (its := its2) (it := i2) (vs := ws) (handled_in1 (Iv.ok.hd hc)) (fun _ => rfl) sr2 (m2 i2 (by simp))
    rw [len1] at D1
    rw [len2] at D2
    have S : ZipSep2 z TI TO i1 i2 (sr1.fp i1) (sr2.fp i2) :=
      { TIz := Ne.symm n1, TOz := Ne.symm n2, TITO := n5, TIi1 := n6, mem1 := Sr.infp, zf1 := Sr.notfp st1 n3 (m1 z (by simp)), Tf1 := Sr.notfp st1 n8 (m1 TO (by simp)),
        TIi2 := n7, mem2 := Sr.infp, zf2 := Sr.notfp st2 n4 (m2 z (by simp)), Tf2 := Sr.notfp st2 n9 (m2 TO (by simp)),
        sep1_2 := Sr.notfp st2 n10 (m2 i1 (by simp)), sep2_1 := Sr.notfp st1 (Ne.symm n10) (m1 i2 (by simp)) }
    refine ⟨_, _, _, _, WalksT.zipD2 S D1 D2, ⟨hz, hTI, ⟨x, y, hTO⟩, ⟨h1, st1⟩, ⟨h2, st2⟩⟩, fun h' q => ⟨q.1, q.2.1, q.2.2.1, q.2.2.2.1.1, q.2.2.2.2.1⟩, fun vals hp => ?_⟩
    obtain ⟨x1, x2, p1, p2, rfl⟩ := hp
    obtain ⟨y1, e1, r1⟩ := itm1 i x1 p1
    obtain ⟨y2, e2, r2⟩ := itm2 i x2 p2
    exact ⟨[y1, y2], .cons r1 (.cons r2 .nil), y1, y2, e1, e2, rfl⟩
section
variable {X : Cx}
def iZipS (K : PySem.W.Frag) (ta : TA) : TI := fun σ H R => ta σ H fun xs H1 => ∃ x y, xs = [x, y] ∧ ∀ u v, RelV x u → RelV y v → ∃ (sr1 sr2 : Sr) (vs ws : List V), u = sr1.val ∧ v = sr2.val ∧ sr1.ok K H1 vs ∧ sr2.ok K H1 ws ∧
  R (JT (min vs.length ws.length) (fun H => sr1.ok K H vs ∧ sr2.ok K H ws) (zipItm vs ws)) H1
theorem pi_zipS {e e2 : Expr} {ta : TA} {p pos tpos : Pos} {elts : List Expr} {kk : Nat} (hg : Gl X "zip") (hm : X.mg "zip" = none) (ha : PA X [e, e2] ta) (hs : starEach [e, e2] X.env = (false, eval e X.env) :: starEach [e2] X.env) (hpl : (backTo pos (starEach [e2] X.env)).any (·.1) = false) :
    PI X (.Tuple elts kk tpos) (.Call (.Name "zip" p) [e, e2] [] pos) (iZipS X.K ta) := by
  refine ⟨fun pins s σ H R I h => ?_⟩
  refine PyProof.Rows.Call_ (ld_blt I hg hm PyProof.Rows.boot_zip (PyProof.Rows.callWith_type1 (thn (ha.run pos pins s σ H _ I h) fun us s1 ⟨xs, H1, I1, r1, q1⟩ => ?_) hs hpl))
  obtain ⟨x, y, ex, q⟩ := q1
  subst ex
  cases r1 with
  | cons r rr =>
    cases rr with
    | cons r' rr =>
      cases rr
      obtain ⟨sr1, sr2, vs, ws, rfl, rfl, ok1, ok2, q⟩ := q _ _ r r'
      obtain ⟨its1, st1, B1, itm1, len1⟩ := Sr.there I1 sr1 ok1
      obtain ⟨its2, st2, B2, itm2, len2⟩ := Sr.there I1 sr2 ok2
      refine zip_begins2 B1 B2 st1 st2 fun h' hz hTI hTO h1 h2 hsz hk => wpAny_pyIter_zip hz ?_
      have I2 : Inv X pins σ H1 { s1 with heap := h' } := I1.kept (t' := s1.toks) hk
      refine ⟨s1.heap.objs.size + 4, [s1.heap.objs.size + 4, s1.heap.objs.size + 2, s1.heap.objs.size + 3, s1.heap.objs.size, s1.heap.objs.size + 1], _, _, H1, rfl, I2, turn_zipS (sr1 := sr1) (sr2 := sr2) (vs := vs) (ws := ws) ?_, ⟨hz, hTI, ⟨_, _, hTO⟩, sr1.obj0 h1, sr2.obj0 h2⟩, fun c hcm => ?_, q⟩
      · generalize s1.heap.objs.size = n
        have ne : ∀ a b : Nat, a ≠ b → n + a ≠ n + b := fun a b h e => h (Nat.add_left_cancel e)
        have ne0 : ∀ a : Nat, a ≠ 0 → n + a ≠ n := fun a h e => h (by have e : n + a = n + 0 := e; exact Nat.add_left_cancel e)
        simp only [List.nodup_cons, List.mem_cons, List.not_mem_nil, not_or, not_false_eq_true, and_true, List.nodup_nil, or_false]
        exact ⟨⟨ne 4 2 (by decide), ne 4 3 (by decide), ne0 4 (by decide), ne 4 1 (by decide)⟩, ⟨ne 2 3 (by decide), ne0 2 (by decide), ne 2 1 (by decide)⟩, ⟨ne0 3 (by decide), ne 3 1 (by decide)⟩, fun e => ne0 1 (by decide) e.symm⟩
      · have e' : c = s1.heap.objs.size + 4 ∨ c = s1.heap.objs.size + 2 ∨ c = s1.heap.objs.size + 3 ∨ c = s1.heap.objs.size ∨ c = s1.heap.objs.size + 1 := by simpa using hcm
        have hle : s1.heap.objs.size ≤ c := by
          rcases e' with z | z | z | z | z
          · rw [z]; exact Nat.le_add_right _ _
          · rw [z]; exact Nat.le_add_right _ _
          · rw [z]; exact Nat.le_add_right _ _
          · rw [z]; exact Nat.le_refl _
          · rw [z]; exact Nat.le_add_right _ _
        exact I1.fpOk hle (I1.hok.fresh hle)
end
end Ly

namespace Ly
open PySem PySem.Spec L2
variable [Fns]
/-- what is walked: ds, frozen, as long as what is frozen in H0 stands -/
structure Wk (K : PySem.W.Frag) (J : L2.It) (H0 : Hp) (ds : List D) : Prop where
  goes : ∀ i H, i < ds.length → Kp [] H0 H → J.go i H
  stops : ∀ H, Kp [] H0 H → J.stop ds.length H
  yields : ∀ i H x H' d, ds[i]? = some d → Kp [] H0 H → J.yld i H x H' → Ext [] H H' ∧ Rep K H' d x []
def tI (C : Cfg) (W : WX) (it : It) : TI := fun σ H R => ∃ ρ SV, Vars C.K H ρ σ SV ∧ SV.Nodup ∧ tK C W σ SV H (fun ds _ _ H' (J : L2.It) => Wk C.K J H' ds) (evIt it ρ) R
theorem wk_of {K : PySem.W.Frag} {J : L2.It} {H0 : Hp} {ds : List D} {vs : List V} {G : Hp → Prop} (w : L2.Walk J vs.length G (YAt vs)) (g : ∀ H, Kp [] H0 H → G H) (r : Reps K H0 ds vs []) : Wk K J H0 ds := by
  have l := r.length
  refine ⟨fun i H hi k => w.goes i H (by omega) (g H k), fun H k => by rw [l]; exact w.stops H (g H k), fun i H x H' d hd k y => ?_⟩
  have hi : i < vs.length := by
    obtain ⟨h, _⟩ := List.getElem?_eq_some_iff.mp hd
    omega
  obtain ⟨rfl, hx⟩ := w.yields i H x H' hi (g H k) y
  obtain ⟨v, e, rv⟩ := r.get0 hd
  rw [hx] at e
  cases e
  exact ⟨.refl, rv.kp d k⟩
section
variable {K : PySem.W.Frag} {H H' : Hp}
theorem SqS.kp {S : List Addr} {a : Addr} {vs : List V} (h : SqS K H a vs) (k : Kp S H H') : SqS K H' a vs := h.imp (fun ⟨o, q⟩ => ⟨o, k a _ q (.inr fun z => z)⟩) id
theorem reps_ints : ∀ ns : List Int, Reps K H (ns.map D.int) (ns.map V.int) []
  | [] => Reps.nil
  | n :: ns => Reps.cons (S1 := []) (S2 := []) (show Rep K H (.int n) (.int n) [] from ⟨rfl, rfl⟩) (reps_ints ns)
theorem reps_strs : ∀ cs : List Nat, Reps K H (cs.map fun c => D.str ⟨#[c]⟩) (cs.map fun c => V.str ⟨#[c]⟩) []
  | [] => Reps.nil
  | c :: cs => Reps.cons (S1 := []) (S2 := []) (show Rep K H (.str ⟨#[c]⟩) (.str ⟨#[c]⟩) [] from ⟨rfl, rfl⟩) (reps_strs cs)
/-- what a sequence lies as -/
theorem seq_cases {d : D} {x : V} {S : List Addr} {ds : List D} (r : Rep K H d x S) (h : seqOf d = some ds) :
    (∃ a vs, x = .ref a ∧ SqT K H a vs ∧ Reps K H ds vs []) ∨ (∃ a vs, x = .ref a ∧ SqS K H a vs ∧ Reps K H ds vs []) ∨ ∃ z, x = .str z ∧ d = .str z ∧ ds = z.cps.toList.map fun c => .str ⟨#[c]⟩ := by
  cases d with
  | tup xs =>
    cases h
    obtain ⟨_, a, vs, rfl, q, r⟩ := r
    exact .inl ⟨a, vs, rfl, q, r⟩
  | lst o xs =>
    cases o with
    | true => cases h
    | false =>
      cases h
      obtain ⟨_, a, vs, rfl, q, r⟩ := r
      exact .inr (.inl ⟨a, vs, rfl, .inl q, r⟩)
  | scr ns =>
    cases h
    obtain ⟨_, a, rfl, q⟩ := r
    exact .inr (.inl ⟨a, _, rfl, q, reps_ints ns⟩)
  | str z =>
    cases h
    exact .inr (.inr ⟨z, r.1, rfl, rfl⟩)
  | _ => cases h
theorem src_of {d : D} {x : V} {S : List Addr} {ds : List D} {u : Value} (r : Rep K H d x S) (h : seqOf d = some ds) (rx : RelV x u) : ∃ sr vs, u = Sr.val sr ∧ (∀ H', Kp [] H H' → sr.ok K H' vs) ∧ Reps K H ds vs [] := by
  rcases seq_cases r h with ⟨a, vs, rfl, q, r⟩ | ⟨a, vs, rfl, q, r⟩ | ⟨z, rfl, rfl, rfl⟩
  · cases rx
    exact ⟨.T a, vs, rfl, fun H' k => SqT.kp q k, r⟩
  · cases rx
    exact ⟨.L a, vs, rfl, fun H' k => (q.kp k).sq, r⟩
  · obtain ⟨t, rfl⟩ := rx
    exact ⟨.S z t, _, rfl, fun H' k => rfl, reps_strs _⟩
theorem wk_range {lo : Int} {n : Nat} : Wk K (Itr lo n) H (rngD lo n) := by
  have len : ∀ (n : Nat) (lo : Int), (rngD lo n).length = n := by
    intro n
    induction n with
    | zero => intro lo; rfl
    | succ n ih => intro lo; show (rngD (lo + 1) n).length + 1 = _; rw [ih]
  have get : ∀ (n : Nat) (lo : Int) (i : Nat) (d : D), (rngD lo n)[i]? = some d → d = .int (lo + i) := by
    intro n
    induction n with
    | zero => intro lo i d h; cases h
    | succ n ih =>
      intro lo i d h
      cases i with
      | zero => cases h; simp
      | succ i =>
        have := ih (lo + 1) i d (by simpa [rngD] using h)
        rw [this]
        congr 1
        push_cast
        omega
  refine ⟨fun i H hi _ => by rw [len] at hi; exact hi, fun H _ => by rw [len]; exact Nat.le_refl n, fun i H x H' d hd _ y => ?_⟩
  obtain ⟨rfl, rfl⟩ := y
  rw [get n lo i d hd]
  exact ⟨.refl, rfl, rfl⟩
theorem enumD_len : ∀ (ds : List D) (n : Nat), (enumD n ds).length = ds.length
  | [], _ => rfl
  | d :: ds, n => congrArg (· + 1) (enumD_len ds (n + 1))
theorem enumD_get : ∀ (ds : List D) (n i : Nat), (enumD n ds)[i]? = ds[i]?.map fun d => .tup [.int ((n + i : Nat) : Int), d]
  | [], _, _ => rfl
  | d :: ds, n, 0 => rfl
  | d :: ds, n, i + 1 => by
    show (enumD (n + 1) ds)[i]? = ds[i]?.map _
    rw [enumD_get ds (n + 1) i, show n + 1 + i = n + (i + 1) by omega]
theorem zipD_len : ∀ (xs ys : List D), (zipD xs ys).length = min xs.length ys.length
  | [], _ => by simp [zipD]
  | _ :: _, [] => by simp [zipD]
  | x :: xs, y :: ys => by
    show (zipD xs ys).length + 1 = _
    rw [zipD_len xs ys, List.length_cons, List.length_cons, Nat.succ_min_succ]
theorem zipD_get : ∀ (xs ys : List D) (i : Nat) (d : D), (zipD xs ys)[i]? = some d → ∃ x y, xs[i]? = some x ∧ ys[i]? = some y ∧ d = .tup [x, y]
  | [], _, _, _, h => by simp [zipD] at h
  | _ :: _, [], _, _, h => by simp [zipD] at h
  | x :: xs, y :: ys, 0, d, h => by cases h; exact ⟨x, y, rfl, rfl, rfl⟩
  | x :: xs, y :: ys, i + 1, d, h => zipD_get xs ys i d h
theorem rep_pair {T : Addr} {d e : D} {x y : V} (hT : H T = none) (r1 : Rep K H d x []) (r2 : Rep K H e y []) : Ext [] H (upd H T (.tup [x, y])) ∧ Rep K (upd H T (.tup [x, y])) (.tup [d, e]) (.ref T) [] := by
  have ex : Ext [] H (upd H T (.tup [x, y])) := Ext.new hT
  exact ⟨ex, rfl, T, _, rfl, .inl (.inl upd_same), Reps.cons (S1 := []) (S2 := []) (r1.kp _ (ex.all _)) (Reps.cons (S1 := []) (S2 := []) (r2.kp _ (ex.all _)) Reps.nil)⟩
theorem wk_enum {sr : Sr} {vs : List V} {ds : List D} (h : ∀ H', Kp [] H H' → sr.ok K H' vs) (r : Reps K H ds vs []) : Wk K (JT vs.length (fun H => sr.ok K H vs) (enumItm vs)) H (enumD 0 ds) := by
  have l := r.length
  refine ⟨fun i H hi k => ⟨h H k, by rw [enumD_len, l] at hi; exact hi⟩, fun H k => ⟨h H k, by rw [enumD_len, l]⟩, fun i H x H' d hd k y => ?_⟩
  obtain ⟨T, ws, rfl, hT, rfl, v, hv, rfl⟩ := y
  rw [enumD_get] at hd
  cases hi : ds[i]? with
  | none => rw [hi] at hd; cases hd
  | some e =>
    rw [hi] at hd
    cases hd
    obtain ⟨v', e1, rv⟩ := r.get0 hi
    rw [hv] at e1
    cases e1
    rw [Nat.zero_add]
    exact rep_pair hT ⟨rfl, rfl⟩ (rv.kp _ k)
theorem wk_zip {s1 s2 : Sr} {vs ws : List V} {ds es : List D} (h1 : ∀ H', Kp [] H H' → s1.ok K H' vs) (h2 : ∀ H', Kp [] H H' → s2.ok K H' ws) (r1 : Reps K H ds vs []) (r2 : Reps K H es ws []) : Wk K (JT (min vs.length ws.length) (fun H => s1.ok K H vs ∧ s2.ok K H ws) (zipItm vs ws)) H (zipD ds es) := by
  have l1 := r1.length
  have l2 := r2.length
  refine ⟨fun i H hi k => ⟨⟨h1 H k, h2 H k⟩, by rw [zipD_len, l1, l2] at hi; exact hi⟩, fun H k => ⟨⟨h1 H k, h2 H k⟩, by rw [zipD_len, l1, l2]⟩, fun i H x H' d hd k y => ?_⟩
  obtain ⟨T, us, rfl, hT, rfl, x, y, hx, hy, rfl⟩ := y
  obtain ⟨d1, d2, e1, e2, rfl⟩ := zipD_get ds es i d hd
  obtain ⟨x', q1, p1⟩ := r1.get0 e1
  obtain ⟨y', q2, p2⟩ := r2.get0 e2
  rw [hx] at q1
  rw [hy] at q2
  cases q1
  cases q2
  exact rep_pair hT (p1.kp _ k) (p2.kp _ k)
end
section
variable {X : Cx} {C : Cfg} {W : WX} {pos : Pos} {tg e : Expr} {e' : E}
/-- a sequence walked -/
theorem pi_seq (hK : X.K = C.K) (he : PE X e (tD C W e')) : PI X tg e (tI C W (.seq e')) := by
  refine ⟨fun pins s σ H R I h => ?_⟩
  obtain ⟨ρ, SV, hv, nd, h⟩ := h
  have h : tK C W σ SV H (fun ds _ _ H' (J : L2.It) => Wk C.K J H' ds) ((ev e' ρ).bind fun d ρ => liftO (seqOf d) ρ) R := h
  cases hev : ev e' ρ with
  | bad => rw [hev] at h; exact h.elim
  | exc x ρ1 =>
    rw [hev] at h
    refine (pi_tup he).run pins s σ H R I ⟨ρ, SV, hv, nd, ?_⟩
    rw [hev]
    exact h
  | ok d ρ1 =>
    rw [hev] at h
    obtain ⟨ds, hds, h⟩ := tK_lift (show tK C W σ SV H (fun ds _ _ H' (J : L2.It) => Wk C.K J H' ds) (liftO (seqOf d) ρ1) R from h)
    cases d with
    | tup xs =>
      cases hds
      refine (pi_tup he).run pins s σ H R I ⟨ρ, SV, hv, nd, ?_⟩
      rw [hev]
      rintro v H1 SV1 e1 ⟨⟨S, r⟩, _⟩
      obtain ⟨_, a, vs, rfl, q, r⟩ := r.rep
      rw [hK]
      exact ⟨a, rfl, ⟨vs, q⟩, h _ H1 SV1 e1 (wk_of walk_tup (fun H k => SqT.kp q k) r)⟩
    | lst o xs =>
      cases o with
      | true => cases hds
      | false =>
        cases hds
        refine (pi_list he).run pins s σ H R I ⟨ρ, SV, hv, nd, ?_⟩
        rw [hev]
        rintro v H1 SV1 e1 ⟨⟨S, r⟩, _⟩
        obtain ⟨_, a, vs, rfl, q, r⟩ := r.rep
        rw [hK]
        exact ⟨a, rfl, ⟨vs, q.sq⟩, h _ H1 SV1 e1 (wk_of walk_list (fun H k => (q.kp k).sq) r)⟩
    | scr ns =>
      cases hds
      refine (pi_list he).run pins s σ H R I ⟨ρ, SV, hv, nd, ?_⟩
      rw [hev]
      rintro v H1 SV1 e1 ⟨⟨S, r⟩, _⟩
      obtain ⟨_, a, rfl, q⟩ := r.rep
      rw [hK]
      exact ⟨a, rfl, ⟨_, q.sq⟩, h _ H1 SV1 e1 (wk_of walk_list (fun H k => (q.kp k).sq) (reps_ints ns))⟩
    | str z =>
      cases hds
      refine (pi_str he).run pins s σ H R I ⟨ρ, SV, hv, nd, ?_⟩
      rw [hev]
      rintro v H1 SV1 e1 ⟨⟨S, r⟩, _⟩
      refine ⟨z, r.rep.1, h _ H1 SV1 e1 (wk_of (vs := z.cps.toList.map fun c => V.str ⟨#[c]⟩) (G := fun _ => True) ?_ (fun _ _ => trivial) (reps_strs _))⟩
      have l : (z.cps.toList.map fun c => V.str ⟨#[c]⟩).length = z.cps.size := by simp
      rw [l]
      refine walk_str.mono (fun _ h => h) fun i H x H' _ _ ⟨e, c, hc, hx⟩ => ⟨e, ?_⟩
      rw [List.getElem?_map, Array.getElem?_toList, hc, hx]
      rfl
    | _ => cases hds
theorem pi_rng1 {a : Expr} {a' : E} {p : Pos} (hg : Gl X "range") (hm : X.mg "range" = none) (ha : PA X [a] (tA C W (.cons a' .nil))) (hs : starEach [a] X.env = [(false, eval a X.env)]) : PI X tg (.Call (.Name "range" p) [a] [] pos) (tI C W (.rng (.cons a' .nil))) := by
  refine ⟨fun pins s σ H R I h => (pi_range1 hg hm ha hs).run pins s σ H R I ?_⟩
  obtain ⟨ρ, SV, hv, nd, h⟩ := h
  have h : tK C W σ SV H (fun ds _ _ H' (J : L2.It) => Wk C.K J H' ds) ((evs (.cons a' .nil) ρ).bind fun ds ρ => liftO (rngOf ds) ρ) R := h
  refine ⟨ρ, SV, hv, nd, tK_bind0 h fun ds ρ1 vs H1 SV1 e1 ⟨⟨S, r1⟩, q1⟩ h1 => ?_⟩
  obtain ⟨l, hl, h1⟩ := tK_lift h1
  have r := r1.rep.reps rfl
  match ds, hl, r with
  | [.int j], hl, r =>
    change (if -4611686018427387904 ≤ j ∧ j < 4611686018427387904 then some (rngD 0 j.toNat) else none) = some l at hl
    split at hl
    · rename_i hc
      cases hl
      obtain ⟨v, vs', S1, S2, rfl, rd, rn, _⟩ := r
      obtain ⟨rfl, _⟩ := rn
      exact ⟨j, by rw [rd.1], hc.1, hc.2, h1 _ H1 SV1 e1 wk_range⟩
    · cases hl
  | [.int i, .int j], hl, r => cases r1.rep with | cons _ t => cases t
theorem pi_rng2 {a b : Expr} {a' b' : E} {p : Pos} (hg : Gl X "range") (hm : X.mg "range" = none) (ha : PA X [a, b] (tA C W (.cons a' (.cons b' .nil)))) (hs : starEach [a, b] X.env = [(false, eval a X.env), (false, eval b X.env)]) (hs2 : starEach [b] X.env = [(false, eval b X.env)]) : PI X tg (.Call (.Name "range" p) [a, b] [] pos) (tI C W (.rng (.cons a' (.cons b' .nil)))) := by
  refine ⟨fun pins s σ H R I h => (pi_range2 hg hm ha hs hs2).run pins s σ H R I ?_⟩
  obtain ⟨ρ, SV, hv, nd, h⟩ := h
  have h : tK C W σ SV H (fun ds _ _ H' (J : L2.It) => Wk C.K J H' ds) ((evs (.cons a' (.cons b' .nil)) ρ).bind fun ds ρ => liftO (rngOf ds) ρ) R := h
  refine ⟨ρ, SV, hv, nd, tK_bind0 h fun ds ρ1 vs H1 SV1 e1 ⟨⟨S, r1⟩, q1⟩ h1 => ?_⟩
  obtain ⟨l, hl, h1⟩ := tK_lift h1
  have r := r1.rep.reps rfl
  match ds, hl, r with
  | [.int i, .int j], hl, r =>
    change (if (-4611686018427387904 ≤ i ∧ i < 4611686018427387904) ∧ (-4611686018427387904 ≤ j ∧ j < 4611686018427387904) then some (rngD i (j - i).toNat) else none) = some l at hl
    split at hl
    · rename_i hc
      cases hl
      obtain ⟨v, vs', S1, S2, rfl, rd, ⟨w, vs2, S3, S4, rfl, rd2, rn, _⟩, _⟩ := r
      obtain ⟨rfl, _⟩ := rn
      exact ⟨i, j, by rw [rd.1, rd2.1], ⟨hc.1.1, hc.1.2, hc.2.1, hc.2.2⟩, h1 _ H1 SV1 e1 wk_range⟩
    · cases hl
  | [.int j], hl, r => cases r1.rep with | cons _ t => cases t
theorem pi_enum' {p tpos : Pos} {elts : List Expr} {kk : Nat} (hK : X.K = C.K) (hg : Gl X "enumerate") (hm : X.mg "enumerate" = none) (ha : PA X [e] (tA C W (.cons e' .nil))) (hs : starEach [e] X.env = [(false, eval e X.env)]) : PI X (.Tuple elts kk tpos) (.Call (.Name "enumerate" p) [e] [] pos) (tI C W (.enum e')) := by
  refine ⟨fun pins s σ H R I h => (pi_enumS hg hm ha hs).run pins s σ H R I ?_⟩
  obtain ⟨ρ, SV, hv, nd, h⟩ := h
  have h : tK C W σ SV H (fun ds _ _ H' (J : L2.It) => Wk C.K J H' ds) ((ev e' ρ).bind fun d ρ => liftO ((seqOf d).map (enumD 0)) ρ) R := h
  have h2 : tK C W σ SV H (fun ds _ _ H' (J : L2.It) => Wk C.K J H' ds) ((evs (.cons e' .nil) ρ).bind fun ds ρ => match ds with | [d] => liftO ((seqOf d).map (enumD 0)) ρ | _ => .bad) R := by
    have e : evs (.cons e' .nil) ρ = (ev e' ρ).bind fun d ρ => .ok [d] ρ := rfl
    rw [e]
    cases hev : ev e' ρ <;> rw [hev] at h <;> exact h
  refine ⟨ρ, SV, hv, nd, tK_bind0 h2 fun ds ρ1 vs H1 SV1 e1 ⟨⟨S, r1⟩, q1⟩ h1 => ?_⟩
  cases r1.rep with
  | @cons _ _ d ds v vs S T rd t =>
    cases t
    obtain ⟨l, hl, h1⟩ := tK_lift (show tK C W σ SV H (fun ds _ _ H' (J : L2.It) => Wk C.K J H' ds) (liftO ((seqOf d).map (enumD 0)) ρ1) R from h1)
    cases hsq : seqOf d with
    | none => rw [hsq] at hl; cases hl
    | some es =>
      rw [hsq] at hl
      cases hl
      refine ⟨v, rfl, fun u ru => ?_⟩
      obtain ⟨sr, ws, eu, ok, r⟩ := src_of rd hsq ru
      rw [hK]
      exact ⟨sr, ws, eu, ok H1 .refl, h1 _ H1 SV1 e1 (wk_enum ok r)⟩
theorem pi_zip' {a b : Expr} {a' b' : E} {p tpos : Pos} {elts : List Expr} {kk : Nat} (hK : X.K = C.K) (hg : Gl X "zip") (hm : X.mg "zip" = none) (ha : PA X [a, b] (tA C W (.cons a' (.cons b' .nil)))) (hs : starEach [a, b] X.env = (false, eval a X.env) :: starEach [b] X.env) (hpl : (backTo pos (starEach [b] X.env)).any (·.1) = false) :
    PI X (.Tuple elts kk tpos) (.Call (.Name "zip" p) [a, b] [] pos) (tI C W (.zip a' b')) := by
  refine ⟨fun pins s σ H R I h => (pi_zipS hg hm ha hs hpl).run pins s σ H R I ?_⟩
  obtain ⟨ρ, SV, hv, nd, h⟩ := h
  have h : tK C W σ SV H (fun ds _ _ H' (J : L2.It) => Wk C.K J H' ds) ((ev a' ρ).bind fun x ρ => (ev b' ρ).bind fun y ρ => (match seqOf x, seqOf y with | some xs, some ys => .ok (zipD xs ys) ρ | _, _ => .bad)) R := h
  have h2 : tK C W σ SV H (fun ds _ _ H' (J : L2.It) => Wk C.K J H' ds) ((evs (.cons a' (.cons b' .nil)) ρ).bind fun ds ρ => match ds with | [x, y] => (match seqOf x, seqOf y with | some xs, some ys => .ok (zipD xs ys) ρ | _, _ => .bad) | _ => .bad) R := by
    have e : evs (.cons a' (.cons b' .nil)) ρ = (ev a' ρ).bind fun d ρ => ((ev b' ρ).bind fun d ρ => .ok [d] ρ).bind fun ds ρ => .ok (d :: ds) ρ := rfl
    rw [e]
    cases hev : ev a' ρ with
    | bad => rw [hev] at h; exact h
    | exc x ρ1 => rw [hev] at h; exact h
    | ok d ρ1 =>
      rw [hev] at h
      have h : tK C W σ SV H (fun ds _ _ H' (J : L2.It) => Wk C.K J H' ds) ((ev b' ρ1).bind fun y ρ => (match seqOf d, seqOf y with | some xs, some ys => .ok (zipD xs ys) ρ | _, _ => .bad)) R := h
      show tK C W σ SV H _ ((((ev b' ρ1).bind fun d ρ => .ok [d] ρ).bind fun ds ρ => .ok (d :: ds) ρ).bind _) R
      cases hev2 : ev b' ρ1 <;> rw [hev2] at h <;> exact h
  refine ⟨ρ, SV, hv, nd, tK_bind0 h2 fun ds ρ1 vs H1 SV1 e1 ⟨⟨S, r1⟩, q1⟩ h1 => ?_⟩
  cases r1.rep with
  | @cons _ _ d ds v vs S T rd t =>
    cases t with
    | @cons _ _ d2 ds v2 vs S2 T2 rd2 t =>
      cases t
      have h1 : tK C W σ SV H (fun ds _ _ H' (J : L2.It) => Wk C.K J H' ds) (match seqOf d, seqOf d2 with | some xs, some ys => .ok (zipD xs ys) ρ1 | _, _ => .bad) R := h1
      cases hs1 : seqOf d with
      | none => rw [hs1] at h1; exact h1.elim
      | some xs =>
        cases hs2 : seqOf d2 with
        | none => rw [hs1, hs2] at h1; exact h1.elim
        | some ys =>
          rw [hs1, hs2] at h1
          refine ⟨v, v2, rfl, fun u u2 ru ru2 => ?_⟩
          obtain ⟨sr, ws, eu, ok, r⟩ := src_of rd hs1 ru
          obtain ⟨sr2, ws2, eu2, ok2, r2⟩ := src_of rd2 hs2 ru2
          rw [hK]
          exact ⟨sr, sr2, ws, ws2, eu, eu2, ok H1 .refl, ok2 H1 .refl, h1 _ H1 SV1 e1 (wk_zip ok ok2 r r2)⟩
end
end Ly

namespace Ly
open PySem PySem.Spec L2
variable [Fns]
section
variable {K : PySem.W.Frag} {SV SV1 SV2 : List Addr} {H H1 H2 : Hp} {σ τ : St} {ρ ρ1 ρ2 : Ev}
/-- a name set to an owned value -/
theorem vars_set {d : D} {v : V} {S : List Addr} (i : Nat) (hv : Vars K H ρ σ SV) (r : Rep K H d v S) (nd : (S ++ SV).Nodup) : ∃ SV', Vars K H (ρ.set i (some d)) (σ.set i (some v)) SV' ∧ SV'.Nodup ∧ ∀ a ∈ SV', a ∈ S ++ SV := by
  have l := hv.length
  by_cases hi : i < ρ.length
  · obtain ⟨S0, R, f⟩ := hv.foc i hi
    obtain ⟨SV', v', p⟩ := f.set H d v S .refl r
    refine ⟨SV', v', p.nodup_iff.mpr ?_, fun a ha => ?_⟩
    · refine List.nodup_append.mpr ⟨(List.nodup_append.mp nd).1, (List.nodup_append.mp (f.perm.nodup_iff.mp (List.nodup_append.mp nd).2.1)).2.1, fun a ha b hb e => ?_⟩
      exact (List.nodup_append.mp nd).2.2 a ha b (f.perm.mem_iff.mpr (List.mem_append_right _ hb)) e
    · rcases List.mem_append.mp (p.mem_iff.mp ha) with h | h
      · exact List.mem_append_left _ h
      · exact List.mem_append_right _ (f.perm.mem_iff.mpr (List.mem_append_right _ h))
  · rw [List.set_eq_of_length_le (by omega), List.set_eq_of_length_le (by omega)]
    exact ⟨SV, hv, (List.nodup_append.mp nd).2.1, fun a ha => List.mem_append_right _ ha⟩
theorem vars_set0 {d : D} {v : V} (i : Nat) (hv : Vars K H ρ σ SV) (r : Rep K H d v []) (nd : SV.Nodup) : ∃ SV', Vars K H (ρ.set i (some d)) (σ.set i (some v)) SV' ∧ SV'.Nodup ∧ ∀ a ∈ SV', a ∈ SV := vars_set i hv r nd
/-- a name without a value -/
theorem vars_out (i : Nat) (x : Option V) (hv : Vars K H ρ σ SV) (nd : SV.Nodup) : ∃ SV', Vars K H (ρ.set i none) (σ.set i x) SV' ∧ SV'.Nodup ∧ ∀ a ∈ SV', a ∈ SV := by
  have l := hv.length
  by_cases hi : i < ρ.length
  · obtain ⟨S0, R, f⟩ := hv.foc i hi
    obtain ⟨SV', v', p⟩ := f.out H (σ.set i x) .refl (fun j hj => List.getElem?_set_ne (Ne.symm hj)) (by simp)
    exact ⟨SV', v', p.nodup_iff.mpr (List.nodup_append.mp (f.perm.nodup_iff.mp nd)).2.1, fun a ha => f.perm.mem_iff.mpr (List.mem_append_right _ (p.mem_iff.mp ha))⟩
  · rw [List.set_eq_of_length_le (by omega), List.set_eq_of_length_le (by omega)]
    exact ⟨SV, hv, nd, fun a ha => ha⟩
theorem vars_wipe (hv : Vars K H ρ σ SV) (nd : SV.Nodup) : ∀ vs : List Nat, ∃ SV', Vars K H (wipeE ρ vs) (wipe σ vs) SV' ∧ SV'.Nodup ∧ ∀ a ∈ SV', a ∈ SV
  | [] => ⟨SV, hv, nd, fun _ h => h⟩
  | v :: vs => by
    obtain ⟨SV1, v1, n1, s1⟩ := vars_wipe hv nd vs
    obtain ⟨SV2, v2, n2, s2⟩ := vars_out v none v1 n1
    exact ⟨SV2, v2, n2, fun a ha => s1 a (s2 a ha)⟩
theorem vars_agree : ∀ {ρ : Ev} {σ τ : St} {SV : List Addr}, Vars K H ρ σ SV → τ.length = σ.length → (∀ (i : Nat) d, ρ[i]? = some (some d) → τ[i]? = σ[i]?) → Vars K H ρ τ SV
  | [], [], [], _, h, _, _ => h
  | [], [], _ :: _, _, _, h, _ => by simp at h
  | none :: ρ, _ :: σ, x :: τ, SV, h, l, ag => vars_agree (ρ := ρ) (σ := σ) (τ := τ) (SV := SV) h (by simpa using l) fun i d e => by simpa using ag (i + 1) d (by simpa using e)
  | none :: ρ, _ :: σ, [], _, _, l, _ => by simp at l
  | some d :: ρ, some v :: σ, x :: τ, _, h, l, ag => by
    obtain ⟨S, R, r, h, rfl⟩ := h
    have e : x = some v := by simpa using ag 0 d rfl
    subst e
    exact ⟨S, R, r, vars_agree h (by simpa using l) fun i d e => by simpa using ag (i + 1) d (by simpa using e), rfl⟩
  | some d :: ρ, some v :: σ, [], _, _, l, _ => by simp at l
  | some d :: ρ, none :: σ, _, _, h, _, _ => h.elim
  | [], _ :: _, _, _, h, _, _ => h.elim
  | none :: _, [], _, _, h, _, _ => h.elim
  | some _ :: _, [], _, _, h, _, _ => h.elim
theorem wipeE_not {i : Nat} {d : D} : ∀ {vs : List Nat}, (wipeE ρ vs)[i]? = some (some d) → i ∉ vs
  | [], _ => List.not_mem_nil
  | v :: vs, h => by
    have h : ((wipeE ρ vs).set v none)[i]? = some (some d) := h
    by_cases e : v = i
    · subst e
      by_cases hl : v < (wipeE ρ vs).length
      · rw [List.getElem?_set_self hl] at h; cases h
      · rw [List.getElem?_eq_none (by simpa using hl)] at h; cases h
    · rw [List.getElem?_set_ne e] at h
      exact fun z => (List.mem_cons.mp z).elim (fun q => e q.symm) (wipeE_not h)
theorem wipe_get {i : Nat} : ∀ {vs : List Nat}, i ∉ vs → (wipe σ vs)[i]? = σ[i]?
  | [], _ => rfl
  | v :: vs, h => by
    show ((wipe σ vs).set v none)[i]? = σ[i]?
    rw [List.getElem?_set_ne (fun e => h (by rw [e]; exact List.mem_cons_self))]
    exact wipe_get fun z => h (List.mem_cons_of_mem _ z)
theorem wipe_none {i : Nat} {vs : List Nat} (h : i ∈ vs) (hi : i < σ.length) : (wipe σ vs)[i]? = some none := by
  induction vs with
  | nil => cases h
  | cons v vs ih =>
    show ((wipe σ vs).set v none)[i]? = some none
    by_cases e : v = i
    · subst e
      rw [List.getElem?_set_self (by rw [wipe_length]; exact hi)]
    · rw [List.getElem?_set_ne e]
      rcases List.mem_cons.mp h with z | z
      · exact absurd z.symm e
      · exact ih z
theorem wipe_eq {vs : List Nat} (l : τ.length = σ.length) (h : ∀ i, i ∉ vs → τ[i]? = (wipe σ vs)[i]?) : wipe τ vs = wipe σ vs := by
  apply List.ext_getElem?
  intro i
  by_cases hi : i ∈ vs
  · by_cases hl : i < σ.length
    · rw [wipe_none hi (by omega), wipe_none hi hl]
    · rw [List.getElem?_eq_none (by rw [wipe_length]; omega), List.getElem?_eq_none (by rw [wipe_length]; omega)]
  · rw [wipe_get hi, h i hi]
theorem EnvP.tr (e1 : EnvP K SV H τ ρ1 H1 SV1) (e2 : EnvP K SV1 H1 σ ρ2 H2 SV2) : EnvP K SV H σ ρ2 H2 SV2 :=
  ⟨e2.vars, e2.nd, src_trans e1 e2.src, fun a o e hs => e2.ext a o (e1.ext a o e hs) fun h1 => by
    rcases e1.src a h1 with h | h
    · exact hs h
    · rw [e] at h; cases h⟩
theorem EnvP.apart (e : EnvP K SV H σ ρ1 H1 SV1) {a : Addr} {o : HO} (h : a ∉ SV) (ho : H a = some o) : a ∉ SV1 ∧ H1 a = some o := ⟨fun z => (e.src a z).elim h fun q => (by rw [ho] at q; cases q), e.ext a o ho h⟩
theorem EnvP.sub {SV' : List Addr} (v : Vars K H ρ σ SV') (nd : SV'.Nodup) (h : ∀ a ∈ SV', a ∈ SV) : EnvP K SV H σ ρ H SV' := ⟨v, nd, fun a ha => .inl (h a ha), .refl⟩
theorem kp_upd {S : List Addr} {a : Addr} {o o' : HO} (h : H a = some o) (m : Mb o) (n : a ∉ S) : Kp S H (upd H a o') := fun b u e q => by
  rw [upd_ne (fun z => ?_)]
  · exact e
  · subst z
    rw [h] at e
    cases e
    exact q.elim n fun z => z m
end

/-! ### targets -/
mutual
def tns : Tg → List Nat
  | .nm i => [i]
  | .tp ts => tnss ts
def tnss : Tgs → List Nat
  | .nil => []
  | .cons t ts => tns t ++ tnss ts
end
def tG (K : PySem.W.Frag) (tg : Tg) : TG := fun v σ H Q => ∃ d ρ SV ρ', Rep K H d v [] ∧ Vars K H ρ σ SV ∧ SV.Nodup ∧ bindT tg d ρ = some ρ' ∧
  ∀ σ' SV', Vars K H ρ' σ' SV' → SV'.Nodup → (∀ a ∈ SV', a ∈ SV) → (∀ i, i ∉ tns tg → σ'[i]? = σ[i]?) → σ'.length = σ.length → Q σ' H
def tGs (K : PySem.W.Frag) (tg : Tgs) : TGs := fun vs σ H Q => ∃ ds ρ SV ρ', Reps K H ds vs [] ∧ Vars K H ρ σ SV ∧ SV.Nodup ∧ bindTs tg ds ρ = some ρ' ∧
  ∀ σ' SV', Vars K H ρ' σ' SV' → SV'.Nodup → (∀ a ∈ SV', a ∈ SV) → (∀ i, i ∉ tnss tg → σ'[i]? = σ[i]?) → σ'.length = σ.length → Q σ' H
section
variable {X : Cx} {K : PySem.W.Frag} {pos : Pos}
theorem sg_name {i : Nat} {x : Str} (hN : X.N.Nodup) (hi : X.N[i]? = some x) (hx : Loc X.env.scope x) (hf : X.fn x = true ∨ X.env.scope.names.lookup x = some .local) : PG X (.Name x pos) (tG K (.nm i)) := by
  refine ⟨fun pins s σ H v u Q I r h => (pg_name hN hi hx hf).run pins s σ H v u Q I r ?_⟩
  obtain ⟨d, ρ, SV, ρ', rd, hv, nd, hb, k⟩ := h
  cases hb
  obtain ⟨SV', v', n', s'⟩ := vars_set0 i hv rd nd
  exact k _ SV' v' n' s' (fun j hj => List.getElem?_set_ne (fun e => hj (by rw [e]; exact List.mem_singleton_self _))) (by simp)
theorem sgs_nil : PGs X [] (tGs K .nil) := by
  refine ⟨fun pins s σ H vs us Q I r h => pgs_nil.run pins s σ H vs us Q I r ?_⟩
  obtain ⟨ds, ρ, SV, ρ', rd, hv, nd, hb, k⟩ := h
  cases ds with
  | cons _ _ => cases hb
  | nil =>
    cases hb
    exact ⟨rd.1, k σ SV hv nd (fun _ h => h) (fun _ _ => rfl) rfl⟩
theorem sgs_cons {e : Expr} {es : List Expr} {t : Tg} {ts : Tgs} (h1 : PG X e (tG K t)) (h2 : PGs X es (tGs K ts)) (hs : (assignEach (e :: es) X.env).map (·.2) = assign e X.env :: (assignEach es X.env).map (·.2)) : PGs X (e :: es) (tGs K (.cons t ts)) := by
  refine ⟨fun pins s σ H vs us Q I r h => (pgs_cons h1 h2 hs).run pins s σ H vs us Q I r ?_⟩
  obtain ⟨ds, ρ, SV, ρ', rd, hv, nd, hb, k⟩ := h
  cases ds with
  | nil => cases hb
  | cons d ds =>
    change (match bindT t d ρ with | some ρ' => bindTs ts ds ρ' | none => none) = some ρ' at hb
    cases ht : bindT t d ρ with
    | none => rw [ht] at hb; cases hb
    | some ρ1 =>
      rw [ht] at hb
      obtain ⟨v, vs', S1, S2, rfl, r1, r2, e⟩ := rd
      obtain ⟨rfl, rfl⟩ := List.append_eq_nil_iff.mp e.symm
      refine ⟨v, vs', rfl, d, ρ, SV, ρ1, r1, hv, nd, ht, fun σ1 SV1 v1 n1 s1 a1 l1 => ?_⟩
      exact ⟨ds, ρ1, SV1, ρ', r2, v1, n1, hb, fun σ2 SV2 v2 n2 s2 a2 l2 => k σ2 SV2 v2 n2 (fun a ha => s1 a (s2 a ha)) (fun j hj => by
        have hj : j ∉ tns t ++ tnss ts := hj
        rw [List.mem_append, not_or] at hj
        rw [a2 j hj.2, a1 j hj.1]) (by omega)⟩
def tlen : Tgs → Nat
  | .nil => 0
  | .cons _ ts => tlen ts + 1
theorem bindTs_tlen : ∀ {ts : Tgs} {ds : List D} {ρ ρ' : Ev}, bindTs ts ds ρ = some ρ' → ds.length = tlen ts
  | .nil, [], _, _, _ => rfl
  | .nil, _ :: _, _, _, h => by cases h
  | .cons t ts, [], _, _, h => by cases h
  | .cons t ts, d :: ds, ρ, ρ', h => by
    change (match bindT t d ρ with | some ρ' => bindTs ts ds ρ' | none => none) = some ρ' at h
    cases ht : bindT t d ρ with
    | none => rw [ht] at h; cases h
    | some ρ1 => rw [ht] at h; exact congrArg (· + 1) (bindTs_tlen h)
theorem sg_tup {es : List Expr} {k : Nat} {ts : Tgs} (hK : X.K = K) (hc : X.calm = true) (h : PGs X es (tGs K ts)) (hn : (assignEach es X.env).length = tlen ts) (hst : (assignEach es X.env).findIdx? (·.1) = none) : PG X (.Tuple es k pos) (tG K (.tp ts)) := by
  refine ⟨fun pins s σ H v u Q I r hw => ?_⟩
  obtain ⟨d, ρ, SV, ρ', rd, hv, nd, hb, kk⟩ := hw
  cases d with
  | tup xs =>
    obtain ⟨_, a, vs, rfl, q, rs⟩ := rd
    refine (pg_tup hc h hn hst).run pins s σ H _ u Q I r ?_
    rw [hK]
    exact ⟨a, vs, rfl, q, by rw [← rs.length]; exact bindTs_tlen hb, xs, ρ, SV, ρ', rs, hv, nd, hb, kk⟩
  | lst o xs =>
    cases o with
    | true => cases hb
    | false =>
      obtain ⟨_, a, vs, rfl, q, rs⟩ := rd
      refine (pg_lst hc h hn hst).run pins s σ H _ u Q I r ?_
      rw [hK]
      exact ⟨a, vs, rfl, q.sq, by rw [← rs.length]; exact bindTs_tlen hb, xs, ρ, SV, ρ', rs, hv, nd, hb, kk⟩
  | _ => cases hb
end

/-! ### comprehensions -/
theorem Wk.walk {K : PySem.W.Frag} {J : L2.It} {H0 : Hp} {ds : List D} (w : Wk K J H0 ds) : L2.Walk J ds.length (fun H => Kp [] H0 H) (fun i H x H' => ∀ d, ds[i]? = some d → Ext [] H H' ∧ Rep K H' d x []) :=
  ⟨fun i H hi k => w.goes i H hi k, fun H k => w.stops H k, fun i H x H' _ k y d hd => w.yields i H x H' d hd k y⟩
/-- the tests of a comprehension -/
def tCs (C : Cfg) (W : WX) (c : Es) : TT := fun σ H Q => ∃ ρ SV, Vars C.K H ρ σ SV ∧ SV.Nodup ∧ tK C W σ SV H (fun b _ _ _ v => v = b) (evC c ρ) Q
theorem tcs_nil {X : Cx} {C : Cfg} {W : WX} : PTs X [] (tCs C W .nil) := ⟨fun pins s σ H Q I ⟨ρ, SV, hv, nd, h⟩ => pts_nil.run pins s σ H Q I (h true H SV (.refl hv nd) rfl)⟩
theorem tcs_one {X : Cx} {C : Cfg} {W : WX} {c : Expr} {c' : E} (h : PT X c (tT C W c')) : PTs X [c] (tCs C W (.cons c' .nil)) :=
  ⟨fun pins s σ H Q I ⟨ρ, SV, hv, nd, hq⟩ => (pts_one h).run pins s σ H Q I ⟨ρ, SV, hv, nd, by
    have hq : tK C W σ SV H (fun b _ _ _ v => v = b) (evT c' ρ) Q := hq
    cases he : evT c' ρ with
    | bad => rw [he] at hq; exact hq
    | exc x ρ' => rw [he] at hq; exact hq
    | ok b ρ' => rw [he] at hq; exact fun v H' SV' e r => hq v H' SV' e r.1⟩⟩
def WF : WX := fun _ _ _ _ => False
theorem bind_ok {α β : Type} {m : Out α} {f : α → Ev → Out β} {z : β} {ρ : Ev} (h : m.bind f = .ok z ρ) : ∃ a ρ1, m = .ok a ρ1 ∧ f a ρ1 = .ok z ρ := by
  cases m with
  | bad => cases h
  | exc x ρ' => cases h
  | ok a ρ1 => exact ⟨a, ρ1, rfl, h⟩
theorem lcF_ok {ow : List Nat} {tg : Tg} {c : Es} {elt : E} {d : D} {ρ ρa : Ev} {x : List D} (h : lcF ow tg c elt d ρ = .ok x ρa) : ∃ ρb b ρc, bindT tg d ρ = some ρb ∧ evC c ρb = .ok b ρc ∧
    ((b = true ∧ ∃ y ρd, ev elt ρc = .ok y ρd ∧ x = [y] ∧ ρa = wipeE ρd ow) ∨ (b = false ∧ x = [] ∧ ρa = wipeE ρc ow)) := by
  unfold lcF at h
  cases hb : bindT tg d ρ with
  | none => rw [hb] at h; cases h
  | some ρb =>
    rw [hb] at h
    obtain ⟨b, ρc, h1, h⟩ := bind_ok h
    refine ⟨ρb, b, ρc, rfl, h1, ?_⟩
    cases b with
    | true =>
      rw [if_pos rfl] at h
      obtain ⟨y, ρd, h2, h⟩ := bind_ok h
      cases h
      exact .inl ⟨rfl, y, ρd, h2, rfl, rfl⟩
    | false =>
      rw [if_neg Bool.false_ne_true] at h
      cases h
      exact .inr ⟨rfl, rfl, rfl⟩
theorem nodup_mid {S T U : List Addr} {a : Addr} (h : (a :: (S ++ U)).Nodup) (ht : (T ++ U).Nodup) (hd : ∀ b ∈ T, b ≠ a ∧ b ∉ S) : (a :: ((S ++ T) ++ U)).Nodup := by
  obtain ⟨h1, h2⟩ := List.nodup_cons.mp h
  obtain ⟨n1, n2, n3⟩ := List.nodup_append.mp h2
  obtain ⟨m1, m2, m3⟩ := List.nodup_append.mp ht
  refine List.nodup_cons.mpr ⟨fun z => ?_, ?_⟩
  · rcases List.mem_append.mp z with z | z
    · rcases List.mem_append.mp z with z | z
      · exact h1 (List.mem_append_left _ z)
      · exact (hd a z).1 rfl
    · exact h1 (List.mem_append_right _ z)
  · rw [List.append_assoc]
    refine List.nodup_append.mpr ⟨n1, ht, fun x hx y hy e => ?_⟩
    subst e
    rcases List.mem_append.mp hy with z | z
    · exact (hd x z).2 hx
    · exact n3 x hx x z rfl
theorem lc_read {C : Cfg} {W : WX} {ow : List Nat} {tg : Tg} {it : It} {c : Es} {elt : E} {σ : St} {H : Hp} {Q : VK} (ho : own elt = true) (ht : ∀ i ∈ tns tg, i ∈ ow) (h : tD C W (.lc ow tg it c elt) σ H Q) :
    tLc (tI C W it) (tG C.K tg) (tCs C WF c) (tD C WF elt) ow σ H Q := by
  obtain ⟨ρ, SV, hv, nd, h⟩ := h
  have h : tK C W σ SV H (RD C.K SV H ρ true false) ((evIt it ρ).bind fun items ρ1 =>
    match lcLoop (lcF ow tg c elt) items (wipeE ρ1 ow) with
    | .ok ys ρ2 => if ys.length ≤ lim then .ok (.lst true ys) ρ2 else .bad
    | .exc _ _ => .bad
    | .bad => .bad) Q := h
  refine ⟨ρ, SV, hv, nd, tK_bind0 h fun ds ρ1 J H1 SV1 e1 wk h1 Dn hD => ?_⟩
  cases hl : lcLoop (lcF ow tg c elt) ds (wipeE ρ1 ow) with
  | bad => rw [hl] at h1; exact h1.elim
  | exc x ρ' => rw [hl] at h1; exact h1.elim
  | ok YS ρE =>
    rw [hl] at h1
    have h1 : tK C W σ SV H (RD C.K SV H ρ true false) (if YS.length ≤ lim then .ok (.lst true YS) ρE else .bad) Q := h1
    by_cases hlim : YS.length ≤ lim
    case neg => rw [if_neg hlim] at h1; exact h1.elim
    rw [if_pos hlim] at h1
    have dV : Dn ∉ SV1 := fun z => by
      obtain ⟨o, eo, _⟩ := e1.vars.owns Dn z
      rw [hD] at eo; cases eo
    refine L2.lc_it wk.walk (fun i H' => ∃ ρi SVi acc accV S, EnvP C.K SV1 H1 (wipe σ ow) ρi H' SVi ∧ (∀ (j : Nat) d, ρi[j]? = some (some d) → j ∉ ow) ∧ H' Dn = some (.lst accV) ∧ Reps C.K H' acc accV S ∧ (Dn :: (S ++ SVi)).Nodup ∧ (∀ a ∈ S, a ∈ SV1 ∨ H1 a = none) ∧ ∃ ys, lcLoop (lcF ow tg c elt) (ds.drop i) ρi = .ok ys ρE ∧ acc ++ ys = YS) ?_ ?_ ?_ ?_
    · obtain ⟨SV2, v2, n2, s2⟩ := vars_wipe e1.vars e1.nd ow
      have x : Ext [] H1 (upd H1 Dn (.lst [])) := Ext.new hD
      exact ⟨wipeE ρ1 ow, SV2, [], [], [], ⟨v2.kp (x.all _), n2, fun a ha => .inl (s2 a ha), x.weak _⟩, fun j d e => wipeE_not e, upd_same, Reps.nil, List.nodup_cons.mpr ⟨fun z => dV (s2 _ z), n2⟩, fun a ha => absurd ha List.not_mem_nil, YS, hl, rfl⟩
    · rintro i H' _ ⟨ρi, SVi, acc, accV, S, e, _⟩
      exact e.ext.kp e1.vars.owns fun a ha => absurd ha List.not_mem_nil
    · rintro i x Ha Hb hi ⟨ρi, SVi, acc, accV, S, e, nov, hDa, ra, ndp, srcS, ys, hys, hacc⟩ y
      obtain ⟨x1, rd⟩ := y ds[i] (by simp [hi])
      rw [List.drop_eq_getElem_cons hi] at hys
      obtain ⟨xs, ρa, hf, hys⟩ := bind_ok (show ((lcF ow tg c elt ds[i] ρi).bind fun x ρ1 => (lcLoop (lcF ow tg c elt) (ds.drop (i + 1)) ρ1).bind fun r ρ2 => .ok (x ++ r) ρ2) = .ok ys ρE from hys)
      obtain ⟨r, ρ2, hr, hys⟩ := bind_ok hys
      cases hys
      obtain ⟨ρb, b, ρc, hb1, hb2, hb3⟩ := lcF_ok hf
      have eb : EnvP C.K SV1 H1 (wipe σ ow) ρi Hb SVi := e.tr (e.ext0 x1)
      obtain ⟨nD, ndS⟩ := List.nodup_cons.mp ndp
      refine ⟨ds[i], ρi, SVi, ρb, rd, eb.vars, eb.nd, hb1, fun σ2 SV2 v2 n2 s2 ag len => ?_⟩
      have e2 : EnvP C.K SV1 H1 σ2 ρb Hb SV2 := eb.tr (EnvP.sub v2 n2 s2)
      have hw : wipe σ2 ow = wipe σ ow := wipe_eq (by rw [len, wipe_length]) fun j hj => ag j fun z => hj (ht j z)
      refine ⟨hw, ρb, SV2, v2, n2, ?_⟩
      rw [hb2]
      rintro v Hc SV3 e3 rfl
      -- what the list holds stays apart
      have own : ∀ a ∈ Dn :: S, ∃ o, Hb a = some o := fun a ha => by
        rcases List.mem_cons.mp ha with z | z
        · rw [z]; exact ⟨_, x1 _ _ hDa List.not_mem_nil⟩
        · obtain ⟨o, ho, _⟩ := ra.owns acc a z
          exact ⟨o, x1 _ _ ho List.not_mem_nil⟩
      have ap2 : ∀ a ∈ Dn :: S, a ∉ SV2 := fun a ha z => by
        rcases List.mem_cons.mp ha with q | q
        · exact nD (List.mem_append_right _ (by rw [← q]; exact s2 a z))
        · exact (List.nodup_append.mp ndS).2.2 a q a (s2 a z) rfl
      have ap3 : ∀ a ∈ Dn :: S, a ∉ SV3 := fun a ha => by
        obtain ⟨o, ho⟩ := own a ha
        exact (e3.apart (ap2 a ha) ho).1
      have k3 : Kp (Dn :: S) Hb Hc := e3.ext.kp v2.owns ap2
      have hDb : Hb Dn = some (.lst accV) := x1 _ _ hDa List.not_mem_nil
      have hDc : Hc Dn = some (.lst accV) := k3 _ _ hDb (.inl List.mem_cons_self)
      have rb : Reps C.K Hb acc accV S := ra.kp acc (x1.all _)
      have rc : Reps C.K Hc acc accV S := rb.kp acc (k3.sub fun a ha => List.mem_cons_of_mem _ ha)
      have ec : EnvP C.K SV1 H1 σ2 ρc Hc SV3 := e2.tr e3
      rcases hb3 with ⟨rfl, y, ρd, he, rfl, rfl⟩ | ⟨rfl, rfl, rfl⟩
      · rw [if_pos rfl]
        refine ⟨ρc, SV3, e3.vars, e3.nd, ?_⟩
        rw [he]
        rintro v Hd SV4 e4 ⟨⟨T, rT⟩, _⟩
        have k4 : Kp (Dn :: S) Hc Hd := e4.ext.kp e3.vars.owns ap3
        have hDd : Hd Dn = some (.lst accV) := k4 _ _ hDc (.inl List.mem_cons_self)
        have rd' : Reps C.K Hd acc accV S := rc.kp acc (k4.sub fun a ha => List.mem_cons_of_mem _ ha)
        have srcT : ∀ a ∈ T, a ∈ SV1 ∨ H1 a = none := src_trans ec (rT.src ho)
        have apT : ∀ a ∈ T, a ≠ Dn ∧ a ∉ S := fun a ha => by
          have bad : a ∉ Dn :: S := fun z => by
            obtain ⟨o, hoz⟩ := own a z
            rcases rT.src ho a ha with q | q
            · exact ap3 a z q
            · have := k3 a o hoz (.inl z)
              rw [q] at this; cases this
          exact ⟨fun z => bad (by rw [z]; exact List.mem_cons_self), fun z => bad (List.mem_cons_of_mem _ z)⟩
        have ap4 : ∀ a ∈ Dn :: S, a ∉ SV4 := fun a ha => by
          obtain ⟨o, hoz⟩ := own a ha
          exact (e4.apart (ap3 a ha) (k3 a o hoz (.inl ha))).1
        have ed : EnvP C.K SV1 H1 σ2 ρd Hd SV4 := ec.tr e4
        obtain ⟨SV5, v5, n5, s5⟩ := vars_wipe e4.vars e4.nd ow
        rw [hw] at v5
        have nT := rT.sep ho
        have n4 : (Dn :: (S ++ SV4)).Nodup := by
          refine List.nodup_cons.mpr ⟨fun z => ?_, List.nodup_append.mpr ⟨(List.nodup_append.mp ndS).1, e4.nd, fun a ha b hb q => ap4 a (List.mem_cons_of_mem _ ha) (by rw [q]; exact hb)⟩⟩
          rcases List.mem_append.mp z with z | z
          · exact nD (List.mem_append_left _ z)
          · exact ap4 Dn List.mem_cons_self z
        have n9 := nodup_mid n4 nT apT
        have n10 : (Dn :: ((S ++ T) ++ SV5)).Nodup := by
          obtain ⟨q1, q2⟩ := List.nodup_cons.mp n9
          obtain ⟨q3, q4, q5⟩ := List.nodup_append.mp q2
          refine List.nodup_cons.mpr ⟨fun z => q1 ?_, List.nodup_append.mpr ⟨q3, n5, fun a ha b hb => q5 a ha b (s5 b hb)⟩⟩
          rcases List.mem_append.mp z with z | z
          · exact List.mem_append_left _ z
          · exact List.mem_append_right _ (s5 _ z)
        obtain ⟨q1, q2⟩ := List.nodup_cons.mp n10
        refine ⟨accV, hDd, ?_, ?_⟩
        · rw [← rd'.length]
          have : acc.length + 1 ≤ YS.length := by rw [← hacc]; simp
          have := lim_eq
          omega
        have mb : Mb (.lst accV) := True.intro
        have kU : Kp ((S ++ T) ++ SV5) Hd (upd Hd Dn (.lst (accV ++ [v]))) := kp_upd hDd mb q1
        refine ⟨wipeE ρd ow, SV5, acc ++ [y], accV ++ [v], S ++ T, ⟨v5.kp (kU.sub fun a ha => List.mem_append_right _ ha), n5, fun a ha => ed.src a (s5 a ha), fun a o ha hs => ?_⟩, fun j d e => wipeE_not e, upd_same, ?_, n10, fun a ha => ?_, r, hr, by rw [← hacc]; simp⟩
        · rw [upd_ne (fun z => by rw [z, hD] at ha; cases ha)]
          exact ed.ext a o ha hs
        · have r9 := rd'.app (Reps.cons (S2 := []) rT.rep Reps.nil)
          rw [List.append_nil] at r9
          exact r9.kp _ (kU.sub fun a ha => List.mem_append_left _ ha)
        · rcases List.mem_append.mp ha with z | z
          · exact srcS a z
          · exact srcT a z
      · rw [if_neg Bool.false_ne_true]
        obtain ⟨SV5, v5, n5, s5⟩ := vars_wipe e3.vars e3.nd ow
        rw [hw] at v5
        refine ⟨wipeE ρc ow, SV5, acc, accV, S, ⟨v5, n5, fun a ha => ec.src a (s5 a ha), ec.ext⟩, fun j d e => wipeE_not e, hDc, rc, ?_, srcS, r, hr, by rw [← hacc]; rfl⟩
        refine List.nodup_cons.mpr ⟨fun z => ?_, List.nodup_append.mpr ⟨(List.nodup_append.mp ndS).1, n5, fun a ha b hb q => ap3 a (List.mem_cons_of_mem _ ha) (by rw [q]; exact s5 b hb)⟩⟩
        rcases List.mem_append.mp z with z | z
        · exact nD (List.mem_append_left _ z)
        · exact ap3 Dn List.mem_cons_self (s5 _ z)
    · rintro H' ⟨ρi, SVi, acc, accV, S, e, nov, hDa, ra, ndp, srcS, ys, hys, hacc⟩
      rw [List.drop_length] at hys
      cases hys
      rw [List.append_nil] at hacc
      subst hacc
      have l1 := e1.vars.length
      have vv : Vars C.K H' ρE σ SVi := vars_agree e.vars (by rw [wipe_length]) fun j d hj => (wipe_get (nov j d hj)).symm
      have es : EnvP C.K SV1 H1 σ ρE H' SVi := ⟨vv, e.nd, e.src, e.ext⟩
      refine h1 (.ref Dn) H' SVi (e1.trans es) ⟨⟨Dn :: S, ⟨Dn, accV, S, rfl, hDa, ra, rfl⟩, (fun _ => src_trans e1 fun a ha => ?_), (fun _ => ndp)⟩, (fun z => nomatch z)⟩
      rcases List.mem_cons.mp ha with z | z
      · rw [z]; exact .inr hD
      · exact srcS a z
end Ly

namespace Ly
open PySem PySem.Spec L2
variable [Fns]
/-- the names P stand as they stood -/
structure Kept (P : List Nat) (σ σ' : St) : Prop where
  at_ : ∀ i ∈ P, σ'[i]? = σ[i]?
  len : σ'.length = σ.length
theorem Kept.refl {P : List Nat} {σ : St} : Kept P σ σ := ⟨fun _ _ => rfl, rfl⟩
theorem Kept.trans {P : List Nat} {σ σ1 σ2 : St} (a : Kept P σ σ1) (b : Kept P σ1 σ2) : Kept P σ σ2 := ⟨fun i h => (b.at_ i h).trans (a.at_ i h), b.len.trans a.len⟩
/-- a value is given back -/
def RtP (K : PySem.W.Frag) (SV : List Addr) (H : Hp) (d : D) (SV' : List Addr) (H' : Hp) (v : V) : Prop := ∃ S, Rep K H' d v S ∧ (∀ a ∈ S, a ∈ SV ∨ H a = none) ∧ (S ++ SV').Nodup
/-- what is asked of a statement's outcome -/
def sK (C : Cfg) (W : WX) (P : List Nat) (σ : St) (SV : List Addr) (H : Hp) (D : Ends) (m : Out Fl) : Prop :=
  match m with
  | .ok .nx ρ' => ∀ σ' H' SV', EnvP C.K SV H σ' ρ' H' SV' → Kept P σ σ' → D.nx σ' H'
  | .ok .bk ρ' => ∀ σ' H' SV', EnvP C.K SV H σ' ρ' H' SV' → Kept P σ σ' → D.bk σ' H'
  | .ok .ct ρ' => ∀ σ' H' SV', EnvP C.K SV H σ' ρ' H' SV' → Kept P σ σ' → D.ct σ' H'
  | .ok (.rt d) ρ' => ∀ v σ' H' SV', EnvP C.K SV H σ' ρ' H' SV' → Kept P σ σ' → RtP C.K SV H d SV' H' v → D.rt v H'
  | .exc x ρ' => ∀ cls dd σ' H' SV', EnvP C.K SV H σ' ρ' H' SV' → Kept P σ σ' → C.ER x cls dd H' → W cls dd σ' H'
  | .bad => False
section
variable {C : Cfg} {W : WX} {P : List Nat} {SV SV1 : List Addr} {H H1 : Hp} {σ σ1 : St} {ρ ρ1 : Ev} {D : Ends} {m : Out Fl}
theorem RtP.re {d : _} {SV' : List Addr} {H' : Hp} {v : V} (e1 : EnvP C.K SV H σ1 ρ1 H1 SV1) (r : RtP C.K SV1 H1 d SV' H' v) : RtP C.K SV H d SV' H' v := by
  obtain ⟨S, a, b, c⟩ := r
  exact ⟨S, a, src_trans e1 b, c⟩
/-- begun again behind a part -/
theorem sK_re (e1 : EnvP C.K SV H σ1 ρ1 H1 SV1) (k : Kept P σ σ1) (h : sK C W P σ SV H D m) : sK C W P σ1 SV1 H1 D m := by
  cases m with
  | bad => exact h
  | exc x ρ' => exact fun cls dd σ' H' SV' e k' er => h cls dd σ' H' SV' (e1.tr e) (k.trans k') er
  | ok f ρ' =>
    cases f with
    | nx => exact fun σ' H' SV' e k' => h σ' H' SV' (e1.tr e) (k.trans k')
    | bk => exact fun σ' H' SV' e k' => h σ' H' SV' (e1.tr e) (k.trans k')
    | ct => exact fun σ' H' SV' e k' => h σ' H' SV' (e1.tr e) (k.trans k')
    | rt d => exact fun v σ' H' SV' e k' r => h v σ' H' SV' (e1.tr e) (k.trans k') (r.re e1)
theorem sK_bind {α β : Type} {R : α → Ev → List Addr → Hp → β → Prop} {m : Out α} {f : α → Ev → Out Fl} {Q1 : β → Hp → Prop}
    (h : sK C W P σ SV H D (m.bind f)) (k : ∀ d ρ1 v H1 SV1, EnvP C.K SV H σ ρ1 H1 SV1 → R d ρ1 SV1 H1 v → sK C W P σ SV H D (f d ρ1) → Q1 v H1) : tK C W σ SV H R m Q1 := by
  cases m with
  | bad => exact h
  | exc x ρ' => exact fun cls dd H' SV' e er => h cls dd σ H' SV' e .refl er
  | ok d ρ1 => exact fun v H1 SV1 e1 r1 => k d ρ1 v H1 SV1 e1 r1 h
theorem sK_lift {α : Type} {o : Option α} {f : α → Ev → Out Fl} (h : sK C W P σ SV H D ((liftO o ρ).bind f)) : ∃ z, o = some z ∧ sK C W P σ SV H D (f z ρ) := by
  cases o with
  | none => exact h.elim
  | some z => exact ⟨z, rfl, h⟩
end
def tS (C : Cfg) (W : WX) (P : List Nat) (b : S) : TS := fun D σ H => ∃ ρ SV, Vars C.K H ρ σ SV ∧ SV.Nodup ∧ sK C W P σ SV H D (ex b ρ)
def tSs (C : Cfg) (W : WX) (P : List Nat) (b : Ss) : TS := fun D σ H => ∃ ρ SV, Vars C.K H ρ σ SV ∧ SV.Nodup ∧ sK C W P σ SV H D (exs b ρ)
theorem psmono {X : Cx} {st : Stmt} {t t' : TS} (h : PS X st t) (k : ∀ D σ H, t' D σ H → t D σ H) : PS X st t' := ⟨fun pins s σ H D I q => h.run pins s σ H D I (k D σ H q)⟩
theorem pssmono {X : Cx} {st : List Stmt} {t t' : TS} (h : PSs X st t) (k : ∀ D σ H, t' D σ H → t D σ H) : PSs X st t' := ⟨fun pins s σ H D I q => h.run pins s σ H D I (k D σ H q)⟩
section
variable {X : Cx} {C : Cfg} {W : WX} {P : List Nat} {st : Stmt} {sts : List Stmt} {pos : Pos} {e : Expr} {e' : E} {b : S} {bs : Ss}
theorem ss_nil : PSs X [] (tSs C W P .nil) := pssmono pss_nil fun D σ H ⟨ρ, SV, hv, nd, h⟩ => h σ H SV (.refl hv nd) .refl
theorem ss_cons (h1 : PS X st (tS C W P b)) (h2 : PSs X sts (tSs C W P bs)) : PSs X (st :: sts) (tSs C W P (.cons b bs)) := by
  refine pssmono (pss_cons h1 h2) fun D σ H ⟨ρ, SV, hv, nd, h⟩ => ⟨ρ, SV, hv, nd, ?_⟩
  have h : sK C W P σ SV H D (match ex b ρ with | .ok .nx ρ' => exs bs ρ' | r => r) := h
  cases hx : ex b ρ with
  | bad => rw [hx] at h; exact h
  | exc x ρ' => rw [hx] at h; exact h
  | ok f ρ' =>
    rw [hx] at h
    cases f with
    | nx => exact fun σ' H' SV' e k => ⟨ρ', SV', e.vars, e.nd, sK_re e k h⟩
    | bk => exact h
    | ct => exact h
    | rt d => exact h
theorem s_pass : PS X (.Pass pos) (tS C W P .pass) := psmono ps_pass fun D σ H ⟨ρ, SV, hv, nd, h⟩ => h σ H SV (.refl hv nd) .refl
theorem s_doc {x j pos'} : PS X (.Expr (.Constant (.str x) j pos) pos') (tS C W P .pass) := psmono ps_doc fun D σ H ⟨ρ, SV, hv, nd, h⟩ => h σ H SV (.refl hv nd) .refl
theorem s_brk : PS X (.Break pos) (tS C W P .brk) := psmono ps_break fun D σ H ⟨ρ, SV, hv, nd, h⟩ => h σ H SV (.refl hv nd) .refl
theorem s_cnt : PS X (.Continue pos) (tS C W P .cnt) := psmono ps_continue fun D σ H ⟨ρ, SV, hv, nd, h⟩ => h σ H SV (.refl hv nd) .refl
theorem s_retN : PS X (.Return none pos) (tS C W P .retN) := psmono ps_retN fun D σ H ⟨ρ, SV, hv, nd, h⟩ => h .non σ H SV (.refl hv nd) .refl ⟨[], ⟨rfl, rfl⟩, (fun a ha => absurd ha List.not_mem_nil), nd⟩
theorem s_expr (he : PE X e (tD C W e')) (hs : swapsWith e none pos.line X.env = pure false) : PS X (.Expr e pos) (tS C W P (.expr e')) := by
  refine psmono (ps_expr he hs) fun D σ H ⟨ρ, SV, hv, nd, h⟩ => ⟨ρ, SV, hv, nd, ?_⟩
  exact sK_bind (show sK C W P σ SV H D ((ev e' ρ).bind fun _ ρ => .ok .nx ρ) from h) fun d ρ1 v H1 SV1 e1 _ h1 => h1 σ H1 SV1 e1 .refl
theorem s_ret (ho : own e' = true) (he : PE X e (tD C W e')) : PS X (.Return (some e) pos) (tS C W P (.ret e')) := by
  refine psmono (ps_ret he) fun D σ H ⟨ρ, SV, hv, nd, h⟩ => ⟨ρ, SV, hv, nd, ?_⟩
  exact sK_bind (show sK C W P σ SV H D ((ev e' ρ).bind fun d ρ => .ok (.rt d) ρ) from h) fun d ρ1 v H1 SV1 e1 ⟨⟨S, r⟩, _⟩ h1 => h1 v σ H1 SV1 e1 .refl ⟨S, r.rep, r.src ho, r.sep ho⟩
/-- a name set -/
theorem envp_set {K : PySem.W.Frag} {SV SV1 S : List Addr} {H H1 : Hp} {σ : St} {ρ1 : Ev} {d : D} {v : V} (i : Nat) (e1 : EnvP K SV H σ ρ1 H1 SV1) (rep : Rep K H1 d v S) (src : ∀ a ∈ S, a ∈ SV ∨ H a = none) (sep : (S ++ SV1).Nodup) : ∃ SV2, EnvP K SV H (σ.set i (some v)) (ρ1.set i (some d)) H1 SV2 ∧ ∀ a ∈ SV2, a ∈ S ++ SV1 := by
  obtain ⟨SV2, v2, n2, s2⟩ := vars_set i e1.vars rep sep
  refine ⟨SV2, ⟨v2, n2, fun a ha => ?_, e1.ext⟩, s2⟩
  rcases List.mem_append.mp (s2 a ha) with h | h
  · exact src a h
  · exact e1.src a h
theorem kept_set {σ : St} {i : Nat} {x : Option V} (h : i ∉ P) : Kept P σ (σ.set i x) := ⟨fun j hj => List.getElem?_set_ne (fun e => h (by rw [e]; exact hj)), by simp⟩
theorem s_asg {i : Nat} {x : Str} {pos' : Pos} (ho : own e' = true) (hP : i ∉ P) (hN : X.N.Nodup) (hi : X.N[i]? = some x) (hx : Loc X.env.scope x) (hf : X.fn x = true ∨ X.env.scope.names.lookup x = some .local) (he : PE X e (tD C W e')) (hs : swapsWith e (some (.Name x pos')) pos.line X.env = pure false) :
    PS X (.Assign [.Name x pos'] e pos) (tS C W P (.asg i e')) := by
  refine psmono (ps_set hN hi hx he hs hf) fun D σ H ⟨ρ, SV, hv, nd, h⟩ => ⟨ρ, SV, hv, nd, ?_⟩
  exact sK_bind (show sK C W P σ SV H D ((ev e' ρ).bind fun d ρ => .ok .nx (ρ.set i (some d))) from h) fun d ρ1 v H1 SV1 e1 ⟨⟨S, r⟩, _⟩ h1 => by
    obtain ⟨SV2, e2, _⟩ := envp_set i e1 r.rep (r.src ho) (r.sep ho)
    exact h1 _ H1 SV2 e2 (kept_set hP)
/-- y = [..] on one line -/
theorem s_asgLc {i : Nat} {y : Str} {py : Pos} {elt tg iter : Expr} {ifs : List Expr} {scope : Scope} {ow : List (Str × Nat)} {spos : Pos} {tg' : Tg} {it : It} {c : Es} {elt' : E} (ho : own elt' = true) (ht : ∀ i ∈ tns tg', i ∈ ow.map (·.2)) (hP : i ∉ P) (hc : X.calm = true) (hN : X.N.Nodup) (hy : X.N[i]? = some y) (hyl : X.env.scope.names.lookup y = some .local)
    (hsw : swapsWith (.ListComp elt [⟨tg, iter, ifs, 0⟩] scope pos) (some (.Name y py)) spos.line X.env = pure true) (hi : PI X tg iter (tI C W it)) (ok : BlkOk X.N X.env.scope scope ow)
    (hg : ∀ (s : Shared) (H : Hp) (Cc : Addr) (cl : List (Str × Addr)) (fp : List Addr), PG (X.blk s H scope (compEnvC scope cl Cc X.env) fp) tg (tG C.K tg')) (htt : ∀ (s : Shared) (H : Hp) (Cc : Addr) (cl : List (Str × Addr)) (fp : List Addr), PTs (X.blk s H scope (compEnvC scope cl Cc X.env) fp) ifs (tCs C WF c))
    (he : ∀ (s : Shared) (H : Hp) (Cc : Addr) (cl : List (Str × Addr)) (fp : List Addr), PE (X.blk s H scope (compEnvC scope cl Cc X.env) fp) elt (tD C WF elt')) (hs : ∀ x, foldedSetIterable iter X.env x = pure x) :
    PS X (.Assign [.Name y py] (.ListComp elt [⟨tg, iter, ifs, 0⟩] scope pos) spos) (tS C W P (.asg i (.lc (ow.map (·.2)) tg' it c elt'))) := by
  refine psmono (ps_setLc hc hN hy hyl hsw hi ok hg htt he hs) fun D σ H ⟨ρ, SV, hv, nd, h⟩ => lc_read ho ht ⟨ρ, SV, hv, nd, ?_⟩
  exact sK_bind (R := RD C.K SV H ρ true false) (show sK C W P σ SV H D ((ev (.lc (ow.map (·.2)) tg' it c elt') ρ).bind fun d ρ => .ok .nx (ρ.set i (some d))) from h) fun d ρ1 v H1 SV1 e1 ⟨⟨S, r⟩, _⟩ h1 => by
    obtain ⟨SV2, e2, _⟩ := envp_set i e1 r.rep (r.src rfl) (r.sep rfl)
    exact h1 _ H1 SV2 e2 (kept_set hP)
theorem se_lc {elt tg iter : Expr} {ifs : List Expr} {scope : Scope} {ow : List (Str × Nat)} {tg' : Tg} {it : It} {c : Es} {elt' : E} (ho : own elt' = true) (ht : ∀ i ∈ tns tg', i ∈ ow.map (·.2)) (hc : X.calm = true) (hN : X.N.Nodup) (hi : PI X tg iter (tI C W it)) (ok : BlkOk X.N X.env.scope scope ow)
    (hg : ∀ (s : Shared) (H : Hp) (Cc : Addr) (cl : List (Str × Addr)) (fp : List Addr), PG (X.blk s H scope (compEnvC scope cl Cc X.env) fp) tg (tG C.K tg')) (htt : ∀ (s : Shared) (H : Hp) (Cc : Addr) (cl : List (Str × Addr)) (fp : List Addr), PTs (X.blk s H scope (compEnvC scope cl Cc X.env) fp) ifs (tCs C WF c))
    (he : ∀ (s : Shared) (H : Hp) (Cc : Addr) (cl : List (Str × Addr)) (fp : List Addr), PE (X.blk s H scope (compEnvC scope cl Cc X.env) fp) elt (tD C WF elt')) (hs : ∀ x, foldedSetIterable iter X.env x = pure x) :
    PE X (.ListComp elt [⟨tg, iter, ifs, 0⟩] scope pos) (tD C W (.lc (ow.map (·.2)) tg' it c elt')) := pemono (pe_lc hc hN hi ok hg htt he hs) fun σ H Q h => lc_read ho ht h
/-- (a, b) = e -/
theorem s_asgT {tg : Expr} {ts : Tgs} (hP : ∀ i ∈ tnss ts, i ∉ P) (he : PE X e (tD C W e')) (hg : PG X tg (tG C.K (.tp ts))) (hs : swapsWithSole [tg] e pos.line X.env = pure false) (hw : swappedStores [tg] e X.env = pure none) (h1 : (assignEach [tg] X.env).map (·.2) = [assign tg X.env]) :
    PS X (.Assign [tg] e pos) (tS C W P (.asgT (.tp ts) e')) := by
  refine psmono (ps_asg he hg hs hw h1) fun D σ H ⟨ρ, SV, hv, nd, h⟩ => ⟨ρ, SV, hv, nd, ?_⟩
  refine sK_bind (show sK C W P σ SV H D ((ev e' ρ).bind fun d ρ => (match bindT (.tp ts) d ρ with | some ρ' => .ok .nx ρ' | none => .bad)) from h) fun d ρ1 v H1 SV1 e1 ⟨⟨S, r⟩, _⟩ h1 => ?_
  cases hb : bindT (.tp ts) d ρ1 with
  | none => rw [hb] at h1; exact h1.elim
  | some ρ2 =>
    rw [hb] at h1
    have hf : frzD d = true := by
      cases d with
      | tup _ => rfl
      | lst o _ => cases o with | true => cases hb | false => rfl
      | _ => cases hb
    have := r.rep.frz hf
    subst this
    refine ⟨d, ρ1, SV1, ρ2, r.rep, e1.vars, e1.nd, hb, fun σ' SV' v' n' s' ag l => ?_⟩
    exact h1 σ' H1 SV' (e1.tr (EnvP.sub v' n' s')) ⟨fun i hi => ag i fun z => hP i z hi, l⟩
/-- a, b = x, y -/
theorem s_asgP {i j : Nat} {x y : Str} {a b : Expr} {a' b' : E} {px py pt : Pos} {kt k2 pt2} (hPi : i ∉ P) (hPj : j ∉ P) (hc : X.calm = true) (hN : X.N.Nodup) (hi : X.N[i]? = some x) (hj : X.N[j]? = some y) (hij : i ≠ j)
    (hx : X.env.scope.names.lookup x = some .local) (hy : X.env.scope.names.lookup y = some .local) (ha : PA X [a, b] (tA C W (.cons a' (.cons b' .nil))))
    (hw : swappedStores [.Tuple [.Name x px, .Name y py] kt pt] (.Tuple [a, b] k2 pt2) X.env = pure (some [x, y]))
    (hs : swapsWithSole [.Tuple [.Name x px, .Name y py] kt pt] (.Tuple [a, b] k2 pt2) pos.line X.env = pure false) :
    PS X (.Assign [.Tuple [.Name x px, .Name y py] kt pt] (.Tuple [a, b] k2 pt2) pos) (tS C W P (.asgP i j a' b')) := by
  refine psmono (ps_par hc hN hi hj hij hx hy ha hw hs) fun D σ H ⟨ρ, SV, hv, nd, h⟩ => ⟨ρ, SV, hv, nd, ?_⟩
  have h : sK C W P σ SV H D ((ev a' ρ).bind fun x ρ => (ev b' ρ).bind fun y ρ => .ok .nx ((ρ.set i (some x)).set j (some y))) := h
  have h2 : sK C W P σ SV H D ((evs (.cons a' (.cons b' .nil)) ρ).bind fun ds ρ => match ds with | [x, y] => .ok .nx ((ρ.set i (some x)).set j (some y)) | _ => .bad) := by
    have e : evs (.cons a' (.cons b' .nil)) ρ = (ev a' ρ).bind fun d ρ => ((ev b' ρ).bind fun d ρ => .ok [d] ρ).bind fun ds ρ => .ok (d :: ds) ρ := rfl
    rw [e]
    cases hev : ev a' ρ with
    | bad => rw [hev] at h; exact h
    | exc x ρ1 => rw [hev] at h; exact h
    | ok d ρ1 =>
      rw [hev] at h
      have h : sK C W P σ SV H D ((ev b' ρ1).bind fun y ρ => .ok .nx ((ρ.set i (some d)).set j (some y))) := h
      show sK C W P σ SV H D ((((ev b' ρ1).bind fun d ρ => .ok [d] ρ).bind fun ds ρ => .ok (d :: ds) ρ).bind _)
      cases hev2 : ev b' ρ1 <;> rw [hev2] at h <;> exact h
  refine sK_bind h2 fun ds ρ1 vs H1 SV1 e1 ⟨⟨S, r1⟩, _⟩ h1 => ?_
  have hsep := r1.sep
  have hsrc := r1.src
  cases r1.rep with
  | @cons _ _ d ds v vs S T rd t =>
    cases t with
    | @cons _ _ d2 ds v2 vs S2 T2 rd2 t =>
      cases t
      rw [List.append_nil] at hsep hsrc
      rw [List.append_assoc] at hsep
      obtain ⟨n1, n2, n3⟩ := List.nodup_append.mp hsep
      refine ⟨v, v2, rfl, ?_⟩
      have sepA : (S ++ SV1).Nodup := List.nodup_append.mpr ⟨n1, e1.nd, fun a ha b hb => n3 a ha b (List.mem_append_right _ hb)⟩
      obtain ⟨SV2, e2, m2⟩ := envp_set i e1 rd (fun a ha => hsrc a (List.mem_append_left _ ha)) sepA
      have sepB : (S2 ++ SV2).Nodup := List.nodup_append.mpr ⟨(List.nodup_append.mp n2).1, e2.nd, fun a ha b hb q => by
        subst q
        rcases List.mem_append.mp (m2 a hb) with z | z
        · exact n3 a z a (List.mem_append_left _ ha) rfl
        · exact (List.nodup_append.mp n2).2.2 a ha a z rfl⟩
      obtain ⟨SV3, e3, m3⟩ := envp_set j e2 rd2 (fun a ha => hsrc a (List.mem_append_right _ ha)) sepB
      exact h1 _ H1 SV3 e3 ((kept_set hPi).trans (kept_set hPj))
/-- x op= e, numbers -/
def ipOp : Operator → Option O2
  | .Add => some .add
  | .Sub => some .sub
  | _ => none
theorem s_aug {i : Nat} {x : Str} {op : Operator} {o : O2} {pos' : Pos} (hop : ipOp op = some o) (hP : i ∉ P) (hN : X.N.Nodup) (hi : X.N[i]? = some x) (hx : Loc X.env.scope x) (hf : X.fn x = true ∨ X.env.scope.names.lookup x = some .local) (he : PE X e (tD C W e')) :
    PS X (.AugAssign (.Name x pos') op e pos) (tS C W P (.aug i o e')) := by
  have key : ∃ f : Int → Int → Int, PIp X op (ipI f) ∧ (∀ m n, o.sem (.int m) (.int n) = some (.int (f m n))) := by
    cases op <;> first | (cases hop; exact ⟨_, ip_add, fun _ _ => rfl⟩) | (cases hop; exact ⟨_, ip_sub, fun _ _ => rfl⟩) | cases hop
  obtain ⟨f, hip, hsem⟩ := key
  refine psmono (ps_aug hN hi hx he hip hf) fun D σ H ⟨ρ, SV, hv, nd, h⟩ => ?_
  have h : sK C W P σ SV H D (match getV ρ i with
    | some (.int m) => (ev e' ρ).bind fun y ρ => (match y with | .int n => (match o.sem (.int m) (.int n) with | some z => .ok .nx (ρ.set i (some z)) | none => .bad) | _ => .bad)
    | _ => .bad) := h
  cases hg : getV ρ i with
  | none => rw [hg] at h; exact h.elim
  | some d =>
    rw [hg] at h
    cases d with
    | int m =>
      obtain ⟨v, S, R, ev1, rv, _⟩ := var_at hv hg
      refine ⟨v, ev1, ρ, SV, hv, nd, sK_bind h fun y ρ1 w H1 SV1 e1 ⟨⟨T, r⟩, _⟩ h1 => ?_⟩
      cases y with
      | int n =>
        have h1 : sK C W P σ SV H D (match o.sem (.int m) (.int n) with | some z => .ok .nx (ρ1.set i (some z)) | none => .bad) := h1
        rw [hsem] at h1
        refine ⟨m, n, rv.1, r.rep.1, ?_⟩
        obtain ⟨SV2, e2, _⟩ := envp_set (d := .int (f m n)) (v := .int (f m n)) (S := []) i e1 ⟨rfl, rfl⟩ (fun a ha => absurd ha List.not_mem_nil) e1.nd
        exact h1 _ H1 SV2 e2 (kept_set hP)
      | _ => exact h1.elim
    | _ => exact h.elim
/-- if -/
theorem s_iff {c : Expr} {c' : E} {as bs : List Stmt} {as' bs' : Ss} (hc : PT X c (tT C W c')) (ha : PSs X as (tSs C W P as')) (hb : PSs X bs (tSs C W P bs')) : PS X (.If c as bs pos) (tS C W P (.iff c' as' bs')) := by
  refine psmono (ps_if hc ha hb) fun D σ H ⟨ρ, SV, hv, nd, h⟩ => ⟨ρ, SV, hv, nd, ?_⟩
  have h : sK C W P σ SV H D ((ev c' ρ).bind fun x ρ => (match truth x with | some true => exs as' ρ | some false => exs bs' ρ | none => .bad)) := h
  have h2 : sK C W P σ SV H D ((evT c' ρ).bind fun x ρ => if x = true then exs as' ρ else exs bs' ρ) := by
    unfold evT
    cases hx : ev c' ρ with
    | bad => rw [hx] at h; exact h
    | exc x ρ' => rw [hx] at h; exact h
    | ok x ρ' =>
      rw [hx] at h
      have h : sK C W P σ SV H D (match truth x with | some true => exs as' ρ' | some false => exs bs' ρ' | none => .bad) := h
      show sK C W P σ SV H D ((liftO (truth x) ρ').bind _)
      cases ht : truth x with
      | none => rw [ht] at h; exact h
      | some t => rw [ht] at h; cases t <;> exact h
  refine sK_bind h2 fun t ρ1 v H1 SV1 e1 ⟨r, _⟩ h1 => ?_
  subst r
  cases v with
  | true => rw [if_pos rfl] at h1 ⊢; exact ⟨ρ1, SV1, e1.vars, e1.nd, sK_re e1 .refl h1⟩
  | false => rw [if_neg Bool.false_ne_true] at h1 ⊢; exact ⟨ρ1, SV1, e1.vars, e1.nd, sK_re e1 .refl h1⟩
/-- while -/
theorem s_whl {c : Expr} {c' : E} {bs : List Stmt} {bs' : Ss} (hp : PassesOwn (model X.prog X.w) X.A X.env X.xe) (hc : PT X c (tT C W c')) (hb : PSs X bs (tSs C W P bs')) : PS X (.While c bs [] pos) (tS C W P (.whl c' bs')) := by
  refine psmono (ps_while hp hc hb) fun D σ H ⟨ρ, SV, hv, nd, h⟩ => ?_
  refine ⟨fun m σ H => ∃ ρ SV, Vars C.K H ρ σ SV ∧ SV.Nodup ∧ sK C W P σ SV H D (whLoop (ev c') (exs bs') m ρ), ⟨FUEL, ρ, SV, hv, nd, h⟩, ?_⟩
  rintro m σ H ⟨ρ, SV, hv, nd, h⟩
  cases m with
  | zero => exact h.elim
  | succ m =>
    have h2 : sK C W P σ SV H D ((evT c' ρ).bind fun t ρ1 => if t = true then (match exs bs' ρ1 with
        | .ok .nx ρ2 => whLoop (ev c') (exs bs') m ρ2
        | .ok .ct ρ2 => whLoop (ev c') (exs bs') m ρ2
        | .ok .bk ρ2 => .ok .nx ρ2
        | .ok (.rt v) ρ2 => .ok (.rt v) ρ2
        | .exc x ρ2 => .exc x ρ2
        | .bad => .bad) else .ok .nx ρ1) := by
      unfold whLoop at h
      unfold evT
      cases hx : ev c' ρ with
      | bad => rw [hx] at h; exact h
      | exc x ρ' => rw [hx] at h; exact h
      | ok x ρ' =>
        rw [hx] at h
        show sK C W P σ SV H D ((liftO (truth x) ρ').bind _)
        cases ht : truth x with
        | none => simp only [ht] at h; exact h
        | some t => simp only [ht] at h; cases t <;> exact h
    refine ⟨ρ, SV, hv, nd, sK_bind h2 fun t ρ1 v H1 SV1 e1 ⟨r, _⟩ h1 => ?_⟩
    subst r
    cases v with
    | false => rw [if_neg Bool.false_ne_true] at h1 ⊢; exact h1 σ H1 SV1 e1 .refl
    | true =>
      rw [if_pos rfl] at h1 ⊢
      refine ⟨fun σ H => ∃ ρ SV, Vars C.K H ρ σ SV ∧ SV.Nodup ∧ sK C W P σ SV H D (whLoop (ev c') (exs bs') m ρ), fun σ' H' q => ⟨m, Nat.lt_succ_self m, q⟩, ρ1, SV1, e1.vars, e1.nd, ?_⟩
      have h1 := sK_re e1 .refl h1
      cases hx : exs bs' ρ1 with
      | bad => rw [hx] at h1; exact h1
      | exc x ρ' => rw [hx] at h1; exact h1
      | ok f ρ2 =>
        rw [hx] at h1
        cases f with
        | nx => exact fun σ' H' SV' e k => ⟨ρ2, SV', e.vars, e.nd, sK_re e k h1⟩
        | ct => exact fun σ' H' SV' e k => ⟨ρ2, SV', e.vars, e.nd, sK_re e k h1⟩
        | bk => exact h1
        | rt d => exact h1
/-- for -/
theorem s_for {tg iter : Expr} {tg' : Tg} {it : It} {bs : List Stmt} {bs' : Ss} (hP : ∀ i ∈ tns tg', i ∉ P) (hp : PassesOwn (model X.prog X.w) X.A X.env X.xe) (hc : X.calm = true) (hi : PI X tg iter (tI C W it)) (hg : PG X tg (tG C.K tg')) (hb : PSs X bs (tSs C W P bs')) (hs : ∀ x, foldedSetIterable iter X.env x = pure x) :
    PS X (.For tg iter bs [] pos) (tS C W P (.forr tg' it bs')) := by
  refine psmono (ps_for hp hc hi hg hb hs) fun D σ H ⟨ρ, SV, hv, nd, h⟩ => ?_
  have h : sK C W P σ SV H D ((evIt it ρ).bind fun items ρ => forLoop tg' (exs bs') items ρ) := h
  refine ⟨ρ, SV, hv, nd, sK_bind h fun ds ρ1 J H1 SV1 e1 wk h1 => ?_⟩
  have h1 := sK_re e1 .refl h1
  refine L2.for_it wk.walk (fun i σ' H' => ∃ ρ' SV', EnvP C.K SV1 H1 σ' ρ' H' SV' ∧ sK C W P σ' SV' H' D (forLoop tg' (exs bs') (ds.drop i) ρ')) ⟨ρ1, SV1, .refl e1.vars e1.nd, h1⟩ ?_ ?_ ?_
  · rintro i σ' H' _ ⟨ρ', SV', e, _⟩
    exact e.ext.kp e1.vars.owns fun a ha => absurd ha List.not_mem_nil
  · rintro i x σ' Ha Hb hi' ⟨ρi, SVi, e, hk⟩ y
    obtain ⟨x1, rd⟩ := y ds[i] (by simp [hi'])
    rw [List.drop_eq_getElem_cons hi'] at hk
    have ei : EnvP C.K SVi Ha σ' ρi Hb SVi := (EnvP.refl e.vars e.nd).ext0 x1
    have hk : sK C W P σ' SVi Ha D (match bindT tg' ds[i] ρi with
      | none => .bad
      | some ρ1 => match exs bs' ρ1 with
        | .ok .nx ρ2 => forLoop tg' (exs bs') (ds.drop (i + 1)) ρ2
        | .ok .ct ρ2 => forLoop tg' (exs bs') (ds.drop (i + 1)) ρ2
        | .ok .bk ρ2 => .ok .nx ρ2
        | .ok (.rt v) ρ2 => .ok (.rt v) ρ2
        | .exc x ρ2 => .exc x ρ2
        | .bad => .bad) := hk
    cases hbd : bindT tg' ds[i] ρi with
    | none => rw [hbd] at hk; exact hk.elim
    | some ρb =>
      rw [hbd] at hk
      refine ⟨ds[i], ρi, SVi, ρb, rd, ei.vars, ei.nd, hbd, fun σ2 SV2 v2 n2 s2 ag len => ⟨ρb, SV2, v2, n2, ?_⟩⟩
      have e2 : EnvP C.K SVi Ha σ2 ρb Hb SV2 := ei.tr (EnvP.sub v2 n2 s2)
      have k2 : Kept P σ' σ2 := ⟨fun j hj => ag j fun z => hP j z hj, len⟩
      have hk := sK_re e2 k2 hk
      dsimp only at hk
      have e3 : EnvP C.K SV1 H1 σ2 ρb Hb SV2 := e.tr e2
      cases hx : exs bs' ρb with
      | bad => rw [hx] at hk; exact hk
      | exc x ρ' => rw [hx] at hk; exact hk
      | ok f ρ2 =>
        rw [hx] at hk
        cases f with
        | nx => exact fun σ' H' SV' e k => ⟨ρ2, SV', e3.tr e, sK_re e k hk⟩
        | ct => exact fun σ' H' SV' e k => ⟨ρ2, SV', e3.tr e, sK_re e k hk⟩
        | bk => exact hk
        | rt d => exact hk
  · rintro σ' H' ⟨ρi, SVi, e, hk⟩
    rw [List.drop_length] at hk
    exact hk σ' H' SVi (.refl e.vars e.nd) .refl
end
end Ly

namespace Ly
open PySem PySem.Spec L2
variable [Fns]
section
variable {K : PySem.W.Frag} {SV SV1 : List Addr} {H H1 : Hp} {σ : St} {ρ ρ1 : Ev}
/-- the object at a of the name i is written -/
theorem obj_write {i : Nat} {a : Addr} {S' S2 R : List Addr} {o o2 : HO} {d2 : D} (e1 : EnvP K SV H σ ρ1 H1 SV1) (f : Foc K H1 ρ1 σ SV1 i (a :: S') R) (hσ : σ[i]? = some (some (.ref a))) (ho : H1 a = some o) (m : Mb o)
    (rep : Rep K (upd H1 a o2) d2 (.ref a) (a :: S2)) (nd : (a :: (S2 ++ R)).Nodup) (src : ∀ b ∈ S2, b ∈ SV ∨ H b = none) :
    ∃ SV2, EnvP K SV H σ (ρ1.set i (some d2)) (upd H1 a o2) SV2 ∧ SV2.Perm (a :: (S2 ++ R)) := by
  have aR : a ∉ R := fun z => (List.nodup_cons.mp nd).1 (List.mem_append_right _ z)
  have kR : Kp R H1 (upd H1 a o2) := kp_upd ho m aR
  obtain ⟨SV2, v2, p2⟩ := f.set _ d2 _ _ kR rep
  rw [set_same hσ] at v2
  have p2' : SV2.Perm (a :: (S2 ++ R)) := p2
  have a1 : a ∈ SV1 := f.perm.mem_iff.mpr (List.mem_append_left _ List.mem_cons_self)
  refine ⟨SV2, ⟨v2, p2'.nodup_iff.mpr nd, fun b hb => ?_, fun b u hb hs => ?_⟩, p2'⟩
  · rcases List.mem_cons.mp (p2'.mem_iff.mp hb) with z | z
    · rw [z]; exact e1.src a a1
    · rcases List.mem_append.mp z with z | z
      · exact src b z
      · exact e1.src b (f.perm.mem_iff.mpr (List.mem_append_right _ z))
  · rw [upd_ne (fun z => ?_)]
    · exact e1.ext b u hb hs
    · subst z
      rcases e1.src b a1 with q | q
      · exact hs q
      · rw [hb] at q; cases q
/-- an own list of a name -/
theorem lst_at {i : Nat} {xs : List D} (hv : Vars K H ρ σ SV) (h : getV ρ i = some (.lst true xs)) : ∃ a vs S' R, σ[i]? = some (some (.ref a)) ∧ H a = some (.lst vs) ∧ Reps K H xs vs S' ∧ Foc K H ρ σ SV i (a :: S') R := by
  obtain ⟨v, S, R, e1, r, f⟩ := var_at hv h
  obtain ⟨a, vs, S', rfl, q, rs, rfl⟩ := r
  exact ⟨a, vs, S', R, e1, q, rs, f⟩
theorem isL_some {i : Nat} (h : isL ρ i = true) : ∃ xs, getV ρ i = some (.lst true xs) := by
  unfold isL at h
  split at h
  · rename_i xs e; exact ⟨xs, e⟩
  · cases h
theorem Reps.split : ∀ {ds : List D} {vs : List V} {S : List Addr} {k : Nat} {d : D}, Reps K H ds vs S → ds[k]? = some d → ∃ v T R, vs[k]? = some v ∧ Rep K H d v T ∧ S.Perm (T ++ R) ∧ Reps K H (ds.eraseIdx k) (vs.eraseIdx k) R ∧ ∀ d' v' T', Rep K H d' v' T' → ∃ S2, Reps K H (ds.set k d') (vs.set k v') S2 ∧ S2.Perm (T' ++ R)
  | [], _, _, _, _, _, h => by simp at h
  | e :: ds, _, _, 0, d, h, hk => by
    obtain ⟨v, r, S1, S2, rfl, q1, q2, rfl⟩ := h
    cases (show e = d by simpa using hk)
    exact ⟨v, S1, S2, rfl, q1, .refl _, q2, fun d' v' T' r' => ⟨T' ++ S2, Reps.cons r' q2, .refl _⟩⟩
  | e :: ds, _, _, k + 1, d, h, hk => by
    obtain ⟨v, r, S1, S2, rfl, q1, q2, rfl⟩ := h
    obtain ⟨v1, T, R, h1, h2, h3, h4, h5⟩ := Reps.split (k := k) q2 (by simpa using hk)
    refine ⟨v1, T, S1 ++ R, by simpa using h1, h2, ?_, Reps.cons q1 h4, fun d' v' T' r' => ?_⟩
    · refine (h3.append_left S1).trans ?_
      rw [← List.append_assoc, ← List.append_assoc]
      exact (List.perm_append_comm).append_right R
    · obtain ⟨S3, h6, h7⟩ := h5 d' v' T' r'
      refine ⟨S1 ++ S3, Reps.cons q1 h6, (h7.append_left S1).trans ?_⟩
      rw [← List.append_assoc, ← List.append_assoc]
      exact (List.perm_append_comm).append_right R
end
section
variable {X : Cx} {C : Cfg} {W : WX} {P : List Nat} {pos : Pos} {e : Expr} {e' : E}
theorem sK_bind2 {α β : Type} {SV SV1 : List Addr} {H H1 : Hp} {σ : St} {ρ1 : Ev} {D : Ends} {R : α → Ev → List Addr → Hp → β → Prop} {m : Out α} {f : α → Ev → Out Fl} {Q1 : β → Hp → Prop} (e1 : EnvP C.K SV H σ ρ1 H1 SV1)
    (h : sK C W P σ SV H D (m.bind f)) (k : ∀ d ρ2 v H2 SV2, EnvP C.K SV1 H1 σ ρ2 H2 SV2 → R d ρ2 SV2 H2 v → sK C W P σ SV H D (f d ρ2) → Q1 v H2) : tK C W σ SV1 H1 R m Q1 := by
  cases m with
  | bad => exact h
  | exc x ρ' => exact fun cls dd H' SV' e er => h cls dd σ H' SV' (e1.trans e) .refl er
  | ok d ρ2 => exact fun v H2 SV2 e2 r2 => k d ρ2 v H2 SV2 e2 r2 h
/-- x.append(e) -/
theorem s_app {i : Nat} {x : Str} {p apos cpos pos : Pos} (hK : X.K = C.K) (ho : own e' = true) (hN : X.N[i]? = some x) (hv : Vis X.env.scope x) (hd : (x == ("__debug__" : Str)) = false) (hcd : (x == ("__classdict__" : Str)) = false) (ha : PA X [e] (tA C W (.cons e' .nil)))
    (hbase : attributeBase (.Name x p) "append" X.env (eval (.Name x p) X.env) = eval (.Name x p) X.env)
    (hfew : ((backTo cpos (starEach [e] X.env)).all (fun x => !x.1) && (backToKw cpos (keywordEach [] X.env)).all (fun x => x.1.isSome)
      && decide (([e] : List Expr).length + ([] : List Keyword).length + (if ([] : List Keyword).isEmpty then 0 else 1) < 30)) = true)
    (hline : (apos.endLine == cpos.line) = true) (hs : starEach [e] X.env = (false, eval e X.env) :: starEach [] X.env) (hplain : (backTo cpos (starEach [] X.env)).any (·.1) = false) (hsw : swapsWith (.Call (.Attribute (.Name x p) "append" apos) [e] [] cpos) none pos.line X.env = pure false) :
    PS X (.Expr (.Call (.Attribute (.Name x p) "append" apos) [e] [] cpos) pos) (tS C W P (.app i e')) := by
  refine psmono (ps_expr (pe_bm PySem.F.plainAttrs_list PySem.F.slot_list_append PySem.F.type_list_append mt_append (pe_var hN hv hd hcd) ha hbase hfew hline hs hplain) hsw) fun D σ H ⟨ρ, SV, hv', nd, h⟩ => ?_
  have h : sK C W P σ SV H D (if isL ρ i = true then (ev e' ρ).bind fun d ρ => (onL (appF d) i ρ).bind fun _ ρ => .ok .nx ρ else .bad) := h
  by_cases hl : isL ρ i = true
  case neg => rw [if_neg hl] at h; exact h.elim
  rw [if_pos hl] at h
  obtain ⟨xs0, h0⟩ := isL_some hl
  obtain ⟨a, vs0, S0, R0, hσ, hH0, _, _⟩ := lst_at hv' h0
  refine ⟨.ref a, hσ, .inl ⟨rfl, vs0, .inl (.inl hH0)⟩, ρ, SV, hv', nd, ?_⟩
  have e3 : evs (.cons e' .nil) ρ = (ev e' ρ).bind fun d ρ => .ok [d] ρ := rfl
  have h2 : sK C W P σ SV H D ((evs (.cons e' .nil) ρ).bind fun ds ρ => match ds with | [d] => (onL (appF d) i ρ).bind fun _ ρ => .ok .nx ρ | _ => .bad) := by
    rw [e3]
    cases hev : ev e' ρ <;> rw [hev] at h <;> exact h
  refine sK_bind h2 fun ds ρ1 vs H1 SV1 e1 ⟨⟨S, r1⟩, _⟩ h1 => ?_
  have hsep := r1.sep
  have hsrc := r1.src
  cases r1.rep with
  | @cons _ _ d ds v vs T T' rd t =>
    cases t
    rw [List.append_nil] at hsep hsrc
    have h1 : sK C W P σ SV H D ((onL (appF d) i ρ1).bind fun _ ρ => .ok .nx ρ) := h1
    unfold onL at h1
    cases hg : getV ρ1 i with
    | none => rw [hg] at h1; exact h1.elim
    | some z =>
      rw [hg] at h1
      match z, hg, h1 with
      | .lst true xs, hg, h1 =>
        obtain ⟨a', vs1, S', R, hσ', hH1, rs, f⟩ := lst_at e1.vars hg
        rw [hσ] at hσ'
        cases hσ'
        dsimp only at h1
        unfold appF at h1
        by_cases hlim : xs.length < lim
        case neg => rw [if_neg hlim] at h1; exact h1.elim
        rw [if_pos hlim] at h1
        have h1 : sK C W P σ SV H D (.ok .nx (ρ1.set i (some (.lst true (xs ++ [d]))))) := h1
        refine ⟨a, vs1, v, rfl, rfl, hH1, by rw [← rs.length]; have := lim_eq; omega, ?_⟩
        have ndf : ((a :: S') ++ R).Nodup := f.perm.nodup_iff.mp e1.nd
        obtain ⟨na, ndf'⟩ := List.nodup_cons.mp (show (a :: (S' ++ R)).Nodup from ndf)
        have mem1 : ∀ b ∈ a :: (S' ++ R), b ∈ SV1 := fun b hb => f.perm.mem_iff.mpr hb
        have tdis : ∀ b ∈ T, b ≠ a ∧ b ∉ S' := fun b hb => ⟨fun q => (List.nodup_append.mp hsep).2.2 b hb a (mem1 a List.mem_cons_self) q, fun q => (List.nodup_append.mp hsep).2.2 b hb b (mem1 b (List.mem_cons_of_mem _ (List.mem_append_left _ q))) rfl⟩
        have ndT : (T ++ R).Nodup := List.nodup_append.mpr ⟨(List.nodup_append.mp hsep).1, (List.nodup_append.mp ndf').2.1, fun b hb c hc q => (List.nodup_append.mp hsep).2.2 b hb c (mem1 c (List.mem_cons_of_mem _ (List.mem_append_right _ hc))) q⟩
        have nd2 := nodup_mid (S := S') (T := T) (U := R) (a := a) ndf ndT tdis
        have kU : Kp (S' ++ T) H1 (upd H1 a (.lst (vs1 ++ [v]))) := kp_upd hH1 (show Mb (.lst vs1) from True.intro) fun z => (List.nodup_cons.mp nd2).1 (List.mem_append_left _ z)
        have rall := (rs.app (Reps.cons (S2 := []) rd Reps.nil))
        rw [List.append_nil] at rall
        have rep2 : Rep C.K (upd H1 a (.lst (vs1 ++ [v]))) (.lst true (xs ++ [d])) (.ref a) (a :: (S' ++ T)) := ⟨a, _, _, rfl, upd_same, rall.kp _ kU, rfl⟩
        obtain ⟨SV2, e2, _⟩ := obj_write e1 f hσ hH1 (show Mb (.lst vs1) from True.intro) rep2 nd2 (fun b hb => by
          rcases List.mem_append.mp hb with q | q
          · exact e1.src b (mem1 b (List.mem_cons_of_mem _ (List.mem_append_left _ q)))
          · exact hsrc b q)
        exact h1 σ _ SV2 e2 .refl
      | .lst false _, _, h1 => exact h1.elim
      | .non, _, h1 => exact h1.elim
      | .bl _, _, h1 => exact h1.elim
      | .int _, _, h1 => exact h1.elim
      | .str _, _, h1 => exact h1.elim
      | .tup _, _, h1 => exact h1.elim
      | .dk _ _ _, _, h1 => exact h1.elim
      | .dt _ _ _, _, h1 => exact h1.elim
      | .exc _ _ _, _, h1 => exact h1.elim
      | .scr _, _, h1 => exact h1.elim
/-- x[i] = e -/
def rSetZ : TSet := fun o i v H Q => rSetL o i v H Q ∨ rSetD o i v H Q
theorem set_any (hu : X.A.units + 1 < cLine) : PSet X rSetZ := fun pins s σ H o i v ov iv u Q I r1 r2 r3 h => h.elim (set_list pins s σ H o i v ov iv u Q I r1 r2 r3) (set_dict hu pins s σ H o i v ov iv u Q I r1 r2 r3)
end
theorem keyD_kV {K : PySem.W.Frag} {H : Hp} {d : D} {u : V} {S : List Addr} {k : Key} (r : Rep K H d u S) (h : keyD d = some k) : u = kV k := by
  cases d with
  | int i => cases h; exact r.1
  | str x => cases h; exact r.1
  | _ => cases h
theorem any_zip {κ : Type} [DecidableEq κ] {k : κ} : ∀ {ks : List κ} {vs : List V}, ks.length = vs.length → ((ks.zip vs).any fun kv => decide (kv.1 = k)) = ks.any fun j => decide (j = k)
  | [], _, _ => rfl
  | _ :: _, [], h => by simp at h
  | j :: ks, v :: vs, h => by
    rw [List.zip_cons_cons, List.any_cons, List.any_cons, any_zip (by simpa using h)]
theorem map_zip {κ : Type} [DecidableEq κ] {k : κ} {z : V} : ∀ {ks : List κ} {vs : List V}, (ks.zip vs).map (fun kv => if kv.1 = k then (kv.1, z) else kv) = ks.zip (List.zipWith (fun j w => if j = k then z else w) ks vs)
  | [], _ => by simp
  | _ :: _, [] => by simp
  | j :: ks, v :: vs => by
    rw [List.zip_cons_cons, List.map_cons, map_zip, List.zipWith_cons_cons, List.zip_cons_cons]
    congr 1
    by_cases e : j = k <;> simp [e]
theorem reps_zipWith {κ : Type} [DecidableEq κ] {K : PySem.W.Frag} {H : Hp} {k : κ} {d : D} {z : V} (r : Rep K H d z []) : ∀ {ks : List κ} {ds : List D} {vs : List V} {S : List Addr}, ks.length = ds.length → Reps K H ds vs S →
    ∃ S2, Reps K H (List.zipWith (fun j w => if j = k then d else w) ks ds) (List.zipWith (fun j w => if j = k then z else w) ks vs) S2 ∧ S2.Sublist S
  | [], [], _, S, _, h => by obtain ⟨rfl, rfl⟩ := h; exact ⟨[], Reps.nil, .refl _⟩
  | [], _ :: _, _, _, h, _ => by simp at h
  | _ :: _, [], _, _, h, _ => by simp at h
  | j :: ks, e :: ds, _, _, hl, h => by
    obtain ⟨v, vs, S1, S2, rfl, q1, q2, rfl⟩ := h
    obtain ⟨S3, h1, h2⟩ := reps_zipWith r (by simpa using hl) q2
    rw [List.zipWith_cons_cons, List.zipWith_cons_cons]
    by_cases e : j = k
    · rw [if_pos e, if_pos e]
      exact ⟨S3, Reps.cons (S1 := []) r h1, h2.trans (List.sublist_append_right _ _)⟩
    · rw [if_neg e, if_neg e]
      exact ⟨S1 ++ S3, Reps.cons q1 h1, h2.append_left _⟩
/-- a dict's entries behind d[k] = v -/
theorem put_rep {κ : Type} [DecidableEq κ] {K : PySem.W.Frag} {H : Hp} {k : κ} {d : D} {z : V} {ks : List κ} {ds : List D} {vs : List V} {S : List Addr} (hl : ks.length = vs.length) (rs : Reps K H ds vs S) (r : Rep K H d z []) :
    ∃ vs2 S2, putK (ks.zip vs) k z = (put k d ks ds).1.zip vs2 ∧ (put k d ks ds).1.length = vs2.length ∧ Reps K H (put k d ks ds).2 vs2 S2 ∧ S2.Sublist S := by
  have hl2 := rs.length
  unfold putK put
  rw [any_zip hl]
  by_cases h : (ks.any fun j => decide (j = k)) = true
  · rw [if_pos h, if_pos h]
    obtain ⟨S2, h1, h2⟩ := reps_zipWith (k := k) r (ks := ks) (by omega) rs
    exact ⟨_, S2, map_zip, by show ks.length = _; rw [List.length_zipWith]; omega, h1, h2⟩
  · rw [if_neg h, if_neg h]
    have := rs.app (Reps.cons (S1 := []) (S2 := []) r Reps.nil)
    exact ⟨vs ++ [z], S ++ [], (by have := List.zip_append (l₁ := ks) (l₂ := vs) (r₁ := [k]) (r₂ := [z]) hl; exact this.symm), by simp [hl], this, by rw [List.append_nil]; exact .refl _⟩
theorem dk_at {K : PySem.W.Frag} {H : Hp} {ρ : Ev} {σ : St} {SV : List Addr} {i : Nat} {ks : List Key} {ds : List D} (hv : Vars K H ρ σ SV) (h : getV ρ i = some (.dk true ks ds)) : ∃ a vs S' R, σ[i]? = some (some (.ref a)) ∧ H a = some (.dK (ks.zip vs)) ∧ ks.length = vs.length ∧ Reps K H ds vs S' ∧ Foc K H ρ σ SV i (a :: S') R := by
  obtain ⟨v, S, R, e1, r, f⟩ := var_at hv h
  obtain ⟨a, vs, S', rfl, q, l, rs, rfl⟩ := r
  exact ⟨a, vs, S', R, e1, q, l, rs, f⟩
section
variable {X : Cx} {C : Cfg} {W : WX} {P : List Nat} {pos : Pos} {e : Expr} {e' : E}
theorem s_setI {i : Nat} {x : Str} {p tpos : Pos} {ix : Expr} {ix' : E} (hK : X.K = C.K) (hu : X.A.units + 1 < cLine) (ho : own e' = true) (hN : X.N[i]? = some x) (hv : Vis X.env.scope x) (hd : (x == ("__debug__" : Str)) = false) (hcd : (x == ("__classdict__" : Str)) = false) (he : PE X e (tD C W e')) (hix : PE X ix (tD C W ix'))
    (hq : quiet ix' = true)
    (ha : ∀ v, assign (.Subscript (.Name x p) ix tpos) X.env v = (do
      let ov ← holding [v] (eval (.Name x p) X.env)
      let iv ← holding [v, ov] (eval ix X.env)
      standAt tpos
      holding [v, ov, iv] (setItem ov iv v)
      release [v, ov, iv] []))
    (hs : swapsWithSole [.Subscript (.Name x p) ix tpos] e pos.line X.env = pure false) (hw : swappedStores [.Subscript (.Name x p) ix tpos] e X.env = pure none) (h1 : (assignEach [.Subscript (.Name x p) ix tpos] X.env).map (·.2) = [assign (.Subscript (.Name x p) ix tpos) X.env]) :
    PS X (.Assign [.Subscript (.Name x p) ix tpos] e pos) (tS C W P (.setI i ix' e')) := by
  refine psmono (ps_asg he (pg_sub (pe_var hN hv hd hcd) hix (set_any hu) ha) hs hw h1) fun D σ H ⟨ρ, SV, hv', nd, h⟩ => ⟨ρ, SV, hv', nd, ?_⟩
  refine sK_bind (show sK C W P σ SV H D ((ev e' ρ).bind fun d ρ => (match getV ρ i with
    | some x => (ev ix' ρ).bind fun k ρ => (match x, k with
      | .lst true xs, .int j => (match ixN xs.length j with
        | some n => .ok .nx (ρ.set i (some (.lst true (xs.set n d))))
        | none => .bad)
      | .dk true ks vs, k => (match keyD k with
        | some j => if frzD d = true ∧ ks.length < lim then .ok .nx (ρ.set i (some (.dk true (put j d ks vs).1 (put j d ks vs).2))) else .bad
        | none => .bad)
      | _, _ => .bad)
    | none => .bad)) from h) fun d ρ1 v H1 SV1 e1 ⟨⟨T, r1⟩, _⟩ h1 => ?_
  cases hg : getV ρ1 i with
  | none => rw [hg] at h1; exact h1.elim
  | some x0 =>
    rw [hg] at h1
    obtain ⟨w, S0, R0, hσ, _, _⟩ := var_at e1.vars hg
    have hsep := r1.sep ho
    have hsrc := r1.src ho
    refine ⟨w, hσ, ρ1, SV1, e1.vars, e1.nd, sK_bind2 e1 h1 fun k ρ2 u H2 SV2 e2 ⟨⟨Sk, rk⟩, q2⟩ h2 => ?_⟩
    obtain ⟨rfl, rfl, x2⟩ := q2 hq
    have rd : Rep C.K H2 d v T := r1.rep.kp d (x2.all _)
    have e12 : EnvP C.K SV H σ ρ2 H2 SV2 := e1.trans e2
    match x0, k, hg, h2 with
    | .lst true xs, .int j, hg, h2 =>
      dsimp only at h2
      obtain ⟨a, vs1, S', R, hσ', hH2, rs, f⟩ := lst_at e12.vars hg
      rw [hσ] at hσ'
      cases hσ'
      cases hj : ixN xs.length j with
      | none => rw [hj] at h2; exact h2.elim
      | some n =>
        rw [hj] at h2
        have hn : n < xs.length := (ixN_seq hj).2.2.2 |> fun _ => by
          have := (ixN_seq hj).2.1
          omega
        obtain ⟨v0, T0, R0, g1, g2, g3, g4, g5⟩ := Reps.split rs (List.getElem?_eq_getElem hn)
        have ndf : ((a :: S') ++ R).Nodup := f.perm.nodup_iff.mp e12.nd
        obtain ⟨na, ndf'⟩ := List.nodup_cons.mp (show (a :: (S' ++ R)).Nodup from ndf)
        have mem1 : ∀ b ∈ a :: (S' ++ R), b ∈ SV2 := fun b hb => f.perm.mem_iff.mpr hb
        have memR : ∀ b ∈ R0, b ∈ S' := fun b hb => g3.mem_iff.mpr (List.mem_append_right _ hb)
        have ndR0 : R0.Nodup := (List.nodup_append.mp (g3.nodup_iff.mp (List.nodup_append.mp ndf').1)).2.1
        have tdis : ∀ b ∈ T, ∀ c ∈ a :: (S' ++ R), b ≠ c := fun b hb c hc q => (List.nodup_append.mp hsep).2.2 b hb c (mem1 c hc) q
        have nd2 : (a :: ((T ++ R0) ++ R)).Nodup := by
          refine List.nodup_cons.mpr ⟨fun z => ?_, List.nodup_append.mpr ⟨List.nodup_append.mpr ⟨(List.nodup_append.mp hsep).1, ndR0, fun b hb c hc => tdis b hb c (List.mem_cons_of_mem _ (List.mem_append_left _ (memR c hc)))⟩, (List.nodup_append.mp ndf').2.1, fun b hb c hc => ?_⟩⟩
          · rcases List.mem_append.mp z with z | z
            · rcases List.mem_append.mp z with z | z
              · exact tdis a z a List.mem_cons_self rfl
              · exact na (List.mem_append_left _ (memR a z))
            · exact na (List.mem_append_right _ z)
          · rcases List.mem_append.mp hb with z | z
            · exact tdis b z c (List.mem_cons_of_mem _ (List.mem_append_right _ hc))
            · exact (List.nodup_append.mp ndf').2.2 b (memR b z) c hc
        have kU : Kp (T ++ R0) H2 (upd H2 a (.lst (vs1.set n v))) := kp_upd hH2 (show Mb (.lst vs1) from True.intro) fun z => (List.nodup_cons.mp nd2).1 (List.mem_append_left _ z)
        obtain ⟨S2, h5, h6⟩ := g5 d v T rd
        have rep2 : Rep C.K (upd H2 a (.lst (vs1.set n v))) (.lst true (xs.set n d)) (.ref a) (a :: S2) := ⟨a, _, _, rfl, upd_same, h5.kp _ (kU.sub fun b hb => h6.mem_iff.mp hb), rfl⟩
        obtain ⟨SV3, e3, _⟩ := obj_write e12 f hσ hH2 (show Mb (.lst vs1) from True.intro) rep2 (((h6.append_right R).cons a).nodup_iff.mpr nd2) (fun b hb => by
          rcases List.mem_append.mp (h6.mem_iff.mp hb) with q | q
          · exact hsrc b q
          · exact e12.src b (mem1 b (List.mem_cons_of_mem _ (List.mem_append_left _ (memR b q)))))
        refine .inl ⟨a, vs1, j, n, rfl, rk.rep.1, hH2, by rw [← rs.length]; exact hj, h2 σ _ SV3 e3 .refl⟩
    | .dk true ks ds, k, hg, h2 =>
      obtain ⟨a, vs1, S', R, hσ', hH2, hl, rs, f⟩ := dk_at e12.vars hg
      rw [hσ] at hσ'
      cases hσ'
      have h2 : sK C W P σ SV H D (match keyD k with
        | some j => if frzD d = true ∧ ks.length < lim then .ok .nx (ρ2.set i (some (.dk true (put j d ks ds).1 (put j d ks ds).2))) else .bad
        | none => .bad) := by cases k <;> exact h2
      cases hk : keyD k with
      | none => rw [hk] at h2; exact h2.elim
      | some j =>
        rw [hk] at h2
        dsimp only at h2
        by_cases hc : frzD d = true ∧ ks.length < lim
        case neg => rw [if_neg hc] at h2; exact h2.elim
        rw [if_pos hc] at h2
        have := rd.frz hc.1
        subst this
        obtain ⟨vs2, S2, p1, p2, p3, p4⟩ := put_rep (k := j) hl rs rd
        have ndf : ((a :: S') ++ R).Nodup := f.perm.nodup_iff.mp e12.nd
        obtain ⟨na, ndf'⟩ := List.nodup_cons.mp (show (a :: (S' ++ R)).Nodup from ndf)
        have mem1 : ∀ b ∈ a :: (S' ++ R), b ∈ SV2 := fun b hb => f.perm.mem_iff.mpr hb
        have nd2 : (a :: (S2 ++ R)).Nodup := List.Nodup.sublist ((p4.append_right R).cons_cons a) ndf
        have kU : Kp S2 H2 (upd H2 a (.dK ((put j d ks ds).1.zip vs2))) := kp_upd hH2 (show Mb (.dK (ks.zip vs1)) from True.intro) fun z => (List.nodup_cons.mp nd2).1 (List.mem_append_left _ z)
        have rep2 : Rep C.K (upd H2 a (.dK ((put j d ks ds).1.zip vs2))) (.dk true (put j d ks ds).1 (put j d ks ds).2) (.ref a) (a :: S2) := ⟨a, vs2, S2, rfl, upd_same, p2, p3.kp _ kU, rfl⟩
        obtain ⟨SV3, e3, _⟩ := obj_write e12 f hσ hH2 (show Mb (.dK (ks.zip vs1)) from True.intro) rep2 nd2 (fun b hb => e12.src b (mem1 b (List.mem_cons_of_mem _ (List.mem_append_left _ (p4.subset hb)))))
        refine .inr ⟨a, _, rfl, .inl ⟨_, j, hH2, keyD_kV rk.rep hk, ?_, by rw [p1]⟩, h2 σ _ SV3 e3 .refl⟩
        rw [List.length_zip, ← hl, Nat.min_self]
        have := lim_eq
        omega
    | .lst true xs, .non, _, h2 => exact h2.elim
    | .lst true xs, .bl _, _, h2 => exact h2.elim
    | .lst true xs, .str _, _, h2 => exact h2.elim
    | .lst true xs, .tup _, _, h2 => exact h2.elim
    | .lst true xs, .lst _ _, _, h2 => exact h2.elim
    | .lst true xs, .dk _ _ _, _, h2 => exact h2.elim
    | .lst true xs, .dt _ _ _, _, h2 => exact h2.elim
    | .lst true xs, .exc _ _ _, _, h2 => exact h2.elim
    | .lst true xs, .scr _, _, h2 => exact h2.elim
    | .lst false _, k, _, h2 => cases k <;> exact h2.elim
    | .dk false _ _, k, _, h2 => cases k <;> exact h2.elim
    | .non, k, _, h2 => cases k <;> exact h2.elim
    | .bl _, k, _, h2 => cases k <;> exact h2.elim
    | .int _, k, _, h2 => cases k <;> exact h2.elim
    | .str _, k, _, h2 => cases k <;> exact h2.elim
    | .tup _, k, _, h2 => cases k <;> exact h2.elim
    | .dt _ _ _, k, _, h2 => cases k <;> exact h2.elim
    | .exc _ _ _, k, _, h2 => cases k <;> exact h2.elim
    | .scr _, k, _, h2 => cases k <;> exact h2.elim
end
end Ly

namespace Ly
open PySem PySem.Spec L2
variable [Fns]
section
variable {K : PySem.W.Frag} {H : Hp}
theorem vars_none {m : Nat} : Vars K H (List.replicate m none) (List.replicate m none) [] := by
  induction m with
  | zero => exact rfl
  | succ m ih => exact ih
theorem vars_start {m : Nat} : ∀ {io : List Bool} {ds : List D} {vs : List V} {S : List Addr}, AF K H io ds vs S → Vars K H (ds.map some ++ List.replicate m none) (vs.map some ++ List.replicate m none) S
  | [], [], [], _, h => by
    have h : _ = [] := h
    subst h
    exact vars_none
  | b :: io, d :: ds, v :: vs, _, h => by
    obtain ⟨S1, S2, r, _, h, rfl⟩ := h
    exact ⟨S1, S2, r, vars_start h, rfl⟩
  | [], [], _ :: _, _, h => h.elim
  | [], _ :: _, _, _, h => h.elim
  | _ :: _, [], _, _, h => h.elim
  | _ :: _, _ :: _, [], _, h => h.elim
theorem AF.len {io : List Bool} {ds : List D} {vs : List V} {S : List Addr} : AF K H io ds vs S → ds.length = io.length := by
  induction io generalizing ds vs S with
  | nil =>
    intro h
    cases ds with
    | nil => rfl
    | cons _ _ => exact h.elim
  | cons b io ih =>
    intro h
    cases ds with
    | nil => exact h.elim
    | cons d ds =>
      cases vs with
      | nil => exact h.elim
      | cons v vs =>
        obtain ⟨S1, S2, _, _, h, _⟩ := h
        exact congrArg (· + 1) (ih h)
theorem outsOf_map {x : Option D} : ∀ {is : List Nat} {ρ : Ev}, outsOf (is.map (· + 1)) (x :: ρ) = outsOf is ρ
  | [], _ => rfl
  | i :: is, ρ => by
    show (match getV (x :: ρ) (i + 1), outsOf (is.map (· + 1)) (x :: ρ) with | some d, some l => some (d :: l) | _, _ => none) = _
    rw [outsOf_map]
    rfl
theorem of_vars : ∀ {io : List Bool} {vs : List V} {outs : List D} {ρ : Ev} {σ : St} {SV : List Addr}, Vars K H ρ σ SV → io.length ≤ ρ.length → io.length = vs.length → (∀ (i : Nat) v, io[i]? = some true → vs[i]? = some v → σ[i]? = some (some v)) → outsOf (ixs io) ρ = some outs →
    ∃ U, OF K H io outs vs U ∧ U.Sublist SV
  | [], [], _, _, _, _, _, _, _, _, h => by cases h; exact ⟨[], rfl, List.nil_sublist _⟩
  | [], _ :: _, _, _, _, _, _, _, h, _, _ => by simp at h
  | _ :: _, [], _, _, _, _, _, _, h, _, _ => by simp at h
  | b :: io, v :: vs, outs, [], _, _, _, h, _, _, _ => by simp at h
  | b :: io, v :: vs, outs, none :: ρ, [], _, hv, _, _, _, _ => hv.elim
  | b :: io, v :: vs, outs, some _ :: ρ, [], _, hv, _, _, _, _ => hv.elim
  | false :: io, v :: vs, outs, none :: ρ, x :: σ, SV, hv, h1, h2, h3, h4 => by
    have h4 : outsOf ((ixs io).map (· + 1)) (none :: ρ) = some outs := h4
    rw [outsOf_map] at h4
    exact of_vars (io := io) (vs := vs) (σ := σ) (SV := SV) hv (by simpa using h1) (by simpa using h2) (fun i w e1 e2 => by simpa using h3 (i + 1) w (by simpa using e1) (by simpa using e2)) h4
  | false :: io, v :: vs, outs, some d :: ρ, some y :: σ, _, hv, h1, h2, h3, h4 => by
    obtain ⟨S, R, r, hv, rfl⟩ := hv
    have h4 : outsOf ((ixs io).map (· + 1)) (some d :: ρ) = some outs := h4
    rw [outsOf_map] at h4
    obtain ⟨U, a1, a2⟩ := of_vars (io := io) (vs := vs) hv (by simpa using h1) (by simpa using h2) (fun i w e1 e2 => by simpa using h3 (i + 1) w (by simpa using e1) (by simpa using e2)) h4
    exact ⟨U, a1, a2.trans (List.sublist_append_right _ _)⟩
  | b :: io, v :: vs, outs, some d :: ρ, none :: σ, _, hv, _, _, _, _ => hv.elim
  | true :: io, v :: vs, outs, none :: ρ, x :: σ, SV, hv, h1, h2, h3, h4 => by cases h4
  | true :: io, v :: vs, outs, some d :: ρ, some y :: σ, _, hv, h1, h2, h3, h4 => by
    obtain ⟨S, R, r, hv, rfl⟩ := hv
    have h4 : (match some d, outsOf ((ixs io).map (· + 1)) (some d :: ρ) with | some d, some l => some (d :: l) | _, _ => none) = some outs := h4
    rw [outsOf_map] at h4
    cases h5 : outsOf (ixs io) ρ with
    | none => rw [h5] at h4; cases h4
    | some l =>
      rw [h5] at h4
      cases h4
      obtain ⟨U, a1, a2⟩ := of_vars (io := io) (vs := vs) hv (by simpa using h1) (by simpa using h2) (fun i w e1 e2 => by simpa using h3 (i + 1) w (by simpa using e1) (by simpa using e2)) h5
      have : some y = some v := by simpa using h3 0 v rfl rfl
      cases this
      exact ⟨S ++ U, ⟨S, U, r, a1, rfl⟩, a2.append_left _⟩
theorem ixs_mem {io : List Bool} : ∀ {i : Nat}, i ∈ ixs io ↔ io[i]? = some true := by
  induction io with
  | nil => intro i; simp [ixs]
  | cons b io ih =>
    intro i
    cases b with
    | true =>
      show i ∈ 0 :: (ixs io).map (· + 1) ↔ _
      cases i with
      | zero => simp
      | succ i => simp [ih]
    | false =>
      show i ∈ (ixs io).map (· + 1) ↔ _
      cases i with
      | zero => simp
      | succ i => simp [ih]
end
/-- the body's run, against the promise -/
theorem body_ok {C : Cfg} {N ps : List Str} {io : List Bool} {sem : FSem} {bs : Ss} {vs : List V} {H : Hp} {Q : VK} {E : XK} (hio : io.length = ps.length) (hps : ps.length ≤ N.length) (hsem : ∀ ds, sem ds ≠ .bad → runFn N.length io bs ds = sem ds)
    (h : spD C io sem vs H Q E) : tSs C (fun cls d _ H => E cls d H) (ixs io) bs { nx := fun _ H' => Q .non H', rt := Q } (L2.start N vs) H := by
  obtain ⟨ds, S, haf, nd, h⟩ := h
  have l1 := haf.length
  have l2 := haf.len
  have hv : Vars C.K H (ds.map some ++ List.replicate (N.length - ds.length) none) (L2.start N vs) S := by
    unfold L2.start
    rw [show N.length - vs.length = N.length - ds.length by omega]
    exact vars_start haf
  refine ⟨_, S, hv, nd, ?_⟩
  have hs := hsem ds (fun z => by rw [z] at h; exact h)
  rw [← hs] at h
  unfold runFn at h
  have σio : ∀ {σ' : St}, Kept (ixs io) (L2.start N vs) σ' → ∀ (i : Nat) v, io[i]? = some true → vs[i]? = some v → σ'[i]? = some (some v) := fun {σ'} k i v e1 e2 => by
    rw [k.at_ i (ixs_mem.mpr e1)]
    unfold L2.start
    have hi : i < vs.length := (List.getElem?_eq_some_iff.mp e2).1
    rw [List.getElem?_append_left (by simpa using hi), List.getElem?_map, e2]
    rfl
  have lenE : ∀ {ρ' : Ev} {σ' : St} {H' : Hp} {SV' : List Addr}, EnvP C.K S H σ' ρ' H' SV' → Kept (ixs io) (L2.start N vs) σ' → io.length ≤ ρ'.length := fun e k => by
    rw [e.vars.length, k.len]
    unfold L2.start
    rw [List.length_append, List.length_map, List.length_replicate]
    omega
  cases hx : exs bs (ds.map some ++ List.replicate (N.length - ds.length) none) with
  | bad => rw [hx] at h; exact h
  | exc x ρ' =>
    rw [hx] at h
    intro cls dd σ' H' SV' e k er
    dsimp only at h
    cases ho : outsOf (ixs io) ρ' with
    | none => rw [ho] at h; exact h.elim
    | some outs =>
      rw [ho] at h
      obtain ⟨U, u1, u2⟩ := of_vars e.vars (lenE e k) (by omega) (σio k) ho
      exact h cls dd H' U e.ext u1 (e.nd.sublist u2) (fun a ha => e.src a (u2.subset ha)) er
  | ok f ρ' =>
    rw [hx] at h
    cases f with
    | bk => exact h.elim
    | ct => exact h.elim
    | nx =>
      intro σ' H' SV' e k
      dsimp only at h
      cases ho : outsOf (ixs io) ρ' with
      | none => rw [ho] at h; exact h.elim
      | some outs =>
        rw [ho] at h
        obtain ⟨U, u1, u2⟩ := of_vars e.vars (lenE e k) (by omega) (σio k) ho
        exact h .non H' [] U e.ext ⟨rfl, rfl⟩ u1 (e.nd.sublist u2) (fun a ha => e.src a (u2.subset ha))
    | rt d =>
      rintro v σ' H' SV' e k ⟨T, r1, r2, r3⟩
      dsimp only at h
      cases ho : outsOf (ixs io) ρ' with
      | none => rw [ho] at h; exact h.elim
      | some outs =>
        rw [ho] at h
        obtain ⟨U, u1, u2⟩ := of_vars e.vars (lenE e k) (by omega) (σio k) ho
        refine h v H' T U e.ext r1 u1 (r3.sublist (u2.append_left T)) fun a ha => ?_
        rcases List.mem_append.mp ha with z | z
        · exact r2 a z
        · exact e.src a (u2.subset z)
section
variable {C : Cfg} {P : Program} {w : World} {mg : Str → Option Value} {base : Heap} {x qual : Str} {params : Arguments} {body : List Stmt} {scope : Scope} {dvs : List V} {kws : List (Str × V)} {f : Addr} {fd : FuncData}
/-- THE RULE: a def -/
theorem fn_ok {N ps : List Str} {io : List Bool} {k : Nat} {sem : FSem} {bs : Ss} (F : FunD C.K x qual params body scope dvs kws f fd) (S : FnScope N ps scope) (hio : io.length = ps.length) (hsem : ∀ ds, sem ds ≠ .bad → runFn N.length io bs ds = sem ds)
    (hb : ∀ (cdv : Value) (A : Around) (outer : List Env) (s : Shared) (H : Hp) (E : XK), Room k (A.deeper (PyProof.Rows.envOfC qual scope s.heap.objs.size f cdv)) →
      PSs (cxOf (L2.CX P w) P w C.K mg base N qual scope f cdv A outer s H E) body (tSs C (fun cls d _ H => E cls d H) (ixs io) bs)) :
    FnOk P w C.K mg base (L2.CX P w) (k + 1) f fd ps (spD C io sem) := by
  have hps : ps.length ≤ N.length := by have := congrArg List.length S.pre; rw [List.length_take] at this; omega
  refine F.ok S (fun vs H Q E h => ?_) fun cdv A outer s H vs Q E hr h => ⟨_, hb cdv A outer s H E hr, body_ok hio hps hsem h⟩
  obtain ⟨ds, S', haf, _⟩ := h
  rw [haf.length, hio]
end
end Ly

namespace Ly
open PySem PySem.Spec L2
variable [Fns]
section
variable {X : Cx} {C : Cfg} {W : WX} {pos : Pos} {a : Expr} {a' : E}
theorem se_dnil : PE X (.Dict [] [] pos) (tD C W .dnil) := by
  refine pemono pe_dnewK fun σ H Q h => ?_
  obtain ⟨ρ, SV, hv, nd, h⟩ := h
  have h : ∀ v H' SV', EnvP C.K SV H σ ρ H' SV' → RD C.K SV H ρ true true (.dk true [] []) ρ SV' H' v → Q v H' := h
  intro p hp
  have x : Ext [] H (upd H p (.dK [])) := Ext.new hp
  have en : EnvP C.K SV H σ ρ (upd H p (.dK [])) SV := (EnvP.refl hv nd).ext0 x
  have pV : p ∉ SV := fun z => by
    obtain ⟨o, eo, _⟩ := hv.owns p z
    rw [hp] at eo
    cases eo
  refine h (.ref p) _ SV en ⟨⟨[p], ⟨p, [], [], rfl, upd_same, rfl, Reps.nil, rfl⟩, (fun _ b hb => ?_), (fun _ => List.nodup_cons.mpr ⟨pV, nd⟩)⟩, fun _ => ⟨rfl, rfl, x⟩⟩
  rw [show b = p by simpa using hb]
  exact .inr hp
/-! ### isinstance -/
def tyN : Ty → String
  | .int => "int"
  | .str => "str"
  | .bool => "bool"
  | .tuple => "tuple"
  | .list => "list"
  | .dict => "dict"
def dTy : D → String
  | .non => "NoneType"
  | .bl _ => "bool"
  | .int _ => "int"
  | .str _ => "str"
  | .tup _ => "tuple"
  | .lst _ _ => "list"
  | .scr _ => "list"
  | .dk _ _ _ => "dict"
  | .dt _ _ _ => "dict"
  | .exc _ _ _ => ""
def noScr : D → Bool
  | .scr _ => false
  | _ => true
/-- plain data, of which the kind is asked -/
def isSome' : D → Bool
  | .dt _ _ _ => false
  | .exc _ _ _ => false
  | _ => true
theorem ty_rep {K : PySem.W.Frag} {H : Hp} {d : D} {v : V} {S : List Addr} (r : Rep K H d v S) (h : isSome' d = true) : TyX K H v (.type (dTy d)) := by
  cases d with
  | non => rw [r.1]; exact .base .non
  | bl b => rw [r.1]; exact .base (.bl b)
  | int i => rw [r.1]; exact .base (.int i)
  | str x => rw [r.1]; exact .base (.str x)
  | tup xs =>
    obtain ⟨_, a, vs, rfl, q, _⟩ := r
    rcases q with (q | ⟨o, q⟩) | ⟨o, its, n, q, c, _⟩
    · exact .base (.tup q)
    · exact .fTuple q
    · exact .kTuple q c
  | lst o xs =>
    obtain ⟨a, vs, T, rfl, q, _⟩ := lst_sq r
    rcases q with q | ⟨o, q⟩
    · exact .base (.lst q)
    · exact .base (.frz q)
  | scr ns =>
    obtain ⟨_, a, rfl, q⟩ := r
    rcases q with ⟨o, q⟩ | ⟨o, its, n, q, c, _⟩
    · exact .base (.frz q)
    · exact .kList q c
  | dk o ks ds =>
    cases o with
    | true =>
      obtain ⟨a, vs, S', rfl, q, _⟩ := r
      exact .base (.dK q)
    | false =>
      obtain ⟨_, a, vs, o, rfl, q, _⟩ := r
      exact .fDict q
  | _ => cases h
theorem kit_tab (K : PySem.W.Frag) (d : D) (h : isSome' d = true) (T : Ty) : PySem.W.kitOne K (.type (dTy d)) (.type (tyN T)) = some (T.is d || (match T, d with | .list, .scr _ => true | _, _ => false)) := by
  cases T <;> cases d <;> first
    | (cases h; done)
    | kernel_rfl
theorem kit_tab' (K : PySem.W.Frag) (d : D) (h : isSome' d = true) (T : Ty) (hs : noScr d = true) : PySem.W.kitOne K (.type (dTy d)) (.type (tyN T)) = some (T.is d) := by
  rw [kit_tab K d h T]
  cases T <;> cases d <;> first
    | rfl
    | (cases hs; done)
    | (rw [Bool.or_false])
theorem isTS_some {T : Ty} {d z : D} (h : isTS T d = some z) : isSome' d = true ∧ noScr d = true ∧ z = .bl (T.is d) := by
  cases d <;> first
    | (cases h; done)
    | (cases h; exact ⟨rfl, rfl, rfl⟩)
theorem se_isT {p q : Pos} {T : Ty} {g h : Str} (hK : X.K = C.K) (hv : bootBuiltins g = some (.builtin "isinstance")) (hb : bootBuiltins h = some (.type (tyN T))) (hg : Gl X g) (hm : X.mg g = none) (hng : g ≠ "__name__") (hdg : (g == ("__debug__" : Str)) = false) (hg2 : Gl X h) (hm2 : X.mg h = none) (hn : h ≠ "__name__") (hd : (h == ("__debug__" : Str)) = false) (ha : PE X a (tD C W a')) (hs : starEach [a, .Name h q] X.env = (false, eval a X.env) :: starEach [.Name h q] X.env) : PE X (.Call (.Name g p) [a, .Name h q] [] pos) (tD C W (.o1 (.isT T) a')) := by
  refine pemono (pe_callB call_isi hg hm hv (pa_cons ha (pa_cons (pe_bltn (v := .ty (tyN T)) hg2 hm2 hb rfl hn hd) pa_nil rfl) hs) hng hdg hs rfl) fun σ H Q h => ?_
  obtain ⟨ρ, SV, hv, nd, h⟩ := tD_o1 h
  refine ⟨ρ, SV, hv, nd, ?_⟩
  cases m : ev a' ρ with
  | bad => rw [m] at h; exact h
  | exc x ρ' => rw [m] at h; exact h
  | ok d ρ1 =>
    rw [m] at h
    intro v H1 SV1 e1 r1
    obtain ⟨d, z, S, r, hz, k⟩ := h v H1 SV1 e1 r1
    obtain ⟨h1, h2, rfl⟩ := isTS_some (show isTS T d = some z from hz)
    exact ⟨v, .ty (tyN T), .type (dTy d), .type (tyN T), T.is d, rfl, .ty _, by rw [hK]; exact ty_rep r h1, kit_tab' _ d h1 T h2, kBl k⟩
/-! ### slices -/
def rSlD (K : PySem.W.Frag) : V → Option Int → Option Int → Hp → VK → Prop := fun x lo hi H Q => ∃ d S z, Rep K H d x S ∧ slcS d lo hi = some z ∧ ∀ w H' S', Ext [] H H' → Rep K H' z w S' → S'.Nodup → (∀ a ∈ S', H a = none) → Q w H'
theorem sl_any : SlR X (rSlD X.K) := by
  intro pins s σ H x v vl vu lo hi sl Q I rx hs pl pu h
  obtain ⟨d, S, z, r, hz, k⟩ := h
  cases d with
  | tup ds =>
    cases hz
    obtain ⟨_, a, vs, rfl, q, rs⟩ := r
    have l := rs.length
    refine sl_tupA pins s σ H _ v vl vu lo hi sl Q I rx hs pl pu ⟨a, vs, rfl, q, fun hw => ?_, fun hw p hp => ?_⟩
    · rw [← l] at hw
      have e : (ds.drop (HT.sIx ds.length 0 lo)).take (HT.sIx ds.length ds.length hi - HT.sIx ds.length 0 lo) = ds := by
        rw [hw.1, hw.2, List.drop_zero, Nat.sub_zero, List.take_length]
      exact k _ H [] .refl (by rw [e]; exact ⟨rfl, a, vs, rfl, q, rs⟩) .nil fun a ha => absurd ha List.not_mem_nil
    · refine kTup (K := X.K) k ?_ p hp
      unfold cutV
      rw [← l]
      exact (rs.drop0 _).take0 _
  | lst o ds =>
    change (if o = false ∨ ds.all frzD = true then some (D.lst true ((ds.drop (HT.sIx ds.length 0 lo)).take (HT.sIx ds.length ds.length hi - HT.sIx ds.length 0 lo))) else none) = some z at hz
    split at hz
    · rename_i hc
      cases hz
      obtain ⟨a, vs, T, rfl, q, rs, hT⟩ := lst_sq r
      have := hT hc
      subst this
      have l := rs.length
      refine sl_list pins s σ H _ v vl vu lo hi sl Q I rx hs pl pu ⟨a, vs, rfl, .inl q, fun p hp => kLst (K := X.K) k ?_ p hp⟩
      unfold cutV
      rw [← l]
      exact (rs.drop0 _).take0 _
    · cases hz
  | scr ns =>
    cases hz
    obtain ⟨_, a, rfl, q⟩ := r
    refine sl_list pins s σ H _ v vl vu lo hi sl Q I rx hs pl pu ⟨a, _, rfl, q.sq, fun p hp => kLst (K := X.K) k ?_ p hp⟩
    unfold cutV
    rw [List.length_map, ← List.map_drop, ← List.map_take]
    exact reps_ints _
  | str y =>
    change (if y.length ≤ lim then some (D.str (cutS y lo hi)) else none) = some z at hz
    split at hz
    · rename_i hc
      cases hz
      exact sl_str pins s σ H _ v vl vu lo hi sl Q I rx hs pl pu ⟨y, r.1, by rw [← lim_eq]; exact hc, kStr k⟩
    · cases hz
  | _ => cases hz
/-- a part of a slice -/
def tPx (C : Cfg) (W : WX) : Es → TO
  | .cons e .nil => tPart (tD C W e)
  | _ => tNoPart
theorem part_read {lo : Es} {σ : St} {SV : List Addr} {H : Hp} {ρ : Ev} {α β : Type} {R : α → Ev → List Addr → Hp → β → Prop} {f : Option Int → Ev → Out α} {Q : β → Hp → Prop} {Q1 : Option Int → Hp → Prop} (hl : (match lo with | .nil => true | .cons _ .nil => true | _ => false) = true) (hv : Vars C.K H ρ σ SV) (nd : SV.Nodup)
    (h : tK C W σ SV H R ((evs lo ρ).bind fun l ρ => (match partS l with | some l' => f l' ρ | none => .bad)) Q)
    (k : ∀ l ρ1 H1 SV1, EnvP C.K SV H σ ρ1 H1 SV1 → (quiets lo = true → Qt SV H ρ ρ1 H1 SV1) → tK C W σ SV1 H1 (fun z ρ2 SV2 H2 w => EnvP C.K SV H σ ρ2 H2 SV2 ∧ R z ρ2 SV2 H2 w) (f l ρ1) Q → Q1 l H1) : tPx C W lo σ H Q1 := by
  match lo, hl with
  | .nil, _ =>
    refine k none ρ H SV (.refl hv nd) (fun _ => ⟨rfl, rfl, .refl⟩) ?_
    have h : tK C W σ SV H R (f none ρ) Q := h
    cases hf : f none ρ with
    | bad => rw [hf] at h; exact h
    | exc x ρ2 => rw [hf] at h; exact h
    | ok z ρ2 => rw [hf] at h; exact fun w H2 SV2 e2 ⟨p1, p2⟩ => h w H2 SV2 p1 p2
  | .cons e .nil, _ =>
    have e0 : evs (.cons e .nil) ρ = (ev e ρ).bind fun d ρ => .ok [d] ρ := rfl
    have h2 : tK C W σ SV H R ((ev e ρ).bind fun d ρ => (match partS [d] with | some l' => f l' ρ | none => .bad)) Q := by
      rw [e0] at h
      cases he : ev e ρ <;> rw [he] at h <;> exact h
    refine ⟨ρ, SV, hv, nd, tK_bind h2 fun d ρ1 v H1 SV1 e1 ⟨⟨S, r⟩, q⟩ h3 => ?_⟩
    cases d with
    | int i => exact ⟨i, r.rep.1, k (some i) ρ1 H1 SV1 e1 (fun z => q (by have z : (quiet e && true) = true := z; rw [Bool.and_true] at z; exact z)) h3⟩
    | _ => exact h3.elim
theorem se_slc {p2 : Pos} {lo hi : Option Expr} {l' h' : Es} (hK : X.K = C.K) (hl : (match l' with | .nil => true | .cons _ .nil => true | _ => false) = true) (hh : (match h' with | .nil => true | .cons _ .nil => true | _ => false) = true) (ha : PE X a (tD C W a')) (h1 : PO X lo (tPx C W l')) (h2 : PO X hi (tPx C W h')) (hs : (own a' || (quiets l' && quiets h')) = true) :
    PE X (.Subscript a (.Slice lo hi none p2) pos) (tD C W (.slc a' l' h')) := by
  refine pemono (pe_slice (by rw [← hK]; exact sl_any : SlR X (rSlD C.K)) ha h1 h2) fun σ H Q h => ?_
  obtain ⟨ρ, SV, hv, nd, h⟩ := h
  have h : tK C W σ SV H (RD C.K SV H ρ true (quiet a' && (quiets l' && quiets h'))) ((ev a' ρ).bind fun x ρ => (evs l' ρ).bind fun l ρ => (match partS l with
    | some l0 => (evs h' ρ).bind fun h ρ => (match partS h with
      | some h0 => liftO (slcS x l0 h0) ρ
      | none => .bad)
    | none => .bad)) Q := h
  refine ⟨ρ, SV, hv, nd, tK_bind h fun d ρ1 v H1 SV1 e1 ⟨⟨S, r1⟩, q1⟩ g1 => ?_⟩
  refine part_read hl e1.vars e1.nd g1 fun l ρ2 H2 SV2 e2 q2 g2 => ?_
  refine part_read hh e2.vars e2.nd g2 fun u ρ3 H3 SV3 e3 q3 g3 => ?_
  obtain ⟨z, hz, g3⟩ := tK_lift g3
  have hs' : own a' = true ∨ (quiets l' && quiets h') = true := by simpa using hs
  have e23 := e2.trans e3
  obtain ⟨rep, _⟩ := r1.carry e23 e1 (q := quiets l' && quiets h') (fun z => (q2 (Bool.and_eq_true_iff.mp z).1).trans (q3 (Bool.and_eq_true_iff.mp z).2)) hs'
  have et := e1.trans e23
  refine ⟨d, S, z, rep, hz, fun w H' S' x rep' nd' new => ?_⟩
  have en := et.ext0 x
  obtain ⟨f1, f2⟩ := fresh_sep et nd' new
  have e3' := e3.trans en
  refine g3 w H' SV3 en ⟨e3', e2.trans e3', et.trans en, ⟨S', rep', fun _ => f1, fun _ => f2⟩, fun q => ?_⟩
  obtain ⟨qa, qb⟩ := Bool.and_eq_true_iff.mp q
  obtain ⟨qc, qd⟩ := Bool.and_eq_true_iff.mp qb
  exact ((q1 qa).trans ((q2 qc).trans (q3 qd))).ext x
/-! ### dict comprehensions -/
theorem dcF_ok {ow : List Nat} {tg : Tg} {c : Es} {ke e : E} {d : D} {ρ ρa : Ev} {x : Option (Key × D)} (h : dcF ow tg c ke e d ρ = .ok x ρa) : ∃ ρb b ρc, bindT tg d ρ = some ρb ∧ evC c ρb = .ok b ρc ∧
    ((b = true ∧ ∃ kd ρd y ρe j, ev ke ρc = .ok kd ρd ∧ ev e ρd = .ok y ρe ∧ keyD kd = some j ∧ frzD y = true ∧ x = some (j, y) ∧ ρa = wipeE ρe ow) ∨ (b = false ∧ x = none ∧ ρa = wipeE ρc ow)) := by
  unfold dcF at h
  cases hb : bindT tg d ρ with
  | none => rw [hb] at h; cases h
  | some ρb =>
    rw [hb] at h
    obtain ⟨b, ρc, h1, h⟩ := bind_ok h
    refine ⟨ρb, b, ρc, rfl, h1, ?_⟩
    cases b with
    | true =>
      rw [if_pos rfl] at h
      obtain ⟨kd, ρd, h2, h⟩ := bind_ok h
      obtain ⟨y, ρe, h3, h⟩ := bind_ok h
      cases hk : keyD kd with
      | none => rw [hk] at h; cases h
      | some j =>
        rw [hk] at h
        dsimp only at h
        by_cases hf : frzD y = true
        · rw [if_pos hf] at h
          cases h
          exact .inl ⟨rfl, kd, ρd, y, ρe, j, h2, h3, hk, hf, rfl, rfl⟩
        · rw [if_neg hf] at h
          cases h
    | false =>
      rw [if_neg Bool.false_ne_true] at h
      cases h
      exact .inr ⟨rfl, rfl, rfl⟩
theorem put_len (k : Key) (v : D) (ks : List Key) (vs : List D) : ks.length ≤ (put k v ks vs).1.length := by
  unfold put
  split
  · exact Nat.le_refl _
  · show ks.length ≤ (ks ++ [k]).length
    rw [List.length_append]
    exact Nat.le_add_right _ _
theorem dcLoop_len {f : D → Ev → Out (Option (Key × D))} : ∀ {ds : List D} {acc r : List Key × List D} {ρ ρ' : Ev}, dcLoop f ds acc ρ = .ok r ρ' → acc.1.length ≤ r.1.length
  | [], acc, r, ρ, ρ', h => by cases h; exact Nat.le_refl _
  | d :: ds, acc, r, ρ, ρ', h => by
    obtain ⟨x, ρ1, h1, h2⟩ := bind_ok (show ((f d ρ).bind fun x ρ1 => dcLoop f ds (match x with | some (k, v) => put k v acc.1 acc.2 | none => acc) ρ1) = .ok r ρ' from h)
    have := dcLoop_len h2
    cases x with
    | none => exact this
    | some kv => exact Nat.le_trans (put_len kv.1 kv.2 acc.1 acc.2) this
theorem dc_read {ow : List Nat} {tg : Tg} {it : It} {c : Es} {ke e : E} {σ : St} {H : Hp} {Q : VK} (ho : own e = true) (ht : ∀ i ∈ tns tg, i ∈ ow) (h : tD C W (.dc ow tg it c ke e) σ H Q) :
    tDc (tI C W it) (tG C.K tg) (tCs C WF c) (tD C WF ke) (tD C WF e) ow σ H Q := by
  obtain ⟨ρ, SV, hv, nd, h⟩ := h
  have h : tK C W σ SV H (RD C.K SV H ρ true false) ((evIt it ρ).bind fun items ρ1 =>
    match dcLoop (dcF ow tg c ke e) items ([], []) (wipeE ρ1 ow) with
    | .ok ks ρ2 => if ks.1.length < lim then .ok (.dk true ks.1 ks.2) ρ2 else .bad
    | .exc _ _ => .bad
    | .bad => .bad) Q := h
  refine ⟨ρ, SV, hv, nd, tK_bind0 h fun ds ρ1 J H1 SV1 e1 wk h1 Dn hD => ?_⟩
  cases hl : dcLoop (dcF ow tg c ke e) ds ([], []) (wipeE ρ1 ow) with
  | bad => rw [hl] at h1; exact h1.elim
  | exc x ρ' => rw [hl] at h1; exact h1.elim
  | ok KV ρE =>
    rw [hl] at h1
    have h1 : tK C W σ SV H (RD C.K SV H ρ true false) (if KV.1.length < lim then .ok (.dk true KV.1 KV.2) ρE else .bad) Q := h1
    by_cases hlim : KV.1.length < lim
    case neg => rw [if_neg hlim] at h1; exact h1.elim
    rw [if_pos hlim] at h1
    have dV : Dn ∉ SV1 := fun z => by
      obtain ⟨o, eo, _⟩ := e1.vars.owns Dn z
      rw [hD] at eo; cases eo
    let Pv : Nat → Hp → Prop := fun i H' => ∃ ρi SVi ks ds' vs, EnvP C.K SV1 H1 (wipe σ ow) ρi H' SVi ∧ (∀ (j : Nat) d, ρi[j]? = some (some d) → j ∉ ow) ∧ H' Dn = some (.dK (ks.zip vs)) ∧ ks.length = vs.length ∧ Reps C.K H' ds' vs [] ∧ Dn ∉ SVi ∧ dcLoop (dcF ow tg c ke e) (ds.drop i) (ks, ds') ρi = .ok KV ρE
    refine ⟨fun i m H => m = ds.length - i ∧ i ≤ ds.length ∧ Pv i H, ⟨ds.length, by simp, Nat.zero_le _, ?_⟩, ?_⟩
    · obtain ⟨SV2, v2, n2, s2⟩ := vars_wipe e1.vars e1.nd ow
      have x : Ext [] H1 (upd H1 Dn (.dK [])) := Ext.new hD
      exact ⟨wipeE ρ1 ow, SV2, [], [], [], ⟨v2.kp (x.all _), n2, fun a ha => .inl (s2 a ha), x.weak _⟩, fun j d e => wipeE_not e, upd_same, rfl, Reps.nil, fun z => dV (s2 _ z), hl⟩
    · rintro i m Ha ⟨rfl, hi0, ρi, SVi, ks, ds', vs, eI, nov, hDa, hlen, ra, nDV, hys⟩
      have kp1 : Kp [] H1 Ha := eI.ext.kp e1.vars.owns fun a ha => absurd ha List.not_mem_nil
      by_cases hi : i < ds.length
      · refine .inr ⟨wk.goes i Ha hi kp1, Pv (i + 1), fun H' p' => ⟨ds.length - (i + 1), by omega, rfl, hi, p'⟩, fun x Hb y => ?_⟩
        obtain ⟨x1, rd⟩ := wk.yields i Ha x Hb ds[i] (by simp [hi]) kp1 y
        rw [List.drop_eq_getElem_cons hi] at hys
        obtain ⟨xs, ρa, hf, hys⟩ := bind_ok (show ((dcF ow tg c ke e ds[i] ρi).bind fun x ρ1 => dcLoop (dcF ow tg c ke e) (ds.drop (i + 1)) (match x with | some (k, v) => put k v ks ds' | none => (ks, ds')) ρ1) = .ok KV ρE from hys)
        obtain ⟨ρb, b, ρc, hb1, hb2, hb3⟩ := dcF_ok hf
        have eb : EnvP C.K SV1 H1 (wipe σ ow) ρi Hb SVi := eI.tr ((EnvP.refl eI.vars eI.nd).ext0 x1)
        refine ⟨ds[i], ρi, SVi, ρb, rd, eb.vars, eb.nd, hb1, fun σ2 SV2 v2 n2 s2 ag len => ?_⟩
        have e2 : EnvP C.K SV1 H1 σ2 ρb Hb SV2 := eb.tr (EnvP.sub v2 n2 s2)
        have hw : wipe σ2 ow = wipe σ ow := wipe_eq (by rw [len, wipe_length]) fun j hj => ag j fun z => hj (ht j z)
        refine ⟨hw, ρb, SV2, v2, n2, ?_⟩
        rw [hb2]
        rintro v Hc SV3 e3 rfl
        have hDb : Hb Dn = some (.dK (ks.zip vs)) := x1 _ _ hDa List.not_mem_nil
        have a2 : Dn ∉ SV2 := fun z => nDV (s2 _ z)
        obtain ⟨a3, hDc⟩ := e3.apart a2 hDb
        have rb : Reps C.K Hb ds' vs [] := ra.kp ds' (x1.all _)
        have k3 : Kp [] Hb Hc := e3.ext.kp v2.owns fun a ha => absurd ha List.not_mem_nil
        have rc : Reps C.K Hc ds' vs [] := rb.kp ds' k3
        have ec : EnvP C.K SV1 H1 σ2 ρc Hc SV3 := e2.tr e3
        rcases hb3 with ⟨rfl, kd, ρd, yd, ρe, j, he1, he2, hj, hfz, rfl, rfl⟩ | ⟨rfl, rfl, rfl⟩
        · rw [if_pos rfl]
          refine ⟨ρc, SV3, e3.vars, e3.nd, ?_⟩
          rw [he1]
          rintro kv Hd SV4 e4 ⟨⟨Tk, rk⟩, _⟩
          refine ⟨ρd, SV4, e4.vars, e4.nd, ?_⟩
          rw [he2]
          rintro z He SV5 e5 ⟨⟨Tz, rz⟩, _⟩
          have := rz.rep.frz hfz
          subst this
          obtain ⟨a4, hDd⟩ := e4.apart a3 hDc
          obtain ⟨a5, hDe⟩ := e5.apart a4 hDd
          have k4 : Kp [] Hc Hd := e4.ext.kp e3.vars.owns fun a ha => absurd ha List.not_mem_nil
          have k5 : Kp [] Hd He := e5.ext.kp e4.vars.owns fun a ha => absurd ha List.not_mem_nil
          have re : Reps C.K He ds' vs [] := (rc.kp ds' k4).kp ds' k5
          obtain ⟨vs2, S2, p1, p2, p3, p4⟩ := put_rep (k := j) hlen re rz.rep
          have hS2 : S2 = [] := List.sublist_nil.mp p4
          subst hS2
          have ee : EnvP C.K SV1 H1 σ2 ρe He SV5 := (ec.tr e4).tr e5
          obtain ⟨SV6, v6, n6, s6⟩ := vars_wipe e5.vars e5.nd ow
          rw [hw] at v6
          have a6 : Dn ∉ SV6 := fun z => a5 (s6 _ z)
          have mb : Mb (.dK (ks.zip vs)) := True.intro
          have kU : Kp SV6 He (upd He Dn (.dK (putK (ks.zip vs) j z))) := kp_upd hDe mb a6
          have kN : Kp [] He (upd He Dn (.dK (putK (ks.zip vs) j z))) := kp_upd hDe mb List.not_mem_nil
          refine ⟨ks.zip vs, j, keyD_kV rk.rep hj, hDe, ?_, ?_⟩
          · rw [List.length_zip, ← hlen, Nat.min_self]
            have q1 := dcLoop_len hys
            have q2 := put_len j yd ks ds'
            have q1 : (put j yd ks ds').1.length ≤ KV.1.length := q1
            have := lim_eq
            omega
          · refine ⟨wipeE ρe ow, SV6, (put j yd ks ds').1, (put j yd ks ds').2, vs2, ⟨v6.kp kU, n6, fun a ha => ee.src a (s6 a ha), fun a o ha hs => ?_⟩, fun j d e => wipeE_not e, by rw [upd_same, p1], p2, p3.kp _ kN, a6, hys⟩
            rw [upd_ne (fun z => by rw [z, hD] at ha; cases ha)]
            exact ee.ext a o ha hs
        · rw [if_neg Bool.false_ne_true]
          obtain ⟨SV6, v6, n6, s6⟩ := vars_wipe e3.vars e3.nd ow
          rw [hw] at v6
          exact ⟨wipeE ρc ow, SV6, ks, ds', vs, ⟨v6, n6, fun a ha => ec.src a (s6 a ha), ec.ext⟩, fun j d e => wipeE_not e, hDc, hlen, rc, fun z => a3 (s6 _ z), hys⟩
      · have hie : i = ds.length := by omega
        subst hie
        refine .inl ⟨wk.stops Ha kp1, ?_⟩
        rw [List.drop_length] at hys
        cases hys
        have vv : Vars C.K Ha ρE σ SVi := vars_agree eI.vars (by rw [wipe_length]) fun j d hj => (wipe_get (nov j d hj)).symm
        have es : EnvP C.K SV1 H1 σ ρE Ha SVi := ⟨vv, eI.nd, eI.src, eI.ext⟩
        refine h1 (.ref Dn) Ha SVi (e1.trans es) ⟨⟨[Dn], ⟨Dn, vs, [], rfl, hDa, hlen, ra, rfl⟩, (fun _ => src_trans e1 fun a ha => ?_), (fun _ => List.nodup_cons.mpr ⟨nDV, eI.nd⟩)⟩, (fun z => nomatch z)⟩
        rw [show a = Dn by simpa using ha]
        exact .inr hD
theorem se_dc {kx vx tg iter : Expr} {ifs : List Expr} {scope : Scope} {ow : List (Str × Nat)} {tg' : Tg} {it : It} {c : Es} {k' e' : E} (ho : own e' = true) (ht : ∀ i ∈ tns tg', i ∈ ow.map (·.2)) (hc : X.calm = true) (hN : X.N.Nodup) (hi : PI X tg iter (tI C W it)) (ok : BlkOk X.N X.env.scope scope ow)
    (hg : ∀ (s : Shared) (H : Hp) (Cc : Addr) (cl : List (Str × Addr)) (fp : List Addr), PG (X.blk s H scope (compEnvC scope cl Cc X.env) fp) tg (tG C.K tg')) (htt : ∀ (s : Shared) (H : Hp) (Cc : Addr) (cl : List (Str × Addr)) (fp : List Addr), PTs (X.blk s H scope (compEnvC scope cl Cc X.env) fp) ifs (tCs C WF c))
    (hk : ∀ (s : Shared) (H : Hp) (Cc : Addr) (cl : List (Str × Addr)) (fp : List Addr), PE (X.blk s H scope (compEnvC scope cl Cc X.env) fp) kx (tD C WF k'))
    (he : ∀ (s : Shared) (H : Hp) (Cc : Addr) (cl : List (Str × Addr)) (fp : List Addr), PE (X.blk s H scope (compEnvC scope cl Cc X.env) fp) vx (tD C WF e')) (hs : ∀ x, foldedSetIterable iter X.env x = pure x) :
    PE X (.DictComp kx vx [⟨tg, iter, ifs, 0⟩] scope pos) (tD C W (.dc (ow.map (·.2)) tg' it c k' e')) := pemono (pe_dc hc hN hi ok hg htt hk he hs) fun σ H Q h => dc_read ho ht h
/-! ### calls by keywords alone -/
theorem sk_nil : PK X [] (tA C W .nil) := ⟨fun pos pins s σ H Q I ⟨ρ, SV, hv, nd, h⟩ => pk_nil.run pos pins s σ H Q I (h [] H SV (.refl hv nd) ⟨⟨[], .nil, fun a ha => absurd ha List.not_mem_nil, nd⟩, fun _ => ⟨rfl, rfl, .refl⟩⟩)⟩
theorem sk_cons {nm : Option Str} {kpos : Pos} {kws : List Keyword} {es' : Es} (ho : own a' = true) (ha : PE X a (tD C W a')) (hr : PK X kws (tA C W es')) : PK X (⟨nm, a, kpos⟩ :: kws) (tA C W (.cons a' es')) :=
  ⟨fun pos pins s σ H Q I h => (pk_cons ha hr).run pos pins s σ H Q I (ta_cons_read ho h)⟩
/-- f(a = .., b = ..): bound by the names -/
def KB0 (K : PySem.W.Frag) (fd : FuncData) (ps ks : List Str) : Prop := ∀ (s : Shared) (ws : List Value), K.In s.heap → ws.length = ps.length → BindsTo s fd ⟨[], ks.zip ws⟩ (ps.zip ws)
theorem pe_callKS {k : Nat} {f : Addr} {fd : FuncData} {ps ks : List Str} {sp : Sp} {x : Str} {p : Pos} {kws : List Keyword} {tk : TA} (F : FnOk X.prog X.w X.K X.mg X.base (L2.CX X.prog X.w) k f fd ps sp) (hr : Room k X.A) (hg : Gl X x) (hm : X.mg x = some (.ref f)) (hk : PySem.W.keepIn X.K (.ref f) = true)
    (hb : KB0 X.K fd ps ks) (tks : Takes X W) (hkw : PK X kws tk) (hall : (backToKw pos (keywordEach kws X.env)).all (·.1.isSome) = true) (hks : (backToKw pos (keywordEach kws X.env)).filterMap (·.1) = ks)
    (hdb : (x == ("__debug__" : Str)) = false) (hpl : ((backTo pos (starEach [] X.env)).any (·.1) || (backToKw pos (keywordEach kws X.env)).any (·.1.isNone)) = false) :
    PE X (.Call (.Name x p) [] kws pos) (fun σ H Q => tk σ H fun zs H2 => sp zs H2 Q (WE W σ)) := by
  refine ⟨fun pins s σ H Q I h => ?_⟩
  refine wpAny_Call_Name_kw (ld_glob I hg hm ?_ hdb)
  refine PySem.W.callWith_KW0 (h₀ := X.base) I.ok.mod.kin hk hall ?_ hpl
  refine thn (hkw.run pos pins s σ H _ I h) fun ws s2 ⟨zs, H2, I2, rz, q2⟩ => ⟨I2.kIn, ?_⟩
  rw [hks]
  have hl : ws.length = ps.length := by rw [← rz.length]; exact F.len _ _ _ _ q2
  refine wpAny_call (codeAny_mono (F.run X.A X.stack s2 H2 ⟨[], ks.zip ws⟩ ws zs Q (WE W σ) hr I2.env0 (hb s2 ws I2.kIn hl) rz q2) fun r s' hq => ?_)
  cases r with
  | error e => exact passAt tks σ pins H2 s2 e s' I2 hq
  | ok fl =>
    cases fl with
    | ret u => exact I2.after hq
    | next => exact False.elim hq
    | brk => exact False.elim hq
    | cont => exact False.elim hq
/-- a def that may be called by keywords -/
def FnGK (C : Cfg) (X : Cx) (k : Nat) (x : Str) (io : List Bool) (ps : List Str) (sem : FSem) : Prop :=
  ∃ (f : Addr) (fd : FuncData), X.mg x = some (.ref f) ∧ FnOk X.prog X.w X.K X.mg X.base (L2.CX X.prog X.w) k f fd ps (spD C io sem) ∧ PySem.W.keepIn X.K (.ref f) = true ∧ KB0 X.K fd ps ps
theorem se_callK {slots : List (Option Nat)} {j k : Nat} {x : Str} {p : Pos} {kws : List Keyword} {ps : List Str} {es' : Es} (tk : Takes X W) (G : FnGK C X k x (slots.map (·.isSome)) ps (Fns.F j)) (hr : Room k X.A) (hg : Gl X x) (hal : align slots es' = true) (hnd : (ios slots).Nodup) (ha : PK X kws (tA C W es')) (hdb : (x == ("__debug__" : Str)) = false)
    (hall : (backToKw pos (keywordEach kws X.env)).all (·.1.isSome) = true) (hks : (backToKw pos (keywordEach kws X.env)).filterMap (·.1) = ps) (hpl : ((backTo pos (starEach [] X.env)).any (·.1) || (backToKw pos (keywordEach kws X.env)).any (·.1.isNone)) = false) : PE X (.Call (.Name x p) [] kws pos) (tD C W (.call slots j es')) := by
  obtain ⟨f, fd, hm, F, hk, hb⟩ := G
  refine pemono (pe_callKS F hr hg hm hk hb tk ha hall hks hdb hpl) fun σ H Q h => ?_
  obtain ⟨ρ, SV, hv, nd, h⟩ := h
  have h : tK C W σ SV H (RD C.K SV H ρ true (slots.all (·.isNone) && quiets es')) ((evs es' ρ).bind fun ds ρ => callOut slots (Fns.F j) ds ρ) Q := h
  exact ⟨ρ, SV, hv, nd, tK_bind0 h fun ds ρ1 vs H1 SV1 e1 ⟨⟨S, r1⟩, q1⟩ h1 => sp_call hal hnd e1 r1 q1 h1⟩
end
end Ly

namespace Ly
open PySem PySem.Spec L2
variable [Fns]
section
variable {X : Cx} {K : PySem.W.Frag} {H : Hp}
open PySem.W in
theorem reps_each {pins : List (Addr × Obj)} {σ : St} {s : Shared} : ∀ {ds : List D} {vs : List V} {us : List Value}, Reps K H ds vs [] → Vals vs us → EachIs (fun v d => ∃ x, RelV x v ∧ Rep K H d x []) us ds
  | [], _, us, h, r => by
    obtain ⟨rfl, _⟩ := h
    cases r
    exact .nil
  | d :: ds, _, us, h, r => by
    obtain ⟨v, t, S1, S2, rfl, q1, q2, e⟩ := h
    obtain ⟨rfl, rfl⟩ := List.append_eq_nil_iff.mp e.symm
    cases r with
    | cons r1 r2 => exact .cons ⟨v, r1, q1⟩ (reps_each (pins := pins) (σ := σ) (s := s) q2 r2)
open PySem.W in
theorem each_reps : ∀ {ds : List D} {us : List Value}, EachIs (fun v d => ∃ x, RelV x v ∧ Rep K H d x []) us ds → ∃ vs, Vals vs us ∧ Reps K H ds vs []
  | _, _, .nil => ⟨[], .nil, Reps.nil⟩
  | _, _, .cons ⟨x, r, q⟩ t => by
    obtain ⟨vs, h1, h2⟩ := each_reps t
    exact ⟨x :: vs, .cons r h1, Reps.cons (S1 := []) (S2 := []) q h2⟩
theorem plain_all {xs : List D} (h : (xs.all fun x => (toP x).plain && decide ((toP x).depth ≤ 32)) = true) {x : D} (hx : x ∈ xs) : (toP x).plain = true ∧ (toP x).depth ≤ 32 := by
  have := List.all_eq_true.mp h x hx
  rw [Bool.and_eq_true] at this
  exact ⟨this.1, of_decide_eq_true this.2⟩
theorem each_imp {α β : Type} {R S : α → β → Prop} {l : List α} : ∀ {m : List β}, PySem.W.EachIs R l m → (∀ a b, b ∈ m → R a b → S a b) → PySem.W.EachIs S l m := by
  intro m h
  induction h with
  | nil => exact fun _ => .nil
  | cons r t ih => exact fun k => .cons (k _ _ List.mem_cons_self r) (ih fun a b hb => k a b (List.mem_cons_of_mem _ hb))
theorem intKs_map : ∀ {ks : List Key} {l : List Int}, intKs ks = some l → ks = l.map Sum.inl
  | [], l, h => by cases h; rfl
  | .inr _ :: _, l, h => by cases h
  | .inl i :: r, l, h => by
    have h : (match intKs r with | some l => some (i :: l) | none => none) = some l := h
    cases hr : intKs r with
    | none => rw [hr] at h; cases h
    | some m =>
      rw [hr] at h
      cases h
      rw [intKs_map hr]
      rfl
theorem ints_srt {ys l : List Int} (p : ys.Perm l) (o : ys.Pairwise (· ≤ ·)) : ys = l.mergeSort fun x y => decide (x ≤ y) := by
  refine List.Perm.eq_of_pairwise (le := fun x y : Int => x ≤ y) (fun a b _ _ h1 h2 => Int.le_antisymm h1 h2) o ?_ (p.trans (List.mergeSort_perm _ _).symm)
  exact (List.pairwise_mergeSort (le := fun x y : Int => decide (x ≤ y)) (fun a b c h1 h2 => decide_eq_true (Int.le_trans (of_decide_eq_true h1) (of_decide_eq_true h2))) (fun a b => by rcases Int.le_total a b with h | h <;> simp [h]) l).imp fun h => of_decide_eq_true h
theorem cd_sorted (hcalm : X.calm = true) (hu : X.A.units + 40 < cLine) : CallR X (.builtin "sorted") (rC1 X.K O1.srt.sem) := by
  intro pins s σ H xs us Q I rx h
  obtain ⟨x, rfl, d, z, S, r, hz, k⟩ := h
  cases d with
  | lst o ds =>
    change sortS ds = some z at hz
    unfold sortS at hz
    split at hz
    · rename_i hc
      cases hz
      obtain ⟨⟨⟨ho, hk⟩, hf⟩, hl, hp⟩ := hc
      obtain ⟨a, vs, T, rfl, q, rs, f⟩ := lst_sq r
      have := rs.frz hf
      subst this
      obtain ⟨its, rv, hL, hsz⟩ := I.list (.inl q)
      rw [Vals.ref1 rx]
      have e := reps_each (pins := pins) (σ := σ) (s := s) rs rv
      have hal : PySem.W.AllAlike (ds.map toP) := fun p hp' q hq => by
        obtain ⟨x, hx, rfl⟩ := List.mem_map.mp hp'
        obtain ⟨y, hy, rfl⟩ := List.mem_map.mp hq
        exact List.all_eq_true.mp (List.all_eq_true.mp ho x hx) y hy
      have hsrt : PySem.W.Sortable (ds.map toP) := by
        rcases hk with hk | hk
        · refine .inl fun p hp' => ?_
          obtain ⟨x, hx, rfl⟩ := List.mem_map.mp hp'
          have := List.all_eq_true.mp hk x hx
          cases x with
          | tup xs =>
            cases xs with
            | nil => cases this
            | cons y ys => exact ⟨_, _, rfl⟩
          | _ => cases this
        · refine .inr fun p hp' => ?_
          obtain ⟨x, hx, rfl⟩ := List.mem_map.mp hp'
          have := List.all_eq_true.mp hk x hx
          cases x <;> first
            | (cases this; done)
            | exact ⟨(fun z => by cases z), (fun xs z => by cases z)⟩
      refine PySem.W.sorted_data (enc := toP) (bs := ds) hL.isList e (each_imp e fun v d hd ⟨x, r1, r2⟩ => (rep_dp d r2 (plain_all hp hd).1).reads I _ _ _ r1) hal hsrt (by have := lim_eq; omega) (fun b hb => by have := (plain_all hp hb).2; omega) fun out hlen eo => ?_
      obtain ⟨ws, w1, w2⟩ := each_reps eo
      obtain ⟨ep, he'⟩ := PyProof.Rows.sortedAll_at s.heap its out.toArray
      have hwl : ws.length ≤ sizeLine := by
        rw [← w2.length]
        show (ds.mergeSort _).length ≤ _
        rw [List.length_mergeSort]
        have := lim_eq
        omega
      exact ⟨.ref _, upd H (s.heap.objs.size + 1) (.lst ws), I.laid (t' := s.toks) (fun _ _ => PyProof.Rows.sortedAll_old) (Nat.le_succ _) ⟨hwl, out, ep, w1, he'⟩, rfl, kLst k w2 _ (I.hok.fresh (Nat.le_succ _))⟩
    · cases hz
  | dk o ks ds =>
    change srtDk ks = some z at hz
    unfold srtDk at hz
    cases hi : intKs ks with
    | none => rw [hi] at hz; cases hz
    | some l =>
      rw [hi] at hz
      change (if l.length < 64 then some (D.lst true ((l.mergeSort fun x y => decide (x ≤ y)).map D.int)) else none) = some z at hz
      split at hz
      · rename_i hc
        cases hz
        obtain ⟨a, ws, T, rfl, q, hl, rs, _⟩ := dk_rd' r
        refine call_sortedDI hcalm pins s σ H _ us Q I rx ⟨a, ks.zip ws, l, rfl, q, ?_, hc, fun ys p h1 h2 hp => kLst k (by rw [← ints_srt h1 h2]; exact reps_ints ys) p hp⟩
        rw [List.map_fst_zip (by omega)]
        exact intKs_map hi
      · cases hz
  | _ => cases hz
/-! ### pops -/
variable {C : Cfg} {W : WX} {pos : Pos}
theorem onL_some {α : Type} {f : List D → Option (α × List D)} {i : Nat} {ρ ρ' : Ev} {d : α} (h : onL f i ρ = .ok d ρ') : ∃ xs ys, getV ρ i = some (.lst true xs) ∧ f xs = some (d, ys) ∧ ρ' = ρ.set i (some (.lst true ys)) := by
  unfold onL at h
  split at h
  · rename_i xs e
    split at h
    · rename_i a ys e2
      cases h
      exact ⟨xs, ys, e, e2, rfl⟩
    · cases h
  · cases h
theorem onL_exc {α : Type} {f : List D → Option (α × List D)} {i : Nat} {ρ ρ' : Ev} {x : D} (h : onL f i ρ = .exc x ρ') : False := by
  unfold onL at h
  split at h
  · split at h <;> cases h
  · cases h
theorem drop_erase {α : Type} : ∀ (l : List α), l.dropLast = l.eraseIdx (l.length - 1)
  | [] => rfl
  | [x] => rfl
  | x :: y :: l => by
    have := drop_erase (y :: l)
    simp only [List.dropLast_cons_of_ne_nil (List.cons_ne_nil y l), List.length_cons, Nat.add_sub_cancel] at this ⊢
    rw [this]
    rfl
/-- the item k is taken out of the list of the name i -/
theorem take_out {SV SV1 : List Addr} {H H1 : Hp} {σ : St} {ρ1 : Ev} {i k : Nat} {xs : List D} {d : D} (e1 : EnvP C.K SV H σ ρ1 H1 SV1) (hg : getV ρ1 i = some (.lst true xs)) (hk : xs[k]? = some d) (hf : frzD d = true) :
    ∃ a vs v, σ[i]? = some (some (.ref a)) ∧ H1 a = some (.lst vs) ∧ vs.length = xs.length ∧ vs[k]? = some v ∧ ∃ SV2, EnvP C.K SV H σ (ρ1.set i (some (.lst true (xs.eraseIdx k)))) (upd H1 a (.lst (vs.eraseIdx k))) SV2 ∧ Rep C.K (upd H1 a (.lst (vs.eraseIdx k))) d v [] := by
  obtain ⟨a, vs, S', R, hσ, hH, rs, f⟩ := lst_at e1.vars hg
  obtain ⟨v, T, R0, g1, g2, g3, g4, _⟩ := Reps.split rs hk
  have := g2.frz hf
  subst this
  have ndf : ((a :: S') ++ R).Nodup := f.perm.nodup_iff.mp e1.nd
  obtain ⟨na, ndf'⟩ := List.nodup_cons.mp (show (a :: (S' ++ R)).Nodup from ndf)
  have p0 : S'.Perm R0 := g3
  have memR : ∀ b ∈ R0, b ∈ S' := fun b hb => p0.mem_iff.mpr hb
  have nd2 : (a :: (R0 ++ R)).Nodup := ((p0.append_right R).cons a).nodup_iff.mp ndf
  have kU : Kp R0 H1 (upd H1 a (.lst (vs.eraseIdx k))) := kp_upd hH (show Mb (.lst vs) from True.intro) fun z => na (List.mem_append_left _ (memR a z))
  have rep2 : Rep C.K (upd H1 a (.lst (vs.eraseIdx k))) (.lst true (xs.eraseIdx k)) (.ref a) (a :: R0) := ⟨a, _, _, rfl, upd_same, g4.kp _ kU, rfl⟩
  have mem1 : ∀ b ∈ a :: (S' ++ R), b ∈ SV1 := fun b hb => f.perm.mem_iff.mpr hb
  obtain ⟨SV2, e2, _⟩ := obj_write e1 f hσ hH (show Mb (.lst vs) from True.intro) rep2 nd2 (fun b hb => e1.src b (mem1 b (List.mem_cons_of_mem _ (List.mem_append_left _ (memR b hb)))))
  exact ⟨a, vs, v, hσ, hH, rs.length.symm, g1, SV2, e2, g2.kp d (kp_upd (S := []) hH (show Mb (.lst vs) from True.intro) List.not_mem_nil)⟩
theorem res_frz {SV SV2 : List Addr} {H H2 : Hp} {σ : St} {ρ ρ2 : Ev} {d : D} {v : V} (e2 : EnvP C.K SV H σ ρ2 H2 SV2) (r : Rep C.K H2 d v []) : RD C.K SV H ρ true false d ρ2 SV2 H2 v :=
  ⟨⟨[], r, (fun _ a ha => absurd ha List.not_mem_nil), (fun _ => e2.nd)⟩, fun q => by cases q⟩
theorem se_pop {i : Nat} {x : Str} {p apos cpos : Pos} (hN : X.N[i]? = some x) (hv : Vis X.env.scope x) (hd : (x == ("__debug__" : Str)) = false) (hcd : (x == ("__classdict__" : Str)) = false)
    (hbase : attributeBase (.Name x p) "pop" X.env (eval (.Name x p) X.env) = eval (.Name x p) X.env) (hline : (apos.endLine == cpos.line) = true) :
    PE X (.Call (.Attribute (.Name x p) "pop" apos) [] [] cpos) (tD C W (.pop i)) := by
  refine pemono (pe_bm0 PySem.F.plainAttrs_list PySem.F.slot_list_pop PySem.F.type_list_pop mt_pop (pe_var hN hv hd hcd) hbase hline) fun σ H Q ⟨ρ, SV, hv', nd, h⟩ => ?_
  have h : tK C W σ SV H (RD C.K SV H ρ true false) (onL popF i ρ) Q := h
  cases ho : onL popF i ρ with
  | bad => rw [ho] at h; exact h.elim
  | exc x ρ' => exact (onL_exc ho).elim
  | ok d ρ' =>
    rw [ho] at h
    obtain ⟨xs, ys, h1, h2, rfl⟩ := onL_some ho
    unfold popF at h2
    split at h2
    · rename_i d' hx
      split at h2
      · rename_i hf
        cases h2
        obtain ⟨a, vs, v, hσ, hH, hl, hvk, SV2, e2, r⟩ := take_out (EnvP.refl hv' nd) h1 hx hf
        rw [← drop_erase] at e2
        rw [hl.symm] at e2 r hvk
        rw [← drop_erase] at e2 r
        exact ⟨.ref a, hσ, .inl ⟨rfl, vs, .inl (.inl hH)⟩, a, vs, v, rfl, rfl, hH, hvk, h v _ SV2 e2 (res_frz e2 r)⟩
      · cases h2
    · cases h2
theorem se_popAt {i : Nat} {e : Expr} {e' : E} {x : Str} {p apos cpos : Pos} (ho : own e' = true) (hN : X.N[i]? = some x) (hv : Vis X.env.scope x) (hd : (x == ("__debug__" : Str)) = false) (hcd : (x == ("__classdict__" : Str)) = false) (ha : PA X [e] (tA C W (.cons e' .nil)))
    (hbase : attributeBase (.Name x p) "pop" X.env (eval (.Name x p) X.env) = eval (.Name x p) X.env)
    (hfew : ((backTo cpos (starEach [e] X.env)).all (fun x => !x.1) && (backToKw cpos (keywordEach [] X.env)).all (fun x => x.1.isSome)
      && decide (([e] : List Expr).length + ([] : List Keyword).length + (if ([] : List Keyword).isEmpty then 0 else 1) < 30)) = true)
    (hline : (apos.endLine == cpos.line) = true) (hs : starEach [e] X.env = (false, eval e X.env) :: starEach [] X.env) (hplain : (backTo cpos (starEach [] X.env)).any (·.1) = false) :
    PE X (.Call (.Attribute (.Name x p) "pop" apos) [e] [] cpos) (tD C W (.popAt i e')) := by
  refine pemono (pe_bm PySem.F.plainAttrs_list PySem.F.slot_list_pop PySem.F.type_list_pop mt_popAt (pe_var hN hv hd hcd) ha hbase hfew hline hs hplain) fun σ H Q ⟨ρ, SV, hv', nd, h⟩ => ?_
  have h : tK C W σ SV H (RD C.K SV H ρ true false) (if isL ρ i = true then (ev e' ρ).bind fun x ρ => (match x with
    | .int k => onL (popAtF k) i ρ
    | _ => .bad) else .bad) Q := h
  by_cases hl : isL ρ i = true
  case neg => rw [if_neg hl] at h; exact h.elim
  rw [if_pos hl] at h
  obtain ⟨xs0, h0⟩ := isL_some hl
  obtain ⟨a, vs0, S0, R0, hσ, hH0, _, _⟩ := lst_at hv' h0
  refine ⟨.ref a, hσ, .inl ⟨rfl, vs0, .inl (.inl hH0)⟩, ρ, SV, hv', nd, ?_⟩
  have e3 : evs (.cons e' .nil) ρ = (ev e' ρ).bind fun d ρ => .ok [d] ρ := rfl
  have h2 : tK C W σ SV H (RD C.K SV H ρ true false) ((evs (.cons e' .nil) ρ).bind fun ds ρ => match ds with
    | [.int k] => onL (popAtF k) i ρ
    | _ => .bad) Q := by
    rw [e3]
    cases hev : ev e' ρ with
    | bad => rw [hev] at h; exact h
    | exc x ρ' => rw [hev] at h; exact h
    | ok d ρ' => rw [hev] at h; cases d <;> exact h
  refine tK_bind0 h2 fun ds ρ1 vs H1 SV1 e1 ⟨⟨S, r1⟩, _⟩ h1 => ?_
  cases r1.rep with
  | @cons _ _ d ds v vs T T' rd t =>
    cases t
    cases d with
    | int k =>
      have h1 : tK C W σ SV H (RD C.K SV H ρ true false) (onL (popAtF k) i ρ1) Q := h1
      have := rd.1
      subst this
      cases ho : onL (popAtF k) i ρ1 with
      | bad => rw [ho] at h1; exact h1.elim
      | exc x ρ' => exact (onL_exc ho).elim
      | ok d ρ' =>
        rw [ho] at h1
        obtain ⟨xs, ys, g1, g2, rfl⟩ := onL_some ho
        unfold popAtF at g2
        split at g2
        · rename_i j hj
          split at g2
          · rename_i d' hx
            split at g2
            · rename_i hf
              cases g2
              obtain ⟨a', vs, v, hσ', hH, hl', hvk, SV2, e2, r⟩ := take_out e1 g1 hx hf.1
              rw [hσ] at hσ'
              cases hσ'
              obtain ⟨j1, j2, j3, j4⟩ := ixN_seq hj
              have hz := hf.2
              have hlm := lim_eq
              have hsl := sizeLine_eq
              exact ⟨a, vs, k, j, v, rfl, rfl, hH, by omega, by omega, by rw [hl']; exact j1, hvk, h1 v _ SV2 e2 (res_frz e2 r)⟩
            · cases g2
          · cases g2
        · cases g2
    | _ => exact h1.elim
/-! ### list(range(..)) -/
theorem rng_reps {n : Nat} {lo : Int} : Reps K H (rngD lo n) ((List.range n).map fun i => V.int (lo + (i : Nat))) [] := by
  induction n generalizing lo with
  | zero => exact Reps.nil
  | succ n ih =>
    rw [List.range_succ_eq_map, List.map_cons, List.map_map]
    refine Reps.cons (S1 := []) (S2 := []) ⟨by simp, rfl⟩ ?_
    have := ih (lo := lo + 1)
    have e : (fun i : Nat => V.int (lo + 1 + (i : Nat))) = ((fun i : Nat => V.int (lo + (i : Nat))) ∘ Nat.succ) := by
      funext i
      show V.int _ = V.int _
      congr 1
      push_cast
      omega
    rw [e] at this
    exact this
theorem rngD_len : ∀ (n : Nat) (lo : Int), (rngD lo n).length = n
  | 0, _ => rfl
  | n + 1, lo => congrArg (· + 1) (rngD_len n (lo + 1))
theorem se_lrg1 {a : Expr} {a' : E} {p p2 pos pos2 : Pos} (hc : X.calm = true) (hg : Gl X "list") (hm : X.mg "list" = none) (hg2 : Gl X "range") (hm2 : X.mg "range" = none) (ha : PE X a (tD C W a')) (na : starEach [a] X.env = (false, eval a X.env) :: starEach [] X.env) :
    PE X (.Call (.Name "list" p) [.Call (.Name "range" p2) [a] [] pos2] [] pos) (tD C W (.lrg (.cons a' .nil))) := by
  refine pemono (pe_listRg hc hg hm (prg_1 hg2 hm2 ha na) rfl) fun σ H Q ⟨ρ, SV, hv, nd, h⟩ => ?_
  have h : tK C W σ SV H (RD C.K SV H ρ true (quiet a' && true)) ((ev a' ρ).bind fun d ρ => liftO (lrgS [d]) ρ) Q := by
    have h : tK C W σ SV H (RD C.K SV H ρ true (quiet a' && true)) ((evs (.cons a' .nil) ρ).bind fun ds ρ => liftO (lrgS ds) ρ) Q := h
    have e3 : evs (.cons a' .nil) ρ = (ev a' ρ).bind fun d ρ => .ok [d] ρ := rfl
    rw [e3] at h
    cases hev : ev a' ρ <;> rw [hev] at h <;> exact h
  refine ⟨ρ, SV, hv, nd, tK_bind0 h fun d ρ1 v H1 SV1 e1 ⟨⟨S, r1⟩, q1⟩ h1 => ?_⟩
  obtain ⟨z, hz, h2⟩ := tK_lift h1
  cases d with
  | int j =>
    unfold lrgS rngOf at hz
    dsimp only at hz
    split at hz
    · rename_i l hl
      split at hl
      · rename_i hb
        cases hl
        split at hz
        · rename_i hlen
          cases hz
          rw [rngD_len] at hlen
          have hlen : j.toNat ≤ 16777216 := hlen
          refine ⟨j, r1.rep.1, ⟨by omega, by omega, by omega, by omega, by rw [Int.sub_zero]; omega⟩, kLst (K := C.K) (ds := rngD 0 j.toNat) (fun w H' S' x rep nd' new => ?_) ?_⟩
          · have en := e1.ext0 x
            obtain ⟨f1, f2⟩ := fresh_sep e1 nd' new
            exact h2 w H' SV1 (e1.trans en) ⟨⟨S', rep, (fun _ => f1), (fun _ => f2)⟩, fun q => (q1 (by simpa using q)).ext x⟩
          · unfold rgV
            rw [Int.sub_zero]
            exact rng_reps
        · cases hz
      · cases hl
    · cases hz
  | _ => cases hz
theorem se_trg1 {a : Expr} {a' : E} {p p2 pos pos2 : Pos} (hc : X.calm = true) (hg : Gl X "tuple") (hm : X.mg "tuple" = none) (hg2 : Gl X "range") (hm2 : X.mg "range" = none) (ha : PE X a (tD C W a')) (na : starEach [a] X.env = (false, eval a X.env) :: starEach [] X.env) :
    PE X (.Call (.Name "tuple" p) [.Call (.Name "range" p2) [a] [] pos2] [] pos) (tD C W (.trg (.cons a' .nil))) := by
  refine pemono (pe_tupRg hc hg hm (prg_1 hg2 hm2 ha na) rfl) fun σ H Q ⟨ρ, SV, hv, nd, h⟩ => ?_
  have h : tK C W σ SV H (RD C.K SV H ρ true (quiet a' && true)) ((ev a' ρ).bind fun d ρ => liftO (trgS [d]) ρ) Q := by
    have h : tK C W σ SV H (RD C.K SV H ρ true (quiet a' && true)) ((evs (.cons a' .nil) ρ).bind fun ds ρ => liftO (trgS ds) ρ) Q := h
    have e3 : evs (.cons a' .nil) ρ = (ev a' ρ).bind fun d ρ => .ok [d] ρ := rfl
    rw [e3] at h
    cases hev : ev a' ρ <;> rw [hev] at h <;> exact h
  refine ⟨ρ, SV, hv, nd, tK_bind0 h fun d ρ1 v H1 SV1 e1 ⟨⟨S, r1⟩, q1⟩ h1 => ?_⟩
  obtain ⟨z, hz, h2⟩ := tK_lift h1
  cases d with
  | int j =>
    unfold trgS rngOf at hz
    dsimp only at hz
    split at hz
    · rename_i l hl
      split at hl
      · rename_i hb
        cases hl
        split at hz
        · rename_i hlen
          cases hz
          rw [rngD_len] at hlen
          have hlen : j.toNat ≤ 16777216 := hlen
          refine ⟨j, r1.rep.1, ⟨by omega, by omega, by omega, by omega, by rw [Int.sub_zero]; omega⟩, kTup (K := C.K) (ds := rngD 0 j.toNat) (fun w H' S' x rep nd' new => ?_) ?_⟩
          · have en := e1.ext0 x
            obtain ⟨f1, f2⟩ := fresh_sep e1 nd' new
            exact h2 w H' SV1 (e1.trans en) ⟨⟨S', rep, (fun _ => f1), (fun _ => f2)⟩, fun q => (q1 (by simpa using q)).ext x⟩
          · unfold rgV
            rw [Int.sub_zero]
            exact rng_reps
        · cases hz
      · cases hl
    · cases hz
  | _ => cases hz
theorem se_lrg2 {a b : Expr} {a' b' : E} {p p2 pos pos2 : Pos} (hc : X.calm = true) (hg : Gl X "list") (hm : X.mg "list" = none) (hg2 : Gl X "range") (hm2 : X.mg "range" = none) (ha : PE X a (tD C W a')) (hb : PE X b (tD C W b')) (na : starEach [a, b] X.env = (false, eval a X.env) :: starEach [b] X.env) (nb : starEach [b] X.env = (false, eval b X.env) :: starEach [] X.env) (hp : (backTo pos2 (starEach [b] X.env)).any (·.1) = false) :
    PE X (.Call (.Name "list" p) [.Call (.Name "range" p2) [a, b] [] pos2] [] pos) (tD C W (.lrg (.cons a' (.cons b' .nil)))) := by
  refine pemono (pe_listRg hc hg hm (prg_2 hg2 hm2 ha hb na nb hp) rfl) fun σ H Q ⟨ρ, SV, hv, nd, h⟩ => ?_
  have h : tK C W σ SV H (RD C.K SV H ρ true (quiet a' && (quiet b' && true))) ((ev a' ρ).bind fun d ρ => (ev b' ρ).bind fun e ρ => liftO (lrgS [d, e]) ρ) Q := by
    have h : tK C W σ SV H (RD C.K SV H ρ true (quiet a' && (quiet b' && true))) ((evs (.cons a' (.cons b' .nil)) ρ).bind fun ds ρ => liftO (lrgS ds) ρ) Q := h
    have e3 : evs (.cons a' (.cons b' .nil)) ρ = (ev a' ρ).bind fun d ρ => ((ev b' ρ).bind fun e ρ => .ok [e] ρ).bind fun es ρ => .ok (d :: es) ρ := rfl
    rw [e3] at h
    cases hev : ev a' ρ with
    | bad => rw [hev] at h; exact h
    | exc x ρ' => rw [hev] at h; exact h
    | ok d ρ1 =>
      rw [hev] at h
      show tK C W σ SV H _ ((ev b' ρ1).bind fun e ρ => liftO (lrgS [d, e]) ρ) Q
      have h : tK C W σ SV H (RD C.K SV H ρ true (quiet a' && (quiet b' && true))) ((((ev b' ρ1).bind fun e ρ => .ok [e] ρ).bind fun es ρ => .ok (d :: es) ρ).bind fun ds ρ => liftO (lrgS ds) ρ) Q := h
      cases hev2 : ev b' ρ1 <;> rw [hev2] at h <;> exact h
  refine ⟨ρ, SV, hv, nd, tK_bind h fun d ρ1 v H1 SV1 e1 ⟨⟨S, r1⟩, q1⟩ h1 => ⟨ρ1, SV1, e1.vars, e1.nd, tK_bind h1 fun e ρ2 u H2 SV2 e2 ⟨⟨S2, r2⟩, q2⟩ h2 => ?_⟩⟩
  obtain ⟨z, hz, h3⟩ := tK_lift h2
  have iD : ∀ w : D, (match w with | .int _ => True | _ => False) ∨ ¬ (match w with | .int _ => True | _ => False) := fun w => by cases w <;> simp
  have hd : ∃ i j, d = .int i ∧ e = .int j := by
    cases d <;> first
      | (cases hz; done)
      | (cases e <;> first
        | (cases hz; done)
        | exact ⟨_, _, rfl, rfl⟩)
  obtain ⟨i, j, rfl, rfl⟩ := hd
  unfold lrgS rngOf at hz
  dsimp only at hz
  split at hz
  · rename_i l hl
    split at hl
    · rename_i hb
      cases hl
      split at hz
      · rename_i hlen
        cases hz
        rw [rngD_len] at hlen
        have hlen : (j - i).toNat ≤ 16777216 := hlen
        have et := e1.trans e2
        refine ⟨i, j, r1.rep.1, r2.rep.1, ⟨by omega, by omega, by omega, by omega, by omega⟩, kLst (K := C.K) (ds := rngD i (j - i).toNat) (fun w H' S' x rep nd' new => ?_) ?_⟩
        · have en := et.ext0 x
          obtain ⟨f1, f2⟩ := fresh_sep et nd' new
          refine h3 w H' SV2 en ⟨e2.trans en, et.trans en, ⟨S', rep, fun _ => f1, fun _ => f2⟩, fun q => ?_⟩
          have q : (quiet a' && (quiet b' && true)) = true := q
          rw [Bool.and_true, Bool.and_eq_true] at q
          exact ((q1 q.1).trans (q2 q.2)).ext x
        · exact rng_reps
      · cases hz
    · cases hl
  · cases hz
/-! ### methods that change nothing -/
theorem idxOf_some {d : PyData} : ∀ {zs : List PyData} {n m : Nat}, idxOf d zs n = some m → ∃ j z, m = n + j ∧ zs[j]? = some z ∧ PyData.eqv z d = true ∧ ∀ (k : Nat) (z' : PyData), k < j → zs[k]? = some z' → PyData.eqv z' d = false
  | [], _, _, h => by cases h
  | z :: zs, n, m, h => by
    unfold idxOf at h
    by_cases hz : PyData.eqv z d = true
    · rw [if_pos hz] at h
      cases h
      exact ⟨0, z, rfl, rfl, hz, fun k z' hk => absurd hk (Nat.not_lt_zero _)⟩
    · rw [if_neg hz] at h
      obtain ⟨j, y, rfl, h1, h2, h3⟩ := idxOf_some h
      refine ⟨j + 1, y, by omega, by simpa using h1, h2, fun k z' hk hz' => ?_⟩
      cases k with
      | zero =>
        cases (show z = z' by simpa using hz')
        simpa using hz
      | succ k => exact h3 k z' (by omega) (by simpa using hz')
theorem flat_rep {d : D} {v : V} {S : List Addr} (r : Rep K H d v S) (f : flatD d = true) : flatV v = true ∧ ∀ {d2 : D} {v2 : V} {S2 : List Addr}, Rep K H d2 v2 S2 → flatD d2 = true → eqV v v2 = PyData.eqv (toP d) (toP d2) := by
  cases d <;> first
    | (cases f; done)
    | (obtain ⟨rfl, _⟩ := r
       refine ⟨rfl, fun {d2 v2 S2} r2 f2 => ?_⟩
       cases d2 <;> first
         | (cases f2; done)
         | (obtain ⟨rfl, _⟩ := r2; rfl))
theorem toPs_get : ∀ {ds : List D} {i : Nat} {z : PyData}, (toPs ds)[i]? = some z → ∃ d, ds[i]? = some d ∧ z = toP d
  | [], _, _, h => by simp [toPs] at h
  | d :: ds, 0, z, h => by
    have h : some (toP d) = some z := h
    cases h
    exact ⟨d, rfl, rfl⟩
  | d :: ds, i + 1, z, h => by
    have h : (toPs ds)[i]? = some z := h
    obtain ⟨e, h1, h2⟩ := toPs_get h
    exact ⟨e, h1, h2⟩
theorem get_toPs : ∀ {ds : List D} {i : Nat} {d : D}, ds[i]? = some d → (toPs ds)[i]? = some (toP d)
  | [], _, _, h => by simp at h
  | e :: ds, 0, d, h => by
    cases (show e = d by simpa using h)
    rfl
  | e :: ds, i + 1, d, h => get_toPs (ds := ds) (i := i) (by simpa using h)
theorem mt_idx (hu : X.A.units + 65 < cLine) : MtR X "list.index" (fun x xs H Q => rIndex X.K x xs H Q ∨ rIndexD X.K x xs H Q) := fun pins s σ H x xs v us Q I rx rxs h => h.elim (mt_index pins s σ H x xs v us Q I rx rxs) (mt_indexD hu pins s σ H x xs v us Q I rx rxs)
theorem se_index {o e : Expr} {a' e' : E} {apos cpos : Pos} (hK : X.K = C.K) (hu : X.A.units + 65 < cLine) (hs' : own a' = true ∨ quiets (.cons e' .nil) = true) (ho : PE X o (tD C W a')) (ha : PA X [e] (tA C W (.cons e' .nil)))
    (hbase : attributeBase o "index" X.env (eval o X.env) = eval o X.env)
    (hfew : ((backTo cpos (starEach [e] X.env)).all (fun x => !x.1) && (backToKw cpos (keywordEach [] X.env)).all (fun x => x.1.isSome)
      && decide (([e] : List Expr).length + ([] : List Keyword).length + (if ([] : List Keyword).isEmpty then 0 else 1) < 30)) = true)
    (hline : (apos.endLine == cpos.line) = true) (hs : starEach [e] X.env = (false, eval e X.env) :: starEach [] X.env) (hplain : (backTo cpos (starEach [] X.env)).any (·.1) = false) :
    PE X (.Call (.Attribute o "index" apos) [e] [] cpos) (tD C W (.me .index a' (.cons e' .nil))) := by
  refine pemono (pe_bm PySem.F.plainAttrs_list PySem.F.slot_list_index PySem.F.type_list_index (mt_idx hu) ho ha hbase hfew hline hs hplain) fun σ H Q ⟨ρ, SV, hv', nd, h⟩ => ?_
  have h : tK C W σ SV H (RD C.K SV H ρ true (quiet a' && quiets (.cons e' .nil))) ((ev a' ρ).bind fun x ρ => if Mth.index.recv x = true then (evs (.cons e' .nil) ρ).bind fun ds ρ => liftO (Mth.index.sem x ds) ρ else .bad) Q := h
  refine ⟨ρ, SV, hv', nd, tK_bind h fun d ρ1 v H1 SV1 e1 ⟨⟨S, r1⟩, q1⟩ h1 => ?_⟩
  by_cases hr : Mth.index.recv d = true
  case neg => rw [if_neg hr] at h1; exact h1.elim
  rw [if_pos hr] at h1
  cases d with
  | lst oo xs =>
    obtain ⟨a, vs, T, rfl, q, rs, _⟩ := lst_sq r1.rep
    refine ⟨.inl ⟨rfl, vs, .inl q⟩, ρ1, SV1, e1.vars, e1.nd, tK_bind h1 fun ds ρ2 us H2 SV2 e2 ⟨⟨T2, r2⟩, q2⟩ h2 => ?_⟩
    obtain ⟨rep1, _⟩ := r1.carry e2 e1 q2 hs'
    obtain ⟨z, hz, h3⟩ := tK_lift h2
    cases r2.rep with
    | @cons _ _ y ds u us S2 T3 rd t =>
      cases t
      change indexS (.lst oo xs) y = some z at hz
      unfold indexS at hz
      dsimp only at hz
      split at hz
      · rename_i hc
        cases hi : idxOf (toP y) (toPs xs) 0 with
        | none => rw [hi] at hz; cases hz
        | some m =>
          rw [hi] at hz
          cases hz
          obtain ⟨j, zz, rfl, i1, i2, i3⟩ := idxOf_some hi
          have et := e1.trans e2
          have fin : Q (.int (j : Nat)) H2 := by
            have en : EnvP C.K SV2 H2 σ ρ2 H2 SV2 := .refl e2.vars e2.nd
            refine h3 (.int (j : Nat)) H2 SV2 en ⟨e2.trans en, et.trans en, ⟨[], ⟨by rw [Nat.zero_add], rfl⟩, (fun _ a ha => absurd ha List.not_mem_nil), (fun _ => e2.nd)⟩, fun q => ?_⟩
            rw [Bool.and_eq_true] at q
            exact (q1 q.1).trans (q2 q.2)
          rcases hc with ⟨f1, f2⟩ | ⟨c1, c2, c3, c4⟩
          · obtain ⟨a2, vs2, T4, ea, q4, rs2, _⟩ := lst_sq rep1
            cases ea
            have fl := flat_rep rd f1
            have fA : ∀ z ∈ xs, flatD z = true := fun z hz => List.all_eq_true.mp f2 z hz
            obtain ⟨zd, hzd, rfl⟩ := toPs_get i1
            obtain ⟨zv, T5, hzv, rz, _⟩ := rs2.get hzd
            refine .inl ⟨a, vs2, u, j, zv, rfl, rfl, by rw [hK]; exact .inl q4, fl.1, ?_, hzv, ?_, fun k z' hk hz' => ?_, fin⟩
            · rw [List.all_eq_true]
              intro w hw
              obtain ⟨k, hk, e⟩ := List.mem_iff_getElem.mp hw
              obtain ⟨dd, T6, g1, g2, _⟩ := rs2.of_get (i := k) (v := w) (by rw [List.getElem?_eq_getElem hk, e])
              exact (flat_rep g2 (fA dd (List.mem_of_getElem? g1))).1
            · rw [(flat_rep rz (fA zd (List.mem_of_getElem? hzd))).2 rd f1]
              exact i2
            · obtain ⟨dd, T6, g1, g2, _⟩ := rs2.of_get hz'
              rw [(flat_rep g2 (fA dd (List.mem_of_getElem? g1))).2 rd f1]
              exact i3 k (toP dd) hk (get_toPs g1)
          · exact .inr ⟨a, u, toP y, toPs xs, j, zz, rfl, rfl, by rw [hK]; exact rep_dp (.lst oo xs) rep1 c4, by rw [hK]; exact rep_dp y rd c3, c1, c2, i1, i2, i3, fin⟩
      · cases hz
  | _ => cases hr
end
end Ly

namespace Ly
open PySem PySem.Spec L2
variable [Fns]
section
variable {K : PySem.W.Frag} {SV SV1 : List Addr} {H H1 H2 : Hp} {σ : St} {ρ ρ1 : Ev}
/-- one item set, in a heap that keeps the others -/
theorem Reps.setH : ∀ {ds : List D} {vs : List V} {S : List Addr} {k : Nat} {d : D}, Reps K H ds vs S → ds[k]? = some d → ∃ v T R, vs[k]? = some v ∧ Rep K H d v T ∧ S.Perm (T ++ R) ∧ ∀ H' d' v' T', Kp R H H' → Rep K H' d' v' T' → ∃ S2, Reps K H' (ds.set k d') (vs.set k v') S2 ∧ S2.Perm (T' ++ R)
  | [], _, _, _, _, _, h => by simp at h
  | e :: ds, _, _, 0, d, h, hk => by
    obtain ⟨v, r, S1, S2, rfl, q1, q2, rfl⟩ := h
    cases (show e = d by simpa using hk)
    exact ⟨v, S1, S2, rfl, q1, .refl _, fun H' d' v' T' kp r' => ⟨T' ++ S2, Reps.cons r' (q2.kp _ kp), .refl _⟩⟩
  | e :: ds, _, _, k + 1, d, h, hk => by
    obtain ⟨v, r, S1, S2, rfl, q1, q2, rfl⟩ := h
    obtain ⟨v1, T, R, h1, h2, h3, h5⟩ := Reps.setH (k := k) q2 (by simpa using hk)
    refine ⟨v1, T, S1 ++ R, by simpa using h1, h2, ?_, fun H' d' v' T' kp r' => ?_⟩
    · refine (h3.append_left S1).trans ?_
      rw [← List.append_assoc, ← List.append_assoc]
      exact (List.perm_append_comm).append_right R
    · obtain ⟨S3, h6, h7⟩ := h5 H' d' v' T' (kp.sub fun a ha => List.mem_append_right _ ha) r'
      refine ⟨S1 ++ S3, Reps.cons (q1.kp _ (kp.sub fun a ha => List.mem_append_left _ ha)) h6, (h7.append_left S1).trans ?_⟩
      rw [← List.append_assoc, ← List.append_assoc]
      exact (List.perm_append_comm).append_right R
/-- an own list, of frozen things, within the own list of a name: where it lies, and how it is written -/
theorem inner_write {i n : Nat} {xs ys : List D} (e1 : EnvP K SV H σ ρ1 H1 SV1) (hg : getV ρ1 i = some (.lst true xs)) (hn : xs[n]? = some (.lst true ys)) (hf : ys.all frzD = true) :
    ∃ a vs b ws, σ[i]? = some (some (.ref a)) ∧ H1 a = some (.lst vs) ∧ vs.length = xs.length ∧ vs[n]? = some (.ref b) ∧ H1 b = some (.lst ws) ∧ Reps K H1 ys ws [] ∧
      ∀ zs ws', Reps K (upd H1 b (.lst ws')) zs ws' [] → ∃ SV2, EnvP K SV H σ (ρ1.set i (some (.lst true (xs.set n (.lst true zs))))) (upd H1 b (.lst ws')) SV2 := by
  obtain ⟨a, vs, S', R, hσ, hH, rs, f⟩ := lst_at e1.vars hg
  obtain ⟨v, T, R0, h1, h2, h3, h5⟩ := Reps.setH rs hn
  obtain ⟨b, ws, T0, rfl, hb, rb, rfl⟩ := h2
  have := rb.frz hf
  subst this
  have ndf : ((a :: S') ++ R).Nodup := f.perm.nodup_iff.mp e1.nd
  obtain ⟨na, ndf'⟩ := List.nodup_cons.mp (show (a :: (S' ++ R)).Nodup from ndf)
  have p0 : S'.Perm (b :: R0) := h3
  have bS : b ∈ S' := p0.mem_iff.mpr List.mem_cons_self
  have hab : a ≠ b := fun e => na (by rw [e]; exact List.mem_append_left _ bS)
  have bR : b ∉ R := fun z => (List.nodup_append.mp ndf').2.2 b bS b z rfl
  have bR0 : b ∉ R0 := (List.nodup_cons.mp (p0.nodup_iff.mp (List.nodup_append.mp ndf').1)).1
  refine ⟨a, vs, b, ws, hσ, hH, rs.length.symm, h1, hb, rb, fun zs ws' rz => ?_⟩
  have kR0 : Kp R0 H1 (upd H1 b (.lst ws')) := kp_upd hb (show Mb (.lst ws) from True.intro) bR0
  have kR : Kp R H1 (upd H1 b (.lst ws')) := kp_upd hb (show Mb (.lst ws) from True.intro) bR
  obtain ⟨S2, h6, h7⟩ := h5 (upd H1 b (.lst ws')) (.lst true zs) (.ref b) [b] kR0 ⟨b, ws', [], rfl, upd_same, rz, rfl⟩
  have h7 : S2.Perm (b :: R0) := h7
  rw [set_same h1] at h6
  have hHa : (upd H1 b (.lst ws')) a = some (.lst vs) := by rw [upd_ne hab]; exact hH
  obtain ⟨SV2, v2, p2⟩ := f.set (upd H1 b (.lst ws')) (.lst true (xs.set n (.lst true zs))) (.ref a) (a :: S2) kR ⟨a, vs, S2, rfl, hHa, h6, rfl⟩
  rw [set_same hσ] at v2
  have pp : SV2.Perm SV1 := by
    refine p2.trans (.trans ?_ f.perm.symm)
    exact (((h7.trans p0.symm).cons a).append_right R)
  refine ⟨SV2, v2, pp.nodup_iff.mpr e1.nd, fun c hc => e1.src c (pp.mem_iff.mp hc), fun c u hc hs => ?_⟩
  rw [upd_ne (fun z => ?_)]
  · exact e1.ext c u hc hs
  · subst z
    have bSV : c ∈ SV1 := f.perm.mem_iff.mpr (List.mem_append_left _ (List.mem_cons_of_mem _ bS))
    rcases e1.src c bSV with q | q
    · exact hs q
    · rw [hc] at q; cases q
theorem isP_some {i : Nat} {k : Int} (h : isP ρ i k = true) : ∃ xs n ys, getV ρ i = some (.lst true xs) ∧ ixN xs.length k = some n ∧ xs[n]? = some (.lst true ys) := by
  unfold isP at h
  split at h
  · rename_i xs e
    split at h
    · rename_i n e2
      split at h
      · rename_i ys e3
        exact ⟨xs, n, ys, e, e2, e3⟩
      · cases h
    · cases h
  · cases h
theorem onP_some {α : Type} {f : List D → Option (α × List D)} {i : Nat} {k : Int} {ρ' : Ev} {d : α} (h : onP f i k ρ = .ok d ρ') : ∃ xs n ys zs, getV ρ i = some (.lst true xs) ∧ ixN xs.length k = some n ∧ xs[n]? = some (.lst true ys) ∧ ys.all frzD = true ∧ f ys = some (d, zs) ∧ zs.all frzD = true ∧ ρ' = ρ.set i (some (.lst true (xs.set n (.lst true zs)))) := by
  unfold onP at h
  split at h
  · rename_i xs e
    split at h
    · rename_i n e2
      split at h
      · rename_i ys e3
        split at h
        · rename_i c1
          split at h
          · rename_i a zs e4
            split at h
            · rename_i c2
              cases h
              exact ⟨xs, n, ys, zs, e, e2, e3, c1, e4, c2, rfl⟩
            · cases h
          · cases h
        · cases h
      · cases h
    · cases h
  · cases h
theorem onP_exc {α : Type} {f : List D → Option (α × List D)} {i : Nat} {k : Int} {ρ' : Ev} {x : D} (h : onP f i k ρ = .exc x ρ') : False := by
  unfold onP at h
  split at h
  · split at h
    · split at h
      · split at h
        · split at h
          · split at h <;> cases h
          · cases h
        · cases h
      · cases h
    · cases h
  · cases h
theorem Reps.all_frz {ds : List D} {vs : List V} {S : List Addr} (r : Reps K H ds vs S) (h : ds.all frzD = true) : Reps K H ds vs [] := by
  have := r.frz h
  subst this
  exact r
theorem Reps.erase0 {ds : List D} {vs : List V} {k : Nat} {d : D} (r : Reps K H ds vs []) (h : ds[k]? = some d) : Reps K H (ds.eraseIdx k) (vs.eraseIdx k) [] := by
  obtain ⟨v, T, R, h1, h2, h3, h4, _⟩ := Reps.split r h
  have e : T ++ R = [] := h3.symm.eq_nil
  obtain ⟨rfl, rfl⟩ := List.append_eq_nil_iff.mp e
  exact h4
theorem Reps.set0 {ds : List D} {vs : List V} {k : Nat} {d d' : D} {v' : V} (r : Reps K H ds vs []) (h : ds[k]? = some d) (r' : Rep K H d' v' []) : Reps K H (ds.set k d') (vs.set k v') [] := by
  obtain ⟨v, T, R, h1, h2, h3, _, h4⟩ := Reps.split r h
  have e : T ++ R = [] := h3.symm.eq_nil
  obtain ⟨rfl, rfl⟩ := List.append_eq_nil_iff.mp e
  obtain ⟨S2, h5, h6⟩ := h4 d' v' [] r'
  have : S2 = [] := h6.eq_nil
  subst this
  exact h5
end
section
variable {X : Cx} {C : Cfg} {W : WX} {P : List Nat} {pos : Pos}
theorem tK_bind2 {α β γ δ : Type} {SV SV1 : List Addr} {H H1 : Hp} {σ : St} {ρ1 : Ev} {R : α → Ev → List Addr → Hp → β → Prop} {R' : γ → Ev → List Addr → Hp → δ → Prop} {m : Out α} {f : α → Ev → Out γ} {Q : δ → Hp → Prop} {Q1 : β → Hp → Prop} (e1 : EnvP C.K SV H σ ρ1 H1 SV1)
    (h : tK C W σ SV H R' (m.bind f) Q) (k : ∀ d ρ2 v H2 SV2, EnvP C.K SV1 H1 σ ρ2 H2 SV2 → R d ρ2 SV2 H2 v → tK C W σ SV H R' (f d ρ2) Q → Q1 v H2) : tK C W σ SV1 H1 R m Q1 := by
  cases m with
  | bad => exact h
  | exc x ρ' => exact fun cls dd H' SV' e er => h cls dd H' SV' (e1.trans e) er
  | ok d ρ2 => exact fun v H2 SV2 e2 r2 => k d ρ2 v H2 SV2 e2 r2 h
/-- x[p], the list within -/
theorem inner_ix {n : Nat} {k : Int} {xs : List D} {H : Hp} {a : Addr} {vs : List V} {b : Addr} {R : VK} (hK : X.K = C.K) (hH : H a = some (.lst vs)) (hl : vs.length = xs.length) (hk : ixN xs.length k = some n) (hv : vs[n]? = some (.ref b)) (h : R (.ref b) H) : rIxL X.K (.ref a) (.int k) H R := by
  refine ⟨a, vs, k, .ref b, rfl, rfl, .inl (.inl hH), ?_, h⟩
  unfold atI
  rw [hl, hk]
  exact hv
theorem se_popP {i : Nat} {e pe : Expr} {e' p' : E} {x : Str} {p p2 apos cpos : Pos} (hK : X.K = C.K) (ho : own e' = true) (hqp : quiet p' = true) (hqe : quiet e' = true) (hN : X.N[i]? = some x) (hv : Vis X.env.scope x) (hd : (x == ("__debug__" : Str)) = false) (hcd : (x == ("__classdict__" : Str)) = false)
    (hp : PE X pe (tD C W p')) (hpl : PlainIx pe) (ha : PA X [e] (tA C W (.cons e' .nil)))
    (hbase : attributeBase (.Subscript (.Name x p) pe p2) "pop" X.env (eval (.Subscript (.Name x p) pe p2) X.env) = eval (.Subscript (.Name x p) pe p2) X.env)
    (hfew : ((backTo cpos (starEach [e] X.env)).all (fun x => !x.1) && (backToKw cpos (keywordEach [] X.env)).all (fun x => x.1.isSome)
      && decide (([e] : List Expr).length + ([] : List Keyword).length + (if ([] : List Keyword).isEmpty then 0 else 1) < 30)) = true)
    (hline : (apos.endLine == cpos.line) = true) (hs : starEach [e] X.env = (false, eval e X.env) :: starEach [] X.env) (hplain : (backTo cpos (starEach [] X.env)).any (·.1) = false) :
    PE X (.Call (.Attribute (.Subscript (.Name x p) pe p2) "pop" apos) [e] [] cpos) (tD C W (.popP i p' e')) := by
  refine pemono (pe_bm PySem.F.plainAttrs_list PySem.F.slot_list_pop PySem.F.type_list_pop mt_popAt (pe_ix ix_list (pe_var hN hv hd hcd) hp hpl) ha hbase hfew hline hs hplain) fun σ H Q ⟨ρ, SV, hv', nd, h⟩ => ?_
  have h : tK C W σ SV H (RD C.K SV H ρ true false) (if isL ρ i = true then (ev p' ρ).bind fun k ρ => (match k with
    | .int k => if isP ρ i k = true then (ev e' ρ).bind fun x ρ => (match x with
      | .int j => onP (popAtF j) i k ρ
      | _ => .bad) else .bad
    | _ => .bad) else .bad) Q := h
  by_cases hl : isL ρ i = true
  case neg => rw [if_neg hl] at h; exact h.elim
  rw [if_pos hl] at h
  obtain ⟨xs0, h0⟩ := isL_some hl
  obtain ⟨a, vs0, S0, R0, hσ, _, _, _⟩ := lst_at hv' h0
  refine ⟨.ref a, hσ, ρ, SV, hv', nd, tK_bind0 h fun kd ρ1 u H1 SV1 e1 ⟨⟨S1, r1⟩, q1⟩ h1 => ?_⟩
  obtain ⟨rfl, rfl, x1⟩ := q1 hqp
  cases kd with
  | int k =>
    have := r1.rep.1
    subst this
    have h1 : tK C W σ SV1 H (RD C.K SV1 H ρ1 true false) (if isP ρ1 i k = true then (ev e' ρ1).bind fun x ρ => (match x with
      | .int j => onP (popAtF j) i k ρ
      | _ => .bad) else .bad) Q := h1
    by_cases hP : isP ρ1 i k = true
    case neg => rw [if_neg hP] at h1; exact h1.elim
    rw [if_pos hP] at h1
    obtain ⟨xs, n, ys, g1, g2, g3⟩ := isP_some hP
    have e3 : evs (.cons e' .nil) ρ1 = (ev e' ρ1).bind fun d ρ => .ok [d] ρ := rfl
    -- where the list within lies
    obtain ⟨a1, vs1, S', R, hσ1, hH1, rs, f⟩ := lst_at e1.vars g1
    rw [hσ] at hσ1
    cases hσ1
    obtain ⟨v, T, R1, k1, k2, _, _⟩ := Reps.split rs g3
    obtain ⟨b, ws, T0, rfl, hb, rb, rfl⟩ := k2
    refine inner_ix (xs := xs) hK hH1 rs.length.symm g2 k1 ⟨.inl ⟨rfl, ws, .inl (.inl hb)⟩, ρ1, SV1, e1.vars, e1.nd, ?_⟩
    have h2 : tK C W σ SV1 H (RD C.K SV1 H ρ1 true false) ((evs (.cons e' .nil) ρ1).bind fun ds ρ => match ds with
      | [.int j] => onP (popAtF j) i k ρ
      | _ => .bad) Q := by
      rw [e3]
      cases hev : ev e' ρ1 with
      | bad => rw [hev] at h1; exact h1
      | exc x ρ' => rw [hev] at h1; exact h1
      | ok d ρ' => rw [hev] at h1; cases d <;> exact h1
    refine tK_bind2 e1 h2 fun ds ρ2 us H2 SV2 e2 ⟨⟨S2, r2⟩, q2⟩ h3 => ?_
    obtain ⟨rfl, rfl, x2⟩ := q2 (show (quiet e' && true) = true by rw [hqe]; rfl)
    cases r2.rep with
    | @cons _ _ d ds v vs T T' rd t =>
      cases t
      cases d with
      | int j =>
        have h3 : tK C W σ SV2 H (RD C.K SV2 H ρ2 true false) (onP (popAtF j) i k ρ2) Q := h3
        have := rd.1
        subst this
        cases hon : onP (popAtF j) i k ρ2 with
        | bad => rw [hon] at h3; exact h3.elim
        | exc x ρ' => exact (onP_exc hon).elim
        | ok d ρ' =>
          rw [hon] at h3
          obtain ⟨xs', n', ys', zs, o1, o2, o3, o4, o5, o6, rfl⟩ := onP_some hon
          rw [g1] at o1
          cases o1
          rw [g2] at o2
          cases o2
          rw [g3] at o3
          cases o3
          have e12 := e1.trans e2
          obtain ⟨a2, vs2, b2, ws2, w1, w2, w3, w4, w5, w6, w7⟩ := inner_write e12 g1 g3 o4
          rw [hσ] at w1
          cases w1
          have hvs : vs2 = vs1 := by
            have := x2 _ _ hH1 List.not_mem_nil
            rw [w2] at this
            cases this
            rfl
          subst hvs
          rw [k1] at w4
          cases w4
          unfold popAtF at o5
          split at o5
          · rename_i m hm
            split at o5
            · rename_i d' hx
              split at o5
              · rename_i hc
                cases o5
                have lw := w6.length
                obtain ⟨j1, j2, j3, j4⟩ := ixN_seq hm
                have hlm := lim_eq
                have hsl := sizeLine_eq
                obtain ⟨yv, hy, ry⟩ := w6.get0 hx
                have kU : ∀ ws', Kp [] H2 (upd H2 b (.lst ws')) := fun ws' => kp_upd w5 (show Mb (.lst ws2) from True.intro) List.not_mem_nil
                obtain ⟨SV3, e3'⟩ := w7 _ _ ((w6.erase0 hx).kp _ (kU (ws2.eraseIdx m)))
                exact ⟨b, ws2, j, m, yv, rfl, rfl, w5, by omega, by omega, by rw [← lw]; exact j1, hy, h3 yv _ SV3 e3' (res_frz e3' (ry.kp _ (kU _)))⟩
              · cases o5
            · cases o5
          · cases o5
      | _ => exact h3.elim
  | _ => exact h1.elim
/-- x[p][ix] = e -/
theorem s_setP {i : Nat} {e pe ix : Expr} {e' p' ix' : E} {x : Str} {p p2 tpos : Pos} (hK : X.K = C.K) (hu : X.A.units + 1 < cLine) (ho : own e' = true) (hqp : quiet p' = true) (hqi : quiet ix' = true) (hN : X.N[i]? = some x) (hv : Vis X.env.scope x) (hd : (x == ("__debug__" : Str)) = false) (hcd : (x == ("__classdict__" : Str)) = false)
    (he : PE X e (tD C W e')) (hp : PE X pe (tD C W p')) (hpl : PlainIx pe) (hix : PE X ix (tD C W ix'))
    (ha : ∀ v, assign (.Subscript (.Subscript (.Name x p) pe p2) ix tpos) X.env v = (do
      let ov ← holding [v] (eval (.Subscript (.Name x p) pe p2) X.env)
      let iv ← holding [v, ov] (eval ix X.env)
      standAt tpos
      holding [v, ov, iv] (setItem ov iv v)
      release [v, ov, iv] []))
    (hs : swapsWithSole [.Subscript (.Subscript (.Name x p) pe p2) ix tpos] e pos.line X.env = pure false) (hw : swappedStores [.Subscript (.Subscript (.Name x p) pe p2) ix tpos] e X.env = pure none) (h1 : (assignEach [.Subscript (.Subscript (.Name x p) pe p2) ix tpos] X.env).map (·.2) = [assign (.Subscript (.Subscript (.Name x p) pe p2) ix tpos) X.env]) :
    PS X (.Assign [.Subscript (.Subscript (.Name x p) pe p2) ix tpos] e pos) (tS C W P (.setP i p' ix' e')) := by
  refine psmono (ps_asg he (pg_sub (pe_ix ix_list (pe_var hN hv hd hcd) hp hpl) hix (set_any hu) ha) hs hw h1) fun D σ H ⟨ρ, SV, hv', nd, h⟩ => ⟨ρ, SV, hv', nd, ?_⟩
  refine sK_bind (show sK C W P σ SV H D ((ev e' ρ).bind fun d ρ => if isL ρ i = true then (ev p' ρ).bind fun k ρ => (match k with
    | .int k => if isP ρ i k = true then (ev ix' ρ).bind fun j ρ => (match j with
      | .int j => (onP (setF j d) i k ρ).bind fun _ ρ => .ok .nx ρ
      | _ => .bad) else .bad
    | _ => .bad) else .bad) from h) fun d ρ1 v H1 SV1 e1 ⟨⟨T, r1⟩, _⟩ h1 => ?_
  by_cases hl : isL ρ1 i = true
  case neg => rw [if_neg hl] at h1; exact h1.elim
  rw [if_pos hl] at h1
  obtain ⟨xs0, h0⟩ := isL_some hl
  obtain ⟨a, vs0, S0, R0, hσ, _, _, _⟩ := lst_at e1.vars h0
  have hsep := r1.sep ho
  refine ⟨.ref a, hσ, ρ1, SV1, e1.vars, e1.nd, sK_bind2 e1 h1 fun kd ρ2 u H2 SV2 e2 ⟨⟨Sk, rk⟩, q2⟩ h2 => ?_⟩
  obtain ⟨rfl, rfl, x2⟩ := q2 hqp
  cases kd with
  | int k =>
    have := rk.rep.1
    subst this
    have e12 : EnvP C.K SV H σ ρ2 H2 SV2 := e1.trans e2
    have h2 : sK C W P σ SV H D (if isP ρ2 i k = true then (ev ix' ρ2).bind fun j ρ => (match j with
      | .int j => (onP (setF j d) i k ρ).bind fun _ ρ => .ok .nx ρ
      | _ => .bad) else .bad) := h2
    by_cases hP : isP ρ2 i k = true
    case neg => rw [if_neg hP] at h2; exact h2.elim
    rw [if_pos hP] at h2
    obtain ⟨xs, n, ys, g1, g2, g3⟩ := isP_some hP
    obtain ⟨a1, vs1, S', R, hσ1, hH2, rs, f⟩ := lst_at e12.vars g1
    rw [hσ] at hσ1
    cases hσ1
    obtain ⟨v0, T0', R1, k1, k2, _, _⟩ := Reps.split rs g3
    obtain ⟨b, ws, T0, rfl, hb, rb, rfl⟩ := k2
    refine inner_ix (xs := xs) hK hH2 rs.length.symm g2 k1 ⟨ρ2, SV2, e12.vars, e12.nd, sK_bind2 e12 h2 fun jd ρ3 y H3 SV3 e3 ⟨⟨Sj, rj⟩, q3⟩ h3 => ?_⟩
    obtain ⟨rfl, rfl, x3⟩ := q3 hqi
    cases jd with
    | int j =>
      have := rj.rep.1
      subst this
      have h3 : sK C W P σ SV H D ((onP (setF j d) i k ρ3).bind fun _ ρ => .ok .nx ρ) := h3
      cases hon : onP (setF j d) i k ρ3 with
      | bad => rw [hon] at h3; exact h3.elim
      | exc x ρ' => exact (onP_exc hon).elim
      | ok d' ρ' =>
        rw [hon] at h3
        obtain ⟨xs', n', ys', zs, o1, o2, o3, o4, o5, o6, rfl⟩ := onP_some hon
        rw [g1] at o1
        cases o1
        rw [g2] at o2
        cases o2
        rw [g3] at o3
        cases o3
        have e123 := e12.trans e3
        obtain ⟨a2, vs2, b2, ws2, w1, w2, w3, w4, w5, w6, w7⟩ := inner_write e123 g1 g3 o4
        rw [hσ] at w1
        cases w1
        have hvs : vs2 = vs1 := by
          have := x3 _ _ hH2 List.not_mem_nil
          rw [w2] at this
          cases this
          rfl
        subst hvs
        rw [k1] at w4
        cases w4
        unfold setF at o5
        split at o5
        · rename_i m hm
          cases o5
          have hmy : m < ys.length := (ixN_seq hm).2.1
          have fd : frzD d = true := by
            have : d ∈ ys.set m d := List.mem_of_getElem? (i := m) (by rw [List.getElem?_set_self hmy])
            exact List.all_eq_true.mp o6 d this
          have rd3 : Rep C.K H3 d v [] := by
            have rT := r1.rep.frz fd
            have r0 := r1.rep
            rw [rT] at r0
            exact (r0.kp d (x2.all _)).kp d (x3.all _)
          have lw := w6.length
          have kU : ∀ ws', Kp [] H3 (upd H3 b (.lst ws')) := fun ws' => kp_upd w5 (show Mb (.lst ws2) from True.intro) List.not_mem_nil
          obtain ⟨SV4, e4⟩ := w7 _ _ ((w6.set0 (List.getElem?_eq_getElem hmy) rd3).kp _ (kU (ws2.set m v)))
          exact .inl ⟨b, ws2, j, m, rfl, rfl, w5, by rw [← lw]; exact hm, h3 σ _ SV4 e4 .refl⟩
        · cases o5
    | _ => exact h3.elim
  | _ => exact h2.elim
/-- x[p].append(e) -/
theorem s_appP {i : Nat} {e pe : Expr} {e' p' : E} {x : Str} {p p2 apos cpos pos : Pos} (hK : X.K = C.K) (ho : own e' = true) (hqp : quiet p' = true) (hqe : quiet e' = true) (hN : X.N[i]? = some x) (hv : Vis X.env.scope x) (hd : (x == ("__debug__" : Str)) = false) (hcd : (x == ("__classdict__" : Str)) = false)
    (hp : PE X pe (tD C W p')) (hpl : PlainIx pe) (ha : PA X [e] (tA C W (.cons e' .nil)))
    (hbase : attributeBase (.Subscript (.Name x p) pe p2) "append" X.env (eval (.Subscript (.Name x p) pe p2) X.env) = eval (.Subscript (.Name x p) pe p2) X.env)
    (hfew : ((backTo cpos (starEach [e] X.env)).all (fun x => !x.1) && (backToKw cpos (keywordEach [] X.env)).all (fun x => x.1.isSome)
      && decide (([e] : List Expr).length + ([] : List Keyword).length + (if ([] : List Keyword).isEmpty then 0 else 1) < 30)) = true)
    (hline : (apos.endLine == cpos.line) = true) (hs : starEach [e] X.env = (false, eval e X.env) :: starEach [] X.env) (hplain : (backTo cpos (starEach [] X.env)).any (·.1) = false) (hsw : swapsWith (.Call (.Attribute (.Subscript (.Name x p) pe p2) "append" apos) [e] [] cpos) none pos.line X.env = pure false) :
    PS X (.Expr (.Call (.Attribute (.Subscript (.Name x p) pe p2) "append" apos) [e] [] cpos) pos) (tS C W P (.appP i p' e')) := by
  refine psmono (ps_expr (pe_bm PySem.F.plainAttrs_list PySem.F.slot_list_append PySem.F.type_list_append mt_append (pe_ix ix_list (pe_var hN hv hd hcd) hp hpl) ha hbase hfew hline hs hplain) hsw) fun D σ H ⟨ρ, SV, hv', nd, h⟩ => ?_
  have h : sK C W P σ SV H D (if isL ρ i = true then (ev p' ρ).bind fun k ρ => (match k with
    | .int k => if isP ρ i k = true then (ev e' ρ).bind fun d ρ => (onP (appF d) i k ρ).bind fun _ ρ => .ok .nx ρ else .bad
    | _ => .bad) else .bad) := h
  by_cases hl : isL ρ i = true
  case neg => rw [if_neg hl] at h; exact h.elim
  rw [if_pos hl] at h
  obtain ⟨xs0, h0⟩ := isL_some hl
  obtain ⟨a, vs0, S0, R0, hσ, _, _, _⟩ := lst_at hv' h0
  refine ⟨.ref a, hσ, ρ, SV, hv', nd, sK_bind h fun kd ρ1 u H1 SV1 e1 ⟨⟨S1, r1⟩, q1⟩ h1 => ?_⟩
  obtain ⟨rfl, rfl, x1⟩ := q1 hqp
  cases kd with
  | int k =>
    have := r1.rep.1
    subst this
    have h1 : sK C W P σ SV1 H D (if isP ρ1 i k = true then (ev e' ρ1).bind fun d ρ => (onP (appF d) i k ρ).bind fun _ ρ => .ok .nx ρ else .bad) := h1
    by_cases hP : isP ρ1 i k = true
    case neg => rw [if_neg hP] at h1; exact h1.elim
    rw [if_pos hP] at h1
    obtain ⟨xs, n, ys, g1, g2, g3⟩ := isP_some hP
    have e3 : evs (.cons e' .nil) ρ1 = (ev e' ρ1).bind fun d ρ => .ok [d] ρ := rfl
    obtain ⟨a1, vs1, S', R, hσ1, hH1, rs, f⟩ := lst_at e1.vars g1
    rw [hσ] at hσ1
    cases hσ1
    obtain ⟨v, T, R1, k1, k2, _, _⟩ := Reps.split rs g3
    obtain ⟨b, ws, T0, rfl, hb, rb, rfl⟩ := k2
    refine inner_ix (xs := xs) hK hH1 rs.length.symm g2 k1 ⟨.inl ⟨rfl, ws, .inl (.inl hb)⟩, ρ1, SV1, e1.vars, e1.nd, ?_⟩
    have h2 : sK C W P σ SV1 H D ((evs (.cons e' .nil) ρ1).bind fun ds ρ => match ds with
      | [d] => (onP (appF d) i k ρ).bind fun _ ρ => .ok .nx ρ
      | _ => .bad) := by
      rw [e3]
      cases hev : ev e' ρ1 <;> rw [hev] at h1 <;> exact h1
    refine sK_bind2 e1 h2 fun ds ρ2 us H2 SV2 e2 ⟨⟨S2, r2⟩, q2⟩ h3 => ?_
    obtain ⟨rfl, rfl, x2⟩ := q2 (show (quiet e' && true) = true by rw [hqe]; rfl)
    cases r2.rep with
    | @cons _ _ d ds v vs T T' rd t =>
      cases t
      have h3 : sK C W P σ SV2 H D ((onP (appF d) i k ρ2).bind fun _ ρ => .ok .nx ρ) := h3
      cases hon : onP (appF d) i k ρ2 with
      | bad => rw [hon] at h3; exact h3.elim
      | exc x ρ' => exact (onP_exc hon).elim
      | ok d' ρ' =>
        rw [hon] at h3
        obtain ⟨xs', n', ys', zs, o1, o2, o3, o4, o5, o6, rfl⟩ := onP_some hon
        rw [g1] at o1
        cases o1
        rw [g2] at o2
        cases o2
        rw [g3] at o3
        cases o3
        have e12 := e1.trans e2
        obtain ⟨a2, vs2, b2, ws2, w1, w2, w3, w4, w5, w6, w7⟩ := inner_write e12 g1 g3 o4
        rw [hσ] at w1
        cases w1
        have hvs : vs2 = vs1 := by
          have := x2 _ _ hH1 List.not_mem_nil
          rw [w2] at this
          cases this
          rfl
        subst hvs
        rw [k1] at w4
        cases w4
        unfold appF at o5
        split at o5
        · rename_i hlt
          cases o5
          rw [List.all_append, Bool.and_eq_true] at o6
          have fd : frzD d = true := (Bool.and_eq_true_iff.mp (show (frzD d && true) = true from o6.2)).1
          have rd0 : Rep C.K H2 d v [] := by
            have rT := rd.frz fd
            rw [rT] at rd
            exact rd
          have lw := w6.length
          have hlm := lim_eq
          have kU : ∀ ws', Kp [] H2 (upd H2 b (.lst ws')) := fun ws' => kp_upd w5 (show Mb (.lst ws2) from True.intro) List.not_mem_nil
          obtain ⟨SV4, e4⟩ := w7 (ys ++ [d]) (ws2 ++ [v]) ((w6.app (Reps.cons (S1 := []) (S2 := []) rd0 Reps.nil)).kp _ (kU (ws2 ++ [v])))
          exact ⟨b, ws2, v, rfl, rfl, w5, by omega, h3 σ _ SV4 e4 .refl⟩
        · cases o5
  | _ => exact h1.elim
/-! ### a < b < c -/
theorem se_cmp2 {a b c : Expr} {a' b' c' : E} {o1 o2 : CmpOp} {p1 p2 : O2} (hK : X.K = C.K) (h1 : OpR X (compareOp o1) (rD X.K p1.sem)) (h2 : OpR X (compareOp o2) (rD X.K p2.sem)) (b1 : ∀ d e z, p1.sem d e = some z → ∃ b, z = .bl b) (b2 : ∀ d e z, p2.sem d e = some z → ∃ b, z = .bl b) (ha : PE X a (tD C W a')) (hb : PE X b (tD C W b')) (hc : PE X c (tD C W c')) (qa : quiet b' = true) (qb : quiet c' = true) (hm : lastMarks [o1, o2] [b, c] = false) :
    PE X (.Compare a [o1, o2] [b, c] pos) (tD C W (.cmp2 p1 p2 a' b' c')) := by
  refine pemono (pe_chain h1 h2 ha hb hc hm) fun σ H Q ⟨ρ, SV, hv, nd, h⟩ => ?_
  have h : tK C W σ SV H (RD C.K SV H ρ true (quiet a' && (quiet b' && quiet c'))) ((ev a' ρ).bind fun x ρ => (ev b' ρ).bind fun y ρ => (match p1.sem x y with
    | some (.bl true) => (ev c' ρ).bind fun z ρ => (match p2.sem y z with
      | some (.bl r) => .ok (.bl r) ρ
      | _ => .bad)
    | some (.bl false) => .ok (.bl false) ρ
    | _ => .bad)) Q := h
  refine ⟨ρ, SV, hv, nd, tK_bind h fun d ρ1 v H1 SV1 e1 ⟨⟨S1, r1⟩, q1⟩ g1 => ⟨ρ1, SV1, e1.vars, e1.nd, tK_bind g1 fun e ρ2 u H2 SV2 e2 ⟨⟨S2, r2⟩, q2⟩ g2 => ?_⟩⟩
  obtain ⟨rfl, rfl, x2⟩ := q2 qa
  have rep1 : Rep C.K H2 d v S1 := r1.rep.kp d (x2.all _)
  have e12 := e1.trans e2
  cases hz : p1.sem d e with
  | none => rw [hz] at g2; exact g2.elim
  | some z =>
    obtain ⟨t, rfl⟩ := b1 d e z hz
    refine ⟨d, e, .bl t, S1, S2, by rw [hK]; exact rep1, by rw [hK]; exact r2.rep, hz, fun w H3 S3 x3 rw3 nd3 new3 => ?_⟩
    obtain ⟨rfl, rfl⟩ := rw3
    refine ⟨t, rfl, ?_⟩
    have e3 : EnvP C.K SV2 H2 σ ρ2 H3 SV2 := e2.ext0 x3 |> fun _ => (EnvP.refl e2.vars e2.nd).ext0 x3
    rw [hz] at g2
    cases t with
    | true =>
      rw [if_pos rfl]
      refine ⟨ρ2, SV2, e3.vars, e3.nd, ?_⟩
      refine tK_bind2 e3 (show tK C W σ SV2 H2 _ ((ev c' ρ2).bind fun z ρ => (match p2.sem e z with
        | some (.bl r) => Out.ok (D.bl r) ρ
        | _ => .bad)) Q from g2) fun f ρ3 w3 H4 SV4 e4 ⟨⟨S4, r4⟩, q4⟩ g4 => ?_
      obtain ⟨rfl, rfl, x4⟩ := q4 qb
      cases hz2 : p2.sem e f with
      | none => rw [hz2] at g4; exact g4.elim
      | some z2 =>
        obtain ⟨t2, rfl⟩ := b2 e f z2 hz2
        rw [hz2] at g4
        refine ⟨e, f, .bl t2, S2, S4, by rw [hK]; exact (r2.rep.kp e (x3.all _)).kp e (x4.all _), by rw [hK]; exact r4.rep, hz2, fun w5 H5 S5 x5 rw5 nd5 new5 => ?_⟩
        obtain ⟨rfl, rfl⟩ := rw5
        have e5 : EnvP C.K SV4 H2 σ ρ3 H5 SV4 := (e3.trans e4).trans ((EnvP.refl e4.vars e4.nd).ext0 x5)
        have eT := e12.trans e5
        refine g4 _ H5 SV4 e5 ⟨e2.trans e5, eT, ⟨[], ⟨rfl, rfl⟩, (fun _ a ha => absurd ha List.not_mem_nil), (fun _ => e5.nd)⟩, fun q => ?_⟩
        rw [Bool.and_eq_true] at q
        exact ((((q1 q.1).trans ⟨rfl, rfl, x2⟩).ext x3).ext x4).ext x5
    | false =>
      rw [if_neg Bool.false_ne_true]
      refine g2 _ H3 SV2 e3 ⟨e2.trans e3, e12.trans e3, ⟨[], ⟨rfl, rfl⟩, (fun _ a ha => absurd ha List.not_mem_nil), (fun _ => e3.nd)⟩, fun q => ?_⟩
      rw [Bool.and_eq_true] at q
      exact ((q1 q.1).trans ⟨rfl, rfl, x2⟩).ext x3
/-! ### calls by keywords in any order -/
def permV (perm : List Nat) (vs : List V) : List V := perm.map fun n => vs.getD n .non
def permU (perm : List Nat) (us : List Value) : List Value := perm.map fun n => us.getD n .none
/-- ks: the names as they are written; perm: where each parameter stands among them -/
def KBP (K : PySem.W.Frag) (fd : FuncData) (ps ks : List Str) (perm : List Nat) : Prop := perm.length = ps.length ∧ (∀ n ∈ perm, n < ks.length) ∧ ∀ (s : Shared) (ws : List Value), K.In s.heap → ws.length = ks.length → BindsTo s fd ⟨[], ks.zip ws⟩ (ps.zip (permU perm ws))
theorem vals_perm {vs : List V} {us : List Value} (h : Vals vs us) : ∀ {perm : List Nat}, (∀ n ∈ perm, n < vs.length) → Vals (permV perm vs) (permU perm us)
  | [], _ => .nil
  | n :: perm, hn => by
    have hl := h.length
    have h1 : n < vs.length := hn n List.mem_cons_self
    have h2 : n < us.length := by omega
    have hr : ∀ {vs : List V} {us : List Value}, Vals vs us → ∀ (j : Nat) (h1 : j < vs.length) (h2 : j < us.length), RelV vs[j] us[j] := by
      intro vs us h
      induction h with
      | nil => intro j h1; simp at h1
      | cons r t ih =>
        intro j h1 h2
        cases j with
        | zero => exact r
        | succ j => exact ih j (by simpa using h1) (by simpa using h2)
    refine .cons ?_ (vals_perm h fun m hm => hn m (List.mem_cons_of_mem _ hm))
    show RelV (vs.getD n .non) (us.getD n .none)
    rw [List.getD_eq_getElem?_getD, List.getD_eq_getElem?_getD, List.getElem?_eq_getElem h1, List.getElem?_eq_getElem h2]
    exact hr h n h1 h2
theorem pe_callKP {k : Nat} {f : Addr} {fd : FuncData} {ps ks : List Str} {perm : List Nat} {sp : Sp} {x : Str} {p : Pos} {kws : List Keyword} {tk : TA} (F : FnOk X.prog X.w X.K X.mg X.base (L2.CX X.prog X.w) k f fd ps sp) (hr : Room k X.A) (hg : Gl X x) (hm : X.mg x = some (.ref f)) (hk : PySem.W.keepIn X.K (.ref f) = true)
    (hb : KBP X.K fd ps ks perm) (tks : Takes X W) (hkw : PK X kws tk) (hall : (backToKw pos (keywordEach kws X.env)).all (·.1.isSome) = true) (hks : (backToKw pos (keywordEach kws X.env)).filterMap (·.1) = ks)
    (hdb : (x == ("__debug__" : Str)) = false) (hpl : ((backTo pos (starEach [] X.env)).any (·.1) || (backToKw pos (keywordEach kws X.env)).any (·.1.isNone)) = false) :
    PE X (.Call (.Name x p) [] kws pos) (fun σ H Q => tk σ H fun zs H2 => zs.length = ks.length ∧ sp (permV perm zs) H2 Q (WE W σ)) := by
  refine ⟨fun pins s σ H Q I h => ?_⟩
  refine wpAny_Call_Name_kw (ld_glob I hg hm ?_ hdb)
  refine PySem.W.callWith_KW0 (h₀ := X.base) I.ok.mod.kin hk hall ?_ hpl
  refine thn (hkw.run pos pins s σ H _ I h) fun ws s2 ⟨zs, H2, I2, rz, hzl, q2⟩ => ⟨I2.kIn, ?_⟩
  rw [hks]
  have hl : ws.length = ks.length := by rw [← rz.length]; exact hzl
  refine wpAny_call (codeAny_mono (F.run X.A X.stack s2 H2 ⟨[], ks.zip ws⟩ (permU perm ws) (permV perm zs) Q (WE W σ) hr I2.env0 (hb.2.2 s2 ws I2.kIn hl) (vals_perm rz fun n hn => by rw [hzl]; exact hb.2.1 n hn) q2) fun r s' hq => ?_)
  cases r with
  | error e => exact passAt tks σ pins H2 s2 e s' I2 hq
  | ok fl =>
    cases fl with
    | ret u => exact I2.after hq
    | next => exact False.elim hq
    | brk => exact False.elim hq
    | cont => exact False.elim hq
theorem af_perm {K : PySem.W.Frag} {H : Hp} {ds : List D} {vs : List V} (r : Reps K H ds vs []) : ∀ {perm : List Nat} {io : List Bool}, io.length = perm.length → io.all (!·) = true → (∀ n ∈ perm, n < ds.length) → AF K H io (permD perm ds) (permV perm vs) []
  | [], [], _, _, _ => rfl
  | n :: perm, b :: io, hl, hio, hn => by
    have h1 : n < ds.length := hn n List.mem_cons_self
    obtain ⟨hb, hio⟩ := Bool.and_eq_true_iff.mp (show (!b && io.all (!·)) = true from hio)
    obtain ⟨v, hv, rv⟩ := r.get0 (List.getElem?_eq_getElem h1)
    refine ⟨[], [], ?_, fun _ => rfl, af_perm r (by simpa using hl) hio fun m hm => hn m (List.mem_cons_of_mem _ hm), rfl⟩
    show Rep K H (ds.getD n .non) (vs.getD n .non) []
    rw [List.getD_eq_getElem?_getD, List.getD_eq_getElem?_getD, List.getElem?_eq_getElem h1, hv]
    exact rv
  | [], _ :: _, hl, _, _ => by simp at hl
  | _ :: _, [], hl, _, _ => by simp at hl
theorem of_no {K : PySem.W.Frag} {H : Hp} : ∀ {io : List Bool} {os : List D} {vs : List V} {U : List Addr}, io.all (!·) = true → OF K H io os vs U → os = [] ∧ U = []
  | [], [], [], _, _, h => ⟨rfl, h⟩
  | false :: io, os, _ :: vs, _, hio, h => of_no (io := io) (by simpa using hio) h
  | true :: _, _, _, _, hio, _ => by simp at hio
  | [], _ :: _, _, _, _, h => h.elim
  | [], [], _ :: _, _, _, h => h.elim
  | false :: _, _, [], _, _, h => by cases ‹List D› <;> exact h.elim
theorem of_nil {K : PySem.W.Frag} {H : Hp} : ∀ {io : List Bool} {vs : List V}, io.all (!·) = true → io.length = vs.length → OF K H io [] vs []
  | [], [], _, _ => rfl
  | false :: io, _ :: vs, hio, hl => of_nil (io := io) (by simpa using hio) (by simpa using hl)
  | true :: _, _, hio, _ => by simp at hio
  | [], _ :: _, _, hl => by simp at hl
  | false :: _, [], _, hl => by simp at hl
/-- a def that may be called by keywords, in an order -/
def FnGP (C : Cfg) (X : Cx) (k : Nat) (x : Str) (io : List Bool) (ks : List Str) (perm : List Nat) (sem : FSem) : Prop :=
  ∃ (f : Addr) (fd : FuncData) (ps : List Str), X.mg x = some (.ref f) ∧ FnOk X.prog X.w X.K X.mg X.base (L2.CX X.prog X.w) k f fd ps (spD C io sem) ∧ PySem.W.keepIn X.K (.ref f) = true ∧ KBP X.K fd ps ks perm
theorem se_callP {io : List Bool} {j k : Nat} {x : Str} {p : Pos} {kws : List Keyword} {ks : List Str} {perm : List Nat} {es' : Es} (tk : Takes X W) (G : FnGP C X k x io ks perm (Fns.F j)) (hr : Room k X.A) (hg : Gl X x) (hio : io.all (!·) = true) (hil : io.length = perm.length) (hpl' : plainEs es' = true) (hln : ∀ ρ ds ρ', evs es' ρ = .ok ds ρ' → ds.length = ks.length) (ha : PK X kws (tA C W es')) (hdb : (x == ("__debug__" : Str)) = false)
    (hall : (backToKw pos (keywordEach kws X.env)).all (·.1.isSome) = true) (hks : (backToKw pos (keywordEach kws X.env)).filterMap (·.1) = ks) (hpl : ((backTo pos (starEach [] X.env)).any (·.1) || (backToKw pos (keywordEach kws X.env)).any (·.1.isNone)) = false) : PE X (.Call (.Name x p) [] kws pos) (tD C W (.callK j perm es')) := by
  obtain ⟨f, fd, ps, hm, F, hk, hb⟩ := G
  refine pemono (pe_callKP F hr hg hm hk hb tk ha hall hks hdb hpl) fun σ H Q h => ?_
  obtain ⟨ρ, SV, hv, nd, h⟩ := h
  have h : tK C W σ SV H (RD C.K SV H ρ true (quiets es')) ((evs es' ρ).bind fun ds ρ => if ds.all frzD = true then (match Fns.F j (permD perm ds) with
    | .ret d [] => .ok d ρ
    | .exc x [] => .exc x ρ
    | _ => .bad) else .bad) Q := h
  refine ⟨ρ, SV, hv, nd, tK_bindE h fun ds ρ1 vs H1 SV1 hev e1 ⟨⟨S, r1⟩, q1⟩ h1 => ?_⟩
  have hlen := hln _ _ _ hev
  by_cases hf : ds.all frzD = true
  case neg => rw [if_neg hf] at h1; exact h1.elim
  rw [if_pos hf] at h1
  have rs := (r1.rep.reps hpl').all_frz hf
  have lv := rs.length
  have hpn : ∀ n ∈ perm, n < ds.length := fun n hn => by rw [hlen]; exact hb.2.1 n hn
  refine ⟨by rw [← lv, hlen], permD perm ds, [], af_perm rs hil hio hpn, .nil, ?_⟩
  cases hs : Fns.F j (permD perm ds) with
  | bad => rw [hs] at h1; exact h1.elim
  | exc x outs =>
    rw [hs] at h1
    intro cls dd H' U xt hO nd' src er
    obtain ⟨rfl, rfl⟩ := of_no hio hO
    exact h1 cls dd H' SV1 (e1.trans ((EnvP.refl e1.vars e1.nd).ext0 xt)) er
  | ret d outs =>
    rw [hs] at h1
    intro v H' T' U xt rep hO nd' src
    obtain ⟨rfl, rfl⟩ := of_no hio hO
    rw [List.append_nil] at nd' src
    have en := e1.ext0 xt
    have fr : ∀ a ∈ T', H1 a = none := fun a ha => by
      rcases src a ha with z | z
      · exact absurd z List.not_mem_nil
      · exact z
    obtain ⟨f1, f2⟩ := fresh_sep e1 nd' fr
    exact h1 v H' SV1 (e1.trans en) ⟨⟨T', rep, (fun _ => f1), (fun _ => f2)⟩, fun q => (q1 q).ext xt⟩
end
end Ly

namespace Ly
open PySem PySem.Spec L2 PyProof.Rows
variable [Fns]
section
theorem padj_back (n : Nat) : Builtin.Slice.sliceAdjust none none (-1) (n : Int) = ((n : Int) - 1, -1) := rfl
theorem pplaces_back (n : Nat) : Builtin.Slice.slicePlaces ((n : Int) - 1) (-1) (-1) = n := by
  unfold Builtin.Slice.slicePlaces
  have h1 : ¬ ((-1 : Int) > 0) := by decide
  have h2 : (-(-1) : Int) = 1 := by decide
  simp only [h1, if_false, h2, Int.ediv_one]
  split <;> omega
theorem ppick_back (xs : Array Value) : ((List.range xs.size).filterMap fun (m : Nat) => xs[(((xs.size : Int) - 1) + (m : Int) * (-1)).toNat]?).toArray = xs.toList.reverse.toArray := by
  have e : (List.range xs.size).filterMap (fun (m : Nat) => xs[(((xs.size : Int) - 1) + (m : Int) * (-1)).toNat]?) = ((List.range xs.size).map fun k => xs.size - 1 - k).filterMap (xs[·]?) := by
    rw [List.filterMap_map]
    congr 1
    funext m
    have : (((xs.size : Int) - 1) + (m : Int) * (-1)).toNat = xs.size - 1 - m := by omega
    rw [this]
    rfl
  rw [e, PySem.W.krv_range, List.filterMap_reverse, PySem.W.krv_all]
theorem sliceApplied_back {prog : Program} {w : World} {A : Around} {E : Value → Shared → Prop} {s : Shared} {sl : Addr} {vl vu vs : Value} {n : Nat} {Q : Int × Int × Nat → Shared → Prop} (hs : s.heap.IsSliceOf sl vl vu vs) (pl : IsPart vl none) (pu : IsPart vu none) (ps : IsPart vs (some (-1)))
    (h : Q ((n : Int) - 1, -1, n) s) : wpAny (model prog w) A (Builtin.Slice.sliceApplied (.ref sl) (pure (n : Int))) Q E s := by
  obtain ⟨os, hos, hcs, hds⟩ := id hs
  unfold Builtin.Slice.sliceApplied Builtin.Slice.sliceFields
  refine wpAny_bind (wpAny_bind (wpAny_field hos hds (x := vl) rfl (wpAny_bind (wpAny_field hos hds (x := vu) rfl (wpAny_bind (wpAny_field hos hds (x := vs) rfl (wpAny_pure ?_)))))))
  refine wpAny_bind (HT.slicePart_ ps ?_)
  show wpAny _ _ (if ((-1 : Int) == 0) = true then _ else _) _ _ s
  rw [if_neg (by decide)]
  refine wpAny_bind (HT.slicePart_ pl (wpAny_bind (HT.slicePart_ pu (wpAny_bind (wpAny_pure ?_)))))
  show wpAny _ _ (match Builtin.Slice.sliceAdjust none none (-1) (n : Int) with | (lo, hi) => pure (lo, (-1 : Int), Builtin.Slice.slicePlaces lo hi (-1))) _ _ s
  rw [padj_back n]
  show wpAny _ _ (pure ((n : Int) - 1, (-1 : Int), Builtin.Slice.slicePlaces ((n : Int) - 1) (-1) (-1))) _ _ s
  rw [pplaces_back]
  exact wpAny_pure h
theorem getItem_tuple_back {prog : Program} {w : World} {A : Around} {E : Value → Shared → Prop} {s : Shared} {t sl : Addr} {items : Array Value} {vl vu vs : Value} {Q : Value → Shared → Prop} (ht : IsTup s.heap t items) (hs : s.heap.IsSliceOf sl vl vu vs) (pl : IsPart vl none) (pu : IsPart vu none) (ps : IsPart vs (some (-1)))
    (h : Q (.ref s.heap.objs.size) { s with heap := s.heap.push { cls := .type "tuple", data := .seq items.toList.reverse.toArray } })
    (hsz : items.size ≤ sizeLine) : wpAny (model prog w) A (getItem (.ref t) (.ref sl)) Q E s := by
  have htake : sizeOk (.seq items.toList.reverse.toArray) := by
    show items.toList.reverse.toArray.size ≤ sizeLine
    rw [List.size_toArray, List.length_reverse, Array.length_toList]
    omega
  obtain ⟨os, hos, hcs, hds⟩ := id hs
  have hTs : s.TypeIs (.ref sl) "slice" := ⟨os, hos, hcs⟩
  unfold getItem
  try with_reducible refine wpAny_holding ?_
  first | refine wpAny_bind (wpAny_pure ?_) | skip
  refine wpAny_bind (wpAny_sequenceKey ht.typeIs (by decide) ?_)
  refine wpAny_bind (wpAny_callSpecial?_slot (name := Str.ofString "__getitem__") ht.typeIs PyProof.Rows.slot_tuple_getitem
    (wpAny_call_entry PyProof.Rows.slot_tuple_getitem ht.typeIs PyProof.Rows.entry_tuple_getitem ?_ (PyProof.Rows.args_tuple_getitem _ _)))
  show wpAny _ _ (Builtin.Tuple.tupleItemsOf (.ref t) >>= _) _ _ s
  refine wpAny_bind (PyProof.Rows.tupleItemsOf_ ht ?_)
  refine wpAny_bind (wpAny_typeOf hTs ?_)
  rw [if_pos (by decide)]
  refine wpAny_bind (sliceApplied_back hs pl pu ps ?_)
  have hno : ¬ ((((items.size : Int) - 1) == 0 && (-1 : Int) == 1 && items.size == items.size) = true) := by
    intro q
    rw [Bool.and_eq_true, Bool.and_eq_true] at q
    exact absurd q.1.2 (by decide)
  show wpAny _ _ (if (((items.size : Int) - 1) == 0 && (-1 : Int) == 1 && items.size == items.size) = true then _ else _) _ _ s
  rw [if_neg hno, ppick_back]
  first
    | exact wpAny_bind (m := Builtin.Tuple.tupleExact _) (wpAny_newObj_type (wpAny_pure ⟨_, rfl, wpAny_pure h⟩) htake)
    | exact wpAny_bind (m := Builtin.Tuple.tupleExact _) (wpAny_newObj_type (wpAny_bind (wpAny_pure (wpAny_pure ⟨_, rfl, wpAny_pure h⟩))) htake)
    | exact wpAny_bind (wpAny_bind (m := Builtin.Tuple.tupleExact _) (wpAny_newObj_type (wpAny_pure (wpAny_pure ⟨_, rfl, wpAny_pure h⟩)) htake))
    | exact wpAny_bind (wpAny_bind (m := Builtin.Tuple.tupleExact _) (wpAny_newObj_type (wpAny_pure ⟨_, rfl, wpAny_pure h⟩) htake))
end
section
variable {X : Cx} {C : Cfg} {W : WX} {pos : Pos}
def tRevT (K : PySem.W.Frag) (te : TE) : TE := fun σ H Q => te σ H fun x H1 => ∃ a xs, x = .ref a ∧ SqT K H1 a xs ∧ ∀ p, H1 p = none → Q (.ref p) (upd H1 p (.tup xs.reverse))
theorem pe_revT {e : Expr} {te : TE} {k : Nat} {p1 p2 p3 pos : Pos} (he : PE X e te) : PE X (.Subscript e (.Slice none none (some (.UnaryOp .USub (.Constant (.int 1) k p1) p2)) p3) pos) (tRevT X.K te) := by
  refine ⟨fun pins s σ H Q I h => ?_⟩
  refine PyProof.Rows.Subscript_ (thn (he.run pins s σ H _ I h) fun v s1 ⟨x, H1, I1, r1, q1⟩ => ?_)
  obtain ⟨a, xs, ex, hx, q⟩ := q1
  subst ex
  cases r1
  have hst : PO X (some (.UnaryOp .USub (.Constant (.int 1) k p1) p2)) (tPart (tUn (rU fun i => .int (-i)) (tC (.int 1)))) := po_some (pe_un un_neg pe_int)
  refine wpAny_Slice (thn (po_none.run pins s1 σ H1 (fun o H2 => o = none ∧ H2 = H1) I1 ⟨rfl, rfl⟩) fun vl s2 ⟨l, H2, I2, pl, el, e2⟩ => ?_)
  subst el e2
  refine thn (po_none.run pins s2 σ H2 (fun o H3 => o = none ∧ H3 = H2) I2 ⟨rfl, rfl⟩) fun vu s3 ⟨u, H3, I3, pu, eu, e3⟩ => ?_
  subst eu e3
  refine thn (hst.run pins s3 σ H3 (fun o H4 => o = some (-1) ∧ H4 = H3) I3 ⟨1, rfl, -1, rfl, rfl, rfl⟩) fun vs s4 ⟨o, H4, I4, ps, eo, e4⟩ => ?_
  subst eo e4
  have I5 : Inv X pins σ H4 { s4 with heap := s4.heap.push { cls := .type "slice", data := .fields #[vl, vu, vs] } } := I4.kept (t' := s4.toks) fun b ob q => Heap.get?_push_of_some _ q
  obtain ⟨its, r, ht, hz⟩ := I5.tuple hx
  have hlen := r.length
  show wpAny (model X.prog X.w) X.A (subscriptTail e (.Slice none none (some (.UnaryOp .USub (.Constant (.int 1) k p1) p2)) p3) (.ref a) (.ref s4.heap.objs.size)) (EP X pins σ Q) X.xe { s4 with heap := s4.heap.push { cls := .type "slice", data := .fields #[vl, vu, vs] } }
  refine tail_any (ops := [.ref a, .ref s4.heap.objs.size]) ht.typeIs (PyProof.Rows.slot_tuple_getitem.lookup) ?_ (by with_unfolding_all rfl)
  refine getItem_tuple_back ht (Heap.IsSliceOf.new _ vl vu vs) pl pu ps ?_ (by rw [List.size_toArray]; omega)
  refine ⟨.ref _, _, I5.laid (t' := s4.toks) (o := .tup xs.reverse) (fun b ob q => Heap.get?_push_of_some _ q) (Nat.le_refl _) ?_, rfl, q _ (I5.hok.fresh (Nat.le_refl _))⟩
  refine ⟨by rw [List.length_reverse]; exact hz, its.reverse, r.reverse, ?_⟩
  have := IsTup.new ({ s4.heap with objs := s4.heap.objs.push { cls := .type "slice", data := .fields #[vl, vu, vs] } } : Heap) its.reverse.toArray
  exact this
theorem Reps.rev0 {K : PySem.W.Frag} {H : Hp} {ds : List D} {vs : List V} (r : Reps K H ds vs []) : Reps K H ds.reverse vs.reverse [] := by
  induction ds generalizing vs with
  | nil => cases vs with
    | nil => exact r
    | cons _ _ => exact absurd r.length (by simp)
  | cons d ds ih =>
    obtain ⟨v, vs', S1, S2, rfl, rd, rn, e⟩ := r
    have e' : S1 ++ S2 = [] := e.symm
    obtain ⟨rfl, rfl⟩ := List.append_eq_nil_iff.mp e'
    rw [List.reverse_cons, List.reverse_cons]
    exact Reps.app (S := []) (T := []) (ih rn) (Reps.cons (S1 := []) (S2 := []) rd Reps.nil)
/-- x[::-1], x a tuple -/
theorem se_revT {e : Expr} {e' : E} {k : Nat} {p1 p2 p3 : Pos} (hK : X.K = C.K) (he : PE X e (tD C W e')) : PE X (.Subscript e (.Slice none none (some (.UnaryOp .USub (.Constant (.int 1) k p1) p2)) p3) pos) (tD C W (.o1 .rev e')) := by
  refine pemono (pe_revT he) fun σ H Q h => ?_
  obtain ⟨ρ, SV, hv, nd, h⟩ := tD_o1 h
  refine ⟨ρ, SV, hv, nd, ?_⟩
  cases m : ev e' ρ with
  | bad => rw [m] at h; exact h
  | exc x ρ' => rw [m] at h; exact h
  | ok d ρ1 =>
    rw [m] at h
    intro v H1 SV1 e1 r1
    obtain ⟨d, z, S, r, hz, k⟩ := h v H1 SV1 e1 r1
    cases d with
    | tup ds =>
      cases hz
      obtain ⟨_, a, vs, rfl, q, rs⟩ := r
      rw [hK]
      exact ⟨a, vs, rfl, q, fun p hp => kTup (K := C.K) k rs.rev0 p hp⟩
    | _ => cases hz
/-- x[b], x read behind b -/
theorem se_ixL {i : Nat} {b : Expr} {b' : E} {x : Str} {p : Pos} (hK : X.K = C.K) (hu : X.A.units + 1 < cLine) (hN : X.N[i]? = some x) (hv : Vis X.env.scope x) (hd : (x == ("__debug__" : Str)) = false) (hcd : (x == ("__classdict__" : Str)) = false) (hb : PE X b (tD C W b')) (hp : PlainIx b) : PE X (.Subscript (.Name x p) b pos) (tD C W (.ixL i b')) := by
  refine pemono (pe_ix (by rw [← hK]; exact ix_any hu : IxR X (rIdxD C.K)) (pe_var hN hv hd hcd) hb hp) fun σ H Q h => ?_
  obtain ⟨ρ, SV, hv', nd, h⟩ := h
  have h : tK C W σ SV H (RD C.K SV H ρ false (quiet b')) (if (getV ρ i).isSome = true then (ev b' ρ).bind fun y ρ => liftO ((getV ρ i).bind fun d => idxS d y) ρ else .bad) Q := h
  by_cases hs : (getV ρ i).isSome = true
  case neg => rw [if_neg hs] at h; exact h.elim
  rw [if_pos hs] at h
  obtain ⟨d0, hd0⟩ := Option.isSome_iff_exists.mp hs
  obtain ⟨v, S0, R0, e1, _, _⟩ := var_at hv' hd0
  refine ⟨v, e1, ρ, SV, hv', nd, tK_bind h fun e ρ2 u H2 SV2 e2 r2 h2 => ?_⟩
  obtain ⟨z, hz, h2⟩ := tK_lift h2
  cases hg : getV ρ2 i with
  | none => rw [hg] at hz; cases hz
  | some d =>
    rw [hg] at hz
    obtain ⟨v', S, R, e1', rep1, _⟩ := var_at e2.vars hg
    rw [e1] at e1'
    cases e1'
    obtain ⟨⟨T, r2⟩, q2⟩ := r2
    refine ⟨d, e, z, S, T, rep1, r2.rep, hz, fun w S' rep => ?_⟩
    have en : EnvP C.K SV2 H2 σ ρ2 H2 SV2 := .refl e2.vars e2.nd
    exact h2 w H2 SV2 en ⟨e2.trans en, ⟨S', rep, (fun z => nomatch z), (fun z => nomatch z)⟩, fun q => q2 q⟩
/-! ### reversed -/
theorem walk_revL {K : PySem.W.Frag} {a : Addr} {xs : List V} : L2.Walk (Itv K a xs.length) xs.length (fun H => SqL K H a xs) (YAt xs.reverse) := by
  refine ⟨fun i H hi q => ⟨hi, xs, xs[xs.length - 1 - i], q, by simp <;> omega⟩, fun H _ => Nat.le_refl _, fun i H x H' hi q y => ⟨y.1, ?_⟩⟩
  rw [List.getElem?_reverse hi]
  exact y.2 xs q
theorem walk_revT {K : PySem.W.Frag} {a : Addr} {xs : List V} : L2.Walk (RT.ItvT K a xs.length) xs.length (fun H => SqT K H a xs) (YAt xs.reverse) := by
  refine ⟨fun i H hi q => ⟨hi, xs, xs[xs.length - 1 - i], q, by simp <;> omega⟩, fun H _ => Nat.le_refl _, fun i H x H' hi q y => ⟨y.1, ?_⟩⟩
  rw [List.getElem?_reverse hi]
  exact y.2 xs q
theorem wk_back {K : PySem.W.Frag} {J : L2.It} {H0 : Hp} {ds : List D} {vs : List V} {G : Hp → Prop} (w : L2.Walk J vs.length G (YAt vs.reverse)) (g : ∀ H, Kp [] H0 H → G H) (r : Reps K H0 ds vs []) : Wk K J H0 ds.reverse := by
  have w' : L2.Walk J vs.reverse.length G (YAt vs.reverse) := by rw [List.length_reverse]; exact w
  exact wk_of w' g r.rev0
theorem pi_revd {tg e : Expr} {e' : E} {p : Pos} (hK : X.K = C.K) (hg : Gl X "reversed") (hm : X.mg "reversed" = none) (he : PE X e (tD C W e')) (hs : starEach [e] X.env = (false, eval e X.env) :: starEach [] X.env) :
    PI X tg (.Call (.Name "reversed" p) [e] [] pos) (tI C W (.revd e')) := by
  refine ⟨fun pins s σ H R I h => (RT.pi_revA hg hm he hs).run pins s σ H R I ?_⟩
  obtain ⟨ρ, SV, hv, nd, h⟩ := h
  have h : tK C W σ SV H (fun ds _ _ H' (J : L2.It) => Wk C.K J H' ds) ((ev e' ρ).bind fun d ρ => liftO (revOf d) ρ) R := h
  refine ⟨ρ, SV, hv, nd, ?_⟩
  cases hev : ev e' ρ with
  | bad => rw [hev] at h; exact h.elim
  | exc x ρ1 => rw [hev] at h; exact h
  | ok d ρ1 =>
    rw [hev] at h
    obtain ⟨ds, hds, h⟩ := tK_lift (show tK C W σ SV H (fun ds _ _ H' (J : L2.It) => Wk C.K J H' ds) (liftO (revOf d) ρ1) R from h)
    rintro v H1 SV1 e1 ⟨⟨S, r⟩, _⟩
    rw [hK]
    cases d with
    | tup xs =>
      cases hds
      obtain ⟨_, a, vs, rfl, q, r⟩ := r.rep
      exact ⟨a, vs, rfl, .inr ⟨q, h _ H1 SV1 e1 (wk_back walk_revT (fun H k => SqT.kp q k) r)⟩⟩
    | lst o xs =>
      cases o with
      | true => cases hds
      | false =>
        cases hds
        obtain ⟨_, a, vs, rfl, q, r⟩ := r.rep
        exact ⟨a, vs, rfl, .inl ⟨q.sq, h _ H1 SV1 e1 (wk_back walk_revL (fun H k => (q.kp k).sq) r)⟩⟩
    | scr ns =>
      cases hds
      obtain ⟨_, a, rfl, q⟩ := r.rep
      exact ⟨a, _, rfl, .inl ⟨q.sq, h _ H1 SV1 e1 (wk_back walk_revL (fun H k => (q.kp k).sq) (reps_ints ns))⟩⟩
    | _ => cases hds
end
end Ly

namespace Ly
open PySem PySem.Spec L2
variable [Fns]
theorem rel_zip : ∀ {vs : List V} {its : List Value} {ks : List Str}, Vals vs its → ks.length = vs.length → PySem.W.EachIs (fun (u : Value) (p : V × Str) => RelV p.1 u) its (vs.zip ks)
  | _, _, [], .nil, _ => .nil
  | _, _, _ :: _, .nil, e => by simp at e
  | _, _, [], .cons _ _, e => by simp at e
  | _, _, k :: ks, .cons h t, e => .cons h (rel_zip t (by simpa using e))
section
variable {X : Cx} {pins : List (Addr × Obj)} {σ : St} {H : Hp} {s : Shared}
theorem fp_pin {pl : List (Addr × Obj)} (I : Inv X pins σ H s) (h : ∀ p ∈ pl, s.heap.get? p.1 = some p.2 ∧ FpOk X pins H p.1 ∧ ∀ v, p.2.data ≠ .cell v) : Inv X (pins ++ pl) σ H s :=
  I.pins_of fun p hp => (List.mem_append.mp hp).elim (fun z => I.pin p (List.mem_append_right _ z)) fun z => by
    obtain ⟨a, b, c⟩ := h p z
    exact ⟨a, b.1, b.2.1, b.2.2.1, c⟩
theorem fp_re {H' : Hp} {b : Addr} (f : FpOk X pins H b) (h : H' b = none) : FpOk X pins H' b := ⟨h, f.2⟩
/-- a turn's end -/
abbrev KEnd (X : Cx) (pins : List (Addr × Obj)) (σ : St) (H1 : Hp) (k : Str) (r : Value) (s2 : Shared) : Prop := ∃ H2, Inv X pins σ H2 s2 ∧ Ext [] H1 H2 ∧ RelV (.str k) r
theorem sortK_list {a : Addr} {c0 : Nat} {vs : List V} {its : List Value} {ks : List Str} {f : Addr} {A : Around} {E : Value → Shared → Prop} {P : PySem.Fin → Shared → Prop} (I : Inv X pins σ H s) (fa : FpOk X pins H a) (ha : s.heap.get? a = some (PyProof.Rows.seqObj "list" its.toArray c0)) (rv : Vals vs its) (hlen : ks.length = vs.length) (hz : vs.length ≤ sizeLine) (hu : A.units + 8 < cLine)
    (turn : ∀ (i : Nat) v k, vs[i]? = some v → ks[i]? = some k → ∀ pins' H1 s1 u, Inv X pins' σ H1 s1 → Ext [] H H1 → RelV v u → wpAny (model X.prog X.w) A (call (.ref f) [u]) (KEnd X pins' σ H1 k) (fun _ _ => False) s1)
    (q : ∀ H' s' , Inv X pins σ (upd H' a (.lst (byKeys vs ks))) s' → Ext [] H H' → H' a = none → P (.done (.ret .none)) s') :
    wpAny (model X.prog X.w) A (PyProof.Rows.ksk_tree a (.ref f) false) P E s := by
  have hl : its.length = vs.length := rv.length.symm
  have ha0 : a < s.heap.objs.size := Heap.lt_size ha
  obtain ⟨e1, ho1⟩ : ∃ e1, (s.heap.update a (Obj.mapSeq fun _ => (#[] : Array Value))).get? a = some (PyProof.Rows.seqObj "list" #[] e1) := ⟨_, PyProof.Rows.get?_update_seq ha fun _ => #[]⟩
  have hT : ((s.heap.update a (Obj.mapSeq fun _ => (#[] : Array Value))).push (PyProof.Rows.seqObj "tuple" its.toArray 0)).objs.size = s.heap.objs.size + 1 := by
    rw [PyProof.Rows.size_push', Heap.size_update]
  unfold PyProof.Rows.ksk_tree
  refine wpAny_bind (PyProof.Rows.listItems_at ha rfl (wpAny_bind (PyProof.Rows.listUpdate_at ha rfl ?_ (by rw [List.size_toArray, hl]; exact hz) (Nat.zero_le _))))
  refine wpAny_bind (PyProof.Rows.seqEpoch_at ho1 rfl (wpAny_bind (wpAny_newTuple ?_ (by show its.length ≤ _; rw [hl]; exact hz))))
  refine wpAny_bind (wpAny_newList (wpAny_holding ?_) (Nat.zero_le _))
  obtain ⟨kS, hkS⟩ : ∃ kS, kS = ((s.heap.update a (Obj.mapSeq fun _ => (#[] : Array Value))).push (PyProof.Rows.seqObj "tuple" its.toArray 0)).objs.size := ⟨_, rfl⟩
  have hka : kS ≠ a := by rw [hkS, hT]; exact Nat.ne_of_gt (Nat.lt_succ_of_lt ha0)
  have fk : FpOk X pins H kS := I.fpOk (by rw [hkS, hT]; exact Nat.le_succ _) (I.hok.fresh (by rw [hkS, hT]; exact Nat.le_succ _))
  have s1 := Heap.SameBut.update s.heap a (Obj.mapSeq fun _ => (#[] : Array Value))
  have I1 : Inv X pins σ H { s with heap := ((s.heap.update a (Obj.mapSeq fun _ => (#[] : Array Value))).push (PyProof.Rows.seqObj "tuple" its.toArray 0)).push (PyProof.Rows.seqObj "list" #[] 0), toks := s.toks } :=
    I.turnedL (ch := [a]) (fun b o hb e => Heap.get?_push_of_some _ (Heap.get?_push_of_some _ ((s1.2 b (fun z => hb (by rw [z]; exact List.mem_singleton.mpr rfl))).trans e))) (fun b hb => by rw [List.mem_singleton.mp hb]; exact fa)
  have gk : (((s.heap.update a (Obj.mapSeq fun _ => (#[] : Array Value))).push (PyProof.Rows.seqObj "tuple" its.toArray 0)).push (PyProof.Rows.seqObj "list" #[] 0)).get? kS = some (PyProof.Rows.seqObj "list" #[] 0) := by rw [hkS]; exact Heap.get?_push_size _ rfl
  have ga : (((s.heap.update a (Obj.mapSeq fun _ => (#[] : Array Value))).push (PyProof.Rows.seqObj "tuple" its.toArray 0)).push (PyProof.Rows.seqObj "list" #[] 0)).get? a = some (PyProof.Rows.seqObj "list" #[] e1) := Heap.get?_push_of_some _ (Heap.get?_push_of_some _ ho1)
  rw [← hkS]
  clear hkS hT
  generalize ((s.heap.update a (Obj.mapSeq fun _ => (#[] : Array Value))).push (PyProof.Rows.seqObj "tuple" its.toArray 0)).push (PyProof.Rows.seqObj "list" #[] 0) = g0 at I1 gk ga
  have noc : ∀ (kA : Array Value) (e : Nat) v, (PyProof.Rows.seqObj "list" kA e).data ≠ .cell v := fun _ _ _ z => by cases z
  have pinI : ∀ {H1 : Hp} {s1 : Shared} {kA : Array Value} {e : Nat}, Inv X pins σ H1 s1 → H1 kS = none → H1 a = none → s1.heap.get? kS = some (PyProof.Rows.seqObj "list" kA e) → s1.heap.get? a = some (PyProof.Rows.seqObj "list" #[] e1) → Inv X (pins ++ [(kS, PyProof.Rows.seqObj "list" kA e), (a, PyProof.Rows.seqObj "list" #[] e1)]) σ H1 s1 := fun {H1 s1 kA e} J n1 n2 k1 k2 =>
    fp_pin J fun p hp => by
      rcases List.mem_cons.mp hp with h | h
      · subst h; exact ⟨k1, fp_re fk n1, noc _ _⟩
      · rw [List.mem_singleton.mp h]; exact ⟨k2, fp_re fa n2, noc _ _⟩
  unfold PyProof.Rows.ksk_rest
  refine wpAny_bind (wpAny_rule ?_)
  rw [List.forIn_toArray]
  refine wpAny_bind (PyProof.Rows.ksk_fold (fun i s' => ∃ H1 kA e, Inv X (pins ++ [(kS, PyProof.Rows.seqObj "list" kA e), (a, PyProof.Rows.seqObj "list" #[] e1)]) σ H1 s' ∧ Ext [] H H1 ∧ PySem.W.EachIs (fun v (k : Str) => RelV (.str k) v) kA.toList (ks.take i)) its 0 _ ⟨H, #[], 0, pinI I1 fk.1 fa.1 gk ga, .refl, by rw [List.take_zero]; exact .nil⟩ ?step ?done)
  case step =>
    rintro j u s' hx ⟨H1, kA, e, J, x1, hk⟩
    simp only [Nat.zero_add] at hk ⊢
    have hj : j < its.length := (List.getElem?_eq_some_iff.mp hx).1
    have hv : vs[j]? = some vs[j] := List.getElem?_eq_getElem (by omega)
    have hkj : ks[j]? = some ks[j] := List.getElem?_eq_getElem (by omega)
    obtain ⟨u', hu', ru⟩ := rv.get hv
    rw [hx] at hu'
    cases hu'
    have hsz : kA.size ≤ vs.length := by
      have h1 := hk.length
      rw [Array.length_toList, List.length_take] at h1
      omega
    refine wpAny_bind (wpAny_attempt (wpAny_mono (turn j _ _ hv hkj _ H1 s' u J x1 ru) (fun r s2 h => ?_) fun _ _ h => h.elim))
    obtain ⟨H2, J2, x2, hr⟩ := h
    have pk := J2.pin (kS, PyProof.Rows.seqObj "list" kA e) (List.mem_append_right _ (List.mem_append_right _ (by simp)))
    have pa := J2.pin (a, PyProof.Rows.seqObj "list" #[] e1) (List.mem_append_right _ (List.mem_append_right _ (by simp)))
    have up := Heap.SameBut.update s2.heap kS (Obj.mapSeq (·.push r))
    obtain ⟨c2, hc2⟩ : ∃ c2, (s2.heap.update kS (Obj.mapSeq (·.push r))).get? kS = some (PyProof.Rows.seqObj "list" (kA.push r) c2) := ⟨_, PyProof.Rows.get?_update_seq pk.1 (·.push r)⟩
    refine wpAny_bind (PyProof.Rows.listUpdate_at pk.1 rfl ?_ (Nat.le_trans hsz hz) (Nat.le_trans (Nat.le_of_eq (Array.size_push ..)) (Nat.succ_le_succ (Nat.le_trans hsz hz))))
    have J3 : Inv X pins σ H2 { s2 with heap := s2.heap.update kS (Obj.mapSeq (·.push r)), toks := s2.toks } :=
      J2.unpinned.turnedL (ch := [kS]) (fun b o hb e => (up.2 b (fun z => hb (by rw [z]; exact List.mem_singleton.mpr rfl))).trans e) (fun b hb => by rw [List.mem_singleton.mp hb]; exact fp_re fk pk.2.1)
    refine wpAny_pure ⟨rfl, H2, kA.push r, c2, pinI J3 pk.2.1 pa.2.1 hc2 ((up.2 a hka.symm).trans pa.1), (fun b o e h => x2 b o (x1 b o e h) h), ?_⟩
    have ek : ks.take (j + 1) = ks.take j ++ [ks[j]] := by rw [List.take_add_one, hkj]; simp
    rw [ek, show (kA.push r).toList = kA.toList ++ [r] by simp]
    exact PySem.W.each_snoc (R := fun v (k : Str) => RelV (.str k) v) hr hk
  case done =>
    rintro s' ⟨H1, kA, e, J, x1, hk⟩
    rw [Nat.zero_add, List.take_of_length_le (by omega)] at hk
    have pk := J.pin (kS, PyProof.Rows.seqObj "list" kA e) (List.mem_append_right _ (List.mem_append_right _ (by simp)))
    have pa := J.pin (a, PyProof.Rows.seqObj "list" #[] e1) (List.mem_append_right _ (List.mem_append_right _ (by simp)))
    have hsz : kA.size = its.length := by
      have h1 := hk.length
      rw [Array.length_toList] at h1
      omega
    refine wpAny_bind (PyProof.Rows.listItems_at pk.1 rfl ?_)
    obtain ⟨h1, r1, r2⟩ := L2.restrict s'.heap (fun b => decide (b ≠ kS))
    have erk : PySem.W.EachIs (fun v k => ∃ as, Reads s'.heap v k as) kA.toList (ks.map PyData.str) := PySem.W.each_map (R := fun v d => ∃ as, Reads s'.heap v d as) PyData.str (hk.mono fun v k ⟨t, e⟩ => by subst e; exact ⟨[], Reads.str _ _⟩)
    have hal : PySem.W.AllAlike (ks.map PyData.str) := PySem.W.AllAlike.of fun _ _ => rfl
    have hsk : PySem.W.Sortable (ks.map PyData.str) := PySem.W.Sortable.others (enc := PyData.str) fun b => ⟨(fun z => by cases z), (fun xs z => by cases z)⟩
    have huk : ∀ d, d ∈ ks.map PyData.str → A.units + d.depth < cLine := fun d hd => by
      obtain ⟨k, _, rfl⟩ := List.mem_map.mp hd
      show A.units + 0 < cLine
      omega
    refine PySem.W.keyH_end (κ := PySem.W.dataKind s'.heap (ks.map PyData.str)) (h₁ := h1) (fun b o hb e => ?_) (r2 kS (by simp)) pk.1 pa.1 hka (PySem.W.SortsAt.data erk hal hsk huk) hsz (by rw [hl]; exact hz) fun h2 tk c kp na => ?_
    · by_cases z : b = kS
      · rw [z, r2 kS (by simp)] at e; cases e
      · rw [r1 b (by simpa using z)] at e; exact e
    · have ko : PySem.W.KeyedOut false ((vs.zip ks).map fun p => PyData.str p.2) its (PySem.W.sortVals (PySem.W.dataKind s'.heap (ks.map PyData.str)) false kA.toList its) := by
        have e2 : ((vs.zip ks).map fun p => PyData.str p.2) = ks.map PyData.str := by
          rw [show (fun p : V × Str => PyData.str p.2) = PyData.str ∘ Prod.snd from rfl, ← List.map_map, List.map_snd_zip (by omega)]
        rw [e2]
        exact ⟨s'.heap, kA.toList, hal, rfl, erk⟩
      have rr := rel_zip rv hlen
      have ro := PySem.W.keyedOut_each (fun p : V × Str => PyData.str p.2) ko rr
      rw [PySem.W.dataLe_str] at ro
      have rV : Vals (byKeys vs ks) (PySem.W.sortVals (PySem.W.dataKind s'.heap (ks.map PyData.str)) false kA.toList its) := by
        unfold byKeys
        clear ko rr erk huk hsk hal pk pa hk turn q
        generalize ((vs.zip ks).mergeSort fun a b => decide (a.2.cps.toList ≤ b.2.cps.toList)) = l1 at ro ⊢
        generalize PySem.W.sortVals (PySem.W.dataKind s'.heap (ks.map PyData.str)) false kA.toList its = l2 at ro ⊢
        induction ro with
        | nil => exact .nil
        | cons h _ ih => exact .cons h ih
      have hbl : (byKeys vs ks).length ≤ sizeLine := by
        unfold byKeys
        rw [List.length_map, List.length_mergeSort, List.length_zip]
        omega
      refine q H1 _ ((J.unpinned.turnedL (t' := tk) (h' := h2) (ch := [a, kS]) (fun b o hb e => kp b o (fun z => hb (by simp [z])) (by rw [r1 b (by simpa using fun z => hb (by simp [z]))]; exact e)) (fun b hb => by
        rcases List.mem_cons.mp hb with h | h
        · rw [h]; exact fp_re fa pa.2.1
        · rw [List.mem_singleton.mp h]; exact fp_re fk pk.2.1)).take (t' := tk) (fun _ _ _ e => e) (fp_re fa pa.2.1) ⟨hbl, _, c, rV, na⟩) x1 pa.2.1
/-- sorted(xs, key=f) -/
theorem sortK_run {l : Addr} {vs : List V} {ks : List Str} {f : Addr} {Q : VK} (I : Inv X pins σ H s) (hs : SqL X.K H l vs) (hlen : ks.length = vs.length) (hu : X.A.units + 12 < cLine)
    (turn : ∀ (i : Nat) v k, vs[i]? = some v → ks[i]? = some k → ∀ pins' H1 s1 u, Inv X pins' σ H1 s1 → Ext [] H H1 → RelV v u → wpAny (model X.prog X.w) X.A.in1.in1 (call (.ref f) [u]) (KEnd X pins' σ H1 k) (fun _ _ => False) s1)
    (q : ∀ H' p, Ext [] H H' → H' p = none → Q (.ref p) (upd H' p (.lst (byKeys vs ks)))) :
    wpAny (model X.prog X.w) X.A (call (.builtin "sorted") [.ref l] [(Str.ofString "key", .ref f)]) (EP X pins σ Q) X.xe s := by
  obtain ⟨its, rv, hL, hz⟩ := I.list hs
  refine PySem.W.sorted_of_sort hL.isList (by rw [← rv.length]; exact hz) (PyProof.Rows.ksk_s1 _ _) (fun _ => PyProof.Rows.ksk_l1 _ _) fun E' => ?_
  rw [PyProof.Rows.ksk_t1]
  have hn : H (s.heap.objs.size + 1) = none := I.hok.fresh (Nat.le_succ _)
  have fa := I.fpOk (Nat.le_succ _) hn
  refine sortK_list (s := { s with heap := PySem.W.copyHeap s.heap its, toks := s.toks }) (I.kept (t' := s.toks) (h' := PySem.W.copyHeap s.heap its) fun b u e => PySem.W.copyHeap_old e) fa (PySem.W.copyHeap_at s.heap its) rv hlen hz (by show X.A.units + 1 + 1 + 8 < cLine; omega) turn fun H' s' J x n => ⟨rfl, .ref (s.heap.objs.size + 1), _, J, rfl, q H' _ x n⟩
end
section
variable {X : Cx} {C : Cfg} {W : WX} {pos : Pos}
def noStarE (e : Expr) : Prop := ∀ env, starEach [e] env = (false, eval e env) :: starEach [] env
theorem keyL_len {F : FSem} : ∀ {ds : List D} {ks : List Str}, keyL F ds = some ks → ks.length = ds.length ∧ ∀ (i : Nat) d k, ds[i]? = some d → ks[i]? = some k → F [d] = .ret (.str k) []
  | [], ks, h => by cases h; exact ⟨rfl, fun i d k h => by simp at h⟩
  | d :: ds, ks, h => by
    unfold keyL at h
    split at h
    · rename_i x l e1 e2
      cases h
      obtain ⟨a, b⟩ := keyL_len e2
      refine ⟨by simp [a], fun i d' k h1 h2 => ?_⟩
      cases i with
      | zero => simp at h1 h2; subst h1; subst h2; exact e1
      | succ i => exact b i d' k (by simpa using h1) (by simpa using h2)
    · cases h
theorem reps_byKeys {K : PySem.W.Frag} {H : Hp} {ds : List D} {vs : List V} {ks : List Str} (r : Reps K H ds vs []) (hl : ks.length = ds.length) : Reps K H (byKeys ds ks) (byKeys vs ks) [] := by
  have gen : ∀ (l : List ((D × V) × Str)), (∀ p ∈ l, Rep K H p.1.1 p.1.2 []) → Reps K H ((l.map fun p => (p.1.1, p.2)).map (·.1)) ((l.map fun p => (p.1.2, p.2)).map (·.1)) [] := fun l => by
    induction l with
    | nil => exact fun _ => Reps.nil
    | cons p l ih => exact fun h => Reps.cons (S1 := []) (S2 := []) (h p List.mem_cons_self) (ih fun q hq => h q (List.mem_cons_of_mem _ hq))
  have lv := r.length
  have ms : ∀ {α : Type} (g : D × V → α) (l : List ((D × V) × Str)), (l.map fun p => (g p.1, p.2)).mergeSort (fun p q => decide (p.2.cps.toList ≤ q.2.cps.toList)) = (l.mergeSort fun p q => decide (p.2.cps.toList ≤ q.2.cps.toList)).map fun p => (g p.1, p.2) := fun g l =>
    (List.map_mergeSort (f := fun p : (D × V) × Str => (g p.1, p.2)) (fun a _ b _ => rfl)).symm
  have z1 : ds.zip ks = ((ds.zip vs).zip ks).map fun p => (p.1.1, p.2) := by
    apply List.ext_getElem
    · simp; omega
    · intro i h1 h2; simp
  have z2 : vs.zip ks = ((ds.zip vs).zip ks).map fun p => (p.1.2, p.2) := by
    apply List.ext_getElem
    · simp; omega
    · intro i h1 h2; simp
  unfold byKeys
  rw [z1, z2, ms (·.1), ms (·.2)]
  refine gen _ fun p hp => ?_
  have hp := (List.mergeSort_perm _ _).mem_iff.mp hp
  have hm := (List.of_mem_zip hp).1
  obtain ⟨i, hi, e⟩ := List.mem_iff_getElem.mp hm
  rw [List.getElem_zip] at e
  have h1 : ds[i]? = some p.1.1 := by rw [← e]; exact List.getElem?_eq_getElem (by simp at hi; omega)
  have h2 : vs[i]? = some p.1.2 := by rw [← e]; exact List.getElem?_eq_getElem (by simp at hi; omega)
  obtain ⟨v, hv, rv⟩ := r.get0 h1
  rw [h2] at hv
  cases hv
  exact rv
/-- a def whose texts are asked -/
def FnKey (C : Cfg) (X : Cx) (x : Str) (sem : FSem) : Prop :=
  ∃ (k : Nat) (f : Addr) (fd : FuncData) (ps : List Str), X.mg x = some (.ref f) ∧ FnOk X.prog X.w X.K X.mg X.base (L2.CX X.prog X.w) k f fd ps (spD C [false] sem) ∧ PySem.W.keepIn X.K (.ref f) = true ∧ Binds X.K fd ps [] ∧ Room (k + 2) X.A
theorem key_call {pins : List (Addr × Obj)} {σ : St} {H : Hp} {s : Shared} {f : Addr} {fd : FuncData} {ps : List Str} {sem : FSem} {k : Nat} {d : D} {v : V} {u : Value} {x : Str} (hK : X.K = C.K) (F : FnOk X.prog X.w X.K X.mg X.base (L2.CX X.prog X.w) k f fd ps (spD C [false] sem)) (hb : Binds X.K fd ps []) (hr : Room (k + 2) X.A) (I : Inv X pins σ H s) (r : Rep C.K H d v []) (ru : RelV v u) (hs : sem [d] = .ret (.str x) []) :
    wpAny (model X.prog X.w) X.A.in1.in1 (call (.ref f) [u]) (KEnd X pins σ H x) (fun _ _ => False) s := by
  have sp : spD C [false] sem [v] H (fun v H' => v = .str x ∧ Ext [] H H') (fun _ _ _ => False) := by
    refine ⟨[d], [], ⟨[], [], r, fun _ => rfl, rfl, rfl⟩, .nil, ?_⟩
    rw [hs]
    exact fun w H' T U ex rw _ _ _ => ⟨rw.1, ex⟩
  have hl : ([u] ++ []).length = ps.length := F.len _ _ _ _ sp
  refine wpAny_call (codeAny_mono (F.run X.A.in1.in1 X.stack s H ⟨[u], []⟩ ([u] ++ []) [v] _ _ hr.in1.in1 I.env0.in1.in1 (hb s [u] I.kIn hl) (.cons ru .nil) sp) fun r s' hq => ?_)
  cases r with
  | error e =>
    obtain ⟨_, _, _, _, _, _, _, _, _, _, _, _, z⟩ := hq
    exact z.elim
  | ok fl =>
    cases fl with
    | ret w =>
      obtain ⟨v', H', I', r', e1, e2⟩ := I.after hq
      subst e1
      exact ⟨H', I', e2, r'⟩
    | next => exact False.elim hq
    | brk => exact False.elim hq
    | cont => exact False.elim hq
theorem boot_sorted' : bootBuiltins "sorted" = some (.builtin "sorted") := by decide +kernel
/-- sorted(e, key=y) -/
theorem se_srtK {j : Nat} {e : Expr} {a' : E} {y : Str} {p q kpos : Pos} (hK : X.K = C.K) (hu : X.A.units + 12 < cLine) (G : FnKey C X y (Fns.F j)) (hg : Gl X "sorted") (hm : X.mg "sorted" = none) (hgy : Gl X y) (hdy : (y == ("__debug__" : Str)) = false) (ha : PE X e (tD C W a')) (hs : noStarE e) :
    PE X (.Call (.Name "sorted" p) [e] [⟨some "key", .Name y q, kpos⟩] pos) (tD C W (.srtK j a')) := by
  obtain ⟨k, f, fd, ps, hmy, F, hkf, hb, hr⟩ := G
  have he := hs X.env
  have cr : CallRK X (.builtin "sorted") [Str.ofString "key"] (fun vs zs H Q => ∃ d z S v, vs = [v] ∧ zs = [.ref f] ∧ Rep C.K H d v S ∧ srtKS (Fns.F j) d = some z ∧ ∀ w H' S', Ext [] H H' → Rep C.K H' z w S' → S'.Nodup → (∀ a ∈ S', H a = none) → Q w H') := by
    intro pins s σ H vs zs us ws Q I r rz h
    obtain ⟨d, z, S, v, rfl, rfl, rd, hz, kq⟩ := h
    cases d with
    | lst o xs =>
      unfold srtKS at hz
      dsimp only at hz
      split at hz
      · rename_i hc
        cases hkl : keyL (Fns.F j) xs with
        | none => rw [hkl] at hz; cases hz
        | some ks =>
          rw [hkl] at hz
          cases hz
          obtain ⟨l1, l2⟩ := keyL_len hkl
          obtain ⟨a, vs, T, rfl, q, rs, _⟩ := lst_sq rd
          have := rs.frz hc.1
          subst this
          have lv := rs.length
          obtain rfl := Vals.ref1 r
          obtain ⟨w1, rfl, e1⟩ := vals1 rz
          obtain rfl : w1 = Value.ref f := e1
          refine sortK_run I (.inl q) (l1.trans lv) hu (fun i v k hv hk pins' H1 s1 u J x ru => ?_) fun H' p x n => ?_
          · have hi : i < xs.length := by have := (List.getElem?_eq_some_iff.mp hv).1; omega
            have hd : xs[i]? = some xs[i] := List.getElem?_eq_getElem hi
            obtain ⟨v', hv', r'⟩ := rs.get0 hd
            rw [hv] at hv'
            cases hv'
            exact key_call hK F hb hr J (r'.kp _ (x.all _)) ru (l2 i _ k hd hk)
          · have x2 : Ext [] H' (upd H' p (.lst (byKeys vs ks))) := Ext.new n
            refine kq _ _ [p] (fun b o e h => x2 b o (x b o e h) h) ⟨p, _, [], rfl, upd_same, (reps_byKeys rs l1).kp _ (Ext.all (fun b o e h => x2 b o (x b o e h) h) _), rfl⟩ (by simp) fun b hb => ?_
            rw [show b = p by simpa using hb]
            cases hp : H p with
            | none => rfl
            | some o => rw [x p o hp List.not_mem_nil] at n; cases n
      · cases hz
    | _ => cases hz
  refine pemono (pe_callBK cr hg hm boot_sorted' (pa_cons ha pa_nil he) (pk_cons (pe_glob (v := .ref f) hgy hmy rfl hdy) pk_nil) (by decide) (by decide) (by rw [he]; rfl) (by rw [he]; rfl) rfl rfl rfl) fun σ H Q h => ?_
  obtain ⟨ρ, SV, hv, nd, h⟩ := h
  have h : tK C W σ SV H (RD C.K SV H ρ true (quiet a')) ((ev a' ρ).bind fun x ρ => liftO (srtKS (Fns.F j) x) ρ) Q := h
  refine ⟨ρ, SV, hv, nd, tK_bind0 h fun d ρ1 v H1 SV1 e1 ⟨⟨S, r1⟩, q1⟩ h1 => ?_⟩
  obtain ⟨z, hz, h1⟩ := tK_lift h1
  refine ⟨d, z, S, v, rfl, rfl, r1.rep, hz, fun w H' S' x rep nd' new => ?_⟩
  have en := e1.ext0 x
  obtain ⟨f1, f2⟩ := fresh_sep e1 nd' new
  exact h1 w H' SV1 (e1.trans en) ⟨⟨S', rep, (fun _ => f1), (fun _ => f2)⟩, fun q => (q1 q).ext x⟩
/-- o.get(e, f) -/
theorem se_get {o e f : Expr} {a' k' d' : E} {apos cpos : Pos} (hu : X.A.units + 1 < cLine) (hqk : quiet k' = true) (hqd : quiet d' = true) (ho : PE X o (tD C W a')) (he : PE X e (tD C W k')) (hf : PE X f (tD C W d')) (m : M2 X o "get" apos e f cpos) : PE X (.Call (.Attribute o "get" apos) [e, f] [] cpos) (tD C W (.get a' k' d')) := by
  refine pemono (pe_dget2 hu ho he hf m) fun σ H Q ⟨ρ, SV, hv, nd, h⟩ => ?_
  have h : tK C W σ SV H (RD C.K SV H ρ false (quiet a' && (quiet k' && quiet d'))) ((ev a' ρ).bind fun x ρ => if recvD x = true then (ev k' ρ).bind fun y ρ => (ev d' ρ).bind fun z ρ => liftO (getS x y z) ρ else .bad) Q := h
  refine ⟨ρ, SV, hv, nd, tK_bind h fun d ρ1 v H1 SV1 e1 ⟨⟨S, r1⟩, q1⟩ h1 => ?_⟩
  by_cases hd : recvD d = true
  case neg => rw [if_neg hd] at h1; exact h1.elim
  rw [if_pos hd] at h1
  cases d with
  | dk oo ks vs =>
    have rep0 := r1.rep
    obtain ⟨a, ws, T', rfl, q, l, r, _⟩ := dk_rd' r1.rep
    refine ⟨a, rfl, .inl ⟨_, q⟩, ρ1, SV1, e1.vars, e1.nd, tK_bind h1 fun y ρ2 u H2 SV2 e2 ⟨⟨T2, r2⟩, q2⟩ h2 => ⟨ρ2, SV2, e2.vars, e2.nd, tK_bind h2 fun z ρ3 w H3 SV3 e3 ⟨⟨T3, r3⟩, q3⟩ h3 => ?_⟩⟩
    obtain ⟨zr, hr, h4⟩ := tK_lift h3
    have Q2 := q2 hqk
    have Q3 := q3 hqd
    have rep3 := (rep0.kp _ (Q2.2.2.all _)).kp _ (Q3.2.2.all _)
    obtain ⟨a2, ws2, T2', ea, q', l', r', _⟩ := dk_rd' rep3
    cases ea
    have hr : (match keyD y with | some k => some ((look k ks vs).getD z) | none => none) = some zr := hr
    cases hk : keyD y with
    | none => rw [hk] at hr; cases hr
    | some key =>
      rw [hk] at hr
      cases hr
      have eu := keyD_some hk r2.rep
      have en : EnvP C.K SV3 H3 σ ρ3 H3 SV3 := .refl e3.vars e3.nd
      have fin : ∀ (zz : D) w T, Rep C.K H3 zz w T → zz = (look key ks vs).getD z → Q w H3 := fun zz w T rw' ez => by
        subst ez
        exact h4 w H3 SV3 en ⟨e3.trans en, (e2.trans e3).trans en, ((e1.trans e2).trans e3).trans en, ⟨T, rw', (fun z => nomatch z), (fun z => nomatch z)⟩, fun q => (q1 (Bool.and_eq_true_iff.mp q).1).trans (Q2.trans Q3)⟩
      cases hl : look key ks vs with
      | some zz =>
        obtain ⟨w', T1, g1, g2⟩ := (look_val key r' l').1 zz hl
        exact ⟨some w', .inl ⟨_, key, q', eu, g1.symm⟩, fin zz w' T1 g2 (by rw [hl]; rfl)⟩
      | none => exact ⟨none, .inl ⟨_, key, q', eu, ((look_val key r' l').2 hl).symm⟩, fin z w T3 r3.rep (by rw [hl]; rfl)⟩
  | _ => cases hd
end
end Ly

namespace Ly
open PySem PySem.Spec L2
variable [Fns]
section
variable {X : Cx} {C : Cfg} {W : WX} {P : List Nat} {pos : Pos}
theorem pget_list : PGet X (rIxL X.K) := by
  intro pins s σ H o i ov iv Q I ro ri ⟨p, xs, k, z, eo, ei, hq, he, q⟩
  subst eo
  subst ei
  obtain rfl : ov = Value.ref p := ro
  obtain ⟨t, rfl⟩ := ri
  obtain ⟨its, r, pl, hz⟩ := I.list hq
  obtain ⟨j, h1, h2, h3, h4, h5⟩ := atI_get he
  obtain ⟨w, ew, rw'⟩ := r.get h2
  have hl := r.length
  have hn := line63
  have fin : EP X pins σ Q w s := ⟨z, H, I, rw', q⟩
  by_cases h0 : 0 ≤ k
  · have hj : k.toNat = j := by
      rw [seqIndex_of h0 h5] at h1
      exact Option.some.inj h1
    exact PySem.wpAny_getItem_list pl.isList h0 (by omega) (by rw [hj]; simpa using ew) fin
  · have hj : (k + (its.toArray.size : Int)).toNat = j := by
      rw [PySem.seqIndex_neg (by omega) h4] at h1
      rw [List.size_toArray, ← hl]
      exact Option.some.inj h1
    exact PySem.wpAny_getItem_list_neg pl.isList (by omega) (by rw [List.size_toArray]; omega) (by omega) (by rw [hj]; simpa using ew) fin
theorem s_augI {i : Nat} {e ix : Expr} {ix' e' : E} {op : Operator} {o : O2} {x : Str} {p tpos : Pos} (hop : ipOp op = some o) (hK : X.K = C.K) (hu : X.A.units + 1 < cLine) (hN : X.N[i]? = some x) (hv : Vis X.env.scope x) (hd : (x == ("__debug__" : Str)) = false) (hcd : (x == ("__classdict__" : Str)) = false)
    (hsl : ∀ ov iv new, augStore ix ov iv new = (do holding [new, ov, iv] (setItem ov iv new); release [new, ov, iv] []; pure .next)) (hix : PE X ix (tD C W ix')) (he : PE X e (tD C W e')) : PS X (.AugAssign (.Subscript (.Name x p) ix tpos) op e pos) (tS C W P (.augI i ix' o e')) := by
  have key : ∃ f : Int → Int → Int, PIp X op (ipI f) ∧ (∀ m n, o.sem (.int m) (.int n) = some (.int (f m n))) := by
    cases op <;> first | (cases hop; exact ⟨_, ip_add, fun _ _ => rfl⟩) | (cases hop; exact ⟨_, ip_sub, fun _ _ => rfl⟩) | cases hop
  obtain ⟨f, hip, hsem⟩ := key
  refine psmono (ps_augS (pe_var hN hv hd hcd) hix pget_list he hip set_list hsl) fun D σ H ⟨ρ, SV, hv', nd, h⟩ => ?_
  have h : sK C W P σ SV H D (if isL ρ i = true then (ev ix' ρ).bind fun k ρ => (match k, getV ρ i with
    | .int k, some (.lst true xs) => (match idxS (.lst true xs) (.int k) with
      | some (.int m) => (ev e' ρ).bind fun y ρ => (match y, getV ρ i with
        | .int j, some (.lst true ys) => (match o.sem (.int m) (.int j), ixN ys.length k with
          | some z, some n => .ok .nx (ρ.set i (some (.lst true (ys.set n z))))
          | _, _ => .bad)
        | _, _ => .bad)
      | _ => .bad)
    | _, _ => .bad) else .bad) := h
  by_cases hl : isL ρ i = true
  case neg => rw [if_neg hl] at h; exact h.elim
  rw [if_pos hl] at h
  obtain ⟨xs0, h0⟩ := isL_some hl
  obtain ⟨a, vs0, S0, R0, hσ, _, _, _⟩ := lst_at hv' h0
  refine ⟨.ref a, hσ, ρ, SV, hv', nd, sK_bind h fun kd ρ1 u H1 SV1 e1 ⟨⟨S1, r1⟩, _⟩ h1 => ?_⟩
  cases kd with
  | int k =>
    have ek := r1.rep.1
    subst ek
    cases hg : getV ρ1 i with
    | none => simp only [hg] at h1; exact h1.elim
    | some d1 =>
      cases d1 with
      | lst b xs =>
        cases b with
        | true =>
          simp only [hg] at h1
          obtain ⟨a1, vs1, S1', R1, hσ1, hH1, rs1, _⟩ := lst_at e1.vars hg
          rw [hσ] at hσ1
          cases hσ1
          cases hi : idxS (.lst true xs) (.int k) with
          | none => simp only [hi] at h1; exact h1.elim
          | some old =>
            cases old with
            | int m =>
              simp only [hi] at h1
              have hat : atI xs k = some (.int m) := hi
              have hav : atI vs1 k = some (.int m) := by
                unfold atI at hat ⊢
                rw [← rs1.length]
                cases hn : ixN xs.length k with
                | none => rw [hn] at hat; cases hat
                | some n =>
                  rw [hn] at hat
                  obtain ⟨v, T, g1, g2, _⟩ := rs1.get (show xs[n]? = some (.int m) from hat)
                  rw [← g2.1]
                  exact g1
              refine ⟨a, vs1, k, .int m, rfl, rfl, .inl (.inl hH1), hav, ρ1, SV1, e1.vars, e1.nd, sK_bind2 e1 h1 fun yd ρ2 w H2 SV2 e2 ⟨⟨T2, r2⟩, _⟩ h2 => ?_⟩
              cases yd with
              | int j =>
                have ej := r2.rep.1
                subst ej
                have e12 := e1.trans e2
                cases hg2 : getV ρ2 i with
                | none => simp only [hg2] at h2; exact h2.elim
                | some d2 =>
                  cases d2 with
                  | lst b ys =>
                    cases b with
                    | true =>
                      simp only [hg2] at h2
                      rw [hsem] at h2
                      cases hn : ixN ys.length k with
                      | none => simp only [hn] at h2; exact h2.elim
                      | some n =>
                        simp only [hn] at h2
                        obtain ⟨a2, vs2, S2', R2, hσ2, hH2, rs2, f2⟩ := lst_at e12.vars hg2
                        rw [hσ] at hσ2
                        cases hσ2
                        have hny : n < ys.length := (ixN_seq hn).2.1
                        obtain ⟨v0, T0, R3, g1, g2, g3, g4, g5⟩ := Reps.split rs2 (List.getElem?_eq_getElem hny)
                        have ndf : ((a :: S2') ++ R2).Nodup := f2.perm.nodup_iff.mp e12.nd
                        obtain ⟨na, ndf'⟩ := List.nodup_cons.mp (show (a :: (S2' ++ R2)).Nodup from ndf)
                        have memR : ∀ b ∈ R3, b ∈ S2' := fun b hb => g3.mem_iff.mpr (List.mem_append_right _ hb)
                        obtain ⟨S4, h5, h6⟩ := g5 (.int (f m j)) (.int (f m j)) [] ⟨rfl, rfl⟩
                        have h6 : S4.Perm R3 := h6
                        have ndR3 : R3.Nodup := (List.nodup_append.mp (g3.nodup_iff.mp (List.nodup_append.mp ndf').1)).2.1
                        have kU : Kp R3 H2 (upd H2 a (.lst (vs2.set n (.int (f m j))))) := kp_upd hH2 (show Mb (.lst vs2) from True.intro) fun z => na (List.mem_append_left _ (memR a z))
                        have rep2 : Rep C.K (upd H2 a (.lst (vs2.set n (.int (f m j))))) (.lst true (ys.set n (.int (f m j)))) (.ref a) (a :: S4) := ⟨a, _, _, rfl, upd_same, h5.kp _ (kU.sub fun b hb => h6.mem_iff.mp hb), rfl⟩
                        have nd2 : (a :: (R3 ++ R2)).Nodup := by
                          refine List.nodup_cons.mpr ⟨fun z => ?_, List.nodup_append.mpr ⟨ndR3, (List.nodup_append.mp ndf').2.1, fun b hb c hc => (List.nodup_append.mp ndf').2.2 b (memR b hb) c hc⟩⟩
                          rcases List.mem_append.mp z with z | z
                          · exact na (List.mem_append_left _ (memR a z))
                          · exact na (List.mem_append_right _ z)
                        obtain ⟨SV3, e3, _⟩ := obj_write e12 f2 hσ hH2 (show Mb (.lst vs2) from True.intro) rep2 (((h6.append_right R2).cons a).nodup_iff.mpr nd2) (fun b hb => e12.src b (f2.perm.mem_iff.mpr (List.mem_append_left _ (List.mem_cons_of_mem _ (memR b (h6.mem_iff.mp hb))))))
                        exact ⟨m, j, rfl, rfl, a, vs2, k, n, rfl, rfl, hH2, by rw [← rs2.length]; exact hn, h2 σ _ SV3 e3 .refl⟩
                    | false => simp only [hg2] at h2; exact h2.elim
                  | _ => simp only [hg2] at h2; exact h2.elim
              | _ => exact h2.elim
            | _ => simp only [hi] at h1; exact h1.elim
        | false => simp only [hg] at h1; exact h1.elim
      | _ => simp only [hg] at h1; exact h1.elim
  | _ => exact h1.elim
end
end Ly

namespace Ly
open PySem PySem.Spec L2
variable [Fns]
section
variable {X : Cx} {C : Cfg} {W : WX} {P : List Nat} {pos : Pos}
theorem ps_setDc {i : Nat} {y : Str} {py : Pos} {kx vx tg iter : Expr} {ifs : List Expr} {scope : Scope} {own : List (Str × Nat)} {pos spos : Pos} {wi : TI} {g : TG} {tt : TT} {tk tv : TE} (hc : X.calm = true) (hN : X.N.Nodup) (hy : X.N[i]? = some y) (hyl : X.env.scope.names.lookup y = some .local)
    (hsw : swapsWith (.DictComp kx vx [⟨tg, iter, ifs, 0⟩] scope pos) (some (.Name y py)) spos.line X.env = pure true) (hi : PI X tg iter wi) (ok : BlkOk X.N X.env.scope scope own)
    (hg : ∀ (s : Shared) (H : Hp) (C : Addr) (cl : List (Str × Addr)) (fp : List Addr), PG (X.blk s H scope (compEnvC scope cl C X.env) fp) tg g) (ht : ∀ (s : Shared) (H : Hp) (C : Addr) (cl : List (Str × Addr)) (fp : List Addr), PTs (X.blk s H scope (compEnvC scope cl C X.env) fp) ifs tt)
    (hk : ∀ (s : Shared) (H : Hp) (C : Addr) (cl : List (Str × Addr)) (fp : List Addr), PE (X.blk s H scope (compEnvC scope cl C X.env) fp) kx tk)
    (he : ∀ (s : Shared) (H : Hp) (C : Addr) (cl : List (Str × Addr)) (fp : List Addr), PE (X.blk s H scope (compEnvC scope cl C X.env) fp) vx tv) (hs : ∀ x, foldedSetIterable iter X.env x = pure x) :
    PS X (.Assign [.Name y py] (.DictComp kx vx [⟨tg, iter, ifs, 0⟩] scope pos) spos) (tAsg (tDc wi g tt tk tv (own.map (·.2))) (gName i)) := by
  refine ⟨fun pins s σ H D I h => ?_⟩
  rw [exec_Assign_Name_used _ _ _ _ hsw]
  refine wpAny_bind (wpAny_standAt (wpAny_bind ?_))
  show wpAny _ X.A (do let _ ← comprehension (.DictComp kx vx [⟨tg, iter, ifs, 0⟩] scope pos) scope X.env (firstIterPos [⟨tg, iter, ifs, 0⟩] pos) newDict false (eval iter X.env) (some (assign (.Name y py) X.env))) _ _ s
  have h : tDc wi g tt tk tv (own.map (·.2)) σ H (fun x H1 => gName i x σ H1 D.nx) := h
  refine wpAny_bind (thn (dc_core (Qf := fun _ s' => SP X pins D .next s') hc hN I hi ok hg ht hk he hs h fun L C s' m H' I' q hn f => ?_) fun _ s' hq => wpAny_pure (wpAny_pure hq))
  show wpAny _ _ (assign (.Name y py) X.env (.ref L)) _ _ _
  refine wpAny_assign_Name (store_ok2 (v := V.ref L) I' hN hy (.inl hyl) rfl (fun s2 I2 ⟨a, sb, ha⟩ => ?_) (.inr hyl))
  obtain ⟨f0, f1, f2, f3, f4, f5⟩ := f
  have haC : C ≠ a := by
    rcases ha with z | z
    · rw [z]; exact f1
    · exact fun e => f4 y a z e.symm
  refine ⟨m, hn.sameBut sb haC, fun h3 sb3 => ?_⟩
  exact ⟨_, H', I2.turned (t' := s2.toks) (fun b o hb e => (sb3.2 b hb).trans e) f0 f1 f3 f4 f5, q⟩
/-- y = {..} on one line -/
theorem s_asgDc {i : Nat} {y : Str} {py : Pos} {kx vx tg iter : Expr} {ifs : List Expr} {scope : Scope} {ow : List (Str × Nat)} {spos : Pos} {tg' : Tg} {it : It} {c : Es} {k' e' : E} (ho : own e' = true) (ht : ∀ i ∈ tns tg', i ∈ ow.map (·.2)) (hP : i ∉ P) (hc : X.calm = true) (hN : X.N.Nodup) (hy : X.N[i]? = some y) (hyl : X.env.scope.names.lookup y = some .local)
    (hsw : swapsWith (.DictComp kx vx [⟨tg, iter, ifs, 0⟩] scope pos) (some (.Name y py)) spos.line X.env = pure true) (hi : PI X tg iter (tI C W it)) (ok : BlkOk X.N X.env.scope scope ow)
    (hg : ∀ (s : Shared) (H : Hp) (Cc : Addr) (cl : List (Str × Addr)) (fp : List Addr), PG (X.blk s H scope (compEnvC scope cl Cc X.env) fp) tg (tG C.K tg')) (htt : ∀ (s : Shared) (H : Hp) (Cc : Addr) (cl : List (Str × Addr)) (fp : List Addr), PTs (X.blk s H scope (compEnvC scope cl Cc X.env) fp) ifs (tCs C WF c))
    (hk : ∀ (s : Shared) (H : Hp) (Cc : Addr) (cl : List (Str × Addr)) (fp : List Addr), PE (X.blk s H scope (compEnvC scope cl Cc X.env) fp) kx (tD C WF k'))
    (he : ∀ (s : Shared) (H : Hp) (Cc : Addr) (cl : List (Str × Addr)) (fp : List Addr), PE (X.blk s H scope (compEnvC scope cl Cc X.env) fp) vx (tD C WF e')) (hs : ∀ x, foldedSetIterable iter X.env x = pure x) :
    PS X (.Assign [.Name y py] (.DictComp kx vx [⟨tg, iter, ifs, 0⟩] scope pos) spos) (tS C W P (.asg i (.dc (ow.map (·.2)) tg' it c k' e'))) := by
  refine psmono (ps_setDc hc hN hy hyl hsw hi ok hg htt hk he hs) fun D σ H ⟨ρ, SV, hv, nd, h⟩ => dc_read ho ht ⟨ρ, SV, hv, nd, ?_⟩
  exact sK_bind (R := RD C.K SV H ρ true false) (show sK C W P σ SV H D ((ev (.dc (ow.map (·.2)) tg' it c k' e') ρ).bind fun d ρ => .ok .nx (ρ.set i (some d))) from h) fun d ρ1 v H1 SV1 e1 ⟨⟨S, r⟩, _⟩ h1 => by
    obtain ⟨SV2, e2, _⟩ := envp_set i e1 r.rep (r.src rfl) (r.sep rfl)
    exact h1 _ H1 SV2 e2 (kept_set hP)
end
end Ly

namespace Ly
open PySem PySem.Spec L2
variable [Fns]
section
variable {X : Cx} {C : Cfg} {W : WX} {P : List Nat} {pos : Pos}
def rExtS (K : PySem.W.Frag) : V → List V → Hp → VK → Prop := fun x vs H Q => ∃ l b xs zs, x = .ref l ∧ vs = [.ref b] ∧ H l = some (.lst xs) ∧ Rd H b (.lst zs) ∧ xs.length + zs.length ≤ sizeLine ∧ Q .non (upd H l (.lst (xs ++ zs)))
theorem mt_extS : MtR X "list.extend" (rExtS X.K) := by
  intro pins s σ H x vs v us Q I rx rv h
  obtain ⟨l, b, xs, zs, rfl, rfl, hH, hB, hz, q⟩ := h
  cases rx
  obtain ⟨u, rfl, ru⟩ := rv.one
  cases ru
  obtain ⟨z, its, n, r, hl, e⟩ := I.lstM hH
  obtain ⟨z2, its2, n2, r2, e2⟩ := hB.ok I.hok
  have hl2 := r2.length
  have hsz : its.toArray.size + its2.toArray.size ≤ sizeLine := by rw [List.size_toArray, List.size_toArray]; omega
  have hlong : ¬ (!its.toArray.isEmpty && Builtin.List.listTooLong (its.toArray.size + its2.toArray.size)) = true := by
    rw [notLongL hsz, Bool.and_false]
    exact Bool.false_ne_true
  refine call_meets PySem.F.slot_list_extend ⟨_, e, rfl⟩ PySem.F.entry_list_extend (PySem.F.args_list_extend_2 _ _)
    (PySem.AutoSeq1.list_extend_list_list_0 l its.toArray n b its2.toArray n2 hlong (by rw [List.size_toArray]; omega) (by omega)) ⟨e, e2, ?_⟩
  refine ⟨.non, _, I.lset (its' := its ++ its2) hH e (by simp) (r.append r2) ?_, rfl, q⟩
  rw [List.length_append]
  omega
theorem lme_write {σ : St} {ρ1 : Ev} {SV SV1 : List Addr} {H H1 : Hp} {DD : Ends} {i : Nat} {a : Addr} {S' R : List Addr} {vs1 vs2 : List V} {ys : List D} (e1 : EnvP C.K SV H σ ρ1 H1 SV1) (f : Foc C.K H1 ρ1 σ SV1 i (a :: S') R) (hσ : σ[i]? = some (some (.ref a))) (hH1 : H1 a = some (.lst vs1)) (rs2 : Reps C.K H1 ys vs2 S') (h1 : sK C W P σ SV H DD (.ok .nx (ρ1.set i (some (.lst true ys))))) : DD.nx σ (upd H1 a (.lst vs2)) := by
  have ndf : ((a :: S') ++ R).Nodup := f.perm.nodup_iff.mp e1.nd
  have na : a ∉ S' := fun z => (List.nodup_cons.mp (show (a :: (S' ++ R)).Nodup from ndf)).1 (List.mem_append_left _ z)
  have kU : Kp S' H1 (upd H1 a (.lst vs2)) := kp_upd hH1 (show Mb (.lst vs1) from True.intro) na
  have rep2 : Rep C.K (upd H1 a (.lst vs2)) (.lst true ys) (.ref a) (a :: S') := ⟨a, _, _, rfl, upd_same, rs2.kp _ kU, rfl⟩
  obtain ⟨SV2, e2, _⟩ := obj_write e1 f hσ hH1 (show Mb (.lst vs1) from True.intro) rep2 ndf (fun b hb => e1.src b (f.perm.mem_iff.mpr (List.mem_cons_of_mem _ (List.mem_append_left _ hb))))
  exact h1 σ _ SV2 e2 .refl
theorem s_ext {i : Nat} {x : Str} {e : Expr} {e' : E} {p apos cpos pos : Pos} (hK : X.K = C.K) (hN : X.N[i]? = some x) (hv : Vis X.env.scope x) (hd : (x == ("__debug__" : Str)) = false) (hcd : (x == ("__classdict__" : Str)) = false) (he : PE X e (tD C W e'))
    (hbase : attributeBase (.Name x p) "extend" X.env (eval (.Name x p) X.env) = eval (.Name x p) X.env)
    (hfew : ((backTo cpos (starEach [e] X.env)).all (fun x => !x.1) && (backToKw cpos (keywordEach [] X.env)).all (fun x => x.1.isSome)
      && decide (([e] : List Expr).length + ([] : List Keyword).length + (if ([] : List Keyword).isEmpty then 0 else 1) < 30)) = true)
    (hline : (apos.endLine == cpos.line) = true) (hs : starEach [e] X.env = (false, eval e X.env) :: starEach [] X.env) (hplain : (backTo cpos (starEach [] X.env)).any (·.1) = false) (hsw : swapsWith (.Call (.Attribute (.Name x p) "extend" apos) [e] [] cpos) none pos.line X.env = pure false) :
    PS X (.Expr (.Call (.Attribute (.Name x p) "extend" apos) [e] [] cpos) pos) (tS C W P (.lme .ext i (.cons e' .nil))) := by
  refine psmono (ps_expr (pe_bm PySem.F.plainAttrs_list PySem.F.slot_list_extend PySem.F.type_list_extend mt_extS (pe_var hN hv hd hcd) (pa_cons he pa_nil hs) hbase hfew hline hs hplain) hsw) fun D σ H ⟨ρ, SV, hv', nd, h⟩ => ?_
  have h : sK C W P σ SV H D (if isL ρ i = true then (evs (.cons e' .nil) ρ).bind fun ds ρ => (onL (LM.ext.f ds) i ρ).bind fun _ ρ => .ok .nx ρ else .bad) := h
  by_cases hl : isL ρ i = true
  case neg => rw [if_neg hl] at h; exact h.elim
  rw [if_pos hl] at h
  obtain ⟨xs0, h0⟩ := isL_some hl
  obtain ⟨a, vs0, S0, R0, hσ, hH0, _, _⟩ := lst_at hv' h0
  refine ⟨.ref a, hσ, .inl ⟨rfl, vs0, .inl (.inl hH0)⟩, ρ, SV, hv', nd, ?_⟩
  have h2 : sK C W P σ SV H D ((ev e' ρ).bind fun d ρ => (onL (LM.ext.f [d]) i ρ).bind fun _ ρ => .ok .nx ρ) := by
    have e3 : evs (.cons e' .nil) ρ = (ev e' ρ).bind fun d ρ => .ok [d] ρ := rfl
    rw [e3] at h
    cases hev : ev e' ρ <;> rw [hev] at h <;> exact h
  refine sK_bind h2 fun d ρ1 v H1 SV1 e1 ⟨⟨S, r1⟩, _⟩ h1 => ?_
  unfold onL at h1
  cases hg : getV ρ1 i with
  | none => rw [hg] at h1; exact h1.elim
  | some z =>
    rw [hg] at h1
    match z, hg, h1 with
    | .lst true xs, hg, h1 =>
      obtain ⟨a', vs1, S', R, hσ', hH1, rs, f⟩ := lst_at e1.vars hg
      rw [hσ] at hσ'
      cases hσ'
      dsimp only at h1
      match d, r1, h1 with
      | .lst o ys, r1, h1 =>
        obtain ⟨b, ws, T, rfl, q, rsy, hT⟩ := lst_sq r1.rep
        unfold LM.f at h1
        dsimp only at h1
        by_cases hc : ys.all frzD = true ∧ xs.length + ys.length ≤ lim
        case neg => rw [if_neg hc] at h1; exact h1.elim
        rw [if_pos hc] at h1
        have h1 : sK C W P σ SV H D (.ok .nx (ρ1.set i (some (.lst true (xs ++ ys))))) := h1
        have hT := hT (.inr hc.1)
        subst hT
        have rall := rs.app rsy
        rw [List.append_nil] at rall
        exact ⟨a, b, vs1, ws, rfl, rfl, hH1, q, by rw [← rs.length, ← rsy.length]; have := lim_eq; omega, lme_write e1 f hσ hH1 rall h1⟩
      | .non, _, h1 => exact h1.elim
      | .bl _, _, h1 => exact h1.elim
      | .int _, _, h1 => exact h1.elim
      | .str _, _, h1 => exact h1.elim
      | .tup _, _, h1 => exact h1.elim
      | .dk _ _ _, _, h1 => exact h1.elim
      | .dt _ _ _, _, h1 => exact h1.elim
      | .exc _ _ _, _, h1 => exact h1.elim
      | .scr _, _, h1 => exact h1.elim
    | .lst false _, _, h1 => exact h1.elim
    | .non, _, h1 => exact h1.elim
    | .bl _, _, h1 => exact h1.elim
    | .int _, _, h1 => exact h1.elim
    | .str _, _, h1 => exact h1.elim
    | .tup _, _, h1 => exact h1.elim
    | .dk _ _ _, _, h1 => exact h1.elim
    | .dt _ _ _, _, h1 => exact h1.elim
    | .exc _ _ _, _, h1 => exact h1.elim
    | .scr _, _, h1 => exact h1.elim
theorem Reps.cut {K : PySem.W.Frag} {H : Hp} : ∀ (n : Nat) {ds : List D} {vs : List V} {S : List Addr}, Reps K H ds vs S → ∃ S1 S2, S = S1 ++ S2 ∧ Reps K H (ds.take n) (vs.take n) S1 ∧ Reps K H (ds.drop n) (vs.drop n) S2
  | 0, ds, vs, S, r => ⟨[], S, rfl, by rw [List.take_zero, List.take_zero]; exact Reps.nil, by rw [List.drop_zero, List.drop_zero]; exact r⟩
  | n + 1, [], _, _, r => by
    obtain ⟨rfl, rfl⟩ := r
    exact ⟨[], [], rfl, Reps.nil, Reps.nil⟩
  | n + 1, d :: ds, _, _, r => by
    obtain ⟨v, w, T1, T2, rfl, r1, r2, rfl⟩ := r
    obtain ⟨S1, S2, rfl, a, b⟩ := Reps.cut n r2
    exact ⟨T1 ++ S1, S2, (List.append_assoc _ _ _).symm, Reps.cons r1 a, b⟩
theorem s_ins {i : Nat} {x : Str} {ea eb : Expr} {a' b' : E} {p apos cpos pos : Pos} (hK : X.K = C.K) (hN : X.N[i]? = some x) (hv : Vis X.env.scope x) (hd : (x == ("__debug__" : Str)) = false) (hcd : (x == ("__classdict__" : Str)) = false) (ha : PA X [ea, eb] (tA C W (.cons a' (.cons b' .nil))))
    (hbase : attributeBase (.Name x p) "insert" X.env (eval (.Name x p) X.env) = eval (.Name x p) X.env)
    (hfew : ((backTo cpos (starEach [ea, eb] X.env)).all (fun x => !x.1) && (backToKw cpos (keywordEach [] X.env)).all (fun x => x.1.isSome)
      && decide (([ea, eb] : List Expr).length + ([] : List Keyword).length + (if ([] : List Keyword).isEmpty then 0 else 1) < 30)) = true)
    (hline : (apos.endLine == cpos.line) = true) (hs : starEach [ea, eb] X.env = (false, eval ea X.env) :: starEach [eb] X.env) (hplain : (backTo cpos (starEach [eb] X.env)).any (·.1) = false) (hsw : swapsWith (.Call (.Attribute (.Name x p) "insert" apos) [ea, eb] [] cpos) none pos.line X.env = pure false) :
    PS X (.Expr (.Call (.Attribute (.Name x p) "insert" apos) [ea, eb] [] cpos) pos) (tS C W P (.lme .ins i (.cons a' (.cons b' .nil)))) := by
  refine psmono (ps_expr (pe_bm PySem.F.plainAttrs_list PySem.F.slot_list_insert PySem.F.type_list_insert mt_insert (pe_var hN hv hd hcd) ha hbase hfew hline hs hplain) hsw) fun D σ H ⟨ρ, SV, hv', nd, h⟩ => ?_
  have h : sK C W P σ SV H D (if isL ρ i = true then (evs (.cons a' (.cons b' .nil)) ρ).bind fun ds ρ => (onL (LM.ins.f ds) i ρ).bind fun _ ρ => .ok .nx ρ else .bad) := h
  by_cases hl : isL ρ i = true
  case neg => rw [if_neg hl] at h; exact h.elim
  rw [if_pos hl] at h
  obtain ⟨xs0, h0⟩ := isL_some hl
  obtain ⟨a, vs0, S0, R0, hσ, hH0, _, _⟩ := lst_at hv' h0
  refine ⟨.ref a, hσ, .inl ⟨rfl, vs0, .inl (.inl hH0)⟩, ρ, SV, hv', nd, ?_⟩
  refine sK_bind h fun ds ρ1 vs H1 SV1 e1 ⟨⟨S, r1⟩, _⟩ h1 => ?_
  unfold onL at h1
  cases hg : getV ρ1 i with
  | none => rw [hg] at h1; exact h1.elim
  | some z =>
    rw [hg] at h1
    match z, hg, h1 with
    | .lst true xs, hg, h1 =>
      obtain ⟨a2, vs1, S', R, hσ', hH1, rs, f⟩ := lst_at e1.vars hg
      rw [hσ] at hσ'
      cases hσ'
      dsimp only at h1
      have hlen : ∃ k d, ds = [.int k, d] := by
        match ds, h1 with
        | [.int k, d], _ => exact ⟨k, d, rfl⟩
        | [], h1 => exact h1.elim
        | [y], h1 => cases y <;> exact h1.elim
        | .non :: _ :: _, h1 => exact h1.elim
        | .bl _ :: _ :: _, h1 => exact h1.elim
        | .str _ :: _ :: _, h1 => exact h1.elim
        | .tup _ :: _ :: _, h1 => exact h1.elim
        | .lst _ _ :: _ :: _, h1 => exact h1.elim
        | .dk _ _ _ :: _ :: _, h1 => exact h1.elim
        | .dt _ _ _ :: _ :: _, h1 => exact h1.elim
        | .exc _ _ _ :: _ :: _, h1 => exact h1.elim
        | .scr _ :: _ :: _, h1 => exact h1.elim
        | .int _ :: _ :: _ :: _, h1 => exact h1.elim
      obtain ⟨k, d, rfl⟩ := hlen
      unfold LM.f at h1
      dsimp only at h1
      by_cases hc : (frzD d = true ∧ xs.length < lim) ∧ (0 ≤ k ∧ k < 9223372036854775808)
      case neg => rw [if_neg hc] at h1; exact h1.elim
      rw [if_pos hc] at h1
      have h1 : sK C W P σ SV H D (.ok .nx (ρ1.set i (some (.lst true (xs.take k.toNat ++ [d] ++ xs.drop k.toNat))))) := h1
      have rr := r1.rep
      cases rr with
      | cons ri rr =>
        cases rr with
        | cons rd rn =>
          cases rn
          have ei := ri.1
          subst ei
          have hS := rd.frz hc.1.1
          subst hS
          obtain ⟨S1, S2, rfl, ra, rb⟩ := Reps.cut k.toNat rs
          have rall := (ra.app (Reps.cons (S1 := []) (S2 := []) rd Reps.nil)).app rb
          rw [List.append_nil, List.append_nil] at rall
          exact ⟨a, vs1, k, _, rfl, rfl, hH1, by rw [← rs.length]; have := lim_eq; omega, hc.2.1, hc.2.2, lme_write e1 f hσ hH1 rall h1⟩
    | .lst false _, _, h1 => exact h1.elim
    | .non, _, h1 => exact h1.elim
    | .bl _, _, h1 => exact h1.elim
    | .int _, _, h1 => exact h1.elim
    | .str _, _, h1 => exact h1.elim
    | .tup _, _, h1 => exact h1.elim
    | .dk _ _ _, _, h1 => exact h1.elim
    | .dt _ _ _, _, h1 => exact h1.elim
    | .exc _ _ _, _, h1 => exact h1.elim
    | .scr _, _, h1 => exact h1.elim
end
end Ly

namespace Ly
open PySem PySem.Spec L2
variable [Fns]
theorem strs_rep {K : PySem.W.Frag} {H : Hp} : ∀ {xs : List D} {vs : List V} {S : List Addr} {ys : List Str}, Reps K H xs vs S → strs? xs = some ys → vs = ys.map V.str
  | [], _, _, ys, r, h => by
    obtain ⟨rfl, _⟩ := r
    cases h
    rfl
  | d :: ds, _, _, ys, r, h => by
    obtain ⟨v, r', S1, S2, rfl, q1, q2, rfl⟩ := r
    cases d with
    | str x =>
      have h : (match strs? ds with | some r => some (x :: r) | none => none) = some ys := h
      cases e : strs? ds with
      | none => rw [e] at h; cases h
      | some l =>
        rw [e] at h
        cases h
        rw [q1.1, strs_rep q2 e]
        rfl
    | _ => cases h
theorem strs_reps {K : PySem.W.Frag} {H : Hp} : ∀ (l : List Str), Reps K H (l.map D.str) (l.map V.str) []
  | [] => Reps.nil
  | x :: l => Reps.cons (S1 := []) (S2 := []) ⟨rfl, rfl⟩ (strs_reps l)
section
variable {X : Cx} {C : Cfg} {W : WX} {o e : Expr} {a' e' : E} {apos cpos : Pos}
theorem recvS {m : Mth} (hm : m ≠ .index) {d : D} (h : m.recv d = true) : ∃ a, d = .str a := by
  cases m <;> first
    | exact absurd rfl hm
    | (cases d <;> first
        | exact ⟨_, rfl⟩
        | cases h)
theorem se_me1 {m : Mth} {nm : Str} {id : String} {r : V → List V → Hp → VK → Prop} (hm : m ≠ .index) (slot : Slot "str" nm id) (hty : typeOf (.builtin id) = pure (.type "method_descriptor")) (mt : MtR X id r)
    (key : ∀ (a : Str) (y z : D) (u : V) (S : List Addr) (H : Hp) (Q : VK), Rep C.K H y u S → m.sem (.str a) [y] = some z → (∀ w H' S', Ext [] H H' → Rep C.K H' z w S' → S'.Nodup → (∀ a ∈ S', H a = none) → Q w H') → r (.str a) [u] H Q)
    (hs' : own a' = true ∨ quiets (.cons e' .nil) = true) (ho : PE X o (tD C W a')) (ha : PA X [e] (tA C W (.cons e' .nil)))
    (hbase : attributeBase o nm X.env (eval o X.env) = eval o X.env)
    (hfew : ((backTo cpos (starEach [e] X.env)).all (fun x => !x.1) && (backToKw cpos (keywordEach [] X.env)).all (fun x => x.1.isSome)
      && decide (([e] : List Expr).length + ([] : List Keyword).length + (if ([] : List Keyword).isEmpty then 0 else 1) < 30)) = true)
    (hline : (apos.endLine == cpos.line) = true) (hs : starEach [e] X.env = (false, eval e X.env) :: starEach [] X.env) (hplain : (backTo cpos (starEach [] X.env)).any (·.1) = false) :
    PE X (.Call (.Attribute o nm apos) [e] [] cpos) (tD C W (.me m a' (.cons e' .nil))) := by
  refine pemono (pe_bm PySem.F.plainAttrs_str slot hty mt ho ha hbase hfew hline hs hplain) fun σ H Q ⟨ρ, SV, hv', nd, h⟩ => ?_
  have h : tK C W σ SV H (RD C.K SV H ρ true (quiet a' && quiets (.cons e' .nil))) ((ev a' ρ).bind fun x ρ => if m.recv x = true then (evs (.cons e' .nil) ρ).bind fun ds ρ => liftO (m.sem x ds) ρ else .bad) Q := h
  refine ⟨ρ, SV, hv', nd, tK_bind h fun d ρ1 v H1 SV1 e1 ⟨⟨S, r1⟩, q1⟩ h1 => ?_⟩
  by_cases hr : m.recv d = true
  case neg => rw [if_neg hr] at h1; exact h1.elim
  rw [if_pos hr] at h1
  obtain ⟨a, rfl⟩ := recvS hm hr
  obtain ⟨rfl, rfl⟩ := r1.rep
  refine ⟨rfl, ρ1, SV1, e1.vars, e1.nd, tK_bind h1 fun ds ρ2 us H2 SV2 e2 ⟨⟨T2, r2⟩, q2⟩ h2 => ?_⟩
  obtain ⟨z, hz, h3⟩ := tK_lift h2
  cases r2.rep with
  | @cons _ _ y ds u us S2 T3 rd t =>
    cases t
    have et := e1.trans e2
    refine key a y z u _ H2 Q rd hz fun w H' S' x rep nd' new => ?_
    have en := et.ext0 x
    obtain ⟨f1, f2⟩ := fresh_sep et nd' new
    exact h3 w H' SV2 en ⟨e2.trans en, et.trans en, ⟨S', rep, fun _ => f1, fun _ => f2⟩, fun q => by
      rw [Bool.and_eq_true] at q
      exact ((q1 q.1).trans (q2 q.2)).ext x⟩
theorem se_me0 {m : Mth} {nm : Str} {id : String} {r : V → List V → Hp → VK → Prop} (hm : m ≠ .index) (slot : Slot "str" nm id) (hty : typeOf (.builtin id) = pure (.type "method_descriptor")) (mt : MtR X id r)
    (key : ∀ (a : Str) (z : D) (H : Hp) (Q : VK), m.sem (.str a) [] = some z → (∀ w H' S', Ext [] H H' → Rep C.K H' z w S' → S'.Nodup → (∀ a ∈ S', H a = none) → Q w H') → r (.str a) [] H Q)
    (ho : PE X o (tD C W a')) (hbase : attributeBase o nm X.env (eval o X.env) = eval o X.env) (hline : (apos.endLine == cpos.line) = true) :
    PE X (.Call (.Attribute o nm apos) [] [] cpos) (tD C W (.me m a' .nil)) := by
  refine pemono (pe_bm0 PySem.F.plainAttrs_str slot hty mt ho hbase hline) fun σ H Q ⟨ρ, SV, hv', nd, h⟩ => ?_
  have h : tK C W σ SV H (RD C.K SV H ρ true (quiet a' && true)) ((ev a' ρ).bind fun x ρ => if m.recv x = true then (evs .nil ρ).bind fun ds ρ => liftO (m.sem x ds) ρ else .bad) Q := h
  refine ⟨ρ, SV, hv', nd, tK_bind h fun d ρ1 v H1 SV1 e1 ⟨⟨S, r1⟩, q1⟩ h1 => ?_⟩
  by_cases hr : m.recv d = true
  case neg => rw [if_neg hr] at h1; exact h1.elim
  rw [if_pos hr] at h1
  obtain ⟨a, rfl⟩ := recvS hm hr
  obtain ⟨rfl, rfl⟩ := r1.rep
  obtain ⟨z, hz, h3⟩ := tK_lift (show tK C W σ SV1 H1 _ (liftO (m.sem (.str a) []) ρ1) Q from h1)
  refine ⟨rfl, key a z H1 Q hz fun w H' S' x rep nd' new => ?_⟩
  have en := e1.ext0 x
  obtain ⟨f1, f2⟩ := fresh_sep e1 nd' new
  exact h3 w H' SV1 en ⟨e1.trans en, ⟨S', rep, fun _ => f1, fun _ => f2⟩, fun q => by
    rw [Bool.and_true] at q
    exact (q1 q).ext x⟩
/-! ### the methods -/
def one (m : Mth) : Bool := match m with
  | .join => true
  | .split => true
  | .count => true
  | _ => false
def zero (m : Mth) : Bool := match m with
  | .upper => true
  | .strip => true
  | .words => true
  | _ => false
def mthM : Mth → Str
  | .index => "index"
  | .join => "join"
  | .split => "split"
  | .count => "count"
  | .upper => "upper"
  | .strip => "strip"
  | .words => "split"
theorem seqD_sq {K : PySem.W.Frag} {H : Hp} {y : D} {u : V} {S : List Addr} {xs : List D} (r : Rep K H y u S) (h : seqD y = some xs) : ∃ p vs T, u = .ref p ∧ (SqL K H p vs ∨ SqT K H p vs) ∧ Reps K H xs vs T := by
  cases y with
  | tup ds =>
    cases h
    obtain ⟨_, a, vs, rfl, q, rs⟩ := r
    exact ⟨a, vs, [], rfl, .inr q, rs⟩
  | lst o ds =>
    cases h
    obtain ⟨a, vs, T, rfl, q, rs, _⟩ := lst_sq r
    exact ⟨a, vs, T, rfl, .inl (.inl q), rs⟩
  | _ => cases h
theorem se_one {m : Mth} (h1 : one m = true) (hs' : own a' = true ∨ quiets (.cons e' .nil) = true) (hK : X.K = C.K) (ho : PE X o (tD C W a')) (ha : PA X [e] (tA C W (.cons e' .nil)))
    (hbase : ∀ nm, attributeBase o nm X.env (eval o X.env) = eval o X.env)
    (hfew : ((backTo cpos (starEach [e] X.env)).all (fun x => !x.1) && (backToKw cpos (keywordEach [] X.env)).all (fun x => x.1.isSome)
      && decide (([e] : List Expr).length + ([] : List Keyword).length + (if ([] : List Keyword).isEmpty then 0 else 1) < 30)) = true)
    (hline : (apos.endLine == cpos.line) = true) (hs : starEach [e] X.env = (false, eval e X.env) :: starEach [] X.env) (hplain : (backTo cpos (starEach [] X.env)).any (·.1) = false) :
    PE X (.Call (.Attribute o (mthM m) apos) [e] [] cpos) (tD C W (.me m a' (.cons e' .nil))) := by
  cases m with
  | join =>
    refine se_me1 (by decide) PySem.F.slot_str_join PySem.F.type_str_join mt_join (fun a y z u S H Q r hz k => ?_) hs' ho ha (hbase _) hfew hline hs hplain
    have hz : (match seqD y with | some xs => joinS a xs | none => none) = some z := hz
    cases hy : seqD y with
    | none => rw [hy] at hz; cases hz
    | some xs =>
      rw [hy] at hz
      obtain ⟨p, vs, T, rfl, q, rs⟩ := seqD_sq r hy
      have hz : joinS a xs = some z := hz
      unfold joinS at hz
      cases hx : strs? xs with
      | none => rw [hx] at hz; cases hz
      | some ys =>
        rw [hx] at hz
        dsimp only at hz
        split at hz
        · rename_i hb
          cases hz
          obtain rfl := strs_rep rs hx
          exact ⟨a, p, ys, rfl, rfl, by rw [hK]; exact q, hb, kStr k⟩
        · cases hz
  | split =>
    refine se_me1 (by decide) PySem.F.slot_str_split PySem.F.type_str_split mt_split (fun a y z u S H Q r hz k => ?_) hs' ho ha (hbase _) hfew hline hs hplain
    cases y with
    | str b =>
      have hz : (if (b.length == 0) = false ∧ a.length + 2 ≤ lim then some (D.lst true ((Txt.split a b).map D.str)) else none) = some z := hz
      split at hz
      · rename_i hb
        cases hz
        obtain ⟨rfl, _⟩ := r
        exact ⟨a, b, rfl, rfl, hb.1, by rw [sizeLine_eq]; exact hb.2, kLst k (strs_reps _)⟩
      · cases hz
    | _ => cases hz
  | count =>
    refine se_me1 (by decide) PySem.F.slot_str_count PySem.F.type_str_count mt_count (fun a y z u S H Q r hz k => ?_) hs' ho ha (hbase _) hfew hline hs hplain
    cases y with
    | str b =>
      have hz : some (D.int (Txt.count a b)) = some z := hz
      cases hz
      obtain ⟨rfl, _⟩ := r
      exact ⟨a, b, rfl, rfl, k0 k ⟨rfl, rfl⟩⟩
    | _ => cases hz
  | _ => cases h1
theorem se_zero {m : Mth} (h1 : zero m = true) (ho : PE X o (tD C W a')) (hbase : ∀ nm, attributeBase o nm X.env (eval o X.env) = eval o X.env) (hline : (apos.endLine == cpos.line) = true) :
    PE X (.Call (.Attribute o (mthM m) apos) [] [] cpos) (tD C W (.me m a' .nil)) := by
  cases m with
  | upper =>
    refine se_me0 (by decide) PySem.F.slot_str_upper PySem.F.type_str_upper mt_upper (fun a z H Q hz k => ?_) ho (hbase _) hline
    have hz : (if a.length ≤ 5592405 then some (D.str (Txt.upper a)) else none) = some z := hz
    split at hz
    · rename_i hb; cases hz; exact ⟨a, rfl, rfl, hb, kStr k⟩
    · cases hz
  | strip =>
    refine se_me0 (by decide) PySem.F.slot_str_strip PySem.F.type_str_strip mt_strip (fun a z H Q hz k => ?_) ho (hbase _) hline
    have hz : (if a.length ≤ lim then some (D.str (Txt.strip a)) else none) = some z := hz
    split at hz
    · rename_i hb; cases hz; exact ⟨a, rfl, rfl, by rw [sizeLine_eq]; exact hb, kStr k⟩
    · cases hz
  | words =>
    refine se_me0 (by decide) PySem.F.slot_str_split PySem.F.type_str_split mt_words (fun a z H Q hz k => ?_) ho (hbase _) hline
    have hz : (if a.length + 2 ≤ lim then some (D.lst true ((Txt.words a).map D.str)) else none) = some z := hz
    split at hz
    · rename_i hb; cases hz; exact ⟨a, rfl, rfl, by rw [sizeLine_eq]; exact hb, kLst k (strs_reps _)⟩
    · cases hz
  | _ => cases h1
end
end Ly

namespace Ly
open PySem PySem.Spec PyProof.Rows L2
variable [Fns]
/-- a class as a value -/
def TyV (v : V) (u : Value) : Prop := (∃ a, v = .ref a ∧ u = .ref a) ∨ ∃ n, v = .ty n ∧ u = .type n
theorem TyV.rel {v : V} {u : Value} (h : TyV v u) : RelV v u := by
  rcases h with ⟨a, rfl, rfl⟩ | ⟨n, rfl, rfl⟩ <;> rfl
theorem TyV.uniq {v : V} {u u' : Value} (h : TyV v u) (r : RelV v u') : u' = u := by
  rcases h with ⟨a, rfl, rfl⟩ | ⟨n, rfl, rfl⟩
  · exact r
  · exact r
/-- the class T by its name -/
def ClsN (X : Cx) (T : Str) (v : V) (u : Value) : Prop := TyV v u ∧ (X.mg T = some u ∨ (X.mg T = none ∧ bootBuiltins T = some u ∧ T ≠ "__name__")) ∧ ∀ c b, Fns.S c T = some b → PySem.W.exmOne X.K (.ref (He.ga X.K c)) u = some b ∧ PySem.W.kitOne X.K (.ref (He.ga X.K c)) u = some b
/-- a class whose errors may be looked at -/
structure XR (K : PySem.W.Frag) (c : Str) (ns : List Str) : Prop where
  xf : XfC K (He.ga K c)
  ha : PySem.W.findIn K (.ref (He.ga K c)) "__class__" = some (some (.builtin "object.__class__"))
  hn : PySem.W.specialIn K (.builtin "object.__class__") "__get__" = some (some (.builtin "getset_descriptor.__get__"))
  ht : PySem.W.takesIn K (.builtin "object.__class__") = some true
  hm : PySem.W.mroIn K (He.ga K c) (.type "object") = some true
  nd : ns.Nodup
  no : ∀ x ∈ ns, PySem.W.findIn K (.ref (He.ga K c)) x = some none
/-- .. and raised -/
structure XM (P : Program) (w : World) (K : PySem.W.Frag) (mg : Str → Option Value) (base : Heap) (c : Str) (ns : List Str) : Prop where
  gl : mg c = some (.ref (He.ga K c))
  oex : OexC K (He.ga K c)
  len : ns.length ≤ 20
  ini : ∃ fI fd self, PySem.W.findIn K (.ref (He.ga K c)) "__init__" = some (some (.ref fI)) ∧ PySem.W.typeIn K (.ref fI) = some (.type "function") ∧ FnOk P w K mg base (L2.CX P w) 1 fI fd (self :: ns) (spI (He.ga K c) (self :: ns)) ∧ Binds K fd (self :: ns) []
theorem lookF_at {f : Str} {d : D} : ∀ {ns : List Str} {fs : List D}, lookF f ns fs = some d → ∃ i : Nat, ns[i]? = some f ∧ fs[i]? = some d
  | [], _, h => by cases h
  | _ :: _, [], h => by cases h
  | n :: ns, e :: fs, h => by
    unfold lookF at h
    split at h
    · rename_i q; cases h; exact ⟨0, by rw [q]; rfl, rfl⟩
    · obtain ⟨i, h1, h2⟩ := lookF_at h
      exact ⟨i + 1, by simpa using h1, by simpa using h2⟩
theorem lookup_memV {l : List (Str × V)} {k : Str} {v : V} : (l.map (·.1)).Nodup → (k, v) ∈ l → l.lookup k = some v := by
  induction l with
  | nil => intro _ h; cases h
  | cons p l ih =>
    intro nd h
    obtain ⟨a, b⟩ := p
    rcases List.mem_cons.mp h with e | h
    · cases e; simp [List.lookup]
    · have hne : k ≠ a := fun e => (List.nodup_cons.mp nd).1 (by rw [← e]; exact List.mem_map.mpr ⟨(k, v), h, rfl⟩)
      have : (k == a) = false := by simpa using hne
      rw [List.lookup, this]
      exact ih (List.nodup_cons.mp nd).2 h
theorem zip_subV : ∀ (ps : List Str) (us : List V), ((ps.zip us).map (·.1)).Sublist ps
  | [], _ => List.nil_sublist _
  | _ :: _, [] => List.nil_sublist _
  | p :: ps, u :: us => (zip_subV ps us).cons_cons p
theorem zip_revV {ps : List Str} {us : List V} {i : Nat} {p : Str} {u : V} (nd : ps.Nodup) (h1 : ps[i]? = some p) (h2 : us[i]? = some u) : (ps.zip us).reverse.lookup p = some u := by
  refine lookup_memV ?_ ?_
  · rw [List.map_reverse]
    exact (List.reverse_perm _).nodup_iff.mpr (nd.sublist (zip_subV ps us))
  · rw [List.mem_reverse]
    refine List.mem_of_getElem? (i := i) ?_
    rw [List.getElem?_zip_eq_some]
    exact ⟨h1, h2⟩
section
variable {X : Cx} {C : Cfg} {W : WX} {pos : Pos} {e : Expr} {e' : E} {es : List Expr} {es' : Es}
theorem tD_u {e0 a' : E} {g : D → Option D} {σ : L2.St} {H : Hp} {Q : VK} (hev : ∀ ρ, ev e0 ρ = (ev a' ρ).bind fun x ρ => liftO (g x) ρ) (ho : own e0 = true) (hq : quiet e0 = quiet a') (h : tD C W e0 σ H Q) : tUn (rD1 C.K g) (tD C W a') σ H Q := by
  obtain ⟨ρ, SV, hv, nd, h⟩ := h
  rw [ho, hq, hev] at h
  refine ⟨ρ, SV, hv, nd, tK_bind h fun d ρ1 v H1 SV1 e1 r1 h1 => ?_⟩
  obtain ⟨z, hz, h1⟩ := tK_lift h1
  obtain ⟨⟨S, r1⟩, q1⟩ := r1
  refine ⟨d, z, S, r1.rep, hz, fun w H' S' x rep nd' new => ?_⟩
  have en := e1.ext0 x
  obtain ⟨f1, f2⟩ := fresh_sep e1 nd' new
  exact h1 w H' SV1 en ⟨e1.trans en, ⟨S', rep, (fun _ => f1), (fun _ => f2)⟩, fun q => (q1 q).ext x⟩
/-- a tracked error's object and dict -/
theorem exc_inst {pins : List (Addr × Obj)} {σ : L2.St} {H : Hp} {s : Shared} {a d : Addr} {c : Str} {fl : List (Str × V)} (I : Inv X pins σ H s) (ha : H a = some (exT (.ref (He.ga X.K c)) (some d) a)) (hd : H d = some (.xd fl)) :
    ∃ oe od, PySem.W.InstAt s.heap a oe (He.ga X.K c) (some od) ∧ (∀ f v, fl.lookup f = some v → ∃ u, PySem.W.lookIn f od = some (some u) ∧ RelV v u) := by
  have h1 : ObjOk X.prog X.w H s.heap a (exT (.ref (He.ga X.K c)) (some d) a) := I.hok a _ ha
  obtain ⟨⟨oe, vs, ho, hz, hv⟩, _⟩ := h1
  have h2 : ObjOk X.prog X.w H s.heap d (.xd fl) := I.hok d _ hd
  obtain ⟨mA, hns, hr⟩ := h2
  obtain ⟨od, hod, hl⟩ := lookIn_ns hns
  refine ⟨oe, od, ⟨ho, hz.1, by unfold PySem.W.notCls; rw [hv] <;> rfl, by rw [hz.2]; exact hod⟩, fun f v e => ?_⟩
  obtain ⟨u, hu, ru⟩ := RelO.some_of (v := v) (o := mA f) (by rw [← e]; exact hr f)
  exact ⟨u, by rw [hl, hu], ru⟩
/-- e.f -/
theorem se_fld {f : Str} (hX : ∀ c ns, Fns.N c = some ns → XR X.K c ns) (hK : X.K = C.K) (ha : PE X e (tD C W e')) (hb : attributeBase e f X.env (eval e X.env) = eval e X.env) : PE X (.Attribute e f pos) (tD C W (.fld e' f)) := by
  refine ⟨fun pins s σ H Q I h => ?_⟩
  have h := tD_u (e0 := .fld e' f) (g := fldS f) (fun _ => rfl) rfl rfl h
  refine attr_of hb (thn (ha.run pins s σ H _ I h) fun u s1 hh => ?_)
  obtain ⟨x, H1, I1, rx, d, z, S, r, hz, k⟩ := hh
  cases d with
  | exc c ns fs =>
    obtain ⟨rfl, a, dd, vs, rfl, ea, ed, hl, rs⟩ := r
    obtain rfl : u = Value.ref a := rx
    have hz : (if Fns.N c = some ns ∧ ns.length = fs.length then lookF f ns fs else none) = some z := hz
    by_cases hc : Fns.N c = some ns ∧ ns.length = fs.length
    · rw [if_pos hc] at hz
      obtain ⟨i, i1, i2⟩ := lookF_at hz
      obtain ⟨v, i3, rv⟩ := rs.get0 i2
      have XR := hX c ns hc.1
      rw [← hK] at ea
      obtain ⟨oe, od, J, hf⟩ := exc_inst I1 ea ed
      obtain ⟨u, hu, ru⟩ := hf f v (zip_revV XR.nd i1 i3)
      exact HandSPX.exc_get I1.kIn J XR.xf.ga XR.xf.gg XR.xf.exC (PySem.W.findObj_own XR.xf.hdC (XR.no f (List.mem_of_getElem? i1)) rfl hu) (handed_of ru) ⟨v, H1, I1.tok _, ru, k v H1 [] Ext.refl rv .nil (fun a ha => absurd ha List.not_mem_nil)⟩
    · rw [if_neg hc] at hz; cases hz
  | _ => cases hz
/-! ### isinstance -/
theorem kit_exc {c : Str} {ns : List Str} {a : Addr} {oe od : Obj} (XR : XR X.K c ns) : PySem.W.KitX X.K (.ref a) (.ref (He.ga X.K c)) (fun h => PySem.W.InstAt h a oe (He.ga X.K c) (some od)) :=
  PySem.W.kitx_exc (by
    obtain ⟨cd, hc, _⟩ := PySem.W.any_some XR.xf.hdC
    rw [hc]; rfl) XR.xf.ga XR.xf.gg XR.xf.exC XR.ha XR.hn XR.ht XR.hm
def rIs1 (X : Cx) (T : Str) : List V → Hp → VK → Prop := fun xs H Q => ∃ x v u, xs = [x, v] ∧ ClsN X T v u ∧ rD1 X.K (isXS [T]) x H Q
theorem isXS_some {Ts : List Str} {d z : D} (h : isXS Ts d = some z) : ∃ c ns fs b, d = .exc c ns fs ∧ Fns.N c = some ns ∧ anyX c Ts = some b ∧ z = .bl b := by
  cases d with
  | exc c ns fs =>
    have h : (if Fns.N c = some ns then (match anyX c Ts with | some b => some (D.bl b) | none => none) else none) = some z := h
    split at h
    · rename_i hn
      split at h
      · rename_i b hb; cases h; exact ⟨c, ns, fs, b, rfl, hn, hb, rfl⟩
      · cases h
    · cases h
  | _ => cases h
theorem any_one {c T : Str} {b : Bool} (h : anyX c [T] = some b) : Fns.S c T = some b := by
  unfold anyX at h
  split at h
  · rename_i q; cases h; exact q
  · rename_i q; unfold anyX at h; cases h; exact q
  · cases h
theorem call_is1 (hX : ∀ c ns, Fns.N c = some ns → XR X.K c ns) {T : Str} : CallR X (.builtin "isinstance") (rIs1 X T) := by
  intro pins s σ H xs us Q I r h
  obtain ⟨x, v, u, rfl, hc, d, z, S, rep, hz, k⟩ := h
  obtain ⟨c, ns, fs, b, rfl, hn, hb, rfl⟩ := isXS_some hz
  obtain ⟨ux, ut, rfl, rx, rt⟩ := vals2 r
  obtain rfl := hc.1.uniq rt
  obtain ⟨rfl, a, dd, vs, rfl, ea, ed, hl, rs⟩ := rep
  obtain rfl : ux = Value.ref a := rx
  obtain ⟨oe, od, J, _⟩ := exc_inst I ea ed
  exact PySem.W.kia_one (kit_exc (hX c ns hn)) I.kIn J (hc.2.2 c b (any_one hb)).2 (fun z => nomatch z) fun tk => ⟨.bl b, H, I.kept (t' := tk) fun _ _ z => z, rfl, k _ H [] Ext.refl ⟨rfl, rfl⟩ .nil (fun a ha => absurd ha List.not_mem_nil)⟩
/-- names of classes -/
def clsEs : List Str → List Expr → Bool
  | [], [] => true
  | T :: Ts, e :: es => (match e with
    | .Name x _ => decide (x = T) && clsEs Ts es
    | _ => false)
  | _, _ => false
def ClsNs (X : Cx) : List Str → List V → List Value → Prop
  | [], vs, us => vs = [] ∧ us = []
  | T :: Ts, vs, us => ∃ v u vr ur, vs = v :: vr ∧ us = u :: ur ∧ ClsN X T v u ∧ ClsNs X Ts vr ur
theorem ClsNs.any {c : Str} : ∀ {Ts : List Str} {vs : List V} {us : List Value} {b : Bool}, ClsNs X Ts vs us → anyX c Ts = some b → PySem.W.kitAny X.K (.ref (He.ga X.K c)) us = some b
  | [], _, _, b, h, e => by obtain ⟨_, rfl⟩ := h; cases e; rfl
  | T :: Ts, _, _, b, h, e => by
    obtain ⟨v, u, vr, ur, rfl, rfl, h1, h2⟩ := h
    unfold anyX at e
    unfold PySem.W.kitAny
    split at e
    · rename_i q; cases e; rw [(h1.2.2 c _ q).2]
    · rename_i q; rw [(h1.2.2 c _ q).2]; exact ClsNs.any h2 e
    · cases e
theorem ClsNs.uniq : ∀ {Ts : List Str} {vs : List V} {us us' : List Value}, ClsNs X Ts vs us → Vals vs us' → us' = us
  | [], _, _, us', h, r => by obtain ⟨rfl, rfl⟩ := h; cases r; rfl
  | T :: Ts, _, _, us', h, r => by
    obtain ⟨v, u, vr, ur, rfl, rfl, h1, h2⟩ := h
    cases r with
    | cons r1 r2 => rw [h1.1.uniq r1, ClsNs.uniq h2 r2]
theorem pe_cls {T : Str} {v : V} {u : Value} {p : Pos} (h : ClsN X T v u) (hg : Gl X T) (hd : (T == ("__debug__" : Str)) = false) : PE X (.Name T p) (tC v) := by
  rcases h.2.1 with hm | ⟨hm, hv, hn⟩
  · exact pe_glob hg hm h.1.rel hd
  · exact pe_bltn hg hm hv h.1.rel hn hd
theorem pa_clss : ∀ {Ts : List Str} {es : List Expr}, clsEs Ts es = true → (∀ T ∈ Ts, (∃ v u, ClsN X T v u) ∧ Gl X T ∧ (T == ("__debug__" : Str)) = false) → ∃ vs us, ClsNs X Ts vs us ∧ PA X es (fun _ H Q => Q vs H)
  | [], [], _, _ => ⟨[], [], ⟨rfl, rfl⟩, pa_nil⟩
  | [], _ :: _, h, _ => by cases h
  | _ :: _, [], h, _ => by cases h
  | T :: Ts, e :: es, h, hT => by
    unfold clsEs at h
    split at h
    · rename_i x p
      obtain ⟨h1, h2⟩ := Bool.and_eq_true_iff.mp h
      have h1 := of_decide_eq_true h1
      subst h1
      obtain ⟨⟨v, u, hc⟩, hg, hd⟩ := hT _ List.mem_cons_self
      obtain ⟨vs, us, h3, h4⟩ := pa_clss h2 fun T hT' => hT T (List.mem_cons_of_mem _ hT')
      exact ⟨v :: vs, u :: us, ⟨v, u, vs, us, rfl, rfl, hc, h3⟩, pamono (pa_cons (pe_cls hc hg hd) h4 rfl) fun σ H Q h => h⟩
    · cases h
def rIsT (X : Cx) (Ts : List Str) : List V → Hp → VK → Prop := fun xs H Q => ∃ x t ts us, xs = [x, .ref t] ∧ H t = some (.tup ts) ∧ ClsNs X Ts ts us ∧ rD1 X.K (isXS Ts) x H Q
theorem call_isTs (hX : ∀ c ns, Fns.N c = some ns → XR X.K c ns) {Ts : List Str} : CallR X (.builtin "isinstance") (rIsT X Ts) := by
  intro pins s σ H xs us Q I r h
  obtain ⟨x, t, ts, cv, rfl, ht, hc, d, z, S, rep, hz, k⟩ := h
  obtain ⟨c, ns, fs, b, rfl, hn, hb, rfl⟩ := isXS_some hz
  obtain ⟨ux, ut, rfl, rx, rt⟩ := vals2 r
  obtain ⟨rfl, a, dd, vs, rfl, ea, ed, hl, rs⟩ := rep
  obtain rfl : ux = Value.ref a := rx
  obtain rfl : ut = Value.ref t := rt
  obtain ⟨oe, od, J, _⟩ := exc_inst I ea ed
  have h1 : ObjOk X.prog X.w H s.heap t (.tup ts) := I.hok t _ ht
  obtain ⟨_, its, hv, o, ho, hcl, n, hda⟩ := h1
  obtain rfl := hc.uniq hv
  obtain ⟨oc, odc, oda, osl⟩ := o
  dsimp only at hcl hda
  subst hcl hda
  exact PySem.W.kia_tup (kit_exc (hX c ns hn)) I.kIn J ho (hc.any hb) (fun z => nomatch z) fun tk => ⟨.bl b, H, I.kept (t' := tk) fun _ _ z => z, rfl, k _ H [] Ext.refl ⟨rfl, rfl⟩ .nil (fun a ha => absurd ha List.not_mem_nil)⟩
theorem boot_isi2 : bootBuiltins "isinstance" = some (.builtin "isinstance") := by decide +kernel
theorem se_is1 {T g : Str} {p q : Pos} (hX : ∀ c ns, Fns.N c = some ns → XR X.K c ns) (hK : X.K = C.K) (hgi : g = "isinstance") (hg : Gl X g) (hm : X.mg g = none) (hdg : (g == ("__debug__" : Str)) = false) (hT : (∃ v u, ClsN X T v u) ∧ Gl X T ∧ (T == ("__debug__" : Str)) = false) (ha : PE X e (tD C W e'))
    (hs : starEach [e, .Name T q] X.env = (false, eval e X.env) :: starEach [.Name T q] X.env) : PE X (.Call (.Name g p) [e, .Name T q] [] pos) (tD C W (.isX e' [T])) := by
  subst hgi
  obtain ⟨⟨v, u, hc⟩, hg2, hd2⟩ := hT
  refine pemono (pe_callB (call_is1 (T := T) hX) hg hm boot_isi2 (pa_cons ha (pa_cons (pe_cls hc hg2 hd2) pa_nil rfl) hs) (by decide +kernel) hdg hs rfl) fun σ H Q h => ?_
  have h := tD_u (e0 := .isX e' [T]) (g := isXS [T]) (fun _ => rfl) rfl rfl h
  obtain ⟨ρ, SV, hv, nd, h⟩ := h
  refine ⟨ρ, SV, hv, nd, ?_⟩
  cases m : ev e' ρ with
  | bad => rw [m] at h; exact h
  | exc x ρ' => rw [m] at h; exact h
  | ok d ρ1 =>
    rw [m] at h
    intro w H1 SV1 e1 r1
    exact ⟨w, v, u, rfl, hc, by rw [hK]; exact h w H1 SV1 e1 r1⟩
theorem rD1_ext {K : PySem.W.Frag} {g : D → Option D} {x : V} {H H' : Hp} {Q : VK} (hg : ∀ d z, g d = some z → frzD d = true) (h : rD1 K g x H Q) (xt : Ext [] H H') : rD1 K g x H' Q := by
  obtain ⟨d, z, S, rep, hz, k⟩ := h
  have := rep.frz (hg d z hz)
  subst this
  exact ⟨d, z, [], rep.kp d (xt.all _), hz, fun w H2 S' x2 rep nd new => k w H2 S' (fun a o e h => x2 a o (xt a o e h) h) rep nd fun a ha => by
    cases e : H a with
    | none => rfl
    | some o =>
      have := xt a o e List.not_mem_nil
      rw [new a ha] at this
      cases this⟩
theorem isX_frz {Ts : List Str} {d z : D} (h : isXS Ts d = some z) : frzD d = true := by
  obtain ⟨c, ns, fs, b, rfl, _⟩ := isXS_some h
  rfl
theorem se_isT2 {Ts : List Str} {g : Str} {p q : Pos} {k : Nat} (hX : ∀ c ns, Fns.N c = some ns → XR X.K c ns) (hK : X.K = C.K) (hgi : g = "isinstance") (hg : Gl X g) (hm : X.mg g = none) (hdg : (g == ("__debug__" : Str)) = false) (hes : clsEs Ts es = true) (hlen : Ts.length ≤ 1000) (hT : ∀ T ∈ Ts, (∃ v u, ClsN X T v u) ∧ Gl X T ∧ (T == ("__debug__" : Str)) = false) (ha : PE X e (tD C W e'))
    (hs : starEach [e, .Tuple es k q] X.env = (false, eval e X.env) :: starEach [.Tuple es k q] X.env) : PE X (.Call (.Name g p) [e, .Tuple es k q] [] pos) (tD C W (.isX e' Ts)) := by
  subst hgi
  obtain ⟨vs, us, hc, hpa⟩ := pa_clss hes hT
  have hlv : ∀ {Ts : List Str} {vs : List V} {us : List Value}, ClsNs X Ts vs us → vs.length = Ts.length := by
    intro Ts
    induction Ts with
    | nil => intro vs us h; obtain ⟨rfl, _⟩ := h; rfl
    | cons T Ts ih => intro vs us h; obtain ⟨v, u, vr, ur, rfl, _, _, h2⟩ := h; exact congrArg (· + 1) (ih h2)
  refine pemono (pe_callB (call_isTs (Ts := Ts) hX) hg hm boot_isi2 (pa_cons ha (pa_cons (pe_tup hpa) pa_nil rfl) hs) (by decide +kernel) hdg hs rfl) fun σ H Q h => ?_
  have h := tD_u (e0 := .isX e' Ts) (g := isXS Ts) (fun _ => rfl) rfl rfl h
  obtain ⟨ρ, SV, hv, nd, h⟩ := h
  refine ⟨ρ, SV, hv, nd, ?_⟩
  cases m : ev e' ρ with
  | bad => rw [m] at h; exact h
  | exc x ρ' => rw [m] at h; exact h
  | ok d ρ1 =>
    rw [m] at h
    intro w H1 SV1 e1 r1
    refine ⟨by rw [hlv hc, sizeLine_eq]; omega, fun p hp => ⟨w, p, vs, us, rfl, upd_same, hc, ?_⟩⟩
    rw [hK]
    exact rD1_ext (fun d z => isX_frz) (h w H1 SV1 e1 r1) (Ext.new hp)
end
end Ly

namespace Ly
open PySem PySem.Spec PyProof.Rows L2
variable [Fns]
section
variable {X : Cx} {C : Cfg} {W : WX} {P : List Nat} {pos pos2 : Pos} {e : Expr} {es : List Expr} {es' : Es}
theorem passes_no : Passes (L2.CX X.prog X.w) X (fun _ _ _ => False) := by
  intro pins σ s H e s' I h
  obtain ⟨_, _, _, _, _, _, _, _, _, _, _, _, z⟩ := h
  exact z.elim
/-- raise c(e, ..) -/
theorem s_rai {c : Str} {ns : List Str} {p : Pos} (hc : X.calm = true) (tk : Takes X W) (hK : X.K = C.K) (hER : C.ER = erX C.K) (hN : ∀ ns', Fns.N c = some ns' → ns' = ns) (M : XM X.prog X.w X.K X.mg X.base c ns) (hr : Room 2 X.A) (hg : Gl X c) (hd : (c == ("__debug__" : Str)) = false) (hp : plainEs es' = true)
    (ha : PA X (e :: es) (tA C W es')) (hs : starEach (e :: es) X.env = (false, eval e X.env) :: starEach es X.env) (hpl : (backTo pos (starEach es X.env)).any (·.1) = false) :
    PS X (.Raise (some (.Call (.Name c p) (e :: es) [] pos)) none pos2) (tS C W P (.rai c es')) := by
  obtain ⟨fI, fd, self, i1, i2, F1, hb⟩ := M.ini
  refine psmono (ps_raise hc tk (pmk_oex (k := 1) M.oex i1 i2 F1 hr hb .nil passes_no hg M.gl ha hd hs hpl)) fun D σ H ⟨ρ, SV, hv, nd, h⟩ => ?_
  refine ⟨ρ, SV, hv, nd, ?_⟩
  have h : sK C W P σ SV H D ((evs es' ρ).bind fun ds ρ => (match Fns.N c with
    | some ns => if ns.length = ds.length ∧ ds.all frzD = true then .exc (.exc c ns ds) ρ else .bad
    | none => .bad)) := h
  refine sK_bind h fun ds ρ1 vs H1 SV1 e1 ⟨⟨S, r1⟩, q1⟩ h1 => ?_
  cases hn : Fns.N c with
  | none => rw [hn] at h1; exact h1.elim
  | some ns' =>
    rw [hn] at h1
    have := hN ns' hn
    subst this
    by_cases hcc : ns'.length = ds.length ∧ ds.all frzD = true
    · have h1 : sK C W P σ SV H D (if ns'.length = ds.length ∧ ds.all frzD = true then .exc (.exc c ns' ds) ρ1 else .bad) := h1
      rw [if_pos hcc] at h1
      have r := r1.rep.reps hp
      have := r.frz hcc.2
      subst this
      have hl : ns'.length = vs.length := by rw [hcc.1, r.length]
      have hns20 : vs.length ≤ 1000 := by have := M.len; omega
      refine ⟨hns20, fun a na => ⟨a, vs, by rw [List.append_nil], ?_, upd_same, fun dx H2 n1 n2 a1 a2 a3 => ⟨rfl, dx, _, a1, a2, ?_, ?_⟩⟩⟩
      · rw [List.append_nil, List.length_cons, List.length_cons, hl]
      · rw [upd_ne n2] at n1; exact n1
      · have n1' : H1 dx = none := by rw [upd_ne n2] at n1; exact n1
        have eH : upd (del H2 a) dx (.xd ((self :: ns').drop 1 |>.zip vs).reverse) = upd H1 dx (.xd (ns'.zip vs).reverse) := by
          funext b
          by_cases hb : b = dx
          · subst hb; rw [upd_same, upd_same]; rfl
          · rw [upd_ne hb, upd_ne hb]
            by_cases hb2 : b = a
            · subst hb2; rw [del_same, na]
            · rw [del_ne hb2, a3 b hb2 hb, upd_ne hb2]
        rw [eH]
        have xt : Ext [] H1 (upd H1 dx (.xd (ns'.zip vs).reverse)) := Ext.new n1'
        have en := e1.ext0 xt
        refine h1 _ (some dx) σ _ SV1 (e1.trans en) .refl ?_
        rw [hER]
        exact ⟨c, ns', ds, dx, vs, rfl, by rw [hK], rfl, upd_same, hl, r.kp ds (xt.all _)⟩
    · have h1 : sK C W P σ SV H D (if ns'.length = ds.length ∧ ds.all frzD = true then .exc (.exc c ns' ds) ρ1 else .bad) := h1
      rw [if_neg hcc] at h1
      exact h1.elim
end
/-! ### try -/
section
variable {X : Cx} {pins : List (Addr × Obj)} {σ : L2.St} {H : Hp} {sI s' : Shared} {B : Heap}
/-- the caught error's object tracked -/
theorem landedT {a : Addr} {cls : Value} {d : Option Addr} (I : Inv X pins σ H sI) (nb : ∀ b o, sI.heap.get? b = some o → b ∉ frs X.stack → B.get? b = some o) (st : B.StaysIn s'.heap) (up : sI.heap.UpToSlots s'.heap) (os : s'.os = sI.os) (ag : AllBare s'.gens) (na : H a = none) (nB : B.get? a = none) (nf : a ∉ frs X.stack)
    (he : ∃ (oe : Obj) (vs : Array Value), s'.heap.get? a = some oe ∧ Zc cls d oe ∧ oe.data = .fields vs) : Inv X pins σ (upd H a (exT cls d a)) s' := by
  have nI : sI.heap.get? a = none := by
    cases e : sI.heap.get? a with
    | none => rfl
    | some o =>
      have := nb a o e nf
      rw [nB] at this
      cases this
  have ne : ∀ b o, sI.heap.get? b = some o → b ≠ a := fun b o e z => by rw [z, nI] at e; cases e
  have nfr : ∀ b ∈ frs X.stack, ∀ o, sI.heap.get? b = some o → ∃ sl, s'.heap.get? b = some { o with slots := sl } := fun b hb o e => by
    obtain ⟨_, o', e', hd⟩ := I.stack.mem hb
    rw [e] at e'; cases e'
    exact up b o e hd
  have hok : HOk X.prog X.w H s'.heap := (I.inGround nb).kept st
  have hok2 : HOk X.prog X.w (upd H a (exT cls d a)) s'.heap := by
    obtain ⟨oe, vs, e1, e2, e3⟩ := he
    exact hok.laidN (fun _ _ z => z) na ⟨⟨oe, vs, e1, e2, e3⟩, ⟨oe, e1⟩, fun h1 h2 ⟨o, v, q, r⟩ k => ⟨o, v, k o q, r⟩⟩
  have J := I.call (ch := []) (h' := s'.heap) (g' := s'.gens) (t' := s'.toks) (d' := s'.drawn) (H' := upd H a (exT cls d a))
    ⟨fun b o e _ hb _ => st b o (nb b o e hb), fun b o e _ hb _ => nfr b hb o e, fun b o e n _ => by rw [upd_ne (ne b o e)]; exact n, fun b o e _ => by
      by_cases hb : b ∈ frs X.stack
      · obtain ⟨sl, q⟩ := nfr b hb o e
        exact ⟨_, q⟩
      · exact ⟨o, st b o (nb b o e hb)⟩, fun b xs e => by rw [upd_ne (ne_of_none e na)]; exact e, fun b o u e => by rw [upd_ne (ne_of_none e na)]; exact e, fun b ps e => ⟨#[], by rw [upd_ne (ne_of_none e na), e]; simp⟩⟩
    hok2 ag (fun _ z => nomatch z)
  obtain ⟨a1, a2, a3, a4, a5⟩ := s'
  have e5 : a5 = sI.os := os
  subst e5
  exact J
theorem suiteT {a : Addr} (I : Inv X pins σ H s') : Inv (X.suite a (X.pn ++ pins)) [] σ H s' :=
  ⟨I.ok.suite _ _, I.os, I.bare, I.base, I.loc, I.cell, I.free, I.freeC, fun p hp => I.pin p (by rw [List.append_nil] at hp; exact hp), I.hok, I.len⟩
theorem unsuiteT {a : Addr} {pn' : List (Addr × Obj)} (I : Inv (X.suite a (X.pn ++ pins)) pn' σ H s') (ok : X.Ok) : Inv X pins σ H s' :=
  ⟨ok, I.os, I.bare, I.base, I.loc, I.cell, I.free, I.freeC, fun p hp => I.pin p (List.mem_append_left _ hp), I.hok, I.len⟩
end
/-- the clauses -/
def HOk (X : Cx) (C : Cfg) (P : List Nat) : Hs → List ExceptHandler → Prop
  | .nil, hs => hs = []
  | .cons c n h r, hs => ∃ np b₀ suite pos' nm rest, hs = .ExceptHandler (some (.Name c np)) nm (b₀ :: suite) pos' :: rest ∧ (∃ v u, ClsN X c v u) ∧ Gl X c ∧ (c == ("__debug__" : Str)) = false ∧
      (match n, nm with
        | none, none => True
        | some i, some x => X.N[i]? = some x ∧ X.env.kindOf x = some .local ∧ i ∉ P
        | _, _ => False) ∧ (∀ a pn, PSs (X.suite a pn) (b₀ :: suite) (tSs C WF P h)) ∧ HOk X C P r rest
section
variable {X : Cx} {C : Cfg} {W : WX} {P : List Nat} {pins : List (Addr × Obj)}
theorem hs_ok (hs0 : X.stack = X.env :: X.outer) (hf : X.env.frame = some X.env.locals) (hNd : X.N.Nodup) (tk : Takes X W) (hK : X.K = C.K) (hER : C.ER = erX C.K) (ok : X.Ok) {D : Ends} {B : Heap} {a : Addr} {sI s' : Shared} {σ' : L2.St} {H' : Hp} {cls : Value} {d : Option Addr} {h3 : Heap} {x : Ly.D} {ρ' : Ev} {SV' : List Addr}
    (J : Inv X pins σ' H' sI) (nb : ∀ b o, sI.heap.get? b = some o → b ∉ frs X.stack → B.get? b = some o) (up : sI.heap.UpToSlots h3) (na : H' a = none) (os : s'.os = sI.os) (ag : AllBare s'.gens) (fl3 : HandSPX.FlyingZ B (X.env :: X.outer) a (Zc cls d) h3)
    (hv : Vars C.K H' ρ' σ' SV') (nd : SV'.Nodup) (er : C.ER x cls d H') : ∀ (hs' : Hs) (hs : List ExceptHandler), HOk X C P hs' hs → sK C W P σ' SV' H' D (exH hs' x ρ') →
    wpAny (model X.prog X.w) X.A (handleBy (.ref a) X.env hs) (SP X pins D) X.xe { s' with heap := h3 }
  | .nil, hs, h, hk => by
    have h : hs = [] := h
    subst h
    refine wpAny_handleBy_nil ?_
    have hw : W cls d σ' H' := (show ∀ cls dd σ2 H2 SV2, EnvP C.K SV' H' σ2 ρ' H2 SV2 → Kept P σ' σ2 → C.ER x cls dd H2 → W cls dd σ2 H2 from hk) cls d σ' H' SV' (.refl hv nd) .refl er
    obtain ⟨k1, k2, k3, oe, vs, T, oT, ts', he, hz, hd, h1, hr⟩ := id fl3
    unfold PySem.passOn
    refine wpAny_bind (wpAny_field he hd h1 ?_)
    rw [if_neg (show ¬ ((Value.ref T == Value.none) = true) from by simp)]
    have fin : wpAny (model X.prog X.w) X.A (setFlight (.ref a) X.env.frame) (fun _ s4 => wpAny (model X.prog X.w) X.A (throw (.ref a) : Sem Flow) (SP X pins D) X.xe s4) X.xe { s' with heap := h3 } := by
      rw [hf]
      refine HandSPX.setFlight_upZ fl3 fun h4 hh4 up4 => wpAny_throw (tk _ _ ?_)
      exact ⟨a, B, sI, pins, σ', H', cls, d, rfl, J, nb, up.trans up4, .inr (.inr (by rw [hs0]; exact hh4)), na, os, ag, hw⟩
    first
      | exact wpAny_bind (wpAny_pure (wpAny_bind fin))
      | exact wpAny_bind fin
  | .cons c n h r, hs, hh, hk => by
    obtain ⟨np, b₀, suite, pos', nm, rest, rfl, ⟨v, u, hcl⟩, hg, hdbg, hn, hsu, hrest⟩ := hh
    have hk : sK C W P σ' SV' H' D (match clsX x c with
      | some true => (match exs h (bindH n x ρ') with
        | .ok f ρ2 => .ok f (unbH n ρ2)
        | _ => .bad)
      | some false => exH r x ρ'
      | none => .bad) := hk
    have er2 := er
    rw [hER] at er2
    obtain ⟨c', ns, fs, dd, vs, rfl, rfl, rfl, hxd, hlen, hreps⟩ := er2
    obtain ⟨oe3, vs3, he3, hz3, hd3⟩ := fl3.there
    have notFr : ∀ {h : Heap} {o : Obj} {vs : Array Value}, h.FunFrames B (X.env :: X.outer) → h.get? a = some o → o.data = .fields vs → a ∉ frs (X.env :: X.outer) := fun {h o vs} ff e dd hm => by
      obtain ⟨_, o', e', hnf⟩ := ff.mem hm
      rw [e] at e'; cases e'
      exact hnf _ dd
    have nfr := notFr fl3.2.2.1 he3 hd3
    have J3 : Inv X pins σ' H' { s' with heap := h3 } := J.landed nb fl3.1 up os ag
    have S3 : Inv (X.suite a (X.pn ++ pins)) [] σ' H' { s' with heap := h3 } := suiteT J3
    cases hcx : clsX (.exc c' ns fs) c with
    | none => rw [hcx] at hk; exact hk.elim
    | some b =>
      have hcx' : Fns.S c' c = some b := hcx
      obtain ⟨hex, _⟩ := hcl.2.2 c' b hcx'
      rw [hK] at hex
      refine wpAny_handleBy_cons (codeAny_handlers_test ?_) (by intro q; cases q)
      have LT : PySem.W.Looks (model X.prog X.w) h3 (typeOf (.ref a)) (.ref (He.ga C.K c')) := fun A Q E s k q => wpAny_typeOf_ref (k _ _ he3) (by rw [hz3.1]; exact q)
      have LM := PySem.W.exm_one (M := model X.prog X.w) (J3.kIn) LT (by rw [hK]; exact hex)
      have test : ∀ {Q : Value → Shared → Prop} {E : Value → Shared → Prop}, Q u { s' with heap := h3 } → wpAny (model X.prog X.w) (X.A.mark (some (.ref a))) (eval (.Name c np) X.env) Q E { s' with heap := h3 } := fun {Q E} q => by
        rcases hcl.2.1 with hm | ⟨hm, hv, hnn⟩
        · exact ld_glob (X := X.suite a (X.pn ++ pins)) S3 hg hm q hdbg
        · exact ld_blt (X := X.suite a (X.pn ++ pins)) S3 hg hm hv q hnn hdbg
      refine test (LM.here ?_)
      cases b with
      | false =>
        rw [hcx] at hk
        exact hs_ok hs0 hf hNd tk hK hER ok J nb up na os ag fl3 hv nd er r rest hrest hk
      | true =>
        rw [hcx] at hk
        have hk : sK C W P σ' SV' H' D (match exs h (bindH n (.exc c' ns fs) ρ') with
          | .ok f ρ2 => .ok f (unbH n ρ2)
          | _ => .bad) := hk
        have xt : Ext [] H' (upd H' a (exT (.ref (He.ga C.K c')) (some dd) a)) := Ext.new na
        have e0 : EnvP C.K SV' H' σ' ρ' (upd H' a (exT (.ref (He.ga C.K c')) (some dd) a)) SV' := (EnvP.refl hv nd).ext0 xt
        have repX : Rep C.K (upd H' a (exT (.ref (He.ga C.K c')) (some dd) a)) (.exc c' ns fs) (.ref a) [] := ⟨rfl, a, dd, vs, rfl, upd_same, xt _ _ hxd List.not_mem_nil, hlen, hreps.kp fs (xt.all _)⟩
        have land : ∀ h4, HandSPX.FlyingZ B (X.env :: X.outer) a (Zc (.ref (He.ga C.K c')) (some dd)) h4 → h3.UpToSlots h4 → Inv X pins σ' (upd H' a (exT (.ref (He.ga C.K c')) (some dd) a)) { s' with heap := h4 } := fun h4 fl4 up4 => by
          obtain ⟨oe4, vs4, he4, hz4, hd4⟩ := fl4.there
          exact landedT J nb fl4.1 (up.trans up4) os ag na fl4.2.1 (by rw [hs0]; exact nfr) ⟨oe4, vs4, he4, hz4, hd4⟩
        match n, nm, hn, hk with
        | none, none, _, hk =>
          refine codeAny_handlers_suite ?_
          refine HandSPX.lands_againZ fl3 fun h4 fl4 up4 => ?_
          have S4 := suiteT (a := a) (land h4 fl4 up4)
          refine wpAny_mono ((hsu a (X.pn ++ pins)).run [] _ _ _ D S4 ⟨ρ', SV', e0.vars, e0.nd, ?_⟩) (fun f s6 hsp => ?_) (fun _ _ z => False.elim z)
          · have hk : sK C W P σ' SV' H' D (match exs h ρ' with
              | .ok f ρ2 => .ok f ρ2
              | _ => .bad) := hk
            have hk := sK_re e0 .refl hk
            cases hx : exs h ρ' with
            | bad => rw [hx] at hk; exact hk
            | exc _ _ => rw [hx] at hk; exact hk.elim
            | ok f ρ2 => rw [hx] at hk; cases f <;> exact hk
          · cases f with
            | next => obtain ⟨σ6, H6, S6, q6⟩ := hsp; exact ⟨_, _, unsuiteT S6 ok, q6⟩
            | brk => obtain ⟨σ6, H6, S6, q6⟩ := hsp; exact ⟨_, _, unsuiteT S6 ok, q6⟩
            | cont => obtain ⟨σ6, H6, S6, q6⟩ := hsp; exact ⟨_, _, unsuiteT S6 ok, q6⟩
            | ret u => obtain ⟨v6, σ6, H6, S6, r6, q6⟩ := hsp; exact ⟨_, _, _, unsuiteT S6 ok, r6, q6⟩
        | some i, some y, hn, hk =>
          obtain ⟨hi, hln, hiP⟩ := hn
          refine codeAny_handlers_suite_as ?_
          refine HandSPX.lands_againZ fl3 fun h4 fl4 up4 => ?_
          have S4 := suiteT (a := a) (land h4 fl4 up4)
          refine store_ok (X := X.suite a (X.pn ++ pins)) (v := .ref a) S4 hNd hi (.inl hln) rfl (fun s5 S5 => ?_) (.inr hln)
          obtain ⟨SV2, e1, s2⟩ := envp_set i e0 repX (fun b hb => absurd hb List.not_mem_nil) (by rw [List.nil_append]; exact e0.nd)
          have unset : ∀ {ρ6 : Ev} {σ6 : L2.St} {H6 : Hp} {SV6 : List Addr}, EnvP C.K SV2 (upd H' a (exT (.ref (He.ga C.K c')) (some dd) a)) σ6 ρ6 H6 SV6 → ∃ SV7, EnvP C.K SV' H' (σ6.set i none) (ρ6.set i none) H6 SV7 ∧ ∀ b ∈ SV7, b ∈ SV6 := fun {ρ6 σ6 H6 SV6} e6 => by
            obtain ⟨SV7, v7, n7, s7⟩ := vars_out i none e6.vars e6.nd
            exact ⟨SV7, (e1.tr e6).tr (EnvP.sub v7 n7 s7), s7⟩
          have kept : ∀ {σ6 : L2.St}, Kept P (σ'.set i (some (.ref a))) σ6 → Kept P σ' (σ6.set i none) := fun k => (kept_set hiP).trans (k.trans (kept_set hiP))
          refine wpAny_mono ((hsu a (X.pn ++ pins)).run [] s5 _ _ { nx := fun σ6 H6 => D.nx (σ6.set i none) H6, rt := D.rt, bk := fun σ6 H6 => D.bk (σ6.set i none) H6, ct := fun σ6 H6 => D.ct (σ6.set i none) H6 } S5 ⟨ρ'.set i (some (.exc c' ns fs)), SV2, e1.vars, e1.nd, ?_⟩) (fun f s6 hsp => ?_) (fun _ _ z => False.elim z)
          · have hk : sK C W P σ' SV' H' D (match exs h (ρ'.set i (some (.exc c' ns fs))) with
              | .ok f ρ2 => .ok f (ρ2.set i none)
              | _ => .bad) := hk
            cases hx : exs h (ρ'.set i (some (.exc c' ns fs))) with
            | bad => rw [hx] at hk; exact hk
            | exc _ _ => rw [hx] at hk; exact hk.elim
            | ok f ρ2 =>
              rw [hx] at hk
              cases f with
              | nx => exact fun σ6 H6 SV6 e6 k6 => by obtain ⟨SV7, e7, _⟩ := unset e6; exact hk _ _ SV7 e7 (kept k6)
              | bk => exact fun σ6 H6 SV6 e6 k6 => by obtain ⟨SV7, e7, _⟩ := unset e6; exact hk _ _ SV7 e7 (kept k6)
              | ct => exact fun σ6 H6 SV6 e6 k6 => by obtain ⟨SV7, e7, _⟩ := unset e6; exact hk _ _ SV7 e7 (kept k6)
              | rt dv =>
                intro v6 σ6 H6 SV6 e6 k6 r6
                obtain ⟨SV7, e7, s7⟩ := unset e6
                refine hk v6 _ _ SV7 e7 (kept k6) ?_
                obtain ⟨T, t1, t2, t3⟩ := r6.re e1
                refine ⟨T, t1, t2, ?_⟩
                obtain ⟨u1, u2, u3⟩ := List.nodup_append.mp t3
                exact List.nodup_append.mpr ⟨u1, e7.nd, fun b hb b' hb' z => u3 b hb b' (s7 b' hb') z⟩
          · have end_ : ∀ {σ6 : L2.St} {H6 : Hp} {Q : Shared → Prop}, Inv (X.suite a (X.pn ++ pins)) [] σ6 H6 s6 → (∀ s7, Inv X pins (σ6.set i none) H6 s7 → Q s7) →
                wpAny (model X.prog X.w) X.A (do bindName X.env y .none; unbindBehindTheSuite X.env y pos') (fun _ s7 => Q s7) X.xe s6 := fun {σ6 H6 Q} S6 hq => gone_ok (unsuiteT S6 ok) hNd hi hln hq
            cases f with
            | next => obtain ⟨σ6, H6, S6, q6⟩ := hsp; exact end_ S6 fun s7 J7 => ⟨_, _, J7, q6⟩
            | brk => obtain ⟨σ6, H6, S6, q6⟩ := hsp; exact end_ S6 fun s7 J7 => ⟨_, _, J7, q6⟩
            | cont => obtain ⟨σ6, H6, S6, q6⟩ := hsp; exact end_ S6 fun s7 J7 => ⟨_, _, J7, q6⟩
            | ret u => obtain ⟨v6, σ6, H6, S6, r6, q6⟩ := hsp; exact end_ S6 fun s7 J7 => ⟨_, _, _, J7, r6, q6⟩
        | none, some _, hn, _ => exact hn.elim
        | some _, none, hn, _ => exact hn.elim
/-- try -/
theorem s_tri {body : List Stmt} {b' : Ss} {h₀ : ExceptHandler} {hs : List ExceptHandler} {hs' : Hs} {pos : Pos} (hs0 : X.stack = X.env :: X.outer) (hf : X.env.frame = some X.env.locals) (hNd : X.N.Nodup) (tk : Takes X W) (hK : X.K = C.K) (hER : C.ER = erX C.K)
    (hb : ∀ (W : WX) (pn : List (Addr × Obj)) (xe : Value → Shared → Prop), Takes (X.tr pn xe) W → PassesOwn (model X.prog X.w) X.A X.env xe → PSs (X.tr pn xe) body (tSs C W P b')) (hh : HOk X C P hs' (h₀ :: hs)) :
    PS X (.Try body (h₀ :: hs) [] [] pos) (tS C W P (.tri b' hs')) := by
  refine ⟨fun pins s σ H D I h => ?_⟩
  have ok := I.ok
  have hfr : X.A.frames = some (X.env :: X.outer) := by rw [ok.frames, hs0]
  obtain ⟨ρ, SV, hv, nd, h⟩ := h
  have h : sK C W P σ SV H D (match exs b' ρ with
    | .exc x ρ' => exH hs' x ρ'
    | r => r) := h
  refine wpAny_Try_except ?_
  refine wpAny_mono ((hb (fun cls dd σ1 H1 => ∃ x ρ1 SV1, Vars C.K H1 ρ1 σ1 SV1 ∧ SV1.Nodup ∧ C.ER x cls dd H1 ∧ sK C W P σ1 SV1 H1 D (exH hs' x ρ1)) (X.pn ++ pins) (fun e s₁ => wpAny (model X.prog X.w) X.A (noteFrame e X.env) (fun _ s₂ => wpAny (model X.prog X.w) X.A (setFlight e none) (fun _ s₃ =>
    wpAny (model X.prog X.w) X.A (handleBy e X.env (h₀ :: hs)) (SP X pins D) X.xe s₃) X.xe s₂) X.xe s₁) (fun u s' xx => ?_) PassesOwn.looking).run [] s σ H D (I.toTry _) ⟨ρ, SV, hv, nd, ?_⟩) (fun f s1 hsp => ?_) (fun e s1 he => he)
  · obtain ⟨a, B, sI, pins', σ', H', cls, d, rfl, J', nb, up, sky, na, os, ag, x, ρ1, SV1, v1, n1, er, hk⟩ := xx
    have J : Inv X pins σ' H' sI := J'.ofTry ok
    have sky' : Sky B (X.env :: X.outer) a (Zc cls d) X.env.locals s'.heap := by rw [← hs0]; exact sky
    show wpAny (model X.prog X.w) X.A (noteFrame (.ref a) X.env) _ _ _
    refine Sky.land Zc.steady hfr hf sky' fun h3 fl3 up3 => ?_
    exact hs_ok hs0 hf hNd tk hK hER ok J nb (up.trans up3) na os ag fl3 v1 n1 er hs' _ hh hk
  · cases hx : exs b' ρ with
    | bad => rw [hx] at h; exact h
    | exc x ρ' =>
      rw [hx] at h
      exact fun cls dd σ' H' SV' e k er => ⟨x, ρ', SV', e.vars, e.nd, er, sK_re e k h⟩
    | ok f ρ' => rw [hx] at h; cases f <;> exact h
  · cases f with
    | next =>
      obtain ⟨σ', H', J', q⟩ := hsp
      exact wpAny_execs_nil ⟨σ', H', J'.ofTry ok, q⟩
    | brk =>
      obtain ⟨σ', H', J', q⟩ := hsp
      exact ⟨σ', H', J'.ofTry ok, q⟩
    | cont =>
      obtain ⟨σ', H', J', q⟩ := hsp
      exact ⟨σ', H', J'.ofTry ok, q⟩
    | ret u =>
      obtain ⟨v, σ', H', J', r, q⟩ := hsp
      exact ⟨v, σ', H', J'.ofTry ok, r, q⟩
end
end Ly

namespace Ly
open PySem PySem.Spec L2
/-- what is known of the names of a block -/
structure Ct where
  N : List Str
  sc : Scope
  fa : Bool
  s0 : Scope
  fns : List (Str × List Bool)
  gls : List Str
  free : List Str
  kws : List (Str × List Str)
  /-- keywords in any order: the names as written, where the parameters stand among them -/
  kwp : List (Str × List Str × List Nat)
  /-- defs whose texts order things -/
  keys : List Str
  /-- not within an except suite -/
  calm : Bool
  /-- classes of errors that may be named, that may be raised -/
  cls : List Str
  rs : List Str
def visB (ct : Ct) (x : Str) : Bool := match ct.sc.names.lookup x with
  | some .local => true
  | some .cell => true
  | some .free => true
  | _ => false
def locB (ct : Ct) (x : Str) : Bool := match ct.sc.names.lookup x with
  | some .local => true
  | some .cell => ct.fa || (ct.s0.names.lookup x == some .cell)
  | _ => false
def lclB (ct : Ct) (x : Str) : Bool := match ct.sc.names.lookup x with
  | some .local => true
  | _ => false
def glB (ct : Ct) (x : Str) : Bool := match ct.sc.names.lookup x with
  | some .globalImplicit => true
  | _ => false
def okN (x : Str) : Bool := !(x == ("__debug__" : Str)) && !(x == ("__classdict__" : Str))
def nmB (ct : Ct) (i : Nat) (x : Str) : Bool := decide (ct.N[i]? = some x)
def vrB (ct : Ct) (i : Nat) (x : Str) : Bool := nmB ct i x && (visB ct x && okN x)
def frB (ct : Ct) (x : Str) : Bool := glB ct x && (ct.free.contains x && okN x)
def noStar : Expr → Bool
  | .Starred _ _ => false
  | _ => true
def noComp : Expr → Bool
  | .ListComp _ _ _ _ => false
  | .SetComp _ _ _ _ => false
  | .DictComp _ _ _ _ _ => false
  | _ => true
def noSet : Expr → Bool
  | .Set _ _ _ => false
  | _ => true
def noSlice : Expr → Bool
  | .Slice _ _ _ _ => false
  | _ => true
def noTup : Expr → Bool
  | .Tuple _ _ _ => false
  | _ => true
def binO : Operator → Option O2
  | .Add => some .add
  | .Sub => some .sub
  | .Mult => some .mul
  | .FloorDiv => some .fdiv
  | .Mod => some .mod
  | .Pow => some .pow
  | _ => none
def cmpO : CmpOp → Option O2
  | .Eq => some .eq
  | .NotEq => some .ne
  | .Lt => some .lt
  | .LtE => some .le
  | .Gt => some .gt
  | .GtE => some .ge
  | .Is => some .isN
  | .IsNot => some .notN
  | .In => some .isIn
  | .NotIn => some .notIn
def bt1 (o : O1) (x : Str) : Bool := match o with
  | .len => x == ("len" : Str)
  | .tuple => x == ("tuple" : Str)
  | .list => x == ("list" : Str)
  | .int => x == ("int" : Str)
  | .str => x == ("str" : Str)
  | .abs => x == ("abs" : Str)
  | .sum => x == ("sum" : Str)
  | .minL => x == ("min" : Str)
  | .maxL => x == ("max" : Str)
  | .srt => x == ("sorted" : Str)
  | _ => false
/-- a method's name -/
def mthN : Mth → Str := mthM
def noCall : Expr → Bool
  | .Call _ _ _ _ => false
  | _ => true
def isI (o : O1) (g h : Str) : Bool := match o with
  | .isT T => g == ("isinstance" : Str) && h == Str.ofString (tyN T)
  | _ => false
def bt2 (o : O2) (x : Str) : Bool := match o with
  | .min2 => x == ("min" : Str)
  | .max2 => x == ("max" : Str)
  | _ => false
def isNeg : O1 → Bool
  | .neg => true
  | _ => false
def isRevO : O1 → Bool
  | .rev => true
  | _ => false
def isOne : Const → Bool
  | .int i => decide (i = 1)
  | _ => false
/-- needs no calm -/
def calmO : O1 → Bool
  | .sum => false
  | .minL => false
  | .maxL => false
  | .srt => false
  | _ => true
def isNotO : O1 → Bool
  | .notO => true
  | _ => false
def cstB (d : D) (c : Const) : Bool := match d, c with
  | .int i, .int j => decide (i = j)
  | .str x, .str y => decide (x = y)
  | .bl a, .bool b => a == b
  | .non, .none => true
  | _, _ => false
def ownN (ct : Ct) (own : List Nat) : List (Str × Nat) := own.map fun i => (ct.N.getD i "", i)
def Ct.blk (ct : Ct) (scope : Scope) : Ct := { ct with sc := relS scope ct.sc, fa := false, s0 := scope }
/-- the names of keywords -/
def kwN : List Keyword → List Str
  | [] => []
  | k :: ks => k.arg.getD "" :: kwN ks
mutual
def chkTg : Tg → Ct → Expr → Bool
  | .nm i, ct, e => (match e with
    | .Name x _ => nmB ct i x && locB ct x
    | _ => false)
  | .tp ts, ct, e => (match e with
    | .Tuple es _ _ => ct.calm && chkTgs ts ct es
    | _ => false)
def chkTgs : Tgs → Ct → List Expr → Bool
  | .nil, _, es => (match es with
    | [] => true
    | _ => false)
  | .cons t ts, ct, es => (match es with
    | e :: r => noStar e && (chkTg t ct e && chkTgs ts ct r)
    | [] => false)
end
mutual
/-- t: as a test -/
def chkE : E → Bool → Ct → Expr → Bool
  | .var i, _, ct, e => (match e with
    | .Name x _ => vrB ct i x
    | _ => false)
  | .mv i, t, ct, e => (match e with
    | .Name x _ => !t && vrB ct i x
    | _ => false)
  | .mvo i, t, ct, e => (match e with
    | .Name x _ => !t && vrB ct i x
    | _ => false)
  | .cst d, t, ct, e => (match e with
    | .Constant c _ _ => !t && cstB d c
    | _ => false)
  | .glo k, t, ct, e => (match e with
    | .Name x _ => !t && (decide (ct.gls[k]? = some x) && (glB ct x && okN x))
    | _ => false)
  | .ck a, t, ct, e => !t && chkE a false ct e
  | .fz a, t, ct, e => !t && (own a && chkE a false ct e)
  | .o2 op a b, t, ct, e => (own a || quiet b) && (match e with
    | .BinOp l o r _ => !t && (decide (binO o = some op) && (chkE a false ct l && chkE b false ct r))
    | .Compare l os rs _ => (match os, rs with
      | [o], [r] => decide (cmpO o = some op) && (!(behindInMarks o r) && (chkE a false ct l && chkE b false ct r))
      | _, _ => false)
    | .Subscript l r _ => decide (op = .idx) && (noSlice r && (chkE a false ct l && chkE b false ct r))
    | .Call f as ks _ => (match f, as, ks with
      | .Name x _, [l, r], [] => (bt2 op x && ct.calm) && (frB ct x && (noStar l && (noStar r && (!t && (chkE a false ct l && chkE b false ct r)))))
      | _, _, _ => false)
    | _ => false)
  | .o1 op a, t, ct, e => (match e with
    | .UnaryOp u x _ => (match u with
      | .USub => !t && (isNeg op && chkE a false ct x)
      | .Not => isNotO op && chkE a t ct x
      | _ => false)
    | .Call f as ks _ => (match f, as, ks with
      | .Name g _, [x], [] => (bt1 op g && (calmO op || ct.calm)) && (frB ct g && (noStar x && chkE a false ct x))
      | .Name g _, [x, y], [] => (match y with
        | .Name h _ => isI op g h && (frB ct g && (frB ct h && (noStar x && chkE a false ct x)))
        | _ => false)
      | _, _, _ => false)
    | .Subscript x sl _ => (match sl with
      | .Slice l h st _ => (match l, h, st with
        | none, none, some u => (match u with
          | .UnaryOp o c _ => (match o with
            | .USub => (match c with
              | .Constant k _ _ => !t && (isRevO op && (isOne k && chkE a false ct x))
              | _ => false)
            | _ => false)
          | _ => false)
        | _, _, _ => false)
      | _ => false)
    | _ => false)
  | .and a b, t, ct, e => (match e with
    | .BoolOp o vs p => (match o, vs with
      | .And, x :: y :: rest => chkE a t ct x && (match rest with
        | [] => chkE b t ct y
        | _ => chkE b t ct (.BoolOp .And (y :: rest) p))
      | _, _ => false)
    | _ => false)
  | .or a b, t, ct, e => (match e with
    | .BoolOp o vs p => (match o, vs with
      | .Or, x :: y :: rest => chkE a t ct x && (match rest with
        | [] => chkE b t ct y
        | _ => chkE b t ct (.BoolOp .Or (y :: rest) p))
      | _, _ => false)
    | _ => false)
  | .ite c a b, t, ct, e => (match e with
    | .IfExp x y z _ => !t && (chkE c true ct x && (chkE a false ct y && chkE b false ct z))
    | _ => false)
  | .tup es, t, ct, e => (match e with
    | .Tuple xs _ _ => !t && (plainEs es && chkEs es ct xs)
    | _ => false)
  | .lst es, t, ct, e => (match e with
    | .List xs _ => !t && (plainEs es && chkEs es ct xs)
    | _ => false)
  | .slc a lo hi, t, ct, e => (own a || (quiets lo && quiets hi)) && (match e with
    | .Subscript x sl _ => (match sl with
      | .Slice l h st _ => (match st with
        | none => chkE a false ct x && (chkO lo ct l && chkO hi ct h)
        | some _ => false)
      | _ => false)
    | _ => false)
  | .call slots k es, t, ct, e => (match e with
    | .Call f as ks _ => (match f, as, ks with
      | .Name x _, y :: ys, [] => decide (ct.fns[k]? = some (x, slots.map (·.isSome))) && (align slots es && (decide ((ios slots).Nodup) && (glB ct x && (okN x && chkEs es ct (y :: ys)))))
      | .Name x _, [], kw :: kws => decide (ct.fns[k]? = some (x, slots.map (·.isSome))) && (align slots es && (decide ((ios slots).Nodup) && (glB ct x && (okN x && (match ct.kws.lookup x with
        | some ps => chkKs es ct ps (kw :: kws)
        | none => false)))))
      | _, _, _ => false)
    | _ => false)
  | .pop i, t, ct, e => (match e with
    | .Call f as ks cpos => (match f, as, ks with
      | .Attribute (.Name x _) m apos, [], [] => !t && (m == ("pop" : Str) && (apos.endLine == cpos.line && vrB ct i x))
      | _, _, _ => false)
    | _ => false)
  | .popAt i a, t, ct, e => (match e with
    | .Call f as ks cpos => (match f, as, ks with
      | .Attribute (.Name x _) m apos, [y], [] => !t && (m == ("pop" : Str) && (apos.endLine == cpos.line && (vrB ct i x && (noStar y && (own a && chkE a false ct y)))))
      | _, _, _ => false)
    | _ => false)
  | .lrg (.cons a' .nil), t, ct, e => (match e with
    | .Call f as ks _ => (match f, as, ks with
      | .Name z _, [.Call g bs ks2 _], [] => (match g, bs, ks2 with
        | .Name x _, [a], [] => (!t && ct.calm) && (z == ("list" : Str) && (frB ct z && (x == ("range" : Str) && (frB ct x && (noStar a && chkE a' false ct a)))))
        | _, _, _ => false)
      | _, _, _ => false)
    | _ => false)
  | .lrg (.cons a' (.cons b' .nil)), t, ct, e => (match e with
    | .Call f as ks _ => (match f, as, ks with
      | .Name z _, [.Call g bs ks2 _], [] => (match g, bs, ks2 with
        | .Name x _, [a, b], [] => (!t && ct.calm) && (z == ("list" : Str) && (frB ct z && (x == ("range" : Str) && (frB ct x && (noStar a && (noStar b && ((own a' || quiet b') && (chkE a' false ct a && chkE b' false ct b))))))))
        | _, _, _ => false)
      | _, _, _ => false)
    | _ => false)
  | .lrg _, _, _, _ => false
  | .trg (.cons a' .nil), t, ct, e => (match e with
    | .Call f as ks _ => (match f, as, ks with
      | .Name z _, [.Call g bs ks2 _], [] => (match g, bs, ks2 with
        | .Name x _, [a], [] => (!t && ct.calm) && (z == ("tuple" : Str) && (frB ct z && (x == ("range" : Str) && (frB ct x && (noStar a && chkE a' false ct a)))))
        | _, _, _ => false)
      | _, _, _ => false)
    | _ => false)
  | .trg _, _, _, _ => false
  | .me m a (.cons b .nil), t, ct, e => (own a || quiet b) && (match e with
    | .Call f as ks cpos => (match f, as, ks with
      | .Attribute o nm apos, [y], [] => !t && ((decide (m = .index) || one m) && (nm == mthN m && (apos.endLine == cpos.line && (noCall o && (noStar y && (own b && (chkE a false ct o && chkE b false ct y)))))))
      | _, _, _ => false)
    | _ => false)
  | .me m a .nil, t, ct, e => (match e with
    | .Call f as ks cpos => (match f, as, ks with
      | .Attribute o nm apos, [], [] => !t && (zero m && (nm == mthM m && (apos.endLine == cpos.line && (noCall o && chkE a false ct o))))
      | _, _, _ => false)
    | _ => false)
  | .me _ _ _, _, _, _ => false
  | .ixL i b, t, ct, e => (match e with
    | .Subscript l r _ => (match l with
      | .Name x _ => vrB ct i x && (noSlice r && chkE b false ct r)
      | _ => false)
    | _ => false)
  | .popP i p a, t, ct, e => (own a && (quiet p && quiet a)) && (match e with
    | .Call f as ks cpos => (match f, as, ks with
      | .Attribute (.Subscript (.Name x _) pe _) m apos, [y], [] => !t && (m == ("pop" : Str) && (apos.endLine == cpos.line && (vrB ct i x && (noSlice pe && (noStar y && (chkE p false ct pe && chkE a false ct y))))))
      | _, _, _ => false)
    | _ => false)
  | .callK k perm es, t, ct, e => (match e with
    | .Call f as ks _ => (match f, as, ks with
      | .Name x _, [], kw :: kws => (match ct.fns[k]? with
        | some (y, io) => decide (y = x) && (io.all (!·) && (decide (io.length = perm.length) && (plainEs es && (decide ((x, kwN (kw :: kws), perm) ∈ ct.kwp) && (glB ct x && (okN x && chkKs es ct (kwN (kw :: kws)) (kw :: kws)))))))
        | none => false)
      | _, _, _ => false)
    | _ => false)
  | .get a k d, t, ct, e => (quiet k && quiet d) && (match e with
    | .Call f as ks cpos => (match f, as, ks with
      | .Attribute o nm apos, [y, z], [] => !t && (nm == ("get" : Str) && (apos.endLine == cpos.line && (noCall o && (noStar y && (noStar z && (chkE a false ct o && (chkE k false ct y && chkE d false ct z)))))))
      | _, _, _ => false)
    | _ => false)
  | .srtK k a, t, ct, e => (match e with
    | .Call f as ks _ => (match f, as, ks with
      | .Name g _, [x], [kw] => (match kw with
        | ⟨some n, v, _⟩ => (match v with
          | .Name y _ => !t && (g == ("sorted" : Str) && (n == ("key" : Str) && (frB ct g && (noStar x && (decide (ct.fns[k]? = some (y, [false])) && (ct.keys.contains y && (glB ct y && (okN y && chkE a false ct x))))))))
          | _ => false)
        | _ => false)
      | _, _, _ => false)
    | _ => false)
  | .fld a f, t, ct, e => (match e with
    | .Attribute o nm _ => !t && (decide (nm = f) && (noCall o && chkE a false ct o))
    | _ => false)
  | .isX a Ts, t, ct, e => (match e with
    | .Call g as ks _ => (match g, as, ks with
      | .Name x _, [o, y], [] => (x == ("isinstance" : Str)) && (frB ct x && (noStar o && (Ts.all (fun T => ct.cls.contains T && (glB ct T && okN T)) && (decide (Ts.length ≤ 1000) && (chkE a false ct o && (match y with
        | .Name T _ => (match Ts with
          | [T'] => decide (T = T')
          | _ => false)
        | .Tuple es _ _ => clsEs Ts es
        | _ => false))))))
      | _, _, _ => false)
    | _ => false)
  | .cmp2 p1 p2 a b c, t, ct, e => (quiet b && quiet c) && (match e with
    | .Compare l os rs _ => (match os, rs with
      | [o1, o2], [m, r] => !t && (decide (cmpO o1 = some p1) && (decide (cmpO o2 = some p2) && (!(lastMarks [o1, o2] [m, r]) && (chkE a false ct l && (chkE b false ct m && chkE c false ct r)))))
      | _, _ => false)
    | _ => false)
  | .lc ow tg it c elt, t, ct, e => (match e with
    | .ListComp x gs scope _ => (match gs with
      | [⟨tg', iter, ifs, 0⟩] => (!t && ct.calm) && (own elt && ((tns tg).all (ow.contains ·) && (chkIt it ct tg' iter && (blkC ct.N ct.sc scope (ownN ct ow) && (chkTg tg (ct.blk scope) tg' && (chkC c (ct.blk scope) ifs && chkE elt false (ct.blk scope) x))))))
      | _ => false)
    | _ => false)
  | .dnil, t, _, e => (match e with
    | .Dict ks vs _ => (match ks, vs with
      | [], [] => !t
      | _, _ => false)
    | _ => false)
  | .dc ow tg it c k v, t, ct, e => (match e with
    | .DictComp kx x gs scope _ => (match gs with
      | [⟨tg', iter, ifs, 0⟩] => (!t && ct.calm) && (own v && ((tns tg).all (ow.contains ·) && (chkIt it ct tg' iter && (blkC ct.N ct.sc scope (ownN ct ow) && (chkTg tg (ct.blk scope) tg' && (chkC c (ct.blk scope) ifs && (chkE k false (ct.blk scope) kx && chkE v false (ct.blk scope) x)))))))
      | _ => false)
    | _ => false)
def chkEs : Es → Ct → List Expr → Bool
  | .nil, _, es => (match es with
    | [] => true
    | _ => false)
  | .cons e' es', ct, es => (match es with
    | e :: r => noStar e && (own e' && (chkE e' false ct e && chkEs es' ct r))
    | [] => false)
  | .io i es', ct, es => (match es with
    | e :: r => (match e with
      | .Name x _ => vrB ct i x && chkEs es' ct r
      | _ => false)
    | [] => false)
/-- keywords in the parameters' order -/
def chkKs : Es → Ct → List Str → List Keyword → Bool
  | .nil, _, ps, ks => (match ps, ks with
    | [], [] => true
    | _, _ => false)
  | .cons a r, ct, ps, ks => (match ps, ks with
    | n :: ps, kw :: ks => kw.arg == some n && (own a && (chkE a false ct kw.value && chkKs r ct ps ks))
    | _, _ => false)
  | .io _ _, _, _, _ => false
/-- a part of a slice -/
def chkO : Es → Ct → Option Expr → Bool
  | .nil, _, o => (match o with
    | none => true
    | some _ => false)
  | .cons a .nil, ct, o => (match o with
    | some e => chkE a false ct e
    | none => false)
  | .cons _ (.cons _ _), _, _ => false
  | .cons _ (.io _ _), _, _ => false
  | .io _ _, _, _ => false
def chkC : Es → Ct → List Expr → Bool
  | .nil, _, es => (match es with
    | [] => true
    | _ => false)
  | .cons e' es', ct, es => (match es, es' with
    | [e], .nil => chkE e' true ct e
    | _, _ => false)
  | .io _ _, _, _ => false
def chkIt : It → Ct → Expr → Expr → Bool
  | .seq e', ct, _, it => noSet it && chkE e' false ct it
  | .rng (.cons a' .nil), ct, _, it => (match it with
    | .Call f as ks _ => (match f, as, ks with
      | .Name x _, [a], [] => x == ("range" : Str) && (frB ct x && (noStar a && (own a' && chkE a' false ct a)))
      | _, _, _ => false)
    | _ => false)
  | .rng (.cons a' (.cons b' .nil)), ct, _, it => (match it with
    | .Call f as ks _ => (match f, as, ks with
      | .Name x _, [a, b], [] => x == ("range" : Str) && (frB ct x && (noStar a && (noStar b && (own a' && (own b' && (chkE a' false ct a && chkE b' false ct b))))))
      | _, _, _ => false)
    | _ => false)
  | .rng _, _, _, _ => false
  | .enum e', ct, tg, it => (match tg with
    | .Tuple _ _ _ => (match it with
      | .Call f as ks _ => (match f, as, ks with
        | .Name x _, [a], [] => x == ("enumerate" : Str) && (frB ct x && (noStar a && (own e' && chkE e' false ct a)))
        | _, _, _ => false)
      | _ => false)
    | _ => false)
  | .revd e', ct, tg, it => (match it with
    | .Call f as ks _ => (match f, as, ks with
      | .Name x _, [a], [] => x == ("reversed" : Str) && (frB ct x && (noStar a && chkE e' false ct a))
      | _, _, _ => false)
    | _ => false)
  | .zip a' b', ct, tg, it => (match tg with
    | .Tuple _ _ _ => (match it with
      | .Call f as ks _ => (match f, as, ks with
        | .Name x _, [a, b], [] => x == ("zip" : Str) && (frB ct x && (noStar a && (noStar b && (own a' && (own b' && (chkE a' false ct a && chkE b' false ct b))))))
        | _, _, _ => false)
      | _ => false)
    | _ => false)
end
end Ly

namespace Ly
open PySem PySem.Spec L2
variable [Fns]
structure Good (X : Cx) (C : Cfg) (W : WX) (ct : Ct) : Prop where
  N : X.N = ct.N
  nd : ct.N.Nodup
  sc : X.env.scope = ct.sc
  kind : ct.sc.kind = .function
  fn : ∀ x, (ct.fa || (ct.s0.names.lookup x == some .cell)) = true → X.fn x = true
  K : X.K = C.K
  calm : ct.calm = true → X.calm = true
  stk : ct.fa = true → X.stack = X.env :: X.outer ∧ X.env.frame = some X.env.locals
  er : C.ER = erX C.K
  xr : ∀ c ns, Fns.N c = some ns → XR X.K c ns
  xc : ∀ T, ct.cls.contains T = true → ∃ v u, ClsN X T v u
  xm : ct.calm = true → ∀ c, ct.rs.contains c = true → ∃ ns, Fns.N c = some ns ∧ XM X.prog X.w X.K X.mg X.base c ns ∧ Room 2 X.A
  un : X.A.units + 70 < cLine
  tk : Takes X W
  fns : ∀ k x io, ct.fns[k]? = some (x, io) → ∃ r, FnG C X r x io (Fns.F k) ∧ Room r X.A
  gls : ∀ (k : Nat) x, ct.gls[k]? = some x → ∃ v u, X.mg x = some u ∧ RelV v u ∧ ∀ H, Rep C.K H (Fns.G k) v []
  free : ∀ x, ct.free.contains x = true → X.mg x = none
  key : ∀ k x, ct.fns[k]? = some (x, [false]) → ct.keys.contains x = true → FnKey C X x (Fns.F k)
  kwp : ∀ k x io ks perm, ct.fns[k]? = some (x, io) → (x, ks, perm) ∈ ct.kwp → ∃ r, FnGP C X r x io ks perm (Fns.F k) ∧ Room r X.A
  kw : ∀ k x io ps, ct.fns[k]? = some (x, io) → ct.kws.lookup x = some ps → ∃ r, FnGK C X r x io ps (Fns.F k) ∧ Room r X.A
section
variable {X : Cx} {C : Cfg} {W : WX} {ct : Ct} {pos : Pos}
theorem and2 {a b : Bool} (h : (a && b) = true) : a = true ∧ b = true := Bool.and_eq_true_iff.mp h
theorem Good.vis (G : Good X C W ct) {x : Str} (h : visB ct x = true) : Vis X.env.scope x := by
  rw [G.sc]
  unfold visB at h
  unfold Vis
  split at h
  · exact .inl ‹_›
  · exact .inr (.inl ‹_›)
  · exact .inr (.inr ‹_›)
  · cases h
theorem Good.loc (G : Good X C W ct) {x : Str} (h : locB ct x = true) : L2.Loc X.env.scope x ∧ (X.fn x = true ∨ X.env.scope.names.lookup x = some .local) := by
  rw [G.sc]
  unfold locB at h
  unfold L2.Loc
  split at h
  · exact ⟨.inl ‹_›, .inr ‹_›⟩
  · exact ⟨.inr ‹_›, .inl (G.fn x h)⟩
  · cases h
theorem Good.gl (G : Good X C W ct) {x : Str} (h : glB ct x = true) : Gl X x := by
  unfold Gl
  show X.env.scope.names.lookup x = _
  rw [G.sc]
  unfold glB at h
  split at h
  · assumption
  · cases h
theorem okN_d {x : Str} (h : okN x = true) : (x == ("__debug__" : Str)) = false := by
  have := (and2 h).1
  simpa using this
theorem okN_c {x : Str} (h : okN x = true) : (x == ("__classdict__" : Str)) = false := by
  have := (and2 h).2
  simpa using this
theorem Good.nm (G : Good X C W ct) {i : Nat} {x : Str} (h : nmB ct i x = true) : X.N[i]? = some x := by
  rw [G.N]
  exact of_decide_eq_true h
theorem Good.vr (G : Good X C W ct) {i : Nat} {x : Str} (h : vrB ct i x = true) : X.N[i]? = some x ∧ Vis X.env.scope x ∧ (x == ("__debug__" : Str)) = false ∧ (x == ("__classdict__" : Str)) = false := by
  obtain ⟨h1, h⟩ := and2 h
  obtain ⟨h2, h3⟩ := and2 h
  exact ⟨G.nm h1, G.vis h2, okN_d h3, okN_c h3⟩
theorem Good.fr (G : Good X C W ct) {x : Str} (h : frB ct x = true) : Gl X x ∧ X.mg x = none ∧ (x == ("__debug__" : Str)) = false := by
  obtain ⟨h1, h⟩ := and2 h
  obtain ⟨h2, h3⟩ := and2 h
  exact ⟨G.gl h1, G.free x h2, okN_d h3⟩
theorem star_cons {e : Expr} {es : List Expr} {env : Env} (h : noStar e = true) : starEach (e :: es) env = (false, eval e env) :: starEach es env := by
  cases e <;> first | rfl | cases h
theorem star_one {e : Expr} {env : Env} (h : noStar e = true) : starEach [e] env = [(false, eval e env)] := star_cons h
def noStars (es : List Expr) : Bool := es.all noStar
theorem star_any {es : List Expr} {env : Env} (h : noStars es = true) : (backTo pos (starEach es env)).any (·.1) = false := by
  induction es with
  | nil => rfl
  | cons e es ih =>
    have h : (noStar e && es.all noStar) = true := h
    obtain ⟨h1, h2⟩ := and2 h
    rw [star_cons h1]
    show (false || (backTo pos (starEach es env)).any (·.1)) = false
    rw [Bool.false_or]
    exact ih h2
theorem star_all {es : List Expr} {env : Env} (h : noStars es = true) : (backTo pos (starEach es env)).all (fun x => !x.1) = true := by
  induction es with
  | nil => rfl
  | cons e es ih =>
    have h : (noStar e && es.all noStar) = true := h
    obtain ⟨h1, h2⟩ := and2 h
    rw [star_cons h1]
    show (true && (backTo pos (starEach es env)).all (fun x => !x.1)) = true
    rw [Bool.true_and]
    exact ih h2
theorem asg_cons {e : Expr} {es : List Expr} {env : Env} (h : noStar e = true) : assignEach (e :: es) env = (false, assign e env) :: assignEach es env := by
  cases e <;> first | rfl | cases h
theorem folded_no {e : Expr} {env : Env} (h : noSet e = true) : ∀ x, foldedSetIterable e env x = pure x := by
  intro x
  cases e <;> first | rfl | cases h
theorem Good.op2 (G : Good X C W ct) {o : Operator} {op : O2} (h : binO o = some op) : OpR X (binaryOp o) (rD X.K op.sem) := by
  cases o <;> first
    | cases h; exact od_add
    | cases h; exact od_sub
    | cases h; exact od_mul
    | cases h; exact od_fdiv
    | cases h; exact od_mod
    | cases h; exact od_pow
    | cases h
theorem Good.cmp (G : Good X C W ct) {o : CmpOp} {op : O2} (h : cmpO o = some op) : OpR X (compareOp o) (rD X.K op.sem) := by
  have := G.un
  cases o <;> first
    | cases h; exact od_lt
    | cases h; exact od_le
    | cases h; exact od_gt
    | cases h; exact od_ge
    | cases h; exact od_isN
    | cases h; exact od_notN
    | cases h; exact od_eq (by omega)
    | cases h; exact od_ne (by omega)
    | cases h; exact od_in (by omega)
    | cases h; exact od_notIn (by omega)
theorem cmp_own {o : CmpOp} {op : O2} {a b : E} (h : cmpO o = some op) : own (.o2 op a b) = true ∧ isCmp op = true := by
  cases o <;> cases h <;> exact ⟨rfl, rfl⟩
theorem bin_own {o : Operator} {op : O2} {a b : E} (h : binO o = some op) : own (.o2 op a b) = true := by
  cases o <;> cases h <;> rfl
theorem plain_ix {b : Expr} (h : noSlice b = true) : PlainIx b := by
  intro o i
  cases b <;> first | rfl | cases h
theorem bt1_cases {o : O1} {g : Str} (h : bt1 o g = true) : (o = .len ∧ g = "len") ∨ (o = .tuple ∧ g = "tuple") ∨ (o = .list ∧ g = "list") ∨ (o = .int ∧ g = "int") ∨ (o = .str ∧ g = "str") ∨ (o = .abs ∧ g = "abs") ∨ (o = .sum ∧ g = "sum") ∨ (o = .minL ∧ g = "min") ∨ (o = .maxL ∧ g = "max") ∨ (o = .srt ∧ g = "sorted") := by
  cases o <;> first
    | (cases h)
    | (have h := eq_of_beq h; subst h; simp)
theorem boot_len : bootBuiltins "len" = some (.builtin "len") := by decide +kernel
theorem boot_tuple : bootBuiltins "tuple" = some (.type "tuple") := by decide +kernel
theorem boot_list : bootBuiltins "list" = some (.type "list") := by decide +kernel
theorem boot_int : bootBuiltins "int" = some (.type "int") := by decide +kernel
theorem boot_str : bootBuiltins "str" = some (.type "str") := by decide +kernel
theorem boot_abs : bootBuiltins "abs" = some (.builtin "abs") := by decide +kernel
theorem boot_sum : bootBuiltins "sum" = some (.builtin "sum") := by decide +kernel
theorem boot_min : bootBuiltins "min" = some (.builtin "min") := by decide +kernel
theorem boot_max : bootBuiltins "max" = some (.builtin "max") := by decide +kernel
theorem boot_sorted : bootBuiltins "sorted" = some (.builtin "sorted") := by decide +kernel
theorem boot_range0 : bootBuiltins "range" = some (.type "range") := by decide +kernel
theorem se_bt1 (G : Good X C W ct) {o : O1} {g : Str} {p : Pos} {a : Expr} {a' : E} (h : bt1 o g = true) (hcl : (calmO o || ct.calm) = true) (hf : frB ct g = true) (hs : noStar a = true) (ha : PE X a (tD C W a')) : PE X (.Call (.Name g p) [a] [] pos) (tD C W (.o1 o a')) := by
  obtain ⟨f1, f2, f3⟩ := G.fr hf
  rcases bt1_cases h with ⟨rfl, rfl⟩ | ⟨rfl, rfl⟩ | ⟨rfl, rfl⟩ | ⟨rfl, rfl⟩ | ⟨rfl, rfl⟩ | ⟨rfl, rfl⟩ | ⟨rfl, rfl⟩ | ⟨rfl, rfl⟩ | ⟨rfl, rfl⟩ | ⟨rfl, rfl⟩
  · exact se_cb G.K cd_len f1 f2 boot_len ha (by decide +kernel) f3 (star_cons hs)
  · exact se_ct G.K cd_tuple f1 f2 boot_tuple ha (by decide +kernel) f3 (star_cons hs)
  · exact se_ct G.K cd_list f1 f2 boot_list ha (by decide +kernel) f3 (star_cons hs)
  · exact se_ct G.K cd_int f1 f2 boot_int ha (by decide +kernel) f3 (star_cons hs)
  · exact se_ct G.K cd_str f1 f2 boot_str ha (by decide +kernel) f3 (star_cons hs)
  · exact se_cb G.K cd_abs f1 f2 boot_abs ha (by decide +kernel) f3 (star_cons hs)
  · exact se_cb G.K (cd_sum (G.calm hcl)) f1 f2 boot_sum ha (by decide +kernel) f3 (star_cons hs)
  · exact se_cb G.K (cd_min (G.calm hcl)) f1 f2 boot_min ha (by decide +kernel) f3 (star_cons hs)
  · exact se_cb G.K (cd_max (G.calm hcl)) f1 f2 boot_max ha (by decide +kernel) f3 (star_cons hs)
  · exact se_cb G.K (cd_sorted (G.calm hcl) (by have := G.un; omega)) f1 f2 boot_sorted ha (by decide +kernel) f3 (star_cons hs)
def eLen : Es → Nat
  | .nil => 0
  | .cons _ r => eLen r + 1
  | .io _ r => eLen r + 1
theorem evs_len : ∀ (es : Es) {ρ ρ' : Ev} {ds : List D}, evs es ρ = .ok ds ρ' → ds.length = eLen es
  | .nil, ρ, ρ', ds, h => by cases h; rfl
  | .cons e r, ρ, ρ', ds, h => by
    have h : ((ev e ρ).bind fun d ρ => (evs r ρ).bind fun ds ρ => .ok (d :: ds) ρ) = .ok ds ρ' := h
    cases h1 : ev e ρ with
    | bad => rw [h1] at h; cases h
    | exc x ρ1 => rw [h1] at h; cases h
    | ok d ρ1 =>
      rw [h1] at h
      have h : ((evs r ρ1).bind fun ds ρ => Out.ok (d :: ds) ρ) = .ok ds ρ' := h
      cases h2 : evs r ρ1 with
      | bad => rw [h2] at h; cases h
      | exc x ρ2 => rw [h2] at h; cases h
      | ok l ρ2 =>
        rw [h2] at h
        cases h
        exact congrArg (· + 1) (evs_len r h2)
  | .io i r, ρ, ρ', ds, h => by
    have h : (match getV ρ i with | some _ => (evs r ρ).bind fun ds ρ => Out.ok (D.non :: ds) ρ | none => .bad) = .ok ds ρ' := h
    cases hg : getV ρ i with
    | none => rw [hg] at h; cases h
    | some d =>
      rw [hg] at h
      have h : ((evs r ρ).bind fun ds ρ => Out.ok (D.non :: ds) ρ) = .ok ds ρ' := h
      cases h2 : evs r ρ with
      | bad => rw [h2] at h; cases h
      | exc x ρ2 => rw [h2] at h; cases h
      | ok l ρ2 =>
        rw [h2] at h
        cases h
        exact congrArg (· + 1) (evs_len r h2)
theorem kwN_len : ∀ ks : List Keyword, (kwN ks).length = ks.length
  | [] => rfl
  | _ :: ks => congrArg (· + 1) (kwN_len ks)
theorem chkKs_len : ∀ (es : Es) {ct : Ct} {ps : List Str} {ks : List Keyword}, chkKs es ct ps ks = true → eLen es = ps.length
  | .nil, ct, ps, ks, h => by
    unfold chkKs at h
    match ps, ks, h with
    | [], [], _ => rfl
  | .cons a r, ct, ps, ks, h => by
    unfold chkKs at h
    match ps, ks, h with
    | n :: ps, kw :: ks, h =>
      obtain ⟨_, h⟩ := and2 h
      obtain ⟨_, h⟩ := and2 h
      obtain ⟨_, h⟩ := and2 h
      exact congrArg (· + 1) (chkKs_len r h)
  | .io _ _, ct, ps, ks, h => by unfold chkKs at h; cases h
theorem cmp_bl2 {o : CmpOp} {op : O2} (h : cmpO o = some op) : ∀ d e z, op.sem d e = some z → ∃ b, z = .bl b := fun d e z hz => cmp_bl (cmp_own (a := .dnil) (b := .dnil) h).2 hz
theorem base_any {o : Expr} {nm : Str} {env : Env} {w : Sem Value} (h : noCall o = true) : attributeBase o nm env w = w := by
  cases o <;> first | rfl | cases h
theorem se_bt2 (G : Good X C W ct) {o : O2} {g : Str} {p : Pos} {a b : Expr} {a' b' : E} (h : bt2 o g = true) (hcl : ct.calm = true) (hf : frB ct g = true) (hs : noStar a = true) (hs2 : noStar b = true) (hq : (own a' || quiet b') = true) (ha : PE X a (tD C W a')) (hb : PE X b (tD C W b')) : PE X (.Call (.Name g p) [a, b] [] pos) (tD C W (.o2 o a' b')) := by
  obtain ⟨f1, f2, f3⟩ := G.fr hf
  have hb2 : noStars [b] = true := by
    show (noStar b && true) = true
    rw [hs2]
    rfl
  have hc : (o = .min2 ∧ g = "min") ∨ (o = .max2 ∧ g = "max") := by
    cases o <;> first
      | (cases h)
      | (have h := eq_of_beq h; subst h; simp)
  rcases hc with ⟨rfl, rfl⟩ | ⟨rfl, rfl⟩
  · exact se_cb2 G.K (cd_min2 (G.calm hcl)) f1 f2 boot_min ha hb rfl hq (by decide +kernel) f3 (star_cons hs) (star_cons hs2) (star_any hb2)
  · exact se_cb2 G.K (cd_max2 (G.calm hcl)) f1 f2 boot_max ha hb rfl hq (by decide +kernel) f3 (star_cons hs) (star_cons hs2) (star_any hb2)
theorem boot_isi : bootBuiltins "isinstance" = some (.builtin "isinstance") := by decide +kernel
theorem boot_ty (T : Ty) : bootBuiltins (Str.ofString (tyN T)) = some (.type (tyN T)) ∧ Str.ofString (tyN T) ≠ "__name__" := by
  cases T <;> exact ⟨by decide +kernel, by decide +kernel⟩
theorem se_isI (G : Good X C W ct) {o : O1} {g h : Str} {p q : Pos} {a : Expr} {a' : E} (hi : isI o g h = true) (hf : frB ct g = true) (hf2 : frB ct h = true) (hs : noStar a = true) (ha : PE X a (tD C W a')) : PE X (.Call (.Name g p) [a, .Name h q] [] pos) (tD C W (.o1 o a')) := by
  obtain ⟨f1, f2, f3⟩ := G.fr hf
  obtain ⟨g1, g2, g3⟩ := G.fr hf2
  cases o with
  | isT T =>
    obtain ⟨h1, h2⟩ := and2 hi
    have h1 := eq_of_beq h1
    have h2 := eq_of_beq h2
    subst h1
    subst h2
    exact se_isT G.K boot_isi (boot_ty T).1 f1 f2 (by decide +kernel) f3 g1 g2 (boot_ty T).2 g3 ha (star_cons hs)
  | _ => cases hi
/-- a block within -/
theorem Good.blk (G : Good X C W ct) (s : Shared) (H : Hp) (scope : Scope) (hk : scope.kind = .function) (Cc : Addr) (cl : List (Str × Addr)) (fp : List Addr) : Good (X.blk s H scope (compEnvC scope cl Cc X.env) fp) C WF (ct.blk scope) where
  N := G.N
  nd := G.nd
  sc := by
    show relS scope X.env.scope = relS scope ct.sc
    rw [G.sc]
  kind := hk
  fn := fun x h => by
    have h : (false || (scope.names.lookup x == some .cell)) = true := h
    rw [Bool.false_or] at h
    exact h
  K := G.K
  calm := G.calm
  stk := fun z => absurd (show false = true from z) Bool.false_ne_true
  er := G.er
  xr := G.xr
  xc := G.xc
  xm := G.xm
  un := G.un
  tk := takes0
  fns := G.fns
  gls := G.gls
  free := G.free
  kw := G.kw
  kwp := G.kwp
  key := G.key
/-- within a try -/
theorem Good.tr (G : Good X C W ct) {W' : WX} (pn : List (Addr × Obj)) (xe : Value → Shared → Prop) (tk : Takes (X.tr pn xe) W') : Good (X.tr pn xe) C W' ct where
  N := G.N
  nd := G.nd
  sc := G.sc
  kind := G.kind
  fn := G.fn
  K := G.K
  calm := G.calm
  stk := G.stk
  er := G.er
  xr := G.xr
  xc := G.xc
  xm := G.xm
  un := G.un
  tk := tk
  fns := G.fns
  gls := G.gls
  free := G.free
  kw := G.kw
  kwp := G.kwp
  key := G.key
def Ct.hot (ct : Ct) : Ct := { ct with calm := false, fns := [], kws := [], kwp := [], keys := [] }
/-- within an except suite -/
theorem Good.suite (G : Good X C W ct) (a : Addr) (pn : List (Addr × Obj)) : Good (X.suite a pn) C WF ct.hot where
  N := G.N
  nd := G.nd
  sc := G.sc
  kind := G.kind
  fn := G.fn
  K := G.K
  calm := fun z => absurd (show false = true from z) Bool.false_ne_true
  stk := G.stk
  er := G.er
  xr := G.xr
  xc := G.xc
  xm := fun z => absurd (show false = true from z) Bool.false_ne_true
  un := G.un
  tk := takes0
  fns := fun k x io h => by
    have h : ([] : List (Str × List Bool))[k]? = some (x, io) := h
    simp at h
  gls := G.gls
  free := G.free
  kw := fun k x io ps h => by
    have h : ([] : List (Str × List Bool))[k]? = some (x, io) := h
    simp at h
  kwp := fun k x io ks perm h => by
    have h : ([] : List (Str × List Bool))[k]? = some (x, io) := h
    simp at h
  key := fun k x h => by
    have h : ([] : List (Str × List Bool))[k]? = some (x, [false]) := h
    simp at h
theorem own_map {ow : List Nat} : (ownN ct ow).map (·.2) = ow := by
  unfold ownN
  rw [List.map_map]
  exact List.map_id ow
theorem blk_kind {N : List Str} {sc scope : Scope} {ow : List (Str × Nat)} (h : blkC N sc scope ow = true) : scope.kind = .function := (blkOk_by h).kind
end
mutual
theorem snd_tg : ∀ (t : Tg) {X : Cx} {C : Cfg} {W : WX} {ct : Ct} {e : Expr}, Good X C W ct → chkTg t ct e = true → PG X e (tG C.K t)
  | .nm i, X, C, W, ct, e, G, h => by
    unfold chkTg at h
    cases e <;> first
      | (cases h; done)
      | skip
    obtain ⟨h1, h2⟩ := and2 h
    exact sg_name (by rw [G.N]; exact G.nd) (G.nm h1) (G.loc h2).1 (G.loc h2).2
  | .tp ts, X, C, W, ct, e, G, h => by
    unfold chkTg at h
    cases e <;> first
      | (cases h; done)
      | skip
    obtain ⟨hcl, h⟩ := and2 h
    obtain ⟨h1, h2, h3⟩ := snd_tgs ts G h
    exact sg_tup G.K (G.calm hcl) h1 h2 h3
theorem snd_tgs : ∀ (ts : Tgs) {X : Cx} {C : Cfg} {W : WX} {ct : Ct} {es : List Expr}, Good X C W ct → chkTgs ts ct es = true → PGs X es (tGs C.K ts) ∧ (assignEach es X.env).length = tlen ts ∧ (assignEach es X.env).findIdx? (·.1) = none
  | .nil, X, C, W, ct, es, G, h => by
    unfold chkTgs at h
    cases es with
    | nil => exact ⟨sgs_nil, rfl, rfl⟩
    | cons _ _ => cases h
  | .cons t ts, X, C, W, ct, es, G, h => by
    unfold chkTgs at h
    cases es with
    | nil => cases h
    | cons e r =>
      obtain ⟨h1, h⟩ := and2 h
      obtain ⟨h2, h3⟩ := and2 h
      obtain ⟨g1, g2, g3⟩ := snd_tgs ts G h3
      have e0 := asg_cons (es := r) (env := X.env) h1
      refine ⟨sgs_cons (snd_tg t G h2) g1 (by rw [e0]; rfl), by rw [e0, List.length_cons, g2]; rfl, ?_⟩
      rw [e0, List.findIdx?_cons]
      simp [g3]
end
end Ly

namespace Ly
open PySem PySem.Spec L2
variable [Fns]
section
variable {X : Cx} {C : Cfg} {W : WX} {ct : Ct} {e : Expr} {e' : E} {t : Bool}
def Both (X : Cx) (C : Cfg) (W : WX) (e : Expr) (e' : E) (t : Bool) : Prop := (t = false → PE X e (tD C W e')) ∧ (t = true → PT X e (tT C W e'))
theorem leaf (G : Good X C W ct) (h : PE X e (tD C W e')) (he : ∀ whole, isTrue e X.env whole = (do let v ← whole; standAt e.pos; holding [v] (truthy v))) : Both X C W e e' t := ⟨fun _ => h, fun _ => st_truth G.K h he⟩
theorem valu (ht : (!t) = true) (h : PE X e (tD C W e')) : Both X C W e e' t := ⟨fun _ => h, fun z => by rw [z] at ht; cases ht⟩
end
mutual
theorem snd_e : ∀ (e' : E) {t : Bool} {X : Cx} {C : Cfg} {W : WX} {ct : Ct} {e : Expr}, Good X C W ct → chkE e' t ct e = true → Both X C W e e' t
  | .var i, t, X, C, W, ct, e, G, h => by
    unfold chkE at h
    cases e <;> first
      | (cases h; done)
      | skip
    obtain ⟨h1, h2, h3, h4⟩ := G.vr h
    exact leaf G (se_var h1 h2 h3 h4) (fun _ => rfl)
  | .mv i, t, X, C, W, ct, e, G, h => by
    unfold chkE at h
    cases e <;> first
      | (cases h; done)
      | skip
    obtain ⟨h0, h⟩ := and2 h
    obtain ⟨h1, h2, h3, h4⟩ := G.vr h
    exact valu h0 (se_mv G.K h1 h2 h3 h4)
  | .mvo i, t, X, C, W, ct, e, G, h => by
    unfold chkE at h
    cases e <;> first
      | (cases h; done)
      | skip
    obtain ⟨h0, h⟩ := and2 h
    obtain ⟨h1, h2, h3, h4⟩ := G.vr h
    exact valu h0 (se_mvo h1 h2 h3 h4)
  | .cst d, t, X, C, W, ct, e, G, h => by
    unfold chkE at h
    cases e with
    | Constant c k pos =>
      obtain ⟨h0, h⟩ := and2 h
      refine valu h0 ?_
      unfold cstB at h
      split at h
      · have h := of_decide_eq_true h; subst h; exact se_int
      · have h := of_decide_eq_true h; subst h; exact se_str
      · have h := eq_of_beq h; subst h; exact se_bl
      · exact se_non
      · cases h
    | _ => cases h
  | .glo k, t, X, C, W, ct, e, G, h => by
    unfold chkE at h
    cases e <;> first
      | (cases h; done)
      | skip
    obtain ⟨h0, h⟩ := and2 h
    obtain ⟨h1, h⟩ := and2 h
    obtain ⟨h2, h3⟩ := and2 h
    obtain ⟨v, u, e1, e2, e3⟩ := G.gls k _ (of_decide_eq_true h1)
    exact valu h0 (se_glo (G.gl h2) e1 e2 e3 (okN_d h3))
  | .ck a, t, X, C, W, ct, e, G, h => by
    unfold chkE at h
    obtain ⟨h0, h⟩ := and2 h
    exact valu h0 (se_ck ((snd_e a G h).1 rfl))
  | .fz a, t, X, C, W, ct, e, G, h => by
    unfold chkE at h
    obtain ⟨h0, h⟩ := and2 h
    obtain ⟨h1, h⟩ := and2 h
    exact valu h0 (se_fz G.K h1 ((snd_e a G h).1 rfl))
  | .o2 op a b, t, X, C, W, ct, e, G, h => by
    unfold chkE at h
    obtain ⟨hq, h⟩ := and2 h
    cases e with
    | BinOp l o r pos =>
      obtain ⟨h0, h⟩ := and2 h
      obtain ⟨h1, h⟩ := and2 h
      obtain ⟨h2, h3⟩ := and2 h
      have h1 := of_decide_eq_true h1
      exact valu h0 (se_bin' G.K (G.op2 h1) ((snd_e a G h2).1 rfl) ((snd_e b G h3).1 rfl) (bin_own h1) hq)
    | Compare l os rs pos =>
      match os, rs, h with
      | [o], [r], h =>
        obtain ⟨h1, h⟩ := and2 h
        obtain ⟨h0, h⟩ := and2 h
        obtain ⟨h2, h3⟩ := and2 h
        have h1 := of_decide_eq_true h1
        have hb : behindInMarks o r = false := by simpa using h0
        exact ⟨fun _ => se_cmp G.K (G.cmp h1) ((snd_e a G h2).1 rfl) ((snd_e b G h3).1 rfl) (cmp_own h1).1 hq hb, fun _ => st_cmp G.K (cmp_own (a := a) (b := b) h1).2 (G.cmp h1) ((snd_e a G h2).1 rfl) ((snd_e b G h3).1 rfl) hq hb⟩
    | Subscript l r pos =>
      obtain ⟨h1, h⟩ := and2 h
      obtain ⟨h0, h⟩ := and2 h
      obtain ⟨h2, h3⟩ := and2 h
      have h1 := of_decide_eq_true h1
      subst h1
      exact leaf G (se_idx G.K (by have := G.un; omega) ((snd_e a G h2).1 rfl) ((snd_e b G h3).1 rfl) hq (plain_ix h0)) (fun _ => rfl)
    | Call f as ks pos =>
      match f, as, ks, h with
      | .Name x p, [l, r], [], h =>
        obtain ⟨h1, h⟩ := and2 h
        obtain ⟨h2, h⟩ := and2 h
        obtain ⟨h3, h⟩ := and2 h
        obtain ⟨h4, h⟩ := and2 h
        obtain ⟨h0, h⟩ := and2 h
        obtain ⟨h5, h6⟩ := and2 h
        exact valu h0 (se_bt2 G (and2 h1).1 (and2 h1).2 h2 h3 h4 hq ((snd_e a G h5).1 rfl) ((snd_e b G h6).1 rfl))
    | _ => cases h
  | .o1 op a, t, X, C, W, ct, e, G, h => by
    unfold chkE at h
    cases e with
    | UnaryOp u x pos =>
      cases u with
      | USub =>
        obtain ⟨h0, h⟩ := and2 h
        obtain ⟨h1, h⟩ := and2 h
        have e1 : op = .neg := by cases op <;> first | rfl | cases h1
        subst e1
        exact valu h0 (se_neg G.K ((snd_e a G h).1 rfl))
      | Not =>
        obtain ⟨h1, h⟩ := and2 h
        have e1 : op = .notO := by cases op <;> first | rfl | cases h1
        subst e1
        exact ⟨fun z => se_not G.K ((snd_e a G h).1 z), fun z => st_not ((snd_e a G h).2 z)⟩
      | _ => cases h
    | Call f as ks pos =>
      match f, as, ks, h with
      | .Name g p, [x], [], h =>
        obtain ⟨h1, h⟩ := and2 h
        obtain ⟨h2, h⟩ := and2 h
        obtain ⟨h3, h⟩ := and2 h
        exact leaf G (se_bt1 G (and2 h1).1 (and2 h1).2 h2 h3 ((snd_e a G h).1 rfl)) (fun _ => rfl)
      | .Name g p, [x, y], [], h =>
        cases y with
        | Name hh q =>
          obtain ⟨h1, h⟩ := and2 h
          obtain ⟨h2, h⟩ := and2 h
          obtain ⟨h3, h⟩ := and2 h
          obtain ⟨h4, h⟩ := and2 h
          exact leaf G (se_isI G h1 h2 h3 h4 ((snd_e a G h).1 rfl)) (fun _ => rfl)
        | _ => cases h
    | Subscript x sl pos =>
      cases sl with
      | Slice l hh st p3 =>
        match l, hh, st, h with
        | none, none, some u, h =>
          cases u with
          | UnaryOp o c p2 =>
            cases o with
            | USub =>
              cases c with
              | Constant k kk p1 =>
                obtain ⟨h0, h⟩ := and2 h
                obtain ⟨h1, h⟩ := and2 h
                obtain ⟨h2, h⟩ := and2 h
                have e1 : op = .rev := by cases op <;> first | rfl | cases h1
                subst e1
                cases k with
                | int i =>
                  have e2 : i = 1 := of_decide_eq_true h2
                  subst e2
                  exact valu h0 (se_revT G.K ((snd_e a G h).1 rfl))
                | _ => cases h2
              | _ => cases h
            | _ => cases h
          | _ => cases h
      | _ => cases h
    | _ => cases h
  | .and a b, t, X, C, W, ct, e, G, h => by
    unfold chkE at h
    cases e with
    | BoolOp o vs p =>
      match o, vs, h with
      | .And, x :: y :: rest, h =>
        obtain ⟨h1, h⟩ := and2 h
        cases rest with
        | nil => exact ⟨fun z => se_and G.K ((snd_e a G h1).1 z) (pe_one ((snd_e b G h).1 z)), fun z => (sw_and ((snd_e a G h1).2 z) (sw_and1 ((snd_e b G h).2 z))).pt⟩
        | cons w rest =>
          refine ⟨fun z => se_and G.K ((snd_e a G h1).1 z) ((snd_e b G h).1 z), fun z => (sw_and ((snd_e a G h1).2 z) ⟨fun wh pins s σ H Q I q => ?_⟩).pt⟩
          exact ((snd_e b G h).2 z).run pins s σ H Q I q
    | _ => cases h
  | .or a b, t, X, C, W, ct, e, G, h => by
    unfold chkE at h
    cases e with
    | BoolOp o vs p =>
      match o, vs, h with
      | .Or, x :: y :: rest, h =>
        obtain ⟨h1, h⟩ := and2 h
        cases rest with
        | nil => exact ⟨fun z => se_or G.K ((snd_e a G h1).1 z) (pe_one ((snd_e b G h).1 z)), fun z => (sw_or ((snd_e a G h1).2 z) (sw_or1 ((snd_e b G h).2 z))).pt⟩
        | cons w rest =>
          refine ⟨fun z => se_or G.K ((snd_e a G h1).1 z) ((snd_e b G h).1 z), fun z => (sw_or ((snd_e a G h1).2 z) ⟨fun wh pins s σ H Q I q => ?_⟩).pt⟩
          exact ((snd_e b G h).2 z).run pins s σ H Q I q
    | _ => cases h
  | .ite c a b, t, X, C, W, ct, e, G, h => by
    unfold chkE at h
    cases e <;> first
      | (cases h; done)
      | skip
    obtain ⟨h0, h⟩ := and2 h
    obtain ⟨h1, h⟩ := and2 h
    obtain ⟨h2, h3⟩ := and2 h
    exact valu h0 (se_ite ((snd_e c G h1).2 rfl) ((snd_e a G h2).1 rfl) ((snd_e b G h3).1 rfl))
  | .tup es, t, X, C, W, ct, e, G, h => by
    unfold chkE at h
    cases e <;> first
      | (cases h; done)
      | skip
    obtain ⟨h0, h⟩ := and2 h
    obtain ⟨h1, h⟩ := and2 h
    exact valu h0 (se_tup h1 (snd_es es G h).1)
  | .lst es, t, X, C, W, ct, e, G, h => by
    unfold chkE at h
    cases e <;> first
      | (cases h; done)
      | skip
    obtain ⟨h0, h⟩ := and2 h
    obtain ⟨h1, h⟩ := and2 h
    exact valu h0 (se_lst h1 (snd_es es G h).1)
  | .slc a lo hi, t, X, C, W, ct, e, G, h => by
    unfold chkE at h
    obtain ⟨hq, h⟩ := and2 h
    cases e with
    | Subscript x sl pos =>
      cases sl with
      | Slice l hh st p2 =>
        cases st with
        | none =>
          obtain ⟨h1, h⟩ := and2 h
          obtain ⟨h2, h3⟩ := and2 h
          obtain ⟨p1, q1⟩ := snd_o lo (W := W) G h2
          obtain ⟨p2, q2⟩ := snd_o hi (W := W) G h3
          exact leaf G (se_slc G.K q1 q2 ((snd_e a G h1).1 rfl) p1 p2 hq) (fun _ => rfl)
        | some _ => cases h
      | _ => cases h
    | _ => cases h
  | .call slots k es, t, X, C, W, ct, e, G, h => by
    unfold chkE at h
    cases e with
    | Call f as ks pos =>
      match f, as, ks, h with
      | .Name x p, y :: ys, [], h =>
        obtain ⟨h1, h⟩ := and2 h
        obtain ⟨h2, h⟩ := and2 h
        obtain ⟨h3, h⟩ := and2 h
        obtain ⟨h4, h⟩ := and2 h
        obtain ⟨h5, h⟩ := and2 h
        obtain ⟨r, F, hr⟩ := G.fns k x _ (of_decide_eq_true h1)
        obtain ⟨pa, ns⟩ := snd_es es G h
        have ns : (noStar y && ys.all noStar) = true := ns
        exact leaf G (se_call G.tk F hr (G.gl h4) h2 (of_decide_eq_true h3) pa (okN_d h5) (star_cons (and2 ns).1) (star_any (and2 ns).2)) (fun _ => rfl)
      | .Name x p, [], kw :: kws, h =>
        obtain ⟨h1, h⟩ := and2 h
        obtain ⟨h2, h⟩ := and2 h
        obtain ⟨h3, h⟩ := and2 h
        obtain ⟨h4, h⟩ := and2 h
        obtain ⟨h5, h⟩ := and2 h
        cases hl : ct.kws.lookup x with
        | none => rw [hl] at h; cases h
        | some ps =>
          rw [hl] at h
          obtain ⟨r, F, hr⟩ := G.kw k x _ ps (of_decide_eq_true h1) hl
          obtain ⟨pk, ks⟩ := snd_ks es G h
          obtain ⟨k1, k2, k3⟩ := ks pos X.env
          exact leaf G (se_callK G.tk F hr (G.gl h4) h2 (of_decide_eq_true h3) pk (okN_d h5) k2 k1 (by rw [k3]; rfl)) (fun _ => rfl)
    | _ => cases h
  | .pop i, t, X, C, W, ct, e, G, h => by
    unfold chkE at h
    cases e with
    | Call f as ks cpos =>
      match f, as, ks, h with
      | .Attribute (.Name x p') m apos, [], [], h =>
        obtain ⟨h0, h⟩ := and2 h
        obtain ⟨h1, h⟩ := and2 h
        obtain ⟨h2, h3⟩ := and2 h
        obtain ⟨v1, v2, v3, v4⟩ := G.vr h3
        have h1 := eq_of_beq h1
        subst h1
        exact valu h0 (se_pop v1 v2 v3 v4 rfl h2)
    | _ => cases h
  | .popAt i a, t, X, C, W, ct, e, G, h => by
    unfold chkE at h
    cases e with
    | Call f as ks cpos =>
      match f, as, ks, h with
      | .Attribute (.Name x p') m apos, [y], [], h =>
        obtain ⟨h0, h⟩ := and2 h
        obtain ⟨h1, h⟩ := and2 h
        obtain ⟨h2, h⟩ := and2 h
        obtain ⟨h3, h⟩ := and2 h
        obtain ⟨h4, h⟩ := and2 h
        obtain ⟨h5, h6⟩ := and2 h
        obtain ⟨v1, v2, v3, v4⟩ := G.vr h3
        have pe := (snd_e a G h6).1 rfl
        have h1 := eq_of_beq h1
        subst h1
        have hb2 : noStars [y] = true := by
          show (noStar y && true) = true
          rw [h4]
          rfl
        exact valu h0 (se_popAt h5 v1 v2 v3 v4 (sa_cons h5 pe sa_nil (star_cons h4)) rfl (by rw [star_all hb2]; rfl) h2 (star_cons h4) rfl)
    | _ => cases h
  | .lrg (.cons a' .nil), t, X, C, W, ct, e, G, h => by
    unfold chkE at h
    cases e with
    | Call f as ks pos =>
      match f, as, ks, h with
      | .Name z p, [.Call g bs ks2 pos2], [], h =>
        match g, bs, ks2, h with
        | .Name x p2, [a], [], h =>
          obtain ⟨h0, h⟩ := and2 h
          obtain ⟨h1, h⟩ := and2 h
          obtain ⟨h2, h⟩ := and2 h
          obtain ⟨h3, h⟩ := and2 h
          obtain ⟨h4, h⟩ := and2 h
          obtain ⟨h5, h6⟩ := and2 h
          obtain ⟨f1, f2, f3⟩ := G.fr h2
          obtain ⟨g1, g2, g3⟩ := G.fr h4
          have h1 := eq_of_beq h1
          have h3 := eq_of_beq h3
          have pe := (snd_e a' G h6).1 rfl
          subst h1
          subst h3
          exact valu (and2 h0).1 (se_lrg1 (G.calm (and2 h0).2) f1 f2 g1 g2 pe (star_cons h5))
    | _ => cases h
  | .lrg (.cons a' (.cons b' .nil)), t, X, C, W, ct, e, G, h => by
    unfold chkE at h
    cases e with
    | Call f as ks pos =>
      match f, as, ks, h with
      | .Name z p, [.Call g bs ks2 pos2], [], h =>
        match g, bs, ks2, h with
        | .Name x p2, [a, b], [], h =>
          obtain ⟨h0, h⟩ := and2 h
          obtain ⟨h1, h⟩ := and2 h
          obtain ⟨h2, h⟩ := and2 h
          obtain ⟨h3, h⟩ := and2 h
          obtain ⟨h4, h⟩ := and2 h
          obtain ⟨h5, h⟩ := and2 h
          obtain ⟨h6, h⟩ := and2 h
          obtain ⟨h7, h⟩ := and2 h
          obtain ⟨h8, h9⟩ := and2 h
          obtain ⟨f1, f2, f3⟩ := G.fr h2
          obtain ⟨g1, g2, g3⟩ := G.fr h4
          have h1 := eq_of_beq h1
          have h3 := eq_of_beq h3
          have pe := (snd_e a' G h8).1 rfl
          have pe2 := (snd_e b' G h9).1 rfl
          have hb2 : noStars [b] = true := by
            show (noStar b && true) = true
            rw [h6]
            rfl
          subst h1
          subst h3
          exact valu (and2 h0).1 (se_lrg2 (G.calm (and2 h0).2) f1 f2 g1 g2 pe pe2 (star_cons h5) (star_cons h6) (star_any hb2))
    | _ => cases h
  | .lrg .nil, t, X, C, W, ct, e, G, h => by unfold chkE at h; cases h
  | .lrg (.io _ _), t, X, C, W, ct, e, G, h => by unfold chkE at h; cases h
  | .lrg (.cons _ (.io _ _)), t, X, C, W, ct, e, G, h => by unfold chkE at h; cases h
  | .lrg (.cons _ (.cons _ (.cons _ _))), t, X, C, W, ct, e, G, h => by unfold chkE at h; cases h
  | .lrg (.cons _ (.cons _ (.io _ _))), t, X, C, W, ct, e, G, h => by unfold chkE at h; cases h
  | .trg (.cons a' .nil), t, X, C, W, ct, e, G, h => by
    unfold chkE at h
    cases e with
    | Call f as ks pos =>
      match f, as, ks, h with
      | .Name z p, [.Call g bs ks2 pos2], [], h =>
        match g, bs, ks2, h with
        | .Name x p2, [a], [], h =>
          obtain ⟨h0, h⟩ := and2 h
          obtain ⟨h1, h⟩ := and2 h
          obtain ⟨h2, h⟩ := and2 h
          obtain ⟨h3, h⟩ := and2 h
          obtain ⟨h4, h⟩ := and2 h
          obtain ⟨h5, h6⟩ := and2 h
          obtain ⟨f1, f2, f3⟩ := G.fr h2
          obtain ⟨g1, g2, g3⟩ := G.fr h4
          have h1 := eq_of_beq h1
          have h3 := eq_of_beq h3
          have pe := (snd_e a' G h6).1 rfl
          subst h1
          subst h3
          exact valu (and2 h0).1 (se_trg1 (G.calm (and2 h0).2) f1 f2 g1 g2 pe (star_cons h5))
    | _ => cases h
  | .trg .nil, t, X, C, W, ct, e, G, h => by unfold chkE at h; cases h
  | .trg (.io _ _), t, X, C, W, ct, e, G, h => by unfold chkE at h; cases h
  | .trg (.cons _ (.io _ _)), t, X, C, W, ct, e, G, h => by unfold chkE at h; cases h
  | .trg (.cons _ (.cons _ _)), t, X, C, W, ct, e, G, h => by unfold chkE at h; cases h
  | .me m a (.cons b .nil), t, X, C, W, ct, e, G, h => by
    unfold chkE at h
    obtain ⟨hq, h⟩ := and2 h
    cases e with
    | Call f as ks cpos =>
      match f, as, ks, h with
      | .Attribute o nm apos, [y], [], h =>
        obtain ⟨h0, h⟩ := and2 h
        obtain ⟨h1, h⟩ := and2 h
        obtain ⟨h2, h⟩ := and2 h
        obtain ⟨h3, h⟩ := and2 h
        obtain ⟨h4, h⟩ := and2 h
        obtain ⟨h5, h⟩ := and2 h
        obtain ⟨h6, h⟩ := and2 h
        obtain ⟨h7, h8⟩ := and2 h
        have po := (snd_e a G h7).1 rfl
        have pe := (snd_e b G h8).1 rfl
        have h2 := eq_of_beq h2
        subst h2
        have hb2 : noStars [y] = true := by
          show (noStar y && true) = true
          rw [h5]
          rfl
        have hs' : own a = true ∨ quiets (.cons b .nil) = true := by
          have hq : own a = true ∨ quiet b = true := by simpa using hq
          refine hq.imp id fun z => ?_
          show (quiet b && true) = true
          rw [z]
          rfl
        rcases Bool.or_eq_true_iff.mp h1 with z1 | z1
        case inr => exact valu h0 (se_one z1 hs' G.K po (sa_cons h6 pe sa_nil (star_cons h5)) (fun _ => base_any h4) (by rw [star_all hb2]; rfl) h3 (star_cons h5) rfl)
        have z1 := of_decide_eq_true z1
        subst z1
        exact valu h0 (se_index G.K (by have := G.un; omega) hs' po (sa_cons h6 pe sa_nil (star_cons h5)) (base_any h4) (by rw [star_all hb2]; rfl) h3 (star_cons h5) rfl)
    | _ => cases h
  | .ixL i b, t, X, C, W, ct, e, G, h => by
    unfold chkE at h
    cases e with
    | Subscript l r pos =>
      cases l with
      | Name x p =>
        obtain ⟨h1, h⟩ := and2 h
        obtain ⟨h2, h3⟩ := and2 h
        obtain ⟨v1, v2, v3, v4⟩ := G.vr h1
        exact leaf G (se_ixL G.K (by have := G.un; omega) v1 v2 v3 v4 ((snd_e b G h3).1 rfl) (plain_ix h2)) (fun _ => rfl)
      | _ => cases h
    | _ => cases h
  | .popP i pp a, t, X, C, W, ct, e, G, h => by
    unfold chkE at h
    obtain ⟨hq, h⟩ := and2 h
    obtain ⟨ho, hq⟩ := and2 hq
    obtain ⟨hq1, hq2⟩ := and2 hq
    cases e with
    | Call f as ks cpos =>
      match f, as, ks, h with
      | .Attribute (.Subscript (.Name x p') pe p2) m apos, [y], [], h =>
        obtain ⟨h0, h⟩ := and2 h
        obtain ⟨h1, h⟩ := and2 h
        obtain ⟨h2, h⟩ := and2 h
        obtain ⟨h3, h⟩ := and2 h
        obtain ⟨h4, h⟩ := and2 h
        obtain ⟨h5, h⟩ := and2 h
        obtain ⟨h6, h7⟩ := and2 h
        obtain ⟨v1, v2, v3, v4⟩ := G.vr h3
        have pp' := (snd_e pp G h6).1 rfl
        have pe' := (snd_e a G h7).1 rfl
        have h1 := eq_of_beq h1
        subst h1
        have hb2 : noStars [y] = true := by
          show (noStar y && true) = true
          rw [h5]
          rfl
        exact valu h0 (se_popP G.K ho hq1 hq2 v1 v2 v3 v4 pp' (plain_ix h4) (sa_cons ho pe' sa_nil (star_cons h5)) rfl (by rw [star_all hb2]; rfl) h2 (star_cons h5) rfl)
    | _ => cases h
  | .callK k perm es, t, X, C, W, ct, e, G, h => by
    unfold chkE at h
    cases e with
    | Call f as ks pos =>
      match f, as, ks, h with
      | .Name x p, [], kw :: kws, h =>
        cases hf : ct.fns[k]? with
        | none => rw [hf] at h; cases h
        | some q =>
          obtain ⟨y, io⟩ := q
          rw [hf] at h
          obtain ⟨h1, h⟩ := and2 h
          obtain ⟨h2, h⟩ := and2 h
          obtain ⟨h3, h⟩ := and2 h
          obtain ⟨h4, h⟩ := and2 h
          obtain ⟨h5, h⟩ := and2 h
          obtain ⟨h6, h⟩ := and2 h
          obtain ⟨h7, hkk⟩ := and2 h
          have h1 := of_decide_eq_true h1
          subst h1
          obtain ⟨r, F, hr⟩ := G.kwp k y io _ perm hf (of_decide_eq_true h5)
          obtain ⟨pk, ks⟩ := snd_ks es G hkk
          obtain ⟨k1, k2, k3⟩ := ks pos X.env
          exact leaf G (se_callP G.tk F hr (G.gl h6) h2 (of_decide_eq_true h3) h4 (fun ρ ds ρ' he => by rw [evs_len es he, chkKs_len es hkk]) pk (okN_d h7) k2 k1 (by rw [k3]; rfl)) (fun _ => rfl)
    | _ => cases h
  | .get a k d, t, X, C, W, ct, e, G, h => by
    unfold chkE at h
    obtain ⟨hq, h⟩ := and2 h
    cases e with
    | Call f as ks cpos =>
      match f, as, ks, h with
      | .Attribute o nm apos, [y, z], [], h =>
        obtain ⟨h0, h⟩ := and2 h
        obtain ⟨h1, h⟩ := and2 h
        obtain ⟨h2, h⟩ := and2 h
        obtain ⟨h3, h⟩ := and2 h
        obtain ⟨h4, h⟩ := and2 h
        obtain ⟨h5, h⟩ := and2 h
        obtain ⟨h6, h⟩ := and2 h
        obtain ⟨h7, h8⟩ := and2 h
        have po := (snd_e a G h6).1 rfl
        have pk := (snd_e k G h7).1 rfl
        have pd := (snd_e d G h8).1 rfl
        have h1 := eq_of_beq h1
        subst h1
        have st : starEach [y, z] X.env = [(false, eval y X.env), (false, eval z X.env)] := by rw [star_cons h4, star_cons h5]; rfl
        have hb2 : noStars [y, z] = true := by
          show (noStar y && (noStar z && true)) = true
          rw [h4, h5]
          rfl
        exact valu h0 (se_get (by have := G.un; omega) (and2 hq).1 (and2 hq).2 po pk pd ⟨base_any h3, by rw [star_all hb2]; rfl, h2, by rw [st]; rfl⟩)
    | _ => cases h
  | .srtK k a, t, X, C, W, ct, e, G, h => by
    unfold chkE at h
    cases e with
    | Call f as ks cpos =>
      match f, as, ks, h with
      | .Name g p, [x], [kw], h =>
        match kw, h with
        | ⟨some n, v, kpos⟩, h =>
          cases v with
          | Name y q =>
            obtain ⟨h0, h⟩ := and2 h
            obtain ⟨h1, h⟩ := and2 h
            obtain ⟨h2, h⟩ := and2 h
            obtain ⟨h3, h⟩ := and2 h
            obtain ⟨h4, h⟩ := and2 h
            obtain ⟨h5, h⟩ := and2 h
            obtain ⟨h6, h⟩ := and2 h
            obtain ⟨h7, h⟩ := and2 h
            obtain ⟨h8, h⟩ := and2 h
            obtain ⟨g1, g2, g3⟩ := G.fr h3
            have h1 := eq_of_beq h1
            have h2 := eq_of_beq h2
            have pe := (snd_e a G h).1 rfl
            subst h1
            subst h2
            exact valu h0 (se_srtK G.K (by have := G.un; omega) (G.key k y (of_decide_eq_true h5) h6) g1 g2 (G.gl h7) (okN_d h8) pe (fun env => star_cons h4))
          | _ => cases h
    | _ => cases h
  | .cmp2 p1 p2 a b c, t, X, C, W, ct, e, G, h => by
    unfold chkE at h
    obtain ⟨hq, h⟩ := and2 h
    obtain ⟨hq1, hq2⟩ := and2 hq
    cases e with
    | Compare l os rs pos =>
      match os, rs, h with
      | [o1, o2], [m, r], h =>
        obtain ⟨h0, h⟩ := and2 h
        obtain ⟨h1, h⟩ := and2 h
        obtain ⟨h2, h⟩ := and2 h
        obtain ⟨h3, h⟩ := and2 h
        obtain ⟨h4, h⟩ := and2 h
        obtain ⟨h5, h6⟩ := and2 h
        have h1 := of_decide_eq_true h1
        have h2 := of_decide_eq_true h2
        exact valu h0 (se_cmp2 G.K (G.cmp h1) (G.cmp h2) (cmp_bl2 h1) (cmp_bl2 h2) ((snd_e a G h4).1 rfl) ((snd_e b G h5).1 rfl) ((snd_e c G h6).1 rfl) hq1 hq2 (by simpa using h3))
    | _ => cases h
  | .fld a f, t, X, C, W, ct, e, G, h => by
    unfold chkE at h
    cases e with
    | Attribute o nm pos =>
      obtain ⟨h0, h⟩ := and2 h
      obtain ⟨h1, h⟩ := and2 h
      obtain ⟨h2, h3⟩ := and2 h
      have h1 := of_decide_eq_true h1
      subst h1
      exact valu h0 (se_fld G.xr G.K ((snd_e a G h3).1 rfl) (base_any h2))
    | _ => cases h
  | .isX a Ts, t, X, C, W, ct, e, G, h => by
    unfold chkE at h
    cases e with
    | Call g as ks pos =>
      match g, as, ks, h with
      | .Name x p, [o, y], [], h =>
        obtain ⟨h1, h⟩ := and2 h
        obtain ⟨h2, h⟩ := and2 h
        obtain ⟨h3, h⟩ := and2 h
        obtain ⟨h4, h⟩ := and2 h
        obtain ⟨h5, h⟩ := and2 h
        obtain ⟨h6, h⟩ := and2 h
        have h1 := eq_of_beq h1
        have hT : ∀ T ∈ Ts, (∃ v u, ClsN X T v u) ∧ Gl X T ∧ (T == ("__debug__" : Str)) = false := fun T hT => by
          obtain ⟨a1, a2⟩ := and2 (List.all_eq_true.mp h4 T hT)
          obtain ⟨a2, a3⟩ := and2 a2
          exact ⟨G.xc T a1, G.gl a2, okN_d a3⟩
        obtain ⟨f1, f2, f3⟩ := G.fr h2
        have pe := (snd_e a G h6).1 rfl
        cases y with
        | Name T q =>
          cases Ts with
          | nil => cases h
          | cons T' r =>
            cases r with
            | nil =>
              have h := of_decide_eq_true h
              subst h
              exact leaf G (se_is1 G.xr G.K h1 f1 f2 f3 (hT _ List.mem_cons_self) pe (star_cons h3)) (fun _ => rfl)
            | cons _ _ => cases h
        | Tuple es k q => exact leaf G (se_isT2 G.xr G.K h1 f1 f2 f3 h (of_decide_eq_true h5) hT pe (star_cons h3)) (fun _ => rfl)
        | _ => cases h
    | _ => cases h
  | .me m a .nil, t, X, C, W, ct, e, G, h => by
    unfold chkE at h
    cases e with
    | Call f as ks cpos =>
      match f, as, ks, h with
      | .Attribute o nm apos, [], [], h =>
        obtain ⟨h0, h⟩ := and2 h
        obtain ⟨h1, h⟩ := and2 h
        obtain ⟨h2, h⟩ := and2 h
        obtain ⟨h3, h⟩ := and2 h
        obtain ⟨h4, h5⟩ := and2 h
        have h2 := eq_of_beq h2
        subst h2
        exact valu h0 (se_zero h1 ((snd_e a G h5).1 rfl) (fun _ => base_any h4) h3)
    | _ => cases h
  | .me _ _ (.io _ _), t, X, C, W, ct, e, G, h => by unfold chkE at h; cases h
  | .me _ _ (.cons _ (.cons _ _)), t, X, C, W, ct, e, G, h => by unfold chkE at h; cases h
  | .me _ _ (.cons _ (.io _ _)), t, X, C, W, ct, e, G, h => by unfold chkE at h; cases h
  | .lc ow tg it c elt, t, X, C, W, ct, e, G, h => by
    unfold chkE at h
    cases e with
    | ListComp x gs scope pos =>
      match gs, h with
      | [⟨tg', iter, ifs, 0⟩], h =>
        obtain ⟨h0, h⟩ := and2 h
        obtain ⟨h1, h⟩ := and2 h
        obtain ⟨h2, h⟩ := and2 h
        obtain ⟨h3, h⟩ := and2 h
        obtain ⟨h4, h⟩ := and2 h
        obtain ⟨h5, h⟩ := and2 h
        obtain ⟨h6, h7⟩ := and2 h
        have hk := blk_kind h4
        have hm := own_map (ct := ct) (ow := ow)
        obtain ⟨p1, p2⟩ := snd_it it G h3
        have := se_lc (X := X) (C := C) (W := W) (ow := ownN ct ow) (pos := pos) h1 (by
          rw [hm]
          intro i hi
          have := List.all_eq_true.mp h2 i hi
          simpa using this) (G.calm (and2 h0).2) (by rw [G.N]; exact G.nd) p1 (by rw [G.N, G.sc]; exact blkOk_by h4)
          (fun s H Cc cl fp => snd_tg tg (G.blk s H scope hk Cc cl fp) h5) (fun s H Cc cl fp => snd_c c (G.blk s H scope hk Cc cl fp) h6)
          (fun s H Cc cl fp => (snd_e elt (G.blk s H scope hk Cc cl fp) h7).1 rfl) (p2 X.env)
        rw [hm] at this
        exact valu (and2 h0).1 this
    | _ => cases h
  | .dnil, t, X, C, W, ct, e, G, h => by
    unfold chkE at h
    cases e with
    | Dict ks vs pos =>
      match ks, vs, h with
      | [], [], h => exact valu h se_dnil
    | _ => cases h
  | .dc ow tg it c k v, t, X, C, W, ct, e, G, h => by
    unfold chkE at h
    cases e with
    | DictComp kx x gs scope pos =>
      match gs, h with
      | [⟨tg', iter, ifs, 0⟩], h =>
        obtain ⟨h0, h⟩ := and2 h
        obtain ⟨h1, h⟩ := and2 h
        obtain ⟨h2, h⟩ := and2 h
        obtain ⟨h3, h⟩ := and2 h
        obtain ⟨h4, h⟩ := and2 h
        obtain ⟨h5, h⟩ := and2 h
        obtain ⟨h6, h⟩ := and2 h
        obtain ⟨h7, h8⟩ := and2 h
        have hk := blk_kind h4
        have hm := own_map (ct := ct) (ow := ow)
        obtain ⟨p1, p2⟩ := snd_it it G h3
        have := se_dc (X := X) (C := C) (W := W) (ow := ownN ct ow) (pos := pos) h1 (by
          rw [hm]
          intro i hi
          have := List.all_eq_true.mp h2 i hi
          simpa using this) (G.calm (and2 h0).2) (by rw [G.N]; exact G.nd) p1 (by rw [G.N, G.sc]; exact blkOk_by h4)
          (fun s H Cc cl fp => snd_tg tg (G.blk s H scope hk Cc cl fp) h5) (fun s H Cc cl fp => snd_c c (G.blk s H scope hk Cc cl fp) h6)
          (fun s H Cc cl fp => (snd_e k (G.blk s H scope hk Cc cl fp) h7).1 rfl) (fun s H Cc cl fp => (snd_e v (G.blk s H scope hk Cc cl fp) h8).1 rfl) (p2 X.env)
        rw [hm] at this
        exact valu (and2 h0).1 this
    | _ => cases h
theorem snd_es : ∀ (es' : Es) {X : Cx} {C : Cfg} {W : WX} {ct : Ct} {es : List Expr}, Good X C W ct → chkEs es' ct es = true → PA X es (tA C W es') ∧ noStars es = true
  | .nil, X, C, W, ct, es, G, h => by
    unfold chkEs at h
    cases es with
    | nil => exact ⟨sa_nil, rfl⟩
    | cons _ _ => cases h
  | .cons a r, X, C, W, ct, es, G, h => by
    unfold chkEs at h
    cases es with
    | nil => cases h
    | cons e es =>
      obtain ⟨h1, h⟩ := and2 h
      obtain ⟨h2, h⟩ := and2 h
      obtain ⟨h3, h4⟩ := and2 h
      obtain ⟨g1, g2⟩ := snd_es r G h4
      exact ⟨sa_cons h2 ((snd_e a G h3).1 rfl) g1 (star_cons h1), by show (noStar e && noStars es) = true; rw [h1, g2]; rfl⟩
  | .io i r, X, C, W, ct, es, G, h => by
    unfold chkEs at h
    cases es with
    | nil => cases h
    | cons e es =>
      cases e <;> first
        | (cases h; done)
        | skip
      obtain ⟨h1, h⟩ := and2 h
      obtain ⟨g1, g2⟩ := snd_es r G h
      obtain ⟨v1, v2, v3, v4⟩ := G.vr h1
      exact ⟨sa_io v1 v2 v3 v4 g1 (star_cons rfl), by show (true && noStars es) = true; rw [g2]; rfl⟩
theorem snd_ks : ∀ (es' : Es) {X : Cx} {C : Cfg} {W : WX} {ct : Ct} {ps : List Str} {kws : List Keyword}, Good X C W ct → chkKs es' ct ps kws = true → PK X kws (tA C W es') ∧ ∀ pos env, (backToKw pos (keywordEach kws env)).filterMap (·.1) = ps ∧ (backToKw pos (keywordEach kws env)).all (·.1.isSome) = true ∧ (backToKw pos (keywordEach kws env)).any (·.1.isNone) = false
  | .nil, X, C, W, ct, ps, kws, G, h => by
    unfold chkKs at h
    match ps, kws, h with
    | [], [], _ => exact ⟨sk_nil, fun _ _ => ⟨rfl, rfl, rfl⟩⟩
  | .cons a r, X, C, W, ct, ps, kws, G, h => by
    unfold chkKs at h
    match ps, kws, h with
    | n :: ps, kw :: kws, h =>
      obtain ⟨h1, h⟩ := and2 h
      obtain ⟨h2, h⟩ := and2 h
      obtain ⟨h3, h4⟩ := and2 h
      obtain ⟨p1, p2⟩ := snd_ks r G h4
      have pe := (snd_e a G h3).1 rfl
      obtain ⟨arg, e, kp⟩ := kw
      have h1 : arg = some n := eq_of_beq h1
      subst h1
      refine ⟨sk_cons h2 pe p1, fun pos env => ?_⟩
      obtain ⟨q1, q2, q3⟩ := p2 pos env
      refine ⟨?_, ?_, ?_⟩
      · show n :: (backToKw pos (keywordEach kws env)).filterMap (·.1) = n :: ps
        rw [q1]
      · show (true && (backToKw pos (keywordEach kws env)).all (·.1.isSome)) = true
        rw [q2]; rfl
      · show (false || (backToKw pos (keywordEach kws env)).any (·.1.isNone)) = false
        rw [q3]; rfl
  | .io _ _, X, C, W, ct, ps, kws, G, h => by unfold chkKs at h; cases h
theorem snd_o : ∀ (lo : Es) {X : Cx} {C : Cfg} {W : WX} {ct : Ct} {o : Option Expr}, Good X C W ct → chkO lo ct o = true → PO X o (tPx C W lo) ∧ (match lo with | .nil => true | .cons _ .nil => true | _ => false) = true
  | .nil, X, C, W, ct, o, G, h => by
    unfold chkO at h
    cases o with
    | none => exact ⟨po_none, rfl⟩
    | some _ => cases h
  | .cons a .nil, X, C, W, ct, o, G, h => by
    unfold chkO at h
    cases o with
    | none => cases h
    | some e => exact ⟨po_some ((snd_e a G h).1 rfl), rfl⟩
  | .cons _ (.cons _ _), X, C, W, ct, o, G, h => by unfold chkO at h; cases h
  | .cons _ (.io _ _), X, C, W, ct, o, G, h => by unfold chkO at h; cases h
  | .io _ _, X, C, W, ct, o, G, h => by unfold chkO at h; cases h
theorem snd_c : ∀ (c : Es) {X : Cx} {C : Cfg} {W : WX} {ct : Ct} {ifs : List Expr}, Good X C W ct → chkC c ct ifs = true → PTs X ifs (tCs C W c)
  | .nil, X, C, W, ct, es, G, h => by
    unfold chkC at h
    cases es with
    | nil => exact tcs_nil
    | cons _ _ => cases h
  | .cons a r, X, C, W, ct, es, G, h => by
    unfold chkC at h
    match es, r, h with
    | [e], .nil, h => exact tcs_one ((snd_e a G h).2 rfl)
  | .io i r, X, C, W, ct, es, G, h => by unfold chkC at h; cases h
theorem snd_it : ∀ (it : It) {X : Cx} {C : Cfg} {W : WX} {ct : Ct} {tg iter : Expr}, Good X C W ct → chkIt it ct tg iter = true → PI X tg iter (tI C W it) ∧ ∀ env x, foldedSetIterable iter env x = pure x
  | .seq a, X, C, W, ct, tg, iter, G, h => by
    unfold chkIt at h
    obtain ⟨h1, h2⟩ := and2 h
    exact ⟨pi_seq G.K ((snd_e a G h2).1 rfl), fun env => folded_no h1⟩
  | .rng (.cons a' .nil), X, C, W, ct, tg, iter, G, h => by
    unfold chkIt at h
    cases iter with
    | Call f as ks pos =>
      match f, as, ks, h with
      | .Name x p, [a], [], h =>
        obtain ⟨h1, k1⟩ := and2 h
        obtain ⟨h2, k2⟩ := and2 k1
        obtain ⟨h3, k3⟩ := and2 k2
        obtain ⟨h4, k4⟩ := and2 k3
        have h1 := eq_of_beq h1
        obtain ⟨f1, f2, f3⟩ := G.fr h2
        have pe := (snd_e a' G k4).1 rfl
        subst h1
        exact ⟨pi_rng1 f1 f2 (sa_cons h4 pe sa_nil (star_cons h3)) (star_one h3), fun env x => rfl⟩
    | _ => cases h
  | .rng (.cons a' (.cons b' .nil)), X, C, W, ct, tg, iter, G, h => by
    unfold chkIt at h
    cases iter with
    | Call f as ks pos =>
      match f, as, ks, h with
      | .Name x p, [a, b], [], h =>
        obtain ⟨h1, k1⟩ := and2 h
        obtain ⟨h2, k2⟩ := and2 k1
        obtain ⟨h3, k3⟩ := and2 k2
        obtain ⟨h4, k4⟩ := and2 k3
        obtain ⟨h5, k5⟩ := and2 k4
        obtain ⟨h6, k6⟩ := and2 k5
        obtain ⟨h7, h8⟩ := and2 k6
        have h1 := eq_of_beq h1
        obtain ⟨f1, f2, f3⟩ := G.fr h2
        have pe := (snd_e a' G h7).1 rfl
        have pe2 := (snd_e b' G h8).1 rfl
        subst h1
        exact ⟨pi_rng2 f1 f2 (sa_cons h5 pe (sa_cons h6 pe2 sa_nil (star_cons h4)) (star_cons h3)) (by rw [star_cons h3, star_one h4]) (star_one h4), fun env x => rfl⟩
    | _ => cases h
  | .rng .nil, X, C, W, ct, tg, iter, G, h => by unfold chkIt at h; cases h
  | .rng (.io _ _), X, C, W, ct, tg, iter, G, h => by unfold chkIt at h; cases h
  | .rng (.cons _ (.io _ _)), X, C, W, ct, tg, iter, G, h => by unfold chkIt at h; cases h
  | .rng (.cons _ (.cons _ (.cons _ _))), X, C, W, ct, tg, iter, G, h => by unfold chkIt at h; cases h
  | .rng (.cons _ (.cons _ (.io _ _))), X, C, W, ct, tg, iter, G, h => by unfold chkIt at h; cases h
  | .enum a, X, C, W, ct, tg, iter, G, h => by
    unfold chkIt at h
    cases tg with
    | Tuple elts kk tpos =>
      cases iter with
      | Call f as ks pos =>
        match f, as, ks, h with
        | .Name x p, [b], [], h =>
          obtain ⟨h1, k1⟩ := and2 h
          obtain ⟨h2, k2⟩ := and2 k1
          obtain ⟨h3, k3⟩ := and2 k2
          obtain ⟨h4, k4⟩ := and2 k3
          have h1 := eq_of_beq h1
          obtain ⟨f1, f2, f3⟩ := G.fr h2
          have pe := (snd_e a G k4).1 rfl
          subst h1
          exact ⟨pi_enum' G.K f1 f2 (sa_cons h4 pe sa_nil (star_cons h3)) (star_one h3), fun env x => rfl⟩
      | _ => cases h
    | _ => cases h
  | .revd a', X, C, W, ct, tg, iter, G, h => by
    unfold chkIt at h
    cases iter with
    | Call f as ks pos =>
      match f, as, ks, h with
      | .Name x p, [b], [], h =>
        obtain ⟨h1, k1⟩ := and2 h
        obtain ⟨h2, k2⟩ := and2 k1
        obtain ⟨h3, k3⟩ := and2 k2
        have h1 := eq_of_beq h1
        obtain ⟨f1, f2, f3⟩ := G.fr h2
        have pe := (snd_e a' G k3).1 rfl
        subst h1
        exact ⟨pi_revd G.K f1 f2 pe (star_cons h3), fun env x => rfl⟩
    | _ => cases h
  | .zip a' b', X, C, W, ct, tg, iter, G, h => by
    unfold chkIt at h
    cases tg with
    | Tuple elts kk tpos =>
      cases iter with
      | Call f as ks pos =>
        match f, as, ks, h with
        | .Name x p, [a, b], [], h =>
          obtain ⟨h1, k1⟩ := and2 h
          obtain ⟨h2, k2⟩ := and2 k1
          obtain ⟨h3, k3⟩ := and2 k2
          obtain ⟨h4, k4⟩ := and2 k3
          obtain ⟨h5, k5⟩ := and2 k4
          obtain ⟨h6, k6⟩ := and2 k5
          obtain ⟨h7, h8⟩ := and2 k6
          have h1 := eq_of_beq h1
          obtain ⟨f1, f2, f3⟩ := G.fr h2
          have pe := (snd_e a' G h7).1 rfl
          have pe2 := (snd_e b' G h8).1 rfl
          subst h1
          have hb2 : noStars [b] = true := by
            show (noStar b && true) = true
            rw [h4]
            rfl
          exact ⟨pi_zip' G.K f1 f2 (sa_cons h5 pe (sa_cons h6 pe2 sa_nil (star_cons h4)) (star_cons h3)) (star_cons h3) (star_any hb2), fun env x => rfl⟩
      | _ => cases h
    | _ => cases h
end
end Ly

namespace Ly
open PySem PySem.Spec L2
def swB (ct : Ct) (t : Str) (p vp : Pos) (scope : Scope) : Bool := ct.sc.names.lookup t == some .local && p.line == vp.line && !(scope.names.any fun (n, k) => n == t && (k == .local || k == .cell))
def isDc : E → Bool
  | .dc _ _ _ _ _ _ => true
  | _ => false
def isLc : E → Bool
  | .lc _ _ _ _ _ => true
  | _ => false
def nmsC (ct : Ct) (n : Nat) (e : Expr) : Option Str := match e with
  | .Name id pos => if (ct.sc.names.lookup id == some NameKind.local && pos.line == n) = true then some id else none
  | _ => none
/-- a, b = x, y: stored in the order of the text -/
def noSw (ct : Ct) (ts vs : List Expr) : Bool := !(ts.length == 2 || ts.length == 3) || (vs.length != ts.length || ((ts.filterMap (nmsC ct ((ts.head?.map (·.pos.line)).getD 0))).length != ts.length || vs.all (foldedForSure 8)))
def noSwE (ct : Ct) (ts : List Expr) (e : Expr) : Bool := match e with
  | .Tuple vs _ _ => noSw ct ts vs
  | _ => true
mutual
def chkS : S → List Nat → Ct → Stmt → Bool
  | .pass, P, ct, st => (match st with
    | .Pass _ => true
    | .Expr v _ => (match v with
      | .Constant (.str _) _ _ => true
      | _ => false)
    | _ => false)
  | .expr e', P, ct, st => (match st with
    | .Expr e _ => noComp e && chkE e' false ct e
    | _ => false)
  | .asg i e', P, ct, st => own e' && (!(P.contains i) && (match st with
    | .Assign ts e _ => (match ts with
      | [.Name x py] => nmB ct i x && (locB ct x && (chkE e' false ct e && (match e with
        | .ListComp _ _ scope vp => isLc e' || !(swB ct x py vp scope)
        | .DictComp _ _ _ scope vp => isDc e' || !(swB ct x py vp scope)
        | _ => noComp e)))
      | _ => false)
    | _ => false))
  | .asgT (.tp tg) e', P, ct, st => (tnss tg).all (fun i => !(P.contains i)) && (match st with
    | .Assign ts e _ => (match ts with
      | [.Tuple xs k p] => noSwE ct xs e && (chkTg (.tp tg) ct (.Tuple xs k p) && chkE e' false ct e)
      | _ => false)
    | _ => false)
  | .asgT (.nm _) _, _, _, _ => false
  | .asgP i j a b, P, ct, st => !(P.contains i) && (!(P.contains j) && ((decide (i ≠ j) && ct.calm) && (match st with
    | .Assign ts e _ => (match ts, e with
      | [.Tuple [.Name x px, .Name y py] _ _], .Tuple [l, r] _ _ => nmB ct i x && (nmB ct j y && (lclB ct x && (lclB ct y && (py.line == px.line && (!(x == y) && (noStar l && (noStar r && (!([l, r].all (foldedForSure 8)) && (!([l, r].all (constantsAlone 8)) && (own a && (own b && (chkE a false ct l && chkE b false ct r))))))))))))
      | _, _ => false)
    | _ => false)))
  | .aug i o e', P, ct, st => !(P.contains i) && (match st with
    | .AugAssign t op e _ => (match t with
      | .Name x _ => decide (ipOp op = some o) && (nmB ct i x && (locB ct x && chkE e' false ct e))
      | _ => false)
    | _ => false)
  | .setI i ix' e', P, ct, st => own e' && (quiet ix' && (match st with
    | .Assign ts e _ => (match ts with
      | [.Subscript (.Name x _) ix _] => vrB ct i x && (noSlice ix && (chkE e' false ct e && chkE ix' false ct ix))
      | _ => false)
    | _ => false))
  | .appP i p e', P, ct, st => (own e' && (quiet p && quiet e')) && (match st with
    | .Expr v p0 => (match v with
      | .Call f as ks cpos => (match f, as, ks with
        | .Attribute (.Subscript (.Name x _) pe _) m apos, [e], [] => m == ("append" : Str) && (apos.endLine == cpos.line && (vrB ct i x && (noSlice pe && (noStar e && (chkE p false ct pe && chkE e' false ct e)))))
        | _, _, _ => false)
      | _ => false)
    | _ => false)
  | .setP i p ix' e', P, ct, st => (own e' && (quiet p && quiet ix')) && (match st with
    | .Assign ts e _ => (match ts with
      | [.Subscript (.Subscript (.Name x _) pe _) ix _] => vrB ct i x && (noSlice pe && (noSlice ix && (chkE e' false ct e && (chkE p false ct pe && chkE ix' false ct ix))))
      | _ => false)
    | _ => false)
  | .augI i ix' o e', P, ct, st => (match st with
    | .AugAssign t op e _ => (match t with
      | .Subscript l ix _ => (match l with
        | .Name x _ => decide (ipOp op = some o) && (vrB ct i x && (noSlice ix && (chkE ix' false ct ix && chkE e' false ct e)))
        | _ => false)
      | _ => false)
    | _ => false)
  | .app i e', P, ct, st => own e' && (match st with
    | .Expr v _ => (match v with
      | .Call f as ks cpos => (match f, as, ks with
        | .Attribute (.Name x _) m apos, [e], [] => m == ("append" : Str) && (apos.endLine == cpos.line && (vrB ct i x && (noStar e && chkE e' false ct e)))
        | _, _, _ => false)
      | _ => false)
    | _ => false)
  | .lme m i es, P, ct, st => (match m, es with
    | .ext, .cons e' .nil => (match st with
      | .Expr v _ => (match v with
        | .Call f as ks cpos => (match f, as, ks with
          | .Attribute (.Name x _) nm apos, [e], [] => nm == ("extend" : Str) && (apos.endLine == cpos.line && (vrB ct i x && (noStar e && chkE e' false ct e)))
          | _, _, _ => false)
        | _ => false)
      | _ => false)
    | .ins, .cons a' (.cons b' .nil) => own a' && (own b' && (match st with
      | .Expr v _ => (match v with
        | .Call f as ks cpos => (match f, as, ks with
          | .Attribute (.Name x _) nm apos, [a, b], [] => nm == ("insert" : Str) && (apos.endLine == cpos.line && (vrB ct i x && (noStar a && (noStar b && (chkE a' false ct a && chkE b' false ct b)))))
          | _, _, _ => false)
        | _ => false)
      | _ => false))
    | _, _ => false)
  | .iff c a b, P, ct, st => (match st with
    | .If x as bs _ => chkE c true ct x && (chkSs a P ct as && chkSs b P ct bs)
    | _ => false)
  | .whl c b, P, ct, st => (match st with
    | .While x bs es _ => (match es with
      | [] => chkE c true ct x && chkSs b P ct bs
      | _ => false)
    | _ => false)
  | .forr tg it b, P, ct, st => ((tns tg).all (fun i => !(P.contains i)) && ct.calm) && (match st with
    | .For t iter bs es _ => (match es with
      | [] => chkTg tg ct t && (chkIt it ct t iter && chkSs b P ct bs)
      | _ => false)
    | _ => false)
  | .ret e', P, ct, st => own e' && (match st with
    | .Return v _ => (match v with
      | some e => chkE e' false ct e
      | none => false)
    | _ => false)
  | .retN, P, ct, st => (match st with
    | .Return v _ => (match v with
      | none => true
      | _ => false)
    | _ => false)
  | .brk, P, ct, st => (match st with
    | .Break _ => true
    | _ => false)
  | .cnt, P, ct, st => (match st with
    | .Continue _ => true
    | _ => false)
  | .rai c es, P, ct, st => (match st with
    | .Raise ex cause _ => (match ex, cause with
      | some (.Call f as ks _), none => (match f, as, ks with
        | .Name x _, y :: ys, [] => decide (x = c) && (ct.calm && (ct.rs.contains c && (glB ct c && (okN c && (plainEs es && chkEs es ct (y :: ys))))))
        | _, _, _ => false)
      | _, _ => false)
    | _ => false)
  | .tri b hs, P, ct, st => (match st with
    | .Try body handlers orelse fin _ => (match handlers, orelse, fin with
      | h0 :: hr, [], [] => ct.fa && (chkSs b P ct body && chkH hs P ct.hot (h0 :: hr))
      | _, _, _ => false)
    | _ => false)
def chkSs : Ss → List Nat → Ct → List Stmt → Bool
  | .nil, P, ct, sts => (match sts with
    | [] => true
    | _ => false)
  | .cons s ss, P, ct, sts => (match sts with
    | st :: r => chkS s P ct st && chkSs ss P ct r
    | [] => false)
def chkH : Hs → List Nat → Ct → List ExceptHandler → Bool
  | .nil, P, ct, hs => (match hs with
    | [] => true
    | _ => false)
  | .cons c n h r, P, ct, hs => (match hs with
    | .ExceptHandler ty nm body _ :: rest => (match ty with
      | some (.Name x _) => decide (x = c) && (ct.cls.contains c && (glB ct c && (okN c && ((match n, nm with
        | none, none => true
        | some i, some y => nmB ct i y && (lclB ct y && !(P.contains i))
        | _, _ => false) && ((match body with
        | [] => false
        | _ => true) && (chkSs h P ct body && chkH r P ct rest))))))
      | _ => false)
    | [] => false)
end
variable [Fns]
section
variable {X : Cx} {C : Cfg} {W : WX} {ct : Ct} {P : List Nat}
theorem notP {P : List Nat} {i : Nat} (h : (!(P.contains i)) = true) : i ∉ P := by simpa using h
theorem allP {P is : List Nat} (h : is.all (fun i => !(P.contains i)) = true) : ∀ i ∈ is, i ∉ P := fun i hi => notP (List.all_eq_true.mp h i hi)
theorem sw_no {e : Expr} {t : Option Expr} {n : Nat} {env : Env} (h : noComp e = true) : swapsWith e t n env = pure false := by
  cases e <;> first | rfl | cases h
theorem sw_tup {e : Expr} {xs : List Expr} {k : Nat} {p : Pos} {n : Nat} {env : Env} : swapsWithSole [.Tuple xs k p] e n env = pure false := by
  cases e <;> rfl
theorem sw_sub {e o ix : Expr} {p : Pos} {n : Nat} {env : Env} : swapsWithSole [.Subscript o ix p] e n env = pure false := by
  cases e <;> rfl
theorem ss_no {xs : List Expr} {k : Nat} {p : Pos} {e : Expr} {env : Env} (h : noTup e = true) : swappedStores [.Tuple xs k p] e env = pure none := by
  cases e <;> first
    | (cases h; done)
    | rfl
theorem ss_sub {o ix : Expr} {p : Pos} {e : Expr} {env : Env} : swappedStores [.Subscript o ix p] e env = pure none := by
  cases e <;> rfl
theorem dups {x y : Str} (h : (x == y) = false) : [x, y].eraseDups = [x, y] := by
  have hyx : (y == x) = false := by rw [BEq.comm]; exact h
  show List.eraseDupsBy.loop (· == ·) [x, y] [] = [x, y]
  unfold List.eraseDupsBy.loop
  show List.eraseDupsBy.loop (· == ·) [y] [x] = [x, y]
  unfold List.eraseDupsBy.loop
  have e : ([x].any fun z => y == z) = false := by
    show ((y == x) || false) = false
    rw [hyx]; rfl
  simp only [e]
  rfl
theorem Good.bk (G : Good X C W ct) : X.env.blockKind = .function := by
  unfold Env.blockKind
  rw [G.sc, G.kind]
  rfl
theorem Good.ko (G : Good X C W ct) (x : Str) : X.env.kindOf x = ct.sc.names.lookup x := by
  show X.env.scope.names.lookup x = _
  rw [G.sc]
theorem sw_lc (G : Good X C W ct) {elt : Expr} {gs : List Comprehension} {scope : Scope} {vp py : Pos} {x : Str} {n : Nat} : swapsWith (.ListComp elt gs scope vp) (some (.Name x py)) n X.env = pure (swB ct x py vp scope) := by
  show pure (X.env.blockKind == .function && X.env.kindOf x == some .local && py.line == vp.line && !(scope.names.any fun (n, k) => n == x && (k == .local || k == .cell))) = _
  rw [G.bk, G.ko]
  rfl
theorem sw_dc (G : Good X C W ct) {k elt : Expr} {gs : List Comprehension} {scope : Scope} {vp py : Pos} {x : Str} {n : Nat} : swapsWith (.DictComp k elt gs scope vp) (some (.Name x py)) n X.env = pure (swB ct x py vp scope) := by
  show pure (X.env.blockKind == .function && X.env.kindOf x == some .local && py.line == vp.line && !(scope.names.any fun (n, k) => n == x && (k == .local || k == .cell))) = _
  rw [G.bk, G.ko]
  rfl
theorem lclB_some {x : Str} (h : lclB ct x = true) : ct.sc.names.lookup x = some .local := by
  unfold lclB at h
  split at h
  · assumption
  · cases h
def nmsOf (env : Env) (n : Nat) (e : Expr) : Option Str := match e with
  | .Name id pos => if (env.kindOf id == some NameKind.local && pos.line == n) = true then some id else none
  | _ => none
theorem ss_two (G : Good X C W ct) {x y : Str} {px py pt pt2 : Pos} {kt k2 : Nat} {l r : Expr} (hx : lclB ct x = true) (hy : lclB ct y = true) (hl : (py.line == px.line) = true) (hn : (!(x == y)) = true) (nl : noStar l = true) (nr : noStar r = true) (hf : (!([l, r].all (foldedForSure 8))) = true) (hc : (!([l, r].all (constantsAlone 8))) = true) :
    swappedStores [.Tuple [.Name x px, .Name y py] kt pt] (.Tuple [l, r] k2 pt2) X.env = pure (some [x, y]) := by
  have kx := (G.ko x).trans (lclB_some hx)
  have ky := (G.ko y).trans (lclB_some hy)
  have e2 : (x == y) = false := by simpa using hn
  have e3 : ¬ ([l, r].all (foldedForSure 8) = true) := fun z => by rw [z] at hf; cases hf
  have e4 : ¬ ([l, r].all (constantsAlone 8) = true) := fun z => by rw [z] at hc; cases hc
  have e5 : ¬ (([l, r].any fun e => match e with | .Starred _ _ => true | _ => false) = true) := by
    cases l <;> cases r <;> first | (cases nl; done) | (cases nr; done) | exact Bool.false_ne_true
  have e7 : List.filterMap (nmsOf X.env px.line) [Expr.Name x px, Expr.Name y py] = [x, y] := by
    rw [List.filterMap_cons_some (b := x) (by show (if (X.env.kindOf x == some NameKind.local && px.line == px.line) = true then some x else none) = some x; rw [kx, if_pos (by rw [show (px.line == px.line) = true from beq_self_eq_true _]; rfl)]),
      List.filterMap_cons_some (b := y) (by show (if (X.env.kindOf y == some NameKind.local && py.line == px.line) = true then some y else none) = some y; rw [ky, hl, if_pos (by rfl)]), List.filterMap_nil]
  unfold swappedStores
  show (if (!(2 == 2 || 2 == 3) || 2 != 2 || X.env.blockKind != ScopeKind.function) = true then pure none else
    if ([l, r].any fun e => match e with | .Starred _ _ => true | _ => false) = true then pure none else
    if ((List.filterMap (nmsOf X.env px.line) [Expr.Name x px, Expr.Name y py]).length != 2 || (List.filterMap (nmsOf X.env px.line) [Expr.Name x px, Expr.Name y py]).eraseDups.length != (List.filterMap (nmsOf X.env px.line) [Expr.Name x px, Expr.Name y py]).length) = true then pure none else
    if [l, r].all (foldedForSure 8) = true then pure none else
    if [l, r].all (constantsAlone 8) = true then (do unsupported "assign.tuple-of-constant-expressions:order-of-the-stores"; pure (some (List.filterMap (nmsOf X.env px.line) [Expr.Name x px, Expr.Name y py]))) else pure (some (List.filterMap (nmsOf X.env px.line) [Expr.Name x px, Expr.Name y py]))) = _
  rw [e7, dups e2, if_neg (by rw [G.bk]; exact fun z => by cases z), if_neg e5, if_neg (fun z : ([x, y].length != 2 || [x, y].length != [x, y].length) = true => by cases z), if_neg e3, if_neg e4]
theorem ss_gen (G : Good X C W ct) {xs : List Expr} {k : Nat} {p : Pos} {e : Expr} (h : noSwE ct xs e = true) : swappedStores [.Tuple xs k p] e X.env = pure none := by
  by_cases ht : noTup e = true
  · exact ss_no ht
  · cases e with
    | Tuple vs k2 p2 =>
      have h : noSw ct xs vs = true := h
      have en : nmsOf X.env = nmsC ct := by
        funext n e
        unfold nmsOf nmsC
        cases e <;> first
          | rfl
          | (dsimp only; rw [G.ko])
      have e1 : swappedStores [.Tuple xs k p] (.Tuple vs k2 p2) X.env = (if (!(xs.length == 2 || xs.length == 3) || vs.length != xs.length || X.env.blockKind != ScopeKind.function) = true then pure none else
        if (vs.any fun e => match e with | .Starred _ _ => true | _ => false) = true then pure none else
        if ((xs.filterMap (nmsOf X.env ((xs.head?.map (·.pos.line)).getD 0))).length != xs.length || (xs.filterMap (nmsOf X.env ((xs.head?.map (·.pos.line)).getD 0))).eraseDups.length != (xs.filterMap (nmsOf X.env ((xs.head?.map (·.pos.line)).getD 0))).length) = true then pure none else
        if vs.all (foldedForSure 8) = true then pure none else
        if vs.all (constantsAlone 8) = true then (do unsupported "assign.tuple-of-constant-expressions:order-of-the-stores"; pure (some (xs.filterMap (nmsOf X.env ((xs.head?.map (·.pos.line)).getD 0))))) else pure (some (xs.filterMap (nmsOf X.env ((xs.head?.map (·.pos.line)).getD 0))))) := rfl
      rw [e1]
      by_cases c1 : (!(xs.length == 2 || xs.length == 3) || vs.length != xs.length || X.env.blockKind != ScopeKind.function) = true
      · rw [if_pos c1]
      · rw [if_neg c1]
        by_cases c2 : (vs.any fun e => match e with | .Starred _ _ => true | _ => false) = true
        · rw [if_pos c2]
        · rw [if_neg c2, en]
          by_cases c3 : ((xs.filterMap (nmsC ct ((xs.head?.map (·.pos.line)).getD 0))).length != xs.length || (xs.filterMap (nmsC ct ((xs.head?.map (·.pos.line)).getD 0))).eraseDups.length != (xs.filterMap (nmsC ct ((xs.head?.map (·.pos.line)).getD 0))).length) = true
          · rw [if_pos c3]
          · rw [if_neg c3]
            have c4 : vs.all (foldedForSure 8) = true := by
              unfold noSw at h
              rcases Bool.or_eq_true_iff.mp h with z | h
              · exact absurd (by rw [z]; rfl) c1
              · rcases Bool.or_eq_true_iff.mp h with z | h
                · exact absurd (by rw [z, Bool.or_true]; rfl) c1
                · rcases Bool.or_eq_true_iff.mp h with z | h
                  · exact absurd (by rw [z]; rfl) c3
                  · exact h
            rw [if_pos c4]
    | _ => exact absurd rfl ht
theorem asg_one {tg : Expr} {env : Env} (h : noStar tg = true) : (assignEach [tg] env).map (·.2) = [assign tg env] := by rw [asg_cons h]; rfl
theorem asg_sub {o ix : Expr} {p : Pos} {env : Env} (h : noSlice ix = true) : ∀ v, assign (.Subscript o ix p) env v = (do
      let ov ← holding [v] (eval o env)
      let iv ← holding [v, ov] (eval ix env)
      standAt p
      holding [v, ov, iv] (setItem ov iv v)
      release [v, ov, iv] []) := by
  intro v
  cases ix <;> first | rfl | cases h
theorem lc_calm {ow : List Nat} {tg : Tg} {it : It} {c : Es} {elt : E} {x tg' iter : Expr} {ifs : List Expr} {scope : Scope} {vp : Pos} (h : chkE (.lc ow tg it c elt) false ct (.ListComp x [⟨tg', iter, ifs, 0⟩] scope vp) = true) : ct.calm = true := by
  unfold chkE at h
  exact (and2 (and2 h).1).2
theorem dc_calm {ow : List Nat} {tg : Tg} {it : It} {c : Es} {ke elt : E} {kx x tg' iter : Expr} {ifs : List Expr} {scope : Scope} {vp : Pos} (h : chkE (.dc ow tg it c ke elt) false ct (.DictComp kx x [⟨tg', iter, ifs, 0⟩] scope vp) = true) : ct.calm = true := by
  unfold chkE at h
  exact (and2 (and2 h).1).2
/-- a comprehension's parts -/
theorem lc_parts (G : Good X C W ct) {ow : List Nat} {tg : Tg} {it : It} {c : Es} {elt : E} {x tg' iter : Expr} {ifs : List Expr} {scope : Scope} {vp : Pos} (h : chkE (.lc ow tg it c elt) false ct (.ListComp x [⟨tg', iter, ifs, 0⟩] scope vp) = true) :
    own elt = true ∧ (∀ i ∈ tns tg, i ∈ (ownN ct ow).map (·.2)) ∧ PI X tg' iter (tI C W it) ∧ BlkOk X.N X.env.scope scope (ownN ct ow) ∧
    (∀ (s : Shared) (H : Hp) (Cc : Addr) (cl : List (Str × Addr)) (fp : List Addr), PG (X.blk s H scope (compEnvC scope cl Cc X.env) fp) tg' (tG C.K tg)) ∧ (∀ (s : Shared) (H : Hp) (Cc : Addr) (cl : List (Str × Addr)) (fp : List Addr), PTs (X.blk s H scope (compEnvC scope cl Cc X.env) fp) ifs (tCs C WF c)) ∧
    (∀ (s : Shared) (H : Hp) (Cc : Addr) (cl : List (Str × Addr)) (fp : List Addr), PE (X.blk s H scope (compEnvC scope cl Cc X.env) fp) x (tD C WF elt)) ∧ ∀ env x, foldedSetIterable iter env x = pure x := by
  unfold chkE at h
  obtain ⟨h0, h⟩ := and2 h
  obtain ⟨h1, h⟩ := and2 h
  obtain ⟨h2, h⟩ := and2 h
  obtain ⟨h3, h⟩ := and2 h
  obtain ⟨h4, h⟩ := and2 h
  obtain ⟨h5, h⟩ := and2 h
  obtain ⟨h6, h7⟩ := and2 h
  have hk := blk_kind h4
  obtain ⟨p1, p2⟩ := snd_it it G h3
  refine ⟨h1, ?_, p1, by rw [G.N, G.sc]; exact blkOk_by h4, fun s H Cc cl fp => snd_tg tg (G.blk s H scope hk Cc cl fp) h5, fun s H Cc cl fp => snd_c c (G.blk s H scope hk Cc cl fp) h6, fun s H Cc cl fp => (snd_e elt (G.blk s H scope hk Cc cl fp) h7).1 rfl, p2⟩
  rw [own_map]
  intro i hi
  have := List.all_eq_true.mp h2 i hi
  simpa using this
theorem dc_parts (G : Good X C W ct) {ow : List Nat} {tg : Tg} {it : It} {c : Es} {ke elt : E} {kx x tg' iter : Expr} {ifs : List Expr} {scope : Scope} {vp : Pos} (h : chkE (.dc ow tg it c ke elt) false ct (.DictComp kx x [⟨tg', iter, ifs, 0⟩] scope vp) = true) :
    own elt = true ∧ (∀ i ∈ tns tg, i ∈ (ownN ct ow).map (·.2)) ∧ PI X tg' iter (tI C W it) ∧ BlkOk X.N X.env.scope scope (ownN ct ow) ∧
    (∀ (s : Shared) (H : Hp) (Cc : Addr) (cl : List (Str × Addr)) (fp : List Addr), PG (X.blk s H scope (compEnvC scope cl Cc X.env) fp) tg' (tG C.K tg)) ∧ (∀ (s : Shared) (H : Hp) (Cc : Addr) (cl : List (Str × Addr)) (fp : List Addr), PTs (X.blk s H scope (compEnvC scope cl Cc X.env) fp) ifs (tCs C WF c)) ∧
    (∀ (s : Shared) (H : Hp) (Cc : Addr) (cl : List (Str × Addr)) (fp : List Addr), PE (X.blk s H scope (compEnvC scope cl Cc X.env) fp) kx (tD C WF ke)) ∧ (∀ (s : Shared) (H : Hp) (Cc : Addr) (cl : List (Str × Addr)) (fp : List Addr), PE (X.blk s H scope (compEnvC scope cl Cc X.env) fp) x (tD C WF elt)) ∧ ∀ env x, foldedSetIterable iter env x = pure x := by
  unfold chkE at h
  obtain ⟨h0, h⟩ := and2 h
  obtain ⟨h1, h⟩ := and2 h
  obtain ⟨h2, h⟩ := and2 h
  obtain ⟨h3, h⟩ := and2 h
  obtain ⟨h4, h⟩ := and2 h
  obtain ⟨h5, h⟩ := and2 h
  obtain ⟨h6, h⟩ := and2 h
  obtain ⟨h7, h8⟩ := and2 h
  have hk := blk_kind h4
  obtain ⟨p1, p2⟩ := snd_it it G h3
  refine ⟨h1, ?_, p1, by rw [G.N, G.sc]; exact blkOk_by h4, fun s H Cc cl fp => snd_tg tg (G.blk s H scope hk Cc cl fp) h5, fun s H Cc cl fp => snd_c c (G.blk s H scope hk Cc cl fp) h6, fun s H Cc cl fp => (snd_e ke (G.blk s H scope hk Cc cl fp) h7).1 rfl, fun s H Cc cl fp => (snd_e elt (G.blk s H scope hk Cc cl fp) h8).1 rfl, p2⟩
  rw [own_map]
  intro i hi
  have := List.all_eq_true.mp h2 i hi
  simpa using this
end
mutual
theorem snd_s : ∀ (b : S) {X : Cx} {C : Cfg} {W : WX} {ct : Ct} {P : List Nat} {st : Stmt}, Good X C W ct → PassesOwn (model X.prog X.w) X.A X.env X.xe → chkS b P ct st = true → PS X st (tS C W P b)
  | .pass, X, C, W, ct, P, st, G, po, h => by
    unfold chkS at h
    cases st with
    | Pass p => exact s_pass
    | Expr v p =>
      match v, h with
      | .Constant (.str x) j p', h => exact s_doc
    | _ => cases h
  | .expr e', X, C, W, ct, P, st, G, po, h => by
    unfold chkS at h
    cases st with
    | Expr v p =>
      obtain ⟨h1, h2⟩ := and2 h
      exact s_expr ((snd_e e' G h2).1 rfl) (sw_no h1)
    | _ => cases h
  | .asg i e', X, C, W, ct, P, st, G, po, h => by
    unfold chkS at h
    obtain ⟨ho, h⟩ := and2 h
    obtain ⟨hP, h⟩ := and2 h
    cases st with
    | Assign ts e p =>
      match ts, h with
      | [.Name x py], h =>
        obtain ⟨h1, h⟩ := and2 h
        obtain ⟨h2, h⟩ := and2 h
        obtain ⟨h3, h⟩ := and2 h
        have pe := (snd_e e' G h3).1 rfl
        have hN : X.N.Nodup := by rw [G.N]; exact G.nd
        by_cases hc : noComp e = true
        · exact s_asg ho (notP hP) hN (G.nm h1) (G.loc h2).1 (G.loc h2).2 pe (sw_no hc)
        · cases e with
          | ListComp elt gs scope vp =>
            have h : (isLc e' || !(swB ct x py vp scope)) = true := h
            by_cases hs : swB ct x py vp scope = true
            · have hl : isLc e' = true := by rw [hs] at h; simpa using h
              cases e' with
              | lc ow tg it c elt' =>
                have h3' := h3
                unfold chkE at h3'
                match gs, h3', h3 with
                | [⟨tg', iter, ifs, 0⟩], _, h3 =>
                  obtain ⟨q1, q2, q3, q4, q5, q6, q7, q8⟩ := lc_parts G h3
                  have hx : X.env.scope.names.lookup x = some .local := by
                    rw [G.sc]
                    have := (and2 (and2 hs).1).1
                    exact eq_of_beq this
                  have := s_asgLc (W := W) (P := P) (ow := ownN ct ow) (spos := p) (pos := vp) (py := py) q1 q2 (notP hP) (G.calm (lc_calm h3)) hN (G.nm h1) hx (by rw [sw_lc G, hs]) q3 q4 q5 q6 q7 (q8 X.env)
                  rw [own_map] at this
                  exact this
              | _ => cases hl
            · exact s_asg ho (notP hP) hN (G.nm h1) (G.loc h2).1 (G.loc h2).2 pe (by rw [sw_lc G]; simp [hs])
          | SetComp _ _ _ _ => cases h
          | DictComp kx elt gs scope vp =>
            have h : (isDc e' || !(swB ct x py vp scope)) = true := h
            by_cases hs : swB ct x py vp scope = true
            · have hl : isDc e' = true := by rw [hs] at h; simpa using h
              cases e' with
              | dc ow tg it c ke elt' =>
                have h3' := h3
                unfold chkE at h3'
                match gs, h3', h3 with
                | [⟨tg', iter, ifs, 0⟩], _, h3 =>
                  obtain ⟨q1, q2, q3, q4, q5, q6, q7, q8, q9⟩ := dc_parts G h3
                  have hx : X.env.scope.names.lookup x = some .local := by
                    rw [G.sc]
                    have := (and2 (and2 hs).1).1
                    exact eq_of_beq this
                  have := s_asgDc (W := W) (P := P) (ow := ownN ct ow) (spos := p) (pos := vp) (py := py) q1 q2 (notP hP) (G.calm (dc_calm h3)) hN (G.nm h1) hx (by rw [sw_dc G, hs]) q3 q4 q5 q6 q7 q8 (q9 X.env)
                  rw [own_map] at this
                  exact this
              | _ => cases hl
            · exact s_asg ho (notP hP) hN (G.nm h1) (G.loc h2).1 (G.loc h2).2 pe (by rw [sw_dc G]; simp [hs])
          | _ => exact absurd rfl hc
    | _ => cases h
  | .asgT (.tp tg) e', X, C, W, ct, P, st, G, po, h => by
    unfold chkS at h
    obtain ⟨hP, h⟩ := and2 h
    cases st with
    | Assign ts e p =>
      match ts, h with
      | [.Tuple xs k p'], h =>
        obtain ⟨h1, h⟩ := and2 h
        obtain ⟨h2, h3⟩ := and2 h
        exact s_asgT (allP hP) ((snd_e e' G h3).1 rfl) (snd_tg (.tp tg) G h2) sw_tup (ss_gen G h1) (asg_one rfl)
    | _ => cases h
  | .asgT (.nm _) _, X, C, W, ct, P, st, G, po, h => by unfold chkS at h; cases h
  | .asgP i j a b, X, C, W, ct, P, st, G, po, h => by
    unfold chkS at h
    obtain ⟨hPi, h⟩ := and2 h
    obtain ⟨hPj, h⟩ := and2 h
    obtain ⟨hij, h⟩ := and2 h
    cases st with
    | Assign ts e p =>
      match ts, e, h with
      | [.Tuple [.Name x px, .Name y py] kt pt], .Tuple [l, r] k2 pt2, h =>
        obtain ⟨h1, h⟩ := and2 h
        obtain ⟨h2, h⟩ := and2 h
        obtain ⟨h3, h⟩ := and2 h
        obtain ⟨h4, h⟩ := and2 h
        obtain ⟨h5, h⟩ := and2 h
        obtain ⟨h6, h⟩ := and2 h
        obtain ⟨h7, h⟩ := and2 h
        obtain ⟨h8, h⟩ := and2 h
        obtain ⟨h9, h⟩ := and2 h
        obtain ⟨ha, h⟩ := and2 h
        obtain ⟨hb, h⟩ := and2 h
        obtain ⟨hc, h⟩ := and2 h
        obtain ⟨hd, he⟩ := and2 h
        exact s_asgP (notP hPi) (notP hPj) (G.calm (and2 hij).2) (by rw [G.N]; exact G.nd) (G.nm h1) (G.nm h2) (of_decide_eq_true (and2 hij).1) (by rw [G.sc]; exact lclB_some h3) (by rw [G.sc]; exact lclB_some h4)
          (sa_cons hb ((snd_e a G hd).1 rfl) (sa_cons hc ((snd_e b G he).1 rfl) sa_nil (star_cons h8)) (star_cons h7)) (ss_two G h3 h4 h5 h6 h7 h8 h9 ha) sw_tup
    | _ => cases h
  | .aug i o e', X, C, W, ct, P, st, G, po, h => by
    unfold chkS at h
    obtain ⟨hP, h⟩ := and2 h
    cases st with
    | AugAssign t op e p =>
      cases t with
      | Name x p' =>
        obtain ⟨h1, h⟩ := and2 h
        obtain ⟨h2, h⟩ := and2 h
        obtain ⟨h3, h4⟩ := and2 h
        exact s_aug (of_decide_eq_true h1) (notP hP) (by rw [G.N]; exact G.nd) (G.nm h2) (G.loc h3).1 (G.loc h3).2 ((snd_e e' G h4).1 rfl)
      | _ => cases h
    | _ => cases h
  | .setI i ix' e', X, C, W, ct, P, st, G, po, h => by
    unfold chkS at h
    obtain ⟨ho, h⟩ := and2 h
    obtain ⟨hq, h⟩ := and2 h
    cases st with
    | Assign ts e p =>
      match ts, h with
      | [.Subscript (.Name x p') ix tp], h =>
        obtain ⟨h1, h⟩ := and2 h
        obtain ⟨h2, h⟩ := and2 h
        obtain ⟨h3, h4⟩ := and2 h
        obtain ⟨v1, v2, v3, v4⟩ := G.vr h1
        exact s_setI G.K (by have := G.un; omega) ho v1 v2 v3 v4 ((snd_e e' G h3).1 rfl) ((snd_e ix' G h4).1 rfl) hq (asg_sub h2) sw_sub ss_sub (asg_one rfl)
    | _ => cases h
  | .appP i p e', X, C, W, ct, P, st, G, po, h => by
    unfold chkS at h
    obtain ⟨hq, h⟩ := and2 h
    obtain ⟨ho, hq⟩ := and2 hq
    obtain ⟨hq1, hq2⟩ := and2 hq
    cases st with
    | Expr v p0 =>
      cases v with
      | Call f as ks cpos =>
        match f, as, ks, h with
        | .Attribute (.Subscript (.Name x p') pe p2) m apos, [e], [], h =>
          obtain ⟨h1, k1⟩ := and2 h
          obtain ⟨h2, k2⟩ := and2 k1
          obtain ⟨h3, k3⟩ := and2 k2
          obtain ⟨h4, k4⟩ := and2 k3
          obtain ⟨h5, k5⟩ := and2 k4
          obtain ⟨h6, h7⟩ := and2 k5
          obtain ⟨v1, v2, v3, v4⟩ := G.vr h3
          have pp := (snd_e p G h6).1 rfl
          have pe' := (snd_e e' G h7).1 rfl
          have h1 := eq_of_beq h1
          subst h1
          have hb2 : noStars [e] = true := by
            show (noStar e && true) = true
            rw [h5]
            rfl
          exact s_appP G.K ho hq1 hq2 v1 v2 v3 v4 pp (plain_ix h4) (sa_cons ho pe' sa_nil (star_cons h5)) rfl (by rw [star_all hb2]; rfl) h2 (star_cons h5) rfl rfl
      | _ => cases h
    | _ => cases h
  | .setP i p ix' e', X, C, W, ct, P, st, G, po, h => by
    unfold chkS at h
    obtain ⟨hq, h⟩ := and2 h
    obtain ⟨ho, hq⟩ := and2 hq
    obtain ⟨hq1, hq2⟩ := and2 hq
    cases st with
    | Assign ts e p0 =>
      match ts, h with
      | [.Subscript (.Subscript (.Name x p') pe p2) ix tpos], h =>
        obtain ⟨h1, h⟩ := and2 h
        obtain ⟨h2, h⟩ := and2 h
        obtain ⟨h3, h⟩ := and2 h
        obtain ⟨h4, h⟩ := and2 h
        obtain ⟨h5, h6⟩ := and2 h
        obtain ⟨v1, v2, v3, v4⟩ := G.vr h1
        exact s_setP G.K (by have := G.un; omega) ho hq1 hq2 v1 v2 v3 v4 ((snd_e e' G h4).1 rfl) ((snd_e p G h5).1 rfl) (plain_ix h2) ((snd_e ix' G h6).1 rfl) (asg_sub h3) sw_sub ss_sub (asg_one rfl)
    | _ => cases h
  | .augI i ix' o e', X, C, W, ct, P, st, G, po, h => by
    unfold chkS at h
    cases st with
    | AugAssign t op e pos =>
      cases t with
      | Subscript l ix p =>
        cases l with
        | Name x p2 =>
          obtain ⟨h1, h⟩ := and2 h
          obtain ⟨h2, h⟩ := and2 h
          obtain ⟨h3, h⟩ := and2 h
          obtain ⟨h4, h5⟩ := and2 h
          obtain ⟨v1, v2, v3, v4⟩ := G.vr h2
          exact s_augI (of_decide_eq_true h1) G.K (by have := G.un; omega) v1 v2 v3 v4 (by intros; cases ix <;> first | rfl | cases h3) ((snd_e ix' G h4).1 rfl) ((snd_e e' G h5).1 rfl)
        | _ => cases h
      | _ => cases h
    | _ => cases h
  | .app i e', X, C, W, ct, P, st, G, po, h => by
    unfold chkS at h
    obtain ⟨ho, h⟩ := and2 h
    cases st with
    | Expr v p =>
      cases v with
      | Call f as ks cpos =>
        match f, as, ks, h with
        | .Attribute (.Name x p') m apos, [e], [], h =>
          obtain ⟨h1, k1⟩ := and2 h
          obtain ⟨h2, k2⟩ := and2 k1
          obtain ⟨h3, k3⟩ := and2 k2
          obtain ⟨h4, k4⟩ := and2 k3
          obtain ⟨v1, v2, v3, v4⟩ := G.vr h3
          have pe := (snd_e e' G k4).1 rfl
          have h1 := eq_of_beq h1
          subst h1
          have hb2 : noStars [e] = true := by
            show (noStar e && true) = true
            rw [h4]
            rfl
          exact s_app G.K ho v1 v2 v3 v4 (sa_cons ho pe sa_nil (star_cons h4)) rfl (by rw [star_all hb2]; rfl) h2 (star_cons h4) rfl rfl
      | _ => cases h
    | _ => cases h
  | .lme m i es, X, C, W, ct, P, st, G, po, h => by
    unfold chkS at h
    match m, es, h with
    | .ext, .cons e' .nil, h =>
      cases st with
      | Expr v p =>
        cases v with
        | Call f as ks cpos =>
          match f, as, ks, h with
          | .Attribute (.Name x p') nm apos, [e], [], h =>
            obtain ⟨h1, k1⟩ := and2 h
            obtain ⟨h2, k2⟩ := and2 k1
            obtain ⟨h3, k3⟩ := and2 k2
            obtain ⟨h4, k4⟩ := and2 k3
            obtain ⟨v1, v2, v3, v4⟩ := G.vr h3
            have pe := (snd_e e' G k4).1 rfl
            have h1 := eq_of_beq h1
            subst h1
            have hb2 : noStars [e] = true := by
              show (noStar e && true) = true
              rw [h4]
              rfl
            exact s_ext G.K v1 v2 v3 v4 pe rfl (by rw [star_all hb2]; rfl) h2 (star_cons h4) rfl rfl
        | _ => cases h
      | _ => cases h
    | .ins, .cons a' (.cons b' .nil), h =>
      obtain ⟨ho, h⟩ := and2 h
      obtain ⟨ho2, h⟩ := and2 h
      cases st with
      | Expr v p =>
        cases v with
        | Call f as ks cpos =>
          match f, as, ks, h with
          | .Attribute (.Name x p') nm apos, [a, b], [], h =>
            obtain ⟨h1, k1⟩ := and2 h
            obtain ⟨h2, k2⟩ := and2 k1
            obtain ⟨h3, k3⟩ := and2 k2
            obtain ⟨h4, k4⟩ := and2 k3
            obtain ⟨h5, k5⟩ := and2 k4
            obtain ⟨h6, h7⟩ := and2 k5
            obtain ⟨v1, v2, v3, v4⟩ := G.vr h3
            have pe := (snd_e a' G h6).1 rfl
            have pe2 := (snd_e b' G h7).1 rfl
            have h1 := eq_of_beq h1
            subst h1
            have hb2 : noStars [a, b] = true := by
              show (noStar a && (noStar b && true)) = true
              rw [h4, h5]
              rfl
            have hb3 : noStars [b] = true := by
              show (noStar b && true) = true
              rw [h5]
              rfl
            exact s_ins G.K v1 v2 v3 v4 (sa_cons ho pe (sa_cons ho2 pe2 sa_nil (star_cons h5)) (star_cons h4)) rfl (by rw [star_all hb2]; rfl) h2 (star_cons h4) (star_any hb3) rfl
        | _ => cases h
      | _ => cases h
    | .rem, _, h => cases h
    | .ext, .nil, h => cases h
    | .ext, .io _ _, h => cases h
    | .ext, .cons _ (.cons _ _), h => cases h
    | .ext, .cons _ (.io _ _), h => cases h
    | .ins, .nil, h => cases h
    | .ins, .io _ _, h => cases h
    | .ins, .cons _ .nil, h => cases h
    | .ins, .cons _ (.io _ _), h => cases h
    | .ins, .cons _ (.cons _ (.cons _ _)), h => cases h
    | .ins, .cons _ (.cons _ (.io _ _)), h => cases h
  | .iff c a b, X, C, W, ct, P, st, G, po, h => by
    unfold chkS at h
    cases st with
    | If x as bs p =>
      obtain ⟨h1, h⟩ := and2 h
      obtain ⟨h2, h3⟩ := and2 h
      exact s_iff ((snd_e c G h1).2 rfl) (snd_ss a G po h2) (snd_ss b G po h3)
    | _ => cases h
  | .whl c b, X, C, W, ct, P, st, G, po, h => by
    unfold chkS at h
    cases st with
    | While x bs es p =>
      match es, h with
      | [], h =>
        obtain ⟨h1, h2⟩ := and2 h
        exact s_whl po ((snd_e c G h1).2 rfl) (snd_ss b G po h2)
    | _ => cases h
  | .forr tg it b, X, C, W, ct, P, st, G, po, h => by
    unfold chkS at h
    obtain ⟨hP, h⟩ := and2 h
    cases st with
    | For t iter bs es p =>
      match es, h with
      | [], h =>
        obtain ⟨h1, h⟩ := and2 h
        obtain ⟨h2, h3⟩ := and2 h
        obtain ⟨p1, p2⟩ := snd_it it G h2
        exact s_for (allP (and2 hP).1) po (G.calm (and2 hP).2) p1 (snd_tg tg G h1) (snd_ss b G po h3) (p2 X.env)
    | _ => cases h
  | .ret e', X, C, W, ct, P, st, G, po, h => by
    unfold chkS at h
    obtain ⟨ho, h⟩ := and2 h
    cases st with
    | Return v p =>
      cases v with
      | some e => exact s_ret ho ((snd_e e' G h).1 rfl)
      | none => cases h
    | _ => cases h
  | .retN, X, C, W, ct, P, st, G, po, h => by
    unfold chkS at h
    cases st with
    | Return v p =>
      cases v with
      | some e => cases h
      | none => exact s_retN
    | _ => cases h
  | .brk, X, C, W, ct, P, st, G, po, h => by
    unfold chkS at h
    cases st with
    | Break p => exact s_brk
    | _ => cases h
  | .cnt, X, C, W, ct, P, st, G, po, h => by
    unfold chkS at h
    cases st with
    | Continue p => exact s_cnt
    | _ => cases h
  | .rai c es, X, C, W, ct, P, st, G, po, h => by
    unfold chkS at h
    cases st with
    | Raise ex cause p =>
      match ex, cause, h with
      | some (.Call f as ks p2), none, h =>
        match f, as, ks, h with
        | .Name x p3, y :: ys, [], h =>
          obtain ⟨h1, h⟩ := and2 h
          obtain ⟨h2, h⟩ := and2 h
          obtain ⟨h3, h⟩ := and2 h
          obtain ⟨h4, h⟩ := and2 h
          obtain ⟨h5, h⟩ := and2 h
          obtain ⟨h6, h7⟩ := and2 h
          have h1 := of_decide_eq_true h1
          subst h1
          obtain ⟨ns, n1, n2, n3⟩ := G.xm h2 _ h3
          obtain ⟨pa, ps⟩ := snd_es es G h7
          exact s_rai (G.calm h2) G.tk G.K G.er (fun ns' hn => by rw [n1] at hn; exact (Option.some.inj hn).symm) n2 n3 (G.gl h4) (okN_d h5) h6 pa (star_cons (and2 ps).1) (star_any (and2 ps).2)
    | _ => cases h
  | .tri b hs, X, C, W, ct, P, st, G, po, h => by
    unfold chkS at h
    cases st with
    | Try body handlers orelse fin p =>
      match handlers, orelse, fin, h with
      | h0 :: hr, [], [], h =>
        obtain ⟨h1, h⟩ := and2 h
        obtain ⟨h2, h3⟩ := and2 h
        exact s_tri (G.stk h1).1 (G.stk h1).2 (by rw [G.N]; exact G.nd) G.tk G.K G.er (fun W' pn xe tk po' => snd_ss b (G.tr pn xe tk) po' h2) (snd_h hs G h3)
    | _ => cases h
theorem snd_ss : ∀ (b : Ss) {X : Cx} {C : Cfg} {W : WX} {ct : Ct} {P : List Nat} {sts : List Stmt}, Good X C W ct → PassesOwn (model X.prog X.w) X.A X.env X.xe → chkSs b P ct sts = true → PSs X sts (tSs C W P b)
  | .nil, X, C, W, ct, P, sts, G, po, h => by
    unfold chkSs at h
    cases sts with
    | nil => exact ss_nil
    | cons _ _ => cases h
  | .cons b bs, X, C, W, ct, P, sts, G, po, h => by
    unfold chkSs at h
    cases sts with
    | nil => cases h
    | cons st r =>
      obtain ⟨h1, h2⟩ := and2 h
      exact ss_cons (snd_s b G po h1) (snd_ss bs G po h2)
theorem snd_h : ∀ (hs' : Hs) {X : Cx} {C : Cfg} {W : WX} {ct : Ct} {P : List Nat} {hs : List ExceptHandler}, Good X C W ct → chkH hs' P ct.hot hs = true → HOk X C P hs' hs
  | .nil, X, C, W, ct, P, hs, G, h => by
    unfold chkH at h
    cases hs with
    | nil => exact rfl
    | cons _ _ => cases h
  | .cons c n h r, X, C, W, ct, P, hs, G, hh => by
    unfold chkH at hh
    cases hs with
    | nil => cases hh
    | cons h0 rest =>
      cases h0 with
      | ExceptHandler ty nm body pos' =>
        match ty, hh with
        | some (.Name x np), hh =>
          obtain ⟨h1, hh⟩ := and2 hh
          obtain ⟨h2, hh⟩ := and2 hh
          obtain ⟨h3, hh⟩ := and2 hh
          obtain ⟨h4, hh⟩ := and2 hh
          obtain ⟨h5, hh⟩ := and2 hh
          obtain ⟨h6, hh⟩ := and2 hh
          obtain ⟨h7, h8⟩ := and2 hh
          have h1 := of_decide_eq_true h1
          subst h1
          cases body with
          | nil => cases h6
          | cons b₀ suite =>
            refine ⟨np, b₀, suite, pos', nm, rest, rfl, G.xc _ h2, G.gl h3, okN_d h4, ?_, fun a pn => snd_ss h (G.suite a pn) PassesOwn.never h7, snd_h r G h8⟩
            match n, nm, h5 with
            | none, none, _ => exact True.intro
            | some i, some y, h5 =>
              obtain ⟨g1, g2⟩ := and2 h5
              obtain ⟨g2, g3⟩ := and2 g2
              exact ⟨G.nm g1, (G.ko y).trans (lclB_some g2), notP g3⟩
end
end Ly

namespace Ly
open PySem PySem.Spec L2
/-- the def x may be called: its rank, what it may change, what it does -/
def FnM (C : Cfg) (P : Program) (w : World) (mg : Str → Option Value) (base : Heap) (k : Nat) (x : Str) (io : List Bool) (sem : FSem) : Prop :=
  ∃ (f : Addr) (fd : FuncData) (ps : List Str), mg x = some (.ref f) ∧ FnOk P w C.K mg base (L2.CX P w) k f fd ps (spD C io sem) ∧ PySem.W.keepIn C.K (.ref f) = true ∧ Binds C.K fd ps []
/-- .. by keywords -/
def FnMK (C : Cfg) (P : Program) (w : World) (mg : Str → Option Value) (base : Heap) (k : Nat) (x : Str) (io : List Bool) (ps : List Str) (sem : FSem) : Prop :=
  ∃ (f : Addr) (fd : FuncData), mg x = some (.ref f) ∧ FnOk P w C.K mg base (L2.CX P w) k f fd ps (spD C io sem) ∧ PySem.W.keepIn C.K (.ref f) = true ∧ KB0 C.K fd ps ps
/-- .. by keywords in an order -/
def FnMP (C : Cfg) (P : Program) (w : World) (mg : Str → Option Value) (base : Heap) (k : Nat) (x : Str) (io : List Bool) (ks : List Str) (perm : List Nat) (sem : FSem) : Prop :=
  ∃ (f : Addr) (fd : FuncData) (ps : List Str), mg x = some (.ref f) ∧ FnOk P w C.K mg base (L2.CX P w) k f fd ps (spD C io sem) ∧ PySem.W.keepIn C.K (.ref f) = true ∧ KBP C.K fd ps ks perm
/-- the classes of errors -/
structure XOk (K : PySem.W.Frag) (P : Program) (w : World) (mg : Str → Option Value) (base : Heap) (XX : XT) (cls rs : List Str) : Prop where
  xr : ∀ c ns, xtN XX c = some ns → XR K c ns
  xc : ∀ T, cls.contains T = true → ∃ v u, TyV v u ∧ (mg T = some u ∨ (mg T = none ∧ bootBuiltins T = some u ∧ T ≠ "__name__")) ∧ ∀ c b, xtS XX c T = some b → PySem.W.exmOne K (.ref (He.ga K c)) u = some b ∧ PySem.W.kitOne K (.ref (He.ga K c)) u = some b
  xm : ∀ c, rs.contains c = true → ∃ ns, xtN XX c = some ns ∧ XM P w K mg base c ns
theorem XOk.nil {K : PySem.W.Frag} {P : Program} {w : World} {mg : Str → Option Value} {base : Heap} : XOk K P w mg base [] [] [] := ⟨(fun c ns h => by cases h), (fun T h => by cases h), (fun c h => by cases h)⟩
section
variable {C : Cfg} {P : Program} {w : World} {mg : Str → Option Value} {base : Heap} {x qual : Str} {params : Arguments} {body : List Stmt} {scope : Scope} {kws : List (Str × V)} {f : Addr} {fd : FuncData} {XX : XT} {cls rs : List Str}
theorem def_ok [Fns] {N ps : List Str} {io : List Bool} {k : Nat} {sem : FSem} {bs : Ss} {fns : List (Str × List Bool)} {gls free : List Str} {kws' : List (Str × List Str)} {kwp : List (Str × List Str × List Nat)} {keys : List Str} (hS : Fns.S = xtS XX) (hN : Fns.N = xtN XX) (xo : XOk C.K P w mg base XX cls rs) (her : C.ER = erX C.K) (hk2 : 2 ≤ k) (F : FunD C.K x qual params body scope [] kws f fd) (S : FnScope N ps scope) (hio : io.length = ps.length) (hsem : ∀ ds, sem ds ≠ .bad → runFn N.length io bs ds = sem ds)
    (hf : ∀ (j : Nat) y ioj, fns[j]? = some (y, ioj) → ∃ r, r ≤ k ∧ FnM C P w mg base r y ioj (Fns.F j))
    (hg : ∀ (j : Nat) y, gls[j]? = some y → ∃ v u, mg y = some u ∧ RelV v u ∧ ∀ H, Rep C.K H (Fns.G j) v [])
    (hr : ∀ y, free.contains y = true → mg y = none) (hk : ∀ (j : Nat) y ioj psj, fns[j]? = some (y, ioj) → kws'.lookup y = some psj → ∃ r, r ≤ k ∧ FnMK C P w mg base r y ioj psj (Fns.F j)) (hkp : ∀ (j : Nat) y ioj ks perm, fns[j]? = some (y, ioj) → (y, ks, perm) ∈ kwp → ∃ r, r ≤ k ∧ FnMP C P w mg base r y ioj ks perm (Fns.F j)) (hky : ∀ (j : Nat) y, fns[j]? = some (y, [false]) → keys.contains y = true → ∃ r, r + 2 ≤ k ∧ FnM C P w mg base r y [false] (Fns.F j)) (hc : chkSs bs (ixs io) ⟨N, scope, true, scope, fns, gls, free, kws', kwp, keys, true, cls, rs⟩ body = true) :
    FnOk P w C.K mg base (L2.CX P w) (k + 1) f fd ps (spD C io sem) := by
  refine fn_ok F S hio hsem fun cdv A outer s H E hroom => ?_
  have G : Good (cxOf (L2.CX P w) P w C.K mg base N qual scope f cdv A outer s H E) C (fun cls d _ H => E cls d H) ⟨N, scope, true, scope, fns, gls, free, kws', kwp, keys, true, cls, rs⟩ :=
    { N := rfl
      nd := S.nd
      sc := rfl
      kind := S.kind
      fn := fun _ _ => rfl
      K := rfl
      calm := fun _ => rfl
      stk := fun _ => ⟨rfl, rfl⟩
      er := her
      xr := fun c ns h => xo.xr c ns (by rw [← hN]; exact h)
      xc := fun T h => by
        obtain ⟨v, u, h1, h2, h3⟩ := xo.xc T h
        exact ⟨v, u, h1, h2, fun c b q => h3 c b (by rw [← hS]; exact q)⟩
      xm := fun _ c h => by
        obtain ⟨ns, h1, h2⟩ := xo.xm c h
        exact ⟨ns, by rw [hN]; exact h1, h2, hroom.mono hk2⟩
      un := by
        have := hroom.un
        show (A.deeper (PyProof.Rows.envOfC qual scope s.heap.objs.size f cdv)).units + 70 < cLine
        omega
      tk := takes_of rfl rfl rfl rfl
      fns := fun j y ioj h => by
        obtain ⟨r, hrk, f', fd', ps', h1, h2, h3, h4⟩ := hf j y ioj h
        exact ⟨r, ⟨f', fd', ps', h1, h2, h3, h4⟩, hroom.mono hrk⟩
      gls := hg
      free := hr
      key := fun j y h h' => by
        obtain ⟨r, hrk, f', fd', ps', h1, h2, h3, h4⟩ := hky j y h h'
        exact ⟨r, f', fd', ps', h1, h2, h3, h4, hroom.mono hrk⟩
      kwp := fun j y ioj ks perm h h' => by
        obtain ⟨r, hrk, f', fd', ps', h1, h2, h3, h4⟩ := hkp j y ioj ks perm h h'
        exact ⟨r, ⟨f', fd', ps', h1, h2, h3, h4⟩, hroom.mono hrk⟩
      kw := fun j y ioj psj h h' => by
        obtain ⟨r, hrk, f', fd', h1, h2, h3, h4⟩ := hk j y ioj psj h h'
        exact ⟨r, ⟨f', fd', h1, h2, h3, h4⟩, hroom.mono hrk⟩ }
  exact snd_ss bs G (passes_of rfl) hc
theorem kb0_of {ps : List Str} (F : FunD C.K x qual params body scope [] kws f fd) (h : ∀ (kV doc pm : Value) (an : Option Addr) (cdv ct : Value) (ws : List Value), ws.length = ps.length → bindArgs (PySem.W.fnOf x qual params body scope .none kV doc pm an cdv ct) ⟨[], ps.zip ws⟩ = pure (ps.zip ws)) : KB0 C.K fd ps ps := by
  obtain ⟨oc, od, dV, kV, doc, pm, an, cdv, ct, osl, rfl, lk, hcd, hD, hK⟩ := F.ex
  rcases hD with ⟨_, rfl⟩ | ⟨e, _⟩
  · exact fun s ws _ hl => .of_eq (h kV doc pm an cdv ct ws hl)
  · exact absurd rfl e
theorem kbp_of {ps ks : List Str} {perm : List Nat} (F : FunD C.K x qual params body scope [] kws f fd) (h1 : perm.length = ps.length) (h2 : ∀ n ∈ perm, n < ks.length) (h : ∀ (kV doc pm : Value) (an : Option Addr) (cdv ct : Value) (ws : List Value), ws.length = ks.length → bindArgs (PySem.W.fnOf x qual params body scope .none kV doc pm an cdv ct) ⟨[], ks.zip ws⟩ = pure (ps.zip (permU perm ws))) : KBP C.K fd ps ks perm := by
  obtain ⟨oc, od, dV, kV, doc, pm, an, cdv, ct, osl, rfl, lk, hcd, hD, hK⟩ := F.ex
  rcases hD with ⟨_, rfl⟩ | ⟨e, _⟩
  · exact ⟨h1, h2, fun s ws _ hl => .of_eq (h kV doc pm an cdv ct ws hl)⟩
  · exact absurd rfl e
/-- all that may be called so far -/
def AllF (C : Cfg) (P : Program) (w : World) (mg : Str → Option Value) (base : Heap) (fns : List (Str × List Bool)) (tab : List FSem) (k : Nat) : Prop :=
  fns.length = tab.length ∧ ∀ (j : Nat) y io, fns[j]? = some (y, io) → ∃ r, r ≤ k ∧ FnM C P w mg base r y io (tab.getD j fun _ => .bad)
theorem AllF.nil : AllF C P w mg base [] [] 0 := ⟨rfl, fun j y io h => by simp at h⟩
theorem AllF.snoc {fns : List (Str × List Bool)} {tab : List FSem} {k : Nat} {y : Str} {io : List Bool} {sem : FSem} (a : AllF C P w mg base fns tab k) (F : FnM C P w mg base (k + 1) y io sem) : AllF C P w mg base (fns ++ [(y, io)]) (tab ++ [sem]) (k + 1) := by
  obtain ⟨l, a⟩ := a
  refine ⟨by rw [List.length_append, List.length_append, l]; rfl, fun j z ioz h => ?_⟩
  by_cases hj : j < fns.length
  · rw [List.getElem?_append_left hj] at h
    obtain ⟨r, h1, h2⟩ := a j z ioz h
    refine ⟨r, Nat.le_succ_of_le h1, ?_⟩
    rw [List.getD_eq_getElem?_getD, List.getElem?_append_left (by omega), ← List.getD_eq_getElem?_getD]
    exact h2
  · rw [List.getElem?_append_right (by omega)] at h
    have hj2 : j - fns.length = 0 := by
      cases hh : j - fns.length with
      | zero => rfl
      | succ m => rw [hh] at h; simp at h
    rw [hj2] at h
    cases h
    have e : j = tab.length := by omega
    refine ⟨k + 1, Nat.le_refl _, ?_⟩
    rw [e, List.getD_eq_getElem?_getD, List.getElem?_append_right (Nat.le_refl _), Nat.sub_self]
    exact F
theorem FnM.mk {k : Nat} {io : List Bool} {sem : FSem} {ps : List Str} (hx : mg x = some (.ref f)) (F : FunD C.K x qual params body scope [] kws f fd) (h : FnOk P w C.K mg base (L2.CX P w) k f fd ps (spD C io sem)) (b : Binds C.K fd ps []) : FnM C P w mg base k x io sem := ⟨f, fd, ps, hx, h, F.kp, b⟩
end
section
variable {C : Cfg} {P : Program} {w : World} {mg : Str → Option Value} {base : Heap} {x qual : Str} {params : Arguments} {body : List Stmt} {scope : Scope} {kws : List (Str × V)} {f : Addr} {fd : FuncData} {XX : XT} {cls rs : List Str}
theorem AllF.mono {fns : List (Str × List Bool)} {tab : List FSem} {j k : Nat} (a : AllF C P w mg base fns tab j) (h : j ≤ k) : AllF C P w mg base fns tab k := ⟨a.1, fun i y io e => by
  obtain ⟨r, h1, h2⟩ := a.2 i y io e
  exact ⟨r, Nat.le_trans h1 h, h2⟩⟩
/-- .. keeps its promise -/
theorem rec_ok {N ps : List Str} {io : List Bool} {k : Nat} {bs : Ss} {fns : List (Str × List Bool)} {t : List FSem} {free : List Str} (xo : XOk C.K P w mg base XX cls rs) (her : C.ER = erX C.K) (hk2 : 2 ≤ k) (hx : mg x = some (.ref f)) (F : FunD C.K x qual params body scope [] kws f fd) (S : FnScope N ps scope) (hio : io.length = ps.length) (b : Binds C.K fd ps [])
    (a : AllF C P w mg base fns t k) (hr : ∀ y, free.contains y = true → mg y = none) (hc : chkSs bs (ixs io) ⟨N, scope, true, scope, fns ++ [(x, io)], [], free, [], [], [], true, cls, rs⟩ body = true) : ∀ m : Nat, FnOk P w C.K mg base (L2.CX P w) (k + m) f fd ps (spD C io (recF XX N.length io bs t m))
  | 0 => ⟨fun vs H Q E h => by obtain ⟨ds, S, _, _, z⟩ := h; exact z.elim, fun A outer s H args us vs Q E _ _ _ _ h => by obtain ⟨ds, S, _, _, z⟩ := h; exact z.elim⟩
  | m + 1 => by
    have ih := rec_ok xo her hk2 hx F S hio b a hr hc m
    refine @def_ok C P w mg base x qual params body scope kws f fd XX cls rs (tabF XX (t ++ [recF XX N.length io bs t m])) N ps io (k + m) _ bs (fns ++ [(x, io)]) [] free [] [] [] rfl rfl xo her (by omega) F S hio (fun _ _ => rfl) (fun j y ioj h => ?_) (fun j y h => by simp at h) hr (fun j y ioj psj h h' => by cases h') (fun j y ioj ks perm h h' => by cases h') (fun j y h h' => by cases h') hc
    by_cases hj : j < fns.length
    · rw [List.getElem?_append_left hj] at h
      obtain ⟨r, h1, h2⟩ := a.2 j y ioj h
      refine ⟨r, by omega, ?_⟩
      show FnM C P w mg base r y ioj ((t ++ [recF XX N.length io bs t m]).getD j fun _ => .bad)
      rw [List.getD_eq_getElem?_getD, List.getElem?_append_left (by rw [← a.1]; exact hj), ← List.getD_eq_getElem?_getD]
      exact h2
    · rw [List.getElem?_append_right (by omega)] at h
      have hj2 : j - fns.length = 0 := by
        cases hh : j - fns.length with
        | zero => rfl
        | succ m => rw [hh] at h; simp at h
      rw [hj2] at h
      cases h
      have e : j = t.length := by rw [← a.1]; omega
      refine ⟨k + m, Nat.le_refl _, ?_⟩
      show FnM C P w mg base (k + m) x io ((t ++ [recF XX N.length io bs t m]).getD j fun _ => .bad)
      rw [e, List.getD_eq_getElem?_getD, List.getElem?_append_right (Nat.le_refl _), Nat.sub_self]
      exact FnM.mk hx F ih b
end
theorem kp_all [Fns] {C : Cfg} {P : Program} {w : World} {mg : Str → Option Value} {base : Heap} {k : Nat} {fns : List (Str × List Bool)} {kwp : List (Str × List Str × List Nat)} (nd : (fns.map (·.1)).Nodup) (h : ∀ e ∈ kwp, ∃ c io, fns[c]? = some (e.1, io) ∧ ∃ r, r ≤ k ∧ FnMP C P w mg base r e.1 io e.2.1 e.2.2 (Fns.F c)) : ∀ (j : Nat) y ioj ks perm, fns[j]? = some (y, ioj) → (y, ks, perm) ∈ kwp → ∃ r, r ≤ k ∧ FnMP C P w mg base r y ioj ks perm (Fns.F j) := by
  intro j y ioj ks perm hj he
  obtain ⟨c, io, hc, r, h1, h2⟩ := h _ he
  obtain ⟨hc', ec⟩ := List.getElem?_eq_some_iff.mp hc
  obtain ⟨hj', ej⟩ := List.getElem?_eq_some_iff.mp hj
  have e : j = c := by
    have hp := List.pairwise_iff_getElem.mp nd
    have l1 : j < (fns.map (·.1)).length := by simpa using hj'
    have l2 : c < (fns.map (·.1)).length := by simpa using hc'
    rcases Nat.lt_trichotomy j c with h | h | h
    · exact absurd (by rw [List.getElem_map, List.getElem_map, ej, ec]) (hp j c l1 l2 h)
    · exact h
    · exact absurd (by rw [List.getElem_map, List.getElem_map, ec, ej]) (hp c j l2 l1 h)
  subst e
  rw [hj] at hc
  cases hc
  exact ⟨r, h1, h2⟩
theorem ky_all [Fns] {C : Cfg} {P : Program} {w : World} {mg : Str → Option Value} {base : Heap} {k : Nat} {fns : List (Str × List Bool)} {keys : List Str} (nd : (fns.map (·.1)).Nodup) (h : ∀ x ∈ keys, ∃ c, fns[c]? = some (x, [false]) ∧ ∃ r, r + 2 ≤ k ∧ FnM C P w mg base r x [false] (Fns.F c)) : ∀ (j : Nat) y, fns[j]? = some (y, [false]) → keys.contains y = true → ∃ r, r + 2 ≤ k ∧ FnM C P w mg base r y [false] (Fns.F j) := by
  intro j y hj hy
  obtain ⟨c, hc, r, h1, h2⟩ := h y (by simpa using hy)
  obtain ⟨hc', ec⟩ := List.getElem?_eq_some_iff.mp hc
  obtain ⟨hj', ej⟩ := List.getElem?_eq_some_iff.mp hj
  have hp := List.pairwise_iff_getElem.mp nd
  have l1 : j < (fns.map (·.1)).length := by simpa using hj'
  have l2 : c < (fns.map (·.1)).length := by simpa using hc'
  rcases Nat.lt_trichotomy j c with q | q | q
  · exact absurd (by rw [List.getElem_map, List.getElem_map, ej, ec]) (hp j c l1 l2 q)
  · subst q; exact ⟨r, h1, h2⟩
  · exact absurd (by rw [List.getElem_map, List.getElem_map, ec, ej]) (hp c j l2 l1 q)
theorem no_kw {α : Type} {a : Option α} {p : α} (e : a = none) (h : a = some p) : False := by rw [e] at h; cases h
/-- the law's def lets nothing out -/
theorem to0 {P : Program} {w : World} {K : PySem.W.Frag} {mg : Str → Option Value} {base : Heap} {k : Nat} {f : Addr} {fd : FuncData} {ps : List Str} {sp : Sp} (F : FnOk P w K mg base (L2.CX P w) k f fd ps sp) : FnOk P w K mg base (fun _ _ _ _ _ _ => False) k f fd ps (fun vs H Q _ => sp vs H Q fun _ _ _ => False) := by
  refine ⟨fun vs H Q E h => F.len vs H Q _ h, fun A outer s H args us vs Q E hr he hb hv h => ?_⟩
  refine codeAny_mono (F.run A outer s H args us vs Q _ hr he hb hv h) fun r s' hq => ?_
  cases r with
  | ok fl => cases fl <;> exact hq
  | error e =>
    obtain ⟨_, _, _, _, _, _, _, _, _, _, _, _, z⟩ := hq
    exact z.elim
/-- the script -/
theorem sp_law {C : Cfg} {sem : FSem} {H : Hp} {a : Addr} {ns : List Int} (h : sem [.scr ns] = .ret (.bl true) []) (hS : SqS C.K H a (ns.map V.int)) : spD C [false] sem [.ref a] H (fun v _ => v = .bl true) fun _ _ _ => False := by
  refine ⟨[.scr ns], [], ⟨[], [], ⟨rfl, a, rfl, hS⟩, fun _ => rfl, rfl, rfl⟩, .nil, ?_⟩
  rw [h]
  exact fun v H' T U _ r _ _ _ => r.1
theorem sq_only {K : PySem.W.Frag} {H : Hp} {a : Addr} {xs : List V} (o : Only H) (h : SqL K H a xs) : SqS K H a xs := by
  rcases h with (h | h) | h
  · rcases o a with z | ⟨_, _, z⟩ <;> rw [h] at z <;> cases z
  · exact .inl h
  · exact .inr h
end Ly

namespace Ly
open PySem PySem.Spec L2 He
/-- a class with an __init__ of its own -/
structure InD where
  cls : Str
  ps : List Str
  qual : Str
  params : Arguments
  body : List Stmt
  scope : Scope
abbrev InV : Type := Option (Str × Str × Arguments × FuncBody × Scope × Addr × Addr)
def inW (K : PySem.W.Frag) (d : InD) : InV := match K.lookup (ma K (ga K d.cls) "__init__") with
  | some ⟨_, _, .func fd, _⟩ => some (fd.name, fd.qualname, fd.params, fd.body, fd.scope, fd.globals, fd.builtins)
  | _ => none
def InD.val (d : InD) : InV := some ("__init__", d.qual, d.params, .stmts d.body, d.scope, mainGlobals, builtinsNs)
def excVB (K : PySem.W.Frag) (C : Addr) : Bool := match K.lookup C with
  | some ⟨.type t, _, .cls cd, sl⟩ => decide (t = "type") && (match cd.mro, sl.toList with
    | .ref C' :: bm, [_, _, _, _, some (.builtin n), _] => decide (C' = C) && (decide (n = "ValueError.__new__") && (!cd.hasDel && (cd.hasDict && HandSPX.refsVE bm)))
    | _, _ => false)
  | _ => false
theorem excVB_ok {K : PySem.W.Frag} {C : Addr} (h : excVB K C = true) : ∃ nm q N bs bm sn sub ab col dd k0 k1 k2 k3 k5, K.lookup C = some (excClassObj nm q C N bs bm true sn sub ab col dd k0 k1 k2 k3 k5 "ValueError.__new__") ∧ PySem.HandSPX.refsVE bm = true := by
  unfold excVB at h
  split at h
  · rename_i t dd cd sl ho
    have h1 := of_decide_eq_true (ba h).1
    have g1 := (ba h).2
    clear h
    subst h1
    split at g1
    · rename_i C' bm k0 k1 k2 k3 n k5 hm hs
      have h2 := of_decide_eq_true (ba g1).1
      have g2 := (ba g1).2
      have h3 := of_decide_eq_true (ba g2).1
      have g3 := (ba g2).2
      have h4 := (ba g3).1
      have g4 := (ba g3).2
      have h5 := (ba g4).1
      have h6 := (ba g4).2
      clear g1 g2 g3 g4
      subst h2
      subst h3
      obtain ⟨nm, bs, mro, ns, qn, hd, sn, sub, ab, col, del⟩ := cd
      dsimp only at hm h4 h5
      subst hm
      have h4 : del = false := by simpa using h4
      subst h4
      subst h5
      have hsl : sl = #[k0, k1, k2, k3, some (.builtin "ValueError.__new__"), k5] := by
        obtain ⟨l⟩ := sl
        simp only at hs
        rw [hs]
      subst hsl
      exact ⟨nm, qn, ns, bs, bm, sn, sub, ab, col, dd, k0, k1, k2, k3, k5, ho, h6⟩
    · cases g1
  · cases h
def cellB (K : PySem.W.Frag) (cc C : Addr) : Bool := match K.lookup cc with
  | some ⟨_, _, .cell (some (.ref D)), _⟩ => decide (D = C)
  | _ => false
def codeB (P : Program) (K : PySem.W.Frag) (cda : Addr) : Bool := match K.lookup cda with
  | some ⟨_, _, .fields vs, _⟩ => (match (show Option Value from vs[2]?) with
    | some (.str file _) => (P.main.file : Str) == file
    | _ => false)
  | _ => false
def initFB (P : Program) (K : PySem.W.Frag) (d : InD) : Bool := match K.lookup (ma K (ga K d.cls) "__init__") with
  | some ⟨_, _, .func fd, _⟩ => (match fd.closure, fd.code, fd.defaults with
    | [(n, cc)], .ref cda, .none => decide (n = ("__class__" : Str)) && (cellB K cc (ga K d.cls) && (codeB P K cda && PySem.W.codeIn K (.ref cda) d.qual))
    | _, _, _ => false)
  | _ => false
def alongB (K : PySem.W.Frag) (C : Addr) : Bool := match PySem.W.clsIn K C with
  | some cd => eqO (PySem.W.alongIn K "__init__" ((cd.mro.dropWhile (· != .ref C)).drop 1)) (some (some (.builtin "ValueError.__init__")))
  | none => false
def icB (P : Program) (K : PySem.W.Frag) (d : InD) : Bool :=
  eqO (PySem.W.nsIn K mainGlobals d.cls) (some (some (.ref (ga K d.cls)))) && (excVB K (ga K d.cls) && (eqO (PySem.W.findIn K (.ref (ga K d.cls)) "__setattr__") (some (some (.builtin "object.__setattr__"))) &&
  (decide (PySem.W.subIn K (.ref (ga K d.cls)) (.type "BaseException") = some true) && (decide (PySem.W.typeIn K (.ref (ga K d.cls)) = some (.type "type")) && (PySem.W.keepIn K (.ref (ga K d.cls)) &&
  (eqO (PySem.W.findIn K (.ref (ga K d.cls)) "__init__") (some (some (.ref (ma K (ga K d.cls) "__init__")))) && (decide (PySem.W.typeIn K (.ref (ma K (ga K d.cls) "__init__")) = some (.type "function")) &&
  (decide (PySem.W.mroIn K (ga K d.cls) (.ref (ga K d.cls)) = some true) && (decide (PySem.W.subIn K (.ref (ga K d.cls)) (.type "ValueError") = some true) && (alongB K (ga K d.cls) && (eqO (PySem.W.nsIn K cStatics "thirdparty.any") (some none) &&
  ((d.ps.drop 1).all (fun x => eqO (PySem.W.findIn K (.ref (ga K d.cls)) x) (some none)) && initFB P K d))))))))))))
def xrB (K : PySem.W.Frag) (c : Str) (ns : List Str) : Bool :=
  xfB K (ga K c) && (eqO (PySem.W.findIn K (.ref (ga K c)) "__class__") (some (some (.builtin "object.__class__"))) && (decide (PySem.W.specialIn K (.builtin "object.__class__") "__get__" = some (some (.builtin "getset_descriptor.__get__"))) &&
  (decide (PySem.W.takesIn K (.builtin "object.__class__") = some true) && (decide (PySem.W.mroIn K (ga K c) (.type "object") = some true) && (decide ns.Nodup && ns.all (fun x => eqO (PySem.W.findIn K (.ref (ga K c)) x) (some none)))))))
theorem xrB_ok {K : PySem.W.Frag} {c : Str} {ns : List Str} (h : xrB K c ns = true) : XR K c ns := by
  obtain ⟨h1, h⟩ := ba h
  obtain ⟨h2, h⟩ := ba h
  obtain ⟨h3, h⟩ := ba h
  obtain ⟨h4, h⟩ := ba h
  obtain ⟨h5, h⟩ := ba h
  obtain ⟨h6, h7⟩ := ba h
  exact ⟨xfB_ok h1, eqO_ok h2, of_decide_eq_true h3, of_decide_eq_true h4, of_decide_eq_true h5, of_decide_eq_true h6, fun x hx => eqO_ok (List.all_eq_true.mp h7 x hx)⟩
/-- the value of a class's name -/
def isVE (T : Str) : Bool := decide (T = ("ValueError" : Str))
def tvV (K : PySem.W.Frag) (T : Str) : Value := if isVE T = true then .type "ValueError" else .ref (ga K T)
def tvD (K : PySem.W.Frag) (T : Str) : V := if isVE T = true then .ty "ValueError" else .ref (ga K T)
def tyB (K : PySem.W.Frag) (T : Str) : Bool := if isVE T = true then eqO (PySem.W.nsIn K mainGlobals T) (some none) else eqO (PySem.W.nsIn K mainGlobals T) (some (some (.ref (ga K T))))
def prB (K : PySem.W.Frag) (c T : Str) (b : Bool) : Bool := decide (PySem.W.exmOne K (.ref (ga K c)) (tvV K T) = some b) && decide (PySem.W.kitOne K (.ref (ga K c)) (tvV K T) = some b)
def xkB (P : Program) (K : PySem.W.Frag) (XX : XT) (ds : List InD) : Bool :=
  ds.all (fun d => icB P K d && decide (xtN XX d.cls = some (d.ps.drop 1))) && (XX.all (fun p => p.2.1.isEmpty || xrB K p.1 p.2.1) && (XX.all (fun p => tyB K p.1) && XX.all fun p => p.2.1.isEmpty || XX.all fun q => prB K p.1 q.1 (p.2.2.contains q.1)))
/-- what the text says of it -/
structure InOk (d : InD) : Prop where
  S : InitS d.ps d.scope
  B : initB d.ps d.body = true
  len : d.ps.length ≤ 20
  ar : ∃ ar, (d.params.posonlyargs ++ d.params.args).head? = some ar ∧ d.ps[0]? = some ar.arg
  bd : ∀ (kV doc pm : Value) (an : Option Addr) (cdv ct : Value) (cc : Addr) (us : List Value), us.length = d.ps.length → bindArgs (PySem.W.ksFn "__init__" d.qual d.params d.body d.scope .none kV doc pm an cdv ct cc) ⟨us, []⟩ = pure (d.ps.zip us)
theorem mem_lookup {α : Type} {l : List (Str × α)} {k : Str} {v : α} (h : l.lookup k = some v) : (k, v) ∈ l := by
  induction l with
  | nil => cases h
  | cons p l ih =>
    obtain ⟨a, b⟩ := p
    rw [List.lookup] at h
    cases q : (k == a) with
    | true => rw [q] at h; cases h; rw [eq_of_beq q]; exact List.mem_cons_self
    | false => rw [q] at h; exact List.mem_cons_of_mem _ (ih h)
section
variable {P : Program} {w : World} {K : PySem.W.Frag} {h : Heap} {mg : Str → Option Value} {base : Heap}
theorem xm_of (X : K.In h) (G : h.Ns mainGlobals mg) {d : InD} (ok : InOk d) (hc : icB P K d = true) (hw : inW K d = d.val) (htop : (P.main.scope.names.lookup ("super" : Str)).isSome = false) (hsup : mg "super" = none) : XM P w K mg base d.cls (d.ps.drop 1) := by
  obtain ⟨c1, hc⟩ := ba hc
  obtain ⟨c2, hc⟩ := ba hc
  obtain ⟨c3, hc⟩ := ba hc
  obtain ⟨c4, hc⟩ := ba hc
  obtain ⟨c5, hc⟩ := ba hc
  obtain ⟨c6, hc⟩ := ba hc
  obtain ⟨c7, hc⟩ := ba hc
  obtain ⟨c8, hc⟩ := ba hc
  obtain ⟨c9, hc⟩ := ba hc
  obtain ⟨c10, hc⟩ := ba hc
  obtain ⟨c11, hc⟩ := ba hc
  obtain ⟨c12, hc⟩ := ba hc
  obtain ⟨c13, c14⟩ := ba hc
  have oex : OexC K (ga K d.cls) := ⟨excVB_ok c2, eqO_ok c3, of_decide_eq_true c4, of_decide_eq_true c5, c6⟩
  obtain ⟨ar, a1, a2⟩ := ok.ar
  have hlen : ∃ self r, d.ps = self :: r := by
    cases e : d.ps with
    | nil => rw [e] at a2; cases a2
    | cons self r => exact ⟨self, r, rfl⟩
  obtain ⟨self, r, eps⟩ := hlen
  refine ⟨PySem.W.mg_of X G (eqO_ok c1), oex, by have := ok.len; rw [eps] at this ⊢; simp at this ⊢; omega, ma K (ga K d.cls) "__init__", ?_⟩
  unfold initFB at c14
  unfold inW InD.val at hw
  split at c14
  · rename_i oc od fd osl lk
    rw [lk] at hw
    obtain ⟨n1, n2, n3, n4, n5, n6, n7, n8, n9, n10, n11, n12, n13, n14, n15⟩ := fd
    dsimp only at c14 hw
    split at c14
    · rename_i n cc cda
      obtain ⟨e1, c14⟩ := ba c14
      obtain ⟨e2, c14⟩ := ba c14
      obtain ⟨e3, e4⟩ := ba c14
      have e1 := of_decide_eq_true e1
      subst e1
      simp only [Option.some.injEq, Prod.mk.injEq] at hw
      obtain ⟨g1, g2, g3, g4, g5, g6, g7⟩ := hw
      subst g1 g2 g3 g4 g5 g6 g7
      have T : SupC P K (ga K d.cls) cc cda (ma K (ga K d.cls) "__init__") (PySem.W.ksFn "__init__" d.qual d.params d.body d.scope .none n9 n10 n11 n12 (.ref cda) n14 cc) := by
        refine ⟨oex, ?_, ⟨_, _, _, lk⟩, ?_, htop, of_decide_eq_true c9, of_decide_eq_true c10, fun cd hcd => ?_, eqO_ok c12⟩
        · unfold cellB at e2
          split at e2
          · rename_i D _ lk2
            have e2 := of_decide_eq_true e2
            subst e2
            exact ⟨_, _, _, lk2⟩
          · cases e2
        · unfold codeB at e3
          split at e3
          · rename_i lk2
            split at e3
            · rename_i hv
              exact ⟨_, _, _, _, _, _, lk2, hv, e3⟩
            · cases e3
          · cases e3
        · unfold alongB at c11
          rw [hcd] at c11
          exact eqO_ok c11
      refine ⟨PySem.W.ksFn "__init__" d.qual d.params d.body d.scope .none n9 n10 n11 n12 (.ref cda) n14 cc, self, eqO_ok c7, of_decide_eq_true c8, ?_, ?_⟩
      · have F := init_fn (CX := L2.CX P w) (P := P) (w := w) (mg := mg) (base := base) (k := 0) lk T e4 ok.S ok.B (fun x hx => eqO_ok (List.all_eq_true.mp c13 x hx)) a1 a2 hsup
        rw [eps] at F ⊢
        exact F
      · have Bd : Binds K (PySem.W.ksFn "__init__" d.qual d.params d.body d.scope .none n9 n10 n11 n12 (.ref cda) n14 cc) d.ps [] := Binds.all fun us hl => ok.bd n9 n10 n11 n12 (.ref cda) n14 cc us hl
        rw [eps] at Bd ⊢
        exact Bd
    · cases c14
  · cases c14
theorem xok_of (X : K.In h) (G : h.Ns mainGlobals mg) {XX : XT} {ds : List InD} (hc : xkB P K XX ds = true) (hw : ds.map (inW K) = ds.map InD.val) (ok : ∀ d ∈ ds, InOk d) (htop : (P.main.scope.names.lookup ("super" : Str)).isSome = false) (hsup : mg "super" = none) : XOk K P w mg base XX (XX.map (·.1)) (ds.map (·.cls)) := by
  obtain ⟨c1, hc⟩ := ba hc
  obtain ⟨c2, hc⟩ := ba hc
  obtain ⟨c3, c4⟩ := ba hc
  refine ⟨fun c ns hn => ?_, fun T hT => ?_, fun c hcc => ?_⟩
  · unfold xtN at hn
    split at hn
    · rename_i p hp
      split at hn
      · cases hn
      · rename_i hne
        cases hn
        have := List.all_eq_true.mp c2 _ (mem_lookup hp)
        rcases Bool.or_eq_true_iff.mp this with z | z
        · exact absurd z hne
        · exact xrB_ok z
    · cases hn
  · have hT : T ∈ XX.map (·.1) := by simpa using hT
    obtain ⟨p, hp, rfl⟩ := List.mem_map.mp hT
    have ht := List.all_eq_true.mp c3 p hp
    refine ⟨tvD K p.1, tvV K p.1, ?_, ?_, fun c b hb => ?_⟩
    · unfold tvD tvV
      by_cases z : isVE p.1 = true
      · rw [if_pos z, if_pos z]; exact .inr ⟨_, rfl, rfl⟩
      · rw [if_neg z, if_neg z]; exact .inl ⟨_, rfl, rfl⟩
    · unfold tyB at ht
      unfold tvV
      by_cases z : isVE p.1 = true
      · rw [if_pos z] at ht ⊢
        have e : p.1 = "ValueError" := of_decide_eq_true z
        refine .inr ⟨PySem.W.mg_none_of X G (eqO_ok ht), ?_, ?_⟩
        · rw [e]; exact PyProof.Rows.Boot.«ValueError»
        · rw [e]; decide
      · rw [if_neg z] at ht ⊢
        exact .inl (PySem.W.mg_of X G (eqO_ok ht))
    · unfold xtS at hb
      split at hb
      · rename_i q q2 hq hq2
        split at hb
        · cases hb
        · rename_i hne
          cases hb
          have := List.all_eq_true.mp c4 _ (mem_lookup hq)
          rcases Bool.or_eq_true_iff.mp this with z | z
          · exact absurd z hne
          · obtain ⟨a1, a2⟩ := ba (List.all_eq_true.mp z p hp)
            exact ⟨of_decide_eq_true a1, of_decide_eq_true a2⟩
      · cases hb
  · have hcc : c ∈ ds.map (·.cls) := by simpa using hcc
    obtain ⟨d, hd, rfl⟩ := List.mem_map.mp hcc
    obtain ⟨a1, a2⟩ := ba (List.all_eq_true.mp c1 d hd)
    refine ⟨_, of_decide_eq_true a2, xm_of X G (ok d hd) a1 ?_ htop hsup⟩
    obtain ⟨i, hi⟩ := List.getElem?_of_mem hd
    have e2 : (ds.map (inW K))[i]? = (ds.map InD.val)[i]? := by rw [hw]
    rw [List.getElem?_map, List.getElem?_map, hi] at e2
    exact Option.some.inj e2
end
/-! ### the hook -/
abbrev AlX : Type := AlD × Bool × List InV
def obsX (P : Program) (fa : List Fa) (fn : List DefD) (XX : XT) (ds : List InD) (K : PySem.W.Frag) : AlX := (obsD fa fn K, xkB P K XX ds, ds.map (inW K))
def valX (fn : List DefD) (ds : List InD) : AlX := (valD fn, true, ds.map InD.val)
def SaysX (P : Program) (fa : List Fa) (fn : List DefD) (XX : XT) (ds : List InD) (K : PySem.W.Frag) : Prop := obsX P fa fn XX ds K = valX fn ds
def obsXG (P : Program) (n : Nat) (fa : List Fa) (fn : List DefD) (XX : XT) (ds : List InD) (g : Addr → Option Obj) : AlX := obsX P fa fn XX ds (frG g (asD g n ++ [cStatics]))
def hookX (P : Program) (n : Nat) (fa : List Fa) (fn : List DefD) (XX : XT) (ds : List InD) : PySem.W.Hook where
  α := AlX
  obs := fun s => obsXG P n fa fn XX ds s.heap.get?
  val := fun _ => valX fn ds
  says := fun _ h => ∃ K : PySem.W.Frag, K.In h ∧ SaysX P fa fn XX ds K
  of := fun _ _ e => ⟨_, frG_in, e⟩
  keeps := fun _ _ _ ⟨K, hK, c⟩ k => ⟨K, PySem.W.Frag.In.keeps hK k, c⟩
theorem obsXG_eq {P : Program} {n : Nat} {fa : List Fa} {fn : List DefD} {XX : XT} {ds : List InD} {g : Addr → Option Obj} {s : Shared} (h : ∀ a, g a = s.heap.get? a) : obsXG P n fa fn XX ds g = (hookX P n fa fn XX ds).obs s := by
  have e : g = s.heap.get? := funext h
  rw [e] <;> rfl
theorem SaysX.d {P : Program} {fa : List Fa} {fn : List DefD} {XX : XT} {ds : List InD} {K : PySem.W.Frag} (c : SaysX P fa fn XX ds K) : SaysD fa fn K := congrArg (fun z : AlX => z.1) c
theorem SaysX.x {P : Program} {fa : List Fa} {fn : List DefD} {XX : XT} {ds : List InD} {K : PySem.W.Frag} (c : SaysX P fa fn XX ds K) : xkB P K XX ds = true ∧ ds.map (inW K) = ds.map InD.val := ⟨congrArg (fun z : AlX => z.2.1) c, congrArg (fun z : AlX => z.2.2) c⟩
end Ly
namespace Ly
open PySem PySem.Spec L2 He
/-- constants of the module -/
def GOk (K : PySem.W.Frag) (mg : Str → Option Value) : List Str → List D → Prop
  | [], [] => True
  | x :: xs, d :: ds => (∃ v u, mg x = some u ∧ RelV v u ∧ ∀ H, Rep K H d v []) ∧ GOk K mg xs ds
  | _, _ => False
theorem GOk.get {K : PySem.W.Frag} {mg : Str → Option Value} : ∀ {xs : List Str} {ds : List D}, GOk K mg xs ds → ∀ (j : Nat) y, xs[j]? = some y → ∃ v u, mg y = some u ∧ RelV v u ∧ ∀ H, Rep K H (ds.getD j .non) v []
  | [], _, _, j, y, h => by simp at h
  | _ :: _, [], g, _, _, _ => g.elim
  | x :: xs, d :: ds, g, 0, y, h => by
    have h : x = y := by simpa using h
    subst h
    exact g.1
  | x :: xs, d :: ds, g, j + 1, y, h => by
    have := GOk.get g.2 j y (by simpa using h)
    simpa using this
theorem gint {K : PySem.W.Frag} {mg : Str → Option Value} {x : Str} {i : Int} (h : ∃ t, mg x = some (.int i t)) : ∃ v u, mg x = some u ∧ RelV v u ∧ ∀ H, Rep K H (.int i) v [] := by
  obtain ⟨t, h⟩ := h
  exact ⟨.int i, _, h, ⟨t, rfl⟩, fun H => ⟨rfl, rfl⟩⟩
theorem gstr {K : PySem.W.Frag} {mg : Str → Option Value} {x z : Str} (h : ∃ t, mg x = some (.str z t)) : ∃ v u, mg x = some u ∧ RelV v u ∧ ∀ H, Rep K H (.str z) v [] := by
  obtain ⟨t, h⟩ := h
  exact ⟨.str z, _, h, ⟨t, rfl⟩, fun H => ⟨rfl, rfl⟩⟩
end Ly

namespace Ly
open PySem PySem.Spec L2
variable [Fns]
mutual
def wpE : E → Ev → (D → Ev → Prop) → Prop
  | .var i, ρ, Q => ∃ d, getV ρ i = some d ∧ Q d ρ
  | .mv i, ρ, Q => ∃ d, getV ρ i = some d ∧ Q (fzD d) (ρ.set i (some (fzD d)))
  | .mvo i, ρ, Q => ∃ d, getV ρ i = some d ∧ Q d (ρ.set i none)
  | .cst d, ρ, Q => Q d ρ
  | .glo k, ρ, Q => Q (Fns.G k) ρ
  | .ck e, ρ, Q => wpE e ρ fun d ρ => frzD d = true ∧ Q d ρ
  | .fz e, ρ, Q => wpE e ρ fun d ρ => Q (fzD d) ρ
  | .o2 op a b, ρ, Q => wpE a ρ fun x ρ => wpE b ρ fun y ρ => ∃ z, op.sem x y = some z ∧ Q z ρ
  | .o1 op a, ρ, Q => wpE a ρ fun x ρ => ∃ z, op.sem x = some z ∧ Q z ρ
  | .and a b, ρ, Q => wpE a ρ fun x ρ => ∃ t, truth x = some t ∧ (t = true → wpE b ρ Q) ∧ (t = false → Q x ρ)
  | .or a b, ρ, Q => wpE a ρ fun x ρ => ∃ t, truth x = some t ∧ (t = true → Q x ρ) ∧ (t = false → wpE b ρ Q)
  | .ite c a b, ρ, Q => wpE c ρ fun x ρ => ∃ t, truth x = some t ∧ (t = true → wpE a ρ Q) ∧ (t = false → wpE b ρ Q)
  | .tup es, ρ, Q => wpEs es ρ fun ds ρ => (ds.all frzD = true ∧ ds.length ≤ lim) ∧ Q (.tup ds) ρ
  | .lst es, ρ, Q => wpEs es ρ fun ds ρ => ds.length ≤ lim ∧ Q (.lst true ds) ρ
  | .slc a lo hi, ρ, Q => wpE a ρ fun x ρ => wpEs lo ρ fun l ρ => ∃ l', partS l = some l' ∧ wpEs hi ρ fun h ρ => ∃ h', partS h = some h' ∧ ∃ z, slcS x l' h' = some z ∧ Q z ρ
  | .call slots k es, ρ, Q => wpEs es ρ fun ds ρ => ∃ ds', fill slots ds ρ = some ds' ∧ ∃ d outs, Fns.F k ds' = .ret d outs ∧ ∃ ρ', wb slots outs ρ = some ρ' ∧ Q d ρ'
  | .pop i, ρ, Q => ∃ d ρ', onL popF i ρ = .ok d ρ' ∧ Q d ρ'
  | .popAt i a, ρ, Q => isL ρ i = true ∧ wpE a ρ fun x ρ => ∃ k d ρ', x = .int k ∧ onL (popAtF k) i ρ = .ok d ρ' ∧ Q d ρ'
  | .lc own tg it c elt, ρ, Q => wpIt it ρ fun items ρ1 => ∃ I : Nat → List D → Ev → Prop, I 0 [] (wipeE ρ1 own) ∧
      (∀ i d acc ρ, items[i]? = some d → I i acc ρ → ∃ ρ', bindT tg d ρ = some ρ' ∧ wpC c ρ' fun t ρ => (t = true → wpE elt ρ fun y ρ => I (i + 1) (acc ++ [y]) (wipeE ρ own)) ∧ (t = false → I (i + 1) acc (wipeE ρ own))) ∧
      ∀ acc ρ, I items.length acc ρ → acc.length ≤ lim ∧ Q (.lst true acc) ρ
  | .dnil, ρ, Q => Q (.dk true [] []) ρ
  | .ixL i b, ρ, Q => (∃ d0, getV ρ i = some d0) ∧ wpE b ρ fun y ρ => ∃ d z, getV ρ i = some d ∧ idxS d y = some z ∧ Q z ρ
  | .popP i p a, ρ, Q => isL ρ i = true ∧ wpE p ρ fun x ρ => ∃ k, x = .int k ∧ isP ρ i k = true ∧ wpE a ρ fun y ρ => ∃ j d ρ', y = .int j ∧ onP (popAtF j) i k ρ = .ok d ρ' ∧ Q d ρ'
  | .callK k perm es, ρ, Q => wpEs es ρ fun ds ρ => ds.all frzD = true ∧ ∃ d, Fns.F k (permD perm ds) = .ret d [] ∧ Q d ρ
  | .get a k d, ρ, Q => wpE a ρ fun x ρ => recvD x = true ∧ wpE k ρ fun y ρ => wpE d ρ fun z ρ => ∃ r, getS x y z = some r ∧ Q r ρ
  | .fld a f, ρ, Q => wpE a ρ fun x ρ => ∃ z, fldS f x = some z ∧ Q z ρ
  | .isX a Ts, ρ, Q => wpE a ρ fun x ρ => ∃ z, isXS Ts x = some z ∧ Q z ρ
  | .srtK k a, ρ, Q => wpE a ρ fun x ρ => ∃ z, srtKS (Fns.F k) x = some z ∧ Q z ρ
  | .cmp2 o1 o2 a b c, ρ, Q => wpE a ρ fun x ρ => wpE b ρ fun y ρ => ∃ t, o1.sem x y = some (.bl t) ∧ (t = true → wpE c ρ fun z ρ => ∃ r, o2.sem y z = some (.bl r) ∧ Q (.bl r) ρ) ∧ (t = false → Q (.bl false) ρ)
  | .me m a es, ρ, Q => wpE a ρ fun x ρ => m.recv x = true ∧ wpEs es ρ fun ds ρ => ∃ z, m.sem x ds = some z ∧ Q z ρ
  | .lrg es, ρ, Q => wpEs es ρ fun ds ρ => ∃ l, rngOf ds = some l ∧ l.length ≤ lim ∧ Q (.lst true l) ρ
  | .trg es, ρ, Q => wpEs es ρ fun ds ρ => ∃ l, rngOf ds = some l ∧ l.length ≤ lim ∧ Q (.tup l) ρ
  | .dc own tg it c k e, ρ, Q => wpIt it ρ fun items ρ1 => ∃ I : Nat → List Key × List D → Ev → Prop, I 0 ([], []) (wipeE ρ1 own) ∧
      (∀ i d acc ρ, items[i]? = some d → I i acc ρ → ∃ ρ', bindT tg d ρ = some ρ' ∧ wpC c ρ' fun t ρ => (t = true → wpE k ρ fun x ρ => wpE e ρ fun y ρ => ∃ j, keyD x = some j ∧ frzD y = true ∧ I (i + 1) (put j y acc.1 acc.2) (wipeE ρ own)) ∧ (t = false → I (i + 1) acc (wipeE ρ own))) ∧
      ∀ acc ρ, I items.length acc ρ → acc.1.length < lim ∧ Q (.dk true acc.1 acc.2) ρ
def wpEs : Es → Ev → (List D → Ev → Prop) → Prop
  | .nil, ρ, Q => Q [] ρ
  | .cons e es, ρ, Q => wpE e ρ fun d ρ => wpEs es ρ fun ds ρ => Q (d :: ds) ρ
  | .io i es, ρ, Q => ∃ d, getV ρ i = some d ∧ wpEs es ρ fun ds ρ => Q (.non :: ds) ρ
def wpC : Es → Ev → (Bool → Ev → Prop) → Prop
  | .nil, ρ, Q => Q true ρ
  | .cons e _, ρ, Q => wpE e ρ fun d ρ => ∃ t, truth d = some t ∧ Q t ρ
  | .io _ _, _, _ => False
def wpIt : It → Ev → (List D → Ev → Prop) → Prop
  | .seq e, ρ, Q => wpE e ρ fun d ρ => ∃ l, seqOf d = some l ∧ Q l ρ
  | .rng es, ρ, Q => wpEs es ρ fun ds ρ => ∃ l, rngOf ds = some l ∧ Q l ρ
  | .enum e, ρ, Q => wpE e ρ fun d ρ => ∃ l, seqOf d = some l ∧ Q (enumD 0 l) ρ
  | .zip a b, ρ, Q => wpE a ρ fun x ρ => wpE b ρ fun y ρ => ∃ l m, seqOf x = some l ∧ seqOf y = some m ∧ Q (zipD l m) ρ
  | .revd e, ρ, Q => wpE e ρ fun d ρ => ∃ l, revOf d = some l ∧ Q l ρ
end
theorem lc_wp {f : D → Ev → Out (List D)} {I : Nat → List D → Ev → Prop} {items : List D} : ∀ (n i : Nat) (acc : List D) (ρ : Ev), n + i = items.length → I i acc ρ → (∀ i d acc ρ, items[i]? = some d → I i acc ρ → ∃ x ρ', f d ρ = .ok x ρ' ∧ I (i + 1) (acc ++ x) ρ') →
    ∃ ys ρ', lcLoop f (items.drop i) ρ = .ok ys ρ' ∧ I items.length (acc ++ ys) ρ'
  | 0, i, acc, ρ, hn, h, hs => by
    have : i = items.length := by omega
    subst this
    rw [List.drop_length]
    exact ⟨[], ρ, rfl, by rw [List.append_nil]; exact h⟩
  | n + 1, i, acc, ρ, hn, h, hs => by
    have hi : i < items.length := by omega
    obtain ⟨x, ρ1, h1, h2⟩ := hs i items[i] acc ρ (by simp [hi]) h
    obtain ⟨ys, ρ2, h3, h4⟩ := lc_wp n (i + 1) (acc ++ x) ρ1 (by omega) h2 hs
    rw [List.drop_eq_getElem_cons hi]
    refine ⟨x ++ ys, ρ2, ?_, by rw [← List.append_assoc]; exact h4⟩
    show ((f items[i] ρ).bind fun x ρ1 => (lcLoop f (items.drop (i + 1)) ρ1).bind fun r ρ2 => .ok (x ++ r) ρ2) = _
    rw [h1]
    show ((lcLoop f (items.drop (i + 1)) ρ1).bind fun r ρ2 => .ok (x ++ r) ρ2) = _
    rw [h3]
    rfl
theorem dc_wp {f : D → Ev → Out (Option (Key × D))} {I : Nat → List Key × List D → Ev → Prop} {items : List D} : ∀ (n i : Nat) (acc : List Key × List D) (ρ : Ev), n + i = items.length → I i acc ρ → (∀ i d acc ρ, items[i]? = some d → I i acc ρ → ∃ x ρ', f d ρ = .ok x ρ' ∧ I (i + 1) (match x with | some (k, v) => put k v acc.1 acc.2 | none => acc) ρ') →
    ∃ r ρ', dcLoop f (items.drop i) acc ρ = .ok r ρ' ∧ I items.length r ρ'
  | 0, i, acc, ρ, hn, h, hs => by
    have : i = items.length := by omega
    subst this
    rw [List.drop_length]
    exact ⟨acc, ρ, rfl, h⟩
  | n + 1, i, acc, ρ, hn, h, hs => by
    have hi : i < items.length := by omega
    obtain ⟨x, ρ1, h1, h2⟩ := hs i items[i] acc ρ (by simp [hi]) h
    obtain ⟨r, ρ2, h3, h4⟩ := dc_wp n (i + 1) _ ρ1 (by omega) h2 hs
    rw [List.drop_eq_getElem_cons hi]
    refine ⟨r, ρ2, ?_, h4⟩
    show ((f items[i] ρ).bind fun x ρ1 => dcLoop f (items.drop (i + 1)) (match x with | some (k, v) => put k v acc.1 acc.2 | none => acc) ρ1) = _
    rw [h1]
    exact h3
mutual
theorem wpE_ok : ∀ (e : E) {ρ : Ev} {Q : D → Ev → Prop}, wpE e ρ Q → ∃ d ρ', ev e ρ = .ok d ρ' ∧ Q d ρ'
  | .var i, ρ, Q, h => by
    obtain ⟨d, h1, h2⟩ := h
    exact ⟨d, ρ, by show liftO (getV ρ i) ρ = _; rw [h1]; rfl, h2⟩
  | .mv i, ρ, Q, h => by
    obtain ⟨d, h1, h2⟩ := h
    exact ⟨_, _, by show (match getV ρ i with | some d => Out.ok (fzD d) (ρ.set i (some (fzD d))) | none => .bad) = _; rw [h1], h2⟩
  | .mvo i, ρ, Q, h => by
    obtain ⟨d, h1, h2⟩ := h
    exact ⟨_, _, by show (match getV ρ i with | some d => Out.ok d (ρ.set i none) | none => .bad) = _; rw [h1], h2⟩
  | .cst d, ρ, Q, h => ⟨d, ρ, rfl, h⟩
  | .glo k, ρ, Q, h => ⟨_, ρ, rfl, h⟩
  | .ck e, ρ, Q, h => by
    obtain ⟨d, ρ1, h1, h2, h3⟩ := wpE_ok e (show wpE e ρ _ from h)
    exact ⟨d, ρ1, by show (ev e ρ).bind _ = _; rw [h1]; show (if frzD d = true then Out.ok d ρ1 else .bad) = _; rw [if_pos h2], h3⟩
  | .fz e, ρ, Q, h => by
    obtain ⟨d, ρ1, h1, h2⟩ := wpE_ok e (show wpE e ρ _ from h)
    exact ⟨_, ρ1, by show (ev e ρ).bind _ = _; rw [h1]; rfl, h2⟩
  | .o2 op a b, ρ, Q, h => by
    obtain ⟨x, ρ1, h1, h⟩ := wpE_ok a (show wpE a ρ _ from h)
    obtain ⟨y, ρ2, h2, z, h3, h⟩ := wpE_ok b h
    exact ⟨z, ρ2, by show (ev a ρ).bind _ = _; rw [h1]; show (ev b ρ1).bind _ = _; rw [h2]; show liftO (op.sem x y) ρ2 = _; rw [h3]; rfl, h⟩
  | .o1 op a, ρ, Q, h => by
    obtain ⟨x, ρ1, h1, z, h3, h⟩ := wpE_ok a (show wpE a ρ _ from h)
    exact ⟨z, ρ1, by show (ev a ρ).bind _ = _; rw [h1]; show liftO (op.sem x) ρ1 = _; rw [h3]; rfl, h⟩
  | .and a b, ρ, Q, h => by
    obtain ⟨x, ρ1, h1, t, ht, ha, hb⟩ := wpE_ok a (show wpE a ρ _ from h)
    cases t with
    | true =>
      obtain ⟨y, ρ2, h2, h⟩ := wpE_ok b (ha rfl)
      exact ⟨y, ρ2, by show (ev a ρ).bind _ = _; rw [h1]; show (match truth x with | some true => ev b ρ1 | some false => Out.ok x ρ1 | none => .bad) = _; rw [ht]; exact h2, h⟩
    | false => exact ⟨x, ρ1, by show (ev a ρ).bind _ = _; rw [h1]; show (match truth x with | some true => ev b ρ1 | some false => Out.ok x ρ1 | none => .bad) = _; rw [ht], hb rfl⟩
  | .or a b, ρ, Q, h => by
    obtain ⟨x, ρ1, h1, t, ht, ha, hb⟩ := wpE_ok a (show wpE a ρ _ from h)
    cases t with
    | false =>
      obtain ⟨y, ρ2, h2, h⟩ := wpE_ok b (hb rfl)
      exact ⟨y, ρ2, by show (ev a ρ).bind _ = _; rw [h1]; show (match truth x with | some true => Out.ok x ρ1 | some false => ev b ρ1 | none => .bad) = _; rw [ht]; exact h2, h⟩
    | true => exact ⟨x, ρ1, by show (ev a ρ).bind _ = _; rw [h1]; show (match truth x with | some true => Out.ok x ρ1 | some false => ev b ρ1 | none => .bad) = _; rw [ht], ha rfl⟩
  | .ite c a b, ρ, Q, h => by
    obtain ⟨x, ρ1, h1, t, ht, ha, hb⟩ := wpE_ok c (show wpE c ρ _ from h)
    cases t with
    | true =>
      obtain ⟨y, ρ2, h2, h⟩ := wpE_ok a (ha rfl)
      exact ⟨y, ρ2, by show (ev c ρ).bind _ = _; rw [h1]; show (match truth x with | some true => ev a ρ1 | some false => ev b ρ1 | none => .bad) = _; rw [ht]; exact h2, h⟩
    | false =>
      obtain ⟨y, ρ2, h2, h⟩ := wpE_ok b (hb rfl)
      exact ⟨y, ρ2, by show (ev c ρ).bind _ = _; rw [h1]; show (match truth x with | some true => ev a ρ1 | some false => ev b ρ1 | none => .bad) = _; rw [ht]; exact h2, h⟩
  | .tup es, ρ, Q, h => by
    obtain ⟨ds, ρ1, h1, h2, h3⟩ := wpEs_ok es (show wpEs es ρ _ from h)
    exact ⟨_, ρ1, by show (evs es ρ).bind _ = _; rw [h1]; show (if ds.all frzD = true ∧ ds.length ≤ lim then Out.ok (D.tup ds) ρ1 else .bad) = _; rw [if_pos h2], h3⟩
  | .lst es, ρ, Q, h => by
    obtain ⟨ds, ρ1, h1, h2, h3⟩ := wpEs_ok es (show wpEs es ρ _ from h)
    exact ⟨_, ρ1, by show (evs es ρ).bind _ = _; rw [h1]; show (if ds.length ≤ lim then Out.ok (D.lst true ds) ρ1 else .bad) = _; rw [if_pos h2], h3⟩
  | .slc a lo hi, ρ, Q, h => by
    obtain ⟨x, ρ1, h1, h⟩ := wpE_ok a (show wpE a ρ _ from h)
    obtain ⟨l, ρ2, h2, l', hl, h⟩ := wpEs_ok lo h
    obtain ⟨u, ρ3, h3, u', hu, z, hz, h⟩ := wpEs_ok hi h
    refine ⟨z, ρ3, ?_, h⟩
    show (ev a ρ).bind _ = _
    rw [h1]
    show (evs lo ρ1).bind _ = _
    rw [h2]
    show (match partS l with | some l' => (evs hi ρ2).bind fun h ρ => (match partS h with | some h' => liftO (slcS x l' h') ρ | none => .bad) | none => .bad) = _
    rw [hl]
    show (evs hi ρ2).bind _ = _
    rw [h3]
    show (match partS u with | some h' => liftO (slcS x l' h') ρ3 | none => .bad) = _
    rw [hu]
    show liftO (slcS x l' u') ρ3 = _
    rw [hz]
    rfl
  | .call slots k es, ρ, Q, h => by
    obtain ⟨ds, ρ1, h1, ds', h2, d, outs, h3, ρ', h4, h⟩ := wpEs_ok es (show wpEs es ρ _ from h)
    refine ⟨d, ρ', ?_, h⟩
    show (evs es ρ).bind _ = _
    rw [h1]
    show callOut slots (Fns.F k) ds ρ1 = _
    unfold callOut
    rw [h2]
    dsimp only
    rw [h3]
    dsimp only
    rw [h4]
  | .pop i, ρ, Q, h => h
  | .popAt i a, ρ, Q, h => by
    obtain ⟨hl, h⟩ := h
    obtain ⟨x, ρ1, h1, k, d, ρ', rfl, h2, h⟩ := wpE_ok a h
    refine ⟨d, ρ', ?_, h⟩
    show (if isL ρ i = true then (ev a ρ).bind _ else .bad) = _
    rw [if_pos hl, h1]
    exact h2
  | .lc own tg it c elt, ρ, Q, h => by
    obtain ⟨items, ρ1, h1, I, h0, hs, he⟩ := wpIt_ok it (show wpIt it ρ _ from h)
    obtain ⟨ys, ρ2, h2, h3⟩ := lc_wp (f := lcF own tg c elt) (I := I) (items := items) items.length 0 [] (wipeE ρ1 own) (by omega) h0 (fun i d acc ρ hd hI => by
        obtain ⟨ρ', hb, hc⟩ := hs i d acc ρ hd hI
        obtain ⟨t, ρ3, h4, ht, hf⟩ := wpC_ok c hc
        cases t with
        | true =>
          obtain ⟨y, ρ4, h5, h6⟩ := wpE_ok elt (ht rfl)
          exact ⟨[y], _, by unfold lcF; rw [hb]; show (evC c ρ').bind _ = _; rw [h4]; show (ev elt ρ3).bind _ = _; rw [h5]; rfl, h6⟩
        | false => exact ⟨[], _, by unfold lcF; rw [hb]; show (evC c ρ').bind _ = _; rw [h4]; rfl, by rw [List.append_nil]; exact hf rfl⟩)
    obtain ⟨h4, h5⟩ := he _ _ h3
    rw [List.drop_zero] at h2
    refine ⟨_, ρ2, ?_, h5⟩
    show (evIt it ρ).bind _ = _
    rw [h1]
    show (match lcLoop (lcF own tg c elt) items (wipeE ρ1 own) with | .ok ys ρ2 => if ys.length ≤ lim then Out.ok (D.lst true ys) ρ2 else .bad | .exc _ _ => .bad | .bad => .bad) = _
    rw [h2]
    rw [List.nil_append] at h4 ⊢
    show (if ys.length ≤ lim then Out.ok (D.lst true ys) ρ2 else .bad) = _
    rw [if_pos h4]
  | .dnil, ρ, Q, h => ⟨_, ρ, rfl, h⟩
  | .ixL i b, ρ, Q, h => by
    obtain ⟨⟨d0, h0⟩, h⟩ := h
    obtain ⟨y, ρ1, h1, d, z, h2, h3, h⟩ := wpE_ok b h
    refine ⟨z, ρ1, ?_, h⟩
    show (if (getV ρ i).isSome = true then (ev b ρ).bind _ else .bad) = _
    rw [if_pos (by rw [h0]; rfl), h1]
    show liftO ((getV ρ1 i).bind fun d => idxS d y) ρ1 = _
    rw [h2]
    show liftO (idxS d y) ρ1 = _
    rw [h3]
    rfl
  | .popP i p a, ρ, Q, h => by
    obtain ⟨h0, h⟩ := h
    obtain ⟨x, ρ1, h1, k, rfl, h2, h⟩ := wpE_ok p (show wpE p ρ _ from h)
    obtain ⟨y, ρ2, h3, j, d, ρ', rfl, h4, h⟩ := wpE_ok a h
    refine ⟨d, ρ', ?_, h⟩
    show (if isL ρ i = true then (ev p ρ).bind _ else .bad) = _
    rw [if_pos h0, h1]
    show (if isP ρ1 i k = true then (ev a ρ1).bind _ else .bad) = _
    rw [if_pos h2, h3]
    exact h4
  | .callK k perm es, ρ, Q, h => by
    obtain ⟨ds, ρ1, h1, hf, d, h2, h⟩ := wpEs_ok es (show wpEs es ρ _ from h)
    refine ⟨d, ρ1, ?_, h⟩
    show (evs es ρ).bind _ = _
    rw [h1]
    show (if ds.all frzD = true then (match Fns.F k (permD perm ds) with
      | .ret d [] => Out.ok d ρ1
      | .exc x [] => .exc x ρ1
      | _ => .bad) else .bad) = _
    rw [if_pos hf, h2]
  | .get a k d, ρ, Q, h => by
    obtain ⟨x, ρ1, h1, hr, h⟩ := wpE_ok a (show wpE a ρ _ from h)
    obtain ⟨y, ρ2, h2, h⟩ := wpE_ok k h
    obtain ⟨z, ρ3, h3, r, h4, h⟩ := wpE_ok d h
    refine ⟨r, ρ3, ?_, h⟩
    show (ev a ρ).bind _ = _
    rw [h1]
    show (if recvD x = true then (ev k ρ1).bind _ else .bad) = _
    rw [if_pos hr, h2]
    show (ev d ρ2).bind _ = _
    rw [h3]
    show liftO (getS x y z) ρ3 = _
    rw [h4]
    rfl
  | .fld a f, ρ, Q, h => by
    obtain ⟨x, ρ1, h1, z, hz, h⟩ := wpE_ok a (show wpE a ρ _ from h)
    exact ⟨z, ρ1, by show (ev a ρ).bind _ = _; rw [h1]; show liftO (fldS f x) ρ1 = _; rw [hz]; rfl, h⟩
  | .isX a Ts, ρ, Q, h => by
    obtain ⟨x, ρ1, h1, z, hz, h⟩ := wpE_ok a (show wpE a ρ _ from h)
    exact ⟨z, ρ1, by show (ev a ρ).bind _ = _; rw [h1]; show liftO (isXS Ts x) ρ1 = _; rw [hz]; rfl, h⟩
  | .srtK k a, ρ, Q, h => by
    obtain ⟨x, ρ1, h1, z, hz, h⟩ := wpE_ok a (show wpE a ρ _ from h)
    refine ⟨z, ρ1, ?_, h⟩
    show (ev a ρ).bind _ = _
    rw [h1]
    show liftO (srtKS (Fns.F k) x) ρ1 = _
    rw [hz]
    rfl
  | .cmp2 o1 o2 a b c, ρ, Q, h => by
    obtain ⟨x, ρ1, h1, h⟩ := wpE_ok a (show wpE a ρ _ from h)
    obtain ⟨y, ρ2, h2, t, ht, ha, hb⟩ := wpE_ok b h
    cases t with
    | true =>
      obtain ⟨z, ρ3, h3, r, h4, h⟩ := wpE_ok c (ha rfl)
      refine ⟨_, ρ3, ?_, h⟩
      show (ev a ρ).bind _ = _
      rw [h1]
      show (ev b ρ1).bind _ = _
      rw [h2]
      show (match o1.sem x y with
        | some (.bl true) => (ev c ρ2).bind fun z ρ => (match o2.sem y z with
          | some (.bl r) => Out.ok (D.bl r) ρ
          | _ => .bad)
        | some (.bl false) => .ok (D.bl false) ρ2
        | _ => .bad) = _
      rw [ht]
      show (ev c ρ2).bind _ = _
      rw [h3]
      show (match o2.sem y z with
          | some (.bl r) => Out.ok (D.bl r) ρ3
          | _ => .bad) = _
      rw [h4]
    | false =>
      refine ⟨_, ρ2, ?_, hb rfl⟩
      show (ev a ρ).bind _ = _
      rw [h1]
      show (ev b ρ1).bind _ = _
      rw [h2]
      show (match o1.sem x y with
        | some (.bl true) => (ev c ρ2).bind fun z ρ => (match o2.sem y z with
          | some (.bl r) => Out.ok (D.bl r) ρ
          | _ => .bad)
        | some (.bl false) => .ok (D.bl false) ρ2
        | _ => .bad) = _
      rw [ht]
  | .me m a es, ρ, Q, h => by
    obtain ⟨x, ρ1, h1, h2, h⟩ := wpE_ok a (show wpE a ρ _ from h)
    obtain ⟨ds, ρ2, h3, z, h4, h⟩ := wpEs_ok es h
    exact ⟨z, ρ2, by show (ev a ρ).bind _ = _; rw [h1]; show (if m.recv x = true then (evs es ρ1).bind fun ds ρ => liftO (m.sem x ds) ρ else .bad) = _; rw [if_pos h2, h3]; show liftO (m.sem x ds) ρ2 = _; rw [h4]; rfl, h⟩
  | .lrg es, ρ, Q, h => by
    obtain ⟨ds, ρ1, h1, l, h2, h3, h4⟩ := wpEs_ok es (show wpEs es ρ _ from h)
    exact ⟨_, ρ1, by show (evs es ρ).bind _ = _; rw [h1]; show liftO (lrgS ds) ρ1 = _; unfold lrgS; rw [h2]; show liftO (if l.length ≤ lim then some (D.lst true l) else none) ρ1 = _; rw [if_pos h3]; rfl, h4⟩
  | .trg es, ρ, Q, h => by
    obtain ⟨ds, ρ1, h1, l, h2, h3, h4⟩ := wpEs_ok es (show wpEs es ρ _ from h)
    exact ⟨_, ρ1, by show (evs es ρ).bind _ = _; rw [h1]; show liftO (trgS ds) ρ1 = _; unfold trgS; rw [h2]; show liftO (if l.length ≤ lim then some (D.tup l) else none) ρ1 = _; rw [if_pos h3]; rfl, h4⟩
  | .dc own tg it c k e, ρ, Q, h => by
    obtain ⟨items, ρ1, h1, I, h0, hs, he⟩ := wpIt_ok it (show wpIt it ρ _ from h)
    obtain ⟨r, ρ2, h2, h3⟩ := dc_wp (f := dcF own tg c k e) (I := I) (items := items) items.length 0 ([], []) (wipeE ρ1 own) (by omega) h0 (fun i d acc ρ hd hI => by
        obtain ⟨ρ', hb, hc⟩ := hs i d acc ρ hd hI
        obtain ⟨t, ρ3, h4, ht, hf⟩ := wpC_ok c hc
        cases t with
        | true =>
          obtain ⟨x, ρ4, h5, h6⟩ := wpE_ok k (ht rfl)
          obtain ⟨y, ρ5, h7, j, hj, hz, h8⟩ := wpE_ok e h6
          refine ⟨some (j, y), _, ?_, h8⟩
          unfold dcF
          rw [hb]
          show (evC c ρ').bind _ = _
          rw [h4]
          show (ev k ρ3).bind _ = _
          rw [h5]
          show (ev e ρ4).bind _ = _
          rw [h7]
          show (match keyD x with | some j => if frzD y = true then Out.ok (some (j, y)) (wipeE ρ5 own) else .bad | none => .bad) = _
          rw [hj]
          show (if frzD y = true then Out.ok (some (j, y)) (wipeE ρ5 own) else .bad) = _
          rw [if_pos hz]
        | false => exact ⟨none, _, by unfold dcF; rw [hb]; show (evC c ρ').bind _ = _; rw [h4]; rfl, hf rfl⟩)
    obtain ⟨h4, h5⟩ := he _ _ h3
    rw [List.drop_zero] at h2
    refine ⟨_, ρ2, ?_, h5⟩
    show (evIt it ρ).bind _ = _
    rw [h1]
    show (match dcLoop (dcF own tg c k e) items ([], []) (wipeE ρ1 own) with | .ok ks ρ2 => if ks.1.length < lim then Out.ok (D.dk true ks.1 ks.2) ρ2 else .bad | .exc _ _ => .bad | .bad => .bad) = _
    rw [h2]
    show (if r.1.length < lim then Out.ok (D.dk true r.1 r.2) ρ2 else .bad) = _
    rw [if_pos h4]
theorem wpEs_ok : ∀ (es : Es) {ρ : Ev} {Q : List D → Ev → Prop}, wpEs es ρ Q → ∃ ds ρ', evs es ρ = .ok ds ρ' ∧ Q ds ρ'
  | .nil, ρ, Q, h => ⟨[], ρ, rfl, h⟩
  | .cons e es, ρ, Q, h => by
    obtain ⟨d, ρ1, h1, h⟩ := wpE_ok e (show wpE e ρ _ from h)
    obtain ⟨ds, ρ2, h2, h⟩ := wpEs_ok es h
    exact ⟨d :: ds, ρ2, by show (ev e ρ).bind _ = _; rw [h1]; show (evs es ρ1).bind _ = _; rw [h2]; rfl, h⟩
  | .io i es, ρ, Q, h => by
    obtain ⟨d, h0, h⟩ := h
    obtain ⟨ds, ρ2, h2, h⟩ := wpEs_ok es h
    exact ⟨.non :: ds, ρ2, by show (match getV ρ i with | some _ => (evs es ρ).bind fun ds ρ => Out.ok (D.non :: ds) ρ | none => .bad) = _; rw [h0]; show (evs es ρ).bind _ = _; rw [h2]; rfl, h⟩
theorem wpC_ok : ∀ (c : Es) {ρ : Ev} {Q : Bool → Ev → Prop}, wpC c ρ Q → ∃ t ρ', evC c ρ = .ok t ρ' ∧ Q t ρ'
  | .nil, ρ, Q, h => ⟨true, ρ, rfl, h⟩
  | .cons e _, ρ, Q, h => by
    obtain ⟨d, ρ1, h1, t, ht, h⟩ := wpE_ok e (show wpE e ρ _ from h)
    exact ⟨t, ρ1, by show (ev e ρ).bind _ = _; rw [h1]; show liftO (truth d) ρ1 = _; rw [ht]; rfl, h⟩
  | .io _ _, ρ, Q, h => h.elim
theorem wpIt_ok : ∀ (it : It) {ρ : Ev} {Q : List D → Ev → Prop}, wpIt it ρ Q → ∃ l ρ', evIt it ρ = .ok l ρ' ∧ Q l ρ'
  | .seq e, ρ, Q, h => by
    obtain ⟨d, ρ1, h1, l, hl, h⟩ := wpE_ok e (show wpE e ρ _ from h)
    exact ⟨l, ρ1, by show (ev e ρ).bind _ = _; rw [h1]; show liftO (seqOf d) ρ1 = _; rw [hl]; rfl, h⟩
  | .rng es, ρ, Q, h => by
    obtain ⟨ds, ρ1, h1, l, hl, h⟩ := wpEs_ok es (show wpEs es ρ _ from h)
    exact ⟨l, ρ1, by show (evs es ρ).bind _ = _; rw [h1]; show liftO (rngOf ds) ρ1 = _; rw [hl]; rfl, h⟩
  | .enum e, ρ, Q, h => by
    obtain ⟨d, ρ1, h1, l, hl, h⟩ := wpE_ok e (show wpE e ρ _ from h)
    exact ⟨_, ρ1, by show (ev e ρ).bind _ = _; rw [h1]; show liftO ((seqOf d).map (enumD 0)) ρ1 = _; rw [hl]; rfl, h⟩
  | .zip a b, ρ, Q, h => by
    obtain ⟨x, ρ1, h1, h⟩ := wpE_ok a (show wpE a ρ _ from h)
    obtain ⟨y, ρ2, h2, l, m, hl, hm, h⟩ := wpE_ok b h
    exact ⟨_, ρ2, by show (ev a ρ).bind _ = _; rw [h1]; show (ev b ρ1).bind _ = _; rw [h2]; show (match seqOf x, seqOf y with | some xs, some ys => Out.ok (zipD xs ys) ρ2 | _, _ => .bad) = _; rw [hl, hm], h⟩
  | .revd e, ρ, Q, h => by
    obtain ⟨d, ρ1, h1, l, hl, h⟩ := wpE_ok e (show wpE e ρ _ from h)
    exact ⟨_, ρ1, by show (ev e ρ).bind _ = _; rw [h1]; show liftO (revOf d) ρ1 = _; rw [hl]; rfl, h⟩
end
mutual
def wpS : S → Ev → (Fl → Ev → Prop) → Prop
  | .pass, ρ, Q => Q .nx ρ
  | .expr e, ρ, Q => wpE e ρ fun _ ρ => Q .nx ρ
  | .asg i e, ρ, Q => wpE e ρ fun d ρ => Q .nx (ρ.set i (some d))
  | .asgT tg e, ρ, Q => wpE e ρ fun d ρ => ∃ ρ', bindT tg d ρ = some ρ' ∧ Q .nx ρ'
  | .asgP i j a b, ρ, Q => wpE a ρ fun x ρ => wpE b ρ fun y ρ => Q .nx ((ρ.set i (some x)).set j (some y))
  | .aug i op e, ρ, Q => ∃ m, getV ρ i = some (.int m) ∧ wpE e ρ fun y ρ => ∃ n z, y = .int n ∧ op.sem (.int m) (.int n) = some z ∧ Q .nx (ρ.set i (some z))
  | .setI i ix e, ρ, Q => wpE e ρ fun d ρ => ∃ x, getV ρ i = some x ∧ wpE ix ρ fun k ρ =>
      (∃ xs j n, x = .lst true xs ∧ k = .int j ∧ ixN xs.length j = some n ∧ Q .nx (ρ.set i (some (.lst true (xs.set n d))))) ∨
      ∃ ks vs j, x = .dk true ks vs ∧ keyD k = some j ∧ (frzD d = true ∧ ks.length < lim) ∧ Q .nx (ρ.set i (some (.dk true (put j d ks vs).1 (put j d ks vs).2)))
  | .app i e, ρ, Q => isL ρ i = true ∧ wpE e ρ fun d ρ => ∃ xs, getV ρ i = some (.lst true xs) ∧ xs.length < lim ∧ Q .nx (ρ.set i (some (.lst true (xs ++ [d]))))
  | .appP i p e, ρ, Q => isL ρ i = true ∧ wpE p ρ fun x ρ => ∃ k, x = .int k ∧ isP ρ i k = true ∧ wpE e ρ fun d ρ => ∃ ρ', onP (appF d) i k ρ = .ok () ρ' ∧ Q .nx ρ'
  | .setP i p ix e, ρ, Q => wpE e ρ fun d ρ => isL ρ i = true ∧ wpE p ρ fun x ρ => ∃ k, x = .int k ∧ isP ρ i k = true ∧ wpE ix ρ fun y ρ => ∃ j ρ', y = .int j ∧ onP (setF j d) i k ρ = .ok () ρ' ∧ Q .nx ρ'
  | .lme m i es, ρ, Q => isL ρ i = true ∧ wpEs es ρ fun ds ρ => ∃ xs ys, getV ρ i = some (.lst true xs) ∧ m.f ds xs = some ((), ys) ∧ Q .nx (ρ.set i (some (.lst true ys)))
  | .augI i ix op e, ρ, Q => isL ρ i = true ∧ wpE ix ρ fun x ρ => ∃ k xs m, x = .int k ∧ getV ρ i = some (.lst true xs) ∧ idxS (.lst true xs) (.int k) = some (.int m) ∧ wpE e ρ fun y ρ => ∃ j ys z n, y = .int j ∧ getV ρ i = some (.lst true ys) ∧ op.sem (.int m) (.int j) = some z ∧ ixN ys.length k = some n ∧ Q .nx (ρ.set i (some (.lst true (ys.set n z))))
  | .iff c a b, ρ, Q => wpE c ρ fun x ρ => ∃ t, truth x = some t ∧ (t = true → wpSs a ρ Q) ∧ (t = false → wpSs b ρ Q)
  | .whl c b, ρ, Q => ∃ I : Nat → Ev → Prop, (∃ n, n < FUEL ∧ I n ρ) ∧ ∀ n ρ, I n ρ → wpE c ρ fun x ρ => ∃ t, truth x = some t ∧ (t = true → wpSs b ρ fun f ρ => match f with
      | .nx => ∃ m, m < n ∧ I m ρ
      | .ct => ∃ m, m < n ∧ I m ρ
      | .bk => Q .nx ρ
      | .rt v => Q (.rt v) ρ) ∧ (t = false → Q .nx ρ)
  | .forr tg it b, ρ, Q => wpIt it ρ fun items ρ => ∃ I : Nat → Ev → Prop, I 0 ρ ∧ (∀ i d ρ, items[i]? = some d → I i ρ → ∃ ρ', bindT tg d ρ = some ρ' ∧ wpSs b ρ' fun f ρ => match f with
      | .nx => I (i + 1) ρ
      | .ct => I (i + 1) ρ
      | .bk => Q .nx ρ
      | .rt v => Q (.rt v) ρ) ∧ ∀ ρ, I items.length ρ → Q .nx ρ
  | .ret e, ρ, Q => wpE e ρ fun d ρ => Q (.rt d) ρ
  | .retN, ρ, Q => Q (.rt .non) ρ
  | .brk, ρ, Q => Q .bk ρ
  | .cnt, ρ, Q => Q .ct ρ
  | .rai _ _, _, _ => False
  | .tri b hs, ρ, Q => (wpSs b ρ Q) ∨ ∃ x ρ', exs b ρ = .exc x ρ' ∧ wpH hs x ρ' Q
def wpSs : Ss → Ev → (Fl → Ev → Prop) → Prop
  | .nil, ρ, Q => Q .nx ρ
  | .cons s ss, ρ, Q => wpS s ρ fun f ρ => match f with
    | .nx => wpSs ss ρ Q
    | .bk => Q .bk ρ
    | .ct => Q .ct ρ
    | .rt v => Q (.rt v) ρ
def wpH : Hs → D → Ev → (Fl → Ev → Prop) → Prop
  | .nil, _, _, _ => False
  | .cons c n h r, x, ρ, Q => ∃ t, clsX x c = some t ∧ (t = true → wpSs h (bindH n x ρ) fun f ρ => Q f (unbH n ρ)) ∧ (t = false → wpH r x ρ Q)
end
theorem for_wp {tg : Tg} {body : Ev → Out Fl} {I : Nat → Ev → Prop} {items : List D} {Q : Fl → Ev → Prop} : ∀ (n i : Nat) (ρ : Ev), n + i = items.length → I i ρ → (∀ i d ρ, items[i]? = some d → I i ρ → ∃ ρ', bindT tg d ρ = some ρ' ∧ ∃ f ρ2, body ρ' = .ok f ρ2 ∧ match f with
      | .nx => I (i + 1) ρ2
      | .ct => I (i + 1) ρ2
      | .bk => Q .nx ρ2
      | .rt v => Q (.rt v) ρ2) → (∀ ρ, I items.length ρ → Q .nx ρ) → ∃ f ρ', forLoop tg body (items.drop i) ρ = .ok f ρ' ∧ Q f ρ'
  | 0, i, ρ, hn, h, hs, he => by
    have : i = items.length := by omega
    subst this
    rw [List.drop_length]
    exact ⟨.nx, ρ, rfl, he ρ h⟩
  | n + 1, i, ρ, hn, h, hs, he => by
    have hi : i < items.length := by omega
    obtain ⟨ρ1, h1, f, ρ2, h2, h3⟩ := hs i items[i] ρ (by simp [hi]) h
    rw [List.drop_eq_getElem_cons hi]
    unfold forLoop
    rw [h1]
    dsimp only
    rw [h2]
    cases f with
    | nx => exact for_wp n (i + 1) ρ2 (by omega) h3 hs he
    | ct => exact for_wp n (i + 1) ρ2 (by omega) h3 hs he
    | bk => exact ⟨_, _, rfl, h3⟩
    | rt v => exact ⟨_, _, rfl, h3⟩
theorem while_wp {c : Ev → Out D} {body : Ev → Out Fl} {I : Nat → Ev → Prop} {Q : Fl → Ev → Prop} (hs : ∀ n ρ, I n ρ → ∃ x ρ1, c ρ = .ok x ρ1 ∧ ∃ t, truth x = some t ∧ (t = true → ∃ f ρ2, body ρ1 = .ok f ρ2 ∧ match f with
      | .nx => ∃ m, m < n ∧ I m ρ2
      | .ct => ∃ m, m < n ∧ I m ρ2
      | .bk => Q .nx ρ2
      | .rt v => Q (.rt v) ρ2) ∧ (t = false → Q .nx ρ1)) : ∀ (k n : Nat) (ρ : Ev), n < k → I n ρ → ∃ f ρ', whLoop c body k ρ = .ok f ρ' ∧ Q f ρ'
  | 0, n, ρ, hk, _ => absurd hk (Nat.not_lt_zero _)
  | k + 1, n, ρ, hk, h => by
    obtain ⟨x, ρ1, h1, t, ht, ha, hb⟩ := hs n ρ h
    unfold whLoop
    rw [h1]
    dsimp only
    rw [ht]
    cases t with
    | false => exact ⟨_, _, rfl, hb rfl⟩
    | true =>
      dsimp only
      obtain ⟨f, ρ2, h2, h3⟩ := ha rfl
      rw [h2]
      cases f with
      | nx => obtain ⟨m, hm, h3⟩ := h3; exact while_wp hs k m ρ2 (by omega) h3
      | ct => obtain ⟨m, hm, h3⟩ := h3; exact while_wp hs k m ρ2 (by omega) h3
      | bk => exact ⟨_, _, rfl, h3⟩
      | rt v => exact ⟨_, _, rfl, h3⟩
mutual
theorem wpS_ok : ∀ (s : S) {ρ : Ev} {Q : Fl → Ev → Prop}, wpS s ρ Q → ∃ f ρ', ex s ρ = .ok f ρ' ∧ Q f ρ'
  | .pass, ρ, Q, h => ⟨_, _, rfl, h⟩
  | .expr e, ρ, Q, h => by
    obtain ⟨d, ρ1, h1, h⟩ := wpE_ok e (show wpE e ρ _ from h)
    exact ⟨_, _, by show (ev e ρ).bind _ = _; rw [h1]; rfl, h⟩
  | .asg i e, ρ, Q, h => by
    obtain ⟨d, ρ1, h1, h⟩ := wpE_ok e (show wpE e ρ _ from h)
    exact ⟨_, _, by show (ev e ρ).bind _ = _; rw [h1]; rfl, h⟩
  | .asgT tg e, ρ, Q, h => by
    obtain ⟨d, ρ1, h1, ρ', hb, h⟩ := wpE_ok e (show wpE e ρ _ from h)
    exact ⟨_, _, by show (ev e ρ).bind _ = _; rw [h1]; show (match bindT tg d ρ1 with | some ρ' => Out.ok Fl.nx ρ' | none => .bad) = _; rw [hb], h⟩
  | .asgP i j a b, ρ, Q, h => by
    obtain ⟨x, ρ1, h1, h⟩ := wpE_ok a (show wpE a ρ _ from h)
    obtain ⟨y, ρ2, h2, h⟩ := wpE_ok b h
    exact ⟨_, _, by show (ev a ρ).bind _ = _; rw [h1]; show (ev b ρ1).bind _ = _; rw [h2]; rfl, h⟩
  | .aug i op e, ρ, Q, h => by
    obtain ⟨m, hm, h⟩ := h
    obtain ⟨y, ρ1, h1, n, z, rfl, hz, h⟩ := wpE_ok e h
    refine ⟨_, _, ?_, h⟩
    unfold ex
    rw [hm]
    show (ev e ρ).bind _ = _
    rw [h1]
    show (match op.sem (.int m) (.int n) with | some z => Out.ok Fl.nx (ρ1.set i (some z)) | none => .bad) = _
    rw [hz]
  | .setI i ix e, ρ, Q, h => by
    obtain ⟨d, ρ1, h1, x, hx, h⟩ := wpE_ok e (show wpE e ρ _ from h)
    obtain ⟨k, ρ2, h2, h⟩ := wpE_ok ix h
    rcases h with ⟨xs, j, n, rfl, rfl, hn, h⟩ | ⟨ks, vs, j, rfl, hj, hc, h⟩
    · refine ⟨_, _, ?_, h⟩
      unfold ex
      rw [h1]
      show (match getV ρ1 i with | some x => _ | none => Out.bad) = _
      rw [hx]
      dsimp only
      rw [h2]
      show (match ixN xs.length j with | some n => Out.ok Fl.nx (ρ2.set i (some (.lst true (xs.set n d)))) | none => .bad) = _
      rw [hn]
    · refine ⟨_, _, ?_, h⟩
      unfold ex
      rw [h1]
      show (match getV ρ1 i with | some x => _ | none => Out.bad) = _
      rw [hx]
      dsimp only
      rw [h2]
      have e0 : ∀ k : D, keyD k = some j → (match D.dk true ks vs, k with
        | .lst true xs, .int j => (match ixN xs.length j with
          | some n => Out.ok Fl.nx (ρ2.set i (some (.lst true (xs.set n d))))
          | none => .bad)
        | .dk true ks vs, k => (match keyD k with
          | some j => if frzD d = true ∧ ks.length < lim then .ok .nx (ρ2.set i (some (.dk true (put j d ks vs).1 (put j d ks vs).2))) else .bad
          | none => .bad)
        | _, _ => .bad) = .ok .nx (ρ2.set i (some (.dk true (put j d ks vs).1 (put j d ks vs).2))) := fun k hk => by
          cases k <;> first
            | (cases hk; done)
            | (dsimp only; rw [hk]; dsimp only; rw [if_pos hc])
      exact e0 k hj
  | .app i e, ρ, Q, h => by
    obtain ⟨hl, h⟩ := h
    obtain ⟨d, ρ1, h1, xs, hx, hn, h⟩ := wpE_ok e h
    refine ⟨_, _, ?_, h⟩
    unfold ex
    rw [if_pos hl, h1]
    show (onL (appF d) i ρ1).bind _ = _
    unfold onL appF
    rw [hx]
    dsimp only
    rw [if_pos hn]
    rfl
  | .lme m i es, ρ, Q, h => by
    obtain ⟨hl, h⟩ := h
    obtain ⟨ds, ρ1, h1, xs, ys, hx, hf, h⟩ := wpEs_ok es h
    refine ⟨_, _, ?_, h⟩
    unfold ex
    rw [if_pos hl, h1]
    show (onL (m.f ds) i ρ1).bind _ = _
    unfold onL
    rw [hx]
    dsimp only
    rw [hf]
    rfl
  | .appP i p e, ρ, Q, h => by
    obtain ⟨h0, h⟩ := h
    obtain ⟨x, ρ1, h1, k, rfl, h2, h⟩ := wpE_ok p (show wpE p ρ _ from h)
    obtain ⟨d, ρ2, h3, ρ', h4, h⟩ := wpE_ok e h
    refine ⟨_, ρ', ?_, h⟩
    unfold ex
    rw [if_pos h0, h1]
    show (if isP ρ1 i k = true then (ev e ρ1).bind _ else .bad) = _
    rw [if_pos h2, h3]
    show (onP (appF d) i k ρ2).bind _ = _
    rw [h4]
    rfl
  | .setP i p ix e, ρ, Q, h => by
    obtain ⟨d, ρ1, h1, h0, h⟩ := wpE_ok e (show wpE e ρ _ from h)
    obtain ⟨x, ρ2, h2, k, rfl, h3, h⟩ := wpE_ok p h
    obtain ⟨y, ρ3, h4, j, ρ', rfl, h5, h⟩ := wpE_ok ix h
    refine ⟨_, ρ', ?_, h⟩
    unfold ex
    rw [h1]
    show (if isL ρ1 i = true then (ev p ρ1).bind _ else .bad) = _
    rw [if_pos h0, h2]
    show (if isP ρ2 i k = true then (ev ix ρ2).bind _ else .bad) = _
    rw [if_pos h3, h4]
    show (onP (setF j d) i k ρ3).bind _ = _
    rw [h5]
    rfl
  | .augI i ix op e, ρ, Q, h => by
    obtain ⟨h0, h⟩ := h
    obtain ⟨x, ρ1, h1, k, xs, m, rfl, h2, h3, h⟩ := wpE_ok ix (show wpE ix ρ _ from h)
    obtain ⟨y, ρ2, h4, j, ys, z, n, rfl, h5, h6, h7, h⟩ := wpE_ok e h
    refine ⟨_, _, ?_, h⟩
    unfold ex
    rw [if_pos h0, h1]
    dsimp only [Out.bind]
    rw [h2]
    dsimp only
    rw [h3]
    dsimp only
    rw [h4]
    dsimp only [Out.bind]
    rw [h5]
    dsimp only
    rw [h6, h7]
  | .iff c a b, ρ, Q, h => by
    obtain ⟨x, ρ1, h1, t, ht, ha, hb⟩ := wpE_ok c (show wpE c ρ _ from h)
    cases t with
    | true =>
      obtain ⟨f, ρ2, h2, h⟩ := wpSs_ok a (ha rfl)
      exact ⟨_, _, by show (ev c ρ).bind _ = _; rw [h1]; show (match truth x with | some true => exs a ρ1 | some false => exs b ρ1 | none => .bad) = _; rw [ht]; exact h2, h⟩
    | false =>
      obtain ⟨f, ρ2, h2, h⟩ := wpSs_ok b (hb rfl)
      exact ⟨_, _, by show (ev c ρ).bind _ = _; rw [h1]; show (match truth x with | some true => exs a ρ1 | some false => exs b ρ1 | none => .bad) = _; rw [ht]; exact h2, h⟩
  | .whl c b, ρ, Q, h => by
    obtain ⟨I, ⟨n, hn, h0⟩, hs⟩ := h
    exact while_wp (c := ev c) (body := exs b) (I := I) (fun n ρ hI => by
      obtain ⟨x, ρ1, h1, t, ht, ha, hb⟩ := wpE_ok c (hs n ρ hI)
      exact ⟨x, ρ1, h1, t, ht, fun z => wpSs_ok b (ha z), hb⟩) FUEL n ρ hn h0
  | .forr tg it b, ρ, Q, h => by
    obtain ⟨items, ρ1, h1, I, h0, hs, he⟩ := wpIt_ok it (show wpIt it ρ _ from h)
    obtain ⟨f, ρ2, h2, h3⟩ := for_wp (tg := tg) (body := exs b) (I := I) (Q := Q) items.length 0 ρ1 (by omega) h0 (fun i d ρ hd hI => by
      obtain ⟨ρ', hb, hw⟩ := hs i d ρ hd hI
      exact ⟨ρ', hb, wpSs_ok b hw⟩) he
    rw [List.drop_zero] at h2
    exact ⟨_, _, by show (evIt it ρ).bind _ = _; rw [h1]; exact h2, h3⟩
  | .ret e, ρ, Q, h => by
    obtain ⟨d, ρ1, h1, h⟩ := wpE_ok e (show wpE e ρ _ from h)
    exact ⟨_, _, by show (ev e ρ).bind _ = _; rw [h1]; rfl, h⟩
  | .retN, ρ, Q, h => ⟨_, _, rfl, h⟩
  | .brk, ρ, Q, h => ⟨_, _, rfl, h⟩
  | .cnt, ρ, Q, h => ⟨_, _, rfl, h⟩
  | .rai _ _, ρ, Q, h => h.elim
  | .tri b hs, ρ, Q, h => by
    rcases h with h | ⟨x, ρ1, h1, h⟩
    · obtain ⟨f, ρ1, h1, h⟩ := wpSs_ok b h
      exact ⟨f, ρ1, by show (match exs b ρ with | .exc x ρ' => exH hs x ρ' | r => r) = _; rw [h1], h⟩
    · obtain ⟨f, ρ2, h2, h⟩ := wpH_ok hs h
      exact ⟨f, ρ2, by show (match exs b ρ with | .exc x ρ' => exH hs x ρ' | r => r) = _; rw [h1]; exact h2, h⟩
theorem wpSs_ok : ∀ (s : Ss) {ρ : Ev} {Q : Fl → Ev → Prop}, wpSs s ρ Q → ∃ f ρ', exs s ρ = .ok f ρ' ∧ Q f ρ'
  | .nil, ρ, Q, h => ⟨_, _, rfl, h⟩
  | .cons s ss, ρ, Q, h => by
    obtain ⟨f, ρ1, h1, h⟩ := wpS_ok s (show wpS s ρ _ from h)
    unfold exs
    rw [h1]
    cases f with
    | nx => exact wpSs_ok ss h
    | bk => exact ⟨_, _, rfl, h⟩
    | ct => exact ⟨_, _, rfl, h⟩
    | rt v => exact ⟨_, _, rfl, h⟩
theorem wpH_ok : ∀ (hs : Hs) {x : D} {ρ : Ev} {Q : Fl → Ev → Prop}, wpH hs x ρ Q → ∃ f ρ', exH hs x ρ = .ok f ρ' ∧ Q f ρ'
  | .nil, x, ρ, Q, h => h.elim
  | .cons c n h0 r, x, ρ, Q, h => by
    obtain ⟨t, ht, ha, hb⟩ := h
    cases t with
    | true =>
      obtain ⟨f, ρ1, h1, h⟩ := wpSs_ok h0 (ha rfl)
      exact ⟨f, _, by unfold exH; rw [ht]; dsimp only; rw [h1], h⟩
    | false =>
      obtain ⟨f, ρ1, h1, h⟩ := wpH_ok r (hb rfl)
      exact ⟨f, _, by unfold exH; rw [ht]; exact h1, h⟩
end
/-- a def's result -/
def wpF (n : Nat) (io : List Bool) (b : Ss) (ds : List D) (Q : D → List D → Prop) : Prop :=
  wpSs b (ds.map some ++ List.replicate (n - ds.length) none) fun f ρ => match f with
    | .nx => ∃ l, outsOf (ixs io) ρ = some l ∧ Q .non l
    | .rt d => ∃ l, outsOf (ixs io) ρ = some l ∧ Q d l
    | _ => False
theorem wpF_ok {n : Nat} {io : List Bool} {b : Ss} {ds : List D} {Q : D → List D → Prop} (h : wpF n io b ds Q) : ∃ d l, runFn n io b ds = .ret d l ∧ Q d l := by
  obtain ⟨f, ρ, h1, h⟩ := wpSs_ok b h
  unfold runFn
  rw [h1]
  cases f with
  | nx =>
    obtain ⟨l, h2, h⟩ := h
    dsimp only
    rw [h2]
    exact ⟨_, _, rfl, h⟩
  | rt d =>
    obtain ⟨l, h2, h⟩ := h
    dsimp only
    rw [h2]
    exact ⟨_, _, rfl, h⟩
  | bk => exact h.elim
  | ct => exact h.elim
theorem wpF_eq {n : Nat} {io : List Bool} {b : Ss} {ds : List D} {d : D} {l : List D} (h : wpF n io b ds fun d' l' => d' = d ∧ l' = l) : runFn n io b ds = .ret d l := by
  obtain ⟨d', l', h1, rfl, rfl⟩ := wpF_ok h
  exact h1
end Ly

namespace Ly
open PySem PySem.Spec L2
variable [Fns]
mutual
def xpE : E → Ev → (D → Ev → Prop) → (D → Ev → Prop) → Prop
  | .ck e, ρ, Q, N => xpE e ρ (fun d ρ => frzD d = true ∧ Q d ρ) N
  | .fz e, ρ, Q, N => xpE e ρ (fun d ρ => Q (fzD d) ρ) N
  | .o2 op a b, ρ, Q, N => xpE a ρ (fun x ρ => xpE b ρ (fun y ρ => ∃ z, op.sem x y = some z ∧ Q z ρ) N) N
  | .o1 op a, ρ, Q, N => xpE a ρ (fun x ρ => ∃ z, op.sem x = some z ∧ Q z ρ) N
  | .and a b, ρ, Q, N => xpE a ρ (fun x ρ => ∃ t, truth x = some t ∧ (t = true → xpE b ρ Q N) ∧ (t = false → Q x ρ)) N
  | .or a b, ρ, Q, N => xpE a ρ (fun x ρ => ∃ t, truth x = some t ∧ (t = true → Q x ρ) ∧ (t = false → xpE b ρ Q N)) N
  | .ite c a b, ρ, Q, N => xpE c ρ (fun x ρ => ∃ t, truth x = some t ∧ (t = true → xpE a ρ Q N) ∧ (t = false → xpE b ρ Q N)) N
  | .tup es, ρ, Q, N => xpEs es ρ (fun ds ρ => (ds.all frzD = true ∧ ds.length ≤ lim) ∧ Q (.tup ds) ρ) N
  | .lst es, ρ, Q, N => xpEs es ρ (fun ds ρ => ds.length ≤ lim ∧ Q (.lst true ds) ρ) N
  | .call slots k es, ρ, Q, N => xpEs es ρ (fun ds ρ => ∃ ds', fill slots ds ρ = some ds' ∧ ((∃ d outs, Fns.F k ds' = .ret d outs ∧ ∃ ρ', wb slots outs ρ = some ρ' ∧ Q d ρ') ∨ ∃ x outs, Fns.F k ds' = .exc x outs ∧ ∃ ρ', wb slots outs ρ = some ρ' ∧ N x ρ')) N
  | .callK k perm es, ρ, Q, N => xpEs es ρ (fun ds ρ => ds.all frzD = true ∧ ((∃ d, Fns.F k (permD perm ds) = .ret d [] ∧ Q d ρ) ∨ ∃ x, Fns.F k (permD perm ds) = .exc x [] ∧ N x ρ)) N
  | .fld a f, ρ, Q, N => xpE a ρ (fun x ρ => ∃ z, fldS f x = some z ∧ Q z ρ) N
  | .isX a Ts, ρ, Q, N => xpE a ρ (fun x ρ => ∃ z, isXS Ts x = some z ∧ Q z ρ) N
  | .var i, ρ, Q, N => wpE (.var i) ρ Q
  | .mv i, ρ, Q, N => wpE (.mv i) ρ Q
  | .mvo i, ρ, Q, N => wpE (.mvo i) ρ Q
  | .cst d, ρ, Q, N => wpE (.cst d) ρ Q
  | .glo k, ρ, Q, N => wpE (.glo k) ρ Q
  | .slc a lo hi, ρ, Q, N => wpE (.slc a lo hi) ρ Q
  | .pop i, ρ, Q, N => wpE (.pop i) ρ Q
  | .popAt i a, ρ, Q, N => wpE (.popAt i a) ρ Q
  | .lc ow tg it c e, ρ, Q, N => wpE (.lc ow tg it c e) ρ Q
  | .dnil, ρ, Q, N => wpE .dnil ρ Q
  | .lrg es, ρ, Q, N => wpE (.lrg es) ρ Q
  | .trg es, ρ, Q, N => wpE (.trg es) ρ Q
  | .me m a es, ρ, Q, N => wpE (.me m a es) ρ Q
  | .popP i p a, ρ, Q, N => wpE (.popP i p a) ρ Q
  | .ixL i b, ρ, Q, N => wpE (.ixL i b) ρ Q
  | .get a k d, ρ, Q, N => wpE (.get a k d) ρ Q
  | .srtK k a, ρ, Q, N => wpE (.srtK k a) ρ Q
  | .cmp2 p q a b c, ρ, Q, N => wpE (.cmp2 p q a b c) ρ Q
  | .dc ow tg it c k e, ρ, Q, N => wpE (.dc ow tg it c k e) ρ Q
def xpEs : Es → Ev → (List D → Ev → Prop) → (D → Ev → Prop) → Prop
  | .nil, ρ, Q, N => Q [] ρ
  | .cons e es, ρ, Q, N => xpE e ρ (fun d ρ => xpEs es ρ (fun ds ρ => Q (d :: ds) ρ) N) N
  | .io i es, ρ, Q, N => ∃ d, getV ρ i = some d ∧ xpEs es ρ (fun ds ρ => Q (.non :: ds) ρ) N
end
/-- done, or an error -/
def OkX {α : Type} (m : Out α) (Q : α → Ev → Prop) (N : D → Ev → Prop) : Prop := match m with
  | .ok d ρ => Q d ρ
  | .exc x ρ => N x ρ
  | .bad => False
theorem OkX.bind {α β : Type} {m : Out α} {f : α → Ev → Out β} {Q : β → Ev → Prop} {N : D → Ev → Prop} (h : OkX m (fun a ρ => OkX (f a ρ) Q N) N) : OkX (m.bind f) Q N := by
  cases m <;> exact h
theorem OkX.mono {α : Type} {m : Out α} {Q Q' : α → Ev → Prop} {N : D → Ev → Prop} (h : OkX m Q N) (k : ∀ a ρ, Q a ρ → Q' a ρ) : OkX m Q' N := by
  cases m <;> first
    | exact k _ _ h
    | exact h
theorem OkX.of {e : E} {ρ : Ev} {Q : D → Ev → Prop} {N : D → Ev → Prop} (h : wpE e ρ Q) : OkX (ev e ρ) Q N := by
  obtain ⟨d, ρ', h1, h2⟩ := wpE_ok e h
  rw [h1]
  exact h2
theorem OkX.lift {α : Type} {o : Option α} {ρ : Ev} {Q : α → Ev → Prop} {N : D → Ev → Prop} (h : ∃ z, o = some z ∧ Q z ρ) : OkX (liftO o ρ) Q N := by
  obtain ⟨z, rfl, h⟩ := h
  exact h
theorem OkX.tr {α : Type} {o : Option Bool} {a b c : Out α} {Q : α → Ev → Prop} {N : D → Ev → Prop} {A B : Prop} (h : ∃ t, o = some t ∧ (t = true → A) ∧ (t = false → B)) (ha : A → OkX a Q N) (hb : B → OkX b Q N) : OkX (match o with
    | some true => a
    | some false => b
    | none => c) Q N := by
  obtain ⟨t, rfl, h1, h2⟩ := h
  cases t
  · exact hb (h2 rfl)
  · exact ha (h1 rfl)
mutual
theorem xpE_ok : ∀ (e : E) {ρ : Ev} {Q N : D → Ev → Prop}, xpE e ρ Q N → OkX (ev e ρ) Q N
  | .ck e, ρ, Q, N, h => .bind ((xpE_ok e (show xpE e ρ _ N from h)).mono fun d ρ h => by
    show OkX (if frzD d = true then Out.ok d ρ else .bad) Q N
    rw [if_pos h.1]; exact h.2)
  | .fz e, ρ, Q, N, h => .bind ((xpE_ok e (show xpE e ρ _ N from h)).mono fun d ρ h => h)
  | .o2 op a b, ρ, Q, N, h => .bind ((xpE_ok a (show xpE a ρ _ N from h)).mono fun x ρ h => .bind ((xpE_ok b h).mono fun y ρ h => .lift h))
  | .o1 op a, ρ, Q, N, h => .bind ((xpE_ok a (show xpE a ρ _ N from h)).mono fun x ρ h => .lift h)
  | .and a b, ρ, Q, N, h => .bind ((xpE_ok a (show xpE a ρ _ N from h)).mono fun x ρ h => .tr h (fun z => xpE_ok b z) fun z => z)
  | .or a b, ρ, Q, N, h => .bind ((xpE_ok a (show xpE a ρ _ N from h)).mono fun x ρ h => .tr h (fun z => z) fun z => xpE_ok b z)
  | .ite c a b, ρ, Q, N, h => .bind ((xpE_ok c (show xpE c ρ _ N from h)).mono fun x ρ h => .tr h (fun z => xpE_ok a z) fun z => xpE_ok b z)
  | .tup es, ρ, Q, N, h => .bind ((xpEs_ok es (show xpEs es ρ _ N from h)).mono fun ds ρ h => by
    show OkX (if ds.all frzD = true ∧ ds.length ≤ lim then Out.ok (D.tup ds) ρ else .bad) Q N
    rw [if_pos h.1]; exact h.2)
  | .lst es, ρ, Q, N, h => .bind ((xpEs_ok es (show xpEs es ρ _ N from h)).mono fun ds ρ h => by
    show OkX (if ds.length ≤ lim then Out.ok (D.lst true ds) ρ else .bad) Q N
    rw [if_pos h.1]; exact h.2)
  | .call slots k es, ρ, Q, N, h => .bind ((xpEs_ok es (show xpEs es ρ _ N from h)).mono fun ds ρ h => by
    show OkX (callOut slots (Fns.F k) ds ρ) Q N
    obtain ⟨ds', h1, ⟨d, outs, h2, ρ', h3, h⟩ | ⟨x, outs, h2, ρ', h3, h⟩⟩ := h
    · unfold callOut
      rw [h1]
      dsimp only
      rw [h2]
      dsimp only
      rw [h3]
      exact h
    · unfold callOut
      rw [h1]
      dsimp only
      rw [h2]
      dsimp only
      rw [h3]
      exact h)
  | .callK k perm es, ρ, Q, N, h => .bind ((xpEs_ok es (show xpEs es ρ _ N from h)).mono fun ds ρ h => by
    obtain ⟨h1, ⟨d, h2, h⟩ | ⟨x, h2, h⟩⟩ := h
    · show OkX (if ds.all frzD = true then (match Fns.F k (permD perm ds) with
        | .ret d [] => Out.ok d ρ
        | .exc x [] => .exc x ρ
        | _ => .bad) else .bad) Q N
      rw [if_pos h1, h2]
      exact h
    · show OkX (if ds.all frzD = true then (match Fns.F k (permD perm ds) with
        | .ret d [] => Out.ok d ρ
        | .exc x [] => .exc x ρ
        | _ => .bad) else .bad) Q N
      rw [if_pos h1, h2]
      exact h)
  | .fld a f, ρ, Q, N, h => .bind ((xpE_ok a (show xpE a ρ _ N from h)).mono fun x ρ h => .lift h)
  | .isX a Ts, ρ, Q, N, h => .bind ((xpE_ok a (show xpE a ρ _ N from h)).mono fun x ρ h => .lift h)
  | .var i, ρ, Q, N, h => .of h
  | .mv i, ρ, Q, N, h => .of h
  | .mvo i, ρ, Q, N, h => .of h
  | .cst d, ρ, Q, N, h => .of h
  | .glo k, ρ, Q, N, h => .of h
  | .slc a lo hi, ρ, Q, N, h => .of h
  | .pop i, ρ, Q, N, h => .of h
  | .popAt i a, ρ, Q, N, h => .of h
  | .lc ow tg it c e, ρ, Q, N, h => .of h
  | .dnil, ρ, Q, N, h => .of h
  | .lrg es, ρ, Q, N, h => .of h
  | .trg es, ρ, Q, N, h => .of h
  | .me m a es, ρ, Q, N, h => .of h
  | .popP i p a, ρ, Q, N, h => .of h
  | .ixL i b, ρ, Q, N, h => .of h
  | .get a k d, ρ, Q, N, h => .of h
  | .srtK k a, ρ, Q, N, h => .of h
  | .cmp2 p q a b c, ρ, Q, N, h => .of h
  | .dc ow tg it c k e, ρ, Q, N, h => .of h
theorem xpEs_ok : ∀ (es : Es) {ρ : Ev} {Q : List D → Ev → Prop} {N : D → Ev → Prop}, xpEs es ρ Q N → OkX (evs es ρ) Q N
  | .nil, ρ, Q, N, h => h
  | .cons e es, ρ, Q, N, h => .bind ((xpE_ok e (show xpE e ρ _ N from h)).mono fun d ρ h => .bind ((xpEs_ok es h).mono fun ds ρ h => h))
  | .io i es, ρ, Q, N, h => by
    obtain ⟨d, h0, h⟩ := h
    show OkX (match getV ρ i with | some _ => (evs es ρ).bind fun ds ρ => Out.ok (D.non :: ds) ρ | none => .bad) Q N
    rw [h0]
    exact .bind ((xpEs_ok es h).mono fun ds ρ h => h)
end
mutual
def xpS : S → Ev → (Fl → Ev → Prop) → (D → Ev → Prop) → Prop
  | .expr e, ρ, Q, N => xpE e ρ (fun _ ρ => Q .nx ρ) N
  | .asg i e, ρ, Q, N => xpE e ρ (fun d ρ => Q .nx (ρ.set i (some d))) N
  | .asgT tg e, ρ, Q, N => xpE e ρ (fun d ρ => ∃ ρ', bindT tg d ρ = some ρ' ∧ Q .nx ρ') N
  | .app i e, ρ, Q, N => isL ρ i = true ∧ xpE e ρ (fun d ρ => ∃ xs, getV ρ i = some (.lst true xs) ∧ xs.length < lim ∧ Q .nx (ρ.set i (some (.lst true (xs ++ [d]))))) N
  | .iff c a b, ρ, Q, N => xpE c ρ (fun x ρ => ∃ t, truth x = some t ∧ (t = true → xpSs a ρ Q N) ∧ (t = false → xpSs b ρ Q N)) N
  | .forr tg it b, ρ, Q, N => wpIt it ρ fun items ρ => ∃ I : Nat → Ev → Prop, I 0 ρ ∧ (∀ i d ρ, items[i]? = some d → I i ρ → ∃ ρ', bindT tg d ρ = some ρ' ∧ xpSs b ρ' (fun f ρ => match f with
      | .nx => I (i + 1) ρ
      | .ct => I (i + 1) ρ
      | .bk => Q .nx ρ
      | .rt v => Q (.rt v) ρ) N) ∧ ∀ ρ, I items.length ρ → Q .nx ρ
  | .ret e, ρ, Q, N => xpE e ρ (fun d ρ => Q (.rt d) ρ) N
  | .rai c es, ρ, Q, N => xpEs es ρ (fun ds ρ => ∃ ns, Fns.N c = some ns ∧ (ns.length = ds.length ∧ ds.all frzD = true) ∧ N (.exc c ns ds) ρ) N
  | .tri b hs, ρ, Q, N => xpSs b ρ Q fun x ρ => xpH hs x ρ Q N
  | .pass, ρ, Q, N => wpS .pass ρ Q
  | .asgP i j a b, ρ, Q, N => wpS (.asgP i j a b) ρ Q
  | .aug i o e, ρ, Q, N => wpS (.aug i o e) ρ Q
  | .setI i x e, ρ, Q, N => wpS (.setI i x e) ρ Q
  | .appP i p e, ρ, Q, N => wpS (.appP i p e) ρ Q
  | .setP i p x e, ρ, Q, N => wpS (.setP i p x e) ρ Q
  | .augI i x o e, ρ, Q, N => wpS (.augI i x o e) ρ Q
  | .lme m i es, ρ, Q, N => wpS (.lme m i es) ρ Q
  | .whl c b, ρ, Q, N => wpS (.whl c b) ρ Q
  | .retN, ρ, Q, N => Q (.rt .non) ρ
  | .brk, ρ, Q, N => Q .bk ρ
  | .cnt, ρ, Q, N => Q .ct ρ
def xpSs : Ss → Ev → (Fl → Ev → Prop) → (D → Ev → Prop) → Prop
  | .nil, ρ, Q, N => Q .nx ρ
  | .cons s ss, ρ, Q, N => xpS s ρ (fun f ρ => match f with
    | .nx => xpSs ss ρ Q N
    | .bk => Q .bk ρ
    | .ct => Q .ct ρ
    | .rt v => Q (.rt v) ρ) N
def xpH : Hs → D → Ev → (Fl → Ev → Prop) → (D → Ev → Prop) → Prop
  | .nil, x, ρ, Q, N => N x ρ
  | .cons c n h r, x, ρ, Q, N => ∃ t, clsX x c = some t ∧ (t = true → wpSs h (bindH n x ρ) fun f ρ => Q f (unbH n ρ)) ∧ (t = false → xpH r x ρ Q N)
end
theorem OkX.ofS {s : S} {ρ : Ev} {Q : Fl → Ev → Prop} {N : D → Ev → Prop} (h : wpS s ρ Q) : OkX (ex s ρ) Q N := by
  obtain ⟨d, ρ', h1, h2⟩ := wpS_ok s h
  rw [h1]
  exact h2
theorem for_xp {tg : Tg} {body : Ev → Out Fl} {I : Nat → Ev → Prop} {items : List D} {Q : Fl → Ev → Prop} {N : D → Ev → Prop} : ∀ (n i : Nat) (ρ : Ev), n + i = items.length → I i ρ → (∀ i d ρ, items[i]? = some d → I i ρ → ∃ ρ', bindT tg d ρ = some ρ' ∧ OkX (body ρ') (fun f ρ2 => match f with
      | .nx => I (i + 1) ρ2
      | .ct => I (i + 1) ρ2
      | .bk => Q .nx ρ2
      | .rt v => Q (.rt v) ρ2) N) → (∀ ρ, I items.length ρ → Q .nx ρ) → OkX (forLoop tg body (items.drop i) ρ) Q N
  | 0, i, ρ, hn, h, hs, he => by
    have : i = items.length := by omega
    subst this
    rw [List.drop_length]
    exact he ρ h
  | n + 1, i, ρ, hn, h, hs, he => by
    have hi : i < items.length := by omega
    obtain ⟨ρ1, h1, h2⟩ := hs i items[i] ρ (by simp [hi]) h
    rw [List.drop_eq_getElem_cons hi]
    unfold forLoop
    rw [h1]
    dsimp only
    cases hb : body ρ1 with
    | bad => rw [hb] at h2; exact h2
    | exc x ρ2 => rw [hb] at h2; exact h2
    | ok f ρ2 =>
      rw [hb] at h2
      cases f with
      | nx => exact for_xp n (i + 1) ρ2 (by omega) h2 hs he
      | ct => exact for_xp n (i + 1) ρ2 (by omega) h2 hs he
      | bk => exact h2
      | rt v => exact h2
mutual
theorem xpS_ok : ∀ (s : S) {ρ : Ev} {Q : Fl → Ev → Prop} {N : D → Ev → Prop}, xpS s ρ Q N → OkX (ex s ρ) Q N
  | .expr e, ρ, Q, N, h => .bind ((xpE_ok e (show xpE e ρ _ N from h)).mono fun d ρ h => h)
  | .asg i e, ρ, Q, N, h => .bind ((xpE_ok e (show xpE e ρ _ N from h)).mono fun d ρ h => h)
  | .asgT tg e, ρ, Q, N, h => .bind ((xpE_ok e (show xpE e ρ _ N from h)).mono fun d ρ h => by
    obtain ⟨ρ', hb, h⟩ := h
    show OkX (match bindT tg d ρ with | some ρ' => Out.ok Fl.nx ρ' | none => .bad) Q N
    rw [hb]
    exact h)
  | .app i e, ρ, Q, N, h => by
    obtain ⟨hl, h⟩ := h
    unfold ex
    rw [if_pos hl]
    refine .bind ((xpE_ok e h).mono fun d ρ h => ?_)
    obtain ⟨xs, hx, hn, h⟩ := h
    unfold onL appF
    rw [hx]
    dsimp only
    rw [if_pos hn]
    exact h
  | .iff c a b, ρ, Q, N, h => .bind ((xpE_ok c (show xpE c ρ _ N from h)).mono fun x ρ h => .tr h (fun z => xpSs_ok a z) fun z => xpSs_ok b z)
  | .forr tg it b, ρ, Q, N, h => by
    obtain ⟨items, ρ1, h1, I, h0, hs, he⟩ := wpIt_ok it (show wpIt it ρ _ from h)
    show OkX ((evIt it ρ).bind _) Q N
    rw [h1]
    have := for_xp (tg := tg) (body := exs b) (I := I) (Q := Q) (N := N) items.length 0 ρ1 (by omega) h0 (fun i d ρ hd hI => by
      obtain ⟨ρ', hb, hw⟩ := hs i d ρ hd hI
      exact ⟨ρ', hb, xpSs_ok b hw⟩) he
    rw [List.drop_zero] at this
    exact this
  | .ret e, ρ, Q, N, h => .bind ((xpE_ok e (show xpE e ρ _ N from h)).mono fun d ρ h => h)
  | .rai c es, ρ, Q, N, h => .bind ((xpEs_ok es (show xpEs es ρ _ N from h)).mono fun ds ρ h => by
    obtain ⟨ns, h1, h2, h⟩ := h
    show OkX (match Fns.N c with | some ns => if ns.length = ds.length ∧ ds.all frzD = true then Out.exc (.exc c ns ds) ρ else .bad | none => .bad) Q N
    rw [h1]
    dsimp only
    rw [if_pos h2]
    exact h)
  | .tri b hs, ρ, Q, N, h => by
    have h := xpSs_ok b (show xpSs b ρ Q _ from h)
    show OkX (match exs b ρ with | .exc x ρ' => exH hs x ρ' | r => r) Q N
    cases hb : exs b ρ with
    | bad => rw [hb] at h; exact h
    | exc x ρ' => rw [hb] at h; exact xpH_ok hs h
    | ok f ρ' => rw [hb] at h; exact h
  | .pass, ρ, Q, N, h => .ofS h
  | .asgP i j a b, ρ, Q, N, h => .ofS h
  | .aug i o e, ρ, Q, N, h => .ofS h
  | .setI i x e, ρ, Q, N, h => .ofS h
  | .appP i p e, ρ, Q, N, h => .ofS h
  | .setP i p x e, ρ, Q, N, h => .ofS h
  | .augI i x o e, ρ, Q, N, h => .ofS h
  | .lme m i es, ρ, Q, N, h => .ofS h
  | .whl c b, ρ, Q, N, h => .ofS h
  | .retN, ρ, Q, N, h => h
  | .brk, ρ, Q, N, h => h
  | .cnt, ρ, Q, N, h => h
theorem xpSs_ok : ∀ (s : Ss) {ρ : Ev} {Q : Fl → Ev → Prop} {N : D → Ev → Prop}, xpSs s ρ Q N → OkX (exs s ρ) Q N
  | .nil, ρ, Q, N, h => h
  | .cons s ss, ρ, Q, N, h => by
    have h := xpS_ok s (show xpS s ρ _ N from h)
    unfold exs
    cases hb : ex s ρ with
    | bad => rw [hb] at h; exact h
    | exc x ρ' => rw [hb] at h; exact h
    | ok f ρ' =>
      rw [hb] at h
      cases f with
      | nx => exact xpSs_ok ss h
      | bk => exact h
      | ct => exact h
      | rt v => exact h
theorem xpH_ok : ∀ (hs : Hs) {x : D} {ρ : Ev} {Q : Fl → Ev → Prop} {N : D → Ev → Prop}, xpH hs x ρ Q N → OkX (exH hs x ρ) Q N
  | .nil, x, ρ, Q, N, h => h
  | .cons c n h0 r, x, ρ, Q, N, h => by
    obtain ⟨t, ht, ha, hb⟩ := h
    cases t with
    | true =>
      obtain ⟨f, ρ1, h1, h⟩ := wpSs_ok h0 (ha rfl)
      unfold exH
      rw [ht]
      dsimp only
      rw [h1]
      exact h
    | false =>
      unfold exH
      rw [ht]
      exact xpH_ok r (hb rfl)
end
/-- a def's result, or its error -/
def xpF (n : Nat) (io : List Bool) (b : Ss) (ds : List D) (R : FOut → Prop) : Prop :=
  xpSs b (ds.map some ++ List.replicate (n - ds.length) none) (fun f ρ => match f with
    | .nx => ∃ l, outsOf (ixs io) ρ = some l ∧ R (.ret .non l)
    | .rt d => ∃ l, outsOf (ixs io) ρ = some l ∧ R (.ret d l)
    | _ => False) fun x ρ => ∃ l, outsOf (ixs io) ρ = some l ∧ R (.exc x l)
theorem xpF_ok {n : Nat} {io : List Bool} {b : Ss} {ds : List D} {R : FOut → Prop} (h : xpF n io b ds R) : R (runFn n io b ds) := by
  have h := xpSs_ok b (show xpSs b _ _ _ from h)
  unfold runFn
  cases hb : exs b (ds.map some ++ List.replicate (n - ds.length) none) with
  | bad => rw [hb] at h; exact h.elim
  | exc x ρ =>
    rw [hb] at h
    obtain ⟨l, h1, h2⟩ := h
    dsimp only
    rw [h1]
    exact h2
  | ok f ρ =>
    rw [hb] at h
    cases f with
    | nx =>
      obtain ⟨l, h1, h2⟩ := h
      dsimp only
      rw [h1]
      exact h2
    | rt d =>
      obtain ⟨l, h1, h2⟩ := h
      dsimp only
      rw [h1]
      exact h2
    | bk => exact h.elim
    | ct => exact h.elim
theorem xpF_eq {n : Nat} {io : List Bool} {b : Ss} {ds : List D} {r : FOut} (h : xpF n io b ds fun q => q = r) : runFn n io b ds = r := xpF_ok h
end Ly

namespace Hd
open PySem PySem.Spec PyProof.Rows L2 Ly

def top (i : Nat) : Stmt := PySem.Challenge.pw_fringes_k01_check_name.main.body.getD i (.Pass ⟨0, 0, 0, 0⟩)
/-- name_fault(thing): 0 thing, 1 place, 2 sign -/
def n0 : List PySem.Str := ["thing", "place", "sign"]
def io0 : List Bool := [false]
def b0 : Ss := .cons (.iff (.o1 .notO (.o1 (.isT .str) (.var 0))) (.cons (.ret (.o1 .neg (.cst (.int 1)))) .nil) .nil) (.cons (.forr (.tp (.cons (.nm 1) (.cons (.nm 2) .nil))) (.enum (.ck (.var 0))) (.cons (.iff (.or (.o2 .ge (.var 1) (.glo 0)) (.and (.o2 .notIn (.var 2) (.glo 1)) (.or (.o2 .eq (.var 1) (.cst (.int 0))) (.o2 .notIn (.var 2) (.glo 2))))) (.cons (.ret (.ck (.var 1))) .nil) .nil) .nil)) (.cons (.iff (.o2 .eq (.var 0) (.cst (.str ""))) (.cons (.ret (.cst (.int 0))) .nil) .nil) (.cons (.ret (.cst .non)) .nil)))
/-- check_name(thing): 0 thing, 1 fault -/
def n1 : List PySem.Str := ["thing", "fault"]
def io1 : List Bool := [false]
def b1 : Ss := .cons (.asg 1 (.call [none] 0 (.cons (.ck (.var 0)) .nil))) (.cons (.iff (.o2 .notN (.var 1) (.cst .non)) (.cons (.rai "BadName" (.cons (.ck (.var 1)) .nil)) .nil) .nil) .nil)
/-- is_name(thing): 0 thing -/
def n2 : List PySem.Str := ["thing"]
def io2 : List Bool := [false]
def b2 : Ss := .cons (.ret (.o2 .isN (.call [none] 0 (.cons (.ck (.var 0)) .nil)) (.cst .non))) .nil
/-- _law_turn(tank, many): 0 tank, 1 many, 2 cell -/
def n3 : List PySem.Str := ["tank", "many", "cell"]
def io3 : List Bool := [true, false]
def b3 : Ss := .cons (.asg 2 (.cst (.int 0))) (.cons (.iff (.o2 .lt (.o2 .idx (.var 0) (.cst (.int 1))) (.o1 .len (.o2 .idx (.var 0) (.cst (.int 0))))) (.cons (.asg 2 (.o2 .mod (.o1 .int (.o2 .idx (.o2 .idx (.var 0) (.cst (.int 0))) (.o2 .idx (.var 0) (.cst (.int 1))))) (.cst (.int 10007)))) .nil) .nil) (.cons (.setI 0 (.cst (.int 1)) (.o2 .add (.o2 .idx (.var 0) (.cst (.int 1))) (.cst (.int 1)))) (.cons (.setI 0 (.cst (.int 2)) (.o2 .mod (.o2 .add (.o2 .add (.o2 .add (.o2 .mul (.o2 .idx (.var 0) (.cst (.int 2))) (.cst (.int 5857))) (.o2 .mul (.var 2) (.cst (.int 641)))) (.o2 .mul (.o2 .idx (.var 0) (.cst (.int 1))) (.cst (.int 37)))) (.cst (.int 911))) (.cst (.int 999959)))) (.cons (.ret (.o2 .mod (.o2 .fdiv (.o2 .idx (.var 0) (.cst (.int 2))) (.cst (.int 7))) (.var 1))) .nil))))
/-- _law_due(thing): 0 thing, 1 at -/
def n4 : List PySem.Str := ["thing", "at"]
def io4 : List Bool := [false]
def b4 : Ss := .cons (.iff (.o1 .notO (.o1 (.isT .str) (.var 0))) (.cons (.ret (.o1 .neg (.cst (.int 1)))) .nil) .nil) (.cons (.forr (.nm 1) (.rng (.cons (.o1 .len (.var 0)) .nil)) (.cons (.iff (.o2 .eq (.var 1) (.cst (.int 8))) (.cons (.ret (.cst (.int 8))) .nil) .nil) (.cons (.iff (.and (.o2 .notIn (.o2 .idx (.var 0) (.var 1)) (.cst (.str "abcdefghijklmnopqrstuvwxyz"))) (.or (.o2 .eq (.var 1) (.cst (.int 0))) (.o2 .notIn (.o2 .idx (.var 0) (.var 1)) (.cst (.str "0123456789"))))) (.cons (.ret (.ck (.var 1))) .nil) .nil) .nil))) (.cons (.iff (.o2 .eq (.var 0) (.cst (.str ""))) (.cons (.ret (.cst (.int 0))) .nil) .nil) (.cons (.ret (.cst .non)) .nil)))
/-- _law_holds(thing): 0 thing, 1 due, 2 told, 3 error -/
def n5 : List PySem.Str := ["thing", "due", "told", "error"]
def io5 : List Bool := [false]
def b5 : Ss := .cons (.asg 1 (.call [none] 4 (.cons (.ck (.var 0)) .nil))) (.cons (.asg 2 (.call [none] 2 (.cons (.ck (.var 0)) .nil))) (.cons (.iff (.or (.o1 .notO (.o1 (.isT .bool) (.var 2))) (.o2 .ne (.var 2) (.o2 .isN (.var 1) (.cst .non)))) (.cons (.ret (.cst (.bl false))) .nil) .nil) (.cons (.tri (.cons (.asg 2 (.call [none] 1 (.cons (.ck (.var 0)) .nil))) .nil) (.cons "FringeError" (some 3) (.cons (.iff (.or (.isX (.var 3) ["CallError"]) (.or (.isX (.var 3) ["TextError"]) (.isX (.var 3) ["DeskError"]))) (.cons (.ret (.cst (.bl false))) .nil) .nil) (.cons (.iff (.or (.o2 .isN (.var 1) (.cst .non)) (.or (.o1 .notO (.isX (.var 3) ["BadName"])) (.o1 .notO (.isX (.var 3) ["DataError"])))) (.cons (.ret (.cst (.bl false))) .nil) .nil) (.cons (.ret (.and (.o1 (.isT .int) (.fld (.var 3) "at")) (.and (.o1 .notO (.o1 (.isT .bool) (.fld (.var 3) "at"))) (.o2 .eq (.fld (.var 3) "at") (.var 1))))) .nil))) .nil)) (.cons (.ret (.and (.o2 .isN (.var 1) (.cst .non)) (.o2 .isN (.var 2) (.cst .non)))) .nil))))
/-- _law_drawn(tank): 0 tank, 1 signs, 2 others, 3 size, 4 made, 5 at -/
def n6 : List PySem.Str := ["tank", "signs", "others", "size", "made", "at"]
def io6 : List Bool := [true]
def b6 : Ss := .cons (.asg 1 (.cst (.str "abcdefghijklmnopqrstuvwxyz0123456789"))) (.cons (.asg 2 (.cst (.str "ABMZ_-. :#'~!$&\x40[{/;,?"))) (.cons (.asg 3 (.call [some 0, none] 3 (.io 0 (.cons (.cst (.int 13)) .nil)))) (.cons (.iff (.o2 .eq (.call [some 0, none] 3 (.io 0 (.cons (.cst (.int 4)) .nil))) (.cst (.int 0))) (.cons (.asg 3 (.o2 .add (.cst (.int 8)) (.call [some 0, none] 3 (.io 0 (.cons (.cst (.int 2)) .nil))))) .nil) .nil) (.cons (.asg 4 (.lst .nil)) (.cons (.forr (.nm 5) (.rng (.cons (.ck (.var 3)) .nil)) (.cons (.app 4 (.ck (.ixL 1 (.call [some 0, none] 3 (.io 0 (.cons (.o2 .sub (.cst (.int 36)) (.o2 .mul (.cst (.int 10)) (.o1 .int (.and (.o2 .eq (.var 5) (.cst (.int 0))) (.o2 .gt (.call [some 0, none] 3 (.io 0 (.cons (.cst (.int 4)) .nil))) (.cst (.int 0))))))) .nil)))))) .nil)) (.cons (.asg 5 (.call [some 0, none] 3 (.io 0 (.cons (.o2 .add (.var 3) (.cst (.int 1))) .nil)))) (.cons (.iff (.and (.o2 .lt (.var 5) (.var 3)) (.o2 .eq (.call [some 0, none] 3 (.io 0 (.cons (.cst (.int 2)) .nil))) (.cst (.int 0)))) (.cons (.setI 4 (.var 5) (.ck (.ixL 2 (.call [some 0, none] 3 (.io 0 (.cons (.cst (.int 22)) .nil)))))) .nil) .nil) (.cons (.ret (.me .join (.cst (.str "")) (.cons (.mv 4) .nil))) .nil))))))))
/-- law(script): 0 script, 1 tank, 2 lap, 3 name, 4 tail, 5 things, 6 thing -/
def n7 : List PySem.Str := ["script", "tank", "lap", "name", "tail", "things", "thing"]
def io7 : List Bool := [false]
def b7 : Ss := .cons (.asg 1 (.lst (.cons (.ck (.var 0)) (.cons (.cst (.int 0)) (.cons (.cst (.int 4421)) .nil))))) (.cons (.forr (.nm 2) (.rng (.cons (.cst (.int 8)) .nil)) (.cons (.iff (.o1 .notO (.call [none] 5 (.cons (.call [some 1] 6 (.io 1 .nil)) .nil))) (.cons (.ret (.cst (.bl false))) .nil) .nil) .nil)) (.cons (.asg 3 (.ck (.o2 .idx (.cst (.str "abcdefghijklmnopqrstuvwxyz")) (.call [some 1, none] 3 (.io 1 (.cons (.cst (.int 26)) .nil)))))) (.cons (.asg 4 (.ck (.o2 .idx (.cst (.str "0123456789abcdefghijklmnopqrstuvwxyz")) (.call [some 1, none] 3 (.io 1 (.cons (.cst (.int 36)) .nil)))))) (.cons (.asg 5 (.fz (.lst (.cons (.ck (.var 3)) (.cons (.o2 .add (.cst (.str "_")) (.var 3)) (.cons (.o2 .add (.o2 .add (.var 3) (.cst (.str "_"))) (.var 4)) (.cons (.me .upper (.var 3) .nil) (.cons (.o2 .add (.var 3) (.o2 .mul (.var 4) (.cst (.int 7)))) (.cons (.o2 .add (.var 3) (.o2 .mul (.var 4) (.cst (.int 8)))) (.cons (.cst (.str "")) (.cons (.o2 .add (.var 4) (.var 3)) (.cons (.o2 .add (.var 3) (.cst (.str " "))) (.cons (.o2 .add (.cst (.str " ")) (.var 3)) (.cons (.o2 .add (.o2 .add (.var 3) (.o2 .mul (.var 4) (.cst (.int 7)))) (.cst (.str " "))) .nil)))))))))))))) (.cons (.asg 5 (.fz (.o2 .add (.ck (.var 5)) (.lst (.cons (.cst .non) (.cons (.cst (.bl true)) (.cons (.cst (.bl false)) (.cons (.cst (.int 7)) (.cons (.tup (.cons (.ck (.var 3)) .nil)) (.cons (.fz (.lst (.cons (.ck (.var 3)) .nil))) (.cons (.tup .nil) (.cons (.fz (.lst .nil)) (.cons (.tup (.cons (.tup (.cons (.ck (.var 3)) .nil)) (.cons (.cst .non) .nil))) .nil))))))))))))) (.cons (.forr (.nm 6) (.seq (.var 5)) (.cons (.iff (.o1 .notO (.call [none] 5 (.cons (.ck (.var 6)) .nil))) (.cons (.ret (.cst (.bl false))) .nil) .nil) .nil)) (.cons (.ret (.cst (.bl true))) .nil)))))))
def xt : XT := [("FringeError", [], ["FringeError", "ValueError"]), ("DataError", [], ["DataError", "FringeError", "ValueError"]), ("CallError", [], ["CallError", "FringeError", "ValueError"]), ("TextError", [], ["TextError", "FringeError", "ValueError"]), ("DeskError", [], ["DeskError", "FringeError", "ValueError"]), ("BadName", ["at"], ["BadName", "DataError", "FringeError", "ValueError"]), ("ValueError", [], ["ValueError"])]
def gl : List PySem.Str := ["NAME_MOST", "LETTERS", "FIGURES"]
def gv : List D := [.int 8, .str "abcdefghijklmnopqrstuvwxyz", .str "0123456789"]
abbrev cl : List PySem.Str := xt.map (·.1)
abbrev inst (l : List FSem) : Fns := ⟨fun k => l.getD k (fun _ => .bad), fun k => gv.getD k .non, xtS xt, xtN xt⟩
def clsBody (s : Stmt) (j : Nat) : Stmt := match s with
  | .ClassDef _ _ _ b _ _ _ _ _ _ _ => b.getD j (.Pass ⟨0, 0, 0, 0⟩)
  | _ => .Pass ⟨0, 0, 0, 0⟩
abbrev ci0 : Stmt := clsBody (top 9) 0
abbrev ind0 : InD := ⟨"BadName", ["self", "at"], "BadName.__init__", defArgs ci0, defBody ci0, defScope ci0⟩
def inds : List InD := [ind0]
abbrev rs : List PySem.Str := inds.map (·.cls)
theorem inok0 : InOk ind0 := ⟨⟨rfl, rfl, rfl, by decide +kernel, by decide +kernel, by decide +kernel, by decide +kernel, by decide +kernel, by decide +kernel⟩, by kernel_rfl, by decide, ⟨_, rfl, rfl⟩, fun _ _ _ _ _ _ _ us hl => match us, hl with | [_, _], _ => rfl⟩
def t0 : List FSem := []
def f0 : List (PySem.Str × List Bool) := []
def s0 : FSem := @runFn (inst t0) n0.length io0 b0
def t1 : List FSem := t0 ++ [s0]
def f1 : List (PySem.Str × List Bool) := f0 ++ [(("name_fault" : PySem.Str), io0)]
def s1 : FSem := @runFn (inst t1) n1.length io1 b1
def t2 : List FSem := t1 ++ [s1]
def f2 : List (PySem.Str × List Bool) := f1 ++ [(("check_name" : PySem.Str), io1)]
def s2 : FSem := @runFn (inst t2) n2.length io2 b2
def t3 : List FSem := t2 ++ [s2]
def f3 : List (PySem.Str × List Bool) := f2 ++ [(("is_name" : PySem.Str), io2)]
def s3 : FSem := @runFn (inst t3) n3.length io3 b3
def t4 : List FSem := t3 ++ [s3]
def f4 : List (PySem.Str × List Bool) := f3 ++ [(("_law_turn" : PySem.Str), io3)]
def s4 : FSem := @runFn (inst t4) n4.length io4 b4
def t5 : List FSem := t4 ++ [s4]
def f5 : List (PySem.Str × List Bool) := f4 ++ [(("_law_due" : PySem.Str), io4)]
def s5 : FSem := @runFn (inst t5) n5.length io5 b5
def t6 : List FSem := t5 ++ [s5]
def f6 : List (PySem.Str × List Bool) := f5 ++ [(("_law_holds" : PySem.Str), io5)]
def s6 : FSem := @runFn (inst t6) n6.length io6 b6
def t7 : List FSem := t6 ++ [s6]
def f7 : List (PySem.Str × List Bool) := f6 ++ [(("_law_drawn" : PySem.Str), io6)]
def s7 : FSem := @runFn (inst t7) n7.length io7 b7
def t8 : List FSem := t7 ++ [s7]
def f8 : List (PySem.Str × List Bool) := f7 ++ [(("law" : PySem.Str), io7)]
def free : List PySem.Str := ["ValueError", "bool", "enumerate", "int", "isinstance", "len", "range", "str"]
def kp0 : List (PySem.Str × List PySem.Str × List Nat) := []
theorem sc0 : FnScope n0 ["thing"] (defScope (top 11)) := ⟨rfl, rfl, rfl, by decide +kernel, rfl, by decide +kernel, by decide +kernel⟩
theorem ch0 : chkSs b0 (ixs io0) ⟨n0, defScope (top 11), true, defScope (top 11), f0, gl, free, [], kp0, [], true, cl, rs⟩ (defBody (top 11)) = true := by kernel_rfl
def kp1 : List (PySem.Str × List PySem.Str × List Nat) := []
theorem sc1 : FnScope n1 ["thing"] (defScope (top 12)) := ⟨rfl, rfl, rfl, by decide +kernel, rfl, by decide +kernel, by decide +kernel⟩
theorem ch1 : chkSs b1 (ixs io1) ⟨n1, defScope (top 12), true, defScope (top 12), f1, gl, free, [], kp1, [], true, cl, rs⟩ (defBody (top 12)) = true := by kernel_rfl
def kp2 : List (PySem.Str × List PySem.Str × List Nat) := []
theorem sc2 : FnScope n2 ["thing"] (defScope (top 13)) := ⟨rfl, rfl, rfl, by decide +kernel, rfl, by decide +kernel, by decide +kernel⟩
theorem ch2 : chkSs b2 (ixs io2) ⟨n2, defScope (top 13), true, defScope (top 13), f2, gl, free, [], kp2, [], true, cl, rs⟩ (defBody (top 13)) = true := by kernel_rfl
def kp3 : List (PySem.Str × List PySem.Str × List Nat) := []
theorem sc3 : FnScope n3 ["tank", "many"] (defScope (top 15)) := ⟨rfl, rfl, rfl, by decide +kernel, rfl, by decide +kernel, by decide +kernel⟩
theorem ch3 : chkSs b3 (ixs io3) ⟨n3, defScope (top 15), true, defScope (top 15), f3, gl, free, [], kp3, [], true, cl, rs⟩ (defBody (top 15)) = true := by kernel_rfl
def kp4 : List (PySem.Str × List PySem.Str × List Nat) := []
theorem sc4 : FnScope n4 ["thing"] (defScope (top 16)) := ⟨rfl, rfl, rfl, by decide +kernel, rfl, by decide +kernel, by decide +kernel⟩
theorem ch4 : chkSs b4 (ixs io4) ⟨n4, defScope (top 16), true, defScope (top 16), f4, gl, free, [], kp4, [], true, cl, rs⟩ (defBody (top 16)) = true := by kernel_rfl
def kp5 : List (PySem.Str × List PySem.Str × List Nat) := []
theorem sc5 : FnScope n5 ["thing"] (defScope (top 17)) := ⟨rfl, rfl, rfl, by decide +kernel, rfl, by decide +kernel, by decide +kernel⟩
theorem ch5 : chkSs b5 (ixs io5) ⟨n5, defScope (top 17), true, defScope (top 17), f5, gl, free, [], kp5, [], true, cl, rs⟩ (defBody (top 17)) = true := by kernel_rfl
def kp6 : List (PySem.Str × List PySem.Str × List Nat) := []
theorem sc6 : FnScope n6 ["tank"] (defScope (top 18)) := ⟨rfl, rfl, rfl, by decide +kernel, rfl, by decide +kernel, by decide +kernel⟩
theorem ch6 : chkSs b6 (ixs io6) ⟨n6, defScope (top 18), true, defScope (top 18), f6, gl, free, [], kp6, [], true, cl, rs⟩ (defBody (top 18)) = true := by kernel_rfl
def kp7 : List (PySem.Str × List PySem.Str × List Nat) := []
theorem sc7 : FnScope n7 ["script"] (defScope (top 19)) := ⟨rfl, rfl, rfl, by decide +kernel, rfl, by decide +kernel, by decide +kernel⟩
theorem ch7 : chkSs b7 (ixs io7) ⟨n7, defScope (top 19), true, defScope (top 19), f7, gl, free, [], kp7, [], true, cl, rs⟩ (defBody (top 19)) = true := by kernel_rfl
abbrev d0 : He.DefD := ⟨("name_fault", none), "name_fault", "name_fault", defArgs (top 11), defBody (top 11), defScope (top 11), [], []⟩
abbrev d1 : He.DefD := ⟨("check_name", none), "check_name", "check_name", defArgs (top 12), defBody (top 12), defScope (top 12), [], []⟩
abbrev d2 : He.DefD := ⟨("is_name", none), "is_name", "is_name", defArgs (top 13), defBody (top 13), defScope (top 13), [], []⟩
abbrev d3 : He.DefD := ⟨("_law_turn", none), "_law_turn", "_law_turn", defArgs (top 15), defBody (top 15), defScope (top 15), [], []⟩
abbrev d4 : He.DefD := ⟨("_law_due", none), "_law_due", "_law_due", defArgs (top 16), defBody (top 16), defScope (top 16), [], []⟩
abbrev d5 : He.DefD := ⟨("_law_holds", none), "_law_holds", "_law_holds", defArgs (top 17), defBody (top 17), defScope (top 17), [], []⟩
abbrev d6 : He.DefD := ⟨("_law_drawn", none), "_law_drawn", "_law_drawn", defArgs (top 18), defBody (top 18), defScope (top 18), [], []⟩
abbrev d7 : He.DefD := ⟨("law", none), "law", "law", defArgs (top 19), defBody (top 19), defScope (top 19), [], []⟩
def fn : List He.DefD := [d0, d1, d2, d3, d4, d5, d6, d7]
def fa0 : List He.Fa := [.glo "name_fault", .glo "check_name", .glo "is_name", .glo "_law_turn", .glo "_law_due", .glo "_law_holds", .glo "_law_drawn", .glo "law", .free "ValueError", .free "bool", .free "enumerate", .free "int", .free "isinstance", .free "len", .free "range", .free "str", .int "NAME_MOST" 8, .str "LETTERS" "abcdefghijklmnopqrstuvwxyz", .str "FIGURES" "0123456789", .free "super"]
def fa : List He.Fa := fa0
abbrev R : PySem.W.OpenRow := PySem.W.OpenLaw.row PySem.Challenge.rw_fringes_k01_check_name
abbrev PP : Program := (PySem.Challenge.rw_fringes_k01_check_name).prog
abbrev hk : PySem.W.Hook := hookX PP 5 fa fn xt inds
def ob (s : PySem.W.SharedT) : AlX := obsXG PP 5 fa fn xt inds (HandSHeadRun.getT s)
theorem ob_eq (s : PySem.W.SharedT) : ob s = hk.obs s.abs := obsXG_eq (HandSHeadRun.getT_eq s)
def names0 : List PySem.Str := ["NAME_MOST", "LETTERS", "FIGURES", "FringeError", "DataError", "CallError", "TextError", "DeskError", "BadName", "name_fault", "check_name", "is_name", "_law_turn", "_law_due", "_law_holds", "_law_drawn"]
def names : List PySem.Str := names0
theorem run (w : World) : HandSHeadRun.RunEq R (PySem.W.view R.prog [19]) hk ob 4000 names w := by
  intro os
  kernel_rfl
section
variable {P : Program} {w : World} {K : PySem.W.Frag} {mg : PySem.Str → Option Value} {base : Heap}

theorem ok0 {f : Addr} {fd : FuncData} (F : FunD K "name_fault" "name_fault" (defArgs (top 11)) (defBody (top 11)) (defScope (top 11)) [] [] f fd) (xo : XOk K P w mg base xt cl rs) (hgl : GOk K mg gl gv) (a : AllF ⟨K, erX K⟩ P w mg base f0 t0 2) (hr : ∀ y, free.contains y = true → mg y = none) :
    FnOk P w K mg base (L2.CX P w) 3 f fd ["thing"] (spD ⟨K, erX K⟩ io0 s0) :=
  @def_ok ⟨K, erX K⟩ P w mg base "name_fault" "name_fault" _ _ _ [] f fd xt cl rs (inst t0) n0 ["thing"] io0 2 s0 b0 f0 gl free [] kp0 [] rfl rfl xo rfl (by decide) F sc0 rfl (fun _ _ => rfl) a.2 hgl.get hr (fun j y ioj psj h h' => by cases h') (fun j y ioj ks perm h h' => nomatch h') (fun j y h h' => by cases h') ch0
theorem ok1 {f : Addr} {fd : FuncData} (F : FunD K "check_name" "check_name" (defArgs (top 12)) (defBody (top 12)) (defScope (top 12)) [] [] f fd) (xo : XOk K P w mg base xt cl rs) (hgl : GOk K mg gl gv) (a : AllF ⟨K, erX K⟩ P w mg base f1 t1 3) (hr : ∀ y, free.contains y = true → mg y = none) :
    FnOk P w K mg base (L2.CX P w) 4 f fd ["thing"] (spD ⟨K, erX K⟩ io1 s1) :=
  @def_ok ⟨K, erX K⟩ P w mg base "check_name" "check_name" _ _ _ [] f fd xt cl rs (inst t1) n1 ["thing"] io1 3 s1 b1 f1 gl free [] kp1 [] rfl rfl xo rfl (by decide) F sc1 rfl (fun _ _ => rfl) a.2 hgl.get hr (fun j y ioj psj h h' => by cases h') (fun j y ioj ks perm h h' => nomatch h') (fun j y h h' => by cases h') ch1
theorem ok2 {f : Addr} {fd : FuncData} (F : FunD K "is_name" "is_name" (defArgs (top 13)) (defBody (top 13)) (defScope (top 13)) [] [] f fd) (xo : XOk K P w mg base xt cl rs) (hgl : GOk K mg gl gv) (a : AllF ⟨K, erX K⟩ P w mg base f2 t2 4) (hr : ∀ y, free.contains y = true → mg y = none) :
    FnOk P w K mg base (L2.CX P w) 5 f fd ["thing"] (spD ⟨K, erX K⟩ io2 s2) :=
  @def_ok ⟨K, erX K⟩ P w mg base "is_name" "is_name" _ _ _ [] f fd xt cl rs (inst t2) n2 ["thing"] io2 4 s2 b2 f2 gl free [] kp2 [] rfl rfl xo rfl (by decide) F sc2 rfl (fun _ _ => rfl) a.2 hgl.get hr (fun j y ioj psj h h' => by cases h') (fun j y ioj ks perm h h' => nomatch h') (fun j y h h' => by cases h') ch2
theorem ok3 {f : Addr} {fd : FuncData} (F : FunD K "_law_turn" "_law_turn" (defArgs (top 15)) (defBody (top 15)) (defScope (top 15)) [] [] f fd) (xo : XOk K P w mg base xt cl rs) (hgl : GOk K mg gl gv) (a : AllF ⟨K, erX K⟩ P w mg base f3 t3 5) (hr : ∀ y, free.contains y = true → mg y = none) :
    FnOk P w K mg base (L2.CX P w) 6 f fd ["tank", "many"] (spD ⟨K, erX K⟩ io3 s3) :=
  @def_ok ⟨K, erX K⟩ P w mg base "_law_turn" "_law_turn" _ _ _ [] f fd xt cl rs (inst t3) n3 ["tank", "many"] io3 5 s3 b3 f3 gl free [] kp3 [] rfl rfl xo rfl (by decide) F sc3 rfl (fun _ _ => rfl) a.2 hgl.get hr (fun j y ioj psj h h' => by cases h') (fun j y ioj ks perm h h' => nomatch h') (fun j y h h' => by cases h') ch3
theorem ok4 {f : Addr} {fd : FuncData} (F : FunD K "_law_due" "_law_due" (defArgs (top 16)) (defBody (top 16)) (defScope (top 16)) [] [] f fd) (xo : XOk K P w mg base xt cl rs) (hgl : GOk K mg gl gv) (a : AllF ⟨K, erX K⟩ P w mg base f4 t4 6) (hr : ∀ y, free.contains y = true → mg y = none) :
    FnOk P w K mg base (L2.CX P w) 7 f fd ["thing"] (spD ⟨K, erX K⟩ io4 s4) :=
  @def_ok ⟨K, erX K⟩ P w mg base "_law_due" "_law_due" _ _ _ [] f fd xt cl rs (inst t4) n4 ["thing"] io4 6 s4 b4 f4 gl free [] kp4 [] rfl rfl xo rfl (by decide) F sc4 rfl (fun _ _ => rfl) a.2 hgl.get hr (fun j y ioj psj h h' => by cases h') (fun j y ioj ks perm h h' => nomatch h') (fun j y h h' => by cases h') ch4
theorem ok5 {f : Addr} {fd : FuncData} (F : FunD K "_law_holds" "_law_holds" (defArgs (top 17)) (defBody (top 17)) (defScope (top 17)) [] [] f fd) (xo : XOk K P w mg base xt cl rs) (hgl : GOk K mg gl gv) (a : AllF ⟨K, erX K⟩ P w mg base f5 t5 7) (hr : ∀ y, free.contains y = true → mg y = none) :
    FnOk P w K mg base (L2.CX P w) 8 f fd ["thing"] (spD ⟨K, erX K⟩ io5 s5) :=
  @def_ok ⟨K, erX K⟩ P w mg base "_law_holds" "_law_holds" _ _ _ [] f fd xt cl rs (inst t5) n5 ["thing"] io5 7 s5 b5 f5 gl free [] kp5 [] rfl rfl xo rfl (by decide) F sc5 rfl (fun _ _ => rfl) a.2 hgl.get hr (fun j y ioj psj h h' => by cases h') (fun j y ioj ks perm h h' => nomatch h') (fun j y h h' => by cases h') ch5
theorem ok6 {f : Addr} {fd : FuncData} (F : FunD K "_law_drawn" "_law_drawn" (defArgs (top 18)) (defBody (top 18)) (defScope (top 18)) [] [] f fd) (xo : XOk K P w mg base xt cl rs) (hgl : GOk K mg gl gv) (a : AllF ⟨K, erX K⟩ P w mg base f6 t6 8) (hr : ∀ y, free.contains y = true → mg y = none) :
    FnOk P w K mg base (L2.CX P w) 9 f fd ["tank"] (spD ⟨K, erX K⟩ io6 s6) :=
  @def_ok ⟨K, erX K⟩ P w mg base "_law_drawn" "_law_drawn" _ _ _ [] f fd xt cl rs (inst t6) n6 ["tank"] io6 8 s6 b6 f6 gl free [] kp6 [] rfl rfl xo rfl (by decide) F sc6 rfl (fun _ _ => rfl) a.2 hgl.get hr (fun j y ioj psj h h' => by cases h') (fun j y ioj ks perm h h' => nomatch h') (fun j y h h' => by cases h') ch6
theorem ok7 {f : Addr} {fd : FuncData} (F : FunD K "law" "law" (defArgs (top 19)) (defBody (top 19)) (defScope (top 19)) [] [] f fd) (xo : XOk K P w mg base xt cl rs) (hgl : GOk K mg gl gv) (a : AllF ⟨K, erX K⟩ P w mg base f7 t7 9) (hr : ∀ y, free.contains y = true → mg y = none) :
    FnOk P w K mg base (L2.CX P w) 10 f fd ["script"] (spD ⟨K, erX K⟩ io7 s7) :=
  @def_ok ⟨K, erX K⟩ P w mg base "law" "law" _ _ _ [] f fd xt cl rs (inst t7) n7 ["script"] io7 9 s7 b7 f7 gl free [] kp7 [] rfl rfl xo rfl (by decide) F sc7 rfl (fun _ _ => rfl) a.2 hgl.get hr (fun j y ioj psj h h' => by cases h') (fun j y ioj ks perm h h' => nomatch h') (fun j y h h' => by cases h') ch7
end
theorem facts {P : Program} {w : World} {K : PySem.W.Frag} {h : Heap} {mg : PySem.Str → Option Value} {f : Addr} (X : K.In h) (G : h.Ns mainGlobals mg) (hfa : mg ("law" : PySem.Str) = some (.ref f)) (hP : P = PP) (c : SaysX P fa fn xt inds K) :
    ∃ fd : FuncData, (∀ (s : Shared) (v : Value), BindsTo s fd ⟨[v], []⟩ [("script", v)]) ∧ ∀ base : Heap, K.In base → base.Ns mainGlobals mg → FnOk P w K mg base (L2.CX P w) 10 f fd ["script"] (spD ⟨K, erX K⟩ io7 s7) := by
  obtain ⟨fd0, F0⟩ := c.d.def_ 0 (d := d0) rfl
  have g0 := He.glo_ok X G (c.d.fact 0 (f := .glo "name_fault") rfl)
  obtain ⟨fd1, F1⟩ := c.d.def_ 1 (d := d1) rfl
  have g1 := He.glo_ok X G (c.d.fact 1 (f := .glo "check_name") rfl)
  obtain ⟨fd2, F2⟩ := c.d.def_ 2 (d := d2) rfl
  have g2 := He.glo_ok X G (c.d.fact 2 (f := .glo "is_name") rfl)
  obtain ⟨fd3, F3⟩ := c.d.def_ 3 (d := d3) rfl
  have g3 := He.glo_ok X G (c.d.fact 3 (f := .glo "_law_turn") rfl)
  obtain ⟨fd4, F4⟩ := c.d.def_ 4 (d := d4) rfl
  have g4 := He.glo_ok X G (c.d.fact 4 (f := .glo "_law_due") rfl)
  obtain ⟨fd5, F5⟩ := c.d.def_ 5 (d := d5) rfl
  have g5 := He.glo_ok X G (c.d.fact 5 (f := .glo "_law_holds") rfl)
  obtain ⟨fd6, F6⟩ := c.d.def_ 6 (d := d6) rfl
  have g6 := He.glo_ok X G (c.d.fact 6 (f := .glo "_law_drawn") rfl)
  obtain ⟨fd7, F7⟩ := c.d.def_ 7 (d := d7) rfl
  have g7 := He.glo_ok X G (c.d.fact 7 (f := .glo "law") rfl)
  have hr : ∀ y, free.contains y = true → mg y = none := by
    intro y hy
    have hy : y ∈ free := by simpa using hy
    exact (show ∀ y ∈ (["ValueError", "bool", "enumerate", "int", "isinstance", "len", "range", "str"] : List PySem.Str), mg y = none from List.forall_mem_cons.mpr ⟨He.free_ok X G (c.d.fact 8 (f := .free "ValueError") rfl), List.forall_mem_cons.mpr ⟨He.free_ok X G (c.d.fact 9 (f := .free "bool") rfl), List.forall_mem_cons.mpr ⟨He.free_ok X G (c.d.fact 10 (f := .free "enumerate") rfl), List.forall_mem_cons.mpr ⟨He.free_ok X G (c.d.fact 11 (f := .free "int") rfl), List.forall_mem_cons.mpr ⟨He.free_ok X G (c.d.fact 12 (f := .free "isinstance") rfl), List.forall_mem_cons.mpr ⟨He.free_ok X G (c.d.fact 13 (f := .free "len") rfl), List.forall_mem_cons.mpr ⟨He.free_ok X G (c.d.fact 14 (f := .free "range") rfl), List.forall_mem_cons.mpr ⟨He.free_ok X G (c.d.fact 15 (f := .free "str") rfl), fun _ z => absurd z List.not_mem_nil⟩⟩⟩⟩⟩⟩⟩⟩) y hy
  cases hfa.symm.trans g7
  have bl := FunD.bindsA (ps := ["script"]) F7 fun _ _ _ _ _ _ us hl => match us, hl with | [_], _ => rfl
  have hsup : mg ("super" : PySem.Str) = none := He.free_ok X G (c.d.fact 19 (f := .free "super") rfl)
  have htop : (P.main.scope.names.lookup ("super" : Str)).isSome = false := by rw [hP]; kernel_rfl
  have hgl : GOk K mg gl gv := ⟨gint (He.int_ok X G (c.d.fact 16 (f := .int "NAME_MOST" 8) rfl)), ⟨gstr (He.str_ok X G (c.d.fact 17 (f := .str "LETTERS" "abcdefghijklmnopqrstuvwxyz") rfl)), ⟨gstr (He.str_ok X G (c.d.fact 18 (f := .str "FIGURES" "0123456789") rfl)), True.intro⟩⟩⟩
  refine ⟨fd7, fun s v => bl s [v] rfl, fun base _ _ => ?_⟩
  have xo : XOk K P w mg base xt cl rs := xok_of X G c.x.1 c.x.2 (List.forall_mem_cons.mpr ⟨inok0, fun _ z => nomatch z⟩) htop hsup
  have a0 : AllF ⟨K, erX K⟩ P w mg base f0 t0 2 := AllF.nil.mono (by decide)
  have o0 := ok0 F0 xo hgl a0 hr  
  have a1 : AllF ⟨K, erX K⟩ P w mg base f1 t1 3 := a0.snoc (FnM.mk g0 F0 o0 (F0.bindsN fun _ _ _ _ _ _ us hl => match us, hl with | [_], _ => rfl))
  have o1 := ok1 F1 xo hgl a1 hr  
  have a2 : AllF ⟨K, erX K⟩ P w mg base f2 t2 4 := a1.snoc (FnM.mk g1 F1 o1 (F1.bindsN fun _ _ _ _ _ _ us hl => match us, hl with | [_], _ => rfl))
  have o2 := ok2 F2 xo hgl a2 hr  
  have a3 : AllF ⟨K, erX K⟩ P w mg base f3 t3 5 := a2.snoc (FnM.mk g2 F2 o2 (F2.bindsN fun _ _ _ _ _ _ us hl => match us, hl with | [_], _ => rfl))
  have o3 := ok3 F3 xo hgl a3 hr  
  have a4 : AllF ⟨K, erX K⟩ P w mg base f4 t4 6 := a3.snoc (FnM.mk g3 F3 o3 (F3.bindsN fun _ _ _ _ _ _ us hl => match us, hl with | [_, _], _ => rfl))
  have o4 := ok4 F4 xo hgl a4 hr  
  have a5 : AllF ⟨K, erX K⟩ P w mg base f5 t5 7 := a4.snoc (FnM.mk g4 F4 o4 (F4.bindsN fun _ _ _ _ _ _ us hl => match us, hl with | [_], _ => rfl))
  have o5 := ok5 F5 xo hgl a5 hr  
  have a6 : AllF ⟨K, erX K⟩ P w mg base f6 t6 8 := a5.snoc (FnM.mk g5 F5 o5 (F5.bindsN fun _ _ _ _ _ _ us hl => match us, hl with | [_], _ => rfl))
  have o6 := ok6 F6 xo hgl a6 hr  
  have a7 : AllF ⟨K, erX K⟩ P w mg base f7 t7 9 := a6.snoc (FnM.mk g6 F6 o6 (F6.bindsN fun _ _ _ _ _ _ us hl => match us, hl with | [_], _ => rfl))
  exact ok7 F7 xo hgl a7 hr 

abbrev tk (ns : List Int) (a : Nat) (b : Int) : D := .lst true [.scr ns, .int a, .int b]
def cellOf (ns : List Int) (a : Nat) : Int := if a < ns.length then ns.getD a 0 % 10007 else 0
def nxt (ns : List Int) (a : Nat) (b : Int) : Int := (b * 5857 + cellOf ns a * 641 + ((a : Int) + 1) * 37 + 911) % 999959
theorem mul_r {i j : Int} (h1 : -18446744073709551616 < j) (h2 : j < 18446744073709551616) : O2.mul.sem (.int i) (.int j) = some (.int (i * j)) := if_pos (.inl (.inr ⟨h1, h2⟩))
theorem mul_l {i j : Int} (h1 : -18446744073709551616 < i) (h2 : i < 18446744073709551616) : O2.mul.sem (.int i) (.int j) = some (.int (i * j)) := if_pos (.inl (.inl ⟨h1, h2⟩))
theorem mod_k {i j : Int} (h : 0 < j) : O2.mod.sem (.int i) (.int j) = some (.int (i % j)) := if_pos h
theorem fdiv_k {i j : Int} (h : 0 < j) (h2 : j < 18446744073709551616) : O2.fdiv.sem (.int i) (.int j) = some (.int (i / j)) := if_pos ⟨h, h2⟩
theorem turn (ns : List Int) (a : Nat) (b m : Int) (hm : 0 < m) : s3 [tk ns a b, .int m] = .ret (.int (nxt ns a b / 7 % m)) [tk ns (a + 1) (nxt ns a b)] := by
  refine @wpF_eq (inst t3) n3.length io3 b3 _ _ _ ?_
  have key : ∀ c : Int, c = cellOf ns a → @wpSs (inst t3) (.cons (.setI 0 (.cst (.int 1)) (.o2 .add (.o2 .idx (.var 0) (.cst (.int 1))) (.cst (.int 1)))) (.cons (.setI 0 (.cst (.int 2)) (.o2 .mod (.o2 .add (.o2 .add (.o2 .add (.o2 .mul (.o2 .idx (.var 0) (.cst (.int 2))) (.cst (.int 5857))) (.o2 .mul (.var 2) (.cst (.int 641)))) (.o2 .mul (.o2 .idx (.var 0) (.cst (.int 1))) (.cst (.int 37)))) (.cst (.int 911))) (.cst (.int 999959)))) (.cons (.ret (.o2 .mod (.o2 .fdiv (.o2 .idx (.var 0) (.cst (.int 2))) (.cst (.int 7))) (.var 1))) .nil))) [some (tk ns a b), some (.int m), some (.int c)] (fun f ρ => match f with
    | .nx => ∃ l, outsOf (ixs io3) ρ = some l ∧ D.non = .int (nxt ns a b / 7 % m) ∧ l = [tk ns (a + 1) (nxt ns a b)]
    | .rt d => ∃ l, outsOf (ixs io3) ρ = some l ∧ d = .int (nxt ns a b / 7 % m) ∧ l = [tk ns (a + 1) (nxt ns a b)]
    | _ => False) := by
    intro c hc
    refine ⟨_, rfl, _, rfl, _, rfl, _, rfl, .inl ⟨_, _, _, rfl, rfl, rfl, ?_⟩⟩
    refine ⟨_, rfl, _, rfl, _, mul_r (by omega) (by omega), _, rfl, _, mul_r (by omega) (by omega), _, rfl, _, rfl, _, rfl, _, mul_r (by omega) (by omega), _, rfl, _, rfl, _, mod_k (by omega), _, rfl, .inl ⟨_, _, _, rfl, rfl, rfl, ?_⟩⟩
    refine ⟨_, rfl, _, rfl, _, fdiv_k (by omega) (by omega), _, rfl, _, mod_k hm, _, rfl, ?_, ?_⟩
    · subst hc; rfl
    · subst hc; rfl
  by_cases h : a < ns.length
  · have h' : (a : Int) < (ns.length : Int) := by omega
    have hat : atI ns (a : Int) = some (ns.getD a 0) := by
      simp [atI, ixN, h]
    refine ⟨_, rfl, _, rfl, _, rfl, _, rfl, _, rfl, _, rfl, _, rfl, fun _ => ?_, fun z => absurd h' (of_decide_eq_false z)⟩
    refine ⟨_, rfl, _, rfl, _, rfl, _, rfl, .int (ns.getD a 0), ?_, _, rfl, _, mod_k (by omega), key _ ?_⟩
    · show (match atI ns (a : Int) with | some n => some (D.int n) | none => none) = _
      rw [hat]
    · unfold cellOf; rw [if_pos h]
  · have h' : ¬ (a : Int) < (ns.length : Int) := by omega
    refine ⟨_, rfl, _, rfl, _, rfl, _, rfl, _, rfl, _, rfl, _, rfl, fun z => absurd (of_decide_eq_true z) h', fun _ => key _ ?_⟩
    unfold cellOf; rw [if_neg h]
theorem turn_ex (ns : List Int) (a : Nat) (b m : Int) (hm : 0 < m) : ∃ r b', 0 ≤ r ∧ r < m ∧ s3 [tk ns a b, .int m] = .ret (.int r) [tk ns (a + 1) b'] :=
  ⟨_, _, Int.emod_nonneg _ (by omega), Int.emod_lt_of_pos _ hm, turn ns a b m hm⟩
/-! ### names -/
def ones (c : Nat) : PySem.Str := ⟨#[c]⟩
def inT (y : PySem.Str) (c : Nat) : Bool := !(Builtin.Str.occurrences y (ones c) 0 y.length 1).isEmpty
abbrev LET : PySem.Str := "abcdefghijklmnopqrstuvwxyz"
abbrev FIG : PySem.Str := "0123456789"
def bad (i c : Nat) : Bool := decide (8 ≤ i) || (!(inT LET c) && (decide (i = 0) || !(inT FIG c)))
def fstB : List Nat → Nat → Option Nat
  | [], _ => none
  | c :: cs, i => if bad i c = true then some i else fstB cs (i + 1)
def oD : Option Int → D
  | none => .non
  | some i => .int i
def due (x : PySem.Str) : Option Int := match fstB x.cps.toList 0 with
  | some i => some i
  | none => if x = "" then some 0 else none
theorem enum_get : ∀ {l : List D} {n i : Nat} {d : D}, (enumD n l)[i]? = some d → ∃ e, l[i]? = some e ∧ d = .tup [.int (n + i : Nat), e]
  | [], _, _, _, h => by simp [enumD] at h
  | x :: l, n, 0, d, h => by
    have h : some (D.tup [.int n, x]) = some d := h
    cases h
    exact ⟨x, rfl, rfl⟩
  | x :: l, n, i + 1, d, h => by
    obtain ⟨e, h1, h2⟩ := enum_get (l := l) (n := n + 1) (i := i) (by simpa [enumD] using h)
    exact ⟨e, by simpa using h1, by rw [h2, show n + 1 + i = n + (i + 1) by omega]⟩
theorem enum_len : ∀ (l : List D) (n : Nat), (enumD n l).length = l.length
  | [], _ => rfl
  | _ :: l, n => congrArg (· + 1) (enum_len l (n + 1))
theorem drop_at {α : Type} {l : List α} {i : Nat} {c : α} (h : l[i]? = some c) : l.drop i = c :: l.drop (i + 1) := by
  obtain ⟨hk, rfl⟩ := List.getElem?_eq_some_iff.mp h
  exact List.drop_eq_getElem_cons hk
theorem fault_ok (x : PySem.Str) : s0 [.str x] = .ret (oD (due x)) [] := by
  refine @wpF_eq (inst t0) n0.length io0 b0 _ _ _ ?_
  refine ⟨_, rfl, _, rfl, _, rfl, _, rfl, (fun z => nomatch z), fun _ => ?_⟩
  refine ⟨_, rfl, rfl, _, rfl, fun i ρ => ∃ e1 e2, ρ = [some (.str x), e1, e2] ∧ fstB (x.cps.toList.drop i) i = fstB x.cps.toList 0, ⟨_, _, rfl, rfl⟩, ?_, ?_⟩
  · rintro i d ρ hd ⟨e1, e2, rfl, hi⟩
    obtain ⟨e, he, rfl⟩ := enum_get hd
    rw [List.getElem?_map] at he
    cases hc : x.cps.toList[i]? with
    | none => rw [hc] at he; cases he
    | some c =>
      rw [hc] at he
      cases he
      rw [drop_at hc] at hi
      have hi : (if bad i c = true then some i else fstB (x.cps.toList.drop (i + 1)) (i + 1)) = fstB x.cps.toList 0 := hi
      refine ⟨_, rfl, ?_⟩
      rw [Nat.zero_add]
      have ret : bad i c = true → D.int (i : Nat) = oD (due x) := fun z => by
        rw [if_pos z] at hi
        unfold due
        rw [← hi]
        rfl
      have cont : bad i c = false → fstB (x.cps.toList.drop (i + 1)) (i + 1) = fstB x.cps.toList 0 := fun z => by
        rw [if_neg (by rw [z]; exact Bool.false_ne_true)] at hi
        exact hi
      have eb : bad i c = (decide ((8 : Int) ≤ (i : Int)) || (!(inT LET c) && (decide ((i : Int) = 0) || !(inT FIG c)))) := by
        unfold bad
        rw [show decide ((8 : Int) ≤ (i : Int)) = decide (8 ≤ i) from decide_eq_decide.mpr (by omega), show decide ((i : Int) = 0) = decide (i = 0) from decide_eq_decide.mpr (by omega)]
      refine ⟨_, rfl, _, rfl, _, rfl, (fun z => ⟨_, rfl, (fun _ => ⟨_, rfl, rfl, _, rfl, ret (by rw [eb, z]; rfl), rfl⟩), fun z2 => absurd (z.symm.trans z2) (fun q => nomatch q)⟩), fun z => ?_⟩
      refine ⟨_, rfl, _, rfl, _, rfl, (fun z1 => ?_), fun z1 => ⟨_, rfl, (fun z2 => absurd (z1.symm.trans z2) (fun q => nomatch q)), fun _ => ⟨_, _, rfl, cont (by rw [eb, z]; show (false || (!(inT LET c) && _)) = false; rw [show (!(inT LET c)) = false from z1]; rfl)⟩⟩⟩
      refine ⟨_, rfl, _, rfl, _, rfl, (fun z2 => ⟨_, rfl, (fun _ => ⟨_, rfl, rfl, _, rfl, ret (by rw [eb, z, show (!(inT LET c)) = true from z1, z2]; rfl), rfl⟩), fun z3 => absurd (z2.symm.trans z3) (fun q => nomatch q)⟩), fun z2 => ?_⟩
      refine ⟨_, rfl, _, rfl, _, rfl, (fun z3 => ⟨_, rfl, rfl, _, rfl, ret (by rw [eb, z, show (!(inT LET c)) = true from z1, z2, show (!(inT FIG c)) = true from z3]; rfl), rfl⟩), fun z3 => ⟨_, _, rfl, cont (by rw [eb, z, show (!(inT LET c)) = true from z1, z2, show (!(inT FIG c)) = false from z3]; rfl)⟩⟩
  · rintro ρ ⟨e1, e2, rfl, hi⟩
    rw [enum_len, List.length_map, List.drop_length] at hi
    have hn : fstB x.cps.toList 0 = none := hi.symm
    refine ⟨_, rfl, _, rfl, _, rfl, (fun z => ?_), fun z => ?_⟩
    · refine ⟨_, rfl, ?_, rfl⟩
      unfold due
      rw [hn]
      dsimp only
      rw [if_pos (of_decide_eq_true z)]
      rfl
    · refine ⟨_, rfl, ?_, rfl⟩
      unfold due
      rw [hn]
      dsimp only
      rw [if_neg (of_decide_eq_false z)]
      rfl


theorem rng_len : ∀ (n : Nat) (lo : Int), (rngD lo n).length = n
  | 0, _ => rfl
  | n + 1, lo => congrArg (· + 1) (rng_len n (lo + 1))
theorem rng_get : ∀ (n : Nat) (lo : Int) (i : Nat) (d : D), (rngD lo n)[i]? = some d → d = .int (lo + i) ∧ i < n
  | 0, _, _, _, h => by cases h
  | n + 1, lo, 0, d, h => by cases h; exact ⟨by simp, by omega⟩
  | n + 1, lo, i + 1, d, h => by
    obtain ⟨h1, h2⟩ := rng_get n (lo + 1) i d (by simpa [rngD] using h)
    refine ⟨?_, by omega⟩
    rw [h1]
    congr 1
    omega
theorem atI_nat {α : Type} {l : List α} {i : Nat} {d : α} (h : l[i]? = some d) : atI l (i : Int) = some d := by
  obtain ⟨hi, e⟩ := List.getElem?_eq_some_iff.mp h
  unfold atI ixN
  rw [if_pos (by omega)]
  simp [hi, e]
theorem sign_at {x : PySem.Str} {i c : Nat} (hl : x.length ≤ lim) (h : x.cps.toList[i]? = some c) : O2.idx.sem (.str x) (.int (i : Int)) = some (.str (ones c)) := by
  show (if x.length ≤ lim then (match atI x.cps.toList (i : Int) with | some c => some (D.str ⟨#[c]⟩) | none => none) else none) = _
  rw [if_pos hl, atI_nat h]
  rfl
theorem rng_ok {n : Nat} (h : n ≤ lim) : rngOf [.int (n : Int)] = some (rngD 0 n) := by
  have : (lim : Nat) = 16777216 := rfl
  show (if -4611686018427387904 ≤ (n : Int) ∧ (n : Int) < 4611686018427387904 then some (rngD 0 (n : Int).toNat) else none) = _
  rw [if_pos (by omega)]
  simp
theorem due_ok (x : PySem.Str) (hl : x.length ≤ lim) : s4 [.str x] = .ret (oD (due x)) [] := by
  refine @wpF_eq (inst t4) n4.length io4 b4 _ _ _ ?_
  refine ⟨_, rfl, _, rfl, _, rfl, _, rfl, (fun z => nomatch z), fun _ => ?_⟩
  refine ⟨_, rfl, _, (show O1.len.sem (.str x) = some (.int (x.length : Int)) from if_pos hl), _, rng_ok hl, fun i ρ => ∃ e1, ρ = [some (.str x), e1] ∧ fstB (x.cps.toList.drop i) i = fstB x.cps.toList 0 ∧ i ≤ 8, ⟨_, rfl, rfl, by omega⟩, ?_, ?_⟩
  · rintro i d ρ hd ⟨e1, rfl, hi, i8⟩
    obtain ⟨rfl, hn⟩ := rng_get _ _ _ _ hd
    rw [Int.zero_add]
    have hn' : i < x.cps.toList.length := by
      have : x.length = x.cps.toList.length := by rw [Array.length_toList]; rfl
      omega
    have hc : x.cps.toList[i]? = some x.cps.toList[i] := List.getElem?_eq_getElem hn'
    generalize x.cps.toList[i] = c at hc
    rw [drop_at hc] at hi
    have hi : (if bad i c = true then some i else fstB (x.cps.toList.drop (i + 1)) (i + 1)) = fstB x.cps.toList 0 := hi
    have ret : bad i c = true → D.int (i : Nat) = oD (due x) := fun z => by
      rw [if_pos z] at hi
      unfold due
      rw [← hi]
      rfl
    have cont : bad i c = false → fstB (x.cps.toList.drop (i + 1)) (i + 1) = fstB x.cps.toList 0 := fun z => by
      rw [if_neg (by rw [z]; exact Bool.false_ne_true)] at hi
      exact hi
    have eb : bad i c = (decide ((8 : Int) ≤ (i : Int)) || (!(inT LET c) && (decide ((i : Int) = 0) || !(inT FIG c)))) := by
      unfold bad
      rw [show decide ((8 : Int) ≤ (i : Int)) = decide (8 ≤ i) from decide_eq_decide.mpr (by omega), show decide ((i : Int) = 0) = decide (i = 0) from decide_eq_decide.mpr (by omega)]
    have ix := sign_at hl hc
    refine ⟨_, rfl, _, rfl, _, rfl, _, rfl, (fun z => ?_), fun z => ?_⟩
    · have e8 : (i : Int) = 8 := of_decide_eq_true z
      have := ret (by rw [eb, show decide ((8 : Int) ≤ (i : Int)) = true from decide_eq_true (by omega)]; rfl)
      rw [e8] at this
      exact ⟨_, rfl, this, rfl⟩
    · have n8 : ¬ (i : Int) = 8 := of_decide_eq_false z
      have z0 : decide ((8 : Int) ≤ (i : Int)) = false := decide_eq_false (by omega)
      refine ⟨_, rfl, _, rfl, _, ix, _, rfl, _, rfl, (fun z1 => ?_), fun z1 => ⟨_, rfl, (fun z2 => absurd (z1.symm.trans z2) (fun q => nomatch q)), fun _ => ⟨_, rfl, cont (by rw [eb, z0]; show (false || (!(inT LET c) && _)) = false; rw [show (!(inT LET c)) = false from z1]; rfl), by omega⟩⟩⟩
      refine ⟨_, rfl, _, rfl, _, rfl, (fun z2 => ⟨_, rfl, (fun _ => ⟨_, rfl, rfl, _, rfl, ret (by rw [eb, z0, show (!(inT LET c)) = true from z1, z2]; rfl), rfl⟩), fun z3 => absurd (z2.symm.trans z3) (fun q => nomatch q)⟩), fun z2 => ?_⟩
      refine ⟨_, rfl, _, rfl, _, ix, _, rfl, _, rfl, (fun z3 => ⟨_, rfl, rfl, _, rfl, ret (by rw [eb, z0, show (!(inT LET c)) = true from z1, z2, show (!(inT FIG c)) = true from z3]; rfl), rfl⟩), fun z3 => ⟨_, rfl, cont (by rw [eb, z0, show (!(inT LET c)) = true from z1, z2, show (!(inT FIG c)) = false from z3]; rfl), by omega⟩⟩
  · rintro ρ ⟨e1, rfl, hi, _⟩
    rw [rng_len, show x.length = x.cps.toList.length by rw [Array.length_toList]; rfl, List.drop_length] at hi
    have hn : fstB x.cps.toList 0 = none := hi.symm
    refine ⟨_, rfl, _, rfl, _, rfl, (fun z => ?_), fun z => ?_⟩
    · refine ⟨_, rfl, ?_, rfl⟩
      unfold due
      rw [hn]
      dsimp only
      rw [if_pos (of_decide_eq_true z)]
      rfl
    · refine ⟨_, rfl, ?_, rfl⟩
      unfold due
      rw [hn]
      dsimp only
      rw [if_neg (of_decide_eq_false z)]
      rfl
/-- what may be looked at here: a text, or what is none -/
inductive Th where
  | t (x : PySem.Str)
  | o (d : D) (h : O1.sem (.isT .str) d = some (.bl false)) (f : frzD d = true)
def Th.d : Th → D
  | .t x => .str x
  | .o d _ _ => d
def Th.due : Th → Option Int
  | .t x => Hd.due x
  | .o _ _ _ => some (-1)
def Th.ok : Th → Prop
  | .t x => x.length ≤ lim
  | .o _ _ _ => True
theorem Th.frz : ∀ a : Th, frzD a.d = true
  | .t x => rfl
  | .o _ _ f => f
theorem fault_th : ∀ a : Th, s0 [a.d] = .ret (oD a.due) []
  | .t x => fault_ok x
  | .o d h f => by
    refine @wpF_eq (inst t0) n0.length io0 b0 _ _ _ ?_
    exact ⟨_, rfl, _, h, _, rfl, _, rfl, (fun z => ⟨_, rfl, _, rfl, rfl, rfl⟩), fun z => nomatch z⟩
theorem due_th : ∀ a : Th, a.ok → s4 [a.d] = .ret (oD a.due) []
  | .t x, h => due_ok x h
  | .o d h f, _ => by
    refine @wpF_eq (inst t4) n4.length io4 b4 _ _ _ ?_
    exact ⟨_, rfl, _, h, _, rfl, _, rfl, (fun z => ⟨_, rfl, _, rfl, rfl, rfl⟩), fun z => nomatch z⟩
theorem oD_frz (o : Option Int) : frzD (oD o) = true := by cases o <;> rfl
theorem fill_1 {d : D} {ρ : Ev} (h : frzD d = true) : fill [none] [d] ρ = some [d] := by
  unfold Ly.fill
  rw [if_pos h]
  rfl
theorem isname_ok (a : Th) : s2 [a.d] = .ret (.bl (isNon (oD a.due))) [] := by
  refine @wpF_eq (inst t2) n2.length io2 b2 _ _ _ ?_
  exact ⟨_, rfl, a.frz, _, fill_1 a.frz, _, _, fault_th a, _, rfl, _, rfl, _, rfl, rfl, rfl⟩
/-- what check_name does -/
def chk (o : Option Int) : FOut := match o with
  | none => .ret .non []
  | some i => .exc (.exc "BadName" ["at"] [.int i]) []
theorem check_ok (a : Th) : s1 [a.d] = chk a.due := by
  refine @xpF_eq (inst t1) n1.length io1 b1 _ _ ?_
  refine ⟨_, rfl, a.frz, _, fill_1 a.frz, .inl ⟨_, _, fault_th a, _, rfl, ?_⟩⟩
  cases h : a.due with
  | none => exact ⟨_, rfl, _, rfl, _, rfl, (fun z => nomatch z), fun _ => ⟨_, rfl, rfl⟩⟩
  | some i => exact ⟨_, rfl, _, rfl, _, rfl, (fun _ => ⟨_, rfl, rfl, _, rfl, ⟨rfl, rfl⟩, _, rfl, rfl⟩), fun z => nomatch z⟩


theorem holds_ok (a : Th) (h : a.ok) : s5 [a.d] = .ret (.bl true) [] := by
  have fz := a.frz
  have hd := due_th a h
  have hn := isname_ok a
  have hc := check_ok a
  cases hq : a.due with
  | none =>
    rw [hq] at hd hn hc
    refine @xpF_eq (inst t5) n5.length io5 b5 _ _ ?_
    refine ⟨_, rfl, fz, _, fill_1 fz, .inl ⟨_, _, hd, _, rfl, ?_⟩⟩
    refine ⟨_, rfl, fz, _, fill_1 fz, .inl ⟨_, _, hn, _, rfl, ?_⟩⟩
    refine ⟨_, rfl, _, rfl, _, rfl, _, rfl, (fun z => nomatch z), fun _ => ⟨_, rfl, _, rfl, _, rfl, _, rfl, _, rfl, (fun z => nomatch z), fun _ => ?_⟩⟩
    refine ⟨_, rfl, fz, _, fill_1 fz, .inl ⟨_, _, hc, _, rfl, ?_⟩⟩
    exact ⟨_, rfl, _, rfl, _, rfl, (fun _ => ⟨_, rfl, _, rfl, _, rfl, rfl⟩), fun z => nomatch z⟩
  | some i =>
    rw [hq] at hd hn hc
    refine @xpF_eq (inst t5) n5.length io5 b5 _ _ ?_
    refine ⟨_, rfl, fz, _, fill_1 fz, .inl ⟨_, _, hd, _, rfl, ?_⟩⟩
    refine ⟨_, rfl, fz, _, fill_1 fz, .inl ⟨_, _, hn, _, rfl, ?_⟩⟩
    refine ⟨_, rfl, _, rfl, _, rfl, _, rfl, (fun z => nomatch z), fun _ => ⟨_, rfl, _, rfl, _, rfl, _, rfl, _, rfl, (fun z => nomatch z), fun _ => ?_⟩⟩
    refine ⟨_, rfl, fz, _, fill_1 fz, .inr ⟨_, _, hc, _, rfl, ?_⟩⟩
    refine ⟨_, rfl, (fun _ => ?_), fun z => nomatch z⟩
    refine ⟨_, rfl, _, rfl, _, rfl, (fun z => nomatch z), fun _ => ⟨_, rfl, _, rfl, _, rfl, (fun z => nomatch z), fun _ => ⟨_, rfl, _, rfl, _, rfl, (fun z => nomatch z), fun _ => ?_⟩⟩⟩
    refine ⟨_, rfl, _, rfl, _, rfl, (fun z => nomatch z), fun _ => ⟨_, rfl, _, rfl, _, rfl, _, rfl, (fun z => nomatch z), fun _ => ⟨_, rfl, _, rfl, _, rfl, _, rfl, (fun z => nomatch z), fun _ => ?_⟩⟩⟩
    refine ⟨_, rfl, _, rfl, _, rfl, _, rfl, (fun _ => ⟨_, rfl, _, rfl, _, rfl, _, rfl, _, rfl, (fun _ => ⟨_, rfl, _, rfl, _, rfl, _, (show O2.eq.sem (.int i) (.int i) = some (.bl true) from by show some (D.bl (decide (i = i))) = _; rw [decide_eq_true rfl]), _, rfl, rfl⟩), fun z => nomatch z⟩), fun z => nomatch z⟩


theorem pick_sign {x : PySem.Str} (hl : x.length ≤ lim) {r : Int} (h0 : 0 ≤ r) (h1 : r < x.cps.toList.length) : ∃ c, O2.idx.sem (.str x) (.int r) = some (.str (ones c)) := by
  have hn : r.toNat < x.cps.toList.length := by omega
  refine ⟨x.cps.toList[r.toNat], ?_⟩
  have := sign_at hl (i := r.toNat) (c := x.cps.toList[r.toNat]) (List.getElem?_eq_getElem hn)
  rw [show ((r.toNat : Nat) : Int) = r by omega] at this
  exact this
abbrev SG : PySem.Str := "abcdefghijklmnopqrstuvwxyz0123456789"
abbrev OT : PySem.Str := "ABMZ_-. :#'~!$&\x40[{/;,?"
def sgD (l : List Nat) : List D := l.map fun c => D.str (ones c)
theorem sg_get {l : List Nat} {i : Nat} {d : D} (h : (sgD l)[i]? = some d) : ∃ c, d = .str (ones c) := by
  unfold sgD at h
  rw [List.getElem?_map] at h
  cases hl : l[i]? with
  | none => rw [hl] at h; cases h
  | some c => rw [hl] at h; cases h; exact ⟨c, rfl⟩
theorem strs_sg : ∀ l : List Nat, strs? (sgD l) = some (l.map ones)
  | [] => rfl
  | c :: l => by
    show (match strs? (sgD l) with | some r => some (ones c :: r) | none => none) = _
    rw [strs_sg l]
    rfl
theorem len_sum : ∀ l : List Nat, ((l.map ones).map (·.length)).sum = l.length
  | [] => rfl
  | c :: l => by
    rw [List.map_cons, List.map_cons, List.sum_cons, len_sum l, List.length_cons]
    show 1 + l.length = _
    omega
theorem join_sg {l : List Nat} (h : l.length ≤ 1000) : ∃ x : PySem.Str, Mth.sem .join (.str "") [.lst false (sgD l)] = some (.str x) ∧ x.length ≤ lim := by
  have hl : (lim : Nat) = 16777216 := rfl
  refine ⟨Txt.join "" (l.map ones), ?_, ?_⟩
  · show joinS "" (sgD l) = _
    unfold joinS
    rw [strs_sg]
    dsimp only
    rw [if_pos]
    rw [len_sum, List.length_map]
    show l.length + l.length * 0 ≤ lim
    omega
  · refine Nat.le_trans (Nat.le_of_eq (PySem.W.KT.join_ones _ ?_)) ?_
    · intro a ha
      obtain ⟨c, _, rfl⟩ := List.mem_map.mp ha
      rfl
    · rw [List.length_map]
      omega
theorem fzs_sg : ∀ l : List Nat, fzDs (sgD l) = sgD l
  | [] => rfl
  | c :: l => by
    show fzD (.str (ones c)) :: fzDs (sgD l) = _
    rw [fzs_sg l]
    rfl
theorem fz_sg (l : List Nat) : fzD (.lst true (sgD l)) = .lst false (sgD l) := by
  show D.lst false (fzDs (sgD l)) = _
  rw [fzs_sg]
theorem fillS {ns : List Int} {a : Nat} {b m : Int} {ρ : Ev} (h : getV ρ 0 = some (tk ns a b)) : fill [some 0, none] [.non, .int m] ρ = some [tk ns a b, .int m] := by
  show (match getV ρ 0, fill [none] [.int m] ρ with | some d, some l => some (d :: l) | _, _ => none) = _
  rw [h, fill_1 rfl]
theorem drawn_ok (ns : List Int) (a : Nat) (b : Int) : ∃ (x : PySem.Str) (a' : Nat) (b' : Int), x.length ≤ lim ∧ s6 [tk ns a b] = .ret (.str x) [tk ns a' b'] := by
  have hl : (lim : Nat) = 16777216 := rfl
  have main : @wpF (inst t6) n6.length io6 b6 [tk ns a b] (fun d o => ∃ (x : PySem.Str) (a' : Nat) (b' : Int), x.length ≤ lim ∧ d = .str x ∧ o = [tk ns a' b']) := by
    obtain ⟨r1, b1, p1, q1, h1⟩ := turn_ex ns a b 13 (by omega)
    obtain ⟨r2, b2, p2, q2, h2⟩ := turn_ex ns (a + 1) b1 4 (by omega)
    refine ⟨_, rfl, _, rfl, _, _, h1, _, rfl, ?_⟩
    refine ⟨_, rfl, _, rfl, _, _, h2, _, rfl, _, rfl, _, rfl, ?_⟩
    have rest : ∀ (v : Int) (a : Nat) (b : Int), 0 ≤ v → v ≤ 12 → @wpSs (inst t6) (match b6 with | .cons _ (.cons _ (.cons _ (.cons _ r))) => r | _ => .nil) [some (tk ns a b), some (.str SG), some (.str OT), some (.int v), none, none] (fun f ρ => match f with
        | .nx => ∃ l, outsOf (ixs io6) ρ = some l ∧ (∃ (x : PySem.Str) (a' : Nat) (b' : Int), x.length ≤ lim ∧ D.non = .str x ∧ l = [tk ns a' b'])
        | .rt d => ∃ l, outsOf (ixs io6) ρ = some l ∧ (∃ (x : PySem.Str) (a' : Nat) (b' : Int), x.length ≤ lim ∧ d = .str x ∧ l = [tk ns a' b'])
        | _ => False) := by
      intro v a b hv hn
      obtain ⟨n, rfl⟩ := Int.eq_ofNat_of_zero_le hv
      refine ⟨Nat.le_of_ble_eq_true rfl, ?_⟩
      refine ⟨_, rfl, rfl, _, rng_ok (by omega), fun i ρ => ∃ a b l e5, ρ = [some (tk ns a b), some (.str SG), some (.str OT), some (.int (n : Int)), some (.lst true (sgD l)), e5] ∧ l.length = i ∧ i ≤ 12, ⟨a, b, [], _, rfl, rfl, by omega⟩, ?_, ?_⟩
      · rintro i d ρ hd ⟨a, b, l, e5, rfl, hli, _⟩
        obtain ⟨rfl, hi⟩ := rng_get _ _ _ _ hd
        have go : ∀ (a : Nat) (b m : Int), 0 < m → m ≤ 36 → ∃ r b' c, s3 [tk ns a b, .int m] = .ret (.int r) [tk ns (a + 1) b'] ∧ O2.idx.sem (.str SG) (.int r) = some (.str (ones c)) := by
          intro a b m h0 h36
          obtain ⟨r, b', p, q, h⟩ := turn_ex ns a b m h0
          obtain ⟨c, hc⟩ := pick_sign (x := SG) (Nat.le_of_ble_eq_true rfl) p (by show r < ((36 : Nat) : Int); omega)
          exact ⟨r, b', c, h, hc⟩
        have fin : ∀ (c : Nat), sgD l ++ [D.str (ones c)] = sgD (l ++ [c]) := fun c => by unfold sgD; rw [List.map_append]; rfl
        have inv : ∀ (c : Nat) (a : Nat) (b : Int) (ρ : Ev), ρ = [some (tk ns a b), some (.str SG), some (.str OT), some (.int (n : Int)), some (.lst true (sgD l ++ [D.str (ones c)])), some (.int (0 + (i : Int)))] → ∃ a b l e5, ρ = [some (tk ns a b), some (.str SG), some (.str OT), some (.int (n : Int)), some (.lst true (sgD l)), e5] ∧ l.length = i + 1 ∧ i + 1 ≤ 12 :=
          fun c a b ρ h => ⟨a, b, l ++ [c], some (.int (0 + (i : Int))), by rw [h, fin c], by rw [List.length_append, hli]; rfl, by omega⟩
        have lt : (sgD l).length < lim := by unfold sgD; rw [List.length_map]; omega
        refine ⟨_, rfl, rfl, ⟨_, rfl⟩, _, rfl, _, rfl, _, rfl, _, rfl, (fun z => ?_), fun z => ?_⟩
        · obtain ⟨r0, b0, p0, q0, h0⟩ := turn_ex ns a b 4 (by omega)
          refine ⟨_, rfl, _, fillS rfl, _, _, h0, _, rfl, _, rfl, ?_⟩
          cases ht : decide ((0 : Int) < r0) with
          | true =>
            obtain ⟨r, b', c, h, hc⟩ := go (a + 1) b0 26 (by omega) (by omega)
            refine ⟨_, rfl, _, mul_l (by omega) (by omega), _, rfl, _, fillS rfl, _, _, h, _, rfl, _, _, rfl, hc, rfl, _, rfl, lt, inv c _ _ _ rfl⟩
          | false =>
            obtain ⟨r, b', c, h, hc⟩ := go (a + 1) b0 36 (by omega) (by omega)
            refine ⟨_, rfl, _, mul_l (by omega) (by omega), _, rfl, _, fillS rfl, _, _, h, _, rfl, _, _, rfl, hc, rfl, _, rfl, lt, inv c _ _ _ rfl⟩
        · obtain ⟨r, b', c, h, hc⟩ := go a b 36 (by omega) (by omega)
          refine ⟨_, (show O1.int.sem (.bl (decide ((0 : Int) + (i : Int) = 0))) = some (.int 0) from by rw [z]; rfl), _, mul_l (by omega) (by omega), _, rfl, _, fillS rfl, _, _, h, _, rfl, _, _, rfl, hc, rfl, _, rfl, lt, inv c _ _ _ rfl⟩
      · rintro ρ ⟨a, b, l, e5, rfl, hli, _⟩
        rw [rng_len] at hli
        obtain ⟨r, b', p, q, h⟩ := turn_ex ns a b ((n : Int) + 1) (by omega)
        refine ⟨_, rfl, _, rfl, _, rfl, _, fillS rfl, _, _, h, _, rfl, ?_⟩
        have done : ∀ (l : List Nat) (a : Nat) (b : Int) (ρ : Ev), l.length ≤ 1000 → ρ = [some (tk ns a b), some (.str SG), some (.str OT), some (.int (n : Int)), some (.lst true (sgD l)), some (.int r)] → @wpSs (inst t6) (.cons (.ret (.me .join (.cst (.str "")) (.cons (.mv 4) .nil))) .nil) ρ (fun f ρ => match f with
          | .nx => ∃ l, outsOf (ixs io6) ρ = some l ∧ (∃ (x : PySem.Str) (a' : Nat) (b' : Int), x.length ≤ lim ∧ D.non = .str x ∧ l = [tk ns a' b'])
          | .rt d => ∃ l, outsOf (ixs io6) ρ = some l ∧ (∃ (x : PySem.Str) (a' : Nat) (b' : Int), x.length ≤ lim ∧ d = .str x ∧ l = [tk ns a' b'])
          | _ => False) := by
          rintro l a b ρ hl rfl
          obtain ⟨x, h1, h2⟩ := join_sg hl
          refine ⟨rfl, _, rfl, _, ?_, _, rfl, x, a, b, h2, rfl, rfl⟩
          rw [fz_sg]
          exact h1
        refine ⟨_, rfl, _, rfl, _, rfl, _, rfl, (fun z => ?_), fun z => ?_⟩
        · obtain ⟨r3, b3, p3, q3, h3⟩ := turn_ex ns (a + 1) b' 2 (by omega)
          refine ⟨_, rfl, _, fillS rfl, _, _, h3, _, rfl, _, rfl, _, rfl, (fun z => ?_), fun z => ?_⟩
          · obtain ⟨r4, b4, p4, q4, h4⟩ := turn_ex ns (a + 1 + 1) b3 22 (by omega)
            obtain ⟨c, hc⟩ := pick_sign (x := OT) (Nat.le_of_ble_eq_true rfl) p4 (by show r4 < ((22 : Nat) : Int); omega)
            have hr : r < (n : Int) := of_decide_eq_true (by assumption)
            refine ⟨⟨_, rfl⟩, _, rfl, _, fillS rfl, _, _, h4, _, rfl, _, _, rfl, hc, rfl, _, rfl, _, rfl, .inl ⟨_, _, r.toNat, rfl, rfl, ?_, ?_⟩⟩
            · obtain ⟨k, rfl⟩ := Int.eq_ofNat_of_zero_le p
              show (if 0 ≤ (k : Int) then _ else _) = _
              unfold sgD
              simp [List.length_map]
              omega
            · refine done (l.set r.toNat c) (a + 1 + 1 + 1) b4 _ (by rw [List.length_set]; omega) ?_
              rw [show sgD (l.set r.toNat c) = (sgD l).set r.toNat (.str (ones c)) from by unfold sgD; rw [List.map_set]]
              rfl
          · exact done l _ _ _ (by omega) rfl
        · refine ⟨_, rfl, (fun z => ?_), fun z => ?_⟩
          · exact absurd ((show decide (r < (n : Int)) = false from by assumption).symm.trans z) (fun q => nomatch q)
          · exact done l _ _ _ (by omega) rfl
    refine ⟨(fun z => ?_), fun z => ?_⟩
    · obtain ⟨r3, b3, p3, q3, h3⟩ := turn_ex ns (a + 1 + 1) b2 2 (by omega)
      refine ⟨_, rfl, _, fillS rfl, _, _, h3, _, rfl, _, rfl, ?_⟩
      exact rest (8 + r3) (a + 1 + 1 + 1) b3 (by omega) (by omega)
    · exact rest r1 (a + 1 + 1) b2 (by omega) (by omega)
  obtain ⟨d, o, h, x, a', b', hx, rfl, rfl⟩ := @wpF_ok (inst t6) _ _ _ _ _ main
  exact ⟨x, a', b', hx, h⟩


def IsT (d : D) : Prop := ∃ a : Th, a.ok ∧ a.d = d
def AllT : List D → Prop
  | [] => True
  | d :: ds => IsT d ∧ AllT ds
theorem AllT.get : ∀ {ds : List D} {i : Nat} {d : D}, AllT ds → ds[i]? = some d → IsT d
  | _ :: _, 0, _, h, e => by cases e; exact h.1
  | _ :: ds, i + 1, d, h, e => AllT.get (ds := ds) (i := i) h.2 (by simpa using e)
theorem isT_s {x : PySem.Str} (h : x.length ≤ lim) : IsT (.str x) := ⟨.t x, h, rfl⟩
theorem isT_o {d : D} (h : O1.sem (.isT .str) d = some (.bl false)) (f : frzD d = true) : IsT d := ⟨.o d h f, trivial, rfl⟩
theorem pick_one {x : PySem.Str} (hl : x.length ≤ lim) {r : Int} (h0 : 0 ≤ r) (h1 : r < x.cps.toList.length) : ∃ s : PySem.Str, s.length = 1 ∧ O2.idx.sem (.str x) (.int r) = some (.str s) := by
  obtain ⟨c, h⟩ := pick_sign hl h0 h1
  exact ⟨ones c, rfl, h⟩
theorem len_rep (x : PySem.Str) (k : Nat) : (repS x (k : Int)).length = k * x.length := by
  show ((List.replicate (k : Int).toNat x.cps.toList).flatten.toArray).size = _
  rw [List.size_toArray, List.length_flatten, List.map_replicate, List.sum_replicate_nat, Array.length_toList]
  rfl
theorem add_s {x y : PySem.Str} {n m : Nat} (hx : x.length ≤ n) (hy : y.length ≤ m) (h : n + m ≤ 1000) : O2.add.sem (.str x) (.str y) = some (.str (x ++ y)) ∧ (x ++ y).length ≤ n + m := by
  have : (lim : Nat) = 16777216 := rfl
  refine ⟨if_pos (by omega), ?_⟩
  rw [PySem.Str.length_append]
  omega
theorem mul_s {x : PySem.Str} {n : Nat} (hx : x.length ≤ n) (k : Nat) (h : n * k ≤ 1000) (hn : n ≤ 1000) (hk : k ≤ 1000) : O2.mul.sem (.str x) (.int (k : Int)) = some (.str (repS x k)) ∧ (repS x k).length ≤ n * k := by
  have hl : (lim : Nat) = 16777216 := rfl
  have h1 : x.length * k ≤ n * k := Nat.mul_le_mul_right k hx
  have c1 : -9223372036854775808 ≤ (k : Int) ∧ (k : Int) < 9223372036854775808 := by omega
  have c2 : x.length * (k : Int).toNat ≤ lim := by rw [Int.toNat_natCast, hl]; omega
  have c3 : x.length ≤ lim := by rw [hl]; omega
  have e : mulS (.str x) (.int (k : Int)) = some (.str (repS x k)) := by
    show (if (-9223372036854775808 ≤ (k : Int) ∧ (k : Int) < 9223372036854775808) ∧ x.length * (k : Int).toNat ≤ lim ∧ x.length ≤ lim then some (D.str (repS x (k : Int))) else none) = _
    exact if_pos ⟨c1, c2, c3⟩
  refine ⟨e, ?_⟩
  rw [len_rep, Nat.mul_comm]
  exact h1
theorem math (ns : List Int) (hl : ns.length ≤ 63) : s7 [.scr ns] = .ret (.bl true) [] := by
  have lm : (lim : Nat) = 16777216 := rfl
  refine @wpF_eq (inst t7) n7.length io7 b7 _ _ _ ?_
  refine ⟨_, rfl, rfl, Nat.le_of_ble_eq_true rfl, ?_⟩
  refine ⟨_, rfl, fun i ρ => ∃ a b e2, ρ = [some (.scr ns), some (tk ns a b), e2, none, none, none, none], ⟨_, _, _, rfl⟩, ?_, ?_⟩
  · rintro i d ρ hd ⟨a, b, e2, rfl⟩
    obtain ⟨rfl, hi⟩ := rng_get _ _ _ _ hd
    obtain ⟨x, a', b', hx, h⟩ := drawn_ok ns a b
    exact ⟨_, rfl, _, rfl, _, rfl, _, _, h, _, rfl, _, rfl, _, _, holds_ok (.t x) hx, _, rfl, _, rfl, _, rfl, (fun z => nomatch z), fun _ => ⟨_, _, _, rfl⟩⟩
  · rintro ρ ⟨a, b, e2, rfl⟩
    obtain ⟨r1, b1, p1, q1, h1⟩ := turn_ex ns a b 26 (by omega)
    obtain ⟨r2, b2, p2, q2, h2⟩ := turn_ex ns (a + 1) b1 36 (by omega)
    obtain ⟨s, hs, es⟩ := pick_one (x := LET) (Nat.le_of_ble_eq_true rfl) p1 (by show r1 < ((26 : Nat) : Int); omega)
    obtain ⟨t, ht, et⟩ := pick_one (x := "0123456789abcdefghijklmnopqrstuvwxyz") (Nat.le_of_ble_eq_true rfl) p2 (by show r2 < ((36 : Nat) : Int); omega)
    have hs : s.length ≤ 1 := by omega
    have ht : t.length ≤ 1 := by omega
    have l1 : ("_" : PySem.Str).length ≤ 1 := Nat.le_of_ble_eq_true rfl
    have l2 : (" " : PySem.Str).length ≤ 1 := Nat.le_of_ble_eq_true rfl
    refine ⟨_, rfl, _, rfl, _, _, h1, _, rfl, _, es, rfl, ?_⟩
    refine ⟨_, rfl, _, rfl, _, _, h2, _, rfl, _, et, rfl, ?_⟩
    have a1 := add_s l1 hs (by omega)
    have a2 := add_s hs l1 (by omega)
    have a3 := add_s a2.2 ht (by omega)
    have u : Mth.sem .upper (.str s) [] = some (.str (Txt.upper s)) := if_pos (by omega)
    have lu := PyProof.Rows.len_upper s
    have m7 := mul_s ht 7 (by omega) (by omega) (by omega)
    have m8 := mul_s ht 8 (by omega) (by omega) (by omega)
    have a4 := add_s hs m7.2 (by omega)
    have a5 := add_s hs m8.2 (by omega)
    have a6 := add_s ht hs (by omega)
    have a7 := add_s hs l2 (by omega)
    have a8 := add_s l2 hs (by omega)
    have a9 := add_s a4.2 l2 (by omega)
    refine ⟨_, rfl, rfl, _, rfl, _, a1.1, _, rfl, _, a2.1, _, rfl, _, a3.1, _, rfl, rfl, _, u, ?_⟩
    refine ⟨_, rfl, _, rfl, _, m7.1, _, a4.1, _, rfl, _, rfl, _, m8.1, _, a5.1, ?_⟩
    refine ⟨_, rfl, _, rfl, _, a6.1, _, rfl, _, a7.1, _, rfl, _, a8.1, ?_⟩
    refine ⟨_, rfl, _, rfl, _, m7.1, _, a4.1, _, a9.1, Nat.le_of_ble_eq_true rfl, ?_⟩
    refine ⟨_, rfl, rfl, ?_⟩
    refine ⟨_, rfl, rfl, ⟨rfl, Nat.le_of_ble_eq_true rfl⟩, ?_⟩
    refine ⟨_, rfl, rfl, Nat.le_of_ble_eq_true rfl, ⟨rfl, Nat.le_of_ble_eq_true rfl⟩, Nat.le_of_ble_eq_true rfl, _, rfl, rfl, ⟨rfl, Nat.le_of_ble_eq_true rfl⟩, ⟨rfl, Nat.le_of_ble_eq_true rfl⟩, Nat.le_of_ble_eq_true rfl, _, rfl, ?_⟩
    have all : AllT [.str s, .str ("_" ++ s), .str (s ++ "_" ++ t), .str (Txt.upper s), .str (s ++ repS t (7 : Nat)), .str (s ++ repS t (8 : Nat)), .str "", .str (t ++ s), .str (s ++ " "), .str (" " ++ s), .str (s ++ repS t (7 : Nat) ++ " "), .non, .bl true, .bl false, .int 7, .tup [.str s], .lst false [.str s], .tup [], .lst false [], .tup [.tup [.str s], .non]] := by
      refine ⟨isT_s (by omega), isT_s (by omega), isT_s (by omega), isT_s (by omega), isT_s (by omega), isT_s (by omega), isT_s (Nat.le_of_ble_eq_true rfl), isT_s (by omega), isT_s (by omega), isT_s (by omega), isT_s (by omega), ?_⟩
      exact ⟨isT_o rfl rfl, isT_o rfl rfl, isT_o rfl rfl, isT_o rfl rfl, isT_o rfl rfl, isT_o rfl rfl, isT_o rfl rfl, isT_o rfl rfl, isT_o rfl rfl, trivial⟩
    refine ⟨_, rfl, _, rfl, fun i ρ => ∃ e0 e1 e2 e3 e4 e5 e6, ρ = [e0, e1, e2, e3, e4, e5, e6], ⟨_, _, _, _, _, _, _, rfl⟩, ?_, ?_⟩
    · rintro i d ρ hd ⟨e0, e1, e2, e3, e4, e5, e6, rfl⟩
      obtain ⟨a, ha, rfl⟩ := all.get hd
      exact ⟨_, rfl, _, rfl, a.frz, _, fill_1 a.frz, _, _, holds_ok a ha, _, rfl, _, rfl, _, rfl, (fun z => nomatch z), fun _ => ⟨_, _, _, _, _, _, _, rfl⟩⟩
    · rintro ρ ⟨e0, e1, e2, e3, e4, e5, e6, rfl⟩
      exact ⟨_, rfl, rfl, rfl⟩

end Hd
open PySem PySem.W PySem.Calls PyProof.Rows
theorem PySem.Challenge.cw_fringes_k01_check_name_holds : PySem.Challenge.rw_fringes_k01_check_name.Holds := by
  w_on; o_law
  refine HandSHeadRun.head_any (r := OpenLaw.row PySem.Challenge.rw_fringes_k01_check_name) (q := view (OpenLaw.row PySem.Challenge.rw_fringes_k01_check_name).prog [19]) (H := Hd.hk) (ob := Hd.ob) (M := 4000) (loose := Hd.names) (d := HandSHeadRun.topDef (OpenLaw.row PySem.Challenge.rw_fringes_k01_check_name).prog 19) (kwd := []) Hd.ob_eq
    (by kernel_rfl) (fun s => by kernel_rfl) Hd.run (by kernel_rfl) (by kernel_rfl) (by kernel_rfl) (by rfl) (by first | assumption | decide +kernel) (by decide +kernel) ⟨rfl, rfl, rfl, rfl, rfl, by decide +kernel⟩ ?hw ?hc
  case hw => w_witness2
  case hc =>
    refine L2.walk_ofE (l := PySem.Challenge.rw_fringes_k01_check_name) (n := 63) (k := 10) (x := "script") (CX := fun _ _ _ _ _ _ => False) rfl (by decide) (by kernel_rfl) ⟨rfl, by decide, by decide⟩ ?F (fun _ _ _ _ z => z)
    intro w mg fa h Y G hmg0
    obtain ⟨K, KX, c⟩ := Y
    have hmg : mg ("law" : PySem.Str) = some (.ref fa) := by
      have e : (HandSHeadRun.topDef (OpenLaw.row PySem.Challenge.rw_fringes_k01_check_name).prog 19).name = ("law" : PySem.Str) := by kernel_rfl
      rw [← e]
      exact hmg0
    obtain ⟨fd, hb, hF⟩ := Hd.facts (P := (PySem.Challenge.rw_fringes_k01_check_name).prog) (w := w) KX G hmg rfl c
    exact ⟨K, fd, (fun vs H Q _ => Ly.spD ⟨K, Ly.erX K⟩ Hd.io7 Hd.s7 vs H Q fun _ _ _ => False), KX, hb, fun H a ns hl hO hS => Ly.sp_law (Hd.math ns hl) (Ly.sq_only hO hS), fun base h1 h2 => Ly.to0 (hF base h1 h2)⟩

