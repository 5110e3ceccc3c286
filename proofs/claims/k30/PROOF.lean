import PyProof.Rows.All
import Wide.All
import OpenK.AllK
import Wide.FinOn
import PyProof.EqAt
import PyProof.EqKinds
import PyProof.TupleCall
import KE.KExcSuper
import KE.KIsAll
import KE.KTryMore
import HandS.ForMost
import HandS.ForExc
import HandS.ExcInit
import HandS.ExcSuper
import HandS.ExcIs
import HandS.ExcField
import HandS.IsInst
import HandS.Lambda
import HandS.Defaults
import HandS.Head0
import HandS.Head1
import HandS.Head2
import HandS.HeadEnd
import HandS.HeadHook1
import HandS.HeadHook2
import HandS.HeadHook4
import HandS.HeadWalk
import HandS.Style
import HandS.Flow
import HandS.WordsExc
import PySem.Challenge.RW_everyweb_k30_scans_by_an_own_reading_of
import KE.KStateDown
import Lean
import HandS.Evl
import HandS.Wide
import HandS.Walk
import PyProof.StrBlock2
import HandS.EndTab
set_option Elab.async false
set_option linter.all false
set_option maxRecDepth 100000
set_option maxHeartbeats 0
/-! Own error classes over ValueError whose __init__ says super().__init__(..): the def's promise. -/
namespace ExK
open PySem PySem.Spec PySem.W PySem.Calls PyProof.Rows PySem.HandSPX L2

/-! ### the bound ValueError.__init__, called -/
section
variable {prog : Program} {w : World} {A : Around} {E : Value → Shared → Prop} {h : Heap} {g : Array GenState} {d : Drawn} {t : Nat} {os : OsState}
variable {nm q : Str} {C N : Addr} {bs bm : List Value} {hdct : Bool} {sn : List Str} {sub : List Value} {ab : Bool} {col : Option Bool} {dd : Option Addr} {k0 k1 k2 k3 k5 : Option Value}
theorem call_mwVE {u e t0 : Addr} {rest : List Value} {Q : Value → Shared → Prop}
    (hC : h.get? C = some (excClassObj nm q C N bs bm hdct sn sub ab col dd k0 k1 k2 k3 k5 "ValueError.__new__")) (he : h.get? e = some (excO C t0)) (hu : h.get? u = some (kxs_mw "ValueError.__init__" e)) (hrest : rest.length ≤ sizeLine)
    (hq : ∀ h' t1, (∀ b o, b ≠ e → h.get? b = some o → h'.get? b = some o) → h'.get? e = some (excO C t1) → Q .none ⟨h', g, d, t, os⟩) :
    wpAny (model prog w) A (call (.ref u) rest) Q E ⟨h, g, d, t, os⟩ := by
  refine wpAny_call (codeAny_of_tree ?_)
  show wpAny _ A.in1 (callAny (.ref u) ⟨rest, []⟩) _ _ _
  simp only [callAny]
  refine wpAny_bind (wpAny_load hu ?_)
  simp only [kxs_mw, show (Value.type "method-wrapper" == Value.type "method" || Value.type "method-wrapper" == Value.type "builtin_function_or_method" || Value.type "method-wrapper" == Value.type "method-wrapper") = true by decide, if_true]
  refine PySem.W.KFB.if_so (by decide) ?_
  refine wpAny_bind (PySem.ESX.check_bound F.excBase_ValueError hC he rfl ?_)
  refine wpAny_bind (wpAny_pure (wpAny_pure ?_))
  refine ⟨Code.quiet_builtin _ (by decide +kernel), codeAny_builtin F.excBase_ValueError.initEntry ?_⟩
  rw [Around.under_plainId F.excBase_ValueError.init.plain _]
  wp_walk
  refine hq _ h.objs.size (fun b o hb ho => ?_) ?_
  · rw [Heap.get?_update_other _ _ (Ne.symm hb)]
    exact Heap.get?_push_of_some _ ho
  · rw [Heap.get?_update_self _ (Heap.get?_push_of_some _ he) rfl]
    rfl
end

/-! ### the context of such an __init__ -/
def iniCx (CX : CXT) (P : Program) (w : World) (K : Frag) (mg : Str → Option Value) (base : Heap) (N : List Str) (qual : Str) (scope : Scope) (f : Addr) (cd : Value) (cc : Addr) (A : Around) (outer : List Env) (s : Shared) (H : Hp) (E : XK) : Cx where
  prog := P
  w := w
  K := K
  mg := mg
  base := base
  A := A.deeper (ksEnv qual scope s.heap.objs.size f cd cc)
  N := N
  s_0 := s
  H_0 := H
  env := ksEnv qual scope s.heap.objs.size f cd cc
  outer := outer
  stack := ksEnv qual scope s.heap.objs.size f cd cc :: outer
  ex := []
  calm := true
  fn := fun _ => false
  pn := []
  xe := fun e s' => wpAny (model P w) (A.deeper (ksEnv qual scope s.heap.objs.size f cd cc)) (leaving (ksEnv qual scope s.heap.objs.size f cd cc) e) (fun _ s'' => CX outer H s E e s'') (fun e' s'' => CX outer H s E e' s'') s'

structure IniScope (N : List Str) (sc : Scope) : Prop where
  kind : sc.kind = .function
  co : sc.isCoroutine = false
  gen : sc.isGenerator = false
  nd : N.Nodup
  par : ∀ x ∈ N, sc.names.lookup x = some .local
  nocell : ∀ y ∈ sc.names, y.2 ≠ .cell
  onlyc : ∀ y ∈ sc.names, y.2 = .free → y.1 = "__class__"
  sup : sc.names.lookup ("super" : Str) = some .globalImplicit
  cls : sc.names.lookup ("__class__" : Str) = some .free

theorem zip_rev_lookup : ∀ {N : List Str} {us : List Value}, N.Nodup → ∀ {i : Nat} {x : Str} {u : Value}, N[i]? = some x → us[i]? = some u → (N.zip us).reverse.lookup x = some u
  | [], _, _, i, x, u, h, _ => by simp at h
  | n :: N, [], _, i, x, u, _, h => by simp at h
  | n :: N, v :: us, nd, 0, x, u, h1, h2 => by
    simp at h1 h2
    subst h1 h2
    rw [List.zip_cons_cons, List.reverse_cons, List.lookup_append]
    have z : (N.zip us).reverse.lookup n = none := by
      rw [List.lookup_eq_none_iff]
      intro p hp
      have hp' : p ∈ N.zip us := List.mem_reverse.mp hp
      have hm : p.1 ∈ N := (List.of_mem_zip hp').1
      have hne : n ≠ p.1 := fun e => (List.nodup_cons.mp nd).1 (e ▸ hm)
      simpa using hne
    rw [z]
    simp [List.lookup]
  | n :: N, v :: us, nd, i + 1, x, u, h1, h2 => by
    rw [List.zip_cons_cons, List.reverse_cons, List.lookup_append]
    rw [zip_rev_lookup (List.nodup_cons.mp nd).2 (i := i) (x := x) (u := u) (by simpa using h1) (by simpa using h2)]
    rfl

section
variable {CX : CXT} {P : Program} {w : World} {K : Frag} {mg : Str → Option Value} {base : Heap} {N : List Str} {qual : Str} {scope : Scope} {f cc : Addr} {cd : Value} {A : Around} {outer : List Env} {s : Shared} {H : Hp} {E : XK} {us : List Value} {vs : List V}
theorem ini_start {h₁ : Heap} {tk : Nat} {oc : Obj} {vc : Option Value} (S : IniScope N scope) (hd : A.handled = none) (e0 : Env0 P w K mg base A outer s H) (hl : vs.length = N.length) (r : Vals vs us)
    (hcc : K.lookup cc = some oc) (hcv : oc.data = .cell vc)
    (hns : h₁.Ns s.heap.objs.size fun y => (N.zip us).reverse.lookup y) (kp : ∀ b o, s.heap.get? b = some o → h₁.get? b = some o) :
    Inv (iniCx CX P w K mg base N qual scope f cd cc A outer s H E) [] (vs.map some) H { s with heap := h₁, toks := tk } := by
  have noA : ∀ b : Addr, b ∉ (iniCx CX P w K mg base N qual scope f cd cc A outer s H E).ex := fun b z => absurd (show b ∈ ([] : List Addr) from z) (by simp)
  have lk : ∀ {y c}, ([(("__class__" : Str), cc)] : List (Str × Addr)).lookup y = some c → y = "__class__" ∧ c = cc := fun {y c} h => by
    by_cases e : y = "__class__"
    · subst e
      simp [List.lookup] at h
      exact ⟨rfl, h.symm⟩
    · have e' : (y == ("__class__" : Str)) = false := by simpa using e
      simp [List.lookup, e'] at h
  have ccb := e0.bs cc oc (e0.mod.kin _ _ hcc)
  refine ⟨⟨e0.mod, S.kind, rfl, rfl, Nat.le_refl _, fun y z c h1 h2 => ?_, fun y hy => ?_, fun y c h _ => ?_, fun _ => hd, Around.frames_deeper e0.frames, .inr ⟨rfl, rfl⟩, fun b z => absurd z (noA b), e0.bs, e0.bsz, fun b _ _ => noA b, fun b z => absurd z (noA b), e0.funs, e0.frf⟩,
    rfl, e0.bare, Un.kept kp, ⟨_, hns, fun i y v h1 h2 h3 => ?_⟩, fun y c h => ?_, e0.hok.fresh (Nat.le_refl _), fun y c h => ?_, fun p hp => absurd (show p ∈ ([] : List (Addr × Obj)) from hp) (by simp), e0.hok.kept kp, ?_⟩
  · rw [(lk h1).1, (lk h2).1]
  · have hy : scope.names.lookup y = some .cell ∨ scope.names.lookup y = some .free := hy
    rcases hy with hy | hy
    · exact absurd rfl (S.nocell _ (PySem.mem_of_lookup hy))
    · have e := S.onlyc _ (PySem.mem_of_lookup hy) rfl
      have e : y = "__class__" := e
      exact ⟨cc, by show ([(("__class__" : Str), cc)] : List (Str × Addr)).lookup y = some cc; rw [e]; simp [List.lookup]⟩
  · have h : false = true := h
    cases h
  · have ha : vs[i]? = some v := by
      rw [List.getElem?_map] at h2
      cases e : vs[i]? with
      | none => rw [e] at h2; cases h2
      | some a => rw [e] at h2; cases h2; rfl
    obtain ⟨u, hu, rv⟩ := r.get ha
    exact ⟨u, rv, .inl ⟨S.par y (List.mem_of_getElem? h1), zip_rev_lookup S.nd h1 hu⟩⟩
  · obtain ⟨_, e⟩ := lk h
    rw [e]
    exact ⟨vc, oc, kp _ _ ccb.1, hcv⟩
  · obtain ⟨_, e⟩ := lk h
    rw [e]
    exact ccb.2
  · show _ = N.length
    rw [List.length_map]
    exact hl
end
end ExK

namespace ExK
open PySem PySem.Spec PySem.W PySem.Calls PyProof.Rows PySem.HandSPX L2
section
variable {CX : CXT} {P : Program} {w : World} {K : Frag} {mg : Str → Option Value} {base : Heap}
/-- what stands in the written part for an own __init__ of an error class -/
structure IniTxt (P : Program) (K : Frag) (mg : Str → Option Value) (C cda cc : Addr) : Prop where
  ox : OexC K C
  code : ∃ (ccl : Value) (cdd : Option Addr) (vsC : Array Value) (ccs : Array (Option Value)) (file : Str) (tf : Tok), K.lookup cda = some ⟨ccl, cdd, .fields vsC, ccs⟩ ∧ vsC[2]? = some (.str file tf) ∧ ((P.main.file : Str) == file) = true
  top : (P.main.scope.names.lookup ("super" : Str)).isSome = false
  cell : ∃ (cl : Value) (cld : Option Addr) (csl : Array (Option Value)), K.lookup cc = some ⟨cl, cld, .cell (some (.ref C)), csl⟩
  cls : ∃ cdD, clsIn K C = some cdD
  sub : mroIn K C (.ref C) = some true
  sup : mg "super" = none
  opq : nsIn K cStatics "thirdparty.any" = some none
  ki : ks_superIn K C C "__init__" = some (some (.builtin "ValueError.__init__"))
  ve : subIn K (.ref C) (.type "ValueError") = some true
theorem callWith_mw {M : Model} {A : Around} {E : Value → Shared → Prop} {s : Shared} {i : String} {u x : Addr} {pos : Pos} {env : Env} {e : Expr} {rest : List Expr} {Q : Value → Shared → Prop}
    (h : wpAny M A (spliced (backTo pos (starEach (e :: rest) env))) (fun vs s₁ => KxsAt i u x s₁.heap ∧ wpAny M A (call (.ref u) vs) Q E s₁) E s)
    (he : starEach (e :: rest) env = (false, eval e env) :: starEach rest env) (hplain : (backTo pos (starEach rest env)).any (·.1) = false) :
    wpAny M A (callWith pos (.ref u) [] (backTo pos (starEach (e :: rest) env)) []) Q E s := by
  rw [he] at h ⊢
  refine kxs_callWith (i := i) (x := x) (by show (false || (backTo pos (starEach rest env)).any (·.1)) = false; rw [hplain]; rfl) ?_
  exact evalArgs_plain h
theorem kept_upd {H : Hp} {a : Addr} {o : HO} (e : H a = some o) : upd H a o = H := by
  funext b
  by_cases hb : b = a
  · rw [hb, upd_same, e]
  · rw [upd_ne hb]
theorem fn_ini {name qual : Str} {params : Arguments} {st0 : Stmt} {rest : List Stmt} {scope : Scope} {doc pm ct oc : Value} {an od : Option Addr} {osl : Array (Option Value)} {N : List Str} {k : Nat} {f C cda cc : Addr} {sp : Sp}
    {e0 : Expr} {es : List Expr} {q0 q1 q2 q5 q6 : Pos} {ar : Arg}
    (lk : K.lookup f = some ⟨oc, od, .func (ksFn name qual params (st0 :: rest) scope .none .none doc pm an (.ref cda) ct cc), osl⟩) (hcd : codeIn K (.ref cda) qual = true)
    (T : IniTxt P K mg C cda cc) (S : IniScope (("self" : Str) :: N) scope) (hp : (params.posonlyargs ++ params.args).head? = some ar) (har : ar.arg = "self")
    (hst : st0 = .Expr (.Call (.Attribute (.Call (.Name "super" q0) [] [] q1) "__init__" q2) (e0 :: es) [] q5) q6)
    (len : ∀ vs H Q E, sp vs H Q E → vs.length = (("self" : Str) :: N).length)
    (hbody : ∀ (A : Around) (outer : List Env) (s : Shared) (H : Hp) (vs : List V) (Q : VK) (E : XK), sp vs H Q E →
      ∃ (ta : TA) (t : TS) (a : Addr) (ws ws' : List V), vs = .ref a :: ws ∧ H a = some (exo a C none) ∧ PA (iniCx CX P w K mg base (("self" : Str) :: N) qual scope f (.ref cda) cc A outer s H E) (e0 :: es) ta ∧
        (∀ Q : List V → Hp → Prop, Q ws' H → ta (vs.map some) H Q) ∧ ws'.length ≤ 1000 ∧
        PSs (iniCx CX P w K mg base (("self" : Str) :: N) qual scope f (.ref cda) cc A outer s H E) rest t ∧ t { nx := fun _ H' => Q .non H', rt := Q } (vs.map some) H)
    (he : ∀ env : Env, starEach (e0 :: es) env = (false, eval e0 env) :: starEach es env) (hpl : ∀ env : Env, (backTo q5 (starEach es env)).any (·.1) = false)
    (hcall : ∀ env : Env, ∃ pl : Sem Bool, eval (.Call (.Attribute (.Call (.Name "super" q0) [] [] q1) "__init__" q2) (e0 :: es) [] q5) env = (do
      let ov ← attributeBase (.Call (.Name "super" q0) [] [] q1) "__init__" env (eval (.Call (.Name "super" q0) [] [] q1) env)
      standAt q2.atName
      let (f, first) ← holding [ov] (getMethod ov "__init__" pl)
      callWith q5 f first (backTo q5 (starEach (e0 :: es) env)) [])) :
    FnOk P w K mg base CX (k + 1) f (ksFn name qual params (st0 :: rest) scope .none .none doc pm an (.ref cda) ct cc) (("self" : Str) :: N) sp := by
  refine ⟨len, fun A outer s H args us vs Q E hr e0' hb r hsp => ?_⟩
  have hl := len _ _ _ _ hsp
  have KX : K.In s.heap := e0'.mod.kin.keeps fun b o e => (e0'.bs b o e).1
  have lim : s.heap.NoLimit := e0'.mod.nolimit.keeps fun b o e => (e0'.bs b o e).1
  obtain ⟨cl, cld, csl, hcell⟩ := T.cell
  obtain ⟨ccl, cdd, vsC, ccs, file, tf, hcode, hvs, hfile⟩ := T.code
  obtain ⟨cdD, hD⟩ := T.cls
  refine ks_codeAny_call_defAt (fd := ksFn name qual params (st0 :: rest) scope .none .none doc pm an (.ref cda) ct cc) (body := st0 :: rest) (binds := (("self" : Str) :: N).zip us) hr.depth (KX _ _ lk) rfl lim (codeRec_of KX hcd) rfl hb S.nocell (fun y hy => ?_) (fun h₁ hns hk => ?_) S.co S.gen S.kind
  · exact S.par y.1 (List.of_mem_zip hy).1
  · have I : Inv (iniCx CX P w K mg base (("self" : Str) :: N) qual scope f (.ref cda) cc A outer s H E) [] (vs.map some) H { s with heap := h₁, toks := s.toks + ((("self" : Str) :: N).zip us).length } := ini_start S hr.hd e0' hl r hcell rfl hns hk
    obtain ⟨ta, t, a, ws, ws', rfl, hea, hPA, hta, hw, hrest, ht⟩ := hbody A outer s H vs Q E hsp
    subst hst
    cases r with
    | @cons _ u0 _ ur ra rw' =>
    obtain rfl : u0 = Value.ref a := ra
    obtain ⟨t1, hxo⟩ := exo_at I.hok hea
    have X1 : K.In h₁ := KX.keeps hk
    obtain ⟨oD, hD1, hD2⟩ : ∃ oD, h₁.get? C = some oD ∧ oD.data = .cls cdD := by
      unfold clsIn at hD
      split at hD
      · rename_i c d cd' sl ho
        cases hD
        exact ⟨_, X1 _ _ ho, rfl⟩
      · cases hD
    have hself : (fun y => ((("self" : Str) :: N).zip (Value.ref a :: ur)).reverse.lookup y) ar.arg = some (Value.ref a) := by
      rw [har]
      exact zip_rev_lookup S.nd (i := 0) rfl rfl
    obtain ⟨mb, hb1, hb2⟩ := e0'.mod.blt
    have kb : ∀ b o, base.get? b = some o → h₁.get? b = some o := fun b o e => hk b o (e0'.bs b o e).1
    show _root_.PySem.wpAt (model P w) (A.deeper (ksEnv qual scope s.heap.objs.size f (.ref cda) cc)) (.func _ (ksEnv qual scope s.heap.objs.size f (.ref cda) cc)) (execs _ (ksEnv qual scope s.heap.objs.size f (.ref cda) cc)) _ _ _
    obtain ⟨pl, hcall⟩ := hcall (ksEnv qual scope s.heap.objs.size f (.ref cda) cc)
    refine ks_wpAt_execs_cons (ks_wpAt_Expr_any (ks_wpAt_MethodCall (pl := pl) ?_ hcall) (by
      have z : (ksEnv qual scope s.heap.objs.size f (.ref cda) cc).scope.kind = .function := S.kind
      unfold interactive
      rw [z]
      rfl))
    refine ks_wpAt_super_base (env := ksEnv qual scope s.heap.objs.size f (.ref cda) cc) S.sup S.cls (by decide) rfl (X1 _ _ lk) rfl hp rfl (X1 _ _ hcode) rfl hvs hfile T.top ?_
    refine ks_loadName_global S.kind S.sup (loadGlobal_builtin (env := ksEnv qual scope s.heap.objs.size f (.ref cda) cc) (e0'.mod.glob.keeps kb) T.sup (hb1.keeps kb) ((hb2 "super" (by decide)).trans (by decide +kernel)) ⟨rfl, ?_⟩)
    refine wpAny_loadName_free S.kind S.cls rfl ⟨_, X1 _ _ hcell, rfl⟩ ?_
    refine wpAny_loadName_local S.kind (by rw [har]; exact S.par _ List.mem_cons_self) hns hself ?_
    refine ks_wpAny_isType_cls hD1 hD2 ⟨rfl, ?_⟩
    refine ks_wpAny_call_super hD1 hD2 hxo rfl (fun c e => nomatch e) (looks_mroIn X1 T.sub) (fun h2 e2 k2 => ?_)
    have I2 : Inv (iniCx CX P w K mg base (("self" : Str) :: N) qual scope f (.ref cda) cc A outer s H E) [] ((V.ref a :: ws).map some) H { s with heap := h2, toks := s.toks + ((("self" : Str) :: N).zip (Value.ref a :: ur)).length } := I.kept k2
    have X2 : K.In h2 := X1.keeps k2
    have hx2 := k2 _ _ hxo
    have IA : InstAt h2 a ({ cls := .ref C, dict := none, data := .fields #[.ref t1, .none, .none, .none, .bool false, .none] } : Obj) C none := ⟨hx2, rfl, rfl, trivial⟩
    have hm := T.ki
    unfold ks_superIn at hm
    rw [hD] at hm
    refine kxs_getMethod kxs_ValueError e2 (looks_opaque X2 T.opq) (l₀ := cdD.mro) ?_ rfl X2 hm (IA.type.andThen (looks_subIn X2 T.ve)) (ks_ne X2 IA hD) (by decide) ?_
    · exact fun A Q E s k q => wpAny_bind ((looks_clsIn X2 hD) A _ E s k (wpAny_pure q))
    show wpAny _ _ (callWith q5 (.ref h2.objs.size) [] (backTo q5 (starEach (e0 :: es) (ksEnv qual scope s.heap.objs.size f (.ref cda) cc))) []) _ _ _
    have hu3 : (h2.push (kxs_mw "ValueError.__init__" a)).get? h2.objs.size = some (kxs_mw "ValueError.__init__" a) := Heap.get?_push_at rfl rfl
    have I3' : Inv (iniCx CX P w K mg base (("self" : Str) :: N) qual scope f (.ref cda) cc A outer s H E) [] ((V.ref a :: ws).map some) H { s with heap := h2.push (kxs_mw "ValueError.__init__" a), toks := s.toks + ((("self" : Str) :: N).zip (Value.ref a :: ur)).length + 1 } := I2.kept fun b o e => Heap.get?_push_of_some _ e
    have nu : H h2.objs.size = none := I2.hok.fresh (Nat.le_refl _)
    have I3 : Inv (iniCx CX P w K mg base (("self" : Str) :: N) qual scope f (.ref cda) cc A outer s H E) [(h2.objs.size, kxs_mw "ValueError.__init__" a)] ((V.ref a :: ws).map some) H { s with heap := h2.push (kxs_mw "ValueError.__init__" a), toks := s.toks + ((("self" : Str) :: N).zip (Value.ref a :: ur)).length + 1 } := I3'.pins_of fun p hp => by
      have e : p = (h2.objs.size, kxs_mw "ValueError.__init__" a) := by simpa using hp
      subst e
      exact ⟨hu3, nu, fun z => absurd (show h2.objs.size = _ from z) (Nat.ne_of_gt I2.lt), I2.nofs (Nat.le_refl _), fun v z => nomatch z⟩
    refine callWith_mw (i := "ValueError.__init__") (x := a) ?_ (he _) (hpl _)
    refine thn (hPA.run q5 _ _ _ H _ I3 (hta (fun vs H1 => vs = ws' ∧ H1 = H) ⟨rfl, rfl⟩)) fun us1 s4 ⟨vs4, H4, I4, r4, e4, e5⟩ => ?_
    rw [e5] at I4
    rw [e4] at r4
    obtain ⟨hu4, _⟩ := I4.pin (h2.objs.size, kxs_mw "ValueError.__init__" a) (by simp)
    refine ⟨hu4, ?_⟩
    show wpAny _ _ (call (.ref h2.objs.size) us1) _ _ _
    obtain ⟨nm, qn, NN, bs, bm, sn, sub, ab, col, dd, k0, k1, k2', k3, k5, hC, hbm⟩ := T.ox.cls
    obtain ⟨t4, hx4⟩ := exo_at I4.hok hea
    have hlen : us1.length ≤ sizeLine := by
      rw [← Paired.length r4, sizeLine_eq]
      omega
    obtain ⟨hp4, g4, d4, tk4, os4⟩ := s4
    refine call_mwVE (I4.kIn _ _ hC) hx4 hu4 hlen fun h5 t5 k5' hx5 => ?_
    have J := (I4.pins_of (pins' := []) (fun p hp => absurd hp (by simp))).write (t' := tk4) (x := a) (e := a) (o := exo a C none) (by rw [hea]; exact True.intro) (.inl rfl) k5' ⟨_, hx5⟩ (exo_ok hx5)
    rw [kept_upd hea] at J
    refine PySem.wpAt_of_wpAny (wpAny_mono (hrest.run [] _ _ H _ J ht) (fun fl s' hs => ?_) fun e s' hs => hs)
    have fin : ∀ {σ' : L2.St} {H' : Hp} {v : V} {u : Value}, Inv (iniCx CX P w K mg base (("self" : Str) :: N) qual scope f (.ref cda) cc A outer s H E) [] σ' H' s' → L2.RelV v u → Q v H' → CE outer P w H s Q u s' :=
      fun {σ' H' v u} J rv q => ⟨v, H', J.os, J.bare, J.base, J.hok, rv, q⟩
    cases fl with
    | ret u =>
      obtain ⟨v, σ', H', J, rv, q⟩ := hs
      exact fin J rv q
    | next =>
      obtain ⟨σ', H', J, q⟩ := hs
      exact fin (v := V.non) (u := Value.none) J rfl q
    | brk =>
      obtain ⟨_, _, _, q⟩ := hs
      exact False.elim q
    | cont =>
      obtain ⟨_, _, _, q⟩ := hs
      exact False.elim q
end
end ExK

namespace ExK
open PySem PySem.Spec PySem.W PySem.Calls PyProof.Rows PySem.HandSPX L2
/-! ### a caught exception as a tracked value -/
def ExV (a : Addr) (cls : Value) (d : Option Addr) : HO := .ext fun h => ∃ (oe : Obj) (vs : Array Value), h.get? a = some oe ∧ Zc cls d oe ∧ oe.data = .fields vs
theorem exV_ok {P : Program} {w : World} {H : Hp} {h : Heap} {a : Addr} {cls : Value} {d : Option Addr} {oe : Obj} {vs : Array Value} (e : h.get? a = some oe) (z : Zc cls d oe) (hd : oe.data = .fields vs) : ObjOk P w H h a (ExV a cls d) :=
  ⟨⟨oe, vs, e, z, hd⟩, ⟨oe, e⟩, fun _ _ ⟨o, v, q, r⟩ k => ⟨o, v, k o q, r⟩⟩
theorem exV_at {P : Program} {w : World} {H : Hp} {h : Heap} {a : Addr} {cls : Value} {d : Option Addr} (hok : HOk P w H h) (he : H a = some (ExV a cls d)) : ∃ (oe : Obj) (vs : Array Value), h.get? a = some oe ∧ Zc cls d oe ∧ oe.data = .fields vs := by
  have x : ObjOk P w H h a (.ext fun h => ∃ (oe : Obj) (vs : Array Value), h.get? a = some oe ∧ Zc cls d oe ∧ oe.data = .fields vs) := hok a _ he
  exact x.1
section
variable {X : Cx} {pins : List (Addr × Obj)} {σ : L2.St} {H : Hp} {s : Shared}
/-- an object of the heap that was made since the entry is tracked from now on -/
theorem track {a : Addr} {o : HO} (I : L2.Inv X pins σ H s) (hn : H a = none) (h0 : X.s_0.heap.get? a = none) (nL : a ≠ X.env.locals) (nC : ∀ x c, X.env.cells.lookup x = some c → c ≠ a) (nP : ∀ p ∈ X.pn ++ pins, p.1 ≠ a)
    (ok : ObjOk X.prog X.w (upd H a o) s.heap a o) : L2.Inv X pins σ (upd H a o) s := by
  have ne : ∀ b o', X.s_0.heap.get? b = some o' → b ≠ a := fun b o' e z => by
    rw [z, h0] at e
    cases e
  refine ⟨I.ok, I.os, I.bare, ⟨I.base.keep, I.base.slot, fun b o' e n hx => ?_, I.base.there, fun b xs e => ?_, fun b o' u e => ?_, fun b ps e => ?_⟩, I.loc, I.cell, ?_, fun x c e => ?_, fun p hp => ?_, fun b u e => ?_, I.len⟩
  · rw [upd_ne (ne b o' e)]
    exact I.base.free b o' e n hx
  · have q := I.base.tups b xs e
    rw [upd_ne (ne_of_none q hn)]
    exact q
  · have q := I.base.frzs b o' u e
    rw [upd_ne (ne_of_none q hn)]
    exact q
  · obtain ⟨m, q⟩ := I.base.tbls b ps e
    exact ⟨m, by rw [upd_ne (ne_of_none q hn)]; exact q⟩
  · rw [upd_ne (Ne.symm nL)]
    exact I.free
  · rw [upd_ne (nC x c e)]
    exact I.freeC x c e
  · obtain ⟨h1, h2, h3⟩ := I.pin p hp
    exact ⟨h1, by rw [upd_ne (nP p hp)]; exact h2, h3⟩
  · by_cases hb : b = a
    · subst hb
      rw [upd_same] at e
      cases e
      exact ok
    · rw [upd_ne hb] at e
      exact (I.hok b u e).stay (fun c v _ q => q) (fun c q => by rw [upd_ne (ne_of_none q hn)]; exact q) fun c xs q => by rw [upd_ne (ne_of_none q hn)]; exact q
end
/-- what 'except x as n: suite' wishes, the exception known behind the suite -/
def wHeld (K : Frag) (c : Value) (i : Nat) (ts : Addr → Value → Option Addr → TS) (Wout : WX) (D : Ends) : WX := fun cls d σ H =>
  ∃ b, exmOne K cls c = some b ∧ (b = true → ∀ a, H a = none → ts a cls d { nx := fun σ' H' => H' a = none → D.nx (σ'.set i none) (upd H' a (ExV a cls d)), rt := D.rt, bk := fun _ _ => False, ct := fun _ _ => False } (σ.set i (some (.ref a))) H) ∧
    (b = false → Wout cls d σ H)
section
variable {X : Cx} {x n : Str} {c : Value} {i : Nat} {body suite : List Stmt} {b₀ : Stmt} {np pos pos' : Pos} {tb : WX → TS} {ts : Addr → Value → Option Addr → TS} {Wout : WX}
theorem ps_try_held (hs : X.stack = X.env :: X.outer) (hf : X.env.frame = some X.env.locals) (hex : X.ex = []) (hN : X.N.Nodup) (hi : X.N[i]? = some n) (hln : X.env.kindOf n = some .local) (hc : Names X x c) (tk : Takes X Wout)
    (hb : ∀ (W : WX) (pn : List (Addr × Obj)) (xe : Value → Shared → Prop), Takes (X.tr pn xe) W → PassesOwn (model X.prog X.w) X.A X.env xe → PSs (X.tr pn xe) body (tb W))
    (hsu : ∀ (a : Addr) (oe : Obj) (cls : Value) (d : Option Addr) (pn : List (Addr × Obj)), Zc cls d oe → (∃ vs, oe.data = .fields vs) → PSs (X.suite a ((a, oe) :: pn)) (b₀ :: suite) (ts a cls d)) :
    PS X (.Try body [.ExceptHandler (some (.Name x np)) (some n) (b₀ :: suite) pos'] [] [] pos) (fun D σ H => tb (wHeld X.K c i ts Wout D) D σ H) := by
  refine ⟨fun pins s σ H D I h => ?_⟩
  have ok := I.ok
  have hfr : X.A.frames = some (X.env :: X.outer) := by rw [ok.frames, hs]
  have hloc : Loc X.env.scope n := .inl hln
  refine wpAny_Try_except ?_
  refine wpAny_mono ((hb (wHeld X.K c i ts Wout D) (X.pn ++ pins) (fun e s₁ => wpAny (model X.prog X.w) X.A (noteFrame e X.env) (fun _ s₂ => wpAny (model X.prog X.w) X.A (setFlight e none) (fun _ s₃ =>
    wpAny (model X.prog X.w) X.A (handleBy e X.env [.ExceptHandler (some (.Name x np)) (some n) (b₀ :: suite) pos']) (L2.SP X pins D) X.xe s₃) X.xe s₂) X.xe s₁) (fun u s' xx => ?_) PassesOwn.looking).run [] s σ H D (I.toTry _) h) (fun f s1 hsp => ?_) (fun e s1 he => he)
  · -- the catch
    obtain ⟨a, B, sI, pins', σ', H', cls, d, rfl, J', nb, up, sky, na, os, ag, b, hb1, hyes, hno⟩ := xx
    have J : L2.Inv X pins σ' H' sI := J'.ofTry ok
    have sky' : Sky B (X.env :: X.outer) a (Zc cls d) X.env.locals s'.heap := by rw [← hs]; exact sky
    show wpAny (model X.prog X.w) X.A (noteFrame (.ref a) X.env) _ _ _
    refine Sky.land Zc.steady hfr hf sky' fun h3 fl3 up3 => ?_
    have J3 : L2.Inv X pins σ' H' { s' with heap := h3 } := J.landed nb fl3.1 (up.trans up3) os ag
    obtain ⟨oe3, vs3, he3, hz3, hd3⟩ := fl3.there
    have notFr : ∀ {h : Heap} {o : Obj} {vs : Array Value}, h.FunFrames B (X.env :: X.outer) → h.get? a = some o → o.data = .fields vs → a ∉ frs (X.env :: X.outer) := fun {h o vs} ff e dd hm => by
      obtain ⟨_, o', e', hnf⟩ := ff.mem hm
      rw [e] at e'; cases e'
      exact hnf _ dd
    have nfr := notFr fl3.2.2.1 he3 hd3
    have nL : a ≠ X.env.locals := fun z => nfr (List.mem_filterMap.mpr ⟨X.env, List.mem_cons_self, by rw [hf, z]⟩)
    have nF : a ∉ X.fs := fun hm => by
      obtain ⟨e, he, q⟩ := List.mem_filterMap.mp hm
      exact nfr (List.mem_filterMap.mpr ⟨e, List.mem_cons_of_mem _ he, q⟩)
    have Bn : B.get? a = none := fl3.2.1
    have nst : a ∉ frs X.stack := by rw [hs]; exact nfr
    have h0 : X.s_0.heap.get? a = none := by
      cases e : X.s_0.heap.get? a with
      | none => rfl
      | some o =>
        obtain ⟨o', q⟩ := J.base.there a o e (by rw [hex]; exact fun z => nomatch z)
        have z := nb a o' q nst
        rw [Bn] at z
        cases z
    have nP : ∀ p ∈ X.pn ++ pins, p.1 ≠ a := fun p hp z => by
      obtain ⟨e, _, n1, n2, _⟩ := J.pin p hp
      have q := nb p.1 p.2 e (fun hm => by
        rcases List.mem_cons.mp (J.stkSub _ hm) with y | y
        · exact n1 y
        · exact n2 y)
      rw [z, Bn] at q
      cases q
    have S3 := J3.suite he3 hd3 na nL nF
    refine wpAny_handleBy_cons (codeAny_handlers_test ?_) (by intro q; cases q)
    have LT : PySem.W.Looks (model X.prog X.w) h3 (typeOf (.ref a)) cls := fun A Q E s k q => wpAny_typeOf_ref (k _ _ he3) (by rw [hz3.1]; exact q)
    have LM := PySem.W.exm_one (M := model X.prog X.w) (J3.kIn) LT hb1
    have test : ∀ {Q : Value → Shared → Prop} {E : Value → Shared → Prop}, Q c { s' with heap := h3 } → wpAny (model X.prog X.w) (X.A.mark (some (.ref a))) (eval (.Name x np) X.env) Q E { s' with heap := h3 } := fun {Q E} q => by
      obtain ⟨hg, hdbg, hm | ⟨hm, hv, hnn⟩⟩ := hc
      · exact ld_glob (X := X.suite a ((a, oe3) :: (X.pn ++ pins))) S3 hg hm q hdbg
      · exact ld_blt (X := X.suite a ((a, oe3) :: (X.pn ++ pins))) S3 hg hm hv q hnn hdbg
    refine test (LM.here ?_)
    cases b with
    | true =>
      refine codeAny_handlers_suite_as ?_
      refine HandSPX.lands_againZ fl3 fun h4 fl4 up4 => ?_
      have J4 : L2.Inv X pins σ' H' { s' with heap := h4 } := J.landed nb fl4.1 ((up.trans up3).trans up4) os ag
      obtain ⟨oe4, vs4, he4, hz4, hd4⟩ := fl4.there
      have S4 := J4.suite he4 hd4 na nL nF
      refine store_ok (X := X.suite a ((a, oe4) :: (X.pn ++ pins))) (v := .ref a) S4 hN hi hloc rfl (fun s5 S5 => ?_) (.inr hln)
      refine wpAny_mono ((hsu a oe4 cls d (X.pn ++ pins) hz4 ⟨_, hd4⟩).run [] s5 _ H' _ S5 (hyes rfl a na)) (fun f s6 hsp => ?_) (fun _ _ z => False.elim z)
      cases f with
      | next =>
        obtain ⟨σ6, H6, S6, q6⟩ := hsp
        obtain ⟨p1, p2, p3, p4, p5⟩ := S6.pin (a, oe4) (by simp)
        have J6 : L2.Inv X ((a, oe4) :: pins) σ6 H6 s6 := ⟨ok, S6.os, S6.bare, S6.base, S6.loc, S6.cell, S6.free, S6.freeC, fun p hp => S6.pin p (by
          have hp' : p ∈ X.pn ++ ((a, oe4) :: pins) := hp
          show p ∈ ((a, oe4) :: (X.pn ++ pins)) ++ []
          rw [List.append_nil]
          simp only [List.mem_append, List.mem_cons] at hp' ⊢
          rcases hp' with z | z | z
          · exact .inr (.inl z)
          · exact .inl z
          · exact .inr (.inr z)), S6.hok, S6.len⟩
        refine gone_ok J6 hN hi hln fun s7 J7 => ?_
        obtain ⟨r1, r2, r3, r4, r5⟩ := J7.pin (a, oe4) (by simp)
        have J7' : L2.Inv X pins (σ6.set i none) H6 s7 := J7.pins_of fun p hp => J7.pin p (List.mem_append_right _ (List.mem_cons_of_mem _ hp))
        refine ⟨_, _, track J7' r2 h0 nL (fun y c e z => ?_) nP (exV_ok r1 hz4 hd4), q6 r2⟩
        obtain ⟨v, o, ho, hv⟩ := J7'.cell y c e
        rw [z] at ho
        have q : s7.heap.get? a = some oe4 := r1
        rw [q] at ho
        cases ho
        rw [hd4] at hv
        cases hv
      | brk =>
        obtain ⟨σ6, H6, S6, q6⟩ := hsp
        exact q6.elim
      | cont =>
        obtain ⟨σ6, H6, S6, q6⟩ := hsp
        exact q6.elim
      | ret u =>
        obtain ⟨v6, σ6, H6, S6, r6, q6⟩ := hsp
        exact gone_ok (S6.unsuite ok) hN hi hln fun s7 J7 => ⟨_, _, _, J7, r6, q6⟩
    | false =>
      show wpAny _ X.A (handleBy (.ref a) X.env []) _ _ _
      refine wpAny_handleBy_nil ?_
      obtain ⟨k1, k2, k3, oe, vs, T, oT, ts', he, hz, hd, h1, hr⟩ := id fl3
      unfold PySem.passOn
      refine wpAny_bind (wpAny_field he hd h1 ?_)
      rw [if_neg (show ¬ ((Value.ref T == Value.none) = true) from by simp)]
      have fin : wpAny (model X.prog X.w) X.A (setFlight (.ref a) X.env.frame) (fun _ s4 => wpAny (model X.prog X.w) X.A (throw (.ref a) : Sem Flow) (L2.SP X pins D) X.xe s4) X.xe { s' with heap := h3 } := by
        rw [hf]
        refine HandSPX.setFlight_upZ fl3 fun h4 hh4 up4 => wpAny_throw (tk _ _ ?_)
        exact ⟨a, B, sI, pins, σ', H', cls, d, rfl, J, nb, (up.trans up3).trans up4, .inr (.inr (by rw [hs]; exact hh4)), na, os, ag, hno rfl⟩
      first
        | exact wpAny_bind (wpAny_pure (wpAny_bind fin))
        | exact wpAny_bind fin
  · cases f with
    | next =>
      obtain ⟨σ', H', J', q⟩ := hsp
      exact wpAny_execs_nil ⟨σ', H', J'.ofTry ok, q⟩
    | brk =>
      obtain ⟨σ', H', J', q⟩ := hsp
      exact ⟨σ', H', J'.ofTry ok, q⟩
    | cont =>
      obtain ⟨σ', H', J', q⟩ := hsp
      exact ⟨σ', H', J'.ofTry ok, q⟩
    | ret u =>
      obtain ⟨v, σ', H', J', r, q⟩ := hsp
      exact ⟨v, σ', H', J'.ofTry ok, r, q⟩
end
end ExK

namespace PySem.W
open PySem PySem.Spec PySem.Calls PyProof.Rows
section
variable {prog : Program} {w : World} {A : Around} {E : Value → Shared → Prop} {s : Shared} {K : Frag} {x D : Addr} {ox : Obj} {od : Option Obj}
theorem exk_data {C : Addr} {od : Option Obj} {name : Str} {a g : Value} (hc : (clsIn K C).isSome = true) (ha : findIn K (.ref C) name = some (some a)) (hg : specialIn K a "__get__" = some (some g)) (ht : takesIn K a = some true) : findObj K C od name = some (.bind g a) := by
  obtain ⟨cd, hc⟩ := Option.isSome_iff_exists.mp hc
  simp only [findObj, hc, ha, hg, ht, Option.bind_some]
theorem exk_class {Q : Option Value → Shared → Prop} (C : L2.ExcC K D) (X : K.In s.heap) (I : InstAt s.heap x ox D od) (h : Q (some (.ref D)) { s with toks := s.toks + 1 }) : wpAny (model prog w) A (getAttr? (.ref x) "__class__") Q E s := by
  have hcd : (clsIn K D).isSome = true := by obtain ⟨cd, hc, _⟩ := any_some C.hd; rw [hc]; rfl
  have hf : findObj K D od "__class__" = some (.bind (.builtin "getset_descriptor.__get__") (.builtin "object.__class__")) := exk_data hcd C.ha C.hn C.ht
  obtain ⟨hp, g, d, t, os⟩ := s
  have q0 := I.type (M := model prog w)
  have q1 := looks_findIn (M := model prog w) X C.hg
  have q2 := looks_findIn (M := model prog w) X C.hk
  have q3 := looks_find (M := model prog w) X I hf
  have sub : Looks (model prog w) hp (isInstance (.ref x) (.type "BaseException")) true := q0.andThen (looks_subIn X C.hs)
  have n2 : (Value.builtin "BaseException.__getattribute__" == Value.builtin "object.__getattribute__") = false := by decide +kernel
  unfold getAttr? getAttrBy? getAttrBy
  refine wpAny_bind (wpAny_mkText (wpAny_bind (wpAny_attempt (wpAny_holding (wpAny_bind (q0.at (wpAny_bind (q1.at ?_))))))))
  show wpAny _ _ (if (onTheHeap (Value.ref D) && Value.builtin "BaseException.__getattribute__" == Value.builtin "object.__getattribute__") = true then _ else _) _ _ _
  rw [n2, Bool.and_false, if_neg Bool.false_ne_true]
  unfold getAttrByItsOwn hookBefore
  refine wpAny_bind ?_
  rw [if_pos (show onTheHeap (Value.ref D) = true from rfl)]
  refine q2.at (wpAny_bind (wpAny_attempt (wpAny_holding ?_)))
  unfold callGetattribute
  rw [show (false && onTheHeap (Value.builtin "BaseException.__getattribute__")) = false from rfl, if_neg Bool.false_ne_true]
  unfold boundAndCalled
  rw [PySem.F.excAttr_ValueError.ga.bind (.ref x)]
  refine wpAny_bind (wpAny_pure ?_)
  show wpAny _ _ (call (.builtin "BaseException.__getattribute__") [.ref x, .str "__class__" t]) _ _ _
  refine wpAny_call (codeAny_call_builtin PySem.F.excAttr_ValueError.ga.plain PySem.F.entry_bexc_ga ?_)
  refine @check_slot (model prog w) _ _ ⟨hp, g, d, t + 1, os⟩ "BaseException.__getattribute__" "BaseException" "__getattribute__" (.ref x) [.str "__class__" t] [] _ (by decide +kernel) (by decide +kernel) sub (PySem.F.args_bexc_ga (.ref x) (.str "__class__" t)) ?_
  unfold Builtin.«object.__getattribute__»
  refine wpAny_bind (wpAny_of_eq (a := ((Value.ref x : Value), [Value.str "__class__" t])) (by first | rfl | (simp only [slotArgs]; rfl)) ?_)
  refine wpAny_bind (wpAny_pure (wpAny_bind (q0.at (wpAny_bind (q3.at ?_)))))
  show wpAny _ _ (holding [Value.builtin "object.__class__"] (call (.builtin "getset_descriptor.__get__") [.builtin "object.__class__", .ref x, .ref D]) >>= ret) _ _ _
  refine wpAny_bind (wpAny_holding (wpAny_call (class_get (s := ⟨hp, g, d, t + 1, os⟩) (ox := ox) (od := od) X I C.hm (wpAny_pure ?_))))
  show wpAny _ _ (handedOut (.ref D)) _ _ _
  rw [handedOut_of (v := .ref D) rfl]
  first
    | exact wpAny_pure (wpAny_pure h)
    | exact wpAny_pure h
    | exact wpAny_pure (wpAny_bind (wpAny_pure (wpAny_pure h)))
theorem exk_kit (C : L2.ExcC K D) : KitX K (.ref x) (.ref D) (fun h => ∃ ox od, InstAt h x ox D od) where
  ty := fun _ _ _ ⟨_, _, I⟩ => I.type
  it := fun _ _ X _ => by
    obtain ⟨cdD, hcD, _⟩ := any_some C.hd
    unfold clsIn at hcD
    split at hcD
    · rename_i c' d' cd' sl' ho
      intro A' Q' E' s' k q
      unfold isType loadHead
      exact wpAny_bind (wpAny_loadPart (k _ _ (X _ _ ho)) (wpAny_pure q))
    · cases hcD
  ne := fun h tp dd its n sl X htp => by
    obtain ⟨cdD, hcD, _⟩ := any_some C.hd
    refine Bool.eq_false_iff.mpr fun q => ?_
    have e : D = tp := Value.ref.inj (beq_iff_eq.mp q)
    subst e
    unfold clsIn at hcD
    split at hcD
    · rename_i c' d' cd' sl' ho
      have z := (X _ _ ho).symm.trans htp
      cases z
    · cases hcD
  ca := fun X ⟨_, _, I⟩ k => exk_class C X I k
end
end PySem.W
namespace ExK
open PySem PySem.Spec PySem.W PySem.Calls PyProof.Rows PySem.HandSPX L2
section
variable {X : Cx}
theorem exV_inst {pins : List (Addr × Obj)} {σ : L2.St} {H : Hp} {s : Shared} {a C dd : Addr} {fs : List (Str × V)} (I : L2.Inv X pins σ H s) (ha : H a = some (ExV a (.ref C) (some dd))) (hd : H dd = some (.xd fs)) :
    ∃ (oe od : Obj) (mA : Str → Option Value), InstAt s.heap a oe C (some od) ∧ s.heap.Ns1 dd mA ∧ (∀ f, L2.RelO (fs.lookup f) (mA f)) ∧ (∀ y, lookIn y od = some (mA y)) := by
  obtain ⟨oe, vs, e, z, hv⟩ := exV_at I.hok ha
  obtain ⟨mA, hns, hr⟩ := (show ObjOk X.prog X.w H s.heap dd (.xd fs) from I.hok dd _ hd)
  obtain ⟨od, ho, hl⟩ := lookIn_ns hns
  exact ⟨oe, od, mA, ⟨e, z.1, by unfold PySem.W.notCls; rw [hv] <;> rfl, by rw [z.2]; exact ho⟩, hns, hr, hl⟩
/-- isinstance(e, c), e a caught exception that is tracked -/
def rIsV (K : Frag) : List V → Hp → VK → Prop := fun xs H Q => ∃ (a C dd : Addr) (fs : List (Str × V)) (c : V) (cv : Value) (b : Bool), xs = [.ref a, c] ∧ H a = some (ExV a (.ref C) (some dd)) ∧ H dd = some (.xd fs) ∧ ExcC K C ∧ ClsV c cv ∧ kitOne K (.ref C) cv = some b ∧ Q (.bl b) H
theorem call_isV : CallR X (.builtin "isinstance") (rIsV X.K) := by
  intro pins s σ H xs us Q I r h
  obtain ⟨a, C, dd, fs, c, cv, b, rfl, ha, hd, hC, hc, e, q⟩ := h
  obtain ⟨u1, u2, rfl, r1, r2⟩ := vals2 r
  obtain rfl : u1 = Value.ref a := r1
  have ec := hc.eq r2
  subst ec
  obtain ⟨oe, od, mA, J, _⟩ := exV_inst I ha hd
  exact kia_one (exk_kit hC) I.kIn ⟨oe, _, J⟩ e (fun z => nomatch z) fun tk => ⟨.bl b, H, I.tok tk, rfl, q⟩
def rIsVT (K : Frag) : List V → Hp → VK → Prop := fun xs H Q => ∃ (a C dd tp : Addr) (fs : List (Str × V)) (cs : List V) (us : List Value) (b : Bool), xs = [.ref a, .ref tp] ∧ H a = some (ExV a (.ref C) (some dd)) ∧ H dd = some (.xd fs) ∧ H tp = some (.tup cs) ∧ ExcC K C ∧ Paired ClsV cs us ∧ kitAny K (.ref C) us = some b ∧ Q (.bl b) H
theorem call_isVT : CallR X (.builtin "isinstance") (rIsVT X.K) := by
  intro pins s σ H xs us Q I r h
  obtain ⟨a, C, dd, tp, fs, cs, ws, b, rfl, ha, hd, hT, hC, hc, e, q⟩ := h
  obtain ⟨u1, u2, rfl, r1, r2⟩ := vals2 r
  obtain rfl : u1 = Value.ref a := r1
  obtain rfl : u2 = Value.ref tp := r2
  obtain ⟨oe, od, mA, J, _⟩ := exV_inst I ha hd
  obtain ⟨_, its, rv, o, h1, h2, n, h3⟩ := (show ObjOk X.prog X.w H s.heap tp (.tup cs) from I.hok tp _ hT)
  have e3 := ClsV.all hc rv
  subst e3
  obtain ⟨oc, odd, dt, sl⟩ := o
  simp only at h2 h3
  subst h2 h3
  exact kia_tup (exk_kit hC) I.kIn ⟨oe, _, J⟩ h1 e (fun z => nomatch z) fun tk => ⟨.bl b, H, I.tok tk, rfl, q⟩
/-- e.f, e a caught exception that is tracked -/
def tXv (K : Frag) (f : Str) (te : TE) : TE := fun σ H Q => te σ H fun x H1 => ∃ (a C dd : Addr) (fs : List (Str × V)) (v : V), x = .ref a ∧ H1 a = some (ExV a (.ref C) (some dd)) ∧ H1 dd = some (.xd fs) ∧ XfC K C ∧ findIn K (.ref C) f = some none ∧ fs.lookup f = some v ∧ Q v H1
theorem pe_xv {e : Expr} {te : TE} {pos : Pos} {n : Str} (he : PE X e te) (hb : attributeBase e n X.env (eval e X.env) = eval e X.env := by rfl) : PE X (.Attribute e n pos) (tXv X.K n te) := by
  refine ⟨fun pins s σ H Q I h => ?_⟩
  refine attr_of hb (thn (he.run pins s σ H _ I h) fun u s1 hh => ?_)
  obtain ⟨x, H1, I1, rx, a, C, dd, fs, v, rfl, ha, hd, T, hno, l, q⟩ := hh
  obtain rfl : u = Value.ref a := rx
  obtain ⟨oe, od, mA, J, _, hr, hl⟩ := exV_inst I1 ha hd
  obtain ⟨u, hu, ru⟩ := L2.RelO.some_of (v := v) (o := mA n) (by rw [← l]; exact hr n)
  exact HandSPX.exc_get I1.kIn J T.ga T.gg T.exC (findObj_own T.hdC hno rfl (by rw [hl, hu])) (handed_of ru) ⟨v, H1, I1.tok _, ru, q⟩
end
end ExK

/-! A lambda with one parameter that has a default, handed to a def that calls it with nothing. Turned from HandS.Lambda's proofs (there: no defaults, no own names). -/
namespace ExK
open PySem PySem.Spec PyProof.Rows L2 LamX
abbrev ldFn (name qual : Str) (params : Arguments) (body : Expr) (scope : Scope) (cl : List (Str × Addr)) (pm cdv ct dV : Value) : FuncData :=
  { name, qualname := qual, params, body := .expr body, scope, globals := mainGlobals, closure := cl, defaults := dV, kwdefaults := .none, doc := .none, pyModule := pm, annotations := none, code := cdv, closureTuple := ct, builtins := builtinsNs }
abbrev ldObj (name qual : Str) (params : Arguments) (body : Expr) (scope : Scope) (clos : List (Str × Addr)) (pm cv ctv dV : Value) : Obj :=
  { cls := .type "function", data := .func (ldFn name qual params body scope clos pm cv ctv dV) }
abbrev tupObj (u : Value) : Obj := { cls := .type "tuple", data := .seq #[u] }
section
variable {M : Model} {A : Around} {E : Value → Shared → Prop} {s : Shared} {name qual : Str} {params : Arguments} {body : Expr} {scope : Scope} {env : Env} {c P : Addr} {ps : Array Value} {pos : Pos} {firstLine : Nat} {mg : Str → Option Value}
  {clos : List (Str × Addr)} {Q : Value → Shared → Prop} {dV : Value}
theorem ld_tail (hcl : closureFor scope env = pure clos) (hge0 : env.globals = mainGlobals) (hg : s.heap.Ns mainGlobals mg) (hcode : env.code = .ref c) (C : PySem.W.CodeHd s.heap c P) (hP : s.heap.get? P = some (PySem.W.tabObj ps)) (ht : TriplesOk ps.toList)
    (hnf : codeAmong pos ps.toList = none) (hgP : mainGlobals ≠ P) (hb : s.heap.BuiltinsAt mg P)
    (h : ∀ c' ctv h' tk, Heap.ExtBut P s.heap h' → s.heap.objs.size ≤ c' → c' < h'.objs.size → h'.CodeRec (.ref c') qual → h'.get? P = some (PySem.W.tabObj (ps ++ #[rawInt pos.line, rawInt pos.col, .ref c'])) →
      Q (.ref h'.objs.size) { s with heap := h'.push (ldObj name qual params body scope clos ((mg "__name__").getD .none) (.ref c') ctv dV), toks := tk }) :
    wpAny M A (makeTail name qual params (.expr body) scope env dV .none none pos firstLine) Q E s := by
  obtain ⟨bm, ob, hbm, hne0, _, hneP, hbo, hcls, hdict, hdata⟩ := hb
  unfold makeTail
  rw [hcl, hge0]
  refine wpAny_bind (wpAny_pure ?_)
  cases clos with
  | nil =>
    simp only [List.isEmpty_nil, if_true]
    refine wpAny_bind (wpAny_pure ?_)
    refine wpAny_bind (wpAny_functionCodeX hcode (C.code hP ht) (C.tab hP) hnf fun c' h' tk hx hge hlt _ hrec htb _ => ?_)
    have hg' := hg.extBut hx hgP
    refine wpAny_bind (wpAny_builtinsFor hg' hbm hne0 (hx _ _ hneP hbo) hcls hdict hdata ?_)
    refine wpAny_bind (wpAny_nsGet hg' ?_)
    exact wpAny_bind (wpAny_pure (wpAny_newObj_type (h c' .none h' tk hx hge hlt hrec htb.2) (by size_fits)))
  | cons q r =>
    simp only [List.isEmpty_cons, Bool.false_eq_true, if_false]
    refine wpAny_bind (wpAny_newTextTuple ?_)
    refine wpAny_bind (wpAny_functionCodeX hcode ((C.keeps fun b o e => Heap.get?_push_of_some _ e).code (Heap.get?_push_of_some _ hP) ht) ((C.keeps fun b o e => Heap.get?_push_of_some _ e).tab (Heap.get?_push_of_some _ hP)) hnf fun c' h' tk hx hge hlt _ hrec htb _ => ?_)
    have hg' := (hg.push _).extBut hx hgP
    have hx' : Heap.ExtBut P s.heap h' := fun b o hb' e => hx b o hb' (Heap.get?_push_of_some _ e)
    have hge' : s.heap.objs.size ≤ c' := Nat.le_trans (by rw [Heap.size_push]; omega) hge
    refine wpAny_bind (wpAny_builtinsFor hg' hbm hne0 (hx' _ _ hneP hbo) hcls hdict hdata ?_)
    refine wpAny_bind (wpAny_nsGet hg' ?_)
    exact wpAny_bind (wpAny_pure (wpAny_newObj_type (h c' _ h' tk hx' hge' hlt hrec htb.2) (by size_fits)))
theorem ld_tailHit {cv : Value} (hcl : closureFor scope env = pure clos) (hge0 : env.globals = mainGlobals) (hg : s.heap.Ns mainGlobals mg) (hcode : env.code = .ref c) (C : PySem.W.CodeHd s.heap c P) (hP : s.heap.get? P = some (PySem.W.tabObj ps)) (ht : TriplesOk ps.toList)
    (hf : codeAmong pos ps.toList = some cv) (hb : s.heap.BuiltinsAt mg P)
    (h : ∀ (ctv : Value) (h' : Heap) (tk : Tok), (∀ b o, s.heap.get? b = some o → h'.get? b = some o) → s.heap.objs.size ≤ h'.objs.size →
      Q (.ref h'.objs.size) { s with heap := h'.push (ldObj name qual params body scope clos ((mg "__name__").getD .none) cv ctv dV), toks := tk }) :
    wpAny M A (makeTail name qual params (.expr body) scope env dV .none none pos firstLine) Q E s := by
  obtain ⟨bm, ob, hbm, hne0, _, hneP, hbo, hcls, hdict, hdata⟩ := hb
  unfold makeTail
  rw [hcl, hge0]
  refine wpAny_bind (wpAny_pure ?_)
  cases clos with
  | nil =>
    simp only [List.isEmpty_nil, if_true]
    refine wpAny_bind (wpAny_pure ?_)
    refine wpAny_bind (wpAny_functionCode_hit hcode (C.code hP ht) hf ?_)
    refine wpAny_bind (wpAny_builtinsFor hg hbm hne0 hbo hcls hdict hdata ?_)
    refine wpAny_bind (wpAny_nsGet hg ?_)
    exact wpAny_bind (wpAny_pure (wpAny_newObj_type (h .none s.heap s.toks (fun _ _ e => e) (Nat.le_refl _)) (by size_fits)))
  | cons q r =>
    simp only [List.isEmpty_cons, Bool.false_eq_true, if_false]
    refine wpAny_bind (wpAny_newTextTuple ?_)
    refine wpAny_bind (wpAny_functionCode_hit hcode ((C.keeps fun b o e => Heap.get?_push_of_some _ e).code (Heap.get?_push_of_some _ hP) ht) hf ?_)
    refine wpAny_bind (wpAny_builtinsFor (hg.push _) hbm hne0 (Heap.get?_push_of_some _ hbo) hcls hdict hdata ?_)
    refine wpAny_bind (wpAny_nsGet (hg.push _) ?_)
    have hsz : ∀ oT : Obj, s.heap.objs.size ≤ (s.heap.push oT).objs.size := fun oT => by rw [Heap.size_push]; omega
    exact wpAny_bind (wpAny_pure (wpAny_newObj_type (h _ _ s.toks (fun b o e => Heap.get?_push_of_some _ e) (hsz _)) (by size_fits)))
end
section
variable {X : Cx} {pins : List (Addr × Obj)} {σ : L2.St} {H HZ : Hp} {s s1 : Shared}
theorem lamD_tail {T : List (Addr × Str)} {c P : Addr} {params : Arguments} {body : Expr} {scope : Scope} {pos : Pos} {E : Value → Shared → Prop} {Q : Value → Shared → Prop} {dV : Value} (I : Inv X pins σ H s) (TB : TabB X.base X.mg c P) (hcode : X.env.code = .ref c)
    (hm : (P, X.env.qual ++ "<lambda>") ∈ T) (hu : ∀ p ∈ T, p.1 = P → p.2 = X.env.qual ++ "<lambda>") (hT : Tabs T H) (hfree : ∀ y ∈ scope.names, y.2 = .free → ∃ c, X.env.cells.lookup y.1 = some c)
    (h : ∀ (f c' : Addr) (pm ctv : Value) (H1 : Hp) (s' : Shared), Inv X pins σ H1 s' → ExtN H H1 → Tabs T H1 → (∀ b o, b ≠ P → s.heap.get? b = some o → s'.heap.get? b = some o) →
      s'.heap.get? f = some (ldObj "<lambda>" (X.env.qual ++ "<lambda>") params body scope (cloFrom X.env.cells scope.names []) pm (.ref c') ctv dV) → H1 f = none → f ∉ frs X.stack → H1 c' = some (CodeO c' (X.env.qual ++ "<lambda>")) →
      (∀ b o, s.heap.get? b = some o → H b = none → H1 b = none) → Q (.ref f) s') :
    wpAny (model X.prog X.w) X.A (makeTail "<lambda>" (X.env.qual ++ "<lambda>") params (.expr body) scope X.env dV .none none pos pos.line) Q E s := by
  obtain ⟨ps, hP, ht, ha⟩ := hT _ hm
  have bP : s.heap.BuiltinsAt X.mg P := TB.bm.keeps I.bk
  have hP' : s.heap.get? P = some { cls := .none, data := .fields ps } := I.hok P _ hP
  have nofr : ∀ f, s.heap.objs.size ≤ f → f ∉ frs X.stack := fun f hf z => by
    rcases List.mem_cons.mp (I.stkSub _ z) with e | e
    · have h1 := I.lt
      rw [← e] at h1
      exact Nat.lt_irrefl _ (Nat.lt_of_lt_of_le h1 hf)
    · exact I.nofs hf e
  cases hc : codeAmong pos ps.toList with
  | none =>
    refine ld_tail (mg := X.mg) (c := c) (P := P) (ps := ps) (closure_ok hfree) I.ok.glob (I.mod.glob.keeps I.bk) hcode (TB.code.keeps I.bk) hP' ht hc TB.gP bP fun c' ctv h' tk hx hge hlt hrec htb => ?_
    obtain ⟨c2, oc, vs, t, e2, hoc, hd, hv⟩ := hrec
    cases e2
    have hsz : s.heap.objs.size ≤ h'.objs.size := Nat.le_trans hge (Nat.le_of_lt hlt)
    have nC : H c' = none := I.hok.fresh hge
    have I1 := inv_table (t' := tk) (more := #[rawInt pos.line, rawInt pos.col, .ref c']) (h' := h'.push (ldObj "<lambda>" (X.env.qual ++ "<lambda>") params body scope (cloFrom X.env.cells scope.names []) ((X.mg "__name__").getD .none) (.ref c') ctv dV)) I hP
      (fun b o hb e => Heap.get?_push_of_some _ (hx b o hb e)) (Heap.get?_push_of_some _ htb) hge ⟨oc, vs, t, Heap.get?_push_of_some _ hoc, hd, hv⟩
    have hE : ExtN H (upd (upd H P (.tbl (ps ++ #[rawInt pos.line, rawInt pos.col, .ref c']))) c' (CodeO c' (X.env.qual ++ "<lambda>"))) := fun b o e n => by
      rw [upd_ne (ne_of_none e nC), upd_ne (fun z => n ps (Option.some.inj (e.symm.trans (by rw [z]; exact hP))))]
      exact e
    have eL : (ps ++ #[rawInt pos.line, rawInt pos.col, .ref c']).toList = ps.toList ++ [rawInt pos.line, rawInt pos.col, .ref c'] := by simp
    refine h h'.objs.size c' ((X.mg "__name__").getD .none) ctv _ _ I1 hE (fun p hp => ?_) (fun b o hb e => Heap.get?_push_of_some _ (hx b o hb e)) (Heap.get?_push_size _ rfl) ?_ (nofr _ hsz) upd_same (fun b o e hn => ?_)
    · by_cases hb : p.1 = P
      · rw [hu p hp hb, hb]
        refine ⟨_, by rw [upd_ne (ne_of_none hP nC), upd_same], by rw [eL]; exact PySem.TriplesOk_snoc _ _ _ _ ht, fun p' cv hcv => ?_⟩
        rw [eL] at hcv
        rcases among_app _ ht hcv with z | z
        · obtain ⟨c0, e1, e2⟩ := ha p' cv z
          exact ⟨c0, e1, hE _ _ e2 codeO_ne⟩
        · exact ⟨c', z, upd_same⟩
      · obtain ⟨ps', a1, a2, a3⟩ := hT p hp
        refine ⟨ps', by rw [upd_ne (ne_of_none a1 nC), upd_ne hb]; exact a1, a2, fun p' cv hcv => ?_⟩
        obtain ⟨c0, e1, e2⟩ := a3 p' cv hcv
        exact ⟨c0, e1, hE _ _ e2 codeO_ne⟩
    · have n1 : h'.objs.size ≠ c' := Nat.ne_of_gt hlt
      have n2 : h'.objs.size ≠ P := Nat.ne_of_gt (Nat.lt_of_lt_of_le (Heap.lt_size hP') hsz)
      rw [upd_ne n1, upd_ne n2]
      exact I.hok.fresh hsz
    · have n1 : b ≠ c' := fun z => Nat.lt_irrefl _ (Nat.lt_of_lt_of_le (Heap.lt_size (z ▸ e)) hge)
      have n2 : b ≠ P := fun z => by rw [z, hP] at hn; cases hn
      rw [upd_ne n1, upd_ne n2]
      exact hn
  | some cv =>
    obtain ⟨c', e, hco⟩ := ha pos cv hc
    subst e
    refine ld_tailHit (mg := X.mg) (c := c) (P := P) (ps := ps) (closure_ok hfree) I.ok.glob (I.mod.glob.keeps I.bk) hcode (TB.code.keeps I.bk) hP' ht hc bP fun ctv h' tk hx hsz => ?_
    have I1 : Inv X pins σ H { s with heap := h'.push (ldObj "<lambda>" (X.env.qual ++ "<lambda>") params body scope (cloFrom X.env.cells scope.names []) ((X.mg "__name__").getD .none) (.ref c') ctv dV), toks := tk } := I.kept fun b o e => Heap.get?_push_of_some _ (hx b o e)
    exact h h'.objs.size c' ((X.mg "__name__").getD .none) ctv H _ I1 (ExtN.refl H) hT (fun b o _ e => Heap.get?_push_of_some _ (hx b o e)) (Heap.get?_push_size _ rfl) (I.hok.fresh hsz) (nofr _ hsz) hco fun _ _ _ hn => hn
theorem lam_makeD {T : List (Addr × Str)} {c P : Addr} {params : Arguments} {body d : Expr} {scope : Scope} {pos : Pos} {Q : Value → Shared → Prop} {v : V} (I : Inv X pins σ H s) (TB : TabB X.base X.mg c P) (hcode : X.env.code = .ref c)
    (hm : (P, X.env.qual ++ "<lambda>") ∈ T) (hu : ∀ p ∈ T, p.1 = P → p.2 = X.env.qual ++ "<lambda>") (hT : Tabs T H) (hdef : defaultsOf params X.env = ([eval d X.env], [])) (hd : PE X d (tC v)) (hkw : (params.kwonlyargs.zip ([] : List (Option Value))).filterMap (fun (a, d) => d.map (a.arg, ·)) = [])
    (hfree : ∀ y ∈ scope.names, y.2 = .free → ∃ c, X.env.cells.lookup y.1 = some c)
    (h : ∀ (f c' TA : Addr) (pm ctv u : Value) (H1 : Hp) (s' : Shared), Inv X pins σ H1 s' → ExtN H H1 → Tabs T H1 →
      s'.heap.get? f = some (ldObj "<lambda>" (X.env.qual ++ "<lambda>") params body scope (cloFrom X.env.cells scope.names []) pm (.ref c') ctv (.ref TA)) → H1 f = none → f ∉ frs X.stack → H1 c' = some (CodeO c' (X.env.qual ++ "<lambda>")) →
      s'.heap.get? TA = some (tupObj u) → H1 TA = none → TA ∉ frs X.stack → RelV v u → Q (.ref f) s') :
    wpAny (model X.prog X.w) X.A (eval (.Lambda params body scope pos) X.env) Q X.xe s := by
  rw [arm_eval_Lambda, hdef]
  show wpAny (model X.prog X.w) X.A (do let dv ← (do let v ← eval d X.env; return v :: (← holding [v] (evalAll []))); let kdv ← holding dv (evalAllOpt []); makeFunction "<lambda>" (X.env.qual ++ "<lambda>") params (.expr body) scope X.env dv kdv [] pos pos.line) Q _ s
  refine wpAny_bind (wpAny_bind (thn (hd.run pins s σ H (fun x H' => x = v ∧ H' = H) I ⟨rfl, rfl⟩) fun u s1 hh => ?_))
  obtain ⟨x, H', I1, rx, ex, eH⟩ := hh
  rw [eH] at I1
  rw [ex] at rx
  refine wpAny_bind (wpAny_holding (wpAny_pure (wpAny_pure (wpAny_bind (wpAny_holding (wpAny_pure ?_))))))
  rw [makeFunction_eq, hkw]
  simp only [List.isEmpty_cons, List.isEmpty_nil, Bool.false_eq_true, if_false, if_true]
  refine wpAny_bind (wpAny_newTextTuple ?_)
  refine wpAny_bind (wpAny_pure (wpAny_bind (wpAny_pure ?_)))
  have I2 : Inv X pins σ H { s1 with heap := s1.heap.push (tupObj u) } := I1.kept (t' := s1.toks) fun b o e => Heap.get?_push_of_some _ e
  have hTA : (s1.heap.push (tupObj u)).get? s1.heap.objs.size = some (tupObj u) := Heap.get?_push_size _ rfl
  have nTA : H s1.heap.objs.size = none := I1.hok.fresh (Nat.le_refl _)
  have nP : s1.heap.objs.size ≠ P := fun z => by
    obtain ⟨ps, hP, _⟩ := hT _ hm
    rw [z, hP] at nTA
    cases nTA
  refine lamD_tail I2 TB hcode hm hu hT hfree fun f c' pm ctv H1 s' J eN T1 kp hf hfn hfr hco hn => ?_
  refine h f c' s1.heap.objs.size pm ctv u H1 s' J eN T1 hf hfn hfr hco (kp _ _ nP hTA) (hn _ _ hTA nTA) (fun z => ?_) rx
  rcases List.mem_cons.mp (I1.stkSub _ z) with e | e
  · have h1 := I1.lt
    rw [← e] at h1
    exact Nat.lt_irrefl _ h1
  · exact I1.nofs (Nat.le_refl _) e
end
end ExK

namespace ExK
open PySem PySem.Spec PyProof.Rows L2 LamX
/-- one parameter ar with a default, captured names and globals -/
structure LamD (sc scope : Scope) (ar : Str) : Prop where
  kind : scope.kind = .function
  co : scope.isCoroutine = false
  gen : scope.isGenerator = false
  cel : ∀ y ∈ scope.names, y.2 ≠ .cell
  own : ∀ y ∈ scope.names, y.2 = .local → y.1 = ar
  arl : scope.names.lookup ar = some .local
  free : ∀ y ∈ scope.names, y.2 = .free → sc.names.lookup y.1 = some .cell ∨ sc.names.lookup y.1 = some .free
def lamDB (sc scope : Scope) (ar : Str) : Bool :=
  decide (scope.kind = .function) && (!scope.isCoroutine && (!scope.isGenerator && (decide (scope.names.lookup ar = some .local) && scope.names.all fun y => !decide (y.2 = .cell) && ((!decide (y.2 = .local) || decide (y.1 = ar)) && (!decide (y.2 = .free) || (decide (sc.names.lookup y.1 = some .cell) || decide (sc.names.lookup y.1 = some .free)))))))
theorem lamD_by {sc scope : Scope} {ar : Str} (h : lamDB sc scope ar = true) : LamD sc scope ar := by
  unfold lamDB at h
  simp only [Bool.and_eq_true, Bool.or_eq_true, Bool.not_eq_true', decide_eq_true_eq, decide_eq_false_iff_not, List.all_eq_true] at h
  obtain ⟨h1, h2, h3, h5, h4⟩ := h
  refine ⟨h1, h2, h3, fun y hy => (h4 y hy).1, fun y hy e => ?_, h5, fun y hy e => ?_⟩
  · rcases (h4 y hy).2.1 with z | z
    · exact absurd e z
    · exact z
  · rcases (h4 y hy).2.2 with z | z
    · exact absurd e z
    · exact z
theorem LamD.has {X : Cx} {scope : Scope} {ar : Str} (L : LamD X.env.scope scope ar) (ok : X.Ok) : ∀ y ∈ scope.names, y.2 = .free → ∃ c, X.env.cells.lookup y.1 = some c := fun y hy e => by
  rcases L.free y hy e with k | k
  · exact ok.has _ (.inl k)
  · exact ok.has _ (.inr k)
section
variable {X : Cx} {pins : List (Addr × Obj)} {σ : L2.St} {H HZ : Hp} {s s1 : Shared}
theorem lam_startD {A : Around} {outer : List Env} {E : XK} {scope : Scope} {f c' : Addr} {h₁ : Heap} {tk : Nat} {ar : Str} {m0 : Str → Option Value} (I : Inv X pins σ H s) (L : LamD X.env.scope scope ar) (hnN : ∀ i : Nat, X.N[i]? ≠ some ar) (e0 : Env0 X.prog X.w X.K X.mg X.base A outer s1 HZ) (hd : A.handled = none)
    (un : Un (frs X.stack) [] H HZ s.heap s1.heap) (hns : h₁.Ns s1.heap.objs.size m0) (kp : ∀ b o, s1.heap.get? b = some o → h₁.get? b = some o) :
    Inv (lamCx X A outer s1 HZ E scope f c') [] σ HZ { s1 with heap := h₁, toks := tk } := by
  have hfree := L.has I.ok
  have cm : ∀ {y c}, (cloFrom X.env.cells scope.names []).lookup y = some c → X.env.cells.lookup y = some c := fun {y c} e => by
    rcases cloFrom_mem (PySem.mem_of_lookup e) with hm | ⟨h1, h2⟩
    · cases hm
    · obtain ⟨c1, hc⟩ := hfree _ h1 rfl
      have hc : X.env.cells.lookup y = some c1 := hc
      have e2 : c = c1 := by
        rw [h2, hc] <;> rfl
      rw [e2]
      exact hc
  have look : ∀ {y}, scope.names.lookup y = some .free → ∃ c, (cloFrom X.env.cells scope.names []).lookup y = some c := fun {y} hl => by
    have hy : (y, NameKind.free) ∈ scope.names := PySem.mem_of_lookup hl
    exact mem_lookup (cloFrom_has (cells := X.env.cells) (acc := []) hy)
  have cellK : ∀ {c : Addr} {v : Option Value}, H c = none → s.heap.IsCell c v → h₁.IsCell c v := fun {c v} n ⟨o, ho, hd⟩ => by
    obtain ⟨sl, q⟩ := un.any ho n (by simp)
    exact ⟨_, kp _ _ q, hd⟩
  have noA : ∀ b : Addr, b ∉ (lamCx X A outer s1 HZ E scope f c').ex := fun b z => absurd (show b ∈ ([] : List Addr) from z) (by simp)
  refine ⟨⟨e0.mod, L.kind, rfl, rfl, Nat.le_refl _, fun y z c e1 e2 => I.ok.inj y z c (cm e1) (cm e2), fun y hy => ?_, fun y c z _ => ?_, fun _ => hd, Around.frames_deeper e0.frames, .inr ⟨rfl, rfl⟩, fun b z => absurd z (noA b), e0.bs, e0.bsz, fun b _ _ => noA b,
      fun b z => absurd z (noA b), e0.funs, e0.frf⟩,
    rfl, e0.bare, Un.kept kp, ⟨_, hns, fun i y v e1 e2 e3 => ?_⟩, fun y c e => ?_, e0.hok.fresh (Nat.le_refl _), fun y c e => ?_, fun q hq => absurd (show q ∈ ([] : List (Addr × Obj)) ++ [] from hq) (by simp), e0.hok.kept kp, I.len⟩
  · have hy : scope.names.lookup y = some .cell ∨ scope.names.lookup y = some .free := hy
    rcases hy with hy | hy
    · exact absurd rfl (L.cel _ (PySem.mem_of_lookup hy))
    · exact look hy
  · have z : false = true := z
    cases z
  · have e3 : Vis scope y := e3
    rcases e3 with k | k | k
    · have e4 := L.own _ (PySem.mem_of_lookup k) rfl
      have e4 : y = ar := e4
      have e1 : X.N[i]? = some y := e1
      rw [e4] at e1
      exact absurd e1 (hnN i)
    · exact absurd rfl (L.cel _ (PySem.mem_of_lookup k))
    · obtain ⟨m, hn, hl⟩ := I.loc
      have hvis : Vis X.env.scope y := (L.free _ (PySem.mem_of_lookup k) rfl).elim (fun k => .inr (.inl k)) (fun k => .inr (.inr k))
      obtain ⟨w', r, q⟩ := hl i y v e1 e2 hvis
      obtain ⟨c2, h2⟩ := look k
      refine ⟨w', r, .inr ⟨.inr k, c2, h2, ?_⟩⟩
      have c1 := cm h2
      rcases q with ⟨k', _⟩ | ⟨_, c3, e', z⟩
      · have k' : X.env.scope.names.lookup y = some .local := k'
        rcases L.free _ (PySem.mem_of_lookup k) rfl with k2 | k2 <;> rw [show X.env.scope.names.lookup y = _ from k2] at k' <;> cases k'
      · rw [c1] at e'
        cases e'
        exact cellK (I.freeC y _ c1) z
  · obtain ⟨w', z⟩ := I.cell y c (cm e)
    exact ⟨w', cellK (I.freeC y c (cm e)) z⟩
  · obtain ⟨v, o, ho, hd⟩ := I.cell y c (cm e)
    exact un.free c o ho (I.freeC y c (cm e)) (by simp)
theorem pe_actD {CXg : CXT} {Eg : XK} {Ng : List Str} {qg : Str} {sg : Scope} {g f c' TA : Addr} {cdg pm ctv u0 : Value} {params : Arguments} {body : Expr} {scope : Scope} {k i : Nat} {a ar : Str} {pn : List (Addr × Obj)} {xe : Value → Shared → Prop} {W : WX} {E : XK} {tb : TE} {p1 p2 : Pos}
    (I : Inv X pins σ H s) (L : LamD X.env.scope scope ar) (hnN : ∀ i : Nat, X.N[i]? ≠ some ar) (hf : s.heap.get? f = some (ldObj "<lambda>" (X.env.qual ++ "<lambda>") params body scope (cloFrom X.env.cells scope.names []) pm (.ref c') ctv (.ref TA))) (hfn : H f = none) (hfr : f ∉ frs X.stack)
    (hT : s.heap.get? TA = some (tupObj u0)) (hTn : H TA = none) (hTr : TA ∉ frs X.stack)
    (hbind : ∃ kk, bindArgs (ldFn "<lambda>" (X.env.qual ++ "<lambda>") params body scope (cloFrom X.env.cells scope.names []) pm (.ref c') ctv (.ref TA)) ⟨[], []⟩ = seqItems? (.ref TA) >>= kk ∧ kk (some #[u0]) = pure [(ar, u0)])
    (tk : Takes ((cxOf CXg X.prog X.w X.K X.mg X.base Ng qg sg g cdg X.A X.stack s H Eg).tr pn xe) W) (hW : ∀ cls d σ' H', E cls d H' → W cls d σ' H') (hr : Room (k + 1) (X.A.deeper (envOfC qg sg s.heap.objs.size g cdg)))
    (hbody : ∀ (A : Around) (outer : List Env) (s : Shared) (H : Hp), Room k (A.deeper (lamEnv X scope s.heap.objs.size f c')) → PE (lamCx X A outer s H E scope f c') body tb)
    (hN : Ng[i]? = some a) (hv : Vis sg a) (hd : (a == ("__debug__" : Str)) = false := by decide) (hcd : (a == ("__classdict__" : Str)) = false := by decide) :
    PE ((cxOf CXg X.prog X.w X.K X.mg X.base Ng qg sg g cdg X.A X.stack s H Eg).tr pn xe) (.Call (.Name a p1) [] [] p2)
      (fun σZ HZ Q => σZ[i]? = some (some (.ref f)) ∧ HZ c' = some (CodeO c' (X.env.qual ++ "<lambda>")) ∧ tb σ HZ Q) := by
  refine ⟨fun pinsZ sZ σZ HZ Q IZ h => ?_⟩
  obtain ⟨hs, hc, ht⟩ := h
  refine wpAny_Call_Name_kw (thn ((pe_var (pos := p1) (i := i) hN hv hd hcd).run pinsZ sZ σZ HZ (fun v H1 => v = .ref f ∧ H1 = HZ) IZ ⟨.ref f, hs, rfl, rfl⟩) fun u s1 ⟨v, H1, I1, r1, q1⟩ => ?_)
  obtain ⟨ev, eH⟩ := q1
  subst ev
  rw [eH] at I1
  obtain rfl : u = Value.ref f := r1
  have of1 : s1.heap.get? f = some (ldObj "<lambda>" (X.env.qual ++ "<lambda>") params body scope (cloFrom X.env.cells scope.names []) pm (.ref c') ctv (.ref TA)) := I1.base.keep f _ hf hfn hfr (fun z => nomatch (show f ∈ ([] : List Addr) from z))
  have oT1 : s1.heap.get? TA = some (tupObj u0) := I1.base.keep TA _ hT hTn hTr (fun z => nomatch (show TA ∈ ([] : List Addr) from z))
  refine PySem.W.callWith_F0 ⟨_, _, _, _, of1⟩ ?_
  have un : Un (frs X.stack) [] H HZ s.heap s1.heap := I1.base
  obtain ⟨⟨oc, vs, t, hoc, hdc, hvc⟩, _, _⟩ := I1.hok c' _ hc
  have rc : codeAny (model X.prog X.w) (X.A.deeper (envOfC qg sg s.heap.objs.size g cdg)) (.call (.ref f) ⟨[], []⟩) (CR (L2.CX X.prog X.w) (envOfC qg sg s.heap.objs.size g cdg :: X.stack) X.prog X.w HZ s1 Q E) s1 := by
    refine PySem.W.kla_callFunE hr.depth of1 rfl L.co L.gen rfl ⟨c', oc, vs, t, rfl, hoc, hdc, hvc⟩ ?_
    obtain ⟨kk, e1, e2⟩ := hbind
    rw [e1]
    refine wpAny_bind (wpAny_seqItems oT1 rfl ?_)
    rw [e2]
    refine wpAny_pure (wpAny_newFunctionEnv L.cel (fun y hy => ?_) (fun h₁ hns hsb => ⟨I1.nolimit.fresh _ hsb, ?_⟩) L.kind)
    · obtain rfl := List.mem_singleton.mp hy
      exact L.arl
    show codeAny _ _ (.expr body (lamEnv X scope s1.heap.objs.size f c')) _ _
    have kp : ∀ b o, s1.heap.get? b = some o → h₁.get? b = some o := fun b o e => hsb.extBut b o (Nat.ne_of_lt (Heap.lt_size e)) (Heap.get?_push_of_some _ e)
    have J : Inv (lamCx X (X.A.deeper (envOfC qg sg s.heap.objs.size g cdg)) (envOfC qg sg s.heap.objs.size g cdg :: X.stack) s1 HZ E scope f c') [] σ HZ { s1 with heap := h₁, toks := s1.toks + ([(ar, u0)] : List (Str × Value)).length } :=
      lam_startD I L hnN I1.env0 hr.hd un hns kp
    refine PySem.W.kla_codeExpr (wpAny_mono ((hbody _ _ s1 HZ (hr.deeper _)).run [] _ _ HZ Q J ht) (fun v s' hq => ?_) fun e s' hq => hq)
    obtain ⟨w', H', J', rv, q⟩ := hq
    exact ⟨w', H', J'.os, J'.bare, J'.base, J'.hok, rv, q⟩
  have hx : Passes (L2.CX X.prog X.w) ((cxOf CXg X.prog X.w X.K X.mg X.base Ng qg sg g cdg X.A X.stack s H Eg).tr pn xe) E := passes_call tk hW
  refine wpAny_call (codeAny_mono rc fun r s' hq => ?_)
  cases r with
  | error e => exact hx pinsZ σZ HZ s1 e s' I1 hq
  | ok fl =>
    cases fl with
    | ret u => exact I1.after hq
    | next => exact False.elim hq
    | brk => exact False.elim hq
    | cont => exact False.elim hq
/-- x(lambda ar=d: body) -/
theorem pe_lamcallD {T : List (Addr × Str)} {TT : (XK → Hp → VK → Prop) → Hp → VK → Prop} {x a ar : Str} {g c P : Addr} {k : Nat} {pg : Arguments} {bg : List Stmt} {sg : Scope} {dV kV doc pm cdv ct oc : Value} {an od : Option Addr} {osl : Array (Option Value)} {Ng : List Str}
    {params : Arguments} {body d : Expr} {scope : Scope} {t : XK → TE} {p lpos pos : Pos} {v : V} (hg : Gl X x) (hm : X.mg x = some (.ref g)) (hk : PySem.W.keepIn X.K (.ref g) = true)
    (lk : X.K.lookup g = some ⟨oc, od, .func (PySem.W.fnOf x x pg bg sg dV kV doc pm an cdv ct), osl⟩) (hcg : PySem.W.codeIn X.K cdv x = true) (hb : L2.Binds X.K (PySem.W.fnOf x x pg bg sg dV kV doc pm an cdv ct) [a] []) (Sg : FnScope Ng [a] sg) (hNg : Ng[0]? = some a) (hva : Vis sg a)
    (hG : GivesTo X Ng x sg g cdv bg a (X.env.qual ++ "<lambda>") TT)
    (TB : TabB X.base X.mg c P) (hcode : X.env.code = .ref c) (hmT : (P, X.env.qual ++ "<lambda>") ∈ T) (hu : ∀ p ∈ T, p.1 = P → p.2 = X.env.qual ++ "<lambda>") (hr : Room (k + 2) X.A) (L : LamD X.env.scope scope ar) (hnN : ∀ i : Nat, X.N[i]? ≠ some ar)
    (hdef : defaultsOf params X.env = ([eval d X.env], [])) (hd' : PE X d (tC v)) (hkw : (params.kwonlyargs.zip ([] : List (Option Value))).filterMap (fun (a, d) => d.map (a.arg, ·)) = [])
    (hbind : ∀ (q : Str) (cl : List (Str × Addr)) (pm cv ctv u0 : Value) (TA : Addr), ∃ kk, bindArgs (ldFn "<lambda>" q params body scope cl pm cv ctv (.ref TA)) ⟨[], []⟩ = seqItems? (.ref TA) >>= kk ∧ kk (some #[u0]) = pure [(ar, u0)])
    (hbody : ∀ (A : Around) (outer : List Env) (s : Shared) (H : Hp) (E : XK) (f c' : Addr), Room k (A.deeper (lamEnv X scope s.heap.objs.size f c')) → PE (lamCx X A outer s H E scope f c') body (t E))
    (hdb : (x == ("__debug__" : Str)) = false := by decide) (hd : (a == ("__debug__" : Str)) = false := by decide) (hcd : (a == ("__classdict__" : Str)) = false := by decide) :
    PE X (.Call (.Name x p) [.Lambda params body scope lpos] [] pos) (tLam T TT t) := by
  refine ⟨fun pins s σ H Q I h => ?_⟩
  obtain ⟨hT, h⟩ := h
  refine wpAny_Call_Name_kw (ld_glob I hg hm ?_ hdb)
  refine PySem.W.callWith_K (h₀ := X.base) I.ok.mod.kin hk ?_ (by rfl) (by rfl)
  show wpAny _ _ (spliced ((false, eval (.Lambda params body scope lpos) X.env) :: backTo pos (starEach [] X.env))) _ _ s
  refine Calls.spliced_cons (lam_makeD I TB hcode hmT hu hT hdef hd' hkw (L.has I.ok) fun f c' TA pm' ctv u0 H1 s' I1 eN T1 hf hfn hfr hco hTA hTn hTr _ => ?_)
  refine Calls.spliced_nil ⟨I1.kIn, ?_⟩
  have rc : codeAny (model X.prog X.w) X.A (.call (.ref g) ⟨[.ref f], []⟩) (CR C8.CX0 X.stack X.prog X.w H1 s' Q C8.E0) s' := by
    refine run_ofS (N := Ng) (ps := [a]) (us := [.ref f]) (vs := [.ref f]) lk hcg Sg hr I1.env0 (hb s' [.ref f] I1.kIn rfl) (.cons rfl .nil) rfl fun hr' => ?_
    obtain ⟨t', ht', hq'⟩ := hG f c' s' H1 Q (fun E H' Q' => t E σ H' Q') (fun W pn xe E p1 p2 tk hW => pe_actD (i := 0) I1 L hnN hf hfn hfr hTA hTn hTr (hbind _ _ _ _ _ _ _) tk hW hr' (fun A outer s H hr2 => hbody A outer s H E f c' hr2) hNg hva hd hcd) hco (h H1 eN T1)
    exact ⟨t', ht'.nox, hq'⟩
  refine wpAny_call (codeAny_mono rc fun r s2 hq => ?_)
  cases r with
  | error e => exact (show False from hq).elim
  | ok fl =>
    cases fl with
    | ret u => exact I1.after hq
    | next => exact False.elim hq
    | brk => exact False.elim hq
    | cont => exact False.elim hq
end
end ExK

namespace ExK
open PySem PySem.Spec PySem.W PySem.Calls PyProof.Rows PySem.HandSPX L2
/-! ### own error classes over ValueError with super().__init__: what the head's look asks -/
structure IniD where
  cls : Str
  qual : Str
  params : Arguments
  body : List Stmt
  scope : Scope
abbrev FnI : Type := Option (Str × Str × Arguments × FuncBody × Scope × Addr × List Str × Addr)
def fnI (K : Frag) (x : Str) : FnI := match K.lookup (He.ma K (He.ga K x) "__init__") with
  | some ⟨_, _, .func fd, _⟩ => some (fd.name, fd.qualname, fd.params, fd.body, fd.scope, fd.globals, fd.closure.map (·.1), fd.builtins)
  | _ => none
def IniD.val (d : IniD) : FnI := some ("__init__", d.qual, d.params, .stmts d.body, d.scope, mainGlobals, ["__class__"], builtinsNs)
def eqOV (a b : Option (Option Value)) : Bool := decide (a = b)
theorem eqOV_ok {a b : Option (Option Value)} (h : eqOV a b = true) : a = b := of_decide_eq_true h
def clsB (K : Frag) (C : Addr) : Bool := match K.lookup C with
  | some ⟨.type t, _, .cls cd, sl⟩ => decide (t = "type") && (match cd.mro, sl.toList with
    | .ref C' :: bm, [_, _, _, _, some (.builtin n), _] => decide (C' = C) && (decide (n = "ValueError.__new__") && (!cd.hasDel && (cd.hasDict && refsVE bm)))
    | _, _ => false)
  | _ => false
theorem arr6 {sl : Array (Option Value)} {a b c d e f : Option Value} (h : sl.toList = [a, b, c, d, e, f]) : sl = #[a, b, c, d, e, f] := by
  cases sl with
  | mk l =>
    have h : l = [a, b, c, d, e, f] := h
    rw [h]
theorem clsB_ok {K : Frag} {C : Addr} (h : clsB K C = true) : ∃ nm q N bs bm sn sub ab col dd k0 k1 k2 k3 k5, K.lookup C = some (excClassObj nm q C N bs bm true sn sub ab col dd k0 k1 k2 k3 k5 "ValueError.__new__") ∧ refsVE bm = true := by
  unfold clsB at h
  cases q : K.lookup C with
  | none =>
    rw [q] at h
    cases h
  | some o =>
    obtain ⟨oc, od, dt, sl⟩ := o
    rw [q] at h
    cases oc with
    | type t =>
      cases dt with
      | cls cd =>
        obtain ⟨h1, h2⟩ := He.ba (show (decide (t = "type") && (match cd.mro, sl.toList with
          | .ref C' :: bm, [_, _, _, _, some (.builtin n), _] => decide (C' = C) && (decide (n = "ValueError.__new__") && (!cd.hasDel && (cd.hasDict && refsVE bm)))
          | _, _ => false)) = true from h)
        have e1 := of_decide_eq_true h1
        subst e1
        split at h2
        · rename_i C' bm k0 k1 k2 k3 n k5 hm hs
          obtain ⟨h3, h4⟩ := He.ba h2
          obtain ⟨h5, h6⟩ := He.ba h4
          obtain ⟨h7, h8⟩ := He.ba h6
          obtain ⟨h9, h10⟩ := He.ba h8
          have e3 := of_decide_eq_true h3
          have e5 := of_decide_eq_true h5
          subst e3 e5
          obtain ⟨nm, bs, mro, ns, qn, hd, sn, sub, ab, col, del⟩ := cd
          dsimp only at hm h7 h9
          subst hm h9
          have e7 : del = false := by simpa using h7
          subst e7
          exact ⟨nm, qn, ns, bs, bm, sn, sub, ab, col, od, k0, k1, k2, k3, k5, by rw [arr6 hs], h10⟩
        · cases h2
      | _ => cases h
    | _ => cases dt <;> cases h
def codeFB (K : Frag) (c : Addr) (file : Str) : Bool := match K.lookup c with
  | some ⟨_, _, .fields vs, _⟩ => (match (vs[2]? : Option Value) with
    | some (.str y _) => decide (y = file)
    | _ => false)
  | _ => false
theorem codeFB_ok {K : Frag} {c : Addr} {file : Str} (h : codeFB K c file = true) : ∃ (ccl : Value) (cdd : Option Addr) (vsC : Array Value) (ccs : Array (Option Value)) (tf : Tok), K.lookup c = some ⟨ccl, cdd, .fields vsC, ccs⟩ ∧ vsC[2]? = some (.str file tf) := by
  unfold codeFB at h
  cases q : K.lookup c with
  | none =>
    rw [q] at h
    cases h
  | some o =>
    obtain ⟨oc, od, dt, sl⟩ := o
    rw [q] at h
    cases dt with
    | fields vs =>
      cases e : vs[2]? with
      | none =>
        have h : (match (vs[2]? : Option Value) with | some (.str y _) => decide (y = file) | _ => false) = true := h
        rw [e] at h
        cases h
      | some v =>
        have h : (match (vs[2]? : Option Value) with | some (.str y _) => decide (y = file) | _ => false) = true := h
        rw [e] at h
        cases v with
        | str y t =>
          have e2 := of_decide_eq_true (show decide (y = file) = true from h)
          subst e2
          exact ⟨oc, od, vs, sl, t, rfl, e⟩
        | _ => cases h
    | _ => cases h
def cellB (K : Frag) (c C : Addr) : Bool := match K.lookup c with
  | some ⟨_, _, .cell (some (.ref D)), _⟩ => decide (D = C)
  | _ => false
theorem cellB_ok {K : Frag} {c C : Addr} (h : cellB K c C = true) : ∃ (cl : Value) (cld : Option Addr) (csl : Array (Option Value)), K.lookup c = some ⟨cl, cld, .cell (some (.ref C)), csl⟩ := by
  unfold cellB at h
  split at h
  · rename_i a b D d q
    have e := of_decide_eq_true h
    subst e
    exact ⟨_, _, _, q⟩
  · cases h
def isNoneV : Value → Bool
  | .none => true
  | _ => false
def iniGB (K : Frag) (d : IniD) (file : Str) (code : Value) (clo : List (Str × Addr)) (dv kv : Value) : Bool := match code, clo with
  | .ref cda, [(_, cc)] => codeIn K (.ref cda) d.qual && (codeFB K cda file && (cellB K cc (He.ga K d.cls) && (isNoneV dv && isNoneV kv)))
  | _, _ => false
def iniFB (K : Frag) (d : IniD) (file : Str) : Bool := match K.lookup (He.ma K (He.ga K d.cls) "__init__") with
  | some ⟨_, _, .func fd, _⟩ => iniGB K d file fd.code fd.closure fd.defaults fd.kwdefaults
  | _ => false
def iniB (file : Str) (K : Frag) (d : IniD) : Bool :=
  clsB K (He.ga K d.cls) && (iniFB K d file && (eqOV (findIn K (.ref (He.ga K d.cls)) "__setattr__") (some (some (.builtin "object.__setattr__"))) &&
  (decide (subIn K (.ref (He.ga K d.cls)) (.type "BaseException") = some true) && (decide (typeIn K (.ref (He.ga K d.cls)) = some (.type "type")) && (keepIn K (.ref (He.ga K d.cls)) &&
  (decide (mroIn K (He.ga K d.cls) (.ref (He.ga K d.cls)) = some true) && (eqOV (nsIn K cStatics "thirdparty.any") (some none) &&
  (eqOV (ks_superIn K (He.ga K d.cls) (He.ga K d.cls) "__init__") (some (some (.builtin "ValueError.__init__"))) && (decide (subIn K (.ref (He.ga K d.cls)) (.type "ValueError") = some true) &&
  (decide (typeIn K (.ref (He.ma K (He.ga K d.cls) "__init__")) = some (.type "function")) && (eqOV (findIn K (.ref (He.ga K d.cls)) "__init__") (some (some (.ref (He.ma K (He.ga K d.cls) "__init__")))) &&
  (eqOV (findIn K (.ref (He.ga K d.cls)) "__getattribute__") (some (some (.builtin "BaseException.__getattribute__"))) && (eqOV (findIn K (.ref (He.ga K d.cls)) "__getattr__") (some none) && (hasDictIn K (He.ga K d.cls) &&
  (eqOV (findIn K (.ref (He.ga K d.cls)) "__class__") (some (some (.builtin "object.__class__"))) && (eqOV (specialIn K (.builtin "object.__class__") "__get__") (some (some (.builtin "getset_descriptor.__get__"))) &&
  (decide (takesIn K (.builtin "object.__class__") = some true) && decide (mroIn K (He.ga K d.cls) (.type "object") = some true))))))))))))))))))
/-- what comes of it -/
structure IniOk (P : Program) (K : Frag) (mg : Str → Option Value) (d : IniD) : Prop where
  txt : ∃ cda cc, IniTxt P K mg (He.ga K d.cls) cda cc ∧ ∃ (oc : Value) (od : Option Addr) (doc pm ct : Value) (an : Option Addr) (osl : Array (Option Value)),
    K.lookup (He.ma K (He.ga K d.cls) "__init__") = some ⟨oc, od, .func (ksFn "__init__" d.qual d.params d.body d.scope .none .none doc pm an (.ref cda) ct cc), osl⟩ ∧ codeIn K (.ref cda) d.qual = true
  iC : findIn K (.ref (He.ga K d.cls)) "__init__" = some (some (.ref (He.ma K (He.ga K d.cls) "__init__")))
  tI : typeIn K (.ref (He.ma K (He.ga K d.cls) "__init__")) = some (.type "function")
  exc : ExcC K (He.ga K d.cls)
  xf : XfC K (He.ga K d.cls)
theorem iniB_ok {P : Program} {K : Frag} {mg : Str → Option Value} {d : IniD} {file : Str} (h : iniB file K d = true) (e : fnI K d.cls = d.val) (hf : ((P.main.file : Str) == file) = true) (ht : (P.main.scope.names.lookup ("super" : Str)).isSome = false) (hs : mg "super" = none) : IniOk P K mg d := by
  unfold iniB at h
  obtain ⟨a1, h⟩ := He.ba h
  obtain ⟨a2, h⟩ := He.ba h
  obtain ⟨a3, h⟩ := He.ba h
  obtain ⟨a4, h⟩ := He.ba h
  obtain ⟨a5, h⟩ := He.ba h
  obtain ⟨a6, h⟩ := He.ba h
  obtain ⟨a7, h⟩ := He.ba h
  obtain ⟨a8, h⟩ := He.ba h
  obtain ⟨a9, h⟩ := He.ba h
  obtain ⟨a10, h⟩ := He.ba h
  obtain ⟨a11, h⟩ := He.ba h
  obtain ⟨a12, h⟩ := He.ba h
  obtain ⟨a13, h⟩ := He.ba h
  obtain ⟨a14, h⟩ := He.ba h
  obtain ⟨a15, h⟩ := He.ba h
  obtain ⟨a16, h⟩ := He.ba h
  obtain ⟨a17, h⟩ := He.ba h
  obtain ⟨a18, a19⟩ := He.ba h
  have cls := clsB_ok a1
  have hcl : ∃ cd, clsIn K (He.ga K d.cls) = some cd := by
    obtain ⟨nm, q, N, bs, bm, sn, sub, ab, col, dd, k0, k1, k2, k3, k5, hC, hbm⟩ := cls
    exact ⟨_, by unfold clsIn; rw [hC]⟩
  refine ⟨?_, eqOV_ok a12, of_decide_eq_true a11, ⟨eqOV_ok a13, eqOV_ok a14, of_decide_eq_true a4, a15, eqOV_ok a16, eqOV_ok a17, of_decide_eq_true a18, of_decide_eq_true a19⟩, ⟨eqOV_ok a13, eqOV_ok a14, of_decide_eq_true a4, a15⟩⟩
  unfold iniFB at a2
  unfold fnI at e
  cases q : K.lookup (He.ma K (He.ga K d.cls) "__init__") with
  | none =>
    rw [q] at a2
    cases a2
  | some o =>
    obtain ⟨oc, od, dt, osl⟩ := o
    rw [q] at a2 e
    cases dt with
    | func fd =>
      obtain ⟨n1, n2, n3, n4, n5, n6, n7, n8, n9, n10, n11, n12, n13, n14, n15⟩ := fd
      have e2 : (some (n1, n2, n3, n4, n5, n6, n7.map (·.1), n15) : FnI) = some (("__init__" : Str), d.qual, d.params, FuncBody.stmts d.body, d.scope, mainGlobals, [("__class__" : Str)], builtinsNs) := e
      simp only [Option.some.injEq, Prod.mk.injEq] at e2
      obtain ⟨b1, b2, b3, b4, b5, b6, b7, b8⟩ := e2
      subst b1 b2 b3 b4 b5 b6 b8
      have c : iniGB K d file n13 n7 n8 n9 = true := a2
      unfold iniGB at c
      split at c
      · rename_i cda x cc
        obtain ⟨c1, c⟩ := He.ba c
        obtain ⟨c2, c⟩ := He.ba c
        obtain ⟨c3, c⟩ := He.ba c
        obtain ⟨c4, c5⟩ := He.ba c
        have z8 : n8 = .none := by cases n8 <;> first | rfl | cases c4
        have z9 : n9 = .none := by cases n9 <;> first | rfl | cases c5
        subst z8 z9
        have bx : x = "__class__" := by simpa using b7
        subst bx
        obtain ⟨ccl, cdd, vsC, ccs, tf, w1, w2⟩ := codeFB_ok c2
        refine ⟨cda, cc, ⟨⟨cls, eqOV_ok a3, of_decide_eq_true a4, of_decide_eq_true a5, a6⟩, ⟨ccl, cdd, vsC, ccs, file, tf, w1, w2, hf⟩, ht, cellB_ok c3, hcl, of_decide_eq_true a7, hs, eqOV_ok a8, eqOV_ok a9, of_decide_eq_true a10⟩, oc, od, _, _, _, _, osl, rfl, c1⟩
      · cases c
    | _ => cases a2
/-! ### the Hook -/
abbrev AlY : Type := He.AlD × List FnI × Bool
def asY (g : Addr → Option Obj) (n : Nat) : List Addr := cStatics :: He.asD g n
def obsY (n : Nat) (fa : List He.Fa) (fn : List He.DefD) (ini : List IniD) (tf : List He.Defn) (ex : Frag → Bool) (g : Addr → Option Obj) : AlY :=
  (He.obsD fa fn (He.frT g (asY g n)), ini.map (fun d => fnI (He.frT g (asY g n)) d.cls), ex (He.frT g (asY g n)) && He.tabsB g tf (He.frT g (asY g n)))
def valY (fn : List He.DefD) (ini : List IniD) : AlY := (He.valD fn, ini.map IniD.val, true)
structure SaysY (fa : List He.Fa) (fn : List He.DefD) (ini : List IniD) (tf : List He.Defn) (ex : Frag → Bool) (h : Heap) (K : Frag) : Prop where
  t : He.SaysD fa fn K
  i : ini.map (fun d => fnI K d.cls) = ini.map IniD.val
  more : ex K = true
  hd : ∀ p ∈ tf, codeHdIn K (He.cT K p).1 (He.cT K p).2 = true
  out : ∀ p ∈ tf, K.lookup (He.cT K p).2 = none
  empty : ∀ p ∈ tf, h.get? (He.cT K p).2 = some { cls := .none, data := .fields #[] }
theorem saysY_of {n : Nat} {fa : List He.Fa} {fn : List He.DefD} {ini : List IniD} {tf : List He.Defn} {ex : Frag → Bool} {h : Heap} (e : obsY n fa fn ini tf ex h.get? = valY fn ini) : SaysY fa fn ini tf ex h (He.frT h.get? (asY h.get? n)) := by
  have e1 : He.obsD fa fn (He.frT h.get? (asY h.get? n)) = He.valD fn := congrArg (fun z : AlY => z.1) e
  have e3 : ini.map (fun d => fnI (He.frT h.get? (asY h.get? n)) d.cls) = ini.map IniD.val := congrArg (fun z : AlY => z.2.1) e
  have e2 : (ex (He.frT h.get? (asY h.get? n)) && He.tabsB h.get? tf (He.frT h.get? (asY h.get? n))) = true := congrArg (fun z : AlY => z.2.2) e
  obtain ⟨h1, h2⟩ := He.ba e2
  have key : ∀ p ∈ tf, codeHdIn (He.frT h.get? (asY h.get? n)) (He.cT (He.frT h.get? (asY h.get? n)) p).1 (He.cT (He.frT h.get? (asY h.get? n)) p).2 = true ∧ ∃ o, h.get? (He.cT (He.frT h.get? (asY h.get? n)) p).2 = some o ∧ He.emptyTab o = true := fun p hp => by
    obtain ⟨h3, h4⟩ := He.ba (List.all_eq_true.mp h2 p hp)
    refine ⟨h3, ?_⟩
    cases q : h.get? (He.cT (He.frT h.get? (asY h.get? n)) p).2 with
    | none =>
      rw [q] at h4
      cases h4
    | some o =>
      rw [q] at h4
      exact ⟨o, rfl, h4⟩
  exact ⟨e1, e3, h1, fun p hp => (key p hp).1, fun p hp => by
    obtain ⟨_, o, q, z⟩ := key p hp
    exact He.frT_none q z, fun p hp => by
    obtain ⟨_, o, q, z⟩ := key p hp
    rw [q, He.emptyTab_eq z]⟩
def hookY (n : Nat) (fa : List He.Fa) (fn : List He.DefD) (ini : List IniD) (tf : List He.Defn) (ex : Frag → Bool) : Hook where
  α := AlY
  obs := fun s => obsY n fa fn ini tf ex s.heap.get?
  val := fun _ => valY fn ini
  says := fun _ h => ∃ K : Frag, K.In h ∧ SaysY fa fn ini tf ex h K
  of := fun _ _ e => ⟨_, He.frT_in, saysY_of e⟩
  keeps := fun _ _ _ ⟨K, hK, c⟩ k => ⟨K, Frag.In.keeps hK k, ⟨c.t, c.i, c.more, c.hd, c.out, fun p hp => k _ _ (c.empty p hp)⟩⟩
theorem obsY_eq {n : Nat} {fa : List He.Fa} {fn : List He.DefD} {ini : List IniD} {tf : List He.Defn} {ex : Frag → Bool} {g : Addr → Option Obj} {s : Shared} (h : ∀ a, g a = s.heap.get? a) : obsY n fa fn ini tf ex g = (hookY n fa fn ini tf ex).obs s := by
  have e : g = s.heap.get? := funext h
  rw [e] <;> rfl
theorem SaysY.ini {fa : List He.Fa} {fn : List He.DefD} {ini : List IniD} {tf : List He.Defn} {ex : Frag → Bool} {h : Heap} {K : Frag} (c : SaysY fa fn ini tf ex h K) {d : IniD} (hd : d ∈ ini) : fnI K d.cls = d.val := by
  obtain ⟨i, hi, e⟩ := List.mem_iff_getElem.mp hd
  have e1 : ini[i]? = some d := by rw [List.getElem?_eq_getElem hi, e]
  have e2 : (ini.map fun d => fnI K d.cls)[i]? = (ini.map IniD.val)[i]? := by rw [c.i]
  rw [List.getElem?_map, List.getElem?_map, e1] at e2
  exact Option.some.inj e2
end ExK

namespace K30
open PySem PySem.Spec PyProof.Rows L2 ExK
def top (i : Nat) : Stmt := PySem.Challenge.pw_everyweb_k30_scans_by_an_own_reading_of.main.body.getD i (.Pass ⟨0, 0, 0, 0⟩)
abbrev s_is_name : Stmt := top 4
abbrev s_is_figures : Stmt := top 25
abbrev s_law_pen : Stmt := top 28
abbrev s_law_draw : Stmt := top 29
abbrev s_law_pick : Stmt := top 30
abbrev s_law_web_heard : Stmt := top 31
abbrev s_law_s_name : Stmt := top 32
abbrev s_law_s_number : Stmt := top 33
abbrev s_law : Stmt := top 34
abbrev s_Scan___init : Stmt := inClass (top 26) 0
abbrev s_Scan_is_over : Stmt := inClass (top 26) 1
abbrev s_Scan_ahead : Stmt := inClass (top 26) 2
abbrev s_Scan_stop : Stmt := inClass (top 26) 3
abbrev s_Scan_take : Stmt := inClass (top 26) 4
abbrev s_Scan_take_of : Stmt := inClass (top 26) 5
abbrev s_Scan_take_name : Stmt := inClass (top 26) 6
abbrev s_Scan_take_number : Stmt := inClass (top 26) 7
abbrev s_Scan_end_line : Stmt := inClass (top 26) 8
abbrev s_Scan_end : Stmt := inClass (top 26) 9
def pEmp (K : PySem.W.Frag) : Addr := He.dflAt ("Scan", some "take_name") 0 K
abbrev si_BadText : Stmt := inClass (top 18) 0
abbrev di_BadText : IniD := ⟨"BadText", "BadText.__init__", defArgs si_BadText, defBody si_BadText, defScope si_BadText⟩
def fn : List He.DefD := [⟨("is_name", none), "is_name", "is_name", defArgs s_is_name, defBody s_is_name, defScope s_is_name, [], []⟩,
  ⟨("is_figures", none), "is_figures", "is_figures", defArgs s_is_figures, defBody s_is_figures, defScope s_is_figures, [], []⟩,
  ⟨("_law_pen", none), "_law_pen", "_law_pen", defArgs s_law_pen, defBody s_law_pen, defScope s_law_pen, [], []⟩,
  ⟨("_law_draw", none), "_law_draw", "_law_draw", defArgs s_law_draw, defBody s_law_draw, defScope s_law_draw, [], []⟩,
  ⟨("_law_pick", none), "_law_pick", "_law_pick", defArgs s_law_pick, defBody s_law_pick, defScope s_law_pick, [], []⟩,
  ⟨("_law_web_heard", none), "_law_web_heard", "_law_web_heard", defArgs s_law_web_heard, defBody s_law_web_heard, defScope s_law_web_heard, [], []⟩,
  ⟨("_law_s_name", none), "_law_s_name", "_law_s_name", defArgs s_law_s_name, defBody s_law_s_name, defScope s_law_s_name, [], []⟩,
  ⟨("_law_s_number", none), "_law_s_number", "_law_s_number", defArgs s_law_s_number, defBody s_law_s_number, defScope s_law_s_number, [], []⟩,
  ⟨("law", none), "law", "law", defArgs s_law, defBody s_law, defScope s_law, [], []⟩,
  ⟨("Scan", some "__init__"), "__init__", "Scan.__init__", defArgs s_Scan___init, defBody s_Scan___init, defScope s_Scan___init, [], []⟩,
  ⟨("Scan", some "is_over"), "is_over", "Scan.is_over", defArgs s_Scan_is_over, defBody s_Scan_is_over, defScope s_Scan_is_over, [], []⟩,
  ⟨("Scan", some "ahead"), "ahead", "Scan.ahead", defArgs s_Scan_ahead, defBody s_Scan_ahead, defScope s_Scan_ahead, [], []⟩,
  ⟨("Scan", some "stop"), "stop", "Scan.stop", defArgs s_Scan_stop, defBody s_Scan_stop, defScope s_Scan_stop, [], []⟩,
  ⟨("Scan", some "take"), "take", "Scan.take", defArgs s_Scan_take, defBody s_Scan_take, defScope s_Scan_take, [], []⟩,
  ⟨("Scan", some "take_of"), "take_of", "Scan.take_of", defArgs s_Scan_take_of, defBody s_Scan_take_of, defScope s_Scan_take_of, [], []⟩,
  ⟨("Scan", some "take_name"), "take_name", "Scan.take_name", defArgs s_Scan_take_name, defBody s_Scan_take_name, defScope s_Scan_take_name, [.adr pEmp], []⟩,
  ⟨("Scan", some "take_number"), "take_number", "Scan.take_number", defArgs s_Scan_take_number, defBody s_Scan_take_number, defScope s_Scan_take_number, [], []⟩,
  ⟨("Scan", some "end_line"), "end_line", "Scan.end_line", defArgs s_Scan_end_line, defBody s_Scan_end_line, defScope s_Scan_end_line, [], []⟩,
  ⟨("Scan", some "end"), "end", "Scan.end", defArgs s_Scan_end, defBody s_Scan_end, defScope s_Scan_end, [], []⟩]
def fa : List He.Fa := [.glo "is_name", .glo "is_figures", .glo "Scan", .glo "BadText", .glo "TooMany", .glo "WebError", .glo "_law_pen", .glo "_law_draw", .glo "_law_pick", .glo "_law_web_heard", .glo "_law_s_name", .glo "_law_s_number",
  .glo "law", .free "isinstance", .free "str", .free "all", .free "len", .free "int", .free "abs", .free "range", .free "list", .free "super", .str "LETTERS" "abcdefghijklmnopqrstuvwxyz", .str "SIGNS" "abcdefghijklmnopqrstuvwxyz0123456789",
  .int "MOST_SIGNS" 8, .int "MOST_FIGURES" 20, .cls "Scan", .noat "Scan" "lines", .noat "Scan" "line", .noat "Scan" "at", .mkr "Scan", .meth "Scan" "is_over", .meth "Scan" "ahead", .meth "Scan" "stop", .meth "Scan" "take", .meth "Scan" "take_of",
  .meth "Scan" "take_name", .meth "Scan" "take_number", .meth "Scan" "end_line", .meth "Scan" "end", .exm "BadText" "WebError" true, .noat "BadText" "line", .noat "BadText" "word"]
def empTB (K : PySem.W.Frag) (a : Addr) : Bool := match K.lookup a with
  | some ⟨.type c, _, .seq its _, _⟩ => decide (c = "tuple") && its.isEmpty
  | _ => false
theorem empTB_ok {K : PySem.W.Frag} {a : Addr} (h : empTB K a = true) (H : Hp) : SqT K H a [] := by
  unfold empTB at h
  split at h
  · rename_i c d its n sl q
    obtain ⟨h1, h2⟩ := He.ba h
    have e := of_decide_eq_true h1
    subst e
    have e2 := Array.isEmpty_iff.mp h2
    subst e2
    exact .inr ⟨_, #[], n, q, rfl, rfl, by show 0 ≤ sizeLine; exact Nat.zero_le _, .nil⟩
  · cases h
def ex (K : PySem.W.Frag) : Bool := iniB "/claim/cut.py" K di_BadText && (empTB K (pEmp K) && (decide (PySem.W.kitOne K (.ref (He.ga K "BadText")) (.ref (He.ga K "TooMany")) = some false) && decide (PySem.W.kitOne K (.ref (He.ga K "BadText")) (.ref (He.ga K "BadText")) = some true)))
def names : List Str := ["LETTERS", "SIGNS", "MOST_SIGNS", "is_name", "WebError", "BadValue", "BadNumber", "BadName", "NoName", "BadWeb", "BadTie", "BadMark", "BadTerm", "BadBags", "BadWish", "BadPaper", "BadText", "BadWord", "Misfit", "Nothing", "TooMany",
  "MOST_FIGURES", "is_figures", "Scan", "_law_pen", "_law_draw", "_law_pick", "_law_web_heard", "_law_s_name", "_law_s_number"]
structure Txt (P : Program) (K : PySem.W.Frag) (mg : Str → Option Value) : Prop where
  g_is_name : mg "is_name" = some (.ref (He.ga K "is_name"))
  g_is_figures : mg "is_figures" = some (.ref (He.ga K "is_figures"))
  g_Scan : mg "Scan" = some (.ref (He.ga K "Scan"))
  g_BadText : mg "BadText" = some (.ref (He.ga K "BadText"))
  g_TooMany : mg "TooMany" = some (.ref (He.ga K "TooMany"))
  g_WebError : mg "WebError" = some (.ref (He.ga K "WebError"))
  g_law_pen : mg "_law_pen" = some (.ref (He.ga K "_law_pen"))
  g_law_draw : mg "_law_draw" = some (.ref (He.ga K "_law_draw"))
  g_law_pick : mg "_law_pick" = some (.ref (He.ga K "_law_pick"))
  g_law_web_heard : mg "_law_web_heard" = some (.ref (He.ga K "_law_web_heard"))
  g_law_s_name : mg "_law_s_name" = some (.ref (He.ga K "_law_s_name"))
  g_law_s_number : mg "_law_s_number" = some (.ref (He.ga K "_law_s_number"))
  g_law : mg "law" = some (.ref (He.ga K "law"))
  n_isinstance : mg "isinstance" = none
  n_str : mg "str" = none
  n_all : mg "all" = none
  n_len : mg "len" = none
  n_int : mg "int" = none
  n_abs : mg "abs" = none
  n_range : mg "range" = none
  n_list : mg "list" = none
  n_super : mg "super" = none
  c_LETTERS : ∃ t, mg "LETTERS" = some (.str "abcdefghijklmnopqrstuvwxyz" t)
  c_SIGNS : ∃ t, mg "SIGNS" = some (.str "abcdefghijklmnopqrstuvwxyz0123456789" t)
  c_MOST_SIGNS : ∃ t, mg "MOST_SIGNS" = some (.int 8 t)
  c_MOST_FIGURES : ∃ t, mg "MOST_FIGURES" = some (.int 20 t)
  cl_Scan : Cls K (He.ga K "Scan")
  na_Scan_lines : NoAttr K (He.ga K "Scan") "lines"
  na_Scan_line : NoAttr K (He.ga K "Scan") "line"
  na_Scan_at : NoAttr K (He.ga K "Scan") "at"
  mk_Scan : Mk K (He.ga K "Scan") (He.fAd K ("Scan", some "__init__"))
  m_Scan_is_over : Meth K (He.ga K "Scan") "is_over" (He.fAd K ("Scan", some "is_over"))
  m_Scan_ahead : Meth K (He.ga K "Scan") "ahead" (He.fAd K ("Scan", some "ahead"))
  m_Scan_stop : Meth K (He.ga K "Scan") "stop" (He.fAd K ("Scan", some "stop"))
  m_Scan_take : Meth K (He.ga K "Scan") "take" (He.fAd K ("Scan", some "take"))
  m_Scan_take_of : Meth K (He.ga K "Scan") "take_of" (He.fAd K ("Scan", some "take_of"))
  m_Scan_take_name : Meth K (He.ga K "Scan") "take_name" (He.fAd K ("Scan", some "take_name"))
  m_Scan_take_number : Meth K (He.ga K "Scan") "take_number" (He.fAd K ("Scan", some "take_number"))
  m_Scan_end_line : Meth K (He.ga K "Scan") "end_line" (He.fAd K ("Scan", some "end_line"))
  m_Scan_end : Meth K (He.ga K "Scan") "end" (He.fAd K ("Scan", some "end"))
  em_BadText_WebError : PySem.W.exmOne K (.ref (He.ga K "BadText")) (.ref (He.ga K "WebError")) = some true
  na_BadText_line : NoAttr K (He.ga K "BadText") "line"
  na_BadText_word : NoAttr K (He.ga K "BadText") "word"
  F_is_name : ∃ fd, FunD K "is_name" "is_name" (defArgs s_is_name) (defBody s_is_name) (defScope s_is_name) [] [] (He.fAd K ("is_name", none)) fd
  F_is_figures : ∃ fd, FunD K "is_figures" "is_figures" (defArgs s_is_figures) (defBody s_is_figures) (defScope s_is_figures) [] [] (He.fAd K ("is_figures", none)) fd
  F_law_pen : ∃ fd, FunD K "_law_pen" "_law_pen" (defArgs s_law_pen) (defBody s_law_pen) (defScope s_law_pen) [] [] (He.fAd K ("_law_pen", none)) fd
  F_law_draw : ∃ fd, FunD K "_law_draw" "_law_draw" (defArgs s_law_draw) (defBody s_law_draw) (defScope s_law_draw) [] [] (He.fAd K ("_law_draw", none)) fd
  F_law_pick : ∃ fd, FunD K "_law_pick" "_law_pick" (defArgs s_law_pick) (defBody s_law_pick) (defScope s_law_pick) [] [] (He.fAd K ("_law_pick", none)) fd
  F_law_web_heard : ∃ fd, FunD K "_law_web_heard" "_law_web_heard" (defArgs s_law_web_heard) (defBody s_law_web_heard) (defScope s_law_web_heard) [] [] (He.fAd K ("_law_web_heard", none)) fd
  F_law_s_name : ∃ fd, FunD K "_law_s_name" "_law_s_name" (defArgs s_law_s_name) (defBody s_law_s_name) (defScope s_law_s_name) [] [] (He.fAd K ("_law_s_name", none)) fd
  F_law_s_number : ∃ fd, FunD K "_law_s_number" "_law_s_number" (defArgs s_law_s_number) (defBody s_law_s_number) (defScope s_law_s_number) [] [] (He.fAd K ("_law_s_number", none)) fd
  F_law : ∃ fd, FunD K "law" "law" (defArgs s_law) (defBody s_law) (defScope s_law) [] [] (He.fAd K ("law", none)) fd
  F_Scan___init : ∃ fd, FunD K "__init__" "Scan.__init__" (defArgs s_Scan___init) (defBody s_Scan___init) (defScope s_Scan___init) [] [] (He.fAd K ("Scan", some "__init__")) fd
  F_Scan_is_over : ∃ fd, FunD K "is_over" "Scan.is_over" (defArgs s_Scan_is_over) (defBody s_Scan_is_over) (defScope s_Scan_is_over) [] [] (He.fAd K ("Scan", some "is_over")) fd
  F_Scan_ahead : ∃ fd, FunD K "ahead" "Scan.ahead" (defArgs s_Scan_ahead) (defBody s_Scan_ahead) (defScope s_Scan_ahead) [] [] (He.fAd K ("Scan", some "ahead")) fd
  F_Scan_stop : ∃ fd, FunD K "stop" "Scan.stop" (defArgs s_Scan_stop) (defBody s_Scan_stop) (defScope s_Scan_stop) [] [] (He.fAd K ("Scan", some "stop")) fd
  F_Scan_take : ∃ fd, FunD K "take" "Scan.take" (defArgs s_Scan_take) (defBody s_Scan_take) (defScope s_Scan_take) [] [] (He.fAd K ("Scan", some "take")) fd
  F_Scan_take_of : ∃ fd, FunD K "take_of" "Scan.take_of" (defArgs s_Scan_take_of) (defBody s_Scan_take_of) (defScope s_Scan_take_of) [] [] (He.fAd K ("Scan", some "take_of")) fd
  F_Scan_take_name : ∃ fd, FunD K "take_name" "Scan.take_name" (defArgs s_Scan_take_name) (defBody s_Scan_take_name) (defScope s_Scan_take_name) [.ref (pEmp K)] [] (He.fAd K ("Scan", some "take_name")) fd
  F_Scan_take_number : ∃ fd, FunD K "take_number" "Scan.take_number" (defArgs s_Scan_take_number) (defBody s_Scan_take_number) (defScope s_Scan_take_number) [] [] (He.fAd K ("Scan", some "take_number")) fd
  F_Scan_end_line : ∃ fd, FunD K "end_line" "Scan.end_line" (defArgs s_Scan_end_line) (defBody s_Scan_end_line) (defScope s_Scan_end_line) [] [] (He.fAd K ("Scan", some "end_line")) fd
  F_Scan_end : ∃ fd, FunD K "end" "Scan.end" (defArgs s_Scan_end) (defBody s_Scan_end) (defScope s_Scan_end) [] [] (He.fAd K ("Scan", some "end")) fd
  I_BadText : IniOk P K mg di_BadText
  emp : ∀ H : Hp, SqT K H (pEmp K) []
  k_TooMany : PySem.W.kitOne K (.ref (He.ga K "BadText")) (.ref (He.ga K "TooMany")) = some false
  k_BadText : PySem.W.kitOne K (.ref (He.ga K "BadText")) (.ref (He.ga K "BadText")) = some true
theorem txt {P : Program} {K : PySem.W.Frag} {mg : Str → Option Value} {h : Heap} (X : K.In h) (G : h.Ns mainGlobals mg) (c : SaysY fa fn [di_BadText] [("law", none)] ex h K) (hf : ((P.main.file : Str) == "/claim/cut.py") = true) (ht : (P.main.scope.names.lookup ("super" : Str)).isSome = false) : Txt P K mg := by
  have h0 : (iniB "/claim/cut.py" K di_BadText && (empTB K (pEmp K) && (decide (PySem.W.kitOne K (.ref (He.ga K "BadText")) (.ref (He.ga K "TooMany")) = some false) && decide (PySem.W.kitOne K (.ref (He.ga K "BadText")) (.ref (He.ga K "BadText")) = some true)))) = true := c.more
  obtain ⟨hi0, h0⟩ := He.ba h0
  obtain ⟨h2', h0⟩ := He.ba h0
  obtain ⟨h3, h4⟩ := He.ba h0
  have h2 := fun H => empTB_ok h2' H
  exact {
    g_is_name := He.glo_ok X G (c.t.fact 0 (f := He.Fa.glo "is_name") rfl)
    g_is_figures := He.glo_ok X G (c.t.fact 1 (f := He.Fa.glo "is_figures") rfl)
    g_Scan := He.glo_ok X G (c.t.fact 2 (f := He.Fa.glo "Scan") rfl)
    g_BadText := He.glo_ok X G (c.t.fact 3 (f := He.Fa.glo "BadText") rfl)
    g_TooMany := He.glo_ok X G (c.t.fact 4 (f := He.Fa.glo "TooMany") rfl)
    g_WebError := He.glo_ok X G (c.t.fact 5 (f := He.Fa.glo "WebError") rfl)
    g_law_pen := He.glo_ok X G (c.t.fact 6 (f := He.Fa.glo "_law_pen") rfl)
    g_law_draw := He.glo_ok X G (c.t.fact 7 (f := He.Fa.glo "_law_draw") rfl)
    g_law_pick := He.glo_ok X G (c.t.fact 8 (f := He.Fa.glo "_law_pick") rfl)
    g_law_web_heard := He.glo_ok X G (c.t.fact 9 (f := He.Fa.glo "_law_web_heard") rfl)
    g_law_s_name := He.glo_ok X G (c.t.fact 10 (f := He.Fa.glo "_law_s_name") rfl)
    g_law_s_number := He.glo_ok X G (c.t.fact 11 (f := He.Fa.glo "_law_s_number") rfl)
    g_law := He.glo_ok X G (c.t.fact 12 (f := He.Fa.glo "law") rfl)
    n_isinstance := He.free_ok X G (c.t.fact 13 (f := He.Fa.free "isinstance") rfl)
    n_str := He.free_ok X G (c.t.fact 14 (f := He.Fa.free "str") rfl)
    n_all := He.free_ok X G (c.t.fact 15 (f := He.Fa.free "all") rfl)
    n_len := He.free_ok X G (c.t.fact 16 (f := He.Fa.free "len") rfl)
    n_int := He.free_ok X G (c.t.fact 17 (f := He.Fa.free "int") rfl)
    n_abs := He.free_ok X G (c.t.fact 18 (f := He.Fa.free "abs") rfl)
    n_range := He.free_ok X G (c.t.fact 19 (f := He.Fa.free "range") rfl)
    n_list := He.free_ok X G (c.t.fact 20 (f := He.Fa.free "list") rfl)
    n_super := He.free_ok X G (c.t.fact 21 (f := He.Fa.free "super") rfl)
    c_LETTERS := He.str_ok X G (c.t.fact 22 (f := He.Fa.str "LETTERS" "abcdefghijklmnopqrstuvwxyz") rfl)
    c_SIGNS := He.str_ok X G (c.t.fact 23 (f := He.Fa.str "SIGNS" "abcdefghijklmnopqrstuvwxyz0123456789") rfl)
    c_MOST_SIGNS := He.int_ok X G (c.t.fact 24 (f := He.Fa.int "MOST_SIGNS" 8) rfl)
    c_MOST_FIGURES := He.int_ok X G (c.t.fact 25 (f := He.Fa.int "MOST_FIGURES" 20) rfl)
    cl_Scan := He.cls_ok (c.t.fact 26 (f := He.Fa.cls "Scan") rfl)
    na_Scan_lines := He.noat_ok (c.t.fact 27 (f := He.Fa.noat "Scan" "lines") rfl)
    na_Scan_line := He.noat_ok (c.t.fact 28 (f := He.Fa.noat "Scan" "line") rfl)
    na_Scan_at := He.noat_ok (c.t.fact 29 (f := He.Fa.noat "Scan" "at") rfl)
    mk_Scan := He.mkr_ok (c.t.fact 30 (f := He.Fa.mkr "Scan") rfl)
    m_Scan_is_over := He.meth_ok (c.t.fact 31 (f := He.Fa.meth "Scan" "is_over") rfl)
    m_Scan_ahead := He.meth_ok (c.t.fact 32 (f := He.Fa.meth "Scan" "ahead") rfl)
    m_Scan_stop := He.meth_ok (c.t.fact 33 (f := He.Fa.meth "Scan" "stop") rfl)
    m_Scan_take := He.meth_ok (c.t.fact 34 (f := He.Fa.meth "Scan" "take") rfl)
    m_Scan_take_of := He.meth_ok (c.t.fact 35 (f := He.Fa.meth "Scan" "take_of") rfl)
    m_Scan_take_name := He.meth_ok (c.t.fact 36 (f := He.Fa.meth "Scan" "take_name") rfl)
    m_Scan_take_number := He.meth_ok (c.t.fact 37 (f := He.Fa.meth "Scan" "take_number") rfl)
    m_Scan_end_line := He.meth_ok (c.t.fact 38 (f := He.Fa.meth "Scan" "end_line") rfl)
    m_Scan_end := He.meth_ok (c.t.fact 39 (f := He.Fa.meth "Scan" "end") rfl)
    em_BadText_WebError := He.exm_ok (c.t.fact 40 (f := He.Fa.exm "BadText" "WebError" true) rfl)
    na_BadText_line := He.noat_ok (c.t.fact 41 (f := He.Fa.noat "BadText" "line") rfl)
    na_BadText_word := He.noat_ok (c.t.fact 42 (f := He.Fa.noat "BadText" "word") rfl)
    F_is_name := c.t.def_ 0 rfl
    F_is_figures := c.t.def_ 1 rfl
    F_law_pen := c.t.def_ 2 rfl
    F_law_draw := c.t.def_ 3 rfl
    F_law_pick := c.t.def_ 4 rfl
    F_law_web_heard := c.t.def_ 5 rfl
    F_law_s_name := c.t.def_ 6 rfl
    F_law_s_number := c.t.def_ 7 rfl
    F_law := c.t.def_ 8 rfl
    F_Scan___init := c.t.def_ 9 rfl
    F_Scan_is_over := c.t.def_ 10 rfl
    F_Scan_ahead := c.t.def_ 11 rfl
    F_Scan_stop := c.t.def_ 12 rfl
    F_Scan_take := c.t.def_ 13 rfl
    F_Scan_take_of := c.t.def_ 14 rfl
    F_Scan_take_name := c.t.def_ 15 rfl
    F_Scan_take_number := c.t.def_ 16 rfl
    F_Scan_end_line := c.t.def_ 17 rfl
    F_Scan_end := c.t.def_ 18 rfl
    I_BadText := iniB_ok hi0 (c.ini (by simp)) hf ht (He.free_ok X G (c.t.fact 21 (f := .free "super") rfl))
    emp := h2
    k_TooMany := of_decide_eq_true h3
    k_BadText := of_decide_eq_true h4
  }
end K30

namespace K30
open PySem PySem.W PySem.Calls PyProof.Rows ExK
abbrev R : OpenRow := OpenLaw.row PySem.Challenge.rw_everyweb_k30_scans_by_an_own_reading_of
abbrev qv : Program := view R.prog [34]
abbrev hk : Hook := hookY 6 fa fn [di_BadText] [("law", none)] ex
def ob (s : SharedT) : AlY := obsY 6 fa fn [di_BadText] [("law", none)] ex (HandSHeadRun.getT s)
theorem ob_eq (s : SharedT) : ob s = hk.obs s.abs := obsY_eq (HandSHeadRun.getT_eq s)
theorem run (w : World) : HandSHeadRun.RunEq R qv hk ob 7000 names w := by
  intro os
  kernel_rfl
end K30

namespace K30
open PySem PySem.Spec PyProof.Rows L2 ExK
section
variable {P : Program} {w : World} {K : PySem.W.Frag} {mg : Str → Option Value} {base : Heap}
/-! ### BadText(line, word) -/
abbrev CB (K : PySem.W.Frag) : Addr := He.ga K "BadText"
abbrev xdBT (x y : V) : List (Str × V) := [("word", y), ("line", x)]
def spBT (K : PySem.W.Frag) : Sp := fun vs H Q _ => ∃ (a : Addr) (x y : V), vs = [.ref a, x, y] ∧ H a = some (exo a (CB K) none) ∧
  ∀ d, H d = none → d ≠ a → Q .non (upd (upd (upd H d (exd d [("line", x)])) a (exo a (CB K) (some d))) d (exd d (xdBT x y)))
theorem sc_bt : IniScope ["self", "line", "word"] (defScope si_BadText) := ⟨rfl, rfl, rfl, by decide +kernel, by decide +kernel, by decide +kernel, by decide +kernel, rfl, rfl⟩
theorem ok_bt (T : Txt P K mg) : ∃ fd, FnOk P w K mg base CX0 1 (He.ma K (CB K) "__init__") fd ["self", "line", "word"] (spBT K) ∧ Binds K fd ["self", "line", "word"] [] := by
  obtain ⟨cda, cc, tx, oc, od, doc, pm, ct, an, osl, lk, hcd⟩ := T.I_BadText.txt
  refine ⟨_, fn_ini (k := 0) (N := ["line", "word"]) lk hcd tx sc_bt rfl rfl rfl (fun vs H Q E h => ?_) (fun A outer s H vs Q E h => ?_) (fun _ => rfl) (fun _ => rfl) (fun _ => ⟨_, rfl⟩), .all fun us hl => match us, hl with | [_, _, _], _ => rfl⟩
  · obtain ⟨a, x, y, rfl, _⟩ := h
    rfl
  · obtain ⟨a, x, y, rfl, ha, k⟩ := h
    refine ⟨_, _, a, [x, y], [x, y], rfl, ha, pa_cons (pv 1) (pa_cons (pv 2) pa_nil), fun Q q => ⟨_, rfl, _, rfl, q⟩, (by show 2 ≤ 1000; decide), pss_cons (ps_ost (pv 0) (pv 1)) (pss_one (ps_ost (pv 0) (pv 2))), ?_⟩
    refine ⟨_, rfl, _, rfl, a, CB K, rfl, tx.ox, T.na_BadText_line, .inl ⟨ha, fun d nd nda => ?_⟩⟩
    have e1 : (upd (upd H d (exd d [("line", x)])) a (exo a (CB K) (some d))) d = some (exd d [("line", x)]) := by rw [upd_ne nda, upd_same]
    exact ⟨_, rfl, _, rfl, a, CB K, rfl, tx.ox, T.na_BadText_word, .inr ⟨d, _, upd_same, e1, (by show 1 ≤ 900; decide), k d nd nda⟩⟩
/-- what a raised BadText(x, y) leaves -/
structure Bad (H H' : Hp) (d : Addr) (x y : V) : Prop where
  keep : ∀ b o, H b = some o → H' b = some o
  new : H d = none
  xd : H' d = some (.xd (xdBT x y))
theorem bad_step {H1 : Hp} {x y : V} {Q : XK} (h : ∀ d H3, Bad H1 H3 d x y → Q (.ref (CB K)) (some d) H3) : ([x, y] : List V).length ≤ 1000 ∧ ∀ a, H1 a = none → spBT K (.ref a :: ([x, y] ++ [])) (upd H1 a (exo a (CB K) none))
    (fun v H2 => v = .non ∧ ∃ (d : Addr) (fs : List (Str × V)), H2 a = some (exo a (CB K) (some d)) ∧ H2 d = some (exd d fs) ∧ H1 d = none ∧ Q (.ref (CB K)) (some d) (upd (del H2 a) d (.xd fs))) (fun _ _ _ => False) := by
  refine ⟨by show 2 ≤ 1000; decide, fun a na => ⟨a, x, y, rfl, upd_same, fun d nd nda => ?_⟩⟩
  have nd1 : H1 d = none := by rw [upd_ne nda] at nd; exact nd
  refine ⟨rfl, d, xdBT x y, ?_, upd_same, nd1, h d _ ⟨fun b z hb => ?_, nd1, upd_same⟩⟩
  · rw [upd_ne (Ne.symm nda), upd_same]
  · have hbd : b ≠ d := ne_of_none hb nd1
    have hba : b ≠ a := ne_of_none hb na
    rw [upd_ne hbd, del_ne hba, upd_ne hbd, upd_ne hba, upd_ne hbd, upd_ne hba]
    exact hb
/-- BadText(e1, e2) as what is raised -/
theorem mk_bad {X : Cx} {e1 e2 : Expr} {ta : TA} {p pos : Pos} (T : Txt X.prog X.K X.mg) (hr : Room 2 X.A) (ha : PA X [e1, e2] ta) (hg : Gl X "BadText" := by rfl)
    (he : starEach (e1 :: [e2]) X.env = (false, eval e1 X.env) :: starEach [e2] X.env := by rfl) (hpl : (backTo pos (starEach [e2] X.env)).any (·.1) = false := by rfl) :
    PMk X (.Call (.Name "BadText" p) [e1, e2] [] pos) (tMkO (CB X.K) (spBT X.K) [] ta) := by
  obtain ⟨fd, G, b⟩ := ok_bt (w := X.w) (base := X.base) T
  obtain ⟨_, _, tx, _⟩ := T.I_BadText.txt
  exact pmk_oex (X := X) (p := p) (pos := pos) tx.ox T.I_BadText.iC T.I_BadText.tI G hr b .nil (fun _ _ _ _ _ _ _ h => h.elim) hg T.g_BadText ha (by decide) he hpl
end
end K30

namespace K30
open PySem PySem.Spec PyProof.Rows L2 ExK
/-! ### the pen -/
structure PenAt (H : Hp) (p c : Addr) (ns : List Int) (T : Nat) : Prop where
  ex : ∃ turn rest : Int, H p = some (.lst [.ref c, .int turn, .int rest]) ∧ 0 ≤ turn ∧ turn ≤ T ∧ 0 ≤ rest
  cs : H c = some (.lst (ns.map V.int))
  ne : p ≠ c
/-- all but p stays -/
def Kp (p : Addr) (H H' : Hp) : Prop := ∀ b o, H b = some o → b ≠ p → H' b = some o
theorem Kp.refl (p : Addr) (H : Hp) : Kp p H H := fun _ _ h _ => h
theorem Kp.trans {p : Addr} {H H1 H2 : Hp} (a : Kp p H H1) (b : Kp p H1 H2) : Kp p H H2 := fun c o h n => b c o (a c o h n) n
theorem Kp.upd {p : Addr} {H : Hp} {o : HO} : Kp p H (upd H p o) := fun b u h n => by rw [upd_ne n]; exact h
theorem Kp.new {p q : Addr} {H : Hp} {o : HO} (h : H q = none) : Kp p H (L2.upd H q o) := fun b u e n => by rw [upd_ne (ne_of_none e h)]; exact e
theorem Kp.seq {K : PySem.W.Frag} {p : Addr} {H H' : Hp} {a : Addr} {xs : List V} (e : Kp p H H') (n : a ≠ p) (h : SqL K H a xs) : SqL K H' a xs := by
  rcases h with (h | ⟨o, h⟩) | h
  · exact .inl (.inl (e _ _ h n))
  · exact .inl (.inr ⟨o, e _ _ h n⟩)
  · exact .inr h
theorem Kp.tup {K : PySem.W.Frag} {p : Addr} {H H' : Hp} {a : Addr} {xs : List V} (e : Kp p H H') (n : a ≠ p) (h : SqT K H a xs) : SqT K H' a xs := by
  rcases h with (h | ⟨o, h⟩) | h
  · exact .inl (.inl (e _ _ h n))
  · exact .inl (.inr ⟨o, e _ _ h n⟩)
  · exact .inr h
theorem PenAt.new {H : Hp} {p c q : Addr} {ns : List Int} {T : Nat} {o : HO} (S : PenAt H p c ns T) (h : H q = none) : PenAt (upd H q o) p c ns T := by
  obtain ⟨⟨t, r, hp, h1⟩, hc, n⟩ := S
  exact ⟨⟨t, r, by rw [upd_ne (ne_of_none hp h)]; exact hp, h1⟩, by rw [upd_ne (ne_of_none hc h)]; exact hc, n⟩
theorem PenAt.mono {H : Hp} {p c : Addr} {ns : List Int} {T T' : Nat} (S : PenAt H p c ns T) (h : T ≤ T') : PenAt H p c ns T' := by
  obtain ⟨⟨t, r, hp, h1, h2, h3⟩, hc, n⟩ := S
  exact ⟨⟨t, r, hp, h1, by omega, h3⟩, hc, n⟩
def spDraw : Sp := fun vs H Q _ => ∃ (p c : Addr) (ns : List Int) (T : Nat) (many : Int), vs = [.ref p, .int many] ∧ PenAt H p c ns T ∧ 0 < many ∧ many < 1073741824 ∧ T ≤ 1000000 ∧
  ∀ (k : Int) (H' : Hp), 0 ≤ k → k < many → PenAt H' p c ns (T + 1) → Kp p H H' → Q (.int k) H'
def spPick (K : PySem.W.Frag) : Sp := fun vs H Q _ => ∃ (p c a : Addr) (ns : List Int) (T : Nat) (xs : List V), vs = [.ref p, .ref a] ∧ PenAt H p c ns T ∧ a ≠ p ∧ (SqL K H a xs ∨ SqT K H a xs) ∧ xs ≠ [] ∧ xs.length ≤ 1000 ∧ T ≤ 1000000 ∧
  ∀ (i : Nat) (x : V) (H' : Hp), xs[i]? = some x → PenAt H' p c ns (T + 1) → Kp p H H' → Q x H'
def spPen (K : PySem.W.Frag) : Sp := fun vs H Q _ => ∃ (a : Addr) (ns : List Int), vs = [.ref a] ∧ SqL K H a (ns.map V.int) ∧ ns.length ≤ 63 ∧
  ∀ (p c : Addr) (H' : Hp) (ns' : List Int), H p = none → H c = none → PenAt H' p c ns' 0 → (∀ b o, H b = some o → H' b = some o) → Q (.ref p) H'
section
variable {P : Program} {w : World} {K : PySem.W.Frag} {mg : Str → Option Value} {base : Heap}
theorem wdiv {i j : Int} (h1 : 0 < j) (h2 : j < 1073741824) : CDivW i j := wide_div (b := 30) h1 (by omega) (by decide) (by decide)
theorem units65 {A : Around} {k : Nat} (hr : Room k A) : A.units + 64 < cLine := hr.units
theorem dp_ints {H : Hp} : ∀ ns : List Int, DpAll K H (ns.map V.int) (ns.map PyData.int)
  | [] => .nil
  | n :: ns => .cons (.int n) (dp_ints ns)
theorem shaped_ints (ns : List Int) : SeqAt.shaped (.list (ns.map PyData.int)) = true := by
  have c : ∀ ns : List Int, PyData.canLayAll0 (ns.map PyData.int) = true := fun ns => by
    induction ns with
    | nil => simp [PyData.canLayAll0]
    | cons n ns ih => simp [PyData.canLayAll0, PyData.canLay0, ih]
  have e : ∀ ns : List Int, PyData.depthAll (ns.map PyData.int) ≤ 1 := fun ns => by
    induction ns with
    | nil => simp [PyData.depthAll]
    | cons n ns ih => simp only [List.map_cons, PyData.depthAll, PyData.depth]; omega
  have h2 : PyData.depth (.list (ns.map PyData.int)) ≤ 64 := by
    have := e ns
    simp only [PyData.depth]
    omega
  unfold SeqAt.shaped
  rw [Bool.and_eq_true]
  exact ⟨by simpa [PyData.canLay0] using c ns, decide_eq_true h2⟩
theorem mlo (x : Int) : -(2 ^ 64) < x % 2147483629 := by have := Int.emod_nonneg x (b := 2147483629) (by decide); omega
theorem mhi (x : Int) : x % 2147483629 < 2 ^ 64 := by have := Int.emod_lt_of_pos x (b := 2147483629) (by decide); omega
theorem mpw (x : Int) {t : Int} (h0 : 0 ≤ t) (h1 : t ≤ 1000000) : (x % 2147483629 * (2 * t + 7057) + 36107 * t * t + 94121).natAbs < 2 ^ 64 := by
  have a0 := Int.emod_nonneg x (b := 2147483629) (by decide)
  have a1 := Int.emod_lt_of_pos x (b := 2147483629) (by decide)
  generalize x % 2147483629 = m at a0 a1
  have b0 : 0 ≤ m * (2 * t + 7057) := Int.mul_nonneg a0 (by omega)
  have b1 : m * (2 * t + 7057) ≤ 2147483629 * 2007057 := Int.mul_le_mul (by omega) (by omega) (by omega) (by decide)
  have c0 : 0 ≤ 36107 * t * t := Int.mul_nonneg (by omega) h0
  have c1 : 36107 * t * t ≤ 36107000000 * 1000000 := Int.mul_le_mul (by omega) h1 h0 (by decide)
  omega
theorem atI_mod {ns : List Int} {t : Int} (h : ns ≠ []) : ∃ z, atI (ns.map V.int) (t % ((ns.map V.int).length : Nat)) = some (V.int z) := by
  have hl : 0 < ns.length := List.length_pos_iff.mpr h
  have e : (ns.map V.int).length = ns.length := List.length_map _
  rw [e]
  have h1 : 0 ≤ t % (ns.length : Int) := Int.emod_nonneg _ (by omega)
  have h2 : t % (ns.length : Int) < ns.length := Int.emod_lt_of_pos _ (by omega)
  have h3 : (t % (ns.length : Int)).toNat < ns.length := by omega
  refine ⟨ns[(t % (ns.length : Int)).toNat], at_of (j := (t % (ns.length : Int)).toNat) (by omega) ?_⟩
  rw [List.getElem?_map, List.getElem?_eq_getElem h3]
  rfl
theorem sc_law_draw : FnScope ["pen", "many", "rest", "turn", "cell", "mixed"] ["pen", "many"] (defScope s_law_draw) := ⟨rfl, rfl, rfl, by decide +kernel, rfl, by decide +kernel, by decide +kernel⟩
theorem ok_law_draw (T : Txt P K mg) : ∃ fd, FnOk P w K mg base CX0 1 (He.ga K "_law_draw") fd ["pen", "many"] spDraw ∧ Binds K fd ["pen", "many"] [] ∧ PySem.W.keepIn K (.ref (He.ga K "_law_draw")) = true := by
  obtain ⟨fd, F⟩ := T.F_law_draw
  refine ⟨fd, F.ok sc_law_draw (fun vs H Q E h => ?_) (fun cdv A outer s H vs Q E hr h => ?_), F.bindsN fun _ _ _ _ _ _ us hl => match us, hl with | [_, _], _ => rfl, F.kp⟩
  · obtain ⟨p, c, ns, T0, many, rfl, _⟩ := h
    rfl
  · obtain ⟨p, c, ns, T0, many, rfl, S, hm, hm2, hT, k⟩ := h
    obtain ⟨⟨turn, rest, hp, ht0, ht1, hr0⟩, hc, npc⟩ := id S
    refine ⟨_, PSs.nox (pss_cons (ps_if (pt_cmpR op_gt (pe_ix ix_list (pv 0) pe_int (fun _ _ => rfl)) pe_int (nomark _)) (pss_cons (ps_set (i := 2) sc_law_draw.nd rfl (Or.inl rfl) (pe_callTy call_int1 (by rfl) T.n_int (by decide +kernel) (pa_cons (pe_ix ix_list (pv 0) pe_int (fun _ _ => rfl)) pa_nil)))
      (pss_cons (ps_asg (pe_op op_fdivW (pv 2) (pv 1)) (pg_sub (pv 0) pe_int set_list))
      (pss_one (ps_ret (pe_op op_mod (pe_callTy call_int1 (by rfl) T.n_int (by decide +kernel) (pa_cons (pv 2) pa_nil)) (pv 1)))))) pss_nil)
      (pss_cons (ps_set (i := 3) sc_law_draw.nd rfl (Or.inl rfl) (pe_ix ix_list (pv 0) pe_int (fun _ _ => rfl)))
      (pss_cons (ps_asg (pe_op op_add (pv 3) pe_int) (pg_sub (pv 0) pe_int set_list))
      (pss_cons (ps_set (i := 4) sc_law_draw.nd rfl (Or.inl rfl) (pe_op op_add (pe_op op_mul pe_int (pv 3)) pe_int))
      (Evl.pss_cut (ps_if (pt_cmpR (op_neD hr.units) (pe_ix ix_list (pv 0) pe_int (fun _ _ => rfl)) (pe_lst pa_nil) (nomark _)) (pss_one (ps_set (i := 4) sc_law_draw.nd rfl (Or.inl rfl) (pe_ix ix_list (pe_ix ix_list (pv 0) pe_int (fun _ _ => rfl)) (pe_op op_mod (pe_callTy call_int1 (by rfl) T.n_int (by decide +kernel) (pa_cons (pv 3) pa_nil)) (pe_callB call_len_seq (by rfl) T.n_len PySem.boot_len (pa_cons (pe_ix ix_list (pv 0) pe_int (fun _ _ => rfl)) pa_nil))) (fun _ _ => rfl)))) pss_nil)
      (pss_cons (ps_if (PW.pt (pw_and (pt_cmpR op_lt (pv 3) (pe_callB call_len_seq (by rfl) T.n_len PySem.boot_len (pa_cons (pe_ix ix_list (pv 0) pe_int (fun _ _ => rfl)) pa_nil)) (nomark _)) (pw_and1 (pt_cmpR op_ge (pe_callB call_abs (by rfl) T.n_abs (by decide +kernel) (pa_cons (pv 4) pa_nil)) (pe_op op_pow pe_int pe_int) (nomark _))))) (pss_cons (ps_set (i := 2) sc_law_draw.nd rfl (Or.inl rfl) (pe_op op_add (pe_op op_mul pe_int (pe_op op_sub (pe_callB call_abs (by rfl) T.n_abs (by decide +kernel) (pa_cons (pv 4) pa_nil)) (pe_op op_pow pe_int pe_int))) (pe_callTy call_int1 (by rfl) T.n_int (by decide +kernel) (pa_cons (pe_cmpR op_lt (pv 4) pe_int (nomark _)) pa_nil))))
      (pss_cons (ps_asg (pe_op op_fdivW (pe_callTy call_int1 (by rfl) T.n_int (by decide +kernel) (pa_cons (pv 2) pa_nil)) (pv 1)) (pg_sub (pv 0) pe_int set_list))
      (pss_one (ps_ret (pe_op op_mod (pe_callTy call_int1 (by rfl) T.n_int (by decide +kernel) (pa_cons (pv 2) pa_nil)) (pv 1)))))) pss_nil)
      (pss_cons (ps_set (i := 5) sc_law_draw.nd rfl (Or.inl rfl) (pe_op op_mod (pe_callTy call_int1 (by rfl) T.n_int (by decide +kernel) (pa_cons (pe_op op_pow (pe_op op_add (pe_op op_add (pe_op op_mod (pe_callTy call_int1 (by rfl) T.n_int (by decide +kernel) (pa_cons (pv 4) pa_nil)) pe_int) (pe_op op_mul pe_int (pv 3))) pe_int) pe_int) pa_nil)) pe_int))
      (pss_cons (ps_set (i := 5) sc_law_draw.nd rfl (Or.inl rfl) (pe_op op_mod (pe_callTy call_int1 (by rfl) T.n_int (by decide +kernel) (pa_cons (pe_op op_pow (pe_op op_add (pe_op op_add (pe_op op_mul (pv 5) (pe_op op_add (pe_op op_mul pe_int (pv 3)) pe_int)) (pe_op op_mul (pe_op op_mul pe_int (pv 3)) (pv 3))) pe_int) pe_int) pa_nil)) pe_int))
      (pss_one (ps_ret (pe_op op_mod (pe_callTy call_int1 (by rfl) T.n_int (by decide +kernel) (pa_cons (pe_op op_fdiv (pv 5) pe_int) pa_nil)) (pv 1)))))))))))), ?_⟩
    refine ⟨_, rfl, p, _, _, _, rfl, rfl, SqL.of hp, atI_nat (j := 2) rfl, _, _, rfl, rfl, _, rfl, ?_⟩
    refine ite2 (fun hpos => ?_) (fun hpos => ?_)
    · -- a digit of a great cell
      refine ⟨_, rfl, p, _, _, _, rfl, rfl, SqL.of hp, atI_nat (j := 2) rfl, .inl ⟨_, rfl, ?_⟩⟩
      refine ⟨_, rfl, _, rfl, _, _, rfl, rfl, wdiv hm hm2, _, rfl, p, _, _, 2, rfl, rfl, hp, rfl, ?_⟩
      refine ⟨_, rfl, .inl ⟨_, rfl, _, rfl, _, _, rfl, rfl, hm, ?_⟩⟩
      refine k _ _ (Int.emod_nonneg _ (by omega)) (Int.emod_lt_of_pos _ hm) ⟨⟨turn, rest / many, upd_same, ht0, by omega, Int.ediv_nonneg hr0 (by omega)⟩, by rw [upd_ne npc.symm]; exact hc, npc⟩ .upd
    · -- a digit mixed from the next cell
      have hp1 : (upd H p (.lst [.ref c, .int (turn + 1), .int rest])) p = some (.lst [.ref c, .int (turn + 1), .int rest]) := upd_same
      have hc1 : (upd H p (.lst [.ref c, .int (turn + 1), .int rest])) c = some (.lst (ns.map V.int)) := by rw [upd_ne npc.symm]; exact hc
      refine ⟨_, rfl, p, _, _, _, rfl, rfl, SqL.of hp, atI_nat (j := 1) rfl, ?_⟩
      refine ⟨_, rfl, _, _, rfl, rfl, _, rfl, p, _, _, 1, rfl, rfl, hp, rfl, ?_⟩
      refine ⟨_, rfl, _, _, rfl, rfl, .inl ⟨by decide, by decide⟩, _, _, rfl, rfl, ?_⟩
      refine ⟨fun σ' H' => ∃ cell : Int, σ' = [some (.ref p), some (.int many), none, some (.int turn), some (.int cell), none] ∧ H' p = some (.lst [.ref c, .int (turn + 1), .int rest]) ∧ H' c = some (.lst (ns.map V.int)) ∧ Kp p H H', ?_, ?_⟩
      · refine ⟨_, rfl, p, _, _, _, rfl, rfl, SqL.of hp1, atI_nat (j := 0) rfl, by decide, fun q nq => ?_⟩
        have hpq : p ≠ q := ne_of_none hp1 nq
        have hcq : c ≠ q := ne_of_none hc1 nq
        have hp2 : (upd (upd H p (.lst [.ref c, .int (turn + 1), .int rest])) q (.lst [])) p = some (.lst [.ref c, .int (turn + 1), .int rest]) := by rw [upd_ne hpq]; exact hp1
        have hc2 : (upd (upd H p (.lst [.ref c, .int (turn + 1), .int rest])) q (.lst [])) c = some (.lst (ns.map V.int)) := by rw [upd_ne hcq]; exact hc1
        have kp : Kp p H (upd (upd H p (.lst [.ref c, .int (turn + 1), .int rest])) q (.lst [])) := Kp.upd.trans (.new nq)
        refine ⟨_, _, .lst (SqL.of hc2) (dp_ints ns), .lst (xs := []) (SqL.of upd_same) .nil, shaped_ints ns, rfl, _, rfl, ?_⟩
        cases ns with
        | nil => exact ⟨_, rfl, hp2, hc2, kp⟩
        | cons n0 ns0 =>
          obtain ⟨z, hz⟩ := atI_mod (ns := n0 :: ns0) (t := turn) (by simp)
          exact ⟨_, rfl, p, _, _, _, rfl, rfl, SqL.of hp2, atI_nat (j := 0) rfl, _, rfl, .inl ⟨_, rfl, _, rfl, p, _, _, _, rfl, rfl, SqL.of hp2, atI_nat (j := 0) rfl, c, _, rfl, .inl (SqL.of hc2), _, _, rfl, rfl,
            (by show (0 : Int) < (((n0 :: ns0).map V.int).length : Nat); simp), c, _, _, _, rfl, rfl, SqL.of hc2, hz, z, rfl, hp2, hc2, kp⟩⟩
      · rintro σ' H' ⟨cell, rfl, hp', hc', kp⟩
        have hTi : turn ≤ 1000000 := by omega
        refine ⟨_, rfl, _, rfl, p, _, _, _, rfl, rfl, SqL.of hp', atI_nat (j := 0) rfl, c, _, rfl, .inl (SqL.of hc'), _, _, rfl, rfl, _, rfl, ?_⟩
        refine ite2 (fun hlt => ⟨_, rfl, _, rfl, _, _, rfl, rfl, ⟨by decide, by decide, by decide⟩, _, _, rfl, rfl, _, rfl, ite2 (fun hge => ?_) fun hge => ?_⟩) (fun hlt => iteF ?_)
        · have hge' : (1000000000000000000 : Int) ≤ if cell < 0 then -cell else cell := of_decide_eq_true hge
          refine ⟨_, rfl, _, rfl, _, _, rfl, rfl, ⟨by decide, by decide, by decide⟩, _, _, rfl, rfl, _, _, rfl, rfl, .inl ⟨by decide, by decide⟩, _, rfl, _, _, rfl, rfl, .inr ⟨_, rfl, _, _, rfl, rfl, ?_⟩⟩
          have hR : 0 ≤ (2 : Int) * ((if cell < 0 then -cell else cell) - (10 : Int) ^ (18 : Int).toNat) + (if decide (cell < 0) = true then 1 else 0) := by
            have e10 : (10 : Int) ^ (18 : Int).toNat = 1000000000000000000 := by decide
            rw [e10]
            split <;> split <;> omega
          refine ⟨_, rfl, .inl ⟨_, rfl, _, rfl, _, _, rfl, rfl, wdiv hm hm2, _, rfl, p, _, _, 2, rfl, rfl, hp', rfl, ?_⟩⟩
          refine ⟨_, rfl, .inl ⟨_, rfl, _, rfl, _, _, rfl, rfl, hm, ?_⟩⟩
          refine k _ _ (Int.emod_nonneg _ (by omega)) (Int.emod_lt_of_pos _ hm) ⟨⟨turn + 1, _, upd_same, by omega, by omega, Int.ediv_nonneg hR (by omega)⟩, by rw [upd_ne npc.symm]; exact hc', npc⟩ (kp.trans .upd)
        all_goals
          have q0 := Int.emod_nonneg cell (b := 2147483549) (by decide)
          have q1 := Int.emod_lt_of_pos cell (b := 2147483549) (by decide)
          refine ⟨_, rfl, .inl ⟨_, rfl, _, _, rfl, rfl, (by show (0 : Int) < 2147483549; decide), _, rfl, _, _, rfl, rfl, .inl ⟨by decide, by decide⟩, _, _, rfl, rfl, _, _, rfl, rfl, _, _, rfl, rfl, ⟨by decide, by decide, (by show (cell % 2147483549 + 94121 * turn + 12241).natAbs < 2 ^ 64; omega)⟩, .inl ⟨_, rfl, _, _, rfl, rfl, (by show (0 : Int) < 2147483629; decide), ?_⟩⟩⟩
          refine ⟨_, rfl, _, rfl, _, _, rfl, rfl, .inl ⟨by decide, by decide⟩, _, _, rfl, rfl, _, _, rfl, rfl, .inl ⟨mlo _, mhi _⟩, _, rfl, _, _, rfl, rfl, .inl ⟨by decide, by decide⟩, _, rfl, _, _, rfl, rfl, .inl ⟨(by show -(2 ^ 64) < 36107 * turn; omega), (by show 36107 * turn < 2 ^ 64; omega)⟩,
            _, _, rfl, rfl, _, _, rfl, rfl, _, _, rfl, rfl, ⟨by decide, by decide, mpw _ ht0 hTi⟩, .inl ⟨_, rfl, _, _, rfl, rfl, (by show (0 : Int) < 2147483587; decide), ?_⟩⟩
          refine ⟨_, rfl, _, _, rfl, rfl, ⟨by decide, by decide⟩, .inl ⟨_, rfl, _, rfl, _, _, rfl, rfl, hm, ?_⟩⟩
          exact k _ _ (Int.emod_nonneg _ (by omega)) (Int.emod_lt_of_pos _ hm) ⟨⟨turn + 1, rest, hp', by omega, by omega, hr0⟩, hc', npc⟩ kp
end
end K30

namespace K30
open PySem PySem.Spec PyProof.Rows L2 ExK
section
variable {P : Program} {w : World} {K : PySem.W.Frag} {mg : Str → Option Value} {base : Heap}
theorem sc_law_pick : FnScope ["pen", "some"] ["pen", "some"] (defScope s_law_pick) := ⟨rfl, rfl, rfl, by decide +kernel, rfl, by decide +kernel, by decide +kernel⟩
theorem ok_law_pick (T : Txt P K mg) : ∃ fd, FnOk P w K mg base CX0 2 (He.ga K "_law_pick") fd ["pen", "some"] (spPick K) ∧ Binds K fd ["pen", "some"] [] ∧ PySem.W.keepIn K (.ref (He.ga K "_law_pick")) = true := by
  obtain ⟨fd, F⟩ := T.F_law_pick
  obtain ⟨fd1, G_law_draw, b_law_draw, k_law_draw⟩ := ok_law_draw (w := w) (base := base) T
  refine ⟨fd, F.ok sc_law_pick (fun vs H Q E h => ?_) (fun cdv A outer s H vs Q E hr h => ?_), F.bindsN fun _ _ _ _ _ _ us hl => match us, hl with | [_, _], _ => rfl, F.kp⟩
  · obtain ⟨p, c, a, ns, T0, xs, rfl, _⟩ := h
    rfl
  · obtain ⟨p, c, a, ns, T0, xs, rfl, S, nap, hS, hne, hl, hT, k⟩ := h
    have hpos : 0 < xs.length := List.length_pos_iff.mpr hne
    refine ⟨_, PSs.nox (pss_one (ps_ret (pe_ix (IxR.or ix_list ix_tup) (pv 1) (pe_call G_law_draw (hr.mono (by decide)) rfl T.g_law_draw k_law_draw b_law_draw .nil pass0 (pa_cons (pv 0) (pa_cons (pe_callB call_len_seq (by rfl) T.n_len PySem.boot_len (pa_cons (pv 1) pa_nil)) pa_nil))) (fun _ _ => rfl)))), ?_⟩
    refine ⟨_, rfl, _, rfl, _, rfl, a, xs, rfl, hS, p, c, ns, T0, _, rfl, S, by omega, by omega, hT, fun i H1 h0 h1 S1 kp1 => ?_⟩
    have hi : i.toNat < xs.length := by omega
    have e : atI xs i = some xs[i.toNat] := at_of (j := i.toNat) (by omega) (List.getElem?_eq_getElem hi)
    rcases hS with h | h
    · exact .inl ⟨a, xs, i, _, rfl, rfl, kp1.seq nap h, e, k i.toNat _ _ (List.getElem?_eq_getElem hi) S1 kp1⟩
    · exact .inr ⟨a, xs, i, _, rfl, rfl, kp1.tup nap h, e, k i.toNat _ _ (List.getElem?_eq_getElem hi) S1 kp1⟩
theorem sc_law_pen : FnScope ["script", "cell"] ["script"] (defScope s_law_pen) := ⟨rfl, rfl, rfl, by decide +kernel, rfl, by decide +kernel, by decide +kernel⟩
theorem ok_law_pen (T : Txt P K mg) : ∃ fd, FnOk P w K mg base CX0 1 (He.ga K "_law_pen") fd ["script"] (spPen K) ∧ Binds K fd ["script"] [] ∧ PySem.W.keepIn K (.ref (He.ga K "_law_pen")) = true := by
  obtain ⟨fd, F⟩ := T.F_law_pen
  refine ⟨fd, F.ok sc_law_pen (fun vs H Q E h => ?_) (fun cdv A outer s H vs Q E hr h => ?_), F.bindsN fun _ _ _ _ _ _ us hl => match us, hl with | [_], _ => rfl, F.kp⟩
  · obtain ⟨a, ns, rfl, _⟩ := h
    rfl
  · obtain ⟨a, ns, rfl, hS, hl, k⟩ := h
    refine ⟨_, PSs.nox (pss_one (ps_ret (pe_lst (pa_cons (pe_lc (own := [("cell", 1)]) rfl sc_law_pen.nd (pi_list (pe_slice sl_list (pv 0) po_none (po_some pe_int))) (blkOk_by (own := [("cell", 1)]) (N := ["script", "cell"]) (sc := (defScope s_law_pen)) (by decide +kernel)) (fun _ _ _ _ _ => (pg_name (i := 1) sc_law_pen.nd rfl (Or.inl rfl))) (fun _ _ _ _ _ => pts_nil) (fun _ _ _ _ _ => (pe_callTy call_int1 (by rfl) T.n_int (by decide +kernel) (pa_cons (pv 1) pa_nil)))) (pa_cons pe_int (pa_cons pe_int pa_nil)))))), ?_⟩
    -- [[int(cell) for cell in script[:63]], 0, 0]
    refine ⟨_, rfl, _, rfl, a, _, rfl, hS, fun q nq => ?_⟩
    have hq : (upd H q (.lst (cutV (ns.map V.int) none (some 63)))) q = some (.lst (cutV (ns.map V.int) none (some 63))) := upd_same
    have hcut : ∃ ms : List Int, cutV (ns.map V.int) none (some 63) = ms.map V.int ∧ ms.length ≤ 63 := by
      refine ⟨(ns.drop (HT.sIx (ns.map V.int).length 0 none)).take (HT.sIx (ns.map V.int).length (ns.map V.int).length (some 63) - HT.sIx (ns.map V.int).length 0 none), ?_, ?_⟩
      · unfold cutV
        rw [List.map_take, List.map_drop]
      · rw [List.length_take, List.length_drop]
        omega
    obtain ⟨ms, hms, hml⟩ := hcut
    rw [hms] at hq ⊢
    refine ⟨q, rfl, ⟨_, SqL.of hq⟩, fun D nD => ?_⟩
    have hqD : q ≠ D := ne_of_none hq nD
    refine lc_list (K := K) (a := q) (xs := ms.map V.int) (fun i H' => H' = upd (upd H q (.lst (ms.map V.int))) D (.lst ((ms.take i).map V.int))) rfl (fun i H' _ e => ?_) (fun i x H' hx e => ?_) (fun H' e => ?_)
    · subst e
      exact SqL.of (by rw [upd_ne hqD]; exact hq)
    · subst e
      obtain ⟨z, hz, rfl⟩ : ∃ z, ms[i]? = some z ∧ x = V.int z := by
        rw [List.getElem?_map] at hx
        cases e : ms[i]? with
        | none => rw [e] at hx; cases hx
        | some z => rw [e] at hx; exact ⟨z, rfl, (Option.some.inj hx).symm⟩
      have hi : i < ms.length := (List.getElem?_eq_some_iff.mp hz).1
      refine ⟨rfl, ?_⟩
      refine ⟨_, rfl, .inl ⟨_, rfl, _, upd_same, small1000 (by rw [List.length_map, List.length_take]; omega), ?_⟩⟩
      rw [upd_upd, List.take_succ, hz, List.map_append]
      rfl
    · subst e
      have nD' : (upd H q (.lst (ms.map V.int))) D = none := nD
      have nD0 : H D = none := by rw [upd_ne hqD.symm] at nD; exact nD
      refine ⟨(by show 3 ≤ sizeLine; decide), fun p np => ?_⟩
      have hDp : D ≠ p := ne_of_none upd_same np
      have np0 : H p = none := by
        have hpq : p ≠ q := fun z => by rw [z, upd_ne hqD, upd_same] at np; cases np
        rw [upd_ne hDp.symm, upd_ne hpq] at np
        exact np
      refine k p D _ ms np0 nD0 ⟨⟨0, 0, upd_same, by decide, by decide, by decide⟩, ?_, hDp.symm⟩ fun b o hb => ?_
      · rw [upd_ne hDp, upd_same, List.length_map, List.take_length]
      · rw [upd_ne (ne_of_none hb np0), upd_ne (ne_of_none hb nD0), upd_ne (ne_of_none hb nq)]
        exact hb
end
end K30

namespace K30
open PySem PySem.Spec PyProof.Rows L2 ExK
/-! ### words -/
def lowL : List Nat := ("abcdefghijklmnopqrstuvwxyz" : Str).cps.toList
def sgnL : List Nat := ("abcdefghijklmnopqrstuvwxyz0123456789" : Str).cps.toList
def figL : List Nat := ("0123456789" : Str).cps.toList
def nameB (s : Str) : Bool := (decide (1 ≤ s.length) && decide (s.length ≤ 8)) && (decide (s.cps.toList.headD 0 ∈ lowL) && s.cps.toList.all fun c => decide (c ∈ sgnL))
def figB (s : Str) : Bool := (decide (1 ≤ s.length) && decide (s.length ≤ 20)) && ((s.cps.toList.all fun c => decide (c ∈ figL)) && (decide (s.length = 1) || !decide (s.cps.toList.headD 0 = 48)))
def vO : Option Str → V
  | none => .non
  | some s => .str s
theorem vO_inj : ∀ {a b : Option Str}, vO a = vO b → a = b
  | none, none, _ => rfl
  | none, some _, h => nomatch h
  | some _, none, h => nomatch h
  | some _, some _, h => congrArg some (V.str.inj h)
def Sm (H H' : Hp) : Prop := ∀ b o, H b = some o → H' b = some o
def spIsName : Sp := fun vs H Q _ => ∃ (o : Option Str), vs = [vO o] ∧ (∀ s, o = some s → s.length ≤ 1000) ∧ ∀ H', Sm H H' → Q (.bl (o.elim false nameB)) H'
def spIsFig : Sp := fun vs H Q _ => ∃ (s : Str), vs = [.str s] ∧ s.length ≤ 1000 ∧ ∀ H', Sm H H' → Q (.bl (figB s)) H'
theorem s1000 {n : Nat} (h : n ≤ 1000) : n ≤ sizeLine := Nat.le_of_lt (small1000 h)
theorem len_l (s : Str) : s.cps.toList.length = s.length := by
  show s.cps.toList.length = s.cps.size
  simp
theorem at0 {s : Str} (h : 1 ≤ s.length) : atI s.cps.toList 0 = some (s.cps.toList.headD 0) := by
  cases e : s.cps.toList with
  | nil =>
    have := len_l s
    rw [e] at this
    simp at this
    omega
  | cons c r => exact atI_nat (j := 0) rfl
section
variable {P : Program} {w : World} {K : PySem.W.Frag} {mg : Str → Option Value} {base : Heap}
theorem take_sign {z : Str} {i c : Nat} (h : z.cps[i]? = some c) : z.cps.toList.take (i + 1) = z.cps.toList.take i ++ [c] := by
  have e : z.cps.toList[i]? = some c := by simpa using h
  rw [List.take_succ, e]
  rfl
theorem size_l (z : Str) : z.cps.size = z.cps.toList.length := by simp
theorem sc_is_name : FnScope ["value", "sign"] ["value"] (defScope s_is_name) := ⟨rfl, rfl, rfl, by decide +kernel, rfl, by decide +kernel, by decide +kernel⟩
theorem ok_is_name (T : Txt P K mg) : ∃ fd, FnOk P w K mg base CX0 1 (He.ga K "is_name") fd ["value"] spIsName ∧ Binds K fd ["value"] [] ∧ PySem.W.keepIn K (.ref (He.ga K "is_name")) = true := by
  obtain ⟨fd, F⟩ := T.F_is_name
  obtain ⟨tL, hLETTERS⟩ := T.c_LETTERS
  obtain ⟨tS, hSIGNS⟩ := T.c_SIGNS
  obtain ⟨tM, hMOST⟩ := T.c_MOST_SIGNS
  refine ⟨fd, F.ok sc_is_name (fun vs H Q E h => ?_) (fun cdv A outer s H vs Q E hr h => ?_), F.bindsN fun _ _ _ _ _ _ us hl => match us, hl with | [_], _ => rfl, F.kp⟩
  · obtain ⟨o, rfl, _⟩ := h
    rfl
  · obtain ⟨o, rfl, hl, k⟩ := h
    refine ⟨_, PSs.nox (pss_cons (ps_if (PW.pt (pw_or (pt_not (pt_val (pe_callB call_isi (by rfl) T.n_isinstance (by decide +kernel) (pa_cons (pv 0) (pa_cons (pe_bltn (v := .ty "str") (by rfl) T.n_str (by decide +kernel) rfl) pa_nil))))) (pw_or (pt_not (pt_chain op_le op_le pe_int (pe_callB call_len_str (by rfl) T.n_len PySem.boot_len (pa_cons (pv 0) pa_nil)) (pe_glob (v := .int _) rfl hMOST ⟨_, rfl⟩))) (pw_or1 (pt_cmpR op_notIn_sign (pe_ix ix_str (pv 0) pe_int (fun _ _ => rfl)) (pe_glob (v := .str _) rfl hLETTERS ⟨_, rfl⟩) (by with_unfolding_all rfl)))))) (pss_one (ps_ret pe_bl)) pss_nil)
      (pss_one (ps_ret (pe_callB (cr_all rfl) (by rfl) T.n_all (by decide +kernel) (pa_cons (pe_lc (own := [("sign", 1)]) rfl sc_is_name.nd (pi_str (pv 0)) (blkOk_by (own := [("sign", 1)]) (N := ["value", "sign"]) (sc := (defScope s_is_name)) (by decide +kernel)) (fun _ _ _ _ _ => (pg_name (i := 1) sc_is_name.nd rfl (Or.inl rfl))) (fun _ _ _ _ _ => pts_nil) (fun _ _ _ _ _ => (pe_cmpR op_in_sign (pv 1) (pe_glob (v := .str _) rfl hSIGNS ⟨_, rfl⟩) (by with_unfolding_all rfl)))) pa_nil))))), ?_⟩
    cases o with
    | none =>
      refine ⟨_, rfl, _, _, _, _, _, rfl, .ty "str", .base .non, kit_ty (r := false) (by decide +kernel), _, rfl, ?_⟩
      exact iteT (k _ fun b o h => h)
    | some z =>
      have hz := hl z rfl
      refine ⟨_, rfl, _, _, _, _, _, rfl, .ty "str", .base (.str z), kit_ty (r := true) (by decide +kernel), _, rfl, ?_⟩
      have no : nameB z = false → Q (V.bl false) H := fun e => by
        have q := k H fun _ _ h => h
        rw [show (some z).elim false nameB = false from e] at q
        exact q
      refine iteF ⟨_, rfl, _, rfl, s1000 hz, _, _, rfl, rfl, _, rfl, ite2 (fun h1 => ?_) fun h1 => ?_⟩
      · have h1' : 1 ≤ z.length := by have := of_decide_eq_true h1; omega
        refine ⟨_, _, rfl, rfl, _, rfl, ite2 (fun h2 => ?_) fun h2 => ?_⟩
        · have h2' : ¬ z.length ≤ 8 := by
            intro q
            have q' : (z.length : Int) ≤ 8 := by omega
            rw [decide_eq_true q'] at h2
            cases h2
          refine iteT (no ?_)
          unfold nameB
          rw [decide_eq_false h2', Bool.and_false, Bool.false_and]
        · have h2' : z.length ≤ 8 := by
            have q : ((z.length : Int) ≤ 8) := by
              by_cases q : (z.length : Int) ≤ 8
              · exact q
              · rw [decide_eq_false q] at h2
                exact absurd rfl h2
            omega
          refine ⟨_, rfl, _, _, _, rfl, rfl, s1000 hz, at0 h1', _, _, rfl, rfl, _, rfl, ite2 (fun h3 => ?_) fun h3 => ?_⟩
          · refine no ?_
            have q : decide (z.cps.toList.headD 0 ∈ lowL) = false := by
              cases e : decide (z.cps.toList.headD 0 ∈ lowL) with
              | false => rfl
              | true =>
                have e' : decide (z.cps.toList.headD 0 ∈ ("abcdefghijklmnopqrstuvwxyz" : Str).cps.toList) = true := e
                rw [e'] at h3
                cases h3
            unfold nameB
            rw [q, Bool.false_and, Bool.and_false]
          · have q : decide (z.cps.toList.headD 0 ∈ lowL) = true := by
              cases e : decide (z.cps.toList.headD 0 ∈ lowL) with
              | true => rfl
              | false =>
                have e' : decide (z.cps.toList.headD 0 ∈ ("abcdefghijklmnopqrstuvwxyz" : Str).cps.toList) = false := e
                rw [e'] at h3
                exact absurd rfl h3
            refine ⟨_, rfl, z, rfl, fun D nD => lc_it walk_str (fun i H' => H' = upd H D (.lst (((z.cps.toList.take i).map fun c => decide (c ∈ sgnL)).map V.bl))) rfl (fun _ _ _ _ => trivial) (fun i x H' H'' hi e y => ?_) (fun H' e => ?_)⟩
            · obtain ⟨rfl, c, hc, rfl⟩ := y
              subst e
              refine ⟨rfl, _, rfl, _, _, rfl, rfl, _, upd_same, small1000 (by rw [List.length_map, List.length_map, List.length_take, len_l]; omega), ?_⟩
              rw [upd_upd, take_sign hc, List.map_append, List.map_append]
              rfl
            · subst e
              refine ⟨D, _, rfl, SqL.of upd_same, ?_⟩
              have kk := k (upd H D (.lst (((z.cps.toList.take z.cps.size).map fun c => decide (c ∈ sgnL)).map V.bl))) fun b o hb => by rw [upd_ne (ne_of_none hb nD)]; exact hb
              have e1 : (some z).elim false nameB = ((z.cps.toList.take z.cps.size).map fun c => decide (c ∈ sgnL)).all id := by
                show nameB z = _
                unfold nameB
                rw [decide_eq_true h1', decide_eq_true h2', q, size_l, List.take_length, List.all_map]
                rfl
              rw [e1] at kk
              exact kk
      · have h1' : ¬ 1 ≤ z.length := by
          intro q
          exact h1 (decide_eq_true (by omega))
        refine ⟨_, rfl, iteT (iteT (no ?_))⟩
        unfold nameB
        rw [decide_eq_false h1', Bool.false_and, Bool.false_and]
end
end K30

namespace K30
open PySem PySem.Spec PyProof.Rows L2 ExK
theorem str_zero (c : Nat) : decide (V.str ⟨#[c]⟩ = V.str ("0" : Str)) = decide (c = 48) := by
  have e : ("0" : Str) = ⟨#[48]⟩ := by decide +kernel
  rw [e]
  by_cases h : c = 48
  · subst h; simp
  · have h2 : ¬ V.str ⟨#[c]⟩ = V.str ⟨#[48]⟩ := fun q => h (by
      have q2 := V.str.inj q
      have q3 : (#[c] : Array Nat) = #[48] := congrArg Str.cps q2
      simpa using q3)
    rw [decide_eq_false h, decide_eq_false h2]
theorem int_eq_dec (a b : Int) : decide (V.int a = V.int b) = decide (a = b) := by
  by_cases h : a = b
  · subst h; simp
  · have h2 : ¬ V.int a = V.int b := fun q => h (V.int.inj q)
    rw [decide_eq_false h, decide_eq_false h2]
theorem dp_strs {K : PySem.W.Frag} {H : Hp} : ∀ xs : List Str, DpAll K H (xs.map V.str) (xs.map PyData.str)
  | [] => .nil
  | x :: xs => .cons (.str x) (dp_strs xs)
theorem canLay_strs : ∀ xs : List Str, (∀ x ∈ xs, PyData.strOk x = true) → PyData.canLayAll0 (xs.map PyData.str) = true
  | [], _ => by simp [PyData.canLayAll0]
  | x :: xs, h => by
    simp only [List.map_cons, PyData.canLayAll0, PyData.canLay0, Bool.and_eq_true]
    exact ⟨h x List.mem_cons_self, canLay_strs xs fun y hy => h y (List.mem_cons_of_mem _ hy)⟩
theorem depth_strs : ∀ xs : List Str, PyData.depthAll (xs.map PyData.str) ≤ 1
  | [] => by simp [PyData.depthAll]
  | x :: xs => by
    have := depth_strs xs
    simp only [List.map_cons, PyData.depthAll, PyData.depth]
    omega
theorem shaped_strs {xs : List Str} (h : ∀ x ∈ xs, PyData.strOk x = true) : SeqAt.shaped (.list (xs.map PyData.str)) = true := by
  have := depth_strs xs
  unfold SeqAt.shaped
  rw [Bool.and_eq_true]
  exact ⟨by simpa [PyData.canLay0] using canLay_strs xs h, decide_eq_true (by simp only [PyData.depth]; omega)⟩
theorem eqv_nil (ds : List PyData) : PyData.eqv (.list ds) (.list []) = ds.isEmpty := by
  cases ds <;> rfl
theorem inV_strs (s : Str) (xs : List Str) : inV (.str s) (xs.map V.str) = decide (s ∈ xs) := by
  unfold inV
  rw [List.any_map]
  induction xs with
  | nil => rfl
  | cons x xs ih =>
    rw [List.any_cons, ih]
    show ((x == s) || decide (s ∈ xs)) = decide (s ∈ x :: xs)
    by_cases e : x = s
    · subst e; simp
    · have e1 : (x == s) = false := by simpa using e
      have e2 : ¬ s = x := fun q => e q.symm
      rw [e1]
      simp [e2]
theorem flat_strs (xs : List Str) : (xs.map V.str).all flatV = true := by
  induction xs with
  | nil => rfl
  | cons x xs ih => exact ih
def numV (s : Str) : Int := (PySem.intText? s).getD 0
def asc (s : Str) : Prop := s.length ≤ 1000 ∧ ∀ c ∈ s.cps.toList, c < 128
def one (c : Nat) : Str := ⟨#[c]⟩
theorem one_ok {c : Nat} (h : c < 128) : PyData.strOk (one c) = true := by
  have : c < 0x110000 := by omega
  simp [PyData.strOk, one, this]
def spSName (K : PySem.W.Frag) : Sp := fun vs H Q _ => ∃ (o : Option Str) (a : Addr) (xs : List Str), vs = [vO o, .ref a] ∧ (SqL K H a (xs.map V.str) ∨ SqT K H a (xs.map V.str)) ∧ (∀ s, o = some s → asc s) ∧
  ∀ H', Sm H H' → Q (.bl (o.elim false fun s => nameB s && !decide (s ∈ xs))) H'
def spSNum : Sp := fun vs H Q _ => ∃ (o : Option Str) (least most : Int), vs = [vO o, .int least, .int most] ∧ (∀ s, o = some s → asc s ∧ (figB s = true → PySem.intText? s = some (numV s))) ∧
  ∀ H', Sm H H' → Q (.bl (o.elim false fun s => figB s && (decide (least ≤ numV s) && decide (numV s ≤ most)))) H'
theorem Sm.new {H : Hp} {q : Addr} {o : HO} (h : H q = none) : Sm H (upd H q o) := fun b u e => by rw [upd_ne (ne_of_none e h)]; exact e
theorem Sm.trans {H H1 H2 : Hp} (a : Sm H H1) (b : Sm H1 H2) : Sm H H2 := fun c o h => b c o (a c o h)
theorem Sm.seq {K : PySem.W.Frag} {H H' : Hp} {a : Addr} {xs : List V} (e : Sm H H') (h : SqL K H a xs) : SqL K H' a xs := by
  rcases h with (h | ⟨o, h⟩) | h
  · exact .inl (.inl (e _ _ h))
  · exact .inl (.inr ⟨o, e _ _ h⟩)
  · exact .inr h
theorem Sm.tup {K : PySem.W.Frag} {H H' : Hp} {a : Addr} {xs : List V} (e : Sm H H') (h : SqT K H a xs) : SqT K H' a xs := by
  rcases h with (h | ⟨o, h⟩) | h
  · exact .inl (.inl (e _ _ h))
  · exact .inl (.inr ⟨o, e _ _ h⟩)
  · exact .inr h
theorem filt_ones {z : Str} (hz : asc z) (f : Nat → Bool) : ∀ x ∈ (z.cps.toList.filter f).map one, PyData.strOk x = true := by
  intro x hx
  obtain ⟨c, hc, rfl⟩ := List.mem_map.mp hx
  exact one_ok (hz.2 c (List.mem_filter.mp hc).1)
theorem empty_all {l : List Nat} (f : Nat → Bool) : (((l.filter fun c => !f c).map one).map PyData.str).isEmpty = l.all f := by
  induction l with
  | nil => rfl
  | cons c l ih =>
    rw [List.filter_cons, List.all_cons]
    cases h : f c with
    | true => simpa [h] using ih
    | false => simp [h]
theorem take_filt {z : Str} {i c : Nat} (h : z.cps[i]? = some c) (f : Nat → Bool) : (z.cps.toList.take (i + 1)).filter f = (z.cps.toList.take i).filter f ++ (if f c = true then [c] else []) := by
  rw [take_sign h, List.filter_append, List.filter_cons]
  rfl
theorem len_filt (z : Str) (f : Nat → Bool) (i : Nat) : (((z.cps.toList.take i).filter f).map one).length ≤ z.length := by
  rw [List.length_map, ← len_l]
  exact Nat.le_trans (List.length_filter_le _ _) (by rw [List.length_take]; omega)
section
variable {P : Program} {w : World} {K : PySem.W.Frag} {mg : Str → Option Value} {base : Heap}
theorem sc_is_figures : FnScope ["word", "sign"] ["word"] (defScope s_is_figures) := ⟨rfl, rfl, rfl, by decide +kernel, rfl, by decide +kernel, by decide +kernel⟩
theorem ok_is_figures (T : Txt P K mg) : ∃ fd, FnOk P w K mg base CX0 1 (He.ga K "is_figures") fd ["word"] spIsFig ∧ Binds K fd ["word"] [] ∧ PySem.W.keepIn K (.ref (He.ga K "is_figures")) = true := by
  obtain ⟨fd, F⟩ := T.F_is_figures
  obtain ⟨tM, hMOST⟩ := T.c_MOST_FIGURES
  refine ⟨fd, F.ok sc_is_figures (fun vs H Q E h => ?_) (fun cdv A outer s H vs Q E hr h => ?_), F.bindsN fun _ _ _ _ _ _ us hl => match us, hl with | [_], _ => rfl, F.kp⟩
  · obtain ⟨o, rfl, _⟩ := h
    rfl
  · obtain ⟨z, rfl, hz, k⟩ := h
    refine ⟨_, PSs.nox (pss_cons (ps_if (PW.pt (pw_or (pt_not (pt_chain op_le op_le pe_int (pe_callB call_len_str (by rfl) T.n_len PySem.boot_len (pa_cons (pv 0) pa_nil)) (pe_glob (v := .int _) rfl hMOST ⟨_, rfl⟩))) (pw_or1 (pt_not (pt_val (pe_callB (cr_all rfl) (by rfl) T.n_all (by decide +kernel) (pa_cons (pe_lc (own := [("sign", 1)]) rfl sc_is_figures.nd (pi_str (pv 0)) (blkOk_by (own := [("sign", 1)]) (N := ["word", "sign"]) (sc := (defScope s_is_figures)) (by decide +kernel)) (fun _ _ _ _ _ => (pg_name (i := 1) sc_is_figures.nd rfl (Or.inl rfl))) (fun _ _ _ _ _ => pts_nil) (fun _ _ _ _ _ => (pe_cmpR op_in_sign (pv 1) pe_str (by with_unfolding_all rfl)))) pa_nil))))))) (pss_one (ps_ret pe_bl)) pss_nil)
      (pss_one (ps_ret (pe_or (pe_cmpR op_eq (pe_callB call_len_str (by rfl) T.n_len PySem.boot_len (pa_cons (pv 0) pa_nil)) pe_int (nomark _)) (pe_one (pe_cmpR op_ne (pe_ix ix_str (pv 0) pe_int (fun _ _ => rfl)) pe_str (nomark _))))))), ?_⟩
    have no : ∀ {H'}, Sm H H' → figB z = false → Q (V.bl false) H' := fun s e => by
      have q := k _ s
      rw [e] at q
      exact q
    refine ⟨_, rfl, _, rfl, s1000 hz, _, _, rfl, rfl, _, rfl, ite2 (fun h1 => ?_) fun h1 => ?_⟩
    · have h1' : 1 ≤ z.length := by have := of_decide_eq_true h1; omega
      refine ⟨_, _, rfl, rfl, _, rfl, ite2 (fun h2 => ?_) fun h2 => ?_⟩
      · have h2' : ¬ z.length ≤ 20 := by
          intro q
          have q' : (z.length : Int) ≤ 20 := by omega
          rw [decide_eq_true q'] at h2
          cases h2
        refine iteT (no (fun b o h => h) ?_)
        unfold figB
        rw [decide_eq_false h2', Bool.and_false, Bool.false_and]
      · have h2' : z.length ≤ 20 := by
          have q : ((z.length : Int) ≤ 20) := by
            by_cases q : (z.length : Int) ≤ 20
            · exact q
            · rw [decide_eq_false q] at h2
              exact absurd rfl h2
          omega
        refine ⟨_, rfl, z, rfl, fun D nD => lc_it walk_str (fun i H' => H' = upd H D (.lst (((z.cps.toList.take i).map fun c => decide (c ∈ figL)).map V.bl))) rfl (fun _ _ _ _ => trivial) (fun i x H' H'' hi e y => ?_) (fun H' e => ?_)⟩
        · obtain ⟨rfl, c, hc, rfl⟩ := y
          subst e
          refine ⟨rfl, _, rfl, _, _, rfl, rfl, _, upd_same, small1000 (by rw [List.length_map, List.length_map, List.length_take, len_l]; omega), ?_⟩
          rw [upd_upd, take_sign hc, List.map_append, List.map_append]
          rfl
        · subst e
          have sm : Sm H (upd H D (.lst (((z.cps.toList.take z.cps.size).map fun c => decide (c ∈ figL)).map V.bl))) := .new nD
          refine ⟨D, _, rfl, SqL.of upd_same, _, rfl, ?_⟩
          have e1 : ((z.cps.toList.take z.cps.size).map fun c => decide (c ∈ figL)).all id = z.cps.toList.all fun c => decide (c ∈ figL) := by
            rw [size_l, List.take_length, List.all_map]
            rfl
          rw [e1]
          cases ea : z.cps.toList.all fun c => decide (c ∈ figL) with
          | false =>
            refine iteT (no sm ?_)
            unfold figB
            rw [ea, Bool.false_and, Bool.and_false]
          | true =>
            refine iteF ⟨_, rfl, _, rfl, s1000 hz, rfl, _, rfl, ?_⟩
            have kk := k _ sm
            have ef : figB z = (decide (z.length = 1) || !decide (z.cps.toList.headD 0 = 48)) := by
              unfold figB
              rw [ea, decide_eq_true h1', decide_eq_true h2']
              rfl
            rw [ef] at kk
            have e2 : decide (V.int (z.length : Int) = V.int 1) = decide (z.length = 1) := by
              rw [int_eq_dec]
              by_cases q : z.length = 1
              · rw [decide_eq_true q, decide_eq_true (by omega)]
              · rw [decide_eq_false q, decide_eq_false (by omega)]
            have e2' : decide (V.int ((z.length : Nat) : Int) = V.int 1) = decide (z.length = 1) := e2
            refine ite2 (fun h3 => ?_) fun h3 => ?_
            · rw [show decide (z.length = 1) = true from e2.symm.trans h3] at kk
              exact kk
            · have h3' : decide (z.length = 1) = false := by
                cases q : decide (z.length = 1) with
                | false => rfl
                | true => exact absurd (e2.trans q) h3
              refine ⟨_, rfl, _, _, _, rfl, rfl, s1000 hz, at0 h1', rfl, ?_⟩
              rw [h3'] at kk
              have e4 := str_zero (z.cps.toList.headD 0)
              show Q (.bl (!decide (V.str ⟨#[z.cps.toList.headD 0]⟩ = V.str "0"))) _
              rw [e4]
              exact kk
    · have h1' : ¬ 1 ≤ z.length := by
        intro q
        exact h1 (decide_eq_true (by omega))
      refine ⟨_, rfl, iteT (iteT (no (fun b o h => h) ?_))⟩
      unfold figB
      rw [decide_eq_false h1', Bool.false_and, Bool.false_and]
end
end K30

namespace K30
open PySem PySem.Spec PyProof.Rows L2 ExK
section
variable {P : Program} {w : World} {K : PySem.W.Frag} {mg : Str → Option Value} {base : Heap}
theorem len_dec (z : Str) (n : Nat) : decide ((z.length : Int) ≤ (n : Int)) = decide (z.length ≤ n) := by
  by_cases q : z.length ≤ n
  · rw [decide_eq_true q, decide_eq_true (by omega)]
  · rw [decide_eq_false q, decide_eq_false (by omega)]
theorem len_dec1 (z : Str) : decide ((1 : Int) ≤ (z.length : Int)) = decide (1 ≤ z.length) := by
  by_cases q : 1 ≤ z.length
  · rw [decide_eq_true q, decide_eq_true (by omega)]
  · rw [decide_eq_false q, decide_eq_false (by omega)]
theorem sc_law_s_name : FnScope ["word", "others", "letters", "sign"] ["word", "others"] (defScope s_law_s_name) := ⟨rfl, rfl, rfl, by decide +kernel, rfl, by decide +kernel, by decide +kernel⟩
theorem ok_law_s_name (T : Txt P K mg) : ∃ fd, FnOk P w K mg base CX0 1 (He.ga K "_law_s_name") fd ["word", "others"] (spSName K) ∧ Binds K fd ["word", "others"] [] ∧ PySem.W.keepIn K (.ref (He.ga K "_law_s_name")) = true := by
  obtain ⟨fd, F⟩ := T.F_law_s_name
  refine ⟨fd, F.ok sc_law_s_name (fun vs H Q E h => ?_) (fun cdv A outer s H vs Q E hr h => ?_), F.bindsN fun _ _ _ _ _ _ us hl => match us, hl with | [_, _], _ => rfl, F.kp⟩
  · obtain ⟨o, a, xs, rfl, _⟩ := h
    rfl
  · obtain ⟨o, a, xs, rfl, hS, ho, k⟩ := h
    refine ⟨_, PSs.nox (pss_cons (ps_set (i := 2) sc_law_s_name.nd rfl (Or.inr rfl) pe_str)
      (pss_one (ps_ret (pe_and (pe_cmp (pc_notN (pv 0)) rfl) (pe_and (pe_chain op_le op_le pe_int (pe_callB call_len_str (by rfl) T.n_len PySem.boot_len (pa_cons (pv 0) pa_nil)) pe_int) (pe_and (pe_cmpR op_in_sign (pe_ix ix_str (pv 0) pe_int (fun _ _ => rfl)) (pv 2) (by with_unfolding_all rfl)) (pe_and (pe_cmpR (op_eqD hr.units) (pe_lc (own := [("sign", 3)]) rfl sc_law_s_name.nd (pi_str (pv 0)) (blkOk_by (own := [("sign", 3)]) (N := ["word", "others", "letters", "sign"]) (sc := (defScope s_law_s_name)) (by decide +kernel)) (fun _ _ _ _ _ => (pg_name (i := 3) sc_law_s_name.nd rfl (Or.inl rfl))) (fun _ _ _ _ _ => pts_one (pt_cmpR op_notIn_sign (pv 3) (pe_op op_add_str (pv 2) pe_str) (by with_unfolding_all rfl))) (fun _ _ _ _ _ => (pv 3))) (pe_lst pa_nil) (nomark _)) (pe_one (pe_cmpR op_notIn_seq (pv 0) (pv 1) (by with_unfolding_all rfl)))))))))), ?_⟩
    cases o with
    | none => exact ⟨_, rfl, _, rfl, k _ fun b o h => h⟩
    | some z =>
      have hz := ho z rfl
      refine ⟨_, rfl, _, rfl, ?_⟩
      refine iteT ?_
      have no : ∀ {H'}, Sm H H' → nameB z = false → Q (V.bl false) H' := fun {H'} s e => by
        have q := k H' s
        rw [show (some z).elim false (fun s => nameB s && !decide (s ∈ xs)) = false from by show (nameB z && _) = false; rw [e, Bool.false_and]] at q
        exact q
      refine ⟨_, rfl, _, rfl, s1000 hz.1, _, _, rfl, rfl, _, rfl, ite2 (fun h1 => ?_) fun h1 => ?_⟩
      · have h1' : 1 ≤ z.length := by have := of_decide_eq_true h1; omega
        refine ⟨_, _, rfl, rfl, _, rfl, ite2 (fun h2 => ?_) fun h2 => ?_⟩
        · have h2' : z.length ≤ 8 := by have := of_decide_eq_true h2; omega
          refine ⟨_, rfl, _, _, _, rfl, rfl, s1000 hz.1, at0 h1', _, rfl, _, _, rfl, rfl, _, rfl, ite2 (fun h3 => ?_) fun h3 => ?_⟩
          · have h3' : decide (z.cps.toList.headD 0 ∈ lowL) = true := h3
            refine ⟨_, rfl, z, rfl, fun D nD => lc_it walk_str (fun i H' => H' = upd H D (.lst ((((z.cps.toList.take i).filter fun c => !decide (c ∈ sgnL)).map one).map V.str))) rfl (fun _ _ _ _ => trivial) (fun i x H' H'' hi e y => ?_) (fun H' e => ?_)⟩
            · obtain ⟨rfl, c, hc, rfl⟩ := y
              subst e
              refine ⟨rfl, _, rfl, _, rfl, _, _, rfl, rfl, by decide, _, _, rfl, rfl, _, rfl, ?_⟩
              have e0 : (("abcdefghijklmnopqrstuvwxyz" : Str) ++ ("0123456789" : Str)).cps.toList = sgnL := by decide +kernel
              rw [e0]
              have ht := take_filt hc fun c => !decide (c ∈ sgnL)
              refine ite2 (fun h4 => ?_) fun h4 => ?_
              · refine ⟨_, rfl, _, upd_same, small1000 (by rw [List.length_map]; exact Nat.le_trans (len_filt z _ i) hz.1), ?_⟩
                rw [upd_upd, ht, if_pos h4, List.map_append, List.map_append]
                rfl
              · rw [ht, if_neg h4, List.append_nil]
            · subst e
              have sm : Sm H (upd H D (.lst ((((z.cps.toList.take z.cps.size).filter fun c => !decide (c ∈ sgnL)).map one).map V.str))) := .new nD
              have et : z.cps.toList.take z.cps.size = z.cps.toList := by rw [size_l, List.take_length]
              rw [et] at sm ⊢
              refine ⟨Nat.zero_le _, fun q nq => ?_⟩
              have hDq : D ≠ q := ne_of_none upd_same nq
              have sm2 := sm.trans (Sm.new (o := .lst []) nq)
              refine ⟨_, _, .lst (SqL.of (by rw [upd_ne hDq, upd_same])) (dp_strs _), .lst (xs := []) (SqL.of upd_same) .nil, shaped_strs (filt_ones hz _), rfl, _, rfl, ?_⟩
              have ee : PyData.eqv (.list ((((z.cps.toList.filter fun c => !decide (c ∈ sgnL)).map one).map PyData.str))) (.list []) = z.cps.toList.all fun c => decide (c ∈ sgnL) := (eqv_nil _).trans (empty_all _)
              rw [ee]
              refine ite2 (fun h4 => ?_) fun h4 => ?_
              · have kk := k _ sm2
                have en : nameB z = true := by
                  unfold nameB
                  rw [h4, h3', decide_eq_true h1', decide_eq_true h2']
                  rfl
                refine ⟨_, rfl, _, rfl, a, _, rfl, ?_, rfl, flat_strs xs, ?_⟩
                · rcases hS with h | h
                  · exact .inl (sm2.seq h)
                  · exact .inr (sm2.tup h)
                · have e5 : (some z).elim false (fun s => nameB s && !decide (s ∈ xs)) = !decide (z ∈ xs) := by
                    show (nameB z && _) = _
                    rw [en, Bool.true_and]
                  rw [e5] at kk
                  show Q (.bl (!inV (.str z) (xs.map V.str))) _
                  rw [inV_strs]
                  exact kk
              · refine no sm2 ?_
                unfold nameB
                have h4' : (z.cps.toList.all fun c => decide (c ∈ sgnL)) = false := by
                  cases q : z.cps.toList.all fun c => decide (c ∈ sgnL) with
                  | false => rfl
                  | true => exact absurd q h4
                rw [h4', Bool.and_false, Bool.and_false]
          · refine no (fun b o h => h) ?_
            have h3' : decide (z.cps.toList.headD 0 ∈ lowL) = false := by
              cases q : decide (z.cps.toList.headD 0 ∈ lowL) with
              | false => rfl
              | true => exact absurd q h3
            unfold nameB
            rw [h3', Bool.false_and, Bool.and_false]
        · refine no (fun b o h => h) ?_
          have h2' : decide (z.length ≤ 8) = false := by
            cases q : decide (z.length ≤ 8) with
            | false => rfl
            | true => exact absurd ((len_dec z 8).trans q) h2
          unfold nameB
          rw [h2', Bool.and_false, Bool.false_and]
      · have h1' : decide (1 ≤ z.length) = false := by
          cases q : decide (1 ≤ z.length) with
          | false => rfl
          | true => exact absurd ((len_dec1 z).trans q) h1
        refine ⟨_, rfl, iteF (no (fun b o h => h) ?_)⟩
        unfold nameB
        rw [h1', Bool.false_and, Bool.false_and]
end
end K30

namespace K30
open PySem PySem.Spec PyProof.Rows L2 ExK
section
variable {P : Program} {w : World} {K : PySem.W.Frag} {mg : Str → Option Value} {base : Heap}
theorem bool_f {b : Bool} (h : ¬ b = true) : b = false := by cases b <;> first | rfl | exact absurd rfl h
theorem sc_law_s_number : FnScope ["word", "least", "most", "sign"] ["word", "least", "most"] (defScope s_law_s_number) := ⟨rfl, rfl, rfl, by decide +kernel, rfl, by decide +kernel, by decide +kernel⟩
theorem ok_law_s_number (T : Txt P K mg) : ∃ fd, FnOk P w K mg base CX0 1 (He.ga K "_law_s_number") fd ["word", "least", "most"] spSNum ∧ Binds K fd ["word", "least", "most"] [] ∧ PySem.W.keepIn K (.ref (He.ga K "_law_s_number")) = true := by
  obtain ⟨fd, F⟩ := T.F_law_s_number
  refine ⟨fd, F.ok sc_law_s_number (fun vs H Q E h => ?_) (fun cdv A outer s H vs Q E hr h => ?_), F.bindsN fun _ _ _ _ _ _ us hl => match us, hl with | [_, _, _], _ => rfl, F.kp⟩
  · obtain ⟨o, a, xs, rfl, _⟩ := h
    rfl
  · obtain ⟨o, least, most, rfl, ho, k⟩ := h
    refine ⟨_, PSs.nox (pss_cons (ps_if (PW.pt (pw_or (pt_cmp (pc_isN (pv 0))) (pw_or (pt_not (pt_chain op_le op_le pe_int (pe_callB call_len_str (by rfl) T.n_len PySem.boot_len (pa_cons (pv 0) pa_nil)) pe_int)) (pw_or1 (pt_cmpR (op_neD hr.units) (pe_lc (own := [("sign", 3)]) rfl sc_law_s_number.nd (pi_str (pv 0)) (blkOk_by (own := [("sign", 3)]) (N := ["word", "least", "most", "sign"]) (sc := (defScope s_law_s_number)) (by decide +kernel)) (fun _ _ _ _ _ => (pg_name (i := 3) sc_law_s_number.nd rfl (Or.inl rfl))) (fun _ _ _ _ _ => pts_one (pt_cmpR op_notIn_sign (pv 3) pe_str (by with_unfolding_all rfl))) (fun _ _ _ _ _ => (pv 3))) (pe_lst pa_nil) (nomark _)))))) (pss_one (ps_ret pe_bl)) pss_nil)
      (pss_one (ps_ret (pe_and (pe_or (pe_cmpR op_eq (pe_callB call_len_str (by rfl) T.n_len PySem.boot_len (pa_cons (pv 0) pa_nil)) pe_int (nomark _)) (pe_one (pe_cmpR op_ne (pe_ix ix_str (pv 0) pe_int (fun _ _ => rfl)) pe_str (nomark _)))) (pe_one (pe_chain op_le op_le (pv 1) (pe_callTy call_int_str (by rfl) T.n_int (by decide +kernel) (pa_cons (pv 0) pa_nil)) (pv 2))))))), ?_⟩
    cases o with
    | none => exact ⟨_, rfl, _, rfl, iteT (iteT (k _ fun b o h => h))⟩
    | some z =>
      obtain ⟨hz, hn⟩ := ho z rfl
      refine ⟨_, rfl, _, rfl, iteF ?_⟩
      have no : ∀ {H'}, Sm H H' → figB z = false → Q (V.bl false) H' := fun {H'} s e => by
        have q := k H' s
        rw [show (some z).elim false (fun s => figB s && (decide (least ≤ numV s) && decide (numV s ≤ most))) = false from by show (figB z && _) = false; rw [e, Bool.false_and]] at q
        exact q
      refine ⟨_, rfl, _, rfl, s1000 hz.1, _, _, rfl, rfl, _, rfl, ite2 (fun h1 => ?_) fun h1 => ?_⟩
      · have h1' : 1 ≤ z.length := by have := of_decide_eq_true h1; omega
        refine ⟨_, _, rfl, rfl, _, rfl, ite2 (fun h2 => ?_) fun h2 => ?_⟩
        · refine iteT (no (fun b o h => h) ?_)
          have h2' : decide (z.length ≤ 20) = false := by
            cases q : decide (z.length ≤ 20) with
            | false => rfl
            | true =>
              have e := (len_dec z 20).trans q
              rw [show decide ((z.length : Int) ≤ 20) = true from e] at h2
              cases h2
          unfold figB
          rw [h2', Bool.and_false, Bool.false_and]
        · have h2' : z.length ≤ 20 := by
            have q : ((z.length : Int) ≤ 20) := by
              by_cases q : (z.length : Int) ≤ 20
              · exact q
              · rw [decide_eq_false q] at h2
                exact absurd rfl h2
            omega
          refine ⟨_, rfl, z, rfl, fun D nD => lc_it walk_str (fun i H' => H' = upd H D (.lst ((((z.cps.toList.take i).filter fun c => !decide (c ∈ figL)).map one).map V.str))) rfl (fun _ _ _ _ => trivial) (fun i x H' H'' hi e y => ?_) (fun H' e => ?_)⟩
          · obtain ⟨rfl, c, hc, rfl⟩ := y
            subst e
            refine ⟨rfl, _, rfl, _, _, rfl, rfl, _, rfl, ?_⟩
            have ht := take_filt hc fun c => !decide (c ∈ figL)
            refine ite2 (fun h4 => ?_) fun h4 => ?_
            · refine ⟨_, rfl, _, upd_same, small1000 (by rw [List.length_map]; exact Nat.le_trans (len_filt z _ i) hz.1), ?_⟩
              rw [upd_upd, ht, if_pos (show (!decide (c ∈ figL)) = true from h4), List.map_append, List.map_append]
              rfl
            · rw [ht, if_neg (show ¬ (!decide (c ∈ figL)) = true from h4), List.append_nil]
          · subst e
            have sm : Sm H (upd H D (.lst ((((z.cps.toList.take z.cps.size).filter fun c => !decide (c ∈ figL)).map one).map V.str))) := .new nD
            have et : z.cps.toList.take z.cps.size = z.cps.toList := by rw [size_l, List.take_length]
            rw [et] at sm ⊢
            refine ⟨Nat.zero_le _, fun q nq => ?_⟩
            have hDq : D ≠ q := ne_of_none upd_same nq
            have sm2 := sm.trans (Sm.new (o := .lst []) nq)
            refine ⟨_, _, .lst (SqL.of (by rw [upd_ne hDq, upd_same])) (dp_strs _), .lst (xs := []) (SqL.of upd_same) .nil, shaped_strs (filt_ones hz _), rfl, _, rfl, ?_⟩
            have ee : PyData.eqv (.list ((((z.cps.toList.filter fun c => !decide (c ∈ figL)).map one).map PyData.str))) (.list []) = z.cps.toList.all fun c => decide (c ∈ figL) := (eqv_nil _).trans (empty_all _)
            rw [ee]
            cases ea : z.cps.toList.all fun c => decide (c ∈ figL) with
            | false =>
              refine iteT (no sm2 ?_)
              unfold figB
              rw [ea, Bool.false_and, Bool.and_false]
            | true =>
              refine iteF ?_
              have kk := k _ sm2
              have ef : figB z = (decide (z.length = 1) || !decide (z.cps.toList.headD 0 = 48)) := by
                unfold figB
                rw [ea, decide_eq_true h1', decide_eq_true h2']
                rfl
              have e2 : decide (V.int (z.length : Int) = V.int 1) = decide (z.length = 1) := by
                rw [int_eq_dec]
                by_cases q : z.length = 1
                · rw [decide_eq_true q, decide_eq_true (by omega)]
                · rw [decide_eq_false q, decide_eq_false (by omega)]
              have kT : figB z = true → Q (.bl (decide (least ≤ numV z) && decide (numV z ≤ most))) (upd (upd H D (.lst (((z.cps.toList.filter fun c => !decide (c ∈ figL)).map one).map V.str))) q (.lst [])) := fun e => by
                have e5 : (some z).elim false (fun s => figB s && (decide (least ≤ numV s) && decide (numV s ≤ most))) = (decide (least ≤ numV z) && decide (numV z ≤ most)) := by
                  show (figB z && _) = _
                  rw [e, Bool.true_and]
                rw [e5] at kk
                exact kk
              refine ⟨_, rfl, _, rfl, s1000 hz.1, rfl, _, rfl, ?_⟩
              refine ite2 (fun h3 => ?_) fun h3 => ?_
              · have et : figB z = true := by rw [ef, show decide (z.length = 1) = true from e2.symm.trans h3, Bool.true_or]
                have kt := kT et
                refine ⟨_, rfl, iteT ⟨_, rfl, _, rfl, _, _, rfl, hn et, by omega, _, _, rfl, rfl, _, rfl, ite2 (fun h5 => ?_) fun h5 => ?_⟩⟩
                · rw [show decide (least ≤ numV z) = true from h5, Bool.true_and] at kt
                  exact ⟨_, rfl, _, _, rfl, rfl, kt⟩
                · rw [show decide (least ≤ numV z) = false from bool_f h5, Bool.false_and] at kt
                  exact kt
              · have h3' : decide (z.length = 1) = false := by
                  cases q : decide (z.length = 1) with
                  | false => rfl
                  | true => exact absurd (e2.trans q) h3
                refine ⟨_, rfl, _, _, _, rfl, rfl, s1000 hz.1, at0 h1', rfl, ?_⟩
                have e4 := str_zero (z.cps.toList.headD 0)
                refine ⟨!decide (V.str ⟨#[z.cps.toList.headD 0]⟩ = V.str "0"), rfl, ?_⟩
                rw [e4]
                cases e6 : decide (z.cps.toList.headD 0 = 48) with
                | true =>
                  refine iteF (no sm2 ?_)
                  rw [ef, h3', e6]
                  rfl
                | false =>
                  have et : figB z = true := by rw [ef, h3', e6]; rfl
                  have kt := kT et
                  refine iteT ⟨_, rfl, _, rfl, _, _, rfl, hn et, by omega, _, _, rfl, rfl, _, rfl, ite2 (fun h5 => ?_) fun h5 => ?_⟩
                  · rw [show decide (least ≤ numV z) = true from h5, Bool.true_and] at kt
                    exact ⟨_, rfl, _, _, rfl, rfl, kt⟩
                  · rw [show decide (least ≤ numV z) = false from bool_f h5, Bool.false_and] at kt
                    exact kt
      · have h1' : decide (1 ≤ z.length) = false := by
          cases q : decide (1 ≤ z.length) with
          | false => rfl
          | true => exact absurd ((len_dec1 z).trans q) h1
        refine ⟨_, rfl, iteT (iteT (no (fun b o h => h) ?_))⟩
        unfold figB
        rw [h1', Bool.false_and, Bool.false_and]
end
end K30

namespace K30
open PySem PySem.Spec PyProof.Rows L2 ExK
/-! ### a Scan on the heap -/
structure Wd (s : Str) : Prop where
  a : asc s
  n : figB s = true → PySem.intText? s = some (numV s)
structure Lay (H : Hp) (L : Addr) (ll : List (List Str)) : Prop where
  ex : ∃ rs : List Addr, H L = some (.lst (rs.map V.ref)) ∧ rs.length = ll.length ∧ ∀ (i : Nat) (r : Addr) (ws : List Str), rs[i]? = some r → ll[i]? = some ws → H r = some (.lst (ws.map V.str))
abbrev scO (K : PySem.W.Frag) (dx L : Addr) (l a : Nat) : HO := .ins (He.ga K "Scan") dx [("lines", .ref L), ("line", .int (l : Int)), ("at", .int (a : Int))]
structure Sz (ll : List (List Str)) : Prop where
  n : ll.length ≤ 1000
  w : ∀ ws ∈ ll, ws.length ≤ 1000 ∧ ∀ s ∈ ws, Wd s
structure ScAt (K : PySem.W.Frag) (H : Hp) (p dx L : Addr) (ll : List (List Str)) (l a : Nat) : Prop where
  h : H p = some (scO K dx L l a)
  lay : Lay H L ll
  ln : l ≤ ll.length
  at' : ∀ ws, ll[l]? = some ws → a ≤ ws.length
  sz : Sz ll
def aheadW (ll : List (List Str)) (l a : Nat) : Option Str := (ll[l]?).bind fun ws => ws[a]?
theorem aheadW_wd {ll : List (List Str)} {l a : Nat} {s : Str} (h : Sz ll) (e : aheadW ll l a = some s) : Wd s := by
  unfold aheadW at e
  cases q : ll[l]? with
  | none => rw [q] at e; cases e
  | some ws =>
    rw [q] at e
    exact (h.w ws (List.mem_of_getElem? q)).2 s (List.mem_of_getElem? e)
/-- a step: good goes on to (l', a'), else BadText(l, a) -/
def StepB (K : PySem.W.Frag) (H : Hp) (p dx L : Addr) (l a : Nat) (good : Bool) (v : V) (l' a' : Nat) (Q : VK) (E : XK) : Prop :=
  (good = true → ∀ H', H' p = some (scO K dx L l' a') → Kp p H H' → Q v H') ∧ (good = false → ∀ d H', Bad H H' d (.int (l : Int)) (.int (a : Int)) → E (.ref (CB K)) (some d) H')
def spOver (K : PySem.W.Frag) : Sp := fun vs H Q _ => ∃ (p dx L : Addr) (ll : List (List Str)) (l a : Nat), vs = [.ref p] ∧ ScAt K H p dx L ll l a ∧ Q (.bl (decide (l = ll.length))) H
def spAhead (K : PySem.W.Frag) : Sp := fun vs H Q _ => ∃ (p dx L : Addr) (ll : List (List Str)) (l a : Nat), vs = [.ref p] ∧ ScAt K H p dx L ll l a ∧ Q (vO (aheadW ll l a)) H
def spStop (K : PySem.W.Frag) : Sp := fun vs H _ E => ∃ (p dx L : Addr) (l a : Nat), vs = [.ref p] ∧ H p = some (scO K dx L l a) ∧ ∀ d H', Bad H H' d (.int (l : Int)) (.int (a : Int)) → E (.ref (CB K)) (some d) H'
def spTake (K : PySem.W.Frag) : Sp := fun vs H Q E => ∃ (p dx L : Addr) (ll : List (List Str)) (l a : Nat), vs = [.ref p] ∧ ScAt K H p dx L ll l a ∧ StepB K H p dx L l a (aheadW ll l a).isSome (vO (aheadW ll l a)) l (a + 1) Q E
def spTakeOf (K : PySem.W.Frag) : Sp := fun vs H Q E => ∃ (p dx L b : Addr) (xs : List Str) (ll : List (List Str)) (l a : Nat), vs = [.ref p, .ref b] ∧ (SqL K H b (xs.map V.str) ∨ SqT K H b (xs.map V.str)) ∧ ScAt K H p dx L ll l a ∧
  StepB K H p dx L l a ((aheadW ll l a).elim false fun s => decide (s ∈ xs)) (vO (aheadW ll l a)) l (a + 1) Q E
def spTakeName (K : PySem.W.Frag) : Sp := fun vs H Q E => ∃ (p dx L b : Addr) (xs : List Str) (ll : List (List Str)) (l a : Nat), vs = [.ref p, .ref b] ∧ (SqL K H b (xs.map V.str) ∨ SqT K H b (xs.map V.str)) ∧ ScAt K H p dx L ll l a ∧
  StepB K H p dx L l a ((aheadW ll l a).elim false fun s => nameB s && !decide (s ∈ xs)) (vO (aheadW ll l a)) l (a + 1) Q E
def spTakeNum (K : PySem.W.Frag) : Sp := fun vs H Q E => ∃ (p dx L : Addr) (least most : Int) (ll : List (List Str)) (l a : Nat), vs = [.ref p, .int least, .int most] ∧ ScAt K H p dx L ll l a ∧
  StepB K H p dx L l a ((aheadW ll l a).elim false fun s => figB s && (decide (least ≤ numV s) && decide (numV s ≤ most))) (.int ((aheadW ll l a).elim 0 numV)) l (a + 1) Q E
def spEndLine (K : PySem.W.Frag) : Sp := fun vs H Q E => ∃ (p dx L : Addr) (ll : List (List Str)) (l a : Nat), vs = [.ref p] ∧ ScAt K H p dx L ll l a ∧ StepB K H p dx L l a (aheadW ll l a).isNone .non (l + 1) 0 Q E
section
variable {P : Program} {w : World} {K : PySem.W.Frag} {mg : Str → Option Value} {base : Heap}
theorem nat_eq_dec (a b : Nat) : decide (V.int (a : Int) = V.int (b : Int)) = decide (a = b) := by
  rw [int_eq_dec]
  by_cases q : a = b
  · rw [decide_eq_true q, decide_eq_true (by omega)]
  · rw [decide_eq_false q, decide_eq_false (by omega)]
theorem Lay.len {H : Hp} {L : Addr} {ll : List (List Str)} (h : Lay H L ll) : ∃ xs : List V, SqL K H L xs ∧ xs.length = ll.length := by
  obtain ⟨rs, e, l, _⟩ := h.ex
  exact ⟨_, SqL.of e, by rw [List.length_map]; exact l⟩
theorem Lay.at {H : Hp} {L : Addr} {ll : List (List Str)} {l : Nat} {ws : List Str} (h : Lay H L ll) (e : ll[l]? = some ws) : ∃ (xs : List V) (r : Addr), SqL K H L xs ∧ atI xs (l : Int) = some (.ref r) ∧ SqL K H r (ws.map V.str) := by
  obtain ⟨rs, e1, e2, e3⟩ := h.ex
  have hl : l < rs.length := by rw [e2]; exact (List.getElem?_eq_some_iff.mp e).1
  have er : rs[l]? = some rs[l] := List.getElem?_eq_getElem hl
  exact ⟨_, rs[l], SqL.of e1, at_of (j := l) rfl (by rw [List.getElem?_map, er]; rfl), SqL.of (e3 _ _ _ er e)⟩
theorem sc_Scan_is_over : FnScope ["self"] ["self"] (defScope s_Scan_is_over) := ⟨rfl, rfl, rfl, by decide +kernel, rfl, by decide +kernel, by decide +kernel⟩
theorem ok_Scan_is_over (T : Txt P K mg) : ∃ fd, FnOk P w K mg base CX0 1 (He.fAd K ("Scan", some "is_over")) fd ["self"] (spOver K) ∧ Binds K fd ["self"] [] := by
  obtain ⟨fd, F⟩ := T.F_Scan_is_over
  refine ⟨fd, F.ok sc_Scan_is_over (fun vs H Q E h => ?_) (fun cdv A outer s H vs Q E hr h => ?_), F.bindsN fun _ _ _ _ _ _ us hl => match us, hl with | [_], _ => rfl⟩
  · obtain ⟨p, dx, L, ll, l, a, rfl, _⟩ := h
    rfl
  · obtain ⟨p, dx, L, ll, l, a, rfl, S, k⟩ := h
    refine ⟨_, PSs.nox (pss_one (ps_ret (pe_cmpR op_eq (pe_fld (pv 0) rfl) (pe_callB call_len_seq (by rfl) T.n_len PySem.boot_len (pa_cons (pe_fld (pv 0) rfl) pa_nil)) (nomark _)))), ?_⟩
    obtain ⟨xs, hxs, hl⟩ := S.lay.len (K := K)
    refine ⟨_, rfl, p, _, dx, _, _, rfl, S.h, T.cl_Scan, T.na_Scan_line, rfl, _, rfl, p, _, dx, _, _, rfl, S.h, T.cl_Scan, T.na_Scan_lines, rfl, L, _, rfl, .inl hxs, ?_⟩
    refine ⟨rfl, ?_⟩
    show Q (.bl (decide (V.int (l : Int) = V.int (xs.length : Int)))) H
    rw [hl, nat_eq_dec]
    exact k
theorem sc_Scan_ahead : FnScope ["self"] ["self"] (defScope s_Scan_ahead) := ⟨rfl, rfl, rfl, by decide +kernel, rfl, by decide +kernel, by decide +kernel⟩
theorem ok_Scan_ahead (T : Txt P K mg) : ∃ fd, FnOk P w K mg base CX0 2 (He.fAd K ("Scan", some "ahead")) fd ["self"] (spAhead K) ∧ Binds K fd ["self"] [] := by
  obtain ⟨fd, F⟩ := T.F_Scan_ahead
  obtain ⟨fd1, G_is_over, b_is_over⟩ := ok_Scan_is_over (w := w) (base := base) T
  refine ⟨fd, F.ok sc_Scan_ahead (fun vs H Q E h => ?_) (fun cdv A outer s H vs Q E hr h => ?_), F.bindsN fun _ _ _ _ _ _ us hl => match us, hl with | [_], _ => rfl⟩
  · obtain ⟨p, dx, L, ll, l, a, rfl, _⟩ := h
    rfl
  · obtain ⟨p, dx, L, ll, l, a, rfl, S, k⟩ := h
    refine ⟨_, PSs.nox (pss_cons (ps_if (PW.pt (pw_or (pt_val (pe_meth0 (pv 0) T.cl_Scan T.m_Scan_is_over G_is_over (hr.mono (by decide)) b_is_over .nil pass0)) (pw_or1 (pt_cmpR op_eq (pe_fld (pv 0) rfl) (pe_callB call_len_seq (by rfl) T.n_len PySem.boot_len (pa_cons (pe_ix ix_list (pe_fld (pv 0) rfl) (pe_fld (pv 0) rfl) (fun _ _ => rfl)) pa_nil)) (nomark _))))) (pss_one (ps_ret pe_non)) pss_nil)
      (pss_one (ps_ret (pe_ix ix_list (pe_ix ix_list (pe_fld (pv 0) rfl) (pe_fld (pv 0) rfl) (fun _ _ => rfl)) (pe_fld (pv 0) rfl) (fun _ _ => rfl))))), ?_⟩
    refine ⟨_, rfl, p, dx, _, rfl, S.h, rfl, p, dx, L, ll, l, a, rfl, S, _, rfl, ite2 (fun h1 => ?_) fun h1 => ?_⟩
    · have e : ll[l]? = none := List.getElem?_eq_none (by have := of_decide_eq_true h1; omega)
      have k' := k
      unfold aheadW at k'
      rw [e] at k'
      exact iteT k'
    · have hl : l < ll.length := by
        have := S.ln
        have h2 : ¬ l = ll.length := fun q => h1 (decide_eq_true q)
        omega
      have e : ll[l]? = some ll[l] := List.getElem?_eq_getElem hl
      obtain ⟨xs, r, hxs, hat, hr'⟩ := S.lay.at (K := K) e
      have hw := (S.sz.w _ (List.mem_of_getElem? e)).1
      have ha := S.at' _ e
      refine ⟨_, rfl, p, _, dx, _, _, rfl, S.h, T.cl_Scan, T.na_Scan_at, rfl, _, rfl, p, _, dx, _, _, rfl, S.h, T.cl_Scan, T.na_Scan_lines, rfl, _, rfl, p, _, dx, _, _, rfl, S.h, T.cl_Scan, T.na_Scan_line, rfl,
        L, xs, _, _, rfl, rfl, hxs, hat, r, _, rfl, .inl hr', ?_⟩
      have k' := k
      unfold aheadW at k'
      rw [e] at k'
      refine ⟨rfl, decide (a = (ll[l]).length), congrArg V.bl ((nat_eq_dec a _).trans (by rw [List.length_map])), ?_⟩
      refine ite2 (fun h2 => ?_) fun h2 => ?_
      · have e2 : (ll[l])[a]? = none := List.getElem?_eq_none (by have := of_decide_eq_true h2; omega)
        rw [show (some ll[l]).bind (fun ws => ws[a]?) = none from e2] at k'
        exact k'
      · have h3 : a < (ll[l]).length := by
          have h4 : ¬ a = (ll[l]).length := fun q => h2 (decide_eq_true q)
          omega
        have e2 : (ll[l])[a]? = some (ll[l])[a] := List.getElem?_eq_getElem h3
        rw [show (some ll[l]).bind (fun ws => ws[a]?) = some (ll[l])[a] from e2] at k'
        refine ⟨_, rfl, p, _, dx, _, _, rfl, S.h, T.cl_Scan, T.na_Scan_lines, rfl, _, rfl, p, _, dx, _, _, rfl, S.h, T.cl_Scan, T.na_Scan_line, rfl, L, xs, _, _, rfl, rfl, hxs, hat,
          _, rfl, p, _, dx, _, _, rfl, S.h, T.cl_Scan, T.na_Scan_at, rfl, r, _, _, _, rfl, rfl, hr', at_of (j := a) rfl (by rw [List.getElem?_map, e2]; rfl), k'⟩
end
end K30

namespace K30
open PySem PySem.Spec PyProof.Rows L2 ExK
section
variable {P : Program} {w : World} {K : PySem.W.Frag} {mg : Str → Option Value} {base : Heap}
theorem Bad.pre {H H1 H' : Hp} {d : Addr} {x y : V} (s : Sm H H1) (b : Bad H1 H' d x y) : Bad H H' d x y :=
  ⟨fun c o h => b.keep c o (s c o h), (by
    cases e : H d with
    | none => rfl
    | some o =>
      have := s d o e
      rw [b.new] at this
      cases this), b.xd⟩
theorem Sm.kp {p : Addr} {H H1 : Hp} (s : Sm H H1) : Kp p H H1 := fun b o h _ => s b o h
theorem sc_Scan_stop : FnScope ["self"] ["self"] (defScope s_Scan_stop) := ⟨rfl, rfl, rfl, by decide +kernel, rfl, by decide +kernel, by decide +kernel⟩
theorem ok_Scan_stop (T : Txt P K mg) : ∃ fd, FnOk P w K mg base (L2.CX P w) 3 (He.fAd K ("Scan", some "stop")) fd ["self"] (spStop K) ∧ Binds K fd ["self"] [] := by
  obtain ⟨fd, F⟩ := T.F_Scan_stop
  refine ⟨fd, F.ok sc_Scan_stop (fun vs H Q E h => ?_) (fun cdv A outer s H vs Q E hr h => ?_), F.bindsN fun _ _ _ _ _ _ us hl => match us, hl with | [_], _ => rfl⟩
  · obtain ⟨p, dx, L, l, a, rfl, _⟩ := h
    rfl
  · obtain ⟨p, dx, L, l, a, rfl, S, k⟩ := h
    have tk0 := takes_of (X := cxOf (L2.CX P w) P w K mg base ["self"] "Scan.stop" (defScope s_Scan_stop) (He.fAd K ("Scan", some "stop")) cdv A outer s H E) rfl rfl rfl rfl
    refine ⟨_, pss_one (ps_raise rfl tk0 (mk_bad T hr (pa_cons (pe_fld (pv 0) rfl) (pa_cons (pe_fld (pv 0) rfl) pa_nil)))), ?_⟩
    exact ⟨_, rfl, p, _, dx, _, _, rfl, S, T.cl_Scan, T.na_Scan_line, rfl, _, rfl, p, _, dx, _, _, rfl, S, T.cl_Scan, T.na_Scan_at, rfl, bad_step k⟩
theorem sc_Scan_take : FnScope ["self", "word"] ["self"] (defScope s_Scan_take) := ⟨rfl, rfl, rfl, by decide +kernel, rfl, by decide +kernel, by decide +kernel⟩
theorem ok_Scan_take (T : Txt P K mg) : ∃ fd, FnOk P w K mg base (L2.CX P w) 4 (He.fAd K ("Scan", some "take")) fd ["self"] (spTake K) ∧ Binds K fd ["self"] [] := by
  obtain ⟨fd, F⟩ := T.F_Scan_take
  obtain ⟨fd1, G_ahead, b_ahead⟩ := ok_Scan_ahead (w := w) (base := base) T
  obtain ⟨fd2, G_stop, b_stop⟩ := ok_Scan_stop (w := w) (base := base) T
  refine ⟨fd, F.ok sc_Scan_take (fun vs H Q E h => ?_) (fun cdv A outer s H vs Q E hr h => ?_), F.bindsN fun _ _ _ _ _ _ us hl => match us, hl with | [_], _ => rfl⟩
  · obtain ⟨p, dx, L, ll, l, a, rfl, _⟩ := h
    rfl
  · obtain ⟨p, dx, L, ll, l, a, rfl, S, k1, k2⟩ := h
    have tk0 := takes_of (X := cxOf (L2.CX P w) P w K mg base ["self", "word"] "Scan.take" (defScope s_Scan_take) (He.fAd K ("Scan", some "take")) cdv A outer s H E) rfl rfl rfl rfl
    refine ⟨_, (pss_cons (ps_set (i := 1) sc_Scan_take.nd rfl (Or.inl rfl) (pe_meth0 (pv 0) T.cl_Scan T.m_Scan_ahead G_ahead (hr.mono (by decide)) b_ahead .nil pass0))
      (pss_cons (ps_if (pt_cmp (pc_isN (pv 1))) (pss_one (ps_expr (pe_meth0 (pv 0) T.cl_Scan T.m_Scan_stop G_stop (hr.mono (by decide)) b_stop .nil (passes_call tk0 fun _ _ _ _ h => h)))) pss_nil)
      (pss_cons (ps_fldaug (pv 0) pe_int in_add)
      (pss_one (ps_ret (pv 1)))))), ?_⟩
    refine ⟨_, rfl, p, dx, _, rfl, S.h, rfl, p, dx, L, ll, l, a, rfl, S, ?_⟩
    cases e : aheadW ll l a with
    | none =>
      rw [e] at k2
      exact ⟨_, rfl, _, rfl, iteT ⟨_, rfl, p, dx, _, rfl, S.h, rfl, p, dx, L, l, a, rfl, S.h, k2 rfl⟩⟩
    | some z =>
      rw [e] at k1
      refine ⟨_, rfl, _, rfl, iteF ⟨_, rfl, p, _, dx, _, _, rfl, S.h, T.cl_Scan, T.na_Scan_at, rfl, ?_⟩⟩
      exact ⟨_, _, rfl, rfl, dx, _, S.h, (show 3 < 1000 by decide), _, rfl, k1 rfl _ upd_same .upd⟩
theorem sc_Scan_take_of : FnScope ["self", "words", "word"] ["self", "words"] (defScope s_Scan_take_of) := ⟨rfl, rfl, rfl, by decide +kernel, rfl, by decide +kernel, by decide +kernel⟩
theorem ok_Scan_take_of (T : Txt P K mg) : ∃ fd, FnOk P w K mg base (L2.CX P w) 4 (He.fAd K ("Scan", some "take_of")) fd ["self", "words"] (spTakeOf K) ∧ Binds K fd ["self", "words"] [] := by
  obtain ⟨fd, F⟩ := T.F_Scan_take_of
  obtain ⟨fd1, G_ahead, b_ahead⟩ := ok_Scan_ahead (w := w) (base := base) T
  obtain ⟨fd2, G_stop, b_stop⟩ := ok_Scan_stop (w := w) (base := base) T
  refine ⟨fd, F.ok sc_Scan_take_of (fun vs H Q E h => ?_) (fun cdv A outer s H vs Q E hr h => ?_), F.bindsN fun _ _ _ _ _ _ us hl => match us, hl with | [_, _], _ => rfl⟩
  · obtain ⟨p, dx, L, b, xs, ll, l, a, rfl, _⟩ := h
    rfl
  · obtain ⟨p, dx, L, b, xs, ll, l, a, rfl, hS, S, k1, k2⟩ := h
    have tk0 := takes_of (X := cxOf (L2.CX P w) P w K mg base ["self", "words", "word"] "Scan.take_of" (defScope s_Scan_take_of) (He.fAd K ("Scan", some "take_of")) cdv A outer s H E) rfl rfl rfl rfl
    refine ⟨_, (pss_cons (ps_set (i := 2) sc_Scan_take_of.nd rfl (Or.inl rfl) (pe_meth0 (pv 0) T.cl_Scan T.m_Scan_ahead G_ahead (hr.mono (by decide)) b_ahead .nil pass0))
      (pss_cons (ps_if (PW.pt (pw_or (pt_cmp (pc_isN (pv 2))) (pw_or1 (pt_cmpR op_notIn_seq (pv 2) (pv 1) (by with_unfolding_all rfl))))) (pss_one (ps_expr (pe_meth0 (pv 0) T.cl_Scan T.m_Scan_stop G_stop (hr.mono (by decide)) b_stop .nil (passes_call tk0 fun _ _ _ _ h => h)))) pss_nil)
      (pss_cons (ps_fldaug (pv 0) pe_int in_add)
      (pss_one (ps_ret (pv 2)))))), ?_⟩
    refine ⟨_, rfl, p, dx, _, rfl, S.h, rfl, p, dx, L, ll, l, a, rfl, S, ?_⟩
    cases e : aheadW ll l a with
    | none =>
      rw [e] at k2
      exact ⟨_, rfl, _, rfl, iteT (iteT ⟨_, rfl, p, dx, _, rfl, S.h, rfl, p, dx, L, l, a, rfl, S.h, k2 rfl⟩)⟩
    | some z =>
      rw [e] at k1 k2
      refine ⟨_, rfl, _, rfl, iteF ⟨_, rfl, _, rfl, b, _, rfl, hS, rfl, flat_strs xs, ?_⟩⟩
      refine ⟨!decide (z ∈ xs), by rw [← inV_strs]; rfl, ?_⟩
      cases hz : decide (z ∈ xs) with
      | true => exact iteF ⟨_, rfl, p, _, dx, _, _, rfl, S.h, T.cl_Scan, T.na_Scan_at, rfl, _, _, rfl, rfl, dx, _, S.h, (show 3 < 1000 by decide), _, rfl, k1 hz _ upd_same .upd⟩
      | false => exact iteT ⟨_, rfl, p, dx, _, rfl, S.h, rfl, p, dx, L, l, a, rfl, S.h, k2 hz⟩
theorem sc_Scan_take_name : FnScope ["self", "others", "word"] ["self", "others"] (defScope s_Scan_take_name) := ⟨rfl, rfl, rfl, by decide +kernel, rfl, by decide +kernel, by decide +kernel⟩
theorem ok_Scan_take_name (T : Txt P K mg) : ∃ fd, FnOk P w K mg base (L2.CX P w) 4 (He.fAd K ("Scan", some "take_name")) fd ["self", "others"] (spTakeName K) ∧ Binds K fd ["self", "others"] [] ∧ ∃ ds, Vals [.ref (pEmp K)] ds ∧ Binds K fd ["self", "others"] ds := by
  obtain ⟨fd, F⟩ := T.F_Scan_take_name
  obtain ⟨fd1, G_ahead, b_ahead⟩ := ok_Scan_ahead (w := w) (base := base) T
  obtain ⟨fd2, G_stop, b_stop⟩ := ok_Scan_stop (w := w) (base := base) T
  obtain ⟨fd3, G_is_name, b_is_name, k_is_name⟩ := ok_is_name (w := w) (base := base) T
  refine ⟨fd, F.ok sc_Scan_take_name (fun vs H Q E h => ?_) (fun cdv A outer s H vs Q E hr h => ?_), ?_, ?_⟩
  · obtain ⟨p, dx, L, b, xs, ll, l, a, rfl, _⟩ := h
    rfl
  · obtain ⟨p, dx, L, b, xs, ll, l, a, rfl, hS, S, k1, k2⟩ := h
    have tk0 := takes_of (X := cxOf (L2.CX P w) P w K mg base ["self", "others", "word"] "Scan.take_name" (defScope s_Scan_take_name) (He.fAd K ("Scan", some "take_name")) cdv A outer s H E) rfl rfl rfl rfl
    refine ⟨_, (pss_cons (ps_set (i := 2) sc_Scan_take_name.nd rfl (Or.inl rfl) (pe_meth0 (pv 0) T.cl_Scan T.m_Scan_ahead G_ahead (hr.mono (by decide)) b_ahead .nil pass0))
      (pss_cons (ps_if (PW.pt (pw_or (pt_not (pt_val (pe_call G_is_name (hr.mono (by decide)) rfl T.g_is_name k_is_name b_is_name .nil pass0 (pa_cons (pv 2) pa_nil)))) (pw_or1 (pt_cmpR op_in_seq (pv 2) (pv 1) (by with_unfolding_all rfl))))) (pss_one (ps_expr (pe_meth0 (pv 0) T.cl_Scan T.m_Scan_stop G_stop (hr.mono (by decide)) b_stop .nil (passes_call tk0 fun _ _ _ _ h => h)))) pss_nil)
      (pss_cons (ps_fldaug (pv 0) pe_int in_add)
      (pss_one (ps_ret (pv 2)))))), ?_⟩
    refine ⟨_, rfl, p, dx, _, rfl, S.h, rfl, p, dx, L, ll, l, a, rfl, S, ?_⟩
    refine ⟨_, rfl, aheadW ll l a, rfl, fun s e => (aheadW_wd S.sz e).a.1, fun H' sm => ?_⟩
    have Sh' := sm _ _ S.h
    cases e : aheadW ll l a with
    | none =>
      rw [e] at k2
      refine ⟨false, rfl, ?_⟩
      exact iteT (iteT ⟨_, rfl, p, dx, _, rfl, Sh', rfl, p, dx, L, l, a, rfl, Sh', fun d H'' hb => k2 rfl d H'' (hb.pre sm)⟩)
    | some z =>
      rw [e] at k1 k2
      refine ⟨nameB z, rfl, ?_⟩
      cases en : nameB z with
      | false =>
        exact iteT (iteT ⟨_, rfl, p, dx, _, rfl, Sh', rfl, p, dx, L, l, a, rfl, Sh', fun d H'' hb => k2 (by show (nameB z && _) = false; rw [en, Bool.false_and]) d H'' (hb.pre sm)⟩)
      | true =>
        refine iteF ⟨_, rfl, _, rfl, b, _, rfl, (match hS with | .inl h => .inl (sm.seq h) | .inr h => .inr (sm.tup h)), rfl, flat_strs xs, ?_⟩
        refine ⟨decide (z ∈ xs), by rw [← inV_strs]; rfl, ?_⟩
        cases hz : decide (z ∈ xs) with
        | true => exact iteT ⟨_, rfl, p, dx, _, rfl, Sh', rfl, p, dx, L, l, a, rfl, Sh', fun d H'' hb => k2 (by show (nameB z && !decide (z ∈ xs)) = false; rw [hz, Bool.not_true, Bool.and_false]) d H'' (hb.pre sm)⟩
        | false => exact iteF ⟨_, rfl, p, _, dx, _, _, rfl, Sh', T.cl_Scan, T.na_Scan_at, rfl, _, _, rfl, rfl, dx, _, Sh', (show 3 < 1000 by decide), _, rfl, k1 (by show (nameB z && !decide (z ∈ xs)) = true; rw [hz, en]; rfl) _ upd_same (sm.kp.trans .upd)⟩
  · obtain ⟨ds, r, b⟩ : ∃ ds, Vals ([] : List V) ds ∧ Binds K fd ["self", "others"] ds := F.binds1 2 1 (by simp) rfl fun T kV doc pm an cdv ct us its h1 h2 => match us, its, h1, h2 with | [_, _], [_], _, _ => ⟨_, rfl, rfl⟩
    cases r
    exact b
  · exact F.binds1 1 0 (by simp) rfl fun T kV doc pm an cdv ct us its h1 h2 => match us, its, h1, h2 with | [_], [_], _, _ => ⟨_, rfl, rfl⟩
theorem sc_Scan_take_number : FnScope ["self", "least", "most", "word"] ["self", "least", "most"] (defScope s_Scan_take_number) := ⟨rfl, rfl, rfl, by decide +kernel, rfl, by decide +kernel, by decide +kernel⟩
theorem ok_Scan_take_number (T : Txt P K mg) : ∃ fd, FnOk P w K mg base (L2.CX P w) 4 (He.fAd K ("Scan", some "take_number")) fd ["self", "least", "most"] (spTakeNum K) ∧ Binds K fd ["self", "least", "most"] [] := by
  obtain ⟨fd, F⟩ := T.F_Scan_take_number
  obtain ⟨fd1, G_ahead, b_ahead⟩ := ok_Scan_ahead (w := w) (base := base) T
  obtain ⟨fd2, G_stop, b_stop⟩ := ok_Scan_stop (w := w) (base := base) T
  obtain ⟨fd3, G_is_figures, b_is_figures, k_is_figures⟩ := ok_is_figures (w := w) (base := base) T
  refine ⟨fd, F.ok sc_Scan_take_number (fun vs H Q E h => ?_) (fun cdv A outer s H vs Q E hr h => ?_), F.bindsN fun _ _ _ _ _ _ us hl => match us, hl with | [_, _, _], _ => rfl⟩
  · obtain ⟨p, dx, L, least, most, ll, l, a, rfl, _⟩ := h
    rfl
  · obtain ⟨p, dx, L, least, most, ll, l, a, rfl, S, k1, k2⟩ := h
    have tk0 := takes_of (X := cxOf (L2.CX P w) P w K mg base ["self", "least", "most", "word"] "Scan.take_number" (defScope s_Scan_take_number) (He.fAd K ("Scan", some "take_number")) cdv A outer s H E) rfl rfl rfl rfl
    refine ⟨_, (pss_cons (ps_set (i := 3) sc_Scan_take_number.nd rfl (Or.inl rfl) (pe_meth0 (pv 0) T.cl_Scan T.m_Scan_ahead G_ahead (hr.mono (by decide)) b_ahead .nil pass0))
      (pss_cons (ps_if (PW.pt (pw_or (pt_cmp (pc_isN (pv 3))) (pw_or (pt_not (pt_val (pe_call G_is_figures (hr.mono (by decide)) rfl T.g_is_figures k_is_figures b_is_figures .nil pass0 (pa_cons (pv 3) pa_nil)))) (pw_or1 (pt_not (pt_chain op_le op_le (pv 1) (pe_callTy call_int_str (by rfl) T.n_int (by decide +kernel) (pa_cons (pv 3) pa_nil)) (pv 2))))))) (pss_one (ps_expr (pe_meth0 (pv 0) T.cl_Scan T.m_Scan_stop G_stop (hr.mono (by decide)) b_stop .nil (passes_call tk0 fun _ _ _ _ h => h)))) pss_nil)
      (pss_cons (ps_fldaug (pv 0) pe_int in_add)
      (pss_one (ps_ret (pe_callTy call_int_str (by rfl) T.n_int (by decide +kernel) (pa_cons (pv 3) pa_nil))))))), ?_⟩
    refine ⟨_, rfl, p, dx, _, rfl, S.h, rfl, p, dx, L, ll, l, a, rfl, S, ?_⟩
    cases e : aheadW ll l a with
    | none =>
      rw [e] at k2
      exact ⟨_, rfl, _, rfl, iteT (iteT ⟨_, rfl, p, dx, _, rfl, S.h, rfl, p, dx, L, l, a, rfl, S.h, k2 rfl⟩)⟩
    | some z =>
      rw [e] at k1 k2
      have hw := aheadW_wd S.sz e
      refine ⟨_, rfl, _, rfl, iteF ⟨_, rfl, z, rfl, hw.a.1, fun H' sm => ?_⟩⟩
      have Sh' := sm _ _ S.h
      cases ef : figB z with
      | false => exact ⟨_, rfl, iteT (iteT ⟨_, rfl, p, dx, _, rfl, Sh', rfl, p, dx, L, l, a, rfl, Sh', fun d H'' hb => k2 (by show (figB z && _) = false; rw [ef, Bool.false_and]) d H'' (hb.pre sm)⟩)⟩
      | true =>
        have h20 : z.length ≤ 20 := by
          unfold figB at ef
          have e1 := (Bool.and_eq_true _ _ ▸ ef).1
          exact of_decide_eq_true (Bool.and_eq_true _ _ ▸ e1).2
        refine ⟨_, rfl, iteF ⟨_, rfl, _, rfl, _, _, rfl, hw.n ef, by omega, _, _, rfl, rfl, _, rfl, ?_⟩⟩
        cases h5 : decide (least ≤ numV z) with
        | false => exact ite2 (fun q => nomatch q) fun _ => ⟨_, rfl, iteT ⟨_, rfl, p, dx, _, rfl, Sh', rfl, p, dx, L, l, a, rfl, Sh', fun d H'' hb => k2 (by show (figB z && (decide (least ≤ numV z) && _)) = false; rw [h5, Bool.false_and, Bool.and_false]) d H'' (hb.pre sm)⟩⟩
        | true =>
          refine iteT ⟨_, rfl, _, _, rfl, rfl, decide (numV z ≤ most), rfl, ?_⟩
          cases h6 : decide (numV z ≤ most) with
          | false => exact iteT ⟨_, rfl, p, dx, _, rfl, Sh', rfl, p, dx, L, l, a, rfl, Sh', fun d H'' hb => k2 (by show (figB z && (decide (least ≤ numV z) && decide (numV z ≤ most))) = false; rw [h6, Bool.and_false, Bool.and_false]) d H'' (hb.pre sm)⟩
          | true => exact iteF ⟨_, rfl, p, _, dx, _, _, rfl, Sh', T.cl_Scan, T.na_Scan_at, rfl, _, _, rfl, rfl, dx, _, Sh', (show 3 < 1000 by decide), _, rfl, _, _, rfl, hw.n ef, by omega, k1 (by show (figB z && (decide (least ≤ numV z) && decide (numV z ≤ most))) = true; rw [h6, h5, ef]; rfl) _ upd_same (sm.kp.trans .upd)⟩
end
end K30

namespace K30
open PySem PySem.Spec PyProof.Rows L2 ExK
/-! ### an attribute as a target -/
def gFld (K : PySem.W.Frag) (to : TE) (f : Str) : TG := fun v σ H Q => to σ H fun x H1 => ∃ a C dx fs, x = .ref a ∧ H1 a = some (.ins C dx fs) ∧ Cls K C ∧ NoAttr K C f ∧ fs.length < 1000 ∧ Q σ (upd H1 a (.ins C dx (putF f v fs)))
theorem pg_fld {X : Cx} {o : Expr} {f : Str} {pos : Pos} {to : TE} (ho : PE X o to) : PG X (.Attribute o f pos) (gFld X.K to f) := by
  refine ⟨fun pins s σ H v u Q I r h => ?_⟩
  rw [PySem.assign_Attribute]
  refine wpAny_bind (wpAny_holding (thn (ho.run pins s σ H _ I h) fun ov s1 ⟨x, H1, I1, r1, q1⟩ => ?_))
  obtain ⟨a, C, dx, fs, ex, ea, c, n, l, q2⟩ := q1
  subst ex
  obtain rfl : ov = Value.ref a := r1
  refine wpAny_bind (wpAny_standAt (wpAny_bind (wpAny_holding (setattr_ok I1 ea c n l r fun s3 I3 => ?_))))
  exact wpAny_release ⟨σ, _, I3, q2⟩
def spEnd (K : PySem.W.Frag) : Sp := fun vs H Q E => ∃ (p dx L : Addr) (ll : List (List Str)) (l a : Nat), vs = [.ref p] ∧ ScAt K H p dx L ll l a ∧
  (aheadW ll l a = none → ll.length ≤ l + 1 → ∀ H', H' p = some (scO K dx L ll.length 0) → Kp p H H' → Q .non H') ∧
  (aheadW ll l a = none → ¬ ll.length ≤ l + 1 → ∀ d H', Bad H H' d (.int ((l + 1 : Nat) : Int)) (.int 0) → E (.ref (CB K)) (some d) H') ∧
  (aheadW ll l a ≠ none → ∀ d H', Bad H H' d (.int (l : Int)) (.int (a : Int)) → E (.ref (CB K)) (some d) H')
def nlS : Str := "\n"
def spS : Str := " "
def spInit (K : PySem.W.Frag) : Sp := fun vs H Q E => ∃ (p dx : Addr) (t : V), vs = [.ref p, t] ∧ H p = some (.ins (He.ga K "Scan") dx []) ∧
  ((∃ (s : Str) (ls : List Str), t = .str s ∧ s.length ≤ 60000 ∧ Txt.split s nlS = ls ∧ ls.length ≤ 1000 ∧ (∀ l ∈ ls, l.length ≤ 60000) ∧
      ∀ H' L, Lay H' L (ls.map fun l => Txt.split l spS) → H' p = some (scO K dx L 0 0) → Kp p H H' → Q .non H') ∨
   (∃ ty : Value, TyX K H t ty ∧ PySem.W.kitOne K ty (.type "str") = some false ∧ ∀ d H', Bad H H' d (.int 0) (.int 0) → E (.ref (CB K)) (some d) H'))
section
variable {P : Program} {w : World} {K : PySem.W.Frag} {mg : Str → Option Value} {base : Heap}
theorem sc_Scan_end_line : FnScope ["self"] ["self"] (defScope s_Scan_end_line) := ⟨rfl, rfl, rfl, by decide +kernel, rfl, by decide +kernel, by decide +kernel⟩
theorem ok_Scan_end_line (T : Txt P K mg) : ∃ fd, FnOk P w K mg base (L2.CX P w) 4 (He.fAd K ("Scan", some "end_line")) fd ["self"] (spEndLine K) ∧ Binds K fd ["self"] [] := by
  obtain ⟨fd, F⟩ := T.F_Scan_end_line
  obtain ⟨fd1, G_ahead, b_ahead⟩ := ok_Scan_ahead (w := w) (base := base) T
  obtain ⟨fd2, G_stop, b_stop⟩ := ok_Scan_stop (w := w) (base := base) T
  refine ⟨fd, F.ok sc_Scan_end_line (fun vs H Q E h => ?_) (fun cdv A outer s H vs Q E hr h => ?_), F.bindsN fun _ _ _ _ _ _ us hl => match us, hl with | [_], _ => rfl⟩
  · obtain ⟨p, dx, L, ll, l, a, rfl, _⟩ := h
    rfl
  · obtain ⟨p, dx, L, ll, l, a, rfl, S, k1, k2⟩ := h
    have tk0 := takes_of (X := cxOf (L2.CX P w) P w K mg base ["self"] "Scan.end_line" (defScope s_Scan_end_line) (He.fAd K ("Scan", some "end_line")) cdv A outer s H E) rfl rfl rfl rfl
    refine ⟨_, (pss_cons (ps_if (pt_cmp (pc_notN (pe_meth0 (pv 0) T.cl_Scan T.m_Scan_ahead G_ahead (hr.mono (by decide)) b_ahead .nil pass0))) (pss_one (ps_expr (pe_meth0 (pv 0) T.cl_Scan T.m_Scan_stop G_stop (hr.mono (by decide)) b_stop .nil (passes_call tk0 fun _ _ _ _ h => h)))) pss_nil)
      (pss_cons (ps_fldaug (pv 0) pe_int in_add)
      (pss_one (ps_fld (pv 0) pe_int rfl)))), ?_⟩
    refine ⟨_, rfl, p, dx, _, rfl, S.h, rfl, p, dx, L, ll, l, a, rfl, S, ?_⟩
    cases e : aheadW ll l a with
    | none =>
      rw [e] at k1
      refine ⟨_, rfl, iteF ⟨_, rfl, p, _, dx, _, _, rfl, S.h, T.cl_Scan, T.na_Scan_line, rfl, _, _, rfl, rfl, dx, _, S.h, (show 3 < 1000 by decide), _, rfl, p, _, dx, _, rfl, upd_same, T.cl_Scan, T.na_Scan_at, (show 3 < 1000 by decide), ?_⟩⟩
      rw [upd_upd]
      exact k1 rfl _ upd_same .upd
    | some z =>
      rw [e] at k2
      exact ⟨_, rfl, iteT ⟨_, rfl, p, dx, _, rfl, S.h, rfl, p, dx, L, l, a, rfl, S.h, k2 rfl⟩⟩
theorem sc_Scan_end : FnScope ["self"] ["self"] (defScope s_Scan_end) := ⟨rfl, rfl, rfl, by decide +kernel, rfl, by decide +kernel, by decide +kernel⟩
theorem ok_Scan_end (T : Txt P K mg) : ∃ fd, FnOk P w K mg base (L2.CX P w) 4 (He.fAd K ("Scan", some "end")) fd ["self"] (spEnd K) ∧ Binds K fd ["self"] [] := by
  obtain ⟨fd, F⟩ := T.F_Scan_end
  obtain ⟨fd1, G_ahead, b_ahead⟩ := ok_Scan_ahead (w := w) (base := base) T
  obtain ⟨fd2, G_stop, b_stop⟩ := ok_Scan_stop (w := w) (base := base) T
  refine ⟨fd, F.ok sc_Scan_end (fun vs H Q E h => ?_) (fun cdv A outer s H vs Q E hr h => ?_), F.bindsN fun _ _ _ _ _ _ us hl => match us, hl with | [_], _ => rfl⟩
  · obtain ⟨p, dx, L, ll, l, a, rfl, _⟩ := h
    rfl
  · obtain ⟨p, dx, L, ll, l, a, rfl, S, k1, k2, k3⟩ := h
    have tk0 := takes_of (X := cxOf (L2.CX P w) P w K mg base ["self"] "Scan.end" (defScope s_Scan_end) (He.fAd K ("Scan", some "end")) cdv A outer s H E) rfl rfl rfl rfl
    refine ⟨_, (pss_cons (ps_if (pt_cmp (pc_notN (pe_meth0 (pv 0) T.cl_Scan T.m_Scan_ahead G_ahead (hr.mono (by decide)) b_ahead .nil pass0))) (pss_one (ps_expr (pe_meth0 (pv 0) T.cl_Scan T.m_Scan_stop G_stop (hr.mono (by decide)) b_stop .nil (passes_call tk0 fun _ _ _ _ h => h)))) pss_nil)
      (pss_cons (ps_if (pt_cmpR op_lt (pe_op op_add (pe_fld (pv 0) rfl) pe_int) (pe_callB call_len_seq (by rfl) T.n_len PySem.boot_len (pa_cons (pe_fld (pv 0) rfl) pa_nil)) (nomark _)) (pss_one (ps_raise rfl tk0 (mk_bad T (hr.mono (by decide)) (pa_cons (pe_op op_add (pe_fld (pv 0) rfl) pe_int) (pa_cons pe_int pa_nil))))) pss_nil)
      (pss_one (ps_asg (pe_tup (pa_cons (pe_callB call_len_seq (by rfl) T.n_len PySem.boot_len (pa_cons (pe_fld (pv 0) rfl) pa_nil)) (pa_cons pe_int pa_nil))) (pg_tup rfl (pgs_cons (pg_fld (pv 0)) (pgs_cons (pg_fld (pv 0)) pgs_nil))))))), ?_⟩
    refine ⟨_, rfl, p, dx, _, rfl, S.h, rfl, p, dx, L, ll, l, a, rfl, S, ?_⟩
    cases e : aheadW ll l a with
    | none =>
      obtain ⟨xs, hxs, hl⟩ := S.lay.len (K := K)
      refine ⟨_, rfl, iteF ⟨_, rfl, p, _, dx, _, _, rfl, S.h, T.cl_Scan, T.na_Scan_line, rfl, _, _, rfl, rfl, _, rfl, p, _, dx, _, _, rfl, S.h, T.cl_Scan, T.na_Scan_lines, rfl, L, _, rfl, .inl hxs, _, _, rfl, rfl, _, rfl, ?_⟩⟩
      refine ite2 (fun h1 => ?_) fun h1 => ?_
      · have h2 : ¬ ll.length ≤ l + 1 := by have := of_decide_eq_true h1; omega
        exact ⟨_, rfl, p, _, dx, _, _, rfl, S.h, T.cl_Scan, T.na_Scan_line, rfl, _, _, rfl, rfl, bad_step (k2 e h2)⟩
      · have h2 : ll.length ≤ l + 1 := by
          have h3 : ¬ ((l : Int) + 1 < (xs.length : Int)) := fun q => h1 (decide_eq_true q)
          omega
        refine ⟨_, rfl, p, _, dx, _, _, rfl, S.h, T.cl_Scan, T.na_Scan_lines, rfl, L, _, rfl, .inl hxs, (show 2 ≤ sizeLine by decide), fun t nt => ?_⟩
        have hpt : p ≠ t := ne_of_none S.h nt
        refine ⟨t, _, rfl, .inl (.inl upd_same), rfl, _, _, rfl, ?_⟩
        refine ⟨_, rfl, p, _, dx, _, rfl, (show (upd H t _) p = some (scO K dx L l a) from by rw [upd_ne hpt]; exact S.h), T.cl_Scan, T.na_Scan_line, (show 3 < 1000 by decide), _, _, rfl, _, rfl, p, _, dx, _, rfl, upd_same, T.cl_Scan, T.na_Scan_at, (show 3 < 1000 by decide), rfl, ?_⟩
        rw [upd_upd, hl]
        exact k1 e h2 _ upd_same ((Kp.new nt).trans .upd)
    | some z =>
      exact ⟨_, rfl, iteT ⟨_, rfl, p, dx, _, rfl, S.h, rfl, p, dx, L, l, a, rfl, S.h, k3 (by rw [e]; exact fun q => nomatch q)⟩⟩
theorem sc_Scan___init : FnScope ["self", "text", "line"] ["self", "text"] (defScope s_Scan___init) := ⟨rfl, rfl, rfl, by decide +kernel, rfl, by decide +kernel, by decide +kernel⟩
theorem ok_Scan_init (T : Txt P K mg) : ∃ fd, FnOk P w K mg base (L2.CX P w) 3 (He.fAd K ("Scan", some "__init__")) fd ["self", "text"] (spInit K) ∧ Binds K fd ["self", "text"] [] := by
  obtain ⟨fd, F⟩ := T.F_Scan___init
  refine ⟨fd, F.ok sc_Scan___init (fun vs H Q E h => ?_) (fun cdv A outer s H vs Q E hr h => ?_), F.bindsN fun _ _ _ _ _ _ us hl => match us, hl with | [_, _], _ => rfl⟩
  · obtain ⟨p, dx, t, rfl, _⟩ := h
    rfl
  · obtain ⟨p, dx, t, rfl, hp, h⟩ := h
    have tk0 := takes_of (X := cxOf (L2.CX P w) P w K mg base ["self", "text", "line"] "Scan.__init__" (defScope s_Scan___init) (He.fAd K ("Scan", some "__init__")) cdv A outer s H E) rfl rfl rfl rfl
    refine ⟨_, (pss_cons (ps_if (pt_not (pt_val (pe_callB call_isi (by rfl) T.n_isinstance (by decide +kernel) (pa_cons (pv 1) (pa_cons (pe_bltn (v := .ty "str") (by rfl) T.n_str (by decide +kernel) rfl) pa_nil))))) (pss_one (ps_raise rfl tk0 (mk_bad T (hr.mono (by decide)) (pa_cons pe_int (pa_cons pe_int pa_nil))))) pss_nil)
      (pss_cons (ps_fld (pv 0) (pe_lc (own := [("line", 2)]) rfl sc_Scan___init.nd (pi_list (pe_split (pv 1) pe_str)) (blkOk_by (own := [("line", 2)]) (N := ["self", "text", "line"]) (sc := (defScope s_Scan___init)) (by decide +kernel)) (fun _ _ _ _ _ => (pg_name (i := 2) sc_Scan___init.nd rfl (Or.inl rfl))) (fun _ _ _ _ _ => pts_nil) (fun _ _ _ _ _ => (pe_split (pv 2) pe_str))) rfl)
      (pss_cons (ps_fld (pv 0) pe_int rfl)
      (pss_one (ps_fld (pv 0) pe_int rfl))))), ?_⟩
    rcases h with ⟨s0, ls, rfl, h0, hs, h1, h2, k⟩ | ⟨ty, hty, hk, k⟩
    · refine ⟨_, rfl, _, _, _, _, _, rfl, .ty "str", .base (.str s0), kit_ty (r := true) (by decide +kernel), _, rfl, ?_⟩
      refine iteF ⟨_, rfl, ⟨_, rfl⟩, _, _, rfl, rfl, (by decide : (nlS.length == 0) = false), Nat.le_trans (Nat.add_le_add_right h0 2) (by decide), fun q nq => ?_⟩
      refine ⟨q, rfl, ⟨_, SqL.of upd_same⟩, fun D nD => ?_⟩
      have hs' : Txt.split s0 "\n" = ls := hs
      rw [hs'] at nD ⊢
      have hqD : q ≠ D := ne_of_none upd_same nD
      have nD0 : H D = none := by rw [upd_ne hqD.symm] at nD; exact nD
      refine lc_list (K := K) (a := q) (xs := ls.map V.str) (fun i H' => ∃ rs : List Addr, rs.length = i ∧ H' D = some (.lst (rs.map V.ref)) ∧ Sm (upd H q (.lst (ls.map V.str))) H' ∧
        ∀ (j : Nat) (r : Addr) (z : Str), rs[j]? = some r → ls[j]? = some z → H' r = some (.lst ((Txt.split z spS).map V.str))) ⟨[], rfl, upd_same, Sm.new nD, fun j r z h _ => nomatch h⟩ (fun i H' _ e => ?_) (fun i x H' hx e => ?_) (fun H' e => ?_)
      · obtain ⟨rs, _, _, sm, _⟩ := e
        exact sm.seq (SqL.of upd_same)
      · obtain ⟨rs, hri, hD, sm, hr'⟩ := e
        obtain ⟨z, hz, rfl⟩ : ∃ z, ls[i]? = some z ∧ x = V.str z := by
          rw [List.getElem?_map] at hx
          cases e : ls[i]? with
          | none => rw [e] at hx; cases hx
          | some z => rw [e] at hx; exact ⟨z, rfl, (Option.some.inj hx).symm⟩
        have hi : i < ls.length := (List.getElem?_eq_some_iff.mp hz).1
        refine ⟨rfl, ?_⟩
        refine ⟨_, rfl, ⟨_, rfl⟩, _, _, rfl, rfl, (by decide : (spS.length == 0) = false), Nat.le_trans (Nat.add_le_add_right (h2 z (List.mem_of_getElem? hz)) 2) (by decide), fun r nr => ?_⟩
        have hDr : D ≠ r := ne_of_none hD nr
        refine ⟨rs.map V.ref, by rw [upd_ne hDr]; exact hD, small1000 (by rw [List.length_map, hri]; omega), rs ++ [r], by rw [List.length_append, hri]; rfl, by rw [upd_same, List.map_append]; rfl, ?_, fun j r' z' hj hz' => ?_⟩
        · have hbD : ∀ b o, (upd H q (.lst (ls.map V.str))) b = some o → b ≠ D := fun b o hb e => by rw [e, nD] at hb; cases hb
          intro b o hb
          rw [upd_ne (hbD b o hb), upd_ne (ne_of_none (sm b o hb) nr)]
          exact sm b o hb
        · by_cases hji : j < i
          · have e1 : rs[j]? = some r' := by rw [List.getElem?_append_left (by omega)] at hj; exact hj
            have e2 := hr' j r' z' e1 hz'
            have nrD : r' ≠ D := fun q => by
              rw [q, hD] at e2
              have e3 : rs.map V.ref = (Txt.split z' spS).map V.str := HO.lst.inj (Option.some.inj e2)
              have e4 := congrArg (fun l => l[j]?) e3
              simp only [List.getElem?_map, e1, Option.map_some] at e4
              cases e5 : (Txt.split z' spS)[j]? with
              | none => rw [e5] at e4; cases e4
              | some y => rw [e5] at e4; cases e4
            rw [upd_ne nrD, upd_ne (ne_of_none e2 nr)]
            exact e2
          · have hjl : j < (rs ++ [r]).length := (List.getElem?_eq_some_iff.mp hj).1
            have e0 : j = i := by rw [List.length_append, hri] at hjl; simp at hjl; omega
            subst e0
            rw [← hri, List.getElem?_append_right (Nat.le_refl _), Nat.sub_self] at hj
            obtain rfl : r = r' := Option.some.inj hj
            obtain rfl : z = z' := Option.some.inj (hz.symm.trans hz')
            rw [upd_ne hDr.symm, upd_same]
            rfl
      · obtain ⟨rs, hri, hD, sm, hr'⟩ := e
        have hp1 : H' p = some (.ins (He.ga K "Scan") dx []) := sm _ _ (Sm.new nq _ _ hp)
        have hDp : D ≠ p := fun q => by rw [q, hp1] at hD; cases hD
        refine ⟨_, rfl, p, _, dx, _, rfl, hp1, T.cl_Scan, T.na_Scan_lines, (show 0 < 1000 by decide), ?_⟩
        refine ⟨_, rfl, p, _, dx, _, rfl, upd_same, T.cl_Scan, T.na_Scan_line, (show 1 < 1000 by decide), ?_⟩
        refine ⟨_, rfl, p, _, dx, _, rfl, upd_same, T.cl_Scan, T.na_Scan_at, (show 2 < 1000 by decide), ?_⟩
        rw [upd_upd, upd_upd]
        refine k _ D ⟨rs, by rw [upd_ne hDp]; exact hD, by rw [hri, List.length_map, List.length_map], fun j r ws hj hw => ?_⟩ upd_same (((Sm.new nq).trans sm).kp.trans .upd)
        rw [List.getElem?_map] at hw
        cases hz : ls[j]? with
        | none => rw [hz] at hw; cases hw
        | some z =>
          rw [hz] at hw
          obtain rfl : Txt.split z spS = ws := Option.some.inj hw
          have e2 := hr' j r z hj hz
          rw [upd_ne (fun q => by rw [q, hp1] at e2; cases e2)]
          exact e2
    · refine ⟨_, rfl, _, _, _, _, _, rfl, .ty "str", hty, hk, _, rfl, ?_⟩
      exact iteT (bad_step k)
end
end K30

namespace K30
open PySem PySem.Spec PyProof.Rows L2 ExK LamX
/-! ### _law_web_heard -/
theorem pss_len {X : Cx} {sts : List Stmt} {t : TS} (h : PSs X sts t) : PSs X sts (fun D σ H => σ.length = X.N.length → t D σ H) :=
  ⟨fun pins s σ H D I q => h.run pins s σ H D I (q I.len)⟩
/-- what the def makes of the lambda's reading -/
def THeard (K : PySem.W.Frag) : (XK → Hp → VK → Prop) → Hp → VK → Prop := fun tl H Q => ∀ (H1 : Hp) (E' : XK) (Q' : VK), Sm H H1 →
  (∀ (dd : Addr) (x y : V) (H' : Hp), H' dd = some (.xd (xdBT x y)) → (∀ q H'', Sm H' H'' → H'' q = some (.tup [.str "text", x, y]) → Q (.ref q) H'') → E' (.ref (CB K)) (some dd) H') →
  (∀ (v : V) (H' : Hp), (∀ q, H' q = none → Q (.ref q) (upd H' q (.lst [v]))) → Q' v H') → tl E' H1 Q'
theorem sc_law_web_heard : FnScope ["ask", "caught", "told", "error", "some", "words", "word", "is_it"] ["ask"] (defScope s_law_web_heard) := ⟨rfl, rfl, rfl, by decide +kernel, rfl, by decide +kernel, by decide +kernel⟩
theorem set_at {σ : L2.St} {i : Nat} {v : Option V} (h : i < σ.length) : (σ.set i v)[i]? = some v := by
  rw [List.getElem?_set_self h]
theorem heard_gives {X : Cx} {g : Addr} {cdg : Value} {q : Str} (T : Txt X.prog X.K X.mg) :
    GivesTo X ["ask", "caught", "told", "error", "some", "words", "word", "is_it"] "_law_web_heard" (defScope s_law_web_heard) g cdg (defBody s_law_web_heard) "ask" q (THeard X.K) := by
  intro f c' s H Q tl act hc h
  refine ⟨_, pss_cons (ps_asg (pe_tup (pa_cons pe_non (pa_cons pe_non pa_nil))) (pg_tup rfl (pgs_cons (pg_name (i := 1) sc_law_web_heard.nd rfl (Or.inl rfl)) (pgs_cons (pg_name (i := 2) sc_law_web_heard.nd rfl (Or.inl rfl)) pgs_nil))))
    (pss_cons (ps_try_held (X := (cxOf C8.CX0 X.prog X.w X.K X.mg X.base ["ask", "caught", "told", "error", "some", "words", "word", "is_it"] "_law_web_heard" (defScope s_law_web_heard) g cdg X.A X.stack s H C8.E0).nox) (c := .ref (He.ga X.K "WebError")) (i := 3)
      (tb := fun W D σ H => ∃ Ech : XK, (∀ cls d σ' H', Ech cls d H' → W cls d σ' H') ∧ σ[0]? = some (some (.ref f)) ∧ H c' = some (CodeO c' q) ∧ tl Ech H (fun v H1 => D.nx (σ.set 2 (some v)) H1))
      rfl rfl rfl sc_law_web_heard.nd rfl rfl ⟨rfl, by decide, .inl T.g_WebError⟩ LamX.takes0 (ts := fun a cls d D σ H => σ.length = 8 → tAsg (tVar 3) (gName 1) D σ H) (fun W pn xe tk _ => ?_) (fun a oe cls d pn _ _ => ?_))
    (pss_cons (ps_if (pt_cmp (pc_isN (pv 1))) (pss_one (ps_ret (pe_lst (pa_cons (pv 2) pa_nil)))) pss_nil)
    (pss_cons (ps_if (pt_val (pe_callB call_isV (by rfl) T.n_isinstance (by decide +kernel) (pa_cons (pv 1) (pa_cons (pe_glob (v := .ref _) rfl T.g_TooMany rfl) pa_nil)))) pss_never pss_nil)
    (pss_cons (ps_if (pt_val (pe_callB call_isV (by rfl) T.n_isinstance (by decide +kernel) (pa_cons (pv 1) (pa_cons (pe_glob (v := .ref _) rfl T.g_BadText rfl) pa_nil)))) (pss_one (ps_ret (pe_tup (pa_cons pe_str (pa_cons (pe_xv (pv 1)) (pa_cons (pe_xv (pv 1)) pa_nil)))))) pss_nil)
    pss_never)))), ?_⟩
  · refine ⟨fun pins s' σ H' D I h' => ?_⟩
    obtain ⟨Ech, hW, h1, h2, h3⟩ := h'
    exact (pss_one (ps_set (i := 2) sc_law_web_heard.nd rfl (Or.inl rfl) (act W pn xe Ech _ _ tk hW))).run pins s' σ H' D I ⟨h1, h2, h3⟩
  · refine pss_len (X := Cx.suite _ a _) (t := tAsg (tVar 3) (gName 1)) ?_
    exact pss_one (ps_set (i := 1) sc_law_web_heard.nd rfl (Or.inl rfl) (pv 3))
  · refine ⟨(show 2 ≤ sizeLine by decide), fun t nt => ⟨t, _, rfl, .inl (.inl upd_same), rfl, _, _, rfl, _, _, rfl, rfl, ?_⟩⟩
    have hc1 : (upd H t (.tup [.non, .non])) c' = some (CodeO c' q) := by rw [upd_ne (ne_of_none hc nt)]; exact hc
    refine ⟨fun cls d H' => cls = .ref (CB X.K) ∧ ∃ (dd : Addr) (x y : V), d = some dd ∧ H' dd = some (.xd (xdBT x y)) ∧ ∀ q H'', Sm H' H'' → H'' q = some (.tup [.str "text", x, y]) → Q (.ref q) H'', ?_, rfl, hc1,
      h _ _ _ (Sm.new nt) (fun dd x y H' e k => ⟨rfl, dd, x, y, rfl, e, k⟩) (fun v H' k => ?_)⟩
    · rintro cls d σ' H' ⟨rfl, dd, x, y, rfl, e, k⟩
      refine ⟨true, T.em_BadText_WebError, fun _ a na hl => ?_, fun z => nomatch z⟩
      rw [List.length_set] at hl
      refine ⟨_, set_at (by omega), fun na' => ?_⟩
      have hda : dd ≠ a := ne_of_none e na
      have h1 : (upd H' a (ExV a (.ref (CB X.K)) (some dd))) dd = some (.xd (xdBT x y)) := by rw [upd_ne hda]; exact e
      have hv : ((((σ'.set 3 (some (V.ref a))).set 1 (some (V.ref a))).set 3 none)[1]? : Option (Option V)) = some (some (V.ref a)) := by
        rw [List.getElem?_set_ne (by decide)]
        exact set_at (by rw [List.length_set]; omega)
      refine ⟨_, hv, _, rfl, iteF ?_⟩
      refine ⟨_, hv, a, CB X.K, dd, _, _, _, _, rfl, upd_same, h1, T.I_BadText.exc, .own _, T.k_TooMany, _, rfl, iteF ?_⟩
      refine ⟨_, hv, a, CB X.K, dd, _, _, _, _, rfl, upd_same, h1, T.I_BadText.exc, .own _, T.k_BadText, _, rfl, iteT ?_⟩
      refine ⟨_, hv, a, CB X.K, dd, _, _, rfl, upd_same, h1, T.I_BadText.xf, T.na_BadText_line, rfl, ?_⟩
      refine ⟨_, hv, a, CB X.K, dd, _, _, rfl, upd_same, h1, T.I_BadText.xf, T.na_BadText_word, rfl, (show 3 ≤ sizeLine by decide), fun p np => ?_⟩
      exact k p _ ((Sm.new na).trans (Sm.new np)) upd_same
    · exact ⟨_, rfl, _, rfl, iteT ⟨_, rfl, (show 1 ≤ sizeLine by decide), k⟩⟩
end K30

namespace K30
open PySem PySem.Spec PyProof.Rows L2 ExK LamX
/-! ### the law's context and its statements -/
abbrev LN : List Str := ["script", "some", "turn", "at", "lap", "lines", "line", "parted", "word", "way", "is_let", "due", "heard", "spot", "least", "most", "others", "pen", "scan", "words", "one", "row"]
abbrev LX (P : Program) (w : World) (K : PySem.W.Frag) (mg : Str → Option Value) (base : Heap) (c : Addr) (A : Around) (outer : List Env) (s : Shared) (H : Hp) (E : XK) : Cx :=
  (cxOf CX0 P w K mg base LN "law" (defScope s_law) (He.fAd K ("law", none)) (.ref c) A outer s H E).nox
abbrev LQ : Str := ("law" : Str) ++ ".<locals>." ++ "<lambda>"
theorem sc_law : FnScope LN ["script"] (defScope s_law) := ⟨rfl, rfl, rfl, by decide +kernel, rfl, by decide +kernel, by decide +kernel⟩
def noSt : Stmt := .Pass ⟨0, 0, 0, 0⟩
def lawB : List Stmt := defBody s_law
def forB : Stmt → List Stmt
  | .For _ _ b .. => b
  | _ => []
def turnB : List Stmt := forB (lawB.getD 2 noSt)
def lapB : List Stmt := forB (turnB.getD 4 noSt)
theorem PS.imp {X : Cx} {st : Stmt} {t t' : TS} (h : PS X st t) (k : ∀ D σ H, t' D σ H → t D σ H) : PS X st t' := ⟨fun pins s σ H D I q => h.run pins s σ H D I (k D σ H q)⟩
theorem PSs.imp {X : Cx} {st : List Stmt} {t t' : TS} (h : PSs X st t) (k : ∀ D σ H, t' D σ H → t D σ H) : PSs X st t' := ⟨fun pins s σ H D I q => h.run pins s σ H D I (k D σ H q)⟩
/-! ### a text times a number -/
def rMulS : R2 := fun x y H Q => ∃ (z : Str) (n : Int), x = .str z ∧ y = .int n ∧ MulOk z n ∧ Q (.str (Txt.mul z n)) H
theorem op_mul_str {X : Cx} : OpR X (binaryOp .Mult) rMulS := by
  intro pins s σ H x y v u Q I rx ry h
  obtain ⟨z, n, rfl, rfl, hz, q⟩ := h
  obtain ⟨t, rfl⟩ := rx
  obtain ⟨t', rfl⟩ := ry
  exact SB.mul hz (fun t' tk => ⟨.str (Txt.mul z n), H, I.tok _, ⟨_, rfl⟩, q⟩)
/-! ### the words -/
def WL : List Str := ["a", "b9", "tie", "zzzzzzzz", "zzzzzzzzz", "9", "07", "0", "12", "99999999999999999999", "100000000000000000000", "A", "", "-", "a b", "p0", "-3"]
def WL2 : List Str := WL ++ (["a", "b", ""] : List Str)
def wdB (s : Str) : Bool := decide (s.length ≤ 21) && (s.cps.toList.all fun c => decide (c < 128)) && (!figB s || (PySem.intText? s).isSome)
theorem wd_of {s : Str} (h : wdB s = true) : Wd s ∧ s.length ≤ 21 := by
  unfold wdB at h
  obtain ⟨h12, h3⟩ := He.ba h
  obtain ⟨h1, h2⟩ := He.ba h12
  refine ⟨⟨⟨Nat.le_trans (of_decide_eq_true h1) (by decide), fun c hc => of_decide_eq_true (List.all_eq_true.mp h2 c hc)⟩, fun hf => ?_⟩, of_decide_eq_true h1⟩
  rw [hf] at h3
  obtain ⟨z, hz⟩ := Option.isSome_iff_exists.mp (show (PySem.intText? s).isSome = true from h3)
  unfold numV
  rw [hz]
  rfl
theorem wl_all : WL2.all wdB = true := by decide +kernel
theorem wl_wd {s : Str} (h : s ∈ WL2) : Wd s ∧ s.length ≤ 21 := wd_of (List.all_eq_true.mp wl_all s h)
theorem wl_sub {s : Str} (h : s ∈ WL) : s ∈ WL2 := List.mem_append_left _ h
end K30

namespace K30
open PySem PySem.Spec PyProof.Rows L2 ExK LamX TL
/-! ### what splits give of joins -/
theorem joinL_app (y : List Nat) : ∀ {p q : List (List Nat)}, p ≠ [] → q ≠ [] → joinL y (p ++ q) = joinL y p ++ (y ++ joinL y q)
  | [], _, h, _ => absurd rfl h
  | [a], b :: q, _, _ => rfl
  | a :: b :: p, q, _, hq => by
    show a ++ (y ++ joinL y ((b :: p) ++ q)) = (a ++ (y ++ joinL y (b :: p))) ++ _
    rw [joinL_app y (p := b :: p) (by simp) hq]
    simp
theorem joinL_flat (y : List Nat) : ∀ {pss : List (List (List Nat))}, (∀ p ∈ pss, p ≠ []) → joinL y (pss.map (joinL y)) = joinL y pss.flatten
  | [], _ => rfl
  | [p], _ => by simp [joinL]
  | p :: q :: r, h => by
    have hq : (q :: r).flatten ≠ [] := by
      intro e
      exact h q (by simp) (List.flatten_eq_nil_iff.mp e q List.mem_cons_self)
    show joinL y p ++ (y ++ joinL y ((q :: r).map (joinL y))) = joinL y (p ++ (q :: r).flatten)
    rw [joinL_app y (h p List.mem_cons_self) hq, joinL_flat y (pss := q :: r) fun z hz => h z (List.mem_cons_of_mem _ hz)]
def pieces (w : Str) : List Str := if w = "a b" then ["a", "b"] else [w]
def pieceB (w : Str) : Bool := decide (joinL [32] ((pieces w).map tl) = tl w) && ((pieces w).all fun p => decide (p ∈ WL2) && !decide (32 ∈ tl p)) && !(decide (10 ∈ tl w)) && decide (w.length ≤ 21)
theorem piece_all : WL.all pieceB = true := by decide +kernel
theorem pieces_ne (w : Str) : pieces w ≠ [] := by
  unfold pieces
  split <;> simp
theorem pieces_le (w : Str) : (pieces w).length ≤ 2 := by
  unfold pieces
  split <;> simp
structure PieceOk (w : Str) : Prop where
  j : joinL [32] ((pieces w).map tl) = tl w
  m : ∀ p ∈ pieces w, p ∈ WL2 ∧ 32 ∉ tl p
  n : 10 ∉ tl w
  l : w.length ≤ 21
theorem piece_ok {w : Str} (h : w ∈ WL) : PieceOk w := by
  have q := List.all_eq_true.mp piece_all w h
  unfold pieceB at q
  obtain ⟨q, q4⟩ := He.ba q
  obtain ⟨q, q3⟩ := He.ba q
  obtain ⟨q1, q2⟩ := He.ba q
  refine ⟨of_decide_eq_true q1, fun p hp => ?_, by simpa using q3, of_decide_eq_true q4⟩
  obtain ⟨a, b⟩ := He.ba (List.all_eq_true.mp q2 p hp)
  exact ⟨of_decide_eq_true a, by simpa using b⟩
theorem len_tl2 (s : Str) : (tl s).length = s.length := len_l s
theorem joinL_len (y : List Nat) (n : Nat) : ∀ ps : List (List Nat), (∀ p ∈ ps, p.length ≤ n) → (joinL y ps).length ≤ ps.length * (n + y.length)
  | [], _ => by simp [joinL]
  | [p], h => by
    have := h p List.mem_cons_self
    simp only [joinL, List.length_singleton]
    omega
  | p :: q :: r, h => by
    have h1 := h p List.mem_cons_self
    have h2 := joinL_len y n (q :: r) fun z hz => h z (List.mem_cons_of_mem _ hz)
    show (p ++ (y ++ joinL y (q :: r))).length ≤ _
    rw [List.length_append, List.length_append]
    have e : (p :: q :: r).length * (n + y.length) = (n + y.length) + (q :: r).length * (n + y.length) := by
      rw [List.length_cons (a := p), Nat.succ_mul, Nat.add_comm]
    omega
theorem joinL_mem (y : List Nat) {c : Nat} : ∀ ps : List (List Nat), c ∈ joinL y ps → (c ∈ y) ∨ ∃ p ∈ ps, c ∈ p
  | [], h => by cases h
  | [p], h => .inr ⟨p, List.mem_cons_self, h⟩
  | p :: q :: r, h => by
    rcases List.mem_append.mp (show c ∈ p ++ (y ++ joinL y (q :: r)) from h) with h | h
    · exact .inr ⟨p, List.mem_cons_self, h⟩
    · rcases List.mem_append.mp h with h | h
      · exact .inl h
      · rcases joinL_mem y (q :: r) h with h | ⟨z, hz, h⟩
        · exact .inl h
        · exact .inr ⟨z, List.mem_cons_of_mem _ hz, h⟩
theorem tl_sp : tl spS = [32] := by decide +kernel
theorem tl_nl : tl nlS = [10] := by decide +kernel
theorem tlj (y : Str) (ws : List Str) : tl (Txt.join y ws) = joinL (tl y) (ws.map tl) := by rw [join_eq, tl_join]
/-- a line of such words, split -/
theorem line_split {ws : List Str} (h : ∀ s ∈ ws, s ∈ WL) : Txt.split (Txt.join spS ws) spS = if ws = [] then [("" : Str)] else (ws.map pieces).flatten := by
  have hk : spS.cps.all (· < 256) = true := by decide +kernel
  by_cases e : ws = []
  · rw [if_pos e, e]
    have e1 : Txt.join spS [] = Txt.join spS [("" : Str)] := by decide +kernel
    rw [e1]
    exact split_join (S := []) tl_sp hk (by simp) fun p hp => by rw [List.mem_singleton.mp hp]; decide +kernel
  · rw [if_neg e]
    have e1 : Txt.join spS ws = Txt.join spS (ws.map pieces).flatten := by
      refine ext_tl ?_
      rw [tlj, tlj, tl_sp, List.map_flatten, List.map_map, ← joinL_flat [32] (pss := ws.map (List.map tl ∘ pieces)) ?_, List.map_map]
      · congr 1
        refine List.map_congr_left fun w hw => ?_
        exact (piece_ok (h w hw)).j.symm
      · intro p hp
        obtain ⟨w, _, rfl⟩ := List.mem_map.mp hp
        intro q
        exact pieces_ne w (List.map_eq_nil_iff.mp q)
    rw [e1]
    refine split_join (S := []) tl_sp hk ?_ fun p hp => ?_
    · intro q
      obtain ⟨w, r, rfl⟩ := List.exists_cons_of_ne_nil e
      exact pieces_ne w (List.flatten_eq_nil_iff.mp q _ List.mem_cons_self)
    · obtain ⟨ps, hps, hpp⟩ := List.mem_flatten.mp hp
      obtain ⟨w, hw, rfl⟩ := List.mem_map.mp hps
      exact ((piece_ok (h w hw)).m p hpp).2
theorem flat_len (ws : List Str) : ((ws.map pieces).flatten).length ≤ 2 * ws.length := by
  induction ws with
  | nil => simp
  | cons w r ih =>
    have := pieces_le w
    simp only [List.map_cons, List.flatten_cons, List.length_append, List.length_cons]
    omega
theorem line_row {ws : List Str} (h : ∀ s ∈ ws, s ∈ WL) (hl : ws.length ≤ 4) : (Txt.split (Txt.join spS ws) spS).length ≤ 1000 ∧ ∀ s ∈ Txt.split (Txt.join spS ws) spS, Wd s := by
  rw [line_split h]
  split
  · exact ⟨by decide, fun s hs => by rw [List.mem_singleton.mp hs]; exact (wl_wd (by decide +kernel)).1⟩
  · refine ⟨Nat.le_trans (flat_len ws) (by omega), fun s hs => ?_⟩
    obtain ⟨ps, hps, hpp⟩ := List.mem_flatten.mp hs
    obtain ⟨w, hw, rfl⟩ := List.mem_map.mp hps
    exact (wl_wd ((piece_ok (h w hw)).m s hpp).1).1
theorem line_len {ws : List Str} (h : ∀ s ∈ ws, s ∈ WL) (hl : ws.length ≤ 4) : (Txt.join spS ws).length ≤ 100 := by
  rw [← len_tl2, tlj, tl_sp]
  have q := joinL_len [32] 21 (ws.map tl) fun p hp => by
    obtain ⟨w, hw, rfl⟩ := List.mem_map.mp hp
    rw [len_tl2]
    exact (piece_ok (h w hw)).l
  rw [List.length_map] at q
  have : ws.length * (21 + [32].length) ≤ 4 * 22 := Nat.mul_le_mul hl (Nat.le_refl _)
  omega
theorem line_nl {ws : List Str} (h : ∀ s ∈ ws, s ∈ WL) : 10 ∉ tl (Txt.join spS ws) := by
  rw [tlj, tl_sp]
  intro q
  rcases joinL_mem [32] _ q with q | ⟨p, hp, q⟩
  · simp at q
  · obtain ⟨w, hw, rfl⟩ := List.mem_map.mp hp
    exact (piece_ok (h w hw)).n q
/-- a line of the text -/
structure LineOk (s : Str) : Prop where
  len : s.length ≤ 100
  nl : 10 ∉ tl s
  row : (Txt.split s spS).length ≤ 1000 ∧ ∀ z ∈ Txt.split s spS, Wd z
theorem line_ok {ws : List Str} (h : ∀ s ∈ ws, s ∈ WL) (hl : ws.length ≤ 4) : LineOk (Txt.join spS ws) := ⟨line_len h hl, line_nl h, line_row h hl⟩
theorem lines_split {ls : List Str} (hne : ls ≠ []) (h : ∀ s ∈ ls, LineOk s) : Txt.split (Txt.join nlS ls) nlS = ls :=
  split_join (S := []) tl_nl (by decide +kernel) hne fun p hp => (h p hp).nl
theorem lines_len {ls : List Str} (h : ∀ s ∈ ls, LineOk s) (hl : ls.length ≤ 4) : (Txt.join nlS ls).length ≤ 1000 := by
  rw [← len_tl2, tlj, tl_nl]
  have q := joinL_len [10] 100 (ls.map tl) fun p hp => by
    obtain ⟨w, hw, rfl⟩ := List.mem_map.mp hp
    rw [len_tl2]
    exact (h w hw).len
  rw [List.length_map] at q
  have : ls.length * (100 + [10].length) ≤ 4 * 101 := Nat.mul_le_mul hl (Nat.le_refl _)
  omega
theorem sz_of {ls : List Str} (h : ∀ s ∈ ls, LineOk s) (hl : ls.length ≤ 4) : Sz (ls.map fun l => Txt.split l spS) := by
  refine ⟨by rw [List.length_map]; omega, fun ws hw => ?_⟩
  obtain ⟨l, hl', rfl⟩ := List.mem_map.mp hw
  exact (h l hl').row
end K30

namespace K30
open PySem PySem.Spec PyProof.Rows L2 ExK LamX TL
/-! ### what stands in the heap through a lap -/
structure Par where
  (pp c sm pt sp dx L Tb : Addr)
  ns : List Int
  ll : List (List Str)
structure Lap (K : PySem.W.Frag) (H : Hp) (p : Par) (T l a : Nat) : Prop where
  pen : PenAt H p.pp p.c p.ns T
  smw : H p.sm = some (.lst (WL.map V.str))
  part : Lay H p.pt p.ll
  scan : ScAt K H p.sp p.dx p.L p.ll l a
  tabs : Tabs [(p.Tb, LQ)] H
/-- what stands through a turn -/
structure Trn (H : Hp) (pp c sm Tb : Addr) (ns : List Int) (T : Nat) : Prop where
  pen : PenAt H pp c ns T
  smw : H sm = some (.lst (WL.map V.str))
  tabs : Tabs [(Tb, LQ)] H
theorem Lap.trn {K : PySem.W.Frag} {H : Hp} {p : Par} {T l a : Nat} (S : Lap K H p T l a) : Trn H p.pp p.c p.sm p.Tb p.ns T := ⟨S.pen, S.smw, S.tabs⟩
theorem Lay.sm {H H' : Hp} {L : Addr} {ll : List (List Str)} (s : Sm H H') (h : Lay H L ll) : Lay H' L ll := by
  obtain ⟨rs, e1, e2, e3⟩ := h.ex
  exact ⟨rs, s _ _ e1, e2, fun i r ws h1 h2 => s _ _ (e3 i r ws h1 h2)⟩
theorem Lay.kp {H H' : Hp} {L q : Addr} {ll : List (List Str)} (s : Kp q H H') (h : Lay H L ll) (n : ∀ xs : List V, H q = some (.lst xs) → (∀ rs : List Addr, xs ≠ rs.map V.ref) ∧ ∀ ws : List Str, xs ≠ ws.map V.str) : Lay H' L ll := by
  obtain ⟨rs, e1, e2, e3⟩ := h.ex
  exact ⟨rs, s _ _ e1 (fun z => (n _ (by rw [← z]; exact e1)).1 rs rfl), e2, fun i r ws h1 h2 => s _ _ (e3 i r ws h1 h2) (fun z => (n _ (by rw [← z]; exact e3 i r ws h1 h2)).2 ws rfl)⟩
theorem pen_no {H : Hp} {pp c : Addr} {ns : List Int} {T : Nat} (S : PenAt H pp c ns T) : ∀ xs : List V, H pp = some (.lst xs) → (∀ rs : List Addr, xs ≠ rs.map V.ref) ∧ ∀ ws : List Str, xs ≠ ws.map V.str := by
  obtain ⟨⟨t, r, e, _⟩, _⟩ := S
  intro xs h
  rw [e] at h
  obtain rfl := HO.lst.inj (Option.some.inj h)
  constructor
  · intro rs q
    cases rs with
    | nil => cases q
    | cons r0 rs =>
      cases rs with
      | nil => cases q
      | cons r1 rs => cases q
  · intro ws q
    cases ws with
    | nil => cases q
    | cons r0 rs => cases q
theorem TabS.kp {H H' : Hp} {P q : Addr} {x : Str} (t : TabS H P x) (s : Kp q H H') (n : ∀ ps, H q ≠ some (.tbl ps)) (n2 : ∀ f, H q ≠ some (HO.ext f)) : TabS H' P x := by
  obtain ⟨ps, h1, h2, h3⟩ := t
  refine ⟨ps, s _ _ h1 (fun z => n ps (by rw [← z]; exact h1)), h2, fun pos cv hc => ?_⟩
  obtain ⟨c, e1, e2⟩ := h3 pos cv hc
  refine ⟨c, e1, s _ _ e2 (fun z => ?_)⟩
  rw [z] at e2
  unfold CodeO at e2
  exact n2 _ e2
theorem Tabs.kp {T : List (Addr × Str)} {H H' : Hp} {q : Addr} (t : Tabs T H) (s : Kp q H H') (n : ∀ ps, H q ≠ some (.tbl ps)) (n2 : ∀ f, H q ≠ some (HO.ext f)) : Tabs T H' := fun p hp => TabS.kp (t p hp) s n n2
theorem pen_nt {H : Hp} {pp c : Addr} {ns : List Int} {T : Nat} (S : PenAt H pp c ns T) : (∀ ps, H pp ≠ some (.tbl ps)) ∧ ∀ f, H pp ≠ some (HO.ext f) := by
  obtain ⟨⟨t, r, e, _⟩, _⟩ := S
  exact ⟨fun ps q => (by rw [e] at q; cases q), fun f q => (by rw [e] at q; cases q)⟩
theorem PenAt.sm {H H' : Hp} {p c : Addr} {ns : List Int} {T : Nat} (S : PenAt H p c ns T) (s : Sm H H') : PenAt H' p c ns T := by
  obtain ⟨⟨t, r, hp, h1⟩, hc, n⟩ := S
  exact ⟨⟨t, r, s _ _ hp, h1⟩, s _ _ hc, n⟩
theorem PenAt.ext {H H' : Hp} {p c : Addr} {ns : List Int} {T : Nat} (S : PenAt H p c ns T) (s : ExtN H H') : PenAt H' p c ns T := by
  obtain ⟨⟨t, r, hp, h1⟩, hc, n⟩ := S
  exact ⟨⟨t, r, s _ _ hp (fun _ q => nomatch q), h1⟩, s _ _ hc (fun _ q => nomatch q), n⟩
theorem Lay.ext {H H' : Hp} {L : Addr} {ll : List (List Str)} (s : ExtN H H') (h : Lay H L ll) : Lay H' L ll := by
  obtain ⟨rs, e1, e2, e3⟩ := h.ex
  exact ⟨rs, s _ _ e1 (fun _ q => nomatch q), e2, fun i r ws h1 h2 => s _ _ (e3 i r ws h1 h2) (fun _ q => nomatch q)⟩
theorem wl_ne (xs : List V) (h : xs = WL.map V.str) {x y : V} {c : Addr} : xs ≠ [.ref c, x, y] := by
  rw [h]
  intro q
  cases q
section
variable {K : PySem.W.Frag} {H H' : Hp} {p : Par} {T T' l a l' a' : Nat} {pp c sm Tb : Addr} {ns : List Int}
/-! through a turn -/
theorem Trn.new (S : Trn H pp c sm Tb ns T) (s : Sm H H') : Trn H' pp c sm Tb ns T := ⟨S.pen.sm s, s _ _ S.smw, S.tabs.ext s⟩
theorem Trn.drew (S : Trn H pp c sm Tb ns T) (g : PenAt H' pp c ns T') (s : Kp pp H H') : Trn H' pp c sm Tb ns T' := by
  refine ⟨g, s _ _ S.smw (fun z => ?_), Tabs.kp S.tabs s (pen_nt S.pen).1 (pen_nt S.pen).2⟩
  obtain ⟨⟨t, r, e, _⟩, _⟩ := S.pen
  rw [← z, S.smw] at e
  exact wl_ne _ rfl (HO.lst.inj (Option.some.inj e))
theorem Trn.mono (S : Trn H pp c sm Tb ns T) (h : T ≤ T') : Trn H pp c sm Tb ns T' := ⟨S.pen.mono h, S.smw, S.tabs⟩
theorem Trn.ext (S : Trn H pp c sm Tb ns T) (s : ExtN H H') (t : Tabs [(Tb, LQ)] H') : Trn H' pp c sm Tb ns T := ⟨S.pen.ext s, s _ _ S.smw (fun _ q => nomatch q), t⟩
/-! through a lap -/
theorem Lap.mono (S : Lap K H p T l a) (h : T ≤ T') : Lap K H p T' l a := ⟨S.pen.mono h, S.smw, S.part, S.scan, S.tabs⟩
theorem Lap.new (S : Lap K H p T l a) (s : Sm H H') : Lap K H' p T l a :=
  ⟨S.pen.sm s, s _ _ S.smw, S.part.sm s, ⟨s _ _ S.scan.h, S.scan.lay.sm s, S.scan.ln, S.scan.at', S.scan.sz⟩, S.tabs.ext s⟩
theorem Lap.ext (S : Lap K H p T l a) (s : ExtN H H') (t : Tabs [(p.Tb, LQ)] H') : Lap K H' p T l a :=
  ⟨S.pen.ext s, s _ _ S.smw (fun _ q => nomatch q), S.part.ext s, ⟨s _ _ S.scan.h (fun _ q => nomatch q), S.scan.lay.ext s, S.scan.ln, S.scan.at', S.scan.sz⟩, t⟩
theorem Lap.drew (S : Lap K H p T l a) (g : PenAt H' p.pp p.c p.ns T') (s : Kp p.pp H H') : Lap K H' p T' l a := by
  obtain ⟨g1, g2, g3⟩ := S.trn.drew g s
  refine ⟨g1, g2, S.part.kp s (pen_no S.pen), ⟨s _ _ S.scan.h (fun z => ?_), S.scan.lay.kp s (pen_no S.pen), S.scan.ln, S.scan.at', S.scan.sz⟩, g3⟩
  obtain ⟨⟨t, r, e, _⟩, _⟩ := S.pen
  rw [← z, S.scan.h] at e
  cases e
/-- the scan went on -/
theorem Lap.went (S : Lap K H p T l a) (s : Kp p.sp H H') (h : H' p.sp = some (scO K p.dx p.L l' a')) (hl : l' ≤ p.ll.length) (ha : ∀ ws, p.ll[l']? = some ws → a' ≤ ws.length) : Lap K H' p T l' a' := by
  have n1 : ∀ xs : List V, H p.sp ≠ some (.lst xs) := fun xs q => by rw [S.scan.h] at q; cases q
  have n2 : ∀ xs : List V, H p.sp = some (.lst xs) → (∀ rs : List Addr, xs ≠ rs.map V.ref) ∧ ∀ ws : List Str, xs ≠ ws.map V.str := fun xs q => absurd q (n1 xs)
  have nl : ∀ b xs, H b = some (.lst xs) → b ≠ p.sp := fun b xs q z => n1 xs (by rw [← z]; exact q)
  obtain ⟨⟨t, r, e, h1⟩, hc, nn⟩ := S.pen
  exact ⟨⟨⟨t, r, s _ _ e (nl _ _ e), h1⟩, s _ _ hc (nl _ _ hc), nn⟩, s _ _ S.smw (nl _ _ S.smw), S.part.kp s n2, ⟨h, S.scan.lay.kp s n2, hl, ha, S.scan.sz⟩,
    Tabs.kp S.tabs s (fun ps q => (by rw [S.scan.h] at q; cases q)) (fun f q => (by rw [S.scan.h] at q; cases q))⟩
end
end K30

namespace K30
open PySem PySem.Spec PyProof.Rows L2 ExK LamX
structure J22 where
  (x0 x2 x4 x5 x13 x20 x21 : Option V)
def lapσ (j : J22) (p : Par) (l a : Nat) (x8 x9 x10 x11 x12 x14 x15 x16 x19 : Option V) : L2.St :=
  [j.x0, some (.ref p.sm), j.x2, some (.int (a : Int)), j.x4, j.x5, some (.int (l : Int)), some (.ref p.pt), x8, x9, x10, x11, x12, j.x13, x14, x15, x16, some (.ref p.pp), some (.ref p.sp), x19, j.x20, j.x21]
section
variable {P : Program} {w : World} {K : PySem.W.Frag} {mg : Str → Option Value} {base : Heap} {c : Addr} {A : Around} {outer : List Env} {s : Shared} {H0 : Hp} {E : XK}
theorem dec_lt (m n : Nat) : decide ((m : Int) < (n : Int)) = decide (m < n) := by
  by_cases q : m < n
  · rw [decide_eq_true q, decide_eq_true (by omega)]
  · rw [decide_eq_false q, decide_eq_false (by omega)]
theorem eqv_self {d : PyData} (h : SeqAt.shaped d = true) : PyData.eqv d d = true := by
  unfold SeqAt.shaped at h
  exact SeqAt.eqv_refl d (He.ba h).1
theorem scal_vO (o : Option Str) : scal (vO o) (vO o) = true := by cases o <;> rfl
/-- word = parted[line][at] if .. else None -/
theorem c1_ps (T : Txt P K mg) (hr : Room 6 (LX P w K mg base c A outer s H0 E).A) : PS (LX P w K mg base c A outer s H0 E) (lapB.getD 0 noSt) (fun D σ H => ∃ j p Tn l a x8 x9 x10 x11 x12 x14 x15 x16 x19, σ = lapσ j p l a x8 x9 x10 x11 x12 x14 x15 x16 x19 ∧
    Lap K H p Tn l a ∧ D.nx (lapσ j p l a (some (vO (aheadW p.ll l a))) x9 x10 x11 x12 x14 x15 x16 x19) H) := by
  refine PS.imp (ps_set (i := 8) sc_law.nd rfl (Or.inl rfl) (pe_ifExp (PW.pt (pw_and (pt_cmpR op_lt (pv 6) (pe_callB call_len_seq (by rfl) T.n_len PySem.boot_len (pa_cons (pv 7) pa_nil)) (nomark _)) (pw_and1 (pt_cmpR op_lt (pv 3) (pe_callB call_len_seq (by rfl) T.n_len PySem.boot_len (pa_cons (pe_ix ix_list (pv 7) (pv 6) (fun _ _ => rfl)) pa_nil)) (nomark _))))) (pe_ix ix_list (pe_ix ix_list (pv 7) (pv 6) (fun _ _ => rfl)) (pv 3) (fun _ _ => rfl)) pe_non)) fun D σ H h => ?_
  obtain ⟨j, p, Tn, l, a, x8, x9, x10, x11, x12, x14, x15, x16, x19, rfl, S, k⟩ := h
  obtain ⟨xs, hxs, hl⟩ := S.part.len (K := K)
  refine ⟨_, rfl, _, rfl, p.pt, xs, rfl, .inl hxs, _, _, rfl, rfl, _, rfl, ?_⟩
  unfold aheadW at k
  rw [hl, dec_lt]
  refine ite2 (fun h1 => ?_) fun h1 => ?_
  · have hlt := of_decide_eq_true h1
    have e : p.ll[l]? = some p.ll[l] := List.getElem?_eq_getElem hlt
    rw [e] at k
    obtain ⟨ys, r, hys, hat, hr'⟩ := S.part.at (K := K) e
    refine ⟨_, rfl, _, rfl, _, rfl, p.pt, ys, _, _, rfl, rfl, hys, hat, r, _, rfl, .inl hr', _, _, rfl, rfl, _, rfl, ?_⟩
    rw [List.length_map, dec_lt]
    refine ite2 (fun h2 => ?_) fun h2 => ?_
    · have ha := of_decide_eq_true h2
      have e2 : (p.ll[l])[a]? = some (p.ll[l])[a] := List.getElem?_eq_getElem ha
      rw [show (some p.ll[l]).bind (fun ws => ws[a]?) = some (p.ll[l])[a] from e2] at k
      exact ⟨_, rfl, _, rfl, p.pt, ys, _, _, rfl, rfl, hys, hat, _, rfl, r, _, _, _, rfl, rfl, hr', at_of (j := a) rfl (by rw [List.getElem?_map, e2]; rfl), k⟩
    · have e2 : (p.ll[l])[a]? = none := List.getElem?_eq_none (Nat.le_of_not_lt fun q => h2 (decide_eq_true q))
      rw [show (some p.ll[l]).bind (fun ws => ws[a]?) = none from e2] at k
      exact k
  · have e : p.ll[l]? = none := List.getElem?_eq_none (Nat.le_of_not_lt fun q => h1 (decide_eq_true q))
    rw [e] at k
    exact k
/-- the scan stands where the law says -/
theorem c2_ps (T : Txt P K mg) (hr : Room 6 (LX P w K mg base c A outer s H0 E).A) : PS (LX P w K mg base c A outer s H0 E) (lapB.getD 1 noSt) (fun D σ H => ∃ j p Tn l a x9 x10 x11 x12 x14 x15 x16 x19, σ = lapσ j p l a (some (vO (aheadW p.ll l a))) x9 x10 x11 x12 x14 x15 x16 x19 ∧
    Lap K H p Tn l a ∧ ∀ H', Lap K H' p Tn l a → D.nx (lapσ j p l a (some (vO (aheadW p.ll l a))) x9 x10 x11 x12 x14 x15 x16 x19) H') := by
  obtain ⟨fd1, G_ahead, b_ahead⟩ := ok_Scan_ahead (w := w) (base := base) T
  obtain ⟨fd2, G_is_over, b_is_over⟩ := ok_Scan_is_over (w := w) (base := base) T
  refine PS.imp (ps_if (PW.pt (pw_or (pt_cmpR (op_neD hr.units) (pe_tup (pa_cons (pe_fld (pv 18) rfl) (pa_cons (pe_fld (pv 18) rfl) pa_nil))) (pe_tup (pa_cons (pv 6) (pa_cons (pv 3) pa_nil))) (nomark _)) (pw_or (pt_cmpR op_ne (pe_meth0 (pv 18) T.cl_Scan T.m_Scan_ahead G_ahead (hr.mono (by decide)) b_ahead .nil pass0) (pv 8) (nomark _)) (pw_or1 (pt_cmpR op_ne (pe_meth0 (pv 18) T.cl_Scan T.m_Scan_is_over G_is_over (hr.mono (by decide)) b_is_over .nil pass0) (pe_cmpR op_eq (pv 6) (pe_callB call_len_seq (by rfl) T.n_len PySem.boot_len (pa_cons (pv 7) pa_nil)) (nomark _)) (nomark _)))))) (pss_one (ps_ret pe_bl)) pss_nil) fun D σ H h => ?_
  obtain ⟨j, p, Tn, l, a, x9, x10, x11, x12, x14, x15, x16, x19, rfl, S, k⟩ := h
  have Sh := S.scan.h
  refine ⟨_, rfl, p.sp, _, p.dx, _, _, rfl, Sh, T.cl_Scan, T.na_Scan_line, rfl, _, rfl, p.sp, _, p.dx, _, _, rfl, Sh, T.cl_Scan, T.na_Scan_at, rfl, (show 2 ≤ sizeLine by decide), fun t nt => ?_⟩
  refine ⟨_, rfl, _, rfl, (show 2 ≤ sizeLine by decide), fun t2 nt2 => ?_⟩
  have S2 : Lap K (upd (upd H t (.tup [.int l, .int a])) t2 (.tup [.int l, .int a])) p Tn l a := (S.new (Sm.new nt)).new (Sm.new nt2)
  refine ⟨_, _, .tup (.inl (.inl (by rw [upd_ne (ne_of_none upd_same nt2), upd_same]))) (.cons (.int _) (.cons (.int _) .nil)), .tup (.inl (.inl upd_same)) (.cons (.int _) (.cons (.int _) .nil)), by rfl, by rfl, false, by rw [eqv_self (by rfl)]; rfl, ?_⟩
  obtain ⟨xs, hxs, hl⟩ := S2.part.len (K := K)
  refine iteF ⟨_, rfl, p.sp, p.dx, _, rfl, S2.scan.h, rfl, p.sp, p.dx, p.L, p.ll, l, a, rfl, S2.scan, _, rfl, scal_vO _, false, by rw [decide_eq_true rfl]; rfl, ?_⟩
  refine iteF ⟨_, rfl, p.sp, p.dx, _, rfl, S2.scan.h, rfl, p.sp, p.dx, p.L, p.ll, l, a, rfl, S2.scan, _, rfl, _, rfl, p.pt, xs, rfl, .inl hxs, rfl, rfl, false, ?_, ?_⟩
  · rw [hl, nat_eq_dec, decide_eq_true rfl]
    rfl
  · exact iteF (k _ S2)
/-- way = _law_pick(pen, [..]) -/
theorem c3_ps (T : Txt P K mg) (hr : Room 6 (LX P w K mg base c A outer s H0 E).A) : PS (LX P w K mg base c A outer s H0 E) (lapB.getD 2 noSt) (fun D σ H => ∃ j p Tn l a x8 x9 x10 x11 x12 x14 x15 x16 x19, σ = lapσ j p l a x8 x9 x10 x11 x12 x14 x15 x16 x19 ∧
    Lap K H p Tn l a ∧ Tn ≤ 1000000 ∧ ∀ (i : Nat) (way : Str) H', (["take", "take_of", "take_name", "take_number", "end_line", "end_line", "end", "stop"] : List Str)[i]? = some way → Lap K H' p (Tn + 1) l a → D.nx (lapσ j p l a x8 (some (.str way)) x10 x11 x12 x14 x15 x16 x19) H') := by
  obtain ⟨fd1, G_law_pick, b_law_pick, k_law_pick⟩ := ok_law_pick (w := w) (base := base) T
  refine PS.imp (ps_set (i := 9) sc_law.nd rfl (Or.inl rfl) (pe_call G_law_pick (hr.mono (by decide)) rfl T.g_law_pick k_law_pick b_law_pick .nil pass0 (pa_cons (pv 17) (pa_cons (pe_lst (pa_cons pe_str (pa_cons pe_str (pa_cons pe_str (pa_cons pe_str (pa_cons pe_str (pa_cons pe_str (pa_cons pe_str (pa_cons pe_str pa_nil))))))))) pa_nil)))) fun D σ H h => ?_
  obtain ⟨j, p, Tn, l, a, x8, x9, x10, x11, x12, x14, x15, x16, x19, rfl, S, hT, k⟩ := h
  refine ⟨_, rfl, (show 8 ≤ sizeLine by decide), fun q nq => ?_⟩
  have S1 := S.new (Sm.new (o := .lst ((["take", "take_of", "take_name", "take_number", "end_line", "end_line", "end", "stop"] : List Str).map V.str)) nq)
  refine ⟨p.pp, p.c, q, p.ns, Tn, _, rfl, S1.pen, ?_, .inl (SqL.of upd_same), by simp, by decide, hT, fun i x H' hx g kp => ?_⟩
  · obtain ⟨⟨t, r, e, _⟩, _⟩ := S.pen
    exact fun z => by rw [z, e] at nq; cases nq
  · have hx' : ((["take", "take_of", "take_name", "take_number", "end_line", "end_line", "end", "stop"] : List Str).map V.str)[i]? = some x := hx
    rw [List.getElem?_map] at hx'
    cases e : (["take", "take_of", "take_name", "take_number", "end_line", "end_line", "end", "stop"] : List Str)[i]? with
    | none => rw [e] at hx'; cases hx'
    | some way =>
      rw [e] at hx'
      obtain rfl : V.str way = x := Option.some.inj hx'
      exact k i way H' e (S1.drew g kp)
end
end K30

namespace K30
open PySem PySem.Spec PyProof.Rows L2 ExK LamX
/-- the list or tuple of other words -/
def Oth (H : Hp) (b : Addr) (ol : List Str) : Prop := (ol = [] ∧ H b = some (.tup [])) ∨ (ol = [("a" : Str)] ∧ H b = some (.tup [.str "a"])) ∨ (ol = [("b9" : Str), "tie"] ∧ H b = some (.lst [.str "b9", .str "tie"]))
section
variable {P : Program} {w : World} {K : PySem.W.Frag} {mg : Str → Option Value} {base : Heap} {c : Addr} {A : Around} {outer : List Env} {s : Shared} {H0 : Hp} {E : XK}
theorem pp_none {K : PySem.W.Frag} {H : Hp} {p : Par} {T l a : Nat} (S : Lap K H p T l a) {q : Addr} (nq : H q = none) : q ≠ p.pp := by
  obtain ⟨⟨t, r, e, _⟩, _⟩ := S.pen
  exact fun z => by rw [z, e] at nq; cases nq
theorem del_sm (H : Hp) (D : Addr) : Sm (del H D) H := fun b o h => by
  by_cases e : b = D
  · rw [e, del_same] at h; cases h
  · rw [del_ne e] at h; exact h
theorem del_upd (H : Hp) (D : Addr) (o : HO) : del (upd H D o) D = del H D := by
  funext b
  by_cases e : b = D
  · rw [e, del_same, del_same]
  · rw [del_ne e, del_ne e, upd_ne e]
theorem del_none {H : Hp} {D : Addr} (h : H D = none) : del H D = H := by
  funext b
  by_cases e : b = D
  · rw [e, del_same, h]
  · rw [del_ne e]
theorem PenAt.del {H H' : Hp} {D pp c : Addr} {ns : List Int} {T T' : Nat} (S : PenAt (del H D) pp c ns T) (g : PenAt H' pp c ns T') : PenAt (del H' D) pp c ns T' := by
  obtain ⟨⟨t, r, e, _⟩, hc, _⟩ := S
  obtain ⟨⟨t', r', e', h'⟩, hc', nn⟩ := g
  have n1 : pp ≠ D := fun z => by rw [z, del_same] at e; cases e
  have n2 : c ≠ D := fun z => by rw [z, del_same] at hc; cases hc
  exact ⟨⟨t', r', by rw [del_ne n1]; exact e', h'⟩, by rw [del_ne n2]; exact hc', nn⟩
theorem Kp.del {H H' : Hp} {D q : Addr} (s : Kp q H H') : Kp q (del H D) (del H' D) := fun b o h n => by
  by_cases e : b = D
  · rw [e, del_same] at h; cases h
  · rw [del_ne e] at h ⊢; exact s b o h n
theorem Lap.drewD {K : PySem.W.Frag} {H H' : Hp} {p : Par} {D : Addr} {T T' l a : Nat} (S : Lap K (del H D) p T l a) (g : PenAt H' p.pp p.c p.ns T') (s : Kp p.pp H H') : Lap K (del H' D) p T' l a := S.drew (S.pen.del g) s.del
theorem Lap.ofDel {K : PySem.W.Frag} {H : Hp} {p : Par} {D : Addr} {T l a : Nat} (S : Lap K (del H D) p T l a) : Lap K H p T l a := S.new (del_sm H D)
theorem Oth.sm {H H' : Hp} {b : Addr} {ol : List Str} (h : Oth H b ol) (s : Sm H H') : Oth H' b ol := by
  rcases h with ⟨e, h⟩ | ⟨e, h⟩ | ⟨e, h⟩
  · exact .inl ⟨e, s _ _ h⟩
  · exact .inr (.inl ⟨e, s _ _ h⟩)
  · exact .inr (.inr ⟨e, s _ _ h⟩)
/-- a pair is laid and taken apart into words, others -/
def tTupK (K : PySem.W.Frag) (n : Nat) (D : Ends) (σ : L2.St) (H : Hp) (vs : List V) : Prop := vs.length ≤ sizeLine ∧ ∀ p, H p = none → gTup K n (gCons (gName 19) (gCons (gName 16) gNil)) (.ref p) σ (upd H p (.tup vs)) D.nx
theorem word_if {D : Addr} {zs : List V} {j : J22} {p : Par} {H : Hp} {Tn l a : Nat} {o : Option Str} {x9 x10 x11 x12 x14 x15 x16 x19 : Option V} {Q : VK} (S : Lap K H p Tn l a) (hT : Tn ≤ 1000000) (hD : H D = some (.lst zs)) (hDp : D ≠ p.pp)
    (k : ∀ H2 (q : Addr) (ys : List Str), Lap K H2 p (Tn + 1) l a → H2 D = some (.lst zs) → ys.length ≤ 1 → H2 q = some (.lst (ys.map V.str)) → Q (.ref q) H2) :
    tIf (tAnd (tB (tNotN (tVar 8))) (tTest (tOp rEq (tCall spDraw [] L2.E0 (tCons (tVar 17) (tCons (tC (V.int 2)) tNil))) (tC (V.int 0))))) (tLst (tCons (tVar 8) tNil)) (tLst tNil) (lapσ j p l a (some (vO o)) x9 x10 x11 x12 x14 x15 x16 x19) H Q := by
  cases o with
  | none =>
    refine ⟨_, rfl, _, rfl, iteF ?_⟩
    exact ⟨Nat.zero_le _, fun q nq => k _ q [] ((S.new (Sm.new nq)).mono (Nat.le_succ _)) (by rw [upd_ne (ne_of_none hD nq)]; exact hD) (by decide) upd_same⟩
  | some z =>
    refine ⟨_, rfl, _, rfl, iteT ⟨_, rfl, p.pp, p.c, p.ns, Tn, 2, rfl, S.pen, by decide, by decide, hT, fun i H' _ _ g kp => ?_⟩⟩
    have S1 := S.drew g kp
    have hD1 : H' D = some (.lst zs) := kp _ _ hD hDp
    refine ⟨rfl, decide (V.int i = V.int 0), rfl, ite2 (fun _ => ?_) fun _ => ?_⟩
    · exact ⟨_, rfl, (show 1 ≤ sizeLine by decide), fun q nq => k _ q [z] (S1.new (Sm.new nq)) (by rw [upd_ne (ne_of_none hD1 nq)]; exact hD1) (Nat.le_refl _) upd_same⟩
    · exact ⟨Nat.zero_le _, fun q nq => k _ q [] (S1.new (Sm.new nq)) (by rw [upd_ne (ne_of_none hD1 nq)]; exact hD1) (by decide) upd_same⟩
/-- words, others = .. -/
theorem c4_ps (T : Txt P K mg) (hr : Room 6 (LX P w K mg base c A outer s H0 E).A) : PS (LX P w K mg base c A outer s H0 E) (lapB.getD 3 noSt) (fun D σ H => ∃ j p Tn l a o x9 x10 x11 x12 x14 x15 x16 x19, σ = lapσ j p l a (some (vO o)) x9 x10 x11 x12 x14 x15 x16 x19 ∧
    Lap K H p Tn l a ∧ Tn ≤ 999000 ∧ ∀ (b1 b2 : Addr) (wl ol : List Str) H', H' b1 = some (.lst (wl.map V.str)) → Oth H' b2 ol → Lap K H' p (Tn + 4) l a → D.nx (lapσ j p l a (some (vO o)) x9 x10 x11 x12 x14 x15 (some (.ref b2)) (some (.ref b1))) H') := by
  obtain ⟨fd1, G_law_pick, b_law_pick, k_law_pick⟩ := ok_law_pick (w := w) (base := base) T
  obtain ⟨fd2, G_law_draw, b_law_draw, k_law_draw⟩ := ok_law_draw (w := w) (base := base) T
  refine PS.imp (ps_asg (pe_tup (pa_cons (pe_op op_cat (pe_lc (own := [("one", 20)]) rfl sc_law.nd (pi_range1 rfl T.n_range (pa_cons pe_int pa_nil)) (blkOk_by (own := [("one", 20)]) (N := ["script", "some", "turn", "at", "lap", "lines", "line", "parted", "word", "way", "is_let", "due", "heard", "spot", "least", "most", "others", "pen", "scan", "words", "one", "row"]) (sc := (defScope s_law)) (by decide +kernel)) (fun _ _ _ _ _ => (pg_name (i := 20) sc_law.nd rfl (Or.inl rfl))) (fun _ _ _ _ _ => pts_nil) (fun _ _ _ _ _ => (pe_call G_law_pick (hr.mono (by decide)) rfl T.g_law_pick k_law_pick b_law_pick .nil pass0 (pa_cons (pv 17) (pa_cons (pv 1) pa_nil))))) (pe_ifExp (PW.pt (pw_and (pt_cmp (pc_notN (pv 8))) (pw_and1 (pt_cmpR op_eq (pe_call G_law_draw (hr.mono (by decide)) rfl T.g_law_draw k_law_draw b_law_draw .nil pass0 (pa_cons (pv 17) (pa_cons pe_int pa_nil))) pe_int (nomark _))))) (pe_lst (pa_cons (pv 8) pa_nil)) (pe_lst pa_nil))) (pa_cons (pe_call G_law_pick (hr.mono (by decide)) rfl T.g_law_pick k_law_pick b_law_pick .nil pass0 (pa_cons (pv 17) (pa_cons (pe_lst (pa_cons (pe_tup pa_nil) (pa_cons (pe_tup (pa_cons pe_str pa_nil)) (pa_cons (pe_lst (pa_cons pe_str (pa_cons pe_str pa_nil))) pa_nil)))) pa_nil))) pa_nil))) (pg_tup rfl (pgs_cons (pg_name (i := 19) sc_law.nd rfl (Or.inr rfl)) (pgs_cons (pg_name (i := 16) sc_law.nd rfl (Or.inr rfl)) pgs_nil)))) fun DD σ H h => ?_
  obtain ⟨j, p, Tn, l, a, o, x9, x10, x11, x12, x14, x15, x16, x19, rfl, S, hT, k⟩ := h
  refine ⟨2, rfl, by decide, by decide, fun D nD => lc_range (lo := 0) (n := 2) (fun i H' => ∃ zs : List Str, zs.length = i ∧ H' D = some (.lst (zs.map V.str)) ∧ Lap K (del H' D) p (Tn + i) l a) ⟨[], rfl, upd_same, by rw [del_upd, del_none nD]; exact S⟩ (fun i H' hi e => ?_) (fun H' e => ?_)⟩
  · obtain ⟨zs, hz, hD, Sd⟩ := e
    have S' := Sd.ofDel
    refine ⟨rfl, ?_⟩
    refine ⟨_, rfl, _, rfl, p.pp, p.c, p.sm, p.ns, Tn + i, _, rfl, S'.pen, ?_, .inl (SqL.of S'.smw), by decide, by decide, by omega, fun m x H2 hx g kp => ?_⟩
    · exact fun z => (pen_no S'.pen _ (by rw [← z]; exact S'.smw)).2 WL rfl
    · obtain ⟨y, rfl⟩ : ∃ y, x = V.str y := by
        rw [List.getElem?_map] at hx
        cases e : WL[m]? with
        | none => rw [e] at hx; cases hx
        | some y => rw [e] at hx; exact ⟨y, (Option.some.inj hx).symm⟩
      have nDp : D ≠ p.pp := fun z => (pen_no S'.pen _ (by rw [← z]; exact hD)).2 zs rfl
      have nD' : (upd H2 D (.lst (zs.map V.str ++ [.str y]))) D = some (.lst ((zs ++ [y]).map V.str)) := by rw [upd_same, List.map_append]; rfl
      have hD2 : H2 D = some (.lst (zs.map V.str)) := kp _ _ hD nDp
      refine ⟨zs.map V.str, hD2, small1000 (by rw [List.length_map, hz]; omega), zs ++ [y], by rw [List.length_append, hz]; rfl, nD', ?_⟩
      rw [del_upd]
      exact Sd.drewD g kp
  · obtain ⟨zs, hz, hD, Sd⟩ := e
    have S' := Sd.ofDel
    refine word_if S' (by omega) hD (fun z => (pen_no S'.pen _ (by rw [← z]; exact hD)).2 zs rfl) fun H2 q ys S2 hD2 hy hq => ?_
    refine ⟨D, q, _, _, rfl, rfl, hD2, hq, ?_, fun r nr => ?_⟩
    · rw [List.length_map, List.length_map, hz]
      exact Nat.le_trans (Nat.add_le_add_left hy 2) (by decide)
    have S3 := S2.new (Sm.new (o := .lst (zs.map V.str ++ ys.map V.str)) nr)
    refine ⟨_, rfl, Nat.zero_le _, fun t1 n1 => ⟨(show 1 ≤ sizeLine by decide), fun t2 n2 => ⟨(show 2 ≤ sizeLine by decide), fun t3 n3 => ⟨(show 3 ≤ sizeLine by decide), fun t4 n4 => ?_⟩⟩⟩⟩
    have S4 := (((S3.new (Sm.new (o := .tup []) n1)).new (Sm.new (o := .tup [.str "a"]) n2)).new (Sm.new (o := .lst [.str "b9", .str "tie"]) n3)).new (Sm.new (o := .lst [.ref t1, .ref t2, .ref t3]) n4)
    have q4 := pp_none S3 (q := t4)
    refine ⟨p.pp, p.c, t4, p.ns, Tn + 3, _, rfl, S4.pen, ?_, .inl (SqL.of upd_same), by simp, (show 3 ≤ 1000 by decide), by omega, fun m x H5 hx g kp => ?_⟩
    · exact fun z => (pen_no S4.pen _ (by rw [← z]; exact upd_same)).1 [t1, t2, t3] rfl
    · have S5 := S4.drew g kp
      have h43 := Sm.new (o := .lst [.ref t1, .ref t2, .ref t3]) n4
      have h42 := (Sm.new (o := .lst [.str "b9", .str "tie"]) n3).trans h43
      have h41 := (Sm.new (o := .tup [.str "a"]) n2).trans h42
      have h40 := (Sm.new (o := .tup []) n1).trans h41
      have er : H5 r = some (.lst ((zs ++ ys).map V.str)) := by
        have e := (h40 _ _ (upd_same (H := H2) (a := r) (o := .lst (zs.map V.str ++ ys.map V.str)))).trans (show some (HO.lst (zs.map V.str ++ ys.map V.str)) = some (.lst ((zs ++ ys).map V.str)) by rw [List.map_append])
        exact kp _ _ e (fun z => (pen_no S4.pen _ (by rw [← z]; exact e)).2 _ rfl)
      have tne : ∀ t xs, (upd (upd (upd (upd (upd H2 r (.lst (zs.map V.str ++ ys.map V.str))) t1 (.tup [])) t2 (.tup [.str "a"])) t3 (.lst [.str "b9", .str "tie"])) t4 (.lst [.ref t1, .ref t2, .ref t3])) t = some (.tup xs) → t ≠ p.pp := fun t xs e z => by
        obtain ⟨⟨_, _, e', _⟩, _⟩ := S4.pen
        rw [z, e'] at e
        cases e
      have fin : ∀ t ol, x = .ref t → Oth H5 t ol → tTupK (LX P w K mg base c A outer s H0 E).K 2 DD (lapσ j p l a (some (vO o)) x9 x10 x11 x12 x14 x15 x16 x19) H5 [V.ref r, x] := fun t ol e ho => by
        subst e
        refine ⟨(show 2 ≤ sizeLine by decide), fun tt ntt => ⟨tt, _, rfl, .inl (.inl upd_same), rfl, _, _, rfl, _, _, rfl, rfl, ?_⟩⟩
        have sm := Sm.new (o := .tup [.ref r, .ref t]) ntt
        exact k r t (zs ++ ys) ol _ (sm _ _ er) (ho.sm sm) (S5.new sm)
      match m, hx with
      | 0, hx => exact fin t1 [] (Option.some.inj hx).symm (.inl ⟨rfl, kp _ _ (h41 _ _ upd_same) (tne _ _ (h41 _ _ upd_same))⟩)
      | 1, hx => exact fin t2 ["a"] (Option.some.inj hx).symm (.inr (.inl ⟨rfl, kp _ _ (h42 _ _ upd_same) (tne _ _ (h42 _ _ upd_same))⟩))
      | 2, hx => exact fin t3 ["b9", "tie"] (Option.some.inj hx).symm (.inr (.inr ⟨rfl, kp _ _ (h43 _ _ upd_same) (fun z => (pen_no S4.pen _ (by rw [← z]; exact h43 _ _ upd_same)).2 ["b9", "tie"] rfl)⟩))
end
end K30

namespace K30
open PySem PySem.Spec PyProof.Rows L2 ExK LamX
section
variable {P : Program} {w : World} {K : PySem.W.Frag} {mg : Str → Option Value} {base : Heap} {c : Addr} {A : Around} {outer : List Env} {s : Shared} {H0 : Hp} {E : XK}
/-- least, most = .. -/
theorem c5_ps (T : Txt P K mg) (hr : Room 6 (LX P w K mg base c A outer s H0 E).A) : PS (LX P w K mg base c A outer s H0 E) (lapB.getD 4 noSt) (fun D σ H => ∃ j p Tn l a x8 x9 x10 x11 x12 x14 x15 x16 x19, σ = lapσ j p l a x8 x9 x10 x11 x12 x14 x15 x16 x19 ∧
    Lap K H p Tn l a ∧ Tn ≤ 1000000 ∧ ∀ (lo hi : Int) H', Kp p.pp H H' → Lap K H' p (Tn + 1) l a → D.nx (lapσ j p l a x8 x9 x10 x11 x12 (some (.int lo)) (some (.int hi)) x16 x19) H') := by
  obtain ⟨fd1, G_law_pick, b_law_pick, k_law_pick⟩ := ok_law_pick (w := w) (base := base) T
  refine PS.imp (ps_asg (pe_call G_law_pick (hr.mono (by decide)) rfl T.g_law_pick k_law_pick b_law_pick .nil pass0 (pa_cons (pv 17) (pa_cons (pe_lst (pa_cons (pe_tup (pa_cons pe_int (pa_cons pe_int pa_nil))) (pa_cons (pe_tup (pa_cons pe_int (pa_cons pe_int pa_nil))) (pa_cons (pe_tup (pa_cons pe_int (pa_cons (pe_op op_sub (pe_op op_pow pe_int pe_int) pe_int) pa_nil))) (pa_cons (pe_tup (pa_cons pe_int (pa_cons pe_int pa_nil))) pa_nil))))) pa_nil))) (pg_tup rfl (pgs_cons (pg_name (i := 14) sc_law.nd rfl (Or.inr rfl)) (pgs_cons (pg_name (i := 15) sc_law.nd rfl (Or.inr rfl)) pgs_nil)))) fun DD σ H h => ?_
  obtain ⟨j, p, Tn, l, a, x8, x9, x10, x11, x12, x14, x15, x16, x19, rfl, S, hT, k⟩ := h
  refine ⟨_, rfl, (show 2 ≤ sizeLine by decide), fun t1 n1 => ⟨(show 2 ≤ sizeLine by decide), fun t2 n2 => ⟨_, _, rfl, rfl, ⟨by decide, by decide, by decide⟩, _, _, rfl, rfl, (show 2 ≤ sizeLine by decide), fun t3 n3 => ⟨(show 2 ≤ sizeLine by decide), fun t4 n4 => ⟨(show 4 ≤ sizeLine by decide), fun t5 n5 => ?_⟩⟩⟩⟩⟩
  have h54 := Sm.new (o := .lst [.ref t1, .ref t2, .ref t3, .ref t4]) n5
  have h53 := (Sm.new (o := .tup [.int 10, .int 8]) n4).trans h54
  have h52 := (Sm.new (o := .tup [.int 0, .int ((10 : Int) ^ Int.toNat 20 - 1)]) n3).trans h53
  have h51 := (Sm.new (o := .tup [.int 1, .int 12]) n2).trans h52
  have h50 := (Sm.new (o := .tup [.int 0, .int 9]) n1).trans h51
  have S5 := S.new h50
  refine ⟨p.pp, p.c, t5, p.ns, Tn, _, rfl, S5.pen, ?_, .inl (SqL.of upd_same), by simp, (show 4 ≤ 1000 by decide), hT, fun m x H6 hx g kp => ?_⟩
  · exact fun z => (pen_no S5.pen _ (by rw [← z]; exact upd_same)).1 [t1, t2, t3, t4] rfl
  · have S6 := S5.drew g kp
    have kp6 : Kp p.pp H H6 := h50.kp.trans kp
    have tne : ∀ t xs, (upd (upd (upd (upd (upd H t1 (.tup [.int 0, .int 9])) t2 (.tup [.int 1, .int 12])) t3 (.tup [.int 0, .int ((10 : Int) ^ Int.toNat 20 - 1)])) t4 (.tup [.int 10, .int 8])) t5 (.lst [.ref t1, .ref t2, .ref t3, .ref t4])) t = some (.tup xs) → t ≠ p.pp := fun t xs e z => by
      obtain ⟨⟨_, _, e', _⟩, _⟩ := S5.pen
      rw [z, e'] at e
      cases e
    have fin : ∀ t lo hi, x = .ref t → H6 t = some (.tup [.int lo, .int hi]) → gTup K 2 (gCons (gName 14) (gCons (gName 15) gNil)) x (lapσ j p l a x8 x9 x10 x11 x12 x14 x15 x16 x19) H6 DD.nx := fun t lo hi e ho => by
      subst e
      exact ⟨t, _, rfl, .inl (.inl ho), rfl, _, _, rfl, _, _, rfl, rfl, k lo hi H6 kp6 S6⟩
    match m, hx with
    | 0, hx => exact fin t1 _ _ (Option.some.inj hx).symm (kp _ _ (h51 _ _ upd_same) (tne _ _ (h51 _ _ upd_same)))
    | 1, hx => exact fin t2 _ _ (Option.some.inj hx).symm (kp _ _ (h52 _ _ upd_same) (tne _ _ (h52 _ _ upd_same)))
    | 2, hx => exact fin t3 _ _ (Option.some.inj hx).symm (kp _ _ (h53 _ _ upd_same) (tne _ _ (h53 _ _ upd_same)))
    | 3, hx => exact fin t4 _ _ (Option.some.inj hx).symm (kp _ _ (h54 _ _ upd_same) (tne _ _ (h54 _ _ upd_same)))
/-- is_let, due = (False, None) -/
theorem c6_ps (T : Txt P K mg) (hr : Room 6 (LX P w K mg base c A outer s H0 E).A) : PS (LX P w K mg base c A outer s H0 E) (lapB.getD 5 noSt) (fun D σ H => ∃ j p l a x8 x9 x10 x11 x12 x14 x15 x16 x19, σ = lapσ j p l a x8 x9 x10 x11 x12 x14 x15 x16 x19 ∧
    ∀ H', Sm H H' → D.nx (lapσ j p l a x8 x9 (some (.bl false)) (some .non) x12 x14 x15 x16 x19) H') := by
  refine PS.imp (ps_asg (pe_tup (pa_cons pe_bl (pa_cons pe_non pa_nil))) (pg_tup rfl (pgs_cons (pg_name (i := 10) sc_law.nd rfl (Or.inl rfl)) (pgs_cons (pg_name (i := 11) sc_law.nd rfl (Or.inl rfl)) pgs_nil)))) fun DD σ H h => ?_
  obtain ⟨j, p, l, a, x8, x9, x10, x11, x12, x14, x15, x16, x19, rfl, k⟩ := h
  exact ⟨(show 2 ≤ sizeLine by decide), fun t nt => ⟨t, _, rfl, .inl (.inl upd_same), rfl, _, _, rfl, _, _, rfl, rfl, k _ (Sm.new nt)⟩⟩
end
end K30

namespace K30
open PySem PySem.Spec PyProof.Rows L2 ExK LamX
/-- a step, good or bad, told of the heap -/
def StepX (K : PySem.W.Frag) (H : Hp) (p dx L : Addr) (good : Bool) (v : V) (l' a' : Nat) (x y : V) (Q : VK) (E : XK) : Prop :=
  (good = true → ∀ H', H' p = some (scO K dx L l' a') → Kp p H H' → Q v H') ∧ (good = false → ∀ d H', Bad H H' d x y → E (.ref (CB K)) (some d) H')
theorem Bad.sm {H H' : Hp} {d : Addr} {x y : V} (b : Bad H H' d x y) : Sm H H' := fun c o h => b.keep c o h
/-- all but the tables stays -/
theorem ext_sm {H H1 H2 : Hp} (e : ExtN H H1) (s : Sm H1 H2) : ExtN H H2 := fun b o h n => s b o (e b o h n)
/-- _law_web_heard(lambda: ..), the reading: one step of the scan -/
theorem hlS {K : PySem.W.Frag} {H : Hp} {p : Par} {Tn l a l' a' : Nat} {good : Bool} {v x y : V} {tl : XK → Hp → VK → Prop} {Q : VK} {Φ : Hp → Prop} (S : Lap K H p Tn l a)
    (ht : ∀ E' H2 Q', Lap K H2 p Tn l a → ExtN H H2 → StepX K H2 p.sp p.dx p.L good v l' a' x y Q' E' → tl E' H2 Q')
    (hΦ : good = true → ∀ H2 H3, Lap K H2 p Tn l a → Kp p.sp H2 H3 → H3 p.sp = some (scO K p.dx p.L l' a') → Φ H3) (hs : ∀ H3 H4, Sm H3 H4 → Φ H3 → Φ H4)
    (kG : good = true → ∀ (q : Addr) H4, Φ H4 → H4 q = some (.lst [v]) → Q (.ref q) H4)
    (kB : good = false → ∀ (q : Addr) H4, Lap K H4 p Tn l a → H4 q = some (.tup [.str "text", x, y]) → Q (.ref q) H4) :
    Tabs [(p.Tb, LQ)] H ∧ ∀ H1, ExtN H H1 → Tabs [(p.Tb, LQ)] H1 → THeard K tl H1 Q := by
  refine ⟨S.tabs, fun H1 e1 t1 => ?_⟩
  have S1 := S.ext e1 t1
  intro H2 E' Q' sm kb kg
  have S2 := S1.new sm
  refine ht E' H2 Q' S2 (ext_sm e1 sm) ⟨fun hg H3 h3 kp => kg v H3 fun q nq => ?_, fun hg d H3 hb => kb d x y H3 hb.xd fun q H4 s4 hq => ?_⟩
  · exact kG hg q _ (hs _ _ (Sm.new nq) (hΦ hg H2 H3 S2 kp h3)) upd_same
  · exact kB hg q H4 ((S2.new hb.sm).new s4) hq
/-- what stands through a turn, behind a step -/
theorem Lap.wentT {K : PySem.W.Frag} {H H' : Hp} {p : Par} {T l a : Nat} (S : Lap K H p T l a) (s : Kp p.sp H H') : Trn H' p.pp p.c p.sm p.Tb p.ns T := by
  have n1 : ∀ xs : List V, H p.sp ≠ some (.lst xs) := fun xs q => by rw [S.scan.h] at q; cases q
  have nl : ∀ b xs, H b = some (.lst xs) → b ≠ p.sp := fun b xs q z => n1 xs (by rw [← z]; exact q)
  obtain ⟨⟨t, r, e, h1⟩, hc, nn⟩ := S.pen
  exact ⟨⟨⟨t, r, s _ _ e (nl _ _ e), h1⟩, s _ _ hc (nl _ _ hc), nn⟩, s _ _ S.smw (nl _ _ S.smw), Tabs.kp S.tabs s (fun ps q => (by rw [S.scan.h] at q; cases q)) (fun f q => (by rw [S.scan.h] at q; cases q))⟩
/-- one word further -/
theorem next_ok {ll : List (List Str)} {l a : Nat} {s : Str} (h : aheadW ll l a = some s) : l ≤ ll.length ∧ ∀ ws, ll[l]? = some ws → a + 1 ≤ ws.length := by
  unfold aheadW at h
  cases q : ll[l]? with
  | none => rw [q] at h; cases h
  | some ws =>
    rw [q] at h
    have h1 : ws[a]? = some s := h
    refine ⟨Nat.le_of_lt (List.getElem?_eq_some_iff.mp q).1, fun ws' e => ?_⟩
    obtain rfl := Option.some.inj e
    exact (List.getElem?_eq_some_iff.mp h1).1
theorem Lap.step {K : PySem.W.Frag} {p : Par} {T l a l' a' : Nat} (hl : l' ≤ p.ll.length ∧ ∀ ws, p.ll[l']? = some ws → a' ≤ ws.length) : ∀ H2 H3, Lap K H2 p T l a → Kp p.sp H2 H3 → H3 p.sp = some (scO K p.dx p.L l' a') → Lap K H3 p T l' a' :=
  fun _ _ S s h => S.went s h hl.1 hl.2
/-- the values that the scan gives -/
structure Plain (v : V) : Prop where
  ex : ∃ d, (∀ (K : PySem.W.Frag) H, Dp K H v d) ∧ SeqAt.shaped (.list [d]) = true
theorem plain_non : Plain .non := ⟨_, fun _ _ => .non, by rfl⟩
theorem plain_int (n : Int) : Plain (.int n) := ⟨_, fun _ _ => .int n, shaped_ints [n]⟩
theorem plain_str {s : Str} (h : asc s) : Plain (.str s) := ⟨_, fun _ _ => .str s, shaped_strs (xs := [s]) fun x hx => by
  rw [List.mem_singleton.mp hx]
  unfold PyData.strOk
  rw [← Array.all_toList]
  exact List.all_eq_true.mpr fun c hc => decide_eq_true (Nat.lt_of_lt_of_le (h.2 c hc) (by decide))⟩
end K30

namespace K30
open PySem PySem.Spec PyProof.Rows L2 ExK LamX
def ifB : Stmt → List Stmt
  | .If _ b .. => b
  | _ => []
def ifE : Stmt → List Stmt
  | .If _ _ e _ => e
  | _ => []
def ways : Nat → Stmt
  | 0 => lapB.getD 6 noSt
  | n + 1 => (ifE (ways n)).getD 0 noSt
section
variable {P : Program} {w : World} {K : PySem.W.Frag} {mg : Str → Option Value} {base : Heap} {c : Addr} {A : Around} {outer : List Env} {s : Shared} {H0 : Hp} {E : XK}
theorem heard_txt (T : Txt P K mg) : ∃ (oc : Value) (od : Option Addr) (dV kV doc pm cdv ct : Value) (an : Option Addr) (osl : Array (Option Value)),
    K.lookup (He.ga K "_law_web_heard") = some ⟨oc, od, .func (PySem.W.fnOf "_law_web_heard" "_law_web_heard" (defArgs s_law_web_heard) (defBody s_law_web_heard) (defScope s_law_web_heard) dV kV doc pm an cdv ct), osl⟩ ∧ PySem.W.codeIn K cdv "_law_web_heard" = true ∧
    L2.Binds K (PySem.W.fnOf "_law_web_heard" "_law_web_heard" (defArgs s_law_web_heard) (defBody s_law_web_heard) (defScope s_law_web_heard) dV kV doc pm an cdv ct) ["ask"] [] ∧ PySem.W.keepIn K (.ref (He.ga K "_law_web_heard")) = true := by
  obtain ⟨fd, F⟩ := T.F_law_web_heard
  have b := F.bindsN (ps := ["ask"]) fun _ _ _ _ _ _ us hl => match us, hl with | [_], _ => rfl
  have kp := F.kp
  obtain ⟨oc, od, dV, kV, doc, pm, an, cdv, ct, osl, rfl, lk, hcd, _, _⟩ := F.ex
  exact ⟨oc, od, dV, kV, doc, pm, cdv, ct, an, osl, lk, hcd, b, kp⟩
/-- way == 'take' -/
theorem w0_ps {Tb : Addr} (T : Txt P K mg) (TB : TabB base mg c Tb) (hr : Room 6 (LX P w K mg base c A outer s H0 E).A) : PSs (LX P w K mg base c A outer s H0 E) (ifB (ways 0)) (fun D σ H => ∃ j p Tn l a x9 x10 x11 x12 x14 x15 x16 x19, p.Tb = Tb ∧ σ = lapσ j p l a (some (vO (aheadW p.ll l a))) x9 x10 x11 x12 x14 x15 x16 x19 ∧
    Lap K H p Tn l a ∧
    (∀ z, aheadW p.ll l a = some z → ∀ (q : Addr) H', Lap K H' p Tn l (a + 1) → H' q = some (.lst [.str z]) → D.nx (lapσ j p l a (some (vO (aheadW p.ll l a))) x9 (some (.bl true)) (some (.str z)) (some (.ref q)) x14 x15 x16 x19) H') ∧
    (aheadW p.ll l a = none → ∀ (q : Addr) (due : V) H', Lap K H' p Tn l a → H' q = some (.tup [.str "text", .int (l : Int), .int (a : Int)]) → D.nx (lapσ j p l a (some (vO (aheadW p.ll l a))) x9 (some (.bl false)) (some due) (some (.ref q)) x14 x15 x16 x19) H')) := by
  obtain ⟨oc, od, dV, kV, doc, pm, cdv, ct, an, osl, lk_heard, hc_heard, b_heard, k_heard⟩ := heard_txt T
  obtain ⟨fd1, G_take, b_take⟩ := ok_Scan_take (w := w) (base := base) T
  refine PSs.imp (pss_one (ps_par3 (i := 10) (j := 11) (l := 12) rfl sc_law.nd rfl rfl rfl (by decide) (by decide) (by decide) rfl rfl rfl (pa_cons (pe_cmp (pc_notN (pv 8)) rfl) (pa_cons (pv 8) (pa_cons (pe_lamcall (T := [(Tb, LQ)]) (TT := THeard K) (c := c) (P := Tb) rfl T.g_law_web_heard k_heard lk_heard hc_heard b_heard sc_law_web_heard rfl (Or.inl rfl) (heard_gives T) TB rfl (List.mem_singleton.mpr rfl) (fun p hp _ => by rw [List.mem_singleton.mp hp] <;> rfl) hr (lamS_by (sc := defScope s_law) (by decide +kernel)) rfl (fun q cl pm cv ctv => rfl) (fun A outer s H E f c' hrL => (pe_meth0 (pv 18) T.cl_Scan T.m_Scan_take G_take hrL b_take .nil (passes_call (takes_of (X := lamCx _ A outer s H E _ f c') rfl rfl rfl rfl) fun _ _ _ _ h => h)))) pa_nil))) (by kernel_rfl))) fun DD σ H h => ?_
  obtain ⟨j, p, Tn, l, a, x9, x10, x11, x12, x14, x15, x16, x19, rfl, rfl, S, kg, kb⟩ := h
  refine ⟨_, rfl, _, rfl, ?_⟩
  refine hlS (good := (aheadW p.ll l a).isSome) (v := vO (aheadW p.ll l a)) (l' := l) (a' := a + 1) (x := .int l) (y := .int a) (Φ := fun H' => Lap K H' p Tn l (a + 1)) S (fun E' H2 Q' S2 _ st => ⟨_, rfl, p.sp, p.dx, _, rfl, S2.scan.h, rfl, p.sp, p.dx, p.L, p.ll, l, a, rfl, S2.scan, st⟩) (fun hg => ?_) (fun _ _ s S => S.new s) (fun hg q H4 S4 hq => ?_) (fun hg q H4 S4 hq => ?_)
  · obtain ⟨z, hz⟩ := Option.isSome_iff_exists.mp hg
    exact Lap.step (next_ok hz)
  · obtain ⟨z, hz⟩ := Option.isSome_iff_exists.mp hg
    have k := kg z hz q H4 S4 (by rw [hq, hz]; rfl)
    rw [hz] at k ⊢
    exact ⟨_, _, _, rfl, k⟩
  · cases hz : aheadW p.ll l a with
    | some z => rw [hz] at hg; cases hg
    | none =>
      have k := kb hz q (vO none) H4 S4 hq
      rw [hz] at k
      exact ⟨_, _, _, rfl, k⟩
end
end K30

namespace K30
open PySem PySem.Spec PyProof.Rows L2 ExK LamX
theorem inV_vO (o : Option Str) (xs : List Str) : inV (vO o) (xs.map V.str) = o.elim false fun s => decide (s ∈ xs) := by
  cases o with
  | some s => exact inV_strs s xs
  | none =>
    show (xs.map V.str).any _ = false
    rw [List.any_map]
    induction xs with
    | nil => rfl
    | cons x xs ih => rw [List.any_cons, ih]; rfl
theorem flat_vO (o : Option Str) : flatV (vO o) = true := by cases o <;> rfl
theorem lam_nN : ∀ i : Nat, LN[i]? ≠ some "a1" := fun i h => absurd (List.mem_of_getElem? h) (by decide +kernel)
section
variable {P : Program} {w : World} {K : PySem.W.Frag} {mg : Str → Option Value} {base : Heap} {c : Addr} {A : Around} {outer : List Env} {s : Shared} {H0 : Hp} {E : XK}
/-- way == 'take_of' -/
theorem w1_ps {Tb : Addr} (T : Txt P K mg) (TB : TabB base mg c Tb) (hr : Room 6 (LX P w K mg base c A outer s H0 E).A) : PSs (LX P w K mg base c A outer s H0 E) (ifB (ways 1)) (fun D σ H => ∃ j p Tn l a b1, ∃ wl : List Str, ∃ x9 x10 x11 x12 x14 x15 x16, p.Tb = Tb ∧ σ = lapσ j p l a (some (vO (aheadW p.ll l a))) x9 x10 x11 x12 x14 x15 x16 (some (.ref b1)) ∧
    Lap K H p Tn l a ∧ H b1 = some (.lst (wl.map V.str)) ∧
    (∀ z, aheadW p.ll l a = some z → ∀ (q : Addr) H', Lap K H' p Tn l (a + 1) → H' q = some (.lst [.str z]) → D.nx (lapσ j p l a (some (vO (aheadW p.ll l a))) x9 (some (.bl true)) (some (.str z)) (some (.ref q)) x14 x15 x16 (some (.ref b1))) H') ∧
    (∀ (q : Addr) (due : V) H', Lap K H' p Tn l a → H' q = some (.tup [.str "text", .int (l : Int), .int (a : Int)]) → D.nx (lapσ j p l a (some (vO (aheadW p.ll l a))) x9 (some (.bl false)) (some due) (some (.ref q)) x14 x15 x16 (some (.ref b1))) H')) := by
  obtain ⟨oc, od, dV, kV, doc, pm, cdv, ct, an, osl, lk_heard, hc_heard, b_heard, k_heard⟩ := heard_txt T
  obtain ⟨fd1, G_take_of, b_take_of⟩ := ok_Scan_take_of (w := w) (base := base) T
  refine PSs.imp (pss_one (ps_par3 (i := 10) (j := 11) (l := 12) rfl sc_law.nd rfl rfl rfl (by decide) (by decide) (by decide) rfl rfl rfl (pa_cons (pe_cmpR op_in_seq (pv 8) (pv 19) (by with_unfolding_all rfl)) (pa_cons (pv 8) (pa_cons (pe_lamcall (T := [(Tb, LQ)]) (TT := THeard K) (c := c) (P := Tb) rfl T.g_law_web_heard k_heard lk_heard hc_heard b_heard sc_law_web_heard rfl (Or.inl rfl) (heard_gives T) TB rfl (List.mem_singleton.mpr rfl) (fun p hp _ => by rw [List.mem_singleton.mp hp] <;> rfl) hr (lamS_by (sc := defScope s_law) (by decide +kernel)) rfl (fun q cl pm cv ctv => rfl) (fun A outer s H E f c' hrL => (pe_meth (pv 18) T.cl_Scan T.m_Scan_take_of G_take_of hrL b_take_of .nil (passes_call (takes_of (X := lamCx _ A outer s H E _ f c') rfl rfl rfl rfl) fun _ _ _ _ h => h) (pa_cons (pv 19) pa_nil)))) pa_nil))) (by kernel_rfl))) fun DD σ H h => ?_
  obtain ⟨j, p, Tn, l, a, b1, wl, x9, x10, x11, x12, x14, x15, x16, rfl, rfl, S, hw, kg, kb⟩ := h
  refine ⟨_, rfl, _, rfl, b1, _, rfl, .inl (SqL.of hw), flat_vO _, flat_strs wl, _, rfl, ?_⟩
  refine hlS (good := (aheadW p.ll l a).elim false fun s => decide (s ∈ wl)) (v := vO (aheadW p.ll l a)) (l' := l) (a' := a + 1) (x := .int l) (y := .int a) (Φ := fun H' => Lap K H' p Tn l (a + 1)) S
    (fun E' H2 Q' S2 e2 st => ⟨_, rfl, p.sp, p.dx, _, rfl, S2.scan.h, rfl, _, rfl, p.sp, p.dx, p.L, b1, wl, p.ll, l, a, rfl, .inl (SqL.of (e2 _ _ hw fun _ q => nomatch q)), S2.scan, st⟩) (fun hg => ?_) (fun _ _ s S => S.new s) (fun hg q H4 S4 hq => ?_) (fun hg q H4 S4 hq => ?_)
  · cases hz : aheadW p.ll l a with
    | none => rw [hz] at hg; cases hg
    | some z => exact Lap.step (next_ok hz)
  · cases hz : aheadW p.ll l a with
    | none => rw [hz] at hg; cases hg
    | some z =>
      have k := kg z hz q H4 S4 (by rw [hq, hz]; rfl)
      rw [hz] at hg k
      refine ⟨_, _, _, rfl, ?_⟩
      have e : inV (vO (some z)) (wl.map V.str) = true := (inV_vO _ _).trans hg
      rw [show (if false = true then !inV (vO (some z)) (wl.map V.str) else inV (vO (some z)) (wl.map V.str)) = true from e]
      exact k
  · have k := kb q (vO (aheadW p.ll l a)) H4 S4 hq
    refine ⟨_, _, _, rfl, ?_⟩
    have e : inV (vO (aheadW p.ll l a)) (wl.map V.str) = false := (inV_vO _ _).trans hg
    rw [show (if false = true then !inV (vO (aheadW p.ll l a)) (wl.map V.str) else inV (vO (aheadW p.ll l a)) (wl.map V.str)) = false from e]
    exact k
end
end K30

namespace K30
open PySem PySem.Spec PyProof.Rows L2 ExK LamX
theorem Oth.seq {K : PySem.W.Frag} {H : Hp} {b : Addr} {ol : List Str} (h : Oth H b ol) : SqL K H b (ol.map V.str) ∨ SqT K H b (ol.map V.str) := by
  rcases h with ⟨e, h⟩ | ⟨e, h⟩ | ⟨e, h⟩ <;> subst e
  · exact .inr (.inl (.inl h))
  · exact .inr (.inl (.inl h))
  · exact .inl (SqL.of h)
theorem Oth.ext {H H' : Hp} {b : Addr} {ol : List Str} (h : Oth H b ol) (s : ExtN H H') : Oth H' b ol := by
  rcases h with ⟨e, h⟩ | ⟨e, h⟩ | ⟨e, h⟩
  · exact .inl ⟨e, s _ _ h fun _ q => nomatch q⟩
  · exact .inr (.inl ⟨e, s _ _ h fun _ q => nomatch q⟩)
  · exact .inr (.inr ⟨e, s _ _ h fun _ q => nomatch q⟩)
/-- others, as data -/
theorem Oth.dp {K : PySem.W.Frag} {H : Hp} {b : Addr} {ol : List Str} (h : Oth H b ol) : ∃ d, Dp K H (.ref b) d ∧ SeqAt.shaped d = true ∧ PyData.eqv d (.tuple []) = decide (ol = []) := by
  rcases h with ⟨e, h⟩ | ⟨e, h⟩ | ⟨e, h⟩ <;> subst e
  · exact ⟨_, .tup (.inl (.inl h)) .nil, by rfl, by rfl⟩
  · exact ⟨_, .tup (.inl (.inl h)) (.cons (.str _) .nil), by decide +kernel, by rfl⟩
  · exact ⟨_, .lst (SqL.of h) (.cons (.str _) (.cons (.str _) .nil)), by decide +kernel, by rfl⟩
section
variable {P : Program} {w : World} {K : PySem.W.Frag} {mg : Str → Option Value} {base : Heap} {c : Addr} {A : Around} {outer : List Env} {s : Shared} {H0 : Hp} {E : XK}
/-- way == 'take_name' -/
theorem w2_ps {Tb : Addr} (T : Txt P K mg) (TB : TabB base mg c Tb) (hr : Room 6 (LX P w K mg base c A outer s H0 E).A) : PSs (LX P w K mg base c A outer s H0 E) (ifB (ways 2)) (fun D σ H => ∃ j p Tn l a b2, ∃ ol : List Str, ∃ x9 x10 x11 x12 x14 x15 x19, p.Tb = Tb ∧ σ = lapσ j p l a (some (vO (aheadW p.ll l a))) x9 x10 x11 x12 x14 x15 (some (.ref b2)) x19 ∧
    Lap K H p Tn l a ∧ Oth H b2 ol ∧
    (∀ z, aheadW p.ll l a = some z → ∀ (q : Addr) H', Lap K H' p Tn l (a + 1) → H' q = some (.lst [.str z]) → D.nx (lapσ j p l a (some (vO (aheadW p.ll l a))) x9 (some (.bl true)) (some (.str z)) (some (.ref q)) x14 x15 (some (.ref b2)) x19) H') ∧
    (∀ (q : Addr) (due : V) H', Lap K H' p Tn l a → H' q = some (.tup [.str "text", .int (l : Int), .int (a : Int)]) → D.nx (lapσ j p l a (some (vO (aheadW p.ll l a))) x9 (some (.bl false)) (some due) (some (.ref q)) x14 x15 (some (.ref b2)) x19) H')) := by
  obtain ⟨oc, od, dV, kV, doc, pm, cdv, ct, an, osl, lk_heard, hc_heard, b_heard, k_heard⟩ := heard_txt T
  obtain ⟨fd1, G_take_name, b_take_name, ds1, r_take_name1, b_take_name1⟩ := ok_Scan_take_name (w := w) (base := base) T
  obtain ⟨fd2, G_law_s_name, b_law_s_name, k_law_s_name⟩ := ok_law_s_name (w := w) (base := base) T
  refine PSs.imp (pss_cons (ps_par (i := 10) (j := 11) rfl sc_law.nd rfl rfl (by decide) rfl rfl (pa_cons (pe_call G_law_s_name (hr.mono (by decide)) rfl T.g_law_s_name k_law_s_name b_law_s_name .nil pass0 (pa_cons (pv 8) (pa_cons (pv 16) pa_nil))) (pa_cons (pv 8) pa_nil)) (by kernel_rfl))
      (pss_one (ps_set (i := 12) sc_law.nd rfl (Or.inl rfl) (pe_ifExp (pt_cmpR (op_eqD hr.units) (pv 16) (pe_tup pa_nil) (nomark _)) (pe_lamcall (T := [(Tb, LQ)]) (TT := THeard K) (c := c) (P := Tb) rfl T.g_law_web_heard k_heard lk_heard hc_heard b_heard sc_law_web_heard rfl (Or.inl rfl) (heard_gives T) TB rfl (List.mem_singleton.mpr rfl) (fun p hp _ => by rw [List.mem_singleton.mp hp] <;> rfl) hr (lamS_by (sc := defScope s_law) (by decide +kernel)) rfl (fun q cl pm cv ctv => rfl) (fun A outer s H E f c' hrL => (pe_meth0 (pv 18) T.cl_Scan T.m_Scan_take_name G_take_name hrL b_take_name1 r_take_name1 (passes_call (takes_of (X := lamCx _ A outer s H E _ f c') rfl rfl rfl rfl) fun _ _ _ _ h => h)))) (pe_lamcallD (T := [(Tb, LQ)]) (TT := THeard K) (c := c) (P := Tb) rfl T.g_law_web_heard k_heard lk_heard hc_heard b_heard sc_law_web_heard rfl (Or.inl rfl) (heard_gives T) TB rfl (List.mem_singleton.mpr rfl) (fun p hp _ => by rw [List.mem_singleton.mp hp] <;> rfl) hr (lamD_by (sc := defScope s_law) (ar := "a1") (by decide +kernel)) lam_nN rfl pe_int rfl (fun q cl pm cv ctv u0 TA => ⟨_, rfl, rfl⟩) (fun A outer s H E f c' hrL => (pe_meth (pv 18) T.cl_Scan T.m_Scan_take_name G_take_name hrL b_take_name .nil (passes_call (takes_of (X := lamCx _ A outer s H E _ f c') rfl rfl rfl rfl) fun _ _ _ _ h => h) (pa_cons (pv 16) pa_nil)))))))) fun DD σ H h => ?_
  obtain ⟨j, p, Tn, l, a, b2, ol, x9, x10, x11, x12, x14, x15, x19, rfl, rfl, S, ho, kg, kb⟩ := h
  refine ⟨_, rfl, _, rfl, aheadW p.ll l a, b2, ol, rfl, ho.seq, fun s e => (aheadW_wd S.scan.sz e).a, fun H1 sm => ?_⟩
  have S1 := S.new sm
  have ho1 := ho.sm sm
  refine ⟨_, rfl, _, _, rfl, ?_⟩
  have kG : ∀ (g : Bool), (aheadW p.ll l a).elim false (fun s => nameB s && !decide (s ∈ ol)) = g → ∀ q H4, (g = true → Lap K H4 p Tn l (a + 1) ∧ H4 q = some (.lst [vO (aheadW p.ll l a)])) → (g = false → Lap K H4 p Tn l a ∧ H4 q = some (.tup [.str "text", .int (l : Int), .int (a : Int)])) →
      DD.nx (lapσ j p l a (some (vO (aheadW p.ll l a))) x9 (some (.bl g)) (some (vO (aheadW p.ll l a))) (some (.ref q)) x14 x15 (some (.ref b2)) x19) H4 := fun g eg q H4 h1 h2 => by
    cases g with
    | false => exact kb q _ H4 (h2 rfl).1 (h2 rfl).2
    | true =>
      cases hz : aheadW p.ll l a with
      | none => rw [hz] at eg; cases eg
      | some z =>
        have k := kg z hz q H4 (h1 rfl).1 (by rw [(h1 rfl).2, hz]; rfl)
        rw [hz] at k
        exact k
  obtain ⟨d, hd, hsh, he⟩ := ho1.dp (K := K)
  refine ⟨_, rfl, Nat.zero_le _, fun t nt => ?_⟩
  have S2 := S1.new (Sm.new (o := .tup []) nt)
  have ho2 := ho1.sm (Sm.new (o := .tup []) nt)
  obtain ⟨d, hd, hsh, he⟩ := ho2.dp (K := K)
  refine ⟨d, _, hd, .tup (.inl (.inl upd_same)) .nil, hsh, by rfl, decide (ol = []), congrArg V.bl he, ?_⟩
  refine ite2 (fun h1 => ?_) fun h1 => ?_
  · have h1' := of_decide_eq_true h1
    subst h1'
    refine hlS (good := (aheadW p.ll l a).elim false fun s => nameB s && !decide (s ∈ ([] : List Str))) (v := vO (aheadW p.ll l a)) (l' := l) (a' := a + 1) (x := .int l) (y := .int a) (Φ := fun H' => Lap K H' p Tn l (a + 1)) S2
      (fun E' H2 Q' S2 e2 st => ⟨_, rfl, p.sp, p.dx, _, rfl, S2.scan.h, rfl, p.sp, p.dx, p.L, pEmp K, [], p.ll, l, a, rfl, .inr (T.emp H2), S2.scan, st⟩) (fun hg => ?_) (fun _ _ s S => S.new s) (fun hg q H4 S4 hq => ?_) (fun hg q H4 S4 hq => ?_)
    · cases hz : aheadW p.ll l a with
      | none => rw [hz] at hg; cases hg
      | some z => exact Lap.step (next_ok hz)
    · exact kG _ rfl q H4 (fun _ => ⟨S4, hq⟩) (fun e => by rw [hg] at e; cases e)
    · exact kG _ rfl q H4 (fun e => by rw [hg] at e; cases e) (fun _ => ⟨S4, hq⟩)
  · refine hlS (good := (aheadW p.ll l a).elim false fun s => nameB s && !decide (s ∈ ol)) (v := vO (aheadW p.ll l a)) (l' := l) (a' := a + 1) (x := .int l) (y := .int a) (Φ := fun H' => Lap K H' p Tn l (a + 1)) S2
      (fun E' H2 Q' S2 e2 st => ⟨_, rfl, p.sp, p.dx, _, rfl, S2.scan.h, rfl, _, rfl, p.sp, p.dx, p.L, b2, ol, p.ll, l, a, rfl, (ho2.ext e2).seq, S2.scan, st⟩) (fun hg => ?_) (fun _ _ s S => S.new s) (fun hg q H4 S4 hq => ?_) (fun hg q H4 S4 hq => ?_)
    · cases hz : aheadW p.ll l a with
      | none => rw [hz] at hg; cases hg
      | some z => exact Lap.step (next_ok hz)
    · exact kG _ rfl q H4 (fun _ => ⟨S4, hq⟩) (fun e => by rw [hg] at e; cases e)
    · exact kG _ rfl q H4 (fun e => by rw [hg] at e; cases e) (fun _ => ⟨S4, hq⟩)
end
end K30

namespace K30
open PySem PySem.Spec PyProof.Rows L2 ExK LamX
section
variable {P : Program} {w : World} {K : PySem.W.Frag} {mg : Str → Option Value} {base : Heap} {c : Addr} {A : Around} {outer : List Env} {s : Shared} {H0 : Hp} {E : XK}
/-- way == 'take_number' -/
theorem w3_ps {Tb : Addr} (T : Txt P K mg) (TB : TabB base mg c Tb) (hr : Room 6 (LX P w K mg base c A outer s H0 E).A) : PSs (LX P w K mg base c A outer s H0 E) (ifB (ways 3)) (fun D σ H => ∃ j p Tn l a, ∃ lo hi : Int, ∃ x9 x10 x11 x12 x16 x19, p.Tb = Tb ∧ σ = lapσ j p l a (some (vO (aheadW p.ll l a))) x9 x10 x11 x12 (some (.int lo)) (some (.int hi)) x16 x19 ∧
    Lap K H p Tn l a ∧
    (∀ (n : Int) (z : Str), aheadW p.ll l a = some z → ∀ (q : Addr) H', Lap K H' p Tn l (a + 1) → H' q = some (.lst [.int n]) → D.nx (lapσ j p l a (some (vO (aheadW p.ll l a))) x9 (some (.bl true)) (some (.int n)) (some (.ref q)) (some (.int lo)) (some (.int hi)) x16 x19) H') ∧
    (∀ (q : Addr) (due : V) H', Lap K H' p Tn l a → H' q = some (.tup [.str "text", .int (l : Int), .int (a : Int)]) → D.nx (lapσ j p l a (some (vO (aheadW p.ll l a))) x9 (some (.bl false)) (some due) (some (.ref q)) (some (.int lo)) (some (.int hi)) x16 x19) H')) := by
  obtain ⟨oc, od, dV, kV, doc, pm, cdv, ct, an, osl, lk_heard, hc_heard, b_heard, k_heard⟩ := heard_txt T
  obtain ⟨fd1, G_take_number, b_take_number⟩ := ok_Scan_take_number (w := w) (base := base) T
  obtain ⟨fd2, G_law_s_number, b_law_s_number, k_law_s_number⟩ := ok_law_s_number (w := w) (base := base) T
  refine PSs.imp (pss_cons (ps_set (i := 10) sc_law.nd rfl (Or.inl rfl) (pe_call G_law_s_number (hr.mono (by decide)) rfl T.g_law_s_number k_law_s_number b_law_s_number .nil pass0 (pa_cons (pv 8) (pa_cons (pv 14) (pa_cons (pv 15) pa_nil)))))
      (pss_one (ps_par (i := 11) (j := 12) rfl sc_law.nd rfl rfl (by decide) rfl rfl (pa_cons (pe_ifExp (pt_val (pv 10)) (pe_callTy call_int_str (by rfl) T.n_int (by decide +kernel) (pa_cons (pv 8) pa_nil)) pe_non) (pa_cons (pe_lamcall (T := [(Tb, LQ)]) (TT := THeard K) (c := c) (P := Tb) rfl T.g_law_web_heard k_heard lk_heard hc_heard b_heard sc_law_web_heard rfl (Or.inl rfl) (heard_gives T) TB rfl (List.mem_singleton.mpr rfl) (fun p hp _ => by rw [List.mem_singleton.mp hp] <;> rfl) hr (lamS_by (sc := defScope s_law) (by decide +kernel)) rfl (fun q cl pm cv ctv => rfl) (fun A outer s H E f c' hrL => (pe_meth (pv 18) T.cl_Scan T.m_Scan_take_number G_take_number (hrL.mono (by decide)) b_take_number .nil (passes_call (takes_of (X := lamCx _ A outer s H E _ f c') rfl rfl rfl rfl) fun _ _ _ _ h => h) (pa_cons (pv 14) (pa_cons (pv 15) pa_nil))))) pa_nil)) (by kernel_rfl)))) fun DD σ H h => ?_
  obtain ⟨j, p, Tn, l, a, lo, hi, x9, x10, x11, x12, x16, x19, rfl, rfl, S, kg, kb⟩ := h
  refine ⟨_, rfl, _, rfl, _, rfl, aheadW p.ll l a, lo, hi, rfl, fun s e => ⟨(aheadW_wd S.scan.sz e).a, (aheadW_wd S.scan.sz e).n⟩, fun H1 sm => ?_⟩
  have S1 := S.new sm
  cases eg : (aheadW p.ll l a).elim false fun s => figB s && (decide (lo ≤ numV s) && decide (numV s ≤ hi)) with
  | false =>
    refine ⟨_, rfl, _, rfl, iteF ?_⟩
    refine hlS (good := (aheadW p.ll l a).elim false fun s => figB s && (decide (lo ≤ numV s) && decide (numV s ≤ hi))) (v := .int ((aheadW p.ll l a).elim 0 numV)) (l' := l) (a' := a + 1) (x := .int l) (y := .int a) (Φ := fun H' => Lap K H' p Tn l (a + 1)) S1
      (fun E' H2 Q' S2 e2 st => ⟨_, rfl, p.sp, p.dx, _, rfl, S2.scan.h, rfl, _, rfl, _, rfl, p.sp, p.dx, p.L, lo, hi, p.ll, l, a, rfl, S2.scan, st⟩) (fun hg => by rw [eg] at hg; cases hg) (fun _ _ s S => S.new s) (fun hg => by rw [eg] at hg; cases hg) (fun hg q H4 S4 hq => ⟨_, _, rfl, kb q _ H4 S4 hq⟩)
  | true =>
    cases hz : aheadW p.ll l a with
    | none => rw [hz] at eg; cases eg
    | some z =>
      have hw := aheadW_wd S.scan.sz hz
      have eg' : (figB z && (decide (lo ≤ numV z) && decide (numV z ≤ hi))) = true := by rw [hz] at eg; exact eg
      have ef : figB z = true := (He.ba eg').1
      have h20 : z.length ≤ 20 := by
        unfold figB at ef
        exact of_decide_eq_true (He.ba (He.ba ef).1).2
      refine ⟨_, rfl, _, rfl, iteT ⟨_, rfl, z, _, rfl, hw.n ef, by omega, ?_⟩⟩
      rw [hz] at kg
      refine hlS (good := (aheadW p.ll l a).elim false fun s => figB s && (decide (lo ≤ numV s) && decide (numV s ≤ hi))) (v := .int ((aheadW p.ll l a).elim 0 numV)) (l' := l) (a' := a + 1) (x := .int l) (y := .int a) (Φ := fun H' => Lap K H' p Tn l (a + 1)) S1
        (fun E' H2 Q' S2 e2 st => ⟨_, rfl, p.sp, p.dx, _, rfl, S2.scan.h, rfl, _, rfl, _, rfl, p.sp, p.dx, p.L, lo, hi, p.ll, l, a, rfl, S2.scan, st⟩) (fun hg => Lap.step (next_ok hz)) (fun _ _ s S => S.new s) (fun hg q H4 S4 hq => ⟨_, _, rfl, kg _ z rfl q H4 S4 (by rw [hq, hz]; rfl)⟩) (fun hg => by rw [eg] at hg; cases hg)
/-- way == 'end' -/
theorem w5_ps {Tb : Addr} (T : Txt P K mg) (TB : TabB base mg c Tb) (hr : Room 6 (LX P w K mg base c A outer s H0 E).A) : PSs (LX P w K mg base c A outer s H0 E) (ifB (ways 5)) (fun D σ H => ∃ j p Tn l a x9 x10 x11 x12 x14 x15 x16 x19, p.Tb = Tb ∧ σ = lapσ j p l a (some (vO (aheadW p.ll l a))) x9 x10 x11 x12 x14 x15 x16 x19 ∧
    Lap K H p Tn l a ∧
    (aheadW p.ll l a = none → ∀ (q : Addr) H', Lap K H' p Tn p.ll.length 0 → H' q = some (.lst [.non]) → D.nx (lapσ j p l a (some (vO (aheadW p.ll l a))) x9 (some (.bl true)) x11 (some (.ref q)) x14 x15 x16 x19) H') ∧
    (∀ (q : Addr) H', Lap K H' p Tn l a → H' q = some (.tup [.str "text", .int (if aheadW p.ll l a = none then ((l + 1 : Nat) : Int) else (l : Int)), .int (if aheadW p.ll l a = none then 0 else (a : Int))]) → D.nx (lapσ j p l a (some (vO (aheadW p.ll l a))) x9 (some (.bl false)) x11 (some (.ref q)) x14 x15 x16 x19) H')) := by
  obtain ⟨oc, od, dV, kV, doc, pm, cdv, ct, an, osl, lk_heard, hc_heard, b_heard, k_heard⟩ := heard_txt T
  obtain ⟨fd1, G_end, b_end⟩ := ok_Scan_end (w := w) (base := base) T
  refine PSs.imp (pss_one (ps_par (i := 10) (j := 12) rfl sc_law.nd rfl rfl (by decide) rfl rfl (pa_cons (pe_and (pe_cmp (pc_isN (pv 8)) rfl) (pe_one (pe_cmpR op_ge (pe_op op_add (pv 6) pe_int) (pe_callB call_len_seq (by rfl) T.n_len PySem.boot_len (pa_cons (pv 7) pa_nil)) (nomark _)))) (pa_cons (pe_lamcall (T := [(Tb, LQ)]) (TT := THeard K) (c := c) (P := Tb) rfl T.g_law_web_heard k_heard lk_heard hc_heard b_heard sc_law_web_heard rfl (Or.inl rfl) (heard_gives T) TB rfl (List.mem_singleton.mpr rfl) (fun p hp _ => by rw [List.mem_singleton.mp hp] <;> rfl) hr (lamS_by (sc := defScope s_law) (by decide +kernel)) rfl (fun q cl pm cv ctv => rfl) (fun A outer s H E f c' hrL => (pe_meth0 (pv 18) T.cl_Scan T.m_Scan_end G_end (hrL.mono (by decide)) b_end .nil (passes_call (takes_of (X := lamCx _ A outer s H E _ f c') rfl rfl rfl rfl) fun _ _ _ _ h => h)))) pa_nil)) (by kernel_rfl))) fun DD σ H h => ?_
  obtain ⟨j, p, Tn, l, a, x9, x10, x11, x12, x14, x15, x16, x19, rfl, rfl, S, kg, kb⟩ := h
  obtain ⟨xs, hxs, hl⟩ := S.part.len (K := K)
  have fin : ∀ b : Bool, b = ((aheadW p.ll l a).isNone && decide (p.ll.length ≤ l + 1)) → tLam [(p.Tb, LQ)] (THeard K) (fun E => tMeth (He.ga K "Scan") "end" (spEnd K) [] E (tVar 18) tNil) (lapσ j p l a (some (vO (aheadW p.ll l a))) x9 x10 x11 x12 x14 x15 x16 x19) H (fun x H' => ∃ v w, [V.bl b, x] = [v, w] ∧ DD.nx (((lapσ j p l a (some (vO (aheadW p.ll l a))) x9 x10 x11 x12 x14 x15 x16 x19).set 10 (some v)).set 12 (some w)) H') := fun b hb => by
    refine hlS (good := b) (v := .non) (l' := p.ll.length) (a' := 0) (x := .int (if aheadW p.ll l a = none then ((l + 1 : Nat) : Int) else (l : Int))) (y := .int (if aheadW p.ll l a = none then 0 else (a : Int))) (Φ := fun H' => Lap K H' p Tn p.ll.length 0) S
      (fun E' H2 Q' S2 _ st => ⟨_, rfl, p.sp, p.dx, _, rfl, S2.scan.h, rfl, p.sp, p.dx, p.L, p.ll, l, a, rfl, S2.scan, fun h1 h2 => st.1 ?_, fun h1 h2 d H3 hb3 => ?_, fun h1 d H3 hb3 => ?_⟩) (fun hg => Lap.step ⟨Nat.le_refl _, fun _ _ => Nat.zero_le _⟩) (fun _ _ s S => S.new s) (fun hg q H4 S4 hq => ?_) (fun hg q H4 S4 hq => ?_)
    · rw [hb, h1, decide_eq_true h2]; rfl
    · refine st.2 (by rw [hb, decide_eq_false h2, Bool.and_false]) d H3 ?_
      rw [if_pos h1, if_pos h1]
      exact hb3
    · refine st.2 (by
        rw [hb]
        cases q : aheadW p.ll l a with
        | none => exact absurd q h1
        | some z => rfl) d H3 ?_
      rw [if_neg h1, if_neg h1]
      exact hb3
    · subst hg
      have h1 : aheadW p.ll l a = none := by
        cases q : aheadW p.ll l a with
        | none => rfl
        | some z => rw [q] at hb; cases hb
      exact ⟨_, _, rfl, kg h1 q H4 S4 hq⟩
    · subst hg
      exact ⟨_, _, rfl, kb q H4 S4 hq⟩
  refine ⟨_, rfl, _, rfl, ?_⟩
  cases ho : aheadW p.ll l a with
  | some z =>
    rw [ho] at fin
    refine iteF ?_
    exact fin false rfl
  | none =>
    rw [ho] at fin
    refine iteT ⟨_, rfl, _, _, rfl, rfl, _, rfl, p.pt, xs, rfl, .inl hxs, _, _, rfl, rfl, ?_⟩
    have e : decide ((xs.length : Int) ≤ (l : Int) + 1) = (Option.isNone (none : Option Str) && decide (p.ll.length ≤ l + 1)) := by
      rw [hl]
      show _ = decide _
      by_cases q : p.ll.length ≤ l + 1
      · rw [decide_eq_true q, decide_eq_true (by omega)]
      · rw [decide_eq_false q, decide_eq_false (by omega)]
    exact fin _ e
/-- stop -/
theorem w6_ps {Tb : Addr} (T : Txt P K mg) (TB : TabB base mg c Tb) (hr : Room 6 (LX P w K mg base c A outer s H0 E).A) : PSs (LX P w K mg base c A outer s H0 E) (ifE (ways 5)) (fun D σ H => ∃ j p Tn l a x8 x9 x10 x11 x12 x14 x15 x16 x19, p.Tb = Tb ∧ σ = lapσ j p l a x8 x9 x10 x11 x12 x14 x15 x16 x19 ∧
    Lap K H p Tn l a ∧ (∀ (q : Addr) H', Lap K H' p Tn l a → H' q = some (.tup [.str "text", .int (l : Int), .int (a : Int)]) → D.nx (lapσ j p l a x8 x9 x10 x11 (some (.ref q)) x14 x15 x16 x19) H')) := by
  obtain ⟨oc, od, dV, kV, doc, pm, cdv, ct, an, osl, lk_heard, hc_heard, b_heard, k_heard⟩ := heard_txt T
  obtain ⟨fd1, G_stop, b_stop⟩ := ok_Scan_stop (w := w) (base := base) T
  refine PSs.imp (pss_one (ps_set (i := 12) sc_law.nd rfl (Or.inl rfl) (pe_lamcall (T := [(Tb, LQ)]) (TT := THeard K) (c := c) (P := Tb) rfl T.g_law_web_heard k_heard lk_heard hc_heard b_heard sc_law_web_heard rfl (Or.inl rfl) (heard_gives T) TB rfl (List.mem_singleton.mpr rfl) (fun p hp _ => by rw [List.mem_singleton.mp hp] <;> rfl) hr (lamS_by (sc := defScope s_law) (by decide +kernel)) rfl (fun q cl pm cv ctv => rfl) (fun A outer s H E f c' hrL => (pe_meth0 (pv 18) T.cl_Scan T.m_Scan_stop G_stop (hrL.mono (by decide)) b_stop .nil (passes_call (takes_of (X := lamCx _ A outer s H E _ f c') rfl rfl rfl rfl) fun _ _ _ _ h => h)))))) fun DD σ H h => ?_
  obtain ⟨j, p, Tn, l, a, x8, x9, x10, x11, x12, x14, x15, x16, x19, rfl, rfl, S, kb⟩ := h
  exact hlS (good := false) (v := .non) (l' := l) (a' := a) (x := .int l) (y := .int a) (Φ := fun H' => Lap K H' p Tn l a) S (fun E' H2 Q' S2 _ st => ⟨_, rfl, p.sp, p.dx, _, rfl, S2.scan.h, rfl, p.sp, p.dx, p.L, l, a, rfl, S2.scan.h, st.2 rfl⟩) (fun hg => nomatch hg) (fun _ _ s S => S.new s) (fun hg => nomatch hg) (fun hg q H4 S4 hq => kb q H4 S4 hq)
end
end K30

namespace K30
open PySem PySem.Spec PyProof.Rows L2 ExK LamX
theorem Lay.wentP {K : PySem.W.Frag} {H H' : Hp} {p : Par} {T l a : Nat} (S : Lap K H p T l a) (s : Kp p.sp H H') : Lay H' p.pt p.ll :=
  S.part.kp s fun xs q => by rw [S.scan.h] at q; cases q
section
variable {P : Program} {w : World} {K : PySem.W.Frag} {mg : Str → Option Value} {base : Heap} {c : Addr} {A : Around} {outer : List Env} {s : Shared} {H0 : Hp} {E : XK}
/-- way == 'end_line' -/
theorem w4_ps {Tb : Addr} (T : Txt P K mg) (TB : TabB base mg c Tb) (hr : Room 6 (LX P w K mg base c A outer s H0 E).A) : PSs (LX P w K mg base c A outer s H0 E) (ifB (ways 4)) (fun D σ H => ∃ j p Tn l a x9 x10 x11 x12 x14 x15 x16 x19, p.Tb = Tb ∧ σ = lapσ j p l a (some (vO (aheadW p.ll l a))) x9 x10 x11 x12 x14 x15 x16 x19 ∧
    Lap K H p Tn l a ∧
    (aheadW p.ll l a = none → l < p.ll.length → ∀ (q : Addr) H', Lap K H' p Tn (l + 1) 0 → H' q = some (.lst [.non]) → D.nx (lapσ j p l a (some (vO (aheadW p.ll l a))) x9 (some (.bl true)) x11 (some (.ref q)) x14 x15 x16 x19) H') ∧
    (aheadW p.ll l a ≠ none → ∀ (q : Addr) H', Lap K H' p Tn l a → H' q = some (.tup [.str "text", .int (l : Int), .int (a : Int)]) → D.nx (lapσ j p l a (some (vO (aheadW p.ll l a))) x9 (some (.bl false)) x11 (some (.ref q)) x14 x15 x16 x19) H') ∧
    (∀ (q : Addr) b H', Trn H' p.pp p.c p.sm p.Tb p.ns Tn → D.bk (lapσ j p l a (some (vO (aheadW p.ll l a))) x9 (some (.bl b)) x11 (some (.ref q)) x14 x15 x16 x19) H')) := by
  obtain ⟨oc, od, dV, kV, doc, pm, cdv, ct, an, osl, lk_heard, hc_heard, b_heard, k_heard⟩ := heard_txt T
  obtain ⟨fd1, G_end_line, b_end_line⟩ := ok_Scan_end_line (w := w) (base := base) T
  refine PSs.imp (pss_cons (ps_par (i := 10) (j := 12) rfl sc_law.nd rfl rfl (by decide) rfl rfl (pa_cons (pe_and (pe_cmp (pc_isN (pv 8)) rfl) (pe_one (pe_cmpR op_lt (pv 6) (pe_callB call_len_seq (by rfl) T.n_len PySem.boot_len (pa_cons (pv 7) pa_nil)) (nomark _)))) (pa_cons (pe_lamcall (T := [(Tb, LQ)]) (TT := THeard K) (c := c) (P := Tb) rfl T.g_law_web_heard k_heard lk_heard hc_heard b_heard sc_law_web_heard rfl (Or.inl rfl) (heard_gives T) TB rfl (List.mem_singleton.mpr rfl) (fun p hp _ => by rw [List.mem_singleton.mp hp] <;> rfl) hr (lamS_by (sc := defScope s_law) (by decide +kernel)) rfl (fun q cl pm cv ctv => rfl) (fun A outer s H E f c' hrL => (pe_meth0 (pv 18) T.cl_Scan T.m_Scan_end_line G_end_line (hrL.mono (by decide)) b_end_line .nil (passes_call (takes_of (X := lamCx _ A outer s H E _ f c') rfl rfl rfl rfl) fun _ _ _ _ h => h)))) pa_nil)) (by kernel_rfl))
      (pss_one (ps_if (pt_cmpR op_eq (pv 6) (pe_callB call_len_seq (by rfl) T.n_len PySem.boot_len (pa_cons (pv 7) pa_nil)) (nomark _)) (pss_one ps_break) pss_nil))) fun DD σ H h => ?_
  obtain ⟨j, p, Tn, l, a, x9, x10, x11, x12, x14, x15, x16, x19, rfl, rfl, S, kg, kb, kk⟩ := h
  obtain ⟨xs, hxs, hl⟩ := S.part.len (K := K)
  refine ⟨_, rfl, _, rfl, ?_⟩
  cases ho : aheadW p.ll l a with
  | some z =>
    have hlt : l < p.ll.length := by
      unfold aheadW at ho
      cases q : p.ll[l]? with
      | none => rw [q] at ho; cases ho
      | some ws => exact (List.getElem?_eq_some_iff.mp q).1
    rw [ho] at kb
    refine iteF ?_
    refine hlS (good := false) (v := .non) (l' := l + 1) (a' := 0) (x := .int l) (y := .int a) (Φ := fun H' => Lap K H' p Tn (l + 1) 0) S
      (fun E' H2 Q' S2 _ st => ⟨_, rfl, p.sp, p.dx, _, rfl, S2.scan.h, rfl, p.sp, p.dx, p.L, p.ll, l, a, rfl, S2.scan, by rw [ho]; exact st⟩) (fun hg => nomatch hg) (fun _ _ s S => S.new s) (fun hg => nomatch hg) (fun hg q H4 S4 hq => ?_)
    obtain ⟨ys, hys, hl4⟩ := S4.part.len (K := K)
    refine ⟨_, _, rfl, _, rfl, _, rfl, p.pt, ys, rfl, .inl hys, rfl, false, ?_, ?_⟩
    · rw [hl4, nat_eq_dec, decide_eq_false (by omega)]
    · exact iteF (kb (fun q => nomatch q) q H4 S4 hq)
  | none =>
    rw [ho] at kg kk
    refine iteT ⟨_, rfl, _, rfl, p.pt, xs, rfl, .inl hxs, _, _, rfl, rfl, ?_⟩
    have step : ∀ E' H2 Q', Lap K H2 p Tn l a → ExtN H H2 → StepX K H2 p.sp p.dx p.L true .non (l + 1) 0 (.int l) (.int a) Q' E' → tMeth (He.ga K "Scan") "end_line" (spEndLine K) [] E' (tVar 18) tNil (lapσ j p l a (some (vO none)) x9 x10 x11 x12 x14 x15 x16 x19) H2 Q' :=
      fun E' H2 Q' S2 _ st => ⟨_, rfl, p.sp, p.dx, _, rfl, S2.scan.h, rfl, p.sp, p.dx, p.L, p.ll, l, a, rfl, S2.scan, by rw [ho]; exact st⟩
    by_cases hlt : l < p.ll.length
    · refine hlS (good := true) (v := .non) (l' := l + 1) (a' := 0) (x := .int l) (y := .int a) (Φ := fun H' => Lap K H' p Tn (l + 1) 0) S step
        (fun _ => Lap.step ⟨hlt, fun _ _ => Nat.zero_le _⟩) (fun _ _ s S => S.new s) (fun hg q H4 S4 hq => ?_) (fun hg => nomatch hg)
      obtain ⟨ys, hys, hl4⟩ := S4.part.len (K := K)
      refine ⟨_, _, rfl, _, rfl, _, rfl, p.pt, ys, rfl, .inl hys, rfl, false, ?_, ?_⟩
      · rw [hl4, nat_eq_dec, decide_eq_false (by omega)]
      · have e : decide ((l : Int) < (xs.length : Int)) = true := by rw [hl, dec_lt, decide_eq_true hlt]
        refine iteF ?_
        show DD.nx (lapσ j p l a (some (vO none)) x9 (some (.bl (decide ((l : Int) < (xs.length : Int))))) x11 (some (.ref q)) x14 x15 x16 x19) H4
        rw [e]
        exact kg rfl hlt q H4 S4 hq
    · refine hlS (good := true) (v := .non) (l' := l + 1) (a' := 0) (x := .int l) (y := .int a) (Φ := fun H' => Trn H' p.pp p.c p.sm p.Tb p.ns Tn ∧ Lay H' p.pt p.ll) S step
        (fun _ H2 H3 S2 kp _ => ⟨S2.wentT kp, .wentP S2 kp⟩) (fun _ _ s S => ⟨S.1.new s, S.2.sm s⟩) (fun hg q H4 S4 hq => ?_) (fun hg => nomatch hg)
      obtain ⟨ys, hys, hl4⟩ := S4.2.len (K := K)
      have := S.scan.ln
      refine ⟨_, _, rfl, _, rfl, _, rfl, p.pt, ys, rfl, .inl hys, rfl, true, ?_, ?_⟩
      · rw [hl4, nat_eq_dec, decide_eq_true (by omega)]
      · exact iteT (kk q _ H4 S4.1)
end
end K30

namespace K30
open PySem PySem.Spec PyProof.Rows L2 ExK LamX
section
variable {P : Program} {w : World} {K : PySem.W.Frag} {mg : Str → Option Value} {base : Heap} {c : Addr} {A : Around} {outer : List Env} {s : Shared} {H0 : Hp} {E : XK}
/-- where the law says that the scan stopped -/
theorem spot_if {j : J22} {p : Par} {H : Hp} {l a : Nat} {way : Str} {o : Option Str} {x10 x11 x12 x14 x15 x16 x19 : Option V} {Q : VK}
    (k : ∀ (t : Addr) H1, Sm H H1 → H1 t = some (.tup [.int (if way = "end" ∧ o = none then ((l + 1 : Nat) : Int) else (l : Int)), .int (if way = "end" ∧ o = none then 0 else (a : Int))]) → Q (.ref t) H1) :
    tIf (tAnd (tTest (tOp rEq (tVar 9) (tC (V.str "end")))) (tB (tIsN (tVar 8)))) (tTup (tCons (tOp (rI0 fun i j => V.int (i + j)) (tVar 6) (tC (V.int 1))) (tCons (tC (V.int 0)) tNil))) (tTup (tCons (tVar 6) (tCons (tVar 3) tNil)))
      (lapσ j p l a (some (vO o)) (some (.str way)) x10 x11 x12 x14 x15 x16 x19) H Q := by
  refine ⟨_, rfl, rfl, decide (way = "end"), ?_, ?_⟩
  · by_cases q : way = "end"
    · rw [decide_eq_true q, q, decide_eq_true rfl]
    · rw [decide_eq_false q, decide_eq_false (fun z => q (V.str.inj z))]
  by_cases q : way = "end"
  · rw [decide_eq_true q]
    cases o with
    | none =>
      refine iteT ⟨_, rfl, _, rfl, iteT ⟨_, rfl, _, _, rfl, rfl, (show 2 ≤ sizeLine by decide), fun t nt => k t _ (Sm.new nt) ?_⟩⟩
      rw [if_pos ⟨q, rfl⟩, if_pos ⟨q, rfl⟩]
      exact upd_same
    | some z =>
      refine iteT ⟨_, rfl, _, rfl, iteF ⟨_, rfl, _, rfl, (show 2 ≤ sizeLine by decide), fun t nt => k t _ (Sm.new nt) ?_⟩⟩
      rw [if_neg (fun z => nomatch z.2), if_neg (fun z => nomatch z.2)]
      exact upd_same
  · rw [decide_eq_false q]
    refine iteF ⟨_, rfl, _, rfl, (show 2 ≤ sizeLine by decide), fun t nt => k t _ (Sm.new nt) ?_⟩
    rw [if_neg (fun z => q z.1), if_neg (fun z => q z.1)]
    exact upd_same
theorem eqv_text (x y : Int) : SeqAt.shaped (.tuple [.str "text", .int x, .int y]) = true := by
  have h1 : PyData.strOk "text" = true := by decide +kernel
  unfold SeqAt.shaped
  rw [Bool.and_eq_true]
  exact ⟨by simp [PyData.canLay0, PyData.canLayAll0, h1], decide_eq_true (by simp only [PyData.depth, PyData.depthAll]; decide)⟩
/-- if not is_let: .. continue -/
theorem c8_ps (T : Txt P K mg) (hr : Room 6 (LX P w K mg base c A outer s H0 E).A) : PS (LX P w K mg base c A outer s H0 E) (lapB.getD 7 noSt) (fun D σ H => ∃ j p Tn l a, ∃ way : Str, ∃ g : Bool, ∃ x11, ∃ q : Addr, ∃ x14 x15 x16 x19, σ = lapσ j p l a (some (vO (aheadW p.ll l a))) (some (.str way)) (some (.bl g)) x11 (some (.ref q)) x14 x15 x16 x19 ∧
    (g = true → D.nx σ H) ∧ (g = false → Lap K H p Tn l a ∧ H q = some (.tup [.str "text", .int (if way = "end" ∧ aheadW p.ll l a = none then ((l + 1 : Nat) : Int) else (l : Int)), .int (if way = "end" ∧ aheadW p.ll l a = none then 0 else (a : Int))]) ∧
      ∀ j' a' H', Lap K H' p Tn l a' → D.ct (lapσ j' p l a' (some (vO (aheadW p.ll l a))) (some (.str way)) (some (.bl g)) x11 (some (.ref q)) x14 x15 x16 x19) H')) := by
  obtain ⟨fd1, G_take, b_take⟩ := ok_Scan_take (w := w) (base := base) T
  refine PS.imp (ps_if (pt_not (pt_val (pv 10))) (pss_cons (ps_set (i := 13) sc_law.nd rfl (Or.inl rfl) (pe_ifExp (PW.pt (pw_and (pt_cmpR op_eq (pv 9) pe_str (nomark _)) (pw_and1 (pt_cmp (pc_isN (pv 8)))))) (pe_tup (pa_cons (pe_op op_add (pv 6) pe_int) (pa_cons pe_int pa_nil))) (pe_tup (pa_cons (pv 6) (pa_cons (pv 3) pa_nil)))))
      (pss_cons (ps_if (pt_cmpR (op_neD hr.units) (pv 12) (pe_op op_catT (pe_tup (pa_cons pe_str pa_nil)) (pv 13)) (nomark _)) (pss_one (ps_ret pe_bl)) pss_nil)
      (pss_cons (ps_if (PW.pt (pw_and (pt_cmpR op_in_seq (pv 9) (pe_tup (pa_cons pe_str (pa_cons pe_str (pa_cons pe_str pa_nil)))) (by with_unfolding_all rfl)) (pw_and1 (pt_cmp (pc_notN (pv 8)))))) (pss_cons (ps_if (pt_cmpR op_ne (pe_meth0 (pv 18) T.cl_Scan T.m_Scan_take G_take (hr.mono (by decide)) b_take .nil (passes_call (E := fun _ _ _ => False) LamX.takes0 fun _ _ _ _ h => h)) (pv 8) (nomark _)) (pss_one (ps_ret pe_bl)) pss_nil)
      (pss_one (ps_set (i := 3) sc_law.nd rfl (Or.inl rfl) (pe_op op_add (pv 3) pe_int)))) pss_nil)
      (pss_one ps_continue)))) pss_nil) fun DD σ H h => ?_
  obtain ⟨j, p, Tn, l, a, way, g, x11, q, x14, x15, x16, x19, rfl, kt, kf⟩ := h
  cases g with
  | true => exact ⟨_, rfl, _, rfl, iteF (kt rfl)⟩
  | false =>
    obtain ⟨S, hq, k⟩ := kf rfl
    refine ⟨_, rfl, _, rfl, iteT ?_⟩
    refine spot_if fun t H1 sm ht => ?_
    have S1 := S.new sm
    have hq1 := sm _ _ hq
    generalize (if way = "end" ∧ aheadW p.ll l a = none then ((l + 1 : Nat) : Int) else (l : Int)) = x at hq1 ht
    generalize (if way = "end" ∧ aheadW p.ll l a = none then 0 else (a : Int)) = y at hq1 ht
    refine ⟨_, rfl, (show 1 ≤ sizeLine by decide), fun t2 n2 => ⟨_, rfl, t2, t, [.str "text"], [.int x, .int y], rfl, rfl, .inl (.inl upd_same), .inl (.inl (Sm.new n2 _ _ ht)), by simp, (show 3 ≤ sizeLine by decide), (fun e => nomatch e), fun _ r nr => ?_⟩⟩
    have sm3 := (Sm.new (o := .tup [.str "text"]) n2).trans (Sm.new (o := .tup ([.str "text"] ++ [.int x, .int y])) nr)
    have S3 := S1.new sm3
    refine ⟨_, _, .tup (.inl (.inl (sm3 _ _ hq1))) (.cons (.str _) (.cons (.int _) (.cons (.int _) .nil))), .tup (.inl (.inl upd_same)) (.cons (.str _) (.cons (.int _) (.cons (.int _) .nil))), eqv_text x y, eqv_text x y, false, by rw [eqv_self (eqv_text x y)]; rfl, iteF ?_⟩
    refine ⟨_, rfl, (show 3 ≤ sizeLine by decide), fun t3 n3 => ⟨t3, _, rfl, .inr (.inl (.inl upd_same)), rfl, rfl, _, rfl, ?_⟩⟩
    have S4 := S3.new (Sm.new (o := .tup [.str "take_of", .str "take_name", .str "take_number"]) n3)
    have kc : ∀ H', Lap K H' p Tn l a → DD.ct (lapσ { j with x13 := some (.ref t) } p l a (some (vO (aheadW p.ll l a))) (some (.str way)) (some (.bl false)) x11 (some (.ref q)) x14 x15 x16 x19) H' := fun H' S' => k _ a H' S'
    have kc2 : ∀ H', Lap K H' p Tn l (a + 1) → DD.ct (lapσ { j with x13 := some (.ref t) } p l (a + 1) (some (vO (aheadW p.ll l a))) (some (.str way)) (some (.bl false)) x11 (some (.ref q)) x14 x15 x16 x19) H' := fun H' S' => k _ (a + 1) H' S'
    refine ite2 (fun _ => ?_) fun _ => iteF (kc _ S4)
    cases hz : aheadW p.ll l a with
    | none =>
      rw [hz] at kc
      exact ⟨_, rfl, _, rfl, iteF (kc _ S4)⟩
    | some z =>
      rw [hz] at kc2
      refine ⟨_, rfl, _, rfl, iteT ⟨_, rfl, p.sp, p.dx, _, rfl, S4.scan.h, rfl, p.sp, p.dx, p.L, p.ll, l, a, rfl, S4.scan, fun _ H5 h5 kp => ?_, fun e => by rw [hz] at e; cases e⟩⟩
      rw [hz]
      exact ⟨_, rfl, rfl, false, by rw [decide_eq_true rfl]; rfl, iteF ⟨_, rfl, _, _, rfl, rfl, kc2 H5 (Lap.step (next_ok hz) _ _ S4 kp h5)⟩⟩
/-- if heard != [due] -/
theorem c9_ps (T : Txt P K mg) (hr : Room 6 (LX P w K mg base c A outer s H0 E).A) : PS (LX P w K mg base c A outer s H0 E) (lapB.getD 8 noSt) (fun D σ H => ∃ j p l a x8 x9 x10, ∃ v : V, ∃ q : Addr, ∃ x14 x15 x16 x19, σ = lapσ j p l a x8 x9 x10 (some v) (some (.ref q)) x14 x15 x16 x19 ∧
    Plain v ∧ H q = some (.lst [v]) ∧ ∀ H', Sm H H' → D.nx σ H') := by
  refine PS.imp (ps_if (pt_cmpR (op_neD hr.units) (pv 12) (pe_lst (pa_cons (pv 11) pa_nil)) (nomark _)) (pss_one (ps_ret pe_bl)) pss_nil) fun DD σ H h => ?_
  obtain ⟨j, p, l, a, x8, x9, x10, v, q, x14, x15, x16, x19, rfl, ⟨d, hd, hs⟩, hq, k⟩ := h
  refine ⟨_, rfl, _, rfl, (show 1 ≤ sizeLine by decide), fun t nt => ?_⟩
  exact ⟨_, _, .lst (SqL.of (Sm.new nt _ _ hq)) (.cons (hd _ _) .nil), .lst (SqL.of upd_same) (.cons (hd _ _) .nil), hs, hs, false, by rw [eqv_self hs]; rfl, iteF (k _ (Sm.new nt))⟩
end
end K30

namespace K30
open PySem PySem.Spec PyProof.Rows L2 ExK LamX
/-- where the scan stands behind a good step -/
def NextW (way : Str) (ll : List (List Str)) (l a l' a' : Nat) : Prop :=
  ((way = "take" ∨ way = "take_of" ∨ way = "take_name" ∨ way = "take_number") ∧ l' = l ∧ a' = a + 1) ∨ (way = "end_line" ∧ l' = l + 1 ∧ a' = 0) ∨ (way = "end" ∧ l' = ll.length ∧ a' = 0)
section
variable {P : Program} {w : World} {K : PySem.W.Frag} {mg : Str → Option Value} {base : Heap} {c : Addr} {A : Around} {outer : List Env} {s : Shared} {H0 : Hp} {E : XK}
theorem str_dec {x y : Str} {b : Bool} (h : decide (x = y) = b) : V.bl (decide (V.str x = V.str y)) = V.bl b := by
  rw [← h]
  congr 1
  by_cases q : x = y
  · rw [decide_eq_true q, q, decide_eq_true rfl]
  · rw [decide_eq_false q, decide_eq_false (fun z => q (V.str.inj z))]
/-- line, at = .. -/
theorem c10_ps (T : Txt P K mg) (hr : Room 6 (LX P w K mg base c A outer s H0 E).A) : PS (LX P w K mg base c A outer s H0 E) (lapB.getD 9 noSt) (fun D σ H => ∃ j p Tn l a l' a' x8, ∃ way : Str, ∃ x10 x11 x12 x14 x15 x16 x19, σ = lapσ j p l a x8 (some (.str way)) x10 x11 x12 x14 x15 x16 x19 ∧
    Lap K H p Tn l' a' ∧ NextW way p.ll l a l' a' ∧ ∀ H', Lap K H' p Tn l' a' → D.nx (lapσ j p l' a' x8 (some (.str way)) x10 x11 x12 x14 x15 x16 x19) H') := by
  refine PS.imp (ps_asg (pe_ifExp (pt_cmpR op_eq (pe_slice sl_str (pv 9) po_none (po_some pe_int)) pe_str (nomark _)) (pe_tup (pa_cons (pv 6) (pa_cons (pe_op op_add (pv 3) pe_int) pa_nil))) (pe_ifExp (pt_cmpR op_eq (pv 9) pe_str (nomark _)) (pe_tup (pa_cons (pe_op op_add (pv 6) pe_int) (pa_cons pe_int pa_nil))) (pe_tup (pa_cons (pe_callB call_len_seq (by rfl) T.n_len PySem.boot_len (pa_cons (pv 7) pa_nil)) (pa_cons pe_int pa_nil))))) (pg_tup rfl (pgs_cons (pg_name (i := 6) sc_law.nd rfl (Or.inl rfl)) (pgs_cons (pg_name (i := 3) sc_law.nd rfl (Or.inl rfl)) pgs_nil)))) fun DD σ H h => ?_
  obtain ⟨j, p, Tn, l, a, l', a', x8, way, x10, x11, x12, x14, x15, x16, x19, rfl, S, hw, k⟩ := h
  rcases hw with ⟨hw, rfl, rfl⟩ | ⟨rfl, rfl, rfl⟩ | ⟨rfl, rfl, rfl⟩
  · have hl : way.length ≤ sizeLine := by rcases hw with h | h | h | h <;> rw [h] <;> decide +kernel
    have hc : decide (cutS way none (some 4) = "take") = true := by rcases hw with h | h | h | h <;> rw [h] <;> decide +kernel
    refine ⟨_, rfl, _, rfl, way, rfl, hl, rfl, true, str_dec hc, iteT ⟨_, rfl, _, rfl, _, _, rfl, rfl, (show 2 ≤ sizeLine by decide), fun t nt => ⟨t, _, rfl, .inl (.inl upd_same), rfl, _, _, rfl, _, _, rfl, rfl, k _ (S.new (Sm.new nt))⟩⟩⟩
  · refine ⟨_, rfl, _, rfl, _, rfl, (by decide +kernel), rfl, false, str_dec (by decide +kernel), iteF ⟨_, rfl, rfl, true, str_dec (by decide +kernel), iteT ⟨_, rfl, _, _, rfl, rfl, (show 2 ≤ sizeLine by decide), fun t nt => ⟨t, _, rfl, .inl (.inl upd_same), rfl, _, _, rfl, _, _, rfl, rfl, k _ (S.new (Sm.new nt))⟩⟩⟩⟩
  · obtain ⟨xs, hxs, hl⟩ := S.part.len (K := K)
    refine ⟨_, rfl, _, rfl, _, rfl, (by decide +kernel), rfl, false, str_dec (by decide +kernel), iteF ⟨_, rfl, rfl, false, str_dec (by decide +kernel), iteF ⟨_, rfl, p.pt, xs, rfl, .inl hxs, (show 2 ≤ sizeLine by decide), fun t nt => ⟨t, _, rfl, .inl (.inl upd_same), rfl, _, _, rfl, _, _, rfl, rfl, ?_⟩⟩⟩⟩
    rw [hl]
    exact k _ (S.new (Sm.new nt))
abbrev wy (w : Str) (t : TS) (u : TS) : TS := tIfS (tTest (tOp rEq (tVar 9) (tC (V.str w)))) t u
/-- if way == .. -/
theorem c7_ps {Tb : Addr} (T : Txt P K mg) (TB : TabB base mg c Tb) (hr : Room 6 (LX P w K mg base c A outer s H0 E).A) : PS (LX P w K mg base c A outer s H0 E) (lapB.getD 6 noSt) (fun D σ H => ∃ j p Tn l a, ∃ way : Str, ∃ lo hi : Int, ∃ b1 b2 : Addr, ∃ wl ol : List Str, ∃ x12, p.Tb = Tb ∧
    σ = lapσ j p l a (some (vO (aheadW p.ll l a))) (some (.str way)) (some (.bl false)) (some .non) x12 (some (.int lo)) (some (.int hi)) (some (.ref b2)) (some (.ref b1)) ∧
    Lap K H p Tn l a ∧ way ∈ (["take", "take_of", "take_name", "take_number", "end_line", "end_line", "end", "stop"] : List Str) ∧ H b1 = some (.lst (wl.map V.str)) ∧ Oth H b2 ol ∧
    (∀ (v : V) (q : Addr) l' a' H', Plain v → NextW way p.ll l a l' a' → Lap K H' p Tn l' a' → H' q = some (.lst [v]) → D.nx (lapσ j p l a (some (vO (aheadW p.ll l a))) (some (.str way)) (some (.bl true)) (some v) (some (.ref q)) (some (.int lo)) (some (.int hi)) (some (.ref b2)) (some (.ref b1))) H') ∧
    (∀ (due : V) (q : Addr) H', Lap K H' p Tn l a → H' q = some (.tup [.str "text", .int (if way = "end" ∧ aheadW p.ll l a = none then ((l + 1 : Nat) : Int) else (l : Int)), .int (if way = "end" ∧ aheadW p.ll l a = none then 0 else (a : Int))]) →
      D.nx (lapσ j p l a (some (vO (aheadW p.ll l a))) (some (.str way)) (some (.bl false)) (some due) (some (.ref q)) (some (.int lo)) (some (.int hi)) (some (.ref b2)) (some (.ref b1))) H') ∧
    (∀ x8 x9 x10 x11 x12 x14 x15 x16 x19 H', Trn H' p.pp p.c p.sm p.Tb p.ns Tn → D.bk (lapσ j p l a x8 x9 x10 x11 x12 x14 x15 x16 x19) H')) := by
  refine PS.imp (t := wy "take" _ (wy "take_of" _ (wy "take_name" _ (wy "take_number" _ (wy "end_line" _ (wy "end" _ _)))))) (ps_if (pt_cmpR op_eq (pv 9) pe_str (nomark _)) (w0_ps T TB hr) (pss_one (ps_if (pt_cmpR op_eq (pv 9) pe_str (nomark _)) (w1_ps T TB hr) (pss_one (ps_if (pt_cmpR op_eq (pv 9) pe_str (nomark _)) (w2_ps T TB hr) (pss_one (ps_if (pt_cmpR op_eq (pv 9) pe_str (nomark _)) (w3_ps T TB hr)
    (pss_one (ps_if (pt_cmpR op_eq (pv 9) pe_str (nomark _)) (w4_ps T TB hr) (pss_one (ps_if (pt_cmpR op_eq (pv 9) pe_str (nomark _)) (w5_ps T TB hr) (w6_ps T TB hr)))))))))))) fun DD σ H h => ?_
  obtain ⟨j, p, Tn, l, a, way, lo, hi, b1, b2, wl, ol, x12, rfl, rfl, S, hw, h1, h2, kg, kb, kk⟩ := h
  have hw' : way = "take" ∨ way = "take_of" ∨ way = "take_name" ∨ way = "take_number" ∨ way = "end_line" ∨ way = "end_line" ∨ way = "end" ∨ way = "stop" := by simpa using hw
  rcases hw' with rfl | rfl | rfl | rfl | rfl | rfl | rfl | rfl
  · exact ⟨_, rfl, rfl, true, str_dec (by decide +kernel), iteT ⟨j, p, Tn, l, a, _, _, _, _, _, _, _, _, rfl, rfl, S, fun z hz q H' S' hq => kg (.str z) q l (a + 1) H' (plain_str (aheadW_wd S.scan.sz hz).a) (.inl ⟨.inl rfl, rfl, rfl⟩) S' hq, fun hn q due H' S' hq => kb due q H' S' (by
      rw [if_neg (fun z => absurd z.1 (by decide +kernel)), if_neg (fun z => absurd z.1 (by decide +kernel))]
      exact hq)⟩⟩
  · exact ⟨_, rfl, rfl, false, str_dec (by decide +kernel), iteF ⟨_, rfl, rfl, true, str_dec (by decide +kernel), iteT ⟨j, p, Tn, l, a, b1, wl, _, _, _, _, _, _, _, rfl, rfl, S, h1, fun z hz q H' S' hq => kg (.str z) q l (a + 1) H' (plain_str (aheadW_wd S.scan.sz hz).a) (.inl ⟨.inr (.inl rfl), rfl, rfl⟩) S' hq, fun q due H' S' hq => kb due q H' S' (by
      rw [if_neg (fun z => absurd z.1 (by decide +kernel)), if_neg (fun z => absurd z.1 (by decide +kernel))]
      exact hq)⟩⟩⟩
  · exact ⟨_, rfl, rfl, false, str_dec (by decide +kernel), iteF ⟨_, rfl, rfl, false, str_dec (by decide +kernel), iteF ⟨_, rfl, rfl, true, str_dec (by decide +kernel), iteT ⟨j, p, Tn, l, a, b2, ol, _, _, _, _, _, _, _, rfl, rfl, S, h2, fun z hz q H' S' hq => kg (.str z) q l (a + 1) H' (plain_str (aheadW_wd S.scan.sz hz).a) (.inl ⟨.inr (.inr (.inl rfl)), rfl, rfl⟩) S' hq, fun q due H' S' hq => kb due q H' S' (by
      rw [if_neg (fun z => absurd z.1 (by decide +kernel)), if_neg (fun z => absurd z.1 (by decide +kernel))]
      exact hq)⟩⟩⟩⟩
  · exact ⟨_, rfl, rfl, false, str_dec (by decide +kernel), iteF ⟨_, rfl, rfl, false, str_dec (by decide +kernel), iteF ⟨_, rfl, rfl, false, str_dec (by decide +kernel), iteF ⟨_, rfl, rfl, true, str_dec (by decide +kernel), iteT ⟨j, p, Tn, l, a, lo, hi, _, _, _, _, _, _, rfl, rfl, S, fun n z hz q H' S' hq => kg (.int n) q l (a + 1) H' (plain_int n) (.inl ⟨.inr (.inr (.inr rfl)), rfl, rfl⟩) S' hq, fun q due H' S' hq => kb due q H' S' (by
      rw [if_neg (fun z => absurd z.1 (by decide +kernel)), if_neg (fun z => absurd z.1 (by decide +kernel))]
      exact hq)⟩⟩⟩⟩⟩
  · exact ⟨_, rfl, rfl, false, str_dec (by decide +kernel), iteF ⟨_, rfl, rfl, false, str_dec (by decide +kernel), iteF ⟨_, rfl, rfl, false, str_dec (by decide +kernel), iteF ⟨_, rfl, rfl, false, str_dec (by decide +kernel), iteF ⟨_, rfl, rfl, true, str_dec (by decide +kernel), iteT ⟨j, p, Tn, l, a, _, _, _, _, _, _, _, _, rfl, rfl, S, fun hn hl q H' S' hq => kg .non q (l + 1) 0 H' plain_non (.inr (.inl ⟨rfl, rfl, rfl⟩)) S' hq, fun hn q H' S' hq => kb .non q H' S' (by
      rw [if_neg (fun z => absurd z.1 (by decide +kernel)), if_neg (fun z => absurd z.1 (by decide +kernel))]
      exact hq), fun q b H' S' => kk _ _ _ _ _ _ _ _ _ H' S'⟩⟩⟩⟩⟩⟩
  · exact ⟨_, rfl, rfl, false, str_dec (by decide +kernel), iteF ⟨_, rfl, rfl, false, str_dec (by decide +kernel), iteF ⟨_, rfl, rfl, false, str_dec (by decide +kernel), iteF ⟨_, rfl, rfl, false, str_dec (by decide +kernel), iteF ⟨_, rfl, rfl, true, str_dec (by decide +kernel), iteT ⟨j, p, Tn, l, a, _, _, _, _, _, _, _, _, rfl, rfl, S, fun hn hl q H' S' hq => kg .non q (l + 1) 0 H' plain_non (.inr (.inl ⟨rfl, rfl, rfl⟩)) S' hq, fun hn q H' S' hq => kb .non q H' S' (by
      rw [if_neg (fun z => absurd z.1 (by decide +kernel)), if_neg (fun z => absurd z.1 (by decide +kernel))]
      exact hq), fun q b H' S' => kk _ _ _ _ _ _ _ _ _ H' S'⟩⟩⟩⟩⟩⟩
  · refine ⟨_, rfl, rfl, false, str_dec (by decide +kernel), iteF ⟨_, rfl, rfl, false, str_dec (by decide +kernel), iteF ⟨_, rfl, rfl, false, str_dec (by decide +kernel), iteF ⟨_, rfl, rfl, false, str_dec (by decide +kernel), iteF ⟨_, rfl, rfl, false, str_dec (by decide +kernel), iteF ⟨_, rfl, rfl, true, str_dec (by decide +kernel), iteT ⟨j, p, Tn, l, a, _, _, _, _, _, _, _, _, rfl, rfl, S, fun hn q H' S' hq => kg .non q p.ll.length 0 H' plain_non (.inr (.inr ⟨rfl, rfl, rfl⟩)) S' hq, fun q H' S' hq => kb .non q H' S' ?_⟩⟩⟩⟩⟩⟩⟩
    by_cases hn : aheadW p.ll l a = none
    · rw [if_pos ⟨rfl, hn⟩, if_pos ⟨rfl, hn⟩]
      rw [if_pos hn, if_pos hn] at hq
      exact hq
    · rw [if_neg (fun z => hn z.2), if_neg (fun z => hn z.2)]
      rw [if_neg hn, if_neg hn] at hq
      exact hq
  · exact ⟨_, rfl, rfl, false, str_dec (by decide +kernel), iteF ⟨_, rfl, rfl, false, str_dec (by decide +kernel), iteF ⟨_, rfl, rfl, false, str_dec (by decide +kernel), iteF ⟨_, rfl, rfl, false, str_dec (by decide +kernel), iteF ⟨_, rfl, rfl, false, str_dec (by decide +kernel), iteF ⟨_, rfl, rfl, false, str_dec (by decide +kernel), iteF ⟨j, p, Tn, l, a, _, _, _, _, _, _, _, _, _, rfl, rfl, S, fun q H' S' hq => kb .non q H' S' (by
      rw [if_neg (fun z => absurd z.1 (by decide +kernel)), if_neg (fun z => absurd z.1 (by decide +kernel))]
      exact hq)⟩⟩⟩⟩⟩⟩⟩
end
end K30

namespace K30
open PySem PySem.Spec PyProof.Rows L2 ExK LamX
section
variable {P : Program} {w : World} {K : PySem.W.Frag} {mg : Str → Option Value} {base : Heap} {c : Addr} {A : Around} {outer : List Env} {s : Shared} {H0 : Hp} {E : XK}
/-- the body of the lap -/
theorem lap_ps {Tb : Addr} (T : Txt P K mg) (TB : TabB base mg c Tb) (hr : Room 6 (LX P w K mg base c A outer s H0 E).A) : PSs (LX P w K mg base c A outer s H0 E) lapB (fun D σ H => ∃ j p Tn l a x8 x9 x10 x11 x12 x14 x15 x16 x19, p.Tb = Tb ∧ σ = lapσ j p l a x8 x9 x10 x11 x12 x14 x15 x16 x19 ∧
    Lap K H p Tn l a ∧ Tn ≤ 990000 ∧
    (∀ l' a' x8 x9 x10 x11 x12 x14 x15 x16 x19 H', Lap K H' p (Tn + 6) l' a' → D.nx (lapσ j p l' a' x8 x9 x10 x11 x12 x14 x15 x16 x19) H') ∧
    (∀ j' l' a' x8 x9 x10 x11 x12 x14 x15 x16 x19 H', Lap K H' p (Tn + 6) l' a' → D.ct (lapσ j' p l' a' x8 x9 x10 x11 x12 x14 x15 x16 x19) H') ∧
    (∀ x8 x9 x10 x11 x12 x14 x15 x16 x19 H', Trn H' p.pp p.c p.sm p.Tb p.ns (Tn + 6) → D.bk (lapσ j p l a x8 x9 x10 x11 x12 x14 x15 x16 x19) H')) := by
  refine PSs.imp (pss_cons (c1_ps T hr) (pss_cons (c2_ps T hr) (pss_cons (c3_ps T hr) (pss_cons (c4_ps T hr) (pss_cons (c5_ps T hr) (pss_cons (c6_ps T hr) (pss_cons (c7_ps T TB hr) (pss_cons (c8_ps T hr) (pss_cons (c9_ps T hr) (pss_one (c10_ps T hr))))))))))) fun D σ H h => ?_
  obtain ⟨j, p, Tn, l, a, x8, x9, x10, x11, x12, x14, x15, x16, x19, rfl, rfl, S, hT, kn, kc, kb⟩ := h
  refine ⟨j, p, Tn, l, a, x8, x9, x10, x11, x12, x14, x15, x16, x19, rfl, S, ?_⟩
  refine ⟨j, p, Tn, l, a, x9, x10, x11, x12, x14, x15, x16, x19, rfl, S, fun H2 S2 => ?_⟩
  refine ⟨j, p, Tn, l, a, _, x9, x10, x11, x12, x14, x15, x16, x19, rfl, S2, by omega, fun i way H3 hway S3 => ?_⟩
  refine ⟨j, p, Tn + 1, l, a, aheadW p.ll l a, _, x10, x11, x12, x14, x15, x16, x19, rfl, S3, by omega, fun b1 b2 wl ol H4 h1 h2 S4 => ?_⟩
  refine ⟨j, p, Tn + 1 + 4, l, a, _, _, x10, x11, x12, x14, x15, _, _, rfl, S4, by omega, fun lo hi H5 kp5 S5 => ?_⟩
  have n1 : b1 ≠ p.pp := fun z => (pen_no S4.pen _ (by rw [← z]; exact h1)).2 wl rfl
  have h15 := kp5 _ _ h1 n1
  have n2 : b2 ≠ p.pp := fun z => by
    obtain ⟨⟨_, _, e, _⟩, _⟩ := S4.pen
    rcases h2 with ⟨_, h⟩ | ⟨_, h⟩ | ⟨_, h⟩
    · rw [z, e] at h; cases h
    · rw [z, e] at h; cases h
    · rw [z, e] at h; cases h
  have h25 : Oth H5 b2 ol := by
    rcases h2 with ⟨e, h⟩ | ⟨e, h⟩ | ⟨e, h⟩
    · exact .inl ⟨e, kp5 _ _ h n2⟩
    · exact .inr (.inl ⟨e, kp5 _ _ h n2⟩)
    · exact .inr (.inr ⟨e, kp5 _ _ h n2⟩)
  refine ⟨j, p, l, a, _, _, x10, x11, x12, _, _, _, _, rfl, fun H6 sm6 => ?_⟩
  have S6 := S5.new sm6
  refine ⟨j, p, Tn + 1 + 4 + 1, l, a, way, lo, hi, b1, b2, wl, ol, x12, rfl, rfl, S6, List.mem_of_getElem? hway, sm6 _ _ h15, h25.sm sm6, fun v q l' a' H7 pv nw S7 hq => ?_, fun due q H7 S7 hq => ?_, fun x8 x9 x10 x11 x12 x14 x15 x16 x19 H7 S7 => kb _ _ _ _ _ _ _ _ _ H7 S7⟩
  · exact ⟨j, p, Tn + 1 + 4 + 1, l, a, way, true, _, q, _, _, _, _, rfl, fun _ => ⟨j, p, l, a, _, _, _, v, q, _, _, _, _, rfl, pv, hq, fun H8 sm8 =>
      ⟨j, p, Tn + 1 + 4 + 1, l, a, l', a', _, way, _, _, _, _, _, _, _, rfl, S7.new sm8, nw, fun H9 S9 => kn l' a' _ _ _ _ _ _ _ _ _ H9 S9⟩⟩, fun z => nomatch z⟩
  exact ⟨j, p, Tn + 1 + 4 + 1, l, a, way, false, _, q, _, _, _, _, rfl, (fun z => nomatch z), fun _ => ⟨S7, hq, fun j' a' H8 S8 => kc j' l a' _ _ _ _ _ _ _ _ _ H8 S8⟩⟩
end
end K30

namespace K30
open PySem PySem.Spec PyProof.Rows L2 ExK LamX
def trnσ (J : Nat → Option V) (sm pp : Addr) : L2.St := [J 0, some (.ref sm), J 2, J 3, J 4, J 5, J 6, J 7, J 8, J 9, J 10, J 11, J 12, J 13, J 14, J 15, J 16, some (.ref pp), J 18, J 19, J 20, J 21]
def jset (J : Nat → Option V) (i : Nat) (v : Option V) : Nat → Option V := fun k => if k = i then v else J k
theorem Trn.drewD {H H' : Hp} {D pp c sm Tb : Addr} {ns : List Int} {T T' : Nat} (S : Trn (del H D) pp c sm Tb ns T) (g : PenAt H' pp c ns T') (s : Kp pp H H') : Trn (del H' D) pp c sm Tb ns T' := S.drew (S.pen.del g) s.del
theorem Trn.ofDel {H : Hp} {D pp c sm Tb : Addr} {ns : List Int} {T : Nat} (S : Trn (del H D) pp c sm Tb ns T) : Trn H pp c sm Tb ns T := S.new (del_sm H D)
theorem del_comm (H : Hp) (D D2 : Addr) : del (del H D2) D = del (del H D) D2 := by
  funext b
  by_cases e : b = D
  · by_cases e2 : b = D2
    · rw [e, del_same, ← e, e2, del_same]
    · rw [del_ne e2, e, del_same, del_same]
  · by_cases e2 : b = D2
    · rw [del_ne e, e2, del_same, del_same]
    · rw [del_ne e, del_ne e2, del_ne e2, del_ne e]
theorem del_upd_ne {H : Hp} {D D2 : Addr} {o : HO} (h : D ≠ D2) : del (upd H D2 o) D = upd (del H D) D2 o := by
  funext b
  by_cases e : b = D
  · rw [e, del_same, upd_ne h, del_same]
  · by_cases e2 : b = D2
    · rw [del_ne e, e2, upd_same, upd_same]
    · rw [del_ne e, upd_ne e2, upd_ne e2, del_ne e]
theorem wl_len {ws : List Str} (h : ∀ s ∈ ws, s ∈ WL) : (ws.map (·.length)).sum ≤ 21 * ws.length := by
  induction ws with
  | nil => simp
  | cons a r ih =>
    have h1 := (piece_ok (h a List.mem_cons_self)).l
    have h2 := ih fun s hs => h s (List.mem_cons_of_mem _ hs)
    simp only [List.map_cons, List.sum_cons, List.length_cons]
    omega
theorem pen_strs {H : Hp} {pp c D : Addr} {ns : List Int} {T : Nat} (S : PenAt H pp c ns T) {ws : List Str} (h : H D = some (.lst (ws.map V.str))) : D ≠ pp :=
  fun z => (pen_no S _ (by rw [← z]; exact h)).2 ws rfl
section
variable {P : Program} {w : World} {K : PySem.W.Frag} {mg : Str → Option Value} {base : Heap} {c : Addr} {A : Around} {outer : List Env} {s : Shared} {H0 : Hp} {E : XK}
/-- lines = .. -/
theorem b1_ps (T : Txt P K mg) (hr : Room 6 (LX P w K mg base c A outer s H0 E).A) : PS (LX P w K mg base c A outer s H0 E) (turnB.getD 0 noSt) (fun D σ H => ∃ J sm pp pc Tb ns Tn, σ = trnσ J sm pp ∧ Trn H pp pc sm Tb ns Tn ∧ Tn ≤ 900000 ∧
    ∀ (b : Addr) (ls : List Str) H', Trn H' pp pc sm Tb ns (Tn + 30) → H' b = some (.lst (ls.map V.str)) → ls ≠ [] → ls.length ≤ 4 → (∀ s ∈ ls, LineOk s) → D.nx (trnσ (jset J 5 (some (.ref b))) sm pp) H') := by
  obtain ⟨fd1, G_law_pick, b_law_pick, k_law_pick⟩ := ok_law_pick (w := w) (base := base) T
  obtain ⟨fd2, G_law_draw, b_law_draw, k_law_draw⟩ := ok_law_draw (w := w) (base := base) T
  refine PS.imp (ps_setLc (i := 5) (te := tM1 (fun x xs H Q => ∃ a p, ∃ ys : List Str, x = .str a ∧ xs = [.ref p] ∧ (SqL K H p (ys.map V.str) ∨ SqT K H p (ys.map V.str)) ∧ (ys.map (·.length)).sum + ys.length * a.length ≤ 16777216 ∧ Q (.str (PySem.Txt.join a ys)) H) (tC (.str " ")) _) (own := [("at", 3)]) rfl sc_law.nd rfl rfl (sw_true rfl rfl rfl (by decide +kernel)) (pi_range1 rfl T.n_range (pa_cons (pe_op op_add pe_int (pe_call G_law_draw (hr.mono (by decide)) rfl T.g_law_draw k_law_draw b_law_draw .nil pass0 (pa_cons (pv 17) (pa_cons pe_int pa_nil)))) pa_nil)) (blkOk_by (own := [("at", 3)]) (N := ["script", "some", "turn", "at", "lap", "lines", "line", "parted", "word", "way", "is_let", "due", "heard", "spot", "least", "most", "others", "pen", "scan", "words", "one", "row"]) (sc := (defScope s_law)) (by decide +kernel)) (fun _ _ _ _ _ => (pg_name (i := 3) sc_law.nd rfl (Or.inl rfl))) (fun _ _ _ _ _ => pts_nil) (fun _ _ _ _ _ => (pe_join pe_str (pe_lc (own := [("lap", 4)]) rfl sc_law.nd (pi_range1 rfl T.n_range (pa_cons (pe_call G_law_draw (hr.mono (by decide)) rfl T.g_law_draw k_law_draw b_law_draw .nil pass0 (pa_cons (pv 17) (pa_cons pe_int pa_nil))) pa_nil)) (blkOk_by (own := [("lap", 4)]) (N := ["script", "some", "turn", "at", "lap", "lines", "line", "parted", "word", "way", "is_let", "due", "heard", "spot", "least", "most", "others", "pen", "scan", "words", "one", "row"]) (sc := ({ kind := .function, names := [(PySem.Str.ofString ".0", PySem.NameKind.local), (PySem.Str.ofString "at", PySem.NameKind.local), (PySem.Str.ofString "range", PySem.NameKind.globalImplicit), (PySem.Str.ofString "_law_draw", PySem.NameKind.globalImplicit), (PySem.Str.ofString "pen", PySem.NameKind.cell), (PySem.Str.ofString "some", PySem.NameKind.cell)], isGenerator := false, isCoroutine := false, more := [] } : PySem.Scope)) (by decide +kernel)) (fun _ _ _ _ _ => (pg_name (i := 4) sc_law.nd rfl (Or.inl rfl))) (fun _ _ _ _ _ => pts_nil) (fun _ _ _ _ _ => (pe_call G_law_pick (hr.mono (by decide)) rfl T.g_law_pick k_law_pick b_law_pick .nil pass0 (pa_cons (pv 17) (pa_cons (pv 1) pa_nil)))))))) fun DD σ H h => ?_
  obtain ⟨J, sm, pp, pc, Tb, ns, Tn, rfl, S, hT, k⟩ := h
  refine ⟨_, rfl, pp, pc, ns, Tn, 4, rfl, S.pen, by decide, by decide, by omega, fun i0 H1 h0 h1 g1 kp1 => ?_⟩
  have S1 := S.drew g1 kp1
  refine ⟨_, _, rfl, rfl, 1 + i0, rfl, by omega, by omega, fun D nD => ?_⟩
  refine lc_range (lo := 0) (n := (1 + i0).toNat) (fun i H' => ∃ ls : List Str, ls.length = i ∧ H' D = some (.lst (ls.map V.str)) ∧ (∀ s ∈ ls, LineOk s) ∧ Trn (del H' D) pp pc sm Tb ns (Tn + 1 + 6 * i)) ⟨[], rfl, upd_same, (fun s hs => nomatch hs), (by rw [del_upd, del_none nD]; exact S1)⟩ (fun i H' hi e => ?_) (fun H' e => ?_)
  · obtain ⟨ls, hl, hD, hok, Sd⟩ := e
    have S' := Sd.ofDel
    refine ⟨rfl, ?_⟩
    refine ⟨⟨_, rfl⟩, _, rfl, pp, pc, ns, Tn + 1 + 6 * i, 5, rfl, S'.pen, by decide, by decide, by omega, fun k2 H2 k20 k21 g2 kp2 => ?_⟩
    have Sd2 := Sd.drewD g2 kp2
    have hD2 := kp2 _ _ hD (pen_strs S'.pen hD)
    refine ⟨k2, rfl, by omega, by omega, fun D2 nD2 => ?_⟩
    have hDD : D ≠ D2 := ne_of_none hD2 nD2
    refine lc_range (lo := 0) (n := k2.toNat) (fun i2 H' => ∃ ws : List Str, ws.length = i2 ∧ H' D2 = some (.lst (ws.map V.str)) ∧ (∀ s ∈ ws, s ∈ WL) ∧ H' D = some (.lst (ls.map V.str)) ∧ Trn (del (del H' D2) D) pp pc sm Tb ns (Tn + 1 + 6 * i + 1 + i2))
      ⟨[], rfl, upd_same, (fun s hs => nomatch hs), (by rw [upd_ne hDD]; exact hD2), (by rw [del_upd, del_none nD2]; exact Sd2)⟩ (fun i2 H3 hi2 e => ?_) (fun H3 e => ?_)
    · obtain ⟨ws, hw, hE, hwl, hD3, Sdd⟩ := e
      have Sd3 := Sdd.ofDel
      have S3 := Sd3.ofDel
      refine ⟨rfl, ?_⟩
      refine ⟨_, rfl, _, rfl, pp, pc, sm, ns, Tn + 1 + 6 * i + 1 + i2, _, rfl, S3.pen, ?_, .inl (SqL.of S3.smw), by decide, by decide, by omega, fun m x H4 hx g kp => ?_⟩
      · exact pen_strs S3.pen (ws := WL) S3.smw
      · obtain ⟨y, hy, rfl⟩ : ∃ y, y ∈ WL ∧ x = V.str y := by
          rw [List.getElem?_map] at hx
          cases e : WL[m]? with
          | none => rw [e] at hx; cases hx
          | some y => rw [e] at hx; exact ⟨y, List.mem_of_getElem? e, (Option.some.inj hx).symm⟩
        have hE4 := kp _ _ hE (pen_strs S3.pen hE)
        have hD4 := kp _ _ hD3 (pen_strs S3.pen hD3)
        refine ⟨ws.map V.str, hE4, small1000 (by rw [List.length_map, hw]; omega), ws ++ [y], by rw [List.length_append, hw]; rfl, by rw [upd_same, List.map_append]; rfl, fun s hs => ?_, by rw [upd_ne hDD]; exact hD4, ?_⟩
        · rcases List.mem_append.mp hs with h | h
          · exact hwl s h
          · rw [List.mem_singleton.mp h]; exact hy
        · rw [del_upd]
          exact Sdd.drewD (Sd3.pen.del g) kp.del
    · obtain ⟨ws, hw, hE, hwl, hD3, Sdd⟩ := e
      have hw4 : ws.length ≤ 4 := by omega
      have hsz := wl_len hwl
      refine ⟨" ", D2, ws, rfl, rfl, .inl (SqL.of hE), ?_, ls.map V.str, hD3, small1000 (by rw [List.length_map, hl]; omega), ls ++ [Txt.join spS ws], by rw [List.length_append, hl]; rfl, by rw [upd_same, List.map_append]; rfl, fun s hs => ?_, ?_⟩
      · have : ws.length * ((" " : Str).length) ≤ 4 * 1 := Nat.mul_le_mul hw4 (by decide +kernel)
        omega
      · rcases List.mem_append.mp hs with h | h
        · exact hok s h
        · rw [List.mem_singleton.mp h]
          exact line_ok hwl hw4
      · rw [del_upd]
        rw [del_comm] at Sdd
        exact Sdd.ofDel.mono (by omega)
  · obtain ⟨ls, hl, hD, hok, Sd⟩ := e
    have hn : (1 + i0).toNat ≤ 4 ∧ 1 ≤ (1 + i0).toNat := by omega
    refine k D ls H' (Sd.ofDel.mono (by omega)) hD (fun z => ?_) (by omega) hok
    rw [z] at hl
    simp at hl
    omega
end
end K30

namespace K30
open PySem PySem.Spec PyProof.Rows L2 ExK LamX
theorem Trn.kpI {H H' : Hp} {q pp c sm Tb : Addr} {ns : List Int} {T : Nat} (S : Trn H pp c sm Tb ns T) (s : Kp q H H') (n1 : ∀ xs : List V, H q ≠ some (.lst xs)) (n2 : ∀ ps, H q ≠ some (.tbl ps)) (n3 : ∀ f, H q ≠ some (HO.ext f)) : Trn H' pp c sm Tb ns T := by
  have nl : ∀ b xs, H b = some (.lst xs) → b ≠ q := fun b xs e z => n1 xs (by rw [← z]; exact e)
  obtain ⟨⟨t, r, e, h1⟩, hc, nn⟩ := S.pen
  exact ⟨⟨⟨t, r, s _ _ e (nl _ _ e), h1⟩, s _ _ hc (nl _ _ hc), nn⟩, s _ _ S.smw (nl _ _ S.smw), Tabs.kp S.tabs s n2 n3⟩
def llD (ll : List (List Str)) : List PyData := ll.map fun ws => .list (ws.map PyData.str)
theorem dp_rows {K : PySem.W.Frag} {H : Hp} : ∀ {rs : List Addr} {ll : List (List Str)}, rs.length = ll.length → (∀ (i : Nat) (r : Addr) (ws : List Str), rs[i]? = some r → ll[i]? = some ws → H r = some (.lst (ws.map V.str))) → DpAll K H (rs.map V.ref) (llD ll)
  | [], [], _, _ => .nil
  | r :: rs, ws :: ll, hl, h => .cons (.lst (SqL.of (h 0 r ws rfl rfl)) (dp_strs ws)) (dp_rows (by simpa using hl) fun i r' ws' h1 h2 => h (i + 1) r' ws' h1 h2)
theorem Lay.dp {K : PySem.W.Frag} {H : Hp} {L : Addr} {ll : List (List Str)} (h : Lay H L ll) : Dp K H (.ref L) (.list (llD ll)) := by
  obtain ⟨rs, e1, e2, e3⟩ := h.ex
  exact .lst (SqL.of e1) (dp_rows e2 e3)
theorem asc_ok {s : Str} (h : asc s) : PyData.strOk s = true := by
  unfold PyData.strOk
  rw [← Array.all_toList]
  exact List.all_eq_true.mpr fun c hc => decide_eq_true (Nat.lt_of_lt_of_le (h.2 c hc) (by decide))
theorem canLay_rows : ∀ ll : List (List Str), (∀ ws ∈ ll, ∀ s ∈ ws, PyData.strOk s = true) → PyData.canLayAll0 (llD ll) = true
  | [], _ => by simp [PyData.canLayAll0, llD]
  | ws :: ll, h => by
    have h1 := canLay_strs ws (h ws List.mem_cons_self)
    have h2 := canLay_rows ll fun ws' hw => h ws' (List.mem_cons_of_mem _ hw)
    unfold llD at h2 ⊢
    simp only [List.map_cons, PyData.canLayAll0, PyData.canLay0, Bool.and_eq_true]
    exact ⟨h1, h2⟩
theorem depth_rows : ∀ ll : List (List Str), PyData.depthAll (llD ll) ≤ 2
  | [] => by simp [PyData.depthAll, llD]
  | ws :: ll => by
    have h1 := depth_strs ws
    have h2 := depth_rows ll
    unfold llD at h2 ⊢
    simp only [List.map_cons, PyData.depthAll, PyData.depth]
    omega
theorem shaped_rows {ll : List (List Str)} (h : Sz ll) : SeqAt.shaped (.list (llD ll)) = true := by
  have h1 := canLay_rows ll fun ws hw s hs => asc_ok ((h.w ws hw).2 s hs).a
  have h2 := depth_rows ll
  unfold SeqAt.shaped
  rw [Bool.and_eq_true]
  exact ⟨by simpa [PyData.canLay0] using h1, decide_eq_true (by simp only [PyData.depth]; omega)⟩
theorem refs_strs {rs : List Addr} {ws : List Str} {j : Nat} {r : Addr} (h : rs[j]? = some r) (e3 : rs.map V.ref = ws.map V.str) : False := by
  have e4 := congrArg (fun l => l[j]?) e3
  simp only [List.getElem?_map, h, Option.map_some] at e4
  cases e5 : ws[j]? with
  | none => rw [e5] at e4; cases e4
  | some y => rw [e5] at e4; cases e4
section
variable {P : Program} {w : World} {K : PySem.W.Frag} {mg : Str → Option Value} {base : Heap} {c : Addr} {A : Around} {outer : List Env} {s : Shared} {H0 : Hp} {E : XK}
/-- scan, line, at = .. -/
theorem b2_ps (T : Txt P K mg) (hr : Room 6 (LX P w K mg base c A outer s H0 E).A) : PS (LX P w K mg base c A outer s H0 E) (turnB.getD 1 noSt) (fun D σ H => ∃ J sm pp pc Tb ns Tn, ∃ b : Addr, ∃ ls : List Str, σ = trnσ J sm pp ∧ J 5 = some (.ref b) ∧ Trn H pp pc sm Tb ns Tn ∧ H b = some (.lst (ls.map V.str)) ∧ ls ≠ [] ∧ ls.length ≤ 4 ∧ (∀ s ∈ ls, LineOk s) ∧
    ∀ (sp dx L : Addr) H', Trn H' pp pc sm Tb ns Tn → H' b = some (.lst (ls.map V.str)) → H' sp = some (scO K dx L 0 0) → Lay H' L (ls.map fun l => Txt.split l spS) → D.nx (trnσ (jset (jset (jset J 18 (some (.ref sp))) 6 (some (.int 0))) 3 (some (.int 0))) sm pp) H') := by
  obtain ⟨fd1, G_Scan, b_Scan⟩ := ok_Scan_init (w := w) (base := base) T
  refine PS.imp (ps_asg (pe_tup (pa_cons (pe_make T.mk_Scan G_Scan (hr.mono (by decide)) rfl T.g_Scan b_Scan .nil (passes_call (E := fun _ _ _ => False) LamX.takes0 fun _ _ _ _ h => h) (pa_cons (pe_join pe_str (pv 5)) pa_nil)) (pa_cons pe_int (pa_cons pe_int pa_nil)))) (pg_tup rfl (pgs_cons (pg_name (i := 18) sc_law.nd rfl (Or.inr rfl)) (pgs_cons (pg_name (i := 6) sc_law.nd rfl (Or.inl rfl)) (pgs_cons (pg_name (i := 3) sc_law.nd rfl (Or.inl rfl)) pgs_nil))))) fun DD σ H h => ?_
  obtain ⟨J, sm, pp, pc, Tb, ns, Tn, b, ls, rfl, h5, S, hb, hne, hl, hok, k⟩ := h
  have hsum : (ls.map (·.length)).sum ≤ 100 * ls.length := by
    clear hb hne hl h5 k
    induction ls with
    | nil => simp
    | cons a r ih =>
      have h1 := (hok a List.mem_cons_self).len
      have h2 := ih fun s hs => hok s (List.mem_cons_of_mem _ hs)
      simp only [List.map_cons, List.sum_cons, List.length_cons]
      omega
  refine ⟨⟨_, rfl⟩, _, congrArg some h5, "\n", b, ls, rfl, rfl, .inl (SqL.of hb), ?_, fun x dx nx ndx hdx => ?_⟩
  · have : ls.length * (("\n" : Str).length) ≤ 4 * 1 := Nat.mul_le_mul hl (by decide +kernel)
    omega
  · have sm1 : Sm H (upd (upd H dx (.own x)) x (.ins (He.ga K "Scan") dx [])) := (Sm.new ndx).trans (Sm.new (by rw [upd_ne hdx.symm]; exact nx))
    have S1 := S.new sm1
    refine ⟨x, dx, _, rfl, upd_same, .inl ⟨_, ls, rfl, Nat.le_trans (lines_len hok hl) (by decide), lines_split hne hok, by omega, fun l hl' => Nat.le_trans (hok l hl').len (by decide), fun H2 L lay h2 kp => ⟨rfl, (show 3 ≤ sizeLine by decide), fun t nt => ?_⟩⟩⟩
    have S2 := S1.kpI kp (fun xs q => by rw [upd_same] at q; cases q) (fun ps q => by rw [upd_same] at q; cases q) (fun f q => by rw [upd_same] at q; cases q)
    have hb2 : H2 b = some (.lst (ls.map V.str)) := kp _ _ (sm1 _ _ hb) (ne_of_none hb nx)
    have sm3 := Sm.new (o := .tup [.ref x, .int 0, .int 0]) nt
    exact ⟨t, _, rfl, .inl (.inl upd_same), rfl, _, _, rfl, _, _, rfl, _, _, rfl, rfl, k x dx L _ (S2.new sm3) (sm3 _ _ hb2) (sm3 _ _ h2) (lay.sm sm3)⟩
/-- parted = .. -/
theorem b3_ps (T : Txt P K mg) (hr : Room 6 (LX P w K mg base c A outer s H0 E).A) : PS (LX P w K mg base c A outer s H0 E) (turnB.getD 2 noSt) (fun D σ H => ∃ J sm pp, ∃ b : Addr, ∃ ls : List Str, σ = trnσ J sm pp ∧ J 5 = some (.ref b) ∧ H b = some (.lst (ls.map V.str)) ∧ ls.length ≤ 4 ∧ (∀ s ∈ ls, LineOk s) ∧
    ∀ (pt : Addr) H', Sm H H' → Lay H' pt (ls.map fun l => Txt.split l spS) → D.nx (trnσ (jset J 7 (some (.ref pt))) sm pp) H') := by
  refine PS.imp (ps_setLc (i := 7) (own := [("one", 20)]) rfl sc_law.nd rfl rfl (sw_true rfl rfl rfl (by decide +kernel)) (pi_list (pv 5)) (blkOk_by (own := [("one", 20)]) (N := ["script", "some", "turn", "at", "lap", "lines", "line", "parted", "word", "way", "is_let", "due", "heard", "spot", "least", "most", "others", "pen", "scan", "words", "one", "row"]) (sc := (defScope s_law)) (by decide +kernel)) (fun _ _ _ _ _ => (pg_name (i := 20) sc_law.nd rfl (Or.inl rfl))) (fun _ _ _ _ _ => pts_nil) (fun _ _ _ _ _ => (pe_split (pv 20) pe_str))) fun DD σ H h => ?_
  obtain ⟨J, sm, pp, b, ls, rfl, h5, hb, hl, hok, k⟩ := h
  refine ⟨_, congrArg some h5, b, rfl, ⟨_, SqL.of hb⟩, fun D nD => ?_⟩
  have hqD : b ≠ D := ne_of_none hb nD
  refine lc_list (K := K) (a := b) (xs := ls.map V.str) (fun i H' => ∃ rs : List Addr, rs.length = i ∧ H' D = some (.lst (rs.map V.ref)) ∧ Sm H H' ∧
    ∀ (j : Nat) (r : Addr) (z : Str), rs[j]? = some r → ls[j]? = some z → H' r = some (.lst ((Txt.split z spS).map V.str))) ⟨[], rfl, upd_same, Sm.new nD, fun j r z h _ => nomatch h⟩ (fun i H' _ e => ?_) (fun i x H' hx e => ?_) (fun H' e => ?_)
  · obtain ⟨rs, _, _, sm, _⟩ := e
    exact SqL.of (sm _ _ hb)
  · obtain ⟨rs, hri, hD, sm, hr'⟩ := e
    obtain ⟨z, hz, rfl⟩ : ∃ z, ls[i]? = some z ∧ x = V.str z := by
      rw [List.getElem?_map] at hx
      cases e : ls[i]? with
      | none => rw [e] at hx; cases hx
      | some z => rw [e] at hx; exact ⟨z, rfl, (Option.some.inj hx).symm⟩
    have hi : i < ls.length := (List.getElem?_eq_some_iff.mp hz).1
    refine ⟨rfl, ?_⟩
    refine ⟨_, rfl, ⟨_, rfl⟩, _, _, rfl, rfl, (by decide : (spS.length == 0) = false), Nat.le_trans (Nat.add_le_add_right (hok z (List.mem_of_getElem? hz)).len 2) (by decide), fun r nr => ?_⟩
    have hDr : D ≠ r := ne_of_none hD nr
    refine ⟨rs.map V.ref, by rw [upd_ne hDr]; exact hD, small1000 (by rw [List.length_map, hri]; omega), rs ++ [r], by rw [List.length_append, hri]; rfl, by rw [upd_same, List.map_append]; rfl, ?_, fun j r' z' hj hz' => ?_⟩
    · intro b' o hb'
      have hbD : b' ≠ D := fun e => by rw [e, nD] at hb'; cases hb'
      rw [upd_ne hbD, upd_ne (ne_of_none (sm b' o hb') nr)]
      exact sm b' o hb'
    · by_cases hji : j < i
      · have e1 : rs[j]? = some r' := by rw [List.getElem?_append_left (by omega)] at hj; exact hj
        have e2 := hr' j r' z' e1 hz'
        have nrD : r' ≠ D := fun q => by
          rw [q, hD] at e2
          exact refs_strs e1 (HO.lst.inj (Option.some.inj e2))
        rw [upd_ne nrD, upd_ne (ne_of_none e2 nr)]
        exact e2
      · have hjl : j < (rs ++ [r]).length := (List.getElem?_eq_some_iff.mp hj).1
        have e0 : j = i := by rw [List.length_append, hri] at hjl; simp at hjl; omega
        subst e0
        rw [← hri, List.getElem?_append_right (Nat.le_refl _), Nat.sub_self] at hj
        obtain rfl : r = r' := Option.some.inj hj
        obtain rfl : z = z' := Option.some.inj (hz.symm.trans hz')
        rw [upd_ne hDr.symm, upd_same]
        rfl
  · obtain ⟨rs, hri, hD, sm, hr'⟩ := e
    refine k D H' sm ⟨rs, hD, by rw [hri, List.length_map, List.length_map], fun j r ws hj hw => ?_⟩
    rw [List.getElem?_map] at hw
    cases hz : ls[j]? with
    | none => rw [hz] at hw; cases hw
    | some z =>
      rw [hz] at hw
      obtain rfl : Txt.split z spS = ws := Option.some.inj hw
      exact hr' j r z hj hz
end
end K30

namespace K30
open PySem PySem.Spec PyProof.Rows L2 ExK LamX
section
variable {P : Program} {w : World} {K : PySem.W.Frag} {mg : Str → Option Value} {base : Heap} {c : Addr} {A : Around} {outer : List Env} {s : Shared} {H0 : Hp} {E : XK}
/-- if [list(row) for row in scan.lines] != parted -/
theorem b4_ps (T : Txt P K mg) (hr : Room 6 (LX P w K mg base c A outer s H0 E).A) : PS (LX P w K mg base c A outer s H0 E) (turnB.getD 3 noSt) (fun D σ H => ∃ J sm pp, ∃ sp dx L pt : Addr, ∃ ll : List (List Str), σ = trnσ J sm pp ∧ J 18 = some (.ref sp) ∧ J 7 = some (.ref pt) ∧ H sp = some (scO K dx L 0 0) ∧ Lay H L ll ∧ Lay H pt ll ∧ Sz ll ∧
    ∀ H', Sm H H' → D.nx (trnσ J sm pp) H') := by
  refine PS.imp (ps_if (pt_cmpR (op_neD hr.units) (pe_lc (te := tCB (fun xs H Q => ∃ p ys, xs = [.ref p] ∧ (SqL K H p ys ∨ SqT K H p ys) ∧ ∀ l, H l = none → Q (.ref l) (upd H l (.lst ys))) (tCons (tVar 21) tNil)) (own := [("row", 21)]) rfl sc_law.nd (pi_list (pe_fld (pv 18) rfl)) (blkOk_by (own := [("row", 21)]) (N := ["script", "some", "turn", "at", "lap", "lines", "line", "parted", "word", "way", "is_let", "due", "heard", "spot", "least", "most", "others", "pen", "scan", "words", "one", "row"]) (sc := (defScope s_law)) (by decide +kernel)) (fun _ _ _ _ _ => (pg_name (i := 21) sc_law.nd rfl (Or.inl rfl))) (fun _ _ _ _ _ => pts_nil) (fun _ _ _ _ _ => (pe_callTy call_list_of (by rfl) T.n_list (by decide +kernel) (pa_cons (pv 21) pa_nil)))) (pv 7) (nomark _)) (pss_one (ps_ret pe_bl)) pss_nil) fun DD σ H h => ?_
  obtain ⟨J, sm, pp, sp, dx, L, pt, ll, rfl, h18, h7, hsp, hL, hpt, sz, k⟩ := h
  obtain ⟨rs, e1, e2, e3⟩ := id hL.ex
  refine ⟨_, congrArg some h18, sp, _, dx, _, _, rfl, hsp, T.cl_Scan, T.na_Scan_lines, rfl, L, rfl, ⟨_, SqL.of e1⟩, fun D nD => ?_⟩
  refine lc_list (K := K) (a := L) (xs := rs.map V.ref) (fun i H' => ∃ cs : List Addr, cs.length = i ∧ H' D = some (.lst (cs.map V.ref)) ∧ Sm H H' ∧
    ∀ (j : Nat) (r : Addr) (ws : List Str), cs[j]? = some r → ll[j]? = some ws → H' r = some (.lst (ws.map V.str))) ⟨[], rfl, upd_same, Sm.new nD, fun j r z h _ => nomatch h⟩ (fun i H' _ e => ?_) (fun i x H' hx e => ?_) (fun H' e => ?_)
  · obtain ⟨cs, _, _, sm, _⟩ := e
    exact SqL.of (sm _ _ e1)
  · obtain ⟨cs, hri, hD, sm, hr'⟩ := e
    obtain ⟨r0, hr0, rfl⟩ : ∃ r0, rs[i]? = some r0 ∧ x = V.ref r0 := by
      rw [List.getElem?_map] at hx
      cases e : rs[i]? with
      | none => rw [e] at hx; cases hx
      | some z => rw [e] at hx; exact ⟨z, rfl, (Option.some.inj hx).symm⟩
    have hi : i < rs.length := (List.getElem?_eq_some_iff.mp hr0).1
    have hws : ll[i]? = some ll[i] := List.getElem?_eq_getElem (by omega)
    have h0 := e3 i r0 _ hr0 hws
    refine ⟨rfl, ?_⟩
    refine ⟨_, rfl, r0, _, rfl, .inl (SqL.of (sm _ _ h0)), fun r nr => ?_⟩
    have hDr : D ≠ r := ne_of_none hD nr
    have := sz.n
    refine ⟨cs.map V.ref, by rw [upd_ne hDr]; exact hD, small1000 (by rw [List.length_map, hri]; omega), cs ++ [r], by rw [List.length_append, hri]; rfl, by rw [upd_same, List.map_append]; rfl, ?_, fun j r' ws' hj hz' => ?_⟩
    · intro b' o hb'
      have hbD : b' ≠ D := fun e => by rw [e, nD] at hb'; cases hb'
      rw [upd_ne hbD, upd_ne (ne_of_none (sm b' o hb') nr)]
      exact sm b' o hb'
    · by_cases hji : j < i
      · have e1' : cs[j]? = some r' := by rw [List.getElem?_append_left (by omega)] at hj; exact hj
        have e2' := hr' j r' ws' e1' hz'
        have nrD : r' ≠ D := fun q => by
          rw [q, hD] at e2'
          exact refs_strs e1' (HO.lst.inj (Option.some.inj e2'))
        rw [upd_ne nrD, upd_ne (ne_of_none e2' nr)]
        exact e2'
      · have hjl : j < (cs ++ [r]).length := (List.getElem?_eq_some_iff.mp hj).1
        have e0 : j = i := by rw [List.length_append, hri] at hjl; simp at hjl; omega
        subst e0
        rw [← hri, List.getElem?_append_right (Nat.le_refl _), Nat.sub_self] at hj
        obtain rfl : r = r' := Option.some.inj hj
        rw [hws] at hz'
        rw [upd_ne hDr.symm, upd_same, ← Option.some.inj hz']
  · obtain ⟨cs, hri, hD, sm, hr'⟩ := e
    have lay : Lay H' D ll := ⟨cs, hD, by rw [hri, List.length_map, e2], hr'⟩
    refine ⟨_, congrArg some h7, _, _, lay.dp, (hpt.sm sm).dp, shaped_rows sz, shaped_rows sz, false, by rw [eqv_self (shaped_rows sz)]; rfl, iteF (k H' sm)⟩
def lapT (K : PySem.W.Frag) (Tb : Addr) : TS := fun D σ H => ∃ j p Tn l a x8 x9 x10 x11 x12 x14 x15 x16 x19, p.Tb = Tb ∧ σ = lapσ j p l a x8 x9 x10 x11 x12 x14 x15 x16 x19 ∧
    Lap K H p Tn l a ∧ Tn ≤ 990000 ∧
    (∀ l' a' x8 x9 x10 x11 x12 x14 x15 x16 x19 H', Lap K H' p (Tn + 6) l' a' → D.nx (lapσ j p l' a' x8 x9 x10 x11 x12 x14 x15 x16 x19) H') ∧
    (∀ j' l' a' x8 x9 x10 x11 x12 x14 x15 x16 x19 H', Lap K H' p (Tn + 6) l' a' → D.ct (lapσ j' p l' a' x8 x9 x10 x11 x12 x14 x15 x16 x19) H') ∧
    (∀ x8 x9 x10 x11 x12 x14 x15 x16 x19 H', Trn H' p.pp p.c p.sm p.Tb p.ns (Tn + 6) → D.bk (lapσ j p l a x8 x9 x10 x11 x12 x14 x15 x16 x19) H')
theorem lap_ps2 {Tb : Addr} (T : Txt P K mg) (TB : TabB base mg c Tb) (hr : Room 6 (LX P w K mg base c A outer s H0 E).A) : PSs (LX P w K mg base c A outer s H0 E) lapB (lapT K Tb) := lap_ps T TB hr
/-- the laps -/
theorem b5_ps {Tb : Addr} (T : Txt P K mg) (TB : TabB base mg c Tb) (hr : Room 6 (LX P w K mg base c A outer s H0 E).A) : PS (LX P w K mg base c A outer s H0 E) (turnB.getD 4 noSt) (fun D σ H => ∃ J p Tn, p.Tb = Tb ∧ σ = trnσ J p.sm p.pp ∧ J 18 = some (.ref p.sp) ∧ J 7 = some (.ref p.pt) ∧ J 6 = some (.int 0) ∧ J 3 = some (.int 0) ∧ Lap K H p Tn 0 0 ∧ Tn ≤ 900000 ∧
    ∀ J' H', Trn H' p.pp p.c p.sm p.Tb p.ns (Tn + 180) → D.nx (trnσ J' p.sm p.pp) H') := by
  refine PS.imp (ps_for PassesOwn.never rfl (pi_range1 rfl T.n_range (pa_cons pe_int pa_nil)) (pg_name (i := 4) sc_law.nd rfl (Or.inl rfl)) (lap_ps2 T TB hr)) fun DD σ H h => ?_
  obtain ⟨J, p, Tn, rfl, rfl, h18, h7, h6, h3, S, hT, k⟩ := h
  have e : trnσ J p.sm p.pp = lapσ ⟨J 0, J 2, J 4, J 5, J 13, J 20, J 21⟩ p 0 0 (J 8) (J 9) (J 10) (J 11) (J 12) (J 14) (J 15) (J 16) (J 19) := by
    unfold trnσ lapσ
    rw [h18, h7, h6, h3]
    rfl
  refine ⟨30, rfl, by decide, by decide, ?_⟩
  refine for_range (lo := 0) (n := 30) (D := DD) (fun i σ H => ∃ j l a x8 x9 x10 x11 x12 x14 x15 x16 x19, σ = lapσ j p l a x8 x9 x10 x11 x12 x14 x15 x16 x19 ∧ Lap K H p (Tn + 6 * i) l a) ⟨_, 0, 0, _, _, _, _, _, _, _, _, _, e, S⟩ (fun i σ H hi q => ?_) fun σ H q => ?_
  · obtain ⟨j, l, a, x8, x9, x10, x11, x12, x14, x15, x16, x19, rfl, S'⟩ := q
    refine ⟨{ j with x4 := some (.int (0 + (i : Int))) }, p, Tn + 6 * i, l, a, x8, x9, x10, x11, x12, x14, x15, x16, x19, rfl, rfl, S', by omega, fun l' a' x8 x9 x10 x11 x12 x14 x15 x16 x19 H' S2 => ?_, fun j' l' a' x8 x9 x10 x11 x12 x14 x15 x16 x19 H' S2 => ?_, fun x8 x9 x10 x11 x12 x14 x15 x16 x19 H' S2 => ?_⟩
    · exact ⟨_, l', a', x8, x9, x10, x11, x12, x14, x15, x16, x19, rfl, S2.mono (by omega)⟩
    · exact ⟨_, l', a', x8, x9, x10, x11, x12, x14, x15, x16, x19, rfl, S2.mono (by omega)⟩
    · exact k (fun n => ((lapσ { j with x4 := some (.int (0 + (i : Int))) } p l a x8 x9 x10 x11 x12 x14 x15 x16 x19)[n]?).getD none) H' (S2.mono (by omega))
  · obtain ⟨j, l, a, x8, x9, x10, x11, x12, x14, x15, x16, x19, rfl, S'⟩ := q
    exact k (fun n => ((lapσ j p l a x8 x9 x10 x11 x12 x14 x15 x16 x19)[n]?).getD none) H (S'.mono (by omega)).trn
/-- the body of a turn -/
theorem turn_ps {Tb : Addr} (T : Txt P K mg) (TB : TabB base mg c Tb) (hr : Room 6 (LX P w K mg base c A outer s H0 E).A) : PSs (LX P w K mg base c A outer s H0 E) turnB (fun D σ H => ∃ J sm pp pc ns Tn, σ = trnσ J sm pp ∧ Trn H pp pc sm Tb ns Tn ∧ Tn ≤ 800000 ∧
    ∀ J' H', Trn H' pp pc sm Tb ns (Tn + 210) → D.nx (trnσ J' sm pp) H') := by
  refine PSs.imp (pss_cons (b1_ps T hr) (pss_cons (b2_ps T hr) (pss_cons (b3_ps T hr) (pss_cons (b4_ps T hr) (pss_one (b5_ps T TB hr)))))) fun D σ H h => ?_
  obtain ⟨J, sm, pp, pc, ns, Tn, rfl, S, hT, k⟩ := h
  refine ⟨J, sm, pp, pc, Tb, ns, Tn, rfl, S, by omega, fun b ls H1 S1 hb hne hl hok => ?_⟩
  refine ⟨_, sm, pp, pc, Tb, ns, Tn + 30, b, ls, rfl, rfl, S1, hb, hne, hl, hok, fun sp dx L H2 S2 hb2 hsp hL => ?_⟩
  refine ⟨_, sm, pp, b, ls, rfl, rfl, hb2, hl, hok, fun pt H3 sm3 hpt => ?_⟩
  have sz := sz_of hok hl
  refine ⟨_, sm, pp, sp, dx, L, pt, _, rfl, rfl, rfl, sm3 _ _ hsp, hL.sm sm3, hpt, sz, fun H4 sm4 => ?_⟩
  have S4 := (S2.new sm3).new sm4
  exact ⟨_, ⟨pp, pc, sm, pt, sp, dx, L, Tb, ns, ls.map fun l => Txt.split l spS⟩, Tn + 30, rfl, rfl, rfl, rfl, rfl, rfl, ⟨S4.pen, S4.smw, hpt.sm sm4, ⟨sm4 _ _ (sm3 _ _ hsp), (hL.sm sm3).sm sm4, Nat.zero_le _, fun _ _ => Nat.zero_le _, sz⟩, S4.tabs⟩, by omega, fun J' H' S' => k J' H' S'⟩
end
end K30

namespace K30
open PySem PySem.Spec PyProof.Rows L2 ExK LamX
section
variable {P : Program} {w : World} {K : PySem.W.Frag} {mg : Str → Option Value} {base : Heap} {c : Addr} {A : Around} {outer : List Env} {s : Shared} {H0 : Hp} {E : XK}
/-- pen = _law_pen(script) -/
theorem s1_ps (T : Txt P K mg) (hr : Room 6 (LX P w K mg base c A outer s H0 E).A) : PS (LX P w K mg base c A outer s H0 E) (lawB.getD 0 noSt) (fun D σ H => ∃ (a : Addr) (ns : List Int), σ = L2.start LN [.ref a] ∧ SqL K H a (ns.map V.int) ∧ ns.length ≤ 63 ∧
    ∀ (pp pc : Addr) (ns' : List Int) H', PenAt H' pp pc ns' 0 → Sm H H' → D.nx ((L2.start LN [.ref a]).set 17 (some (.ref pp))) H') := by
  obtain ⟨fd1, G_law_pen, b_law_pen, k_law_pen⟩ := ok_law_pen (w := w) (base := base) T
  refine PS.imp (ps_set (i := 17) sc_law.nd rfl (Or.inr rfl) (pe_call G_law_pen (hr.mono (by decide)) rfl T.g_law_pen k_law_pen b_law_pen .nil pass0 (pa_cons (pv 0) pa_nil))) fun DD σ H h => ?_
  obtain ⟨a, ns, rfl, hS, hl, k⟩ := h
  exact ⟨_, rfl, a, ns, rfl, hS, hl, fun p c' H' ns' _ _ g sm => k p c' ns' H' g sm⟩
/-- some = [..] -/
theorem s2_ps (T : Txt P K mg) (hr : Room 6 (LX P w K mg base c A outer s H0 E).A) : PS (LX P w K mg base c A outer s H0 E) (lawB.getD 1 noSt) (fun D σ H => ∀ (sm : Addr) H', H' sm = some (.lst (WL.map V.str)) → Sm H H' → D.nx (σ.set 1 (some (.ref sm))) H') := by
  refine PS.imp (ps_set (i := 1) sc_law.nd rfl (Or.inr rfl) (pe_lst (pa_cons pe_str (pa_cons pe_str (pa_cons pe_str (pa_cons (pe_op op_mul_str pe_str pe_int) (pa_cons (pe_op op_mul_str pe_str pe_int) (pa_cons pe_str (pa_cons pe_str (pa_cons pe_str (pa_cons pe_str (pa_cons (pe_op op_mul_str pe_str pe_int) (pa_cons (pe_op op_add_str pe_str (pe_op op_mul_str pe_str pe_int)) (pa_cons pe_str (pa_cons pe_str (pa_cons pe_str (pa_cons pe_str (pa_cons pe_str (pa_cons pe_str pa_nil))))))))))))))))))) fun DD σ H k => ?_
  refine ⟨_, _, rfl, rfl, ⟨by decide +kernel, by decide +kernel, by decide +kernel⟩, _, _, rfl, rfl, ⟨by decide +kernel, by decide +kernel, by decide +kernel⟩, _, _, rfl, rfl, ⟨by decide +kernel, by decide +kernel, by decide +kernel⟩,
    _, _, rfl, rfl, ⟨by decide +kernel, by decide +kernel, by decide +kernel⟩, _, _, rfl, rfl, by decide +kernel, (show 17 ≤ sizeLine by decide), fun q nq => k q _ ?_ (Sm.new nq)⟩
  rw [upd_same]
  exact congrArg (fun l => some (HO.lst l)) (by decide +kernel)
def turnT (Tb : Addr) : TS := fun D σ H => ∃ J sm pp pc ns Tn, σ = trnσ J sm pp ∧ Trn H pp pc sm Tb ns Tn ∧ Tn ≤ 800000 ∧
    ∀ J' H', Trn H' pp pc sm Tb ns (Tn + 210) → D.nx (trnσ J' sm pp) H'
theorem turn_ps2 {Tb : Addr} (T : Txt P K mg) (TB : TabB base mg c Tb) (hr : Room 6 (LX P w K mg base c A outer s H0 E).A) : PSs (LX P w K mg base c A outer s H0 E) turnB (turnT Tb) := turn_ps T TB hr
/-- the turns -/
theorem s3_ps {Tb : Addr} (T : Txt P K mg) (TB : TabB base mg c Tb) (hr : Room 6 (LX P w K mg base c A outer s H0 E).A) : PS (LX P w K mg base c A outer s H0 E) (lawB.getD 2 noSt) (fun D σ H => ∃ J sm pp pc ns, σ = trnσ J sm pp ∧ Trn H pp pc sm Tb ns 0 ∧
    ∀ J' H', Trn H' pp pc sm Tb ns 630 → D.nx (trnσ J' sm pp) H') := by
  refine PS.imp (ps_for PassesOwn.never rfl (pi_range1 rfl T.n_range (pa_cons pe_int pa_nil)) (pg_name (i := 2) sc_law.nd rfl (Or.inl rfl)) (turn_ps2 T TB hr)) fun DD σ H h => ?_
  obtain ⟨J, sm, pp, pc, ns, rfl, S, k⟩ := h
  refine ⟨3, rfl, by decide, by decide, ?_⟩
  refine for_range (lo := 0) (n := 3) (D := DD) (fun i σ H => ∃ J, σ = trnσ J sm pp ∧ Trn H pp pc sm Tb ns (210 * i)) ⟨J, rfl, S⟩ (fun i σ H hi q => ?_) fun σ H q => ?_
  · obtain ⟨J, rfl, S'⟩ := q
    refine ⟨jset J 2 (some (.int (0 + (i : Int)))), sm, pp, pc, ns, 210 * i, rfl, S', by omega, fun J' H' S2 => ⟨J', rfl, S2.mono (by omega)⟩⟩
  · obtain ⟨J, rfl, S'⟩ := q
    exact k J H S'
theorem eqv_t0 : SeqAt.shaped (.tuple [.str "text", .int 0, .int 0]) = true := eqv_text 0 0
/-- return .. -/
theorem s4_ps {Tb : Addr} (T : Txt P K mg) (TB : TabB base mg c Tb) (hr : Room 6 (LX P w K mg base c A outer s H0 E).A) : PS (LX P w K mg base c A outer s H0 E) (lawB.getD 3 noSt) (fun D σ H => ∃ J sm pp pc ns, σ = trnσ J sm pp ∧ Trn H pp pc sm Tb ns 630 ∧ ∀ H', D.rt (.bl true) H') := by
  obtain ⟨oc, od, dV, kV, doc, pm, cdv, ct, an, osl, lk_heard, hc_heard, b_heard, k_heard⟩ := heard_txt T
  obtain ⟨fd1, G_Scan, b_Scan⟩ := ok_Scan_init (w := w) (base := base) T
  obtain ⟨fd2, G_law_pick, b_law_pick, k_law_pick⟩ := ok_law_pick (w := w) (base := base) T
  refine PS.imp (ps_ret (pe_cmpR (op_eqD hr.units) (pe_lamcall (T := [(Tb, LQ)]) (TT := THeard K) (c := c) (P := Tb) rfl T.g_law_web_heard k_heard lk_heard hc_heard b_heard sc_law_web_heard rfl (Or.inl rfl) (heard_gives T) TB rfl (List.mem_singleton.mpr rfl) (fun p hp _ => by rw [List.mem_singleton.mp hp] <;> rfl) hr (lamS_by (sc := defScope s_law) (by decide +kernel)) rfl (fun q cl pm cv ctv => rfl) (fun A outer s H E f c' hrL => (pe_make T.mk_Scan G_Scan (hrL.mono (by decide)) rfl T.g_Scan b_Scan .nil (passes_call (takes_of (X := lamCx _ A outer s H E _ f c') rfl rfl rfl rfl) fun _ _ _ _ h => h) (pa_cons (pe_call G_law_pick (hrL.mono (by decide)) rfl T.g_law_pick k_law_pick b_law_pick .nil pass0 (pa_cons (pv 17) (pa_cons (pe_lst (pa_cons pe_non (pa_cons pe_int (pa_cons (pe_lst (pa_cons pe_str pa_nil)) (pa_cons (pe_tup (pa_cons pe_str pa_nil)) pa_nil))))) pa_nil))) pa_nil)))) (pe_tup (pa_cons pe_str (pa_cons pe_int (pa_cons pe_int pa_nil)))) (nomark _))) fun DD σ H h => ?_
  obtain ⟨J, sm, pp, pc, ns, rfl, S, k⟩ := h
  refine ⟨S.tabs, fun H1 e1 t1 => ?_⟩
  have S1 := S.ext e1 t1
  intro H2 E' Q' sm2 kb _
  have S2 := S1.new sm2
  refine ⟨_, rfl, (show 1 ≤ sizeLine by decide), fun t1 n1 => ⟨(show 1 ≤ sizeLine by decide), fun t2 n2 => ⟨(show 4 ≤ sizeLine by decide), fun t3 n3 => ?_⟩⟩⟩
  have h33 := Sm.new (o := .lst [.non, .int 5, .ref t1, .ref t2]) n3
  have h32 := (Sm.new (o := .tup [.str "a"]) n2).trans h33
  have h31 := (Sm.new (o := .lst [.str "a"]) n1).trans h32
  have S3 := S2.new h31
  refine ⟨pp, pc, t3, ns, 630, _, rfl, S3.pen, ?_, .inl (SqL.of upd_same), by simp, (show 4 ≤ 1000 by decide), by decide, fun m x H4 hx g kp => ?_⟩
  · obtain ⟨⟨_, _, e, _⟩, _⟩ := S3.pen
    exact fun z => by rw [← z, upd_same] at e; cases e
  intro x0 dx nx ndx hdx
  have sm5 : Sm H4 (upd (upd H4 dx (.own x0)) x0 (.ins (He.ga K "Scan") dx [])) := (Sm.new ndx).trans (Sm.new (by rw [upd_ne hdx.symm]; exact nx))
  have fin : ∀ ty, TyX K (upd (upd H4 dx (.own x0)) x0 (.ins (He.ga K "Scan") dx [])) x ty → PySem.W.kitOne K ty (.type "str") = some false → spInit K [.ref x0, x] (upd (upd H4 dx (.own x0)) x0 (.ins (He.ga K "Scan") dx [])) (fun v H2 => v = .non ∧ Q' (.ref x0) H2) E' := fun ty h1 h2 =>
    ⟨x0, dx, x, rfl, upd_same, .inr ⟨ty, h1, h2, fun d H' hb => kb d _ _ H' hb.xd fun q H'' _ hq => ⟨(show 3 ≤ sizeLine by decide), fun t nt => ⟨_, _, .tup (.inl (.inl (Sm.new nt _ _ hq))) (.cons (.str _) (.cons (.int _) (.cons (.int _) .nil))), .tup (.inl (.inl upd_same)) (.cons (.str _) (.cons (.int _) (.cons (.int _) .nil))), eqv_t0, eqv_t0, by rw [eqv_self eqv_t0]; exact k _⟩⟩⟩⟩
  match m, hx with
  | 0, hx => 
    obtain rfl : V.non = x := Option.some.inj hx
    exact fin _ (.base .non) (kit_ty (r := false) (by decide +kernel))
  | 1, hx => 
    obtain rfl : V.int 5 = x := Option.some.inj hx
    exact fin _ (.base (.int 5)) (kit_ty (r := false) (by decide +kernel))
  | 2, hx => 
    obtain rfl : V.ref t1 = x := Option.some.inj hx
    have e := h32 _ _ (upd_same (H := H2) (a := t1) (o := .lst [.str "a"]))
    exact fin _ (.base (.lst (sm5 _ _ (kp _ _ e (fun z => (pen_no S3.pen _ (by rw [← z]; exact e)).2 ["a"] rfl))))) (kit_ty (r := false) (by decide +kernel))
  | 3, hx => 
    obtain rfl : V.ref t2 = x := Option.some.inj hx
    have e := h33 _ _ (upd_same (H := upd H2 t1 (.lst [.str "a"])) (a := t2) (o := .tup [.str "a"]))
    have n : t2 ≠ pp := fun z => by
      obtain ⟨⟨_, _, e', _⟩, _⟩ := S3.pen
      rw [← z, e] at e'
      cases e'
    exact fin _ (.base (.tup (sm5 _ _ (kp _ _ e n)))) (kit_ty (r := false) (by decide +kernel))
end
end K30

namespace K30
open PySem PySem.Spec PyProof.Rows L2 ExK LamX
def spLaw (K : PySem.W.Frag) (Tb : Addr) : Sp := fun vs H Q _ => ∃ (a : Addr) (ns : List Int), vs = [.ref a] ∧ SqL K H a (ns.map V.int) ∧ ns.length ≤ 63 ∧ Tabs [(Tb, LQ)] H ∧ ∀ H', Q (.bl true) H'
theorem ok_law {P : Program} {w : World} {K : PySem.W.Frag} {mg : Str → Option Value} (T : Txt P K mg) : ∃ fd, (∀ (s : Shared) (v : Value), BindsTo s fd ⟨[v], []⟩ [("script", v)]) ∧
    ∀ base : Heap, TabB base mg (He.cT K ("law", none)).1 (He.cT K ("law", none)).2 → FnOk P w K mg base CX0 7 (He.fAd K ("law", none)) fd ["script"] (spLaw K (He.cT K ("law", none)).2) := by
  obtain ⟨fd, F⟩ := T.F_law
  have b := FunD.bindsA (ps := ["script"]) F fun _ _ _ _ _ _ us hl => match us, hl with | [_], _ => rfl
  refine ⟨fd, fun s v => b s [v] rfl, fun base TB => ?_⟩
  obtain ⟨oc, od, dV, kV, doc, pm, an, cdv, ct, osl, rfl, lk, hcd, _, _⟩ := F.ex
  obtain ⟨c, rfl⟩ := He.codeIn_ref hcd
  have hc : He.codeOf K ("law", none) = c := He.codeOf_eq lk rfl
  have TB' : TabB base mg c (He.cT K ("law", none)).2 := by rw [← hc]; exact TB
  refine fn_of lk hcd sc_law (fun vs H Q E h => ?_) fun A outer s H vs Q E hr h => ?_
  · obtain ⟨a, ns, rfl, _⟩ := h
    rfl
  · obtain ⟨a, ns, rfl, hS, hl, ht, k⟩ := h
    refine ⟨_, PSs.nox (pss_cons (s1_ps T hr) (pss_cons (s2_ps T hr) (pss_cons (s3_ps T TB' hr) (pss_one (s4_ps T TB' hr))))), ?_⟩
    refine ⟨a, ns, rfl, hS, hl, fun pp pc ns' H1 g1 sm1 => ?_⟩
    intro sm H2 h2 sm2
    refine ⟨fun i => if i = 0 then some (.ref a) else none, sm, pp, pc, ns', rfl, ⟨g1.sm sm2, h2, (ht.ext sm1).ext sm2⟩, fun J' H3 S3 => ?_⟩
    exact ⟨J', sm, pp, pc, ns', rfl, S3, fun H' => k H'⟩
end K30

namespace K30
open PySem PySem.Spec PyProof.Rows L2 ExK LamX
abbrev RWk := PySem.Challenge.rw_everyweb_k30_scans_by_an_own_reading_of
theorem facts {w : World} {K : PySem.W.Frag} {h : Heap} {mg : Str → Option Value} {f : Addr} (X : K.In h) (G : h.Ns mainGlobals mg) (hfa : mg ("law" : Str) = some (.ref f)) (c : SaysY fa fn [di_BadText] [("law", none)] ex h K) :
    LawAtS RWk w K L2.CX0 7 63 "script" mg f h := by
  have T : Txt RWk.prog K mg := txt X G c (by kernel_rfl) (by kernel_rfl)
  obtain ⟨fd, hb, hF⟩ := ok_law (w := w) T
  have e := hfa.symm.trans T.g_law
  cases e
  refine ⟨fd, [He.cT K ("law", none)], spLaw K (He.cT K ("law", none)).2, (fun p hp => by
    obtain rfl := List.mem_singleton.mp hp
    exact c.empty _ List.mem_cons_self), (fun p hp => by
    obtain rfl := List.mem_singleton.mp hp
    exact c.out _ List.mem_cons_self), (fun p hp => by
    obtain rfl := List.mem_singleton.mp hp
    exact PySem.W.codeHd_of_K X (c.hd _ List.mem_cons_self)), hb, fun H a ns hl _ ht hS => ⟨a, ns, rfl, hS, hl, fun p hp => ?_, fun _ => rfl⟩, fun base _ _ TB => hF base (TB _ List.mem_cons_self)⟩
  obtain rfl := List.mem_singleton.mp hp
  exact .nil (ht _ List.mem_cons_self)
end K30
open PySem PySem.W PySem.Calls PyProof.Rows
theorem PySem.Challenge.cw_everyweb_k30_scans_by_an_own_reading_of_holds : PySem.Challenge.rw_everyweb_k30_scans_by_an_own_reading_of.Holds := by
  w_on; o_law
  refine HandSHeadRun.head_any (r := OpenLaw.row PySem.Challenge.rw_everyweb_k30_scans_by_an_own_reading_of) (q := view (OpenLaw.row PySem.Challenge.rw_everyweb_k30_scans_by_an_own_reading_of).prog [34]) (H := K30.hk) (ob := K30.ob) (M := 7000) (loose := K30.names) (d := HandSHeadRun.topDef (OpenLaw.row PySem.Challenge.rw_everyweb_k30_scans_by_an_own_reading_of).prog 34) (kwd := []) K30.ob_eq
    (by kernel_rfl) (fun s => by kernel_rfl) K30.run (by kernel_rfl) (by kernel_rfl) (by kernel_rfl) (by rfl) (by first | assumption | decide +kernel) (by decide +kernel) ⟨rfl, rfl, rfl, rfl, rfl, by decide +kernel⟩ ?hw ?hc
  case hw => w_witness2
  case hc =>
    refine LamX.walk_ofTsE (l := PySem.Challenge.rw_everyweb_k30_scans_by_an_own_reading_of) (n := 63) (k := 7) (x := "script") (CX := fun _ => L2.CX0) rfl (by decide) (by kernel_rfl) ⟨rfl, by decide, by decide⟩ ?F (fun _ _ _ _ _ z => z)
    intro w mg fa h Y G hmg0
    obtain ⟨K, KX, c⟩ := Y
    have hmg : mg ("law" : PySem.Str) = some (.ref fa) := by
      have e : (HandSHeadRun.topDef (OpenLaw.row PySem.Challenge.rw_everyweb_k30_scans_by_an_own_reading_of).prog 34).name = ("law" : PySem.Str) := by kernel_rfl
      rw [← e]
      exact hmg0
    exact ⟨K, KX, K30.facts KX G hmg c⟩
