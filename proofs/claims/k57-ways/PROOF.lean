import PyProof.Rows.All
import Wide.All
import OpenK.AllK
import Wide.FinOn
import HandS.Exc
import HandS.ExcInit
import KE.KExcSuper
import KE.KExcInit
import HandS.TryMany
import HandS.ForMost
import HandS.IsInst
import HandS.Flow
import HandS.Zip
import HandS.TupAny
import HandS.NoneIn
import HandS.Defaults
import HandS.List
import HandS.Call
import HandS.TupMul
import KE.DataCmp
import KE.LtData
import KE.DataEq
import KE.SortData
import KE.SortCalls
import HandS.Wide
import KE.DataFind
import HandS.Style
import HandS.Iter
import KE.GoesMore
import HandS.WordsExc
import HandS.HeadHook3
import HandS.ExcOwn
import HandS.ExcField
import HandS.ExcIs
import HandS.Head0
import HandS.Head1
import HandS.Head2
import HandS.HeadEnd
import HandS.HeadHook4
import HandS.HeadNt
import HandS.Dict
import HandS.DictTup
import KE.KDictSum
import KE.KDictCopyH
import KE.KDictPairs
import HandS.DictComp
import HandS.Comp
import HandS.Set
import HandS.SetFor
import HandS.Strs
import HandS.TupSets
import KE.KeyNested
import HandS.Star
import KE.KUnpackStar
import KE.KStateDown
import Lean
import KE.KRevSl
import KE.GoesEnum
import HandS.RaiseMore
import HandS.ListItems
import HandS.CallLocal
import HandS.Small
import HandS.Conv
import PySem.Challenge.RW_lastlimit_k57_ways_to_weave
section
set_option Elab.async false
set_option linter.all false
set_option maxRecDepth 100000
set_option maxHeartbeats 4000000
namespace VX
open PySem PySem.W PySem.Calls PySem.Spec PyProof.Rows Builtin Builtin.ObjectAttr
set_option autoImplicit false

section
variable {prog : Program} {w : World} {A : Around} {E : Value → Shared → Prop} {R : Result → Shared → Prop} {hp : Heap} {g : Array GenState} {d : Drawn} {t : Nat} {os : OsState} {B : String} {bmB : List Value}
/-- self.f = v, the first one, on an exception of any of the bases -/
theorem osa_first {K : Frag} {name : Str} {tk : Tok} {v : Value} {x C : Addr} {fv : Array Value} (SF : StoreFacts B bmB "object.__setattr__" "object") (X : K.In hp)
    (hx : hp.get? x = some { cls := .ref C, data := .fields fv }) (ov : excOver K C bmB = true) (ht : takerIn K C name = some none) (hh : hasDictIn K C = true)
    (hq : ∀ h' tk' dx, (∀ b o, b ≠ x → hp.get? b = some o → h'.get? b = some o) → hp.objs.size ≤ dx → dx ≠ x →
      h'.get? x = some { cls := .ref C, dict := some dx, data := .fields fv } →
      h'.Ns1 dx (fun y => if y = name then some v else none) → R (.ok (.ret .none)) ⟨h', g, d, tk', os⟩) :
    codeAny (model prog w) A (.call (.builtin "object.__setattr__") ⟨[.ref x, .str name tk, v], []⟩) R ⟨hp, g, d, t, os⟩ := by
  have hxs : x ≠ hp.objs.size := Nat.ne_of_lt (Heap.lt_size hx)
  refine osa_openX (s := ⟨hp, g, d, t, os⟩) (od := none) (r := none) SF X ⟨hx, rfl, rfl, trivial⟩ ov ht fun b => ?_
  obtain ⟨cd, hc, hd⟩ := any_some hh
  have hcls : Looks (model prog w) hp (classData C) cd := looks_clsIn X hc
  obtain ⟨nm, bs, mro, ns, qn, hd', sn, sb, ab, col, del⟩ := cd
  dsimp only at hd
  subst hd
  show wpAny _ _ (storeInOwnDict (.ref x) (.ref C) (.str name tk) name v b) _ _ _
  unfold storeInOwnDict ownDictForStores
  repeat (first | with_reducible refine PySem.HandSPX.store_in_new ?_ ?_ | with_reducible refine wpAny_loadPart_at hx ?_ | with_reducible refine hcls.at ?_ | wp_step)
  · exact ⟨_, #[], _, (Heap.get?_update_ne _ _ _ _ hxs.symm).trans (Heap.get?_push_at rfl rfl), rfl, fun e he => absurd he (by simp), fun _ => rfl⟩
  · intro h' tk' hn' hs
    have h1 : (hp.push { cls := .type "dict", data := .dict #[] }).get? x = some { cls := .ref C, data := .fields fv } := Heap.get?_push_of_some _ hx
    refine hq h' tk' hp.objs.size (fun b o hb ho => ?_) (Nat.le_refl _) hxs.symm ?_ hn'
    · have e1 := Heap.get?_push_of_some { cls := .type "dict", data := .dict #[] } ho
      exact (hs.2 b (Nat.ne_of_lt (Heap.lt_size ho))).trans ((Heap.get?_update_ne _ _ _ _ hb).trans e1)
    · exact (hs.2 x hxs).trans (Heap.get?_update_self _ h1 rfl)
end

/-- what is asked of a class B' over a base, whose __init__ says super().__init__(x); self.f = x -/
structure InitD (P : Program) (K : Frag) (C fI : Addr) (f x : Str) (scope : Scope) (body : List Stmt) (fd : FuncData) (cda cc : Addr) : Prop where
  fn : ∃ (oc : Value) (od : Option Addr) (qual : Str) (params : Arguments) (dV kV doc pm : Value) (an : Option Addr) (ct : Value) (osl : Array (Option Value)),
    fd = ksFn "__init__" qual params body scope dV kV doc pm an (.ref cda) ct cc ∧ K.lookup fI = some ⟨oc, od, .func fd, osl⟩ ∧ codeIn K (.ref cda) qual = true
  bind : ∀ (u v : Value) (s : Shared), BindsTo s fd ⟨[u, v], []⟩ [(("self" : Str), u), (x, v)]
  par : ∃ ar, (fd.params.posonlyargs ++ fd.params.args).head? = some ar ∧ ar.arg = "self"
  file : ∃ (ccl : Value) (cdd : Option Addr) (vs : Array Value) (ccs : Array (Option Value)) (tf : Tok), K.lookup cda = some ⟨ccl, cdd, .fields vs, ccs⟩ ∧ vs[2]? = some (.str P.main.file tf)
  cell : ∃ (cl : Value) (cld : Option Addr) (csl : Array (Option Value)), K.lookup cc = some ⟨cl, cld, .cell (some (.ref C)), csl⟩
  body : ∃ p0 p1 p2 p3 p4 p5 p6 p7 p8 p9, (p2.endLine == p4.line) = true ∧ body = [.Expr (.Call (.Attribute (.Call (.Name "super" p0) [] [] p1) "__init__" p2) [.Name x p3] [] p4) p5, .Assign [.Attribute (.Name "self" p6) f p7] (.Name x p8) p9]
  kind : scope.kind = .function
  gen : scope.isGenerator = false
  cor : scope.isCoroutine = false
  nocell : ∀ y ∈ scope.names, y.2 ≠ .cell
  n1 : scope.names.lookup ("self" : Str) = some .local
  n2 : scope.names.lookup x = some .local
  n3 : scope.names.lookup ("super" : Str) = some .globalImplicit
  n4 : scope.names.lookup ("__class__" : Str) = some .free
  nx : x ≠ ("self" : Str)
  nd : (x == ("__debug__" : Str)) = false
  top : (P.main.scope.names.lookup ("super" : Str)).isSome = false
structure SupC (P : Program) (K : Frag) (C fI : Addr) (f : Str) (B newId initId : String) (bmB : List Value) : Prop where
  ini : findIn K (.ref C) "__init__" = some (some (.ref fI))
  isf : typeIn K (.ref fI) = some (.type "function")
  exi : excInitIn K C bmB newId = true
  ovr : excOver K C bmB = true
  sa : findIn K (.ref C) "__setattr__" = some (some (.builtin "object.__setattr__"))
  nof : findIn K (.ref C) f = some none
  hd : hasDictIn K C = true
  sup : ks_superIn K C C "__init__" = some (some (.builtin initId))
  subB : subIn K (.ref C) (.type B) = some true
  third : nsIn K cStatics "thirdparty.any" = some none
  mro : mroIn K C (.ref C) = some true
  fn : ∃ x scope body fd cda cc, InitD P K C fI f x scope body fd cda cc

section
variable {prog : Program} {w : World} {A : Around} {R : Result → Shared → Prop} {hp : Heap} {g : Array GenState} {d : Drawn} {t : Nat} {os : OsState} {K : Frag} {C fI : Addr} {f : Str} {B newId initId : String} {bmB : List Value} {mg mb : Str → Option Value}
/-- such an __init__ runs -/
theorem init_run {v : Value} (T : SupC prog K C fI f B newId initId bmB) (SF : StoreFacts B bmB "object.__setattr__" "object") (FB : ExcBaseFacts B newId initId bmB) (KF : KxsFacts B initId)
    (X₀ : K.In hp) (hG : hp.Ns mainGlobals mg) (hB : hp.Ns builtinsNs mb) (hbs : mb ("super" : Str) = some (.type "super")) (hgs : mg ("super" : Str) = none) (hlim : hp.NoLimit) (hroom : A.depth < recursionLimit)
    (hq : ∀ h' tk' dx t1, (∀ b o, hp.get? b = some o → h'.get? b = some o) → hp.objs.size ≤ dx → dx ≠ hp.objs.size + 1 →
      h'.get? (hp.objs.size + 1) = some { cls := .ref C, dict := some dx, data := .fields #[.ref t1, .none, .none, .none, .bool false, .none] } →
      h'.Ns1 dx (fun y => if y = f then some v else none) → R (.ok (.ret .none)) ⟨h', g, d, tk', os⟩) :
    codeAny (model prog w) A (.call (.ref fI) ⟨[.ref (hp.objs.size + 1), v], []⟩) R ⟨(hp.push (kdv_tup [v])).push (PySem.HandSPX.excO C hp.objs.size), g, d, t, os⟩ := by
  obtain ⟨x, scope, body, fd, cda, cc, I⟩ := T.fn
  obtain ⟨oc, od, qual, params, dV, kV, doc, pm, an, ct, osl, hfd, lk, hcode⟩ := I.fn
  obtain ⟨ar, hpar, har⟩ := I.par
  obtain ⟨ccl, cdd, vs, ccs, tf, lkc, hvs⟩ := I.file
  obtain ⟨cl, cld, csl, lkl⟩ := I.cell
  obtain ⟨p0, p1, p2, p3, p4, p5, p6, p7, p8, p9, hpos, hbody⟩ := I.body
  obtain ⟨cdD, hD, _⟩ := any_some T.hd
  have kp : ∀ b o, hp.get? b = some o → ((hp.push (kdv_tup [v])).push (PySem.HandSPX.excO C hp.objs.size)).get? b = some o := fun b o e => Heap.get?_push_of_some _ (Heap.get?_push_of_some _ e)
  have hget : ((hp.push (kdv_tup [v])).push (PySem.HandSPX.excO C hp.objs.size)).get? (hp.objs.size + 1) = some (PySem.HandSPX.excO C hp.objs.size) := by heap_get
  have hsz : ((hp.push (kdv_tup [v])).push (PySem.HandSPX.excO C hp.objs.size)).objs.size = hp.objs.size + 2 := by rw [Heap.size_push, Heap.size_push]
  have hnone : hp.get? (hp.objs.size + 1) = none := by
    cases z : hp.get? (hp.objs.size + 1) with
    | none => rfl
    | some o => exact absurd (Heap.lt_size z) (Nat.not_lt.mpr (Nat.le_succ _))
  have X1 := X₀.keeps kp
  refine ks_codeAny_call_defAt (fd := fd) (body := body) (binds := [(("self" : Str), .ref (hp.objs.size + 1)), (x, v)]) hroom (X1 _ _ lk) rfl (hlim.keeps kp) (by rw [hfd]; exact codeRec_of X1 hcode) (by rw [hfd]) (I.bind _ _ _)
    (by rw [hfd]; exact I.nocell) (by
      rw [hfd]
      intro y hy
      rcases List.mem_cons.mp hy with rfl | hy
      · exact I.n1
      · rcases List.mem_cons.mp hy with rfl | hy
        · exact I.n2
        · cases hy) (fun h1 hns hk => ?_) (by rw [hfd]; exact I.cor) (by rw [hfd]; exact I.gen) (by rw [hfd]; exact I.kind)
  have L0 : ((hp.push (kdv_tup [v])).push (PySem.HandSPX.excO C hp.objs.size)).objs.size = hp.objs.size + 2 := hsz
  dsimp only at hns hk ⊢
  rw [L0] at hns ⊢
  have F : Fr hp (hp.objs.size + 2) h1 (fun y => [(("self" : Str), Value.ref (hp.objs.size + 1)), (x, v)].reverse.lookup y) := ⟨hns, fun b o e => hk b o (kp b o e), by omega⟩
  have N : News hp (hp.objs.size + 2) h1 [(hp.objs.size + 1, PySem.HandSPX.excO C hp.objs.size)] := by
    intro p hp'
    rcases List.mem_cons.mp hp' with rfl | hp'
    · exact ⟨hk _ _ hget, by show hp.objs.size + 1 ≠ hp.objs.size + 2; omega, hnone⟩
    · cases hp'
  have env_ : callEnv fd (hp.objs.size + 2) fI = ksEnv qual scope (hp.objs.size + 2) fI (.ref cda) cc := by rw [hfd]; rfl
  have mself : (fun y => [(("self" : Str), Value.ref (hp.objs.size + 1)), (x, v)].reverse.lookup y) ("self" : Str) = some (.ref (hp.objs.size + 1)) := by
    have e : (("self" : Str) == x) = false := by simpa using fun z : ("self" : Str) = x => I.nx z.symm
    show List.lookup ("self" : Str) [(x, v), (("self" : Str), Value.ref (hp.objs.size + 1))] = _
    rw [List.lookup_cons, e]
    simp
  have mx : (fun y => [(("self" : Str), Value.ref (hp.objs.size + 1)), (x, v)].reverse.lookup y) x = some v := by
    show List.lookup x [(x, v), (("self" : Str), Value.ref (hp.objs.size + 1))] = _
    simp
  rw [env_, hbody]
  have hi : interactive (ksEnv qual scope (hp.objs.size + 2) fI (.ref cda) cc) = false := by
    show (scope.kind == .module && _) = false
    rw [I.kind] <;> rfl
  have he : eval (.Call (.Attribute (.Call (.Name "super" p0) [] [] p1) "__init__" p2) [.Name x p3] [] p4) (ksEnv qual scope (hp.objs.size + 2) fI (.ref cda) cc) = (do
      let ov ← attributeBase (.Call (.Name "super" p0) [] [] p1) "__init__" (ksEnv qual scope (hp.objs.size + 2) fI (.ref cda) cc) (eval (.Call (.Name "super" p0) [] [] p1) (ksEnv qual scope (hp.objs.size + 2) fI (.ref cda) cc))
      standAt p2.atName
      let (f, first) ← holding [ov] (getMethod ov "__init__" (do return (← importBound (.Call (.Name "super" p0) [] [] p1) (ksEnv qual scope (hp.objs.size + 2) fI (.ref cda) cc)).getD true))
      callWith p4 f first (backTo p4 (starEach [.Name x p3] (ksEnv qual scope (hp.objs.size + 2) fI (.ref cda) cc))) []) := by
    have z : methodCallPos true (.Call (.Name "super" p0) [] [] p1) (ksEnv qual scope (hp.objs.size + 2) fI (.ref cda) cc) p2 p4 = pure p4 := by
      unfold methodCallPos
      rw [hpos] <;> rfl
    show (attributeBase _ _ _ _ >>= fun ov => standAt p2.atName >>= fun _ => (holding [ov] _ >>= fun (fx : Value × List Value) => methodCallPos true (.Call (.Name "super" p0) [] [] p1) (ksEnv qual scope (hp.objs.size + 2) fI (.ref cda) cc) p2 p4 >>= fun cp => callWith cp fx.1 fx.2 _ [])) = _
    rw [z]
    rfl
  refine ks_wpAt_execs_cons (ks_wpAt_Expr_any (ks_wpAt_MethodCall ?_ he) hi)
  have X2 : K.In h1 := X₀.keeps F.keep
  obtain ⟨oD, hD1, hD2⟩ : ∃ oD, h1.get? C = some oD ∧ oD.data = .cls cdD := by
    unfold clsIn at hD
    split at hD
    · rename_i c d cd' sl ho
      cases hD
      exact ⟨_, X2 _ _ ho, rfl⟩
    · cases hD
  have hE1 : h1.get? (hp.objs.size + 1) = some (PySem.HandSPX.excO C hp.objs.size) := (N _ List.mem_cons_self).1
  refine ks_wpAt_super_base (env := ksEnv qual scope (hp.objs.size + 2) fI (.ref cda) cc) I.n3 I.n4 (by decide) rfl (X2 _ _ lk) rfl hpar rfl (X2 _ _ lkc) rfl hvs (by simp) I.top ?_
  refine ks_loadName_global I.kind I.n3 (loadGlobal_builtin (env := ksEnv qual scope (hp.objs.size + 2) fI (.ref cda) cc) (hG.keeps F.keep) hgs (hB.keeps F.keep) hbs ⟨rfl, ?_⟩)
  refine wpAny_loadName_free I.kind I.n4 rfl ⟨_, X2 _ _ lkl, rfl⟩ ?_
  rw [har]
  refine wpAny_loadName_local I.kind I.n1 F.ns mself ?_
  refine ks_wpAny_isType_cls hD1 hD2 ⟨rfl, ?_⟩
  refine ks_wpAny_call_super hD1 hD2 hE1 rfl (fun c e => by cases e) (looks_mroIn X2 T.mro) (fun h2 e2 k2 => ?_)
  obtain ⟨F2, N2, l2⟩ := ks_newsPush (s := ⟨h1, g, d, t + 2, os⟩) (o := ks_superObj C (hp.objs.size + 1) C) F N rfl e2 k2
  refine kxs_method (s := ⟨h2, g, d, t + 2, os⟩) KF F2 X₀ N2 List.mem_cons_self (ox := PySem.HandSPX.excO C hp.objs.size) (odx := none) ⟨(N2 _ (List.mem_cons_of_mem _ List.mem_cons_self)).1, rfl, rfl, trivial⟩ T.third T.sup T.subB (by decide) fun q h3 F3 N3 l3 => ?_
  dsimp only
  refine kxs_callWith1 (x := hp.objs.size + 1) (i := initId) N3 List.mem_cons_self ?_
  have ev : ∀ {s' : Shared} {m : Str → Option Value} {y : Str} {u : Value} {pos : Pos} {Q : Value → Shared → Prop} {E : Value → Shared → Prop} {A' : Around}, s'.heap.Ns (hp.objs.size + 2) m → m y = some u → scope.names.lookup y = some .local → (y == ("__debug__" : Str)) = false → Q u s' →
      wpAny (model prog w) A' (eval (.Name y pos) (ksEnv qual scope (hp.objs.size + 2) fI (.ref cda) cc)) Q E s' := fun {s' m y u pos Q E A'} hn hv hl hdb q => wpAny_Name (wpAny_loadName_local I.kind hl hn hv q) hdb
  refine spliced_more ?_
  refine ev F3.ns mx I.n2 I.nd ?_
  refine spliced_none ?_
  refine ⟨kxs_at N3 List.mem_cons_self, ?_⟩
  have a1 : h1.objs.size ≠ hp.objs.size + 1 := Nat.ne_of_gt (l2 _ List.mem_cons_self)
  have a2 : q ≠ hp.objs.size + 1 := Nat.ne_of_gt (l3 (hp.objs.size + 1, PySem.HandSPX.excO C hp.objs.size) (List.mem_cons_of_mem _ List.mem_cons_self))
  refine kxs_call (x := hp.objs.size + 1) (i := initId) (t := hp.objs.size) (dv := none) (c2 := .none) F3 X₀ N3 FB T.exi List.mem_cons_self (.tail a2 (.tail a1 (.head fun _ z => nomatch z))) (show (1 : Nat) ≤ sizeLine by rw [sizeLine_eq]; decide) fun t1 h4 F4 N4 l4 => ?_
  have hE4 : h4.get? (hp.objs.size + 1) = some { cls := .ref C, data := .fields #[.ref t1, .none, .none, .none, .bool false, .none] } :=
    (N4 (hp.objs.size + 1, excObj C t1 none .none) (List.mem_cons_of_mem _ (List.mem_cons_of_mem _ (List.mem_cons_of_mem _ List.mem_cons_self)))).1
  have X4 : K.In h4 := X₀.keeps F4.keep
  refine ks_wpAt_execs_cons (ks_wpAt_Assign_Attr ?_)
  refine wpAt_of_wpAny (ev F4.ns mx I.n2 I.nd ?_)
  refine ev F4.ns mself I.n1 (by decide) ?_
  refine set_plain (od := none) X4 ⟨hE4, rfl, rfl, trivial⟩ T.sa ?_
  refine osa_first SF X4 hE4 T.ovr (by unfold takerIn; rw [T.nof] <;> rfl) T.hd fun h5 tk5 dx k5 s5 n5 x5 d5 => ?_
  refine wpAt_of_wpAny (wpAny_execs_nil ?_)
  exact hq h5 _ dx t1 (fun b o e => k5 b o (fun z => by rw [z, hnone] at e; cases e) (F4.keep b o e)) (by
    have y := Heap.lt_size hE4
    exact Nat.le_trans (Nat.le_of_lt (Nat.lt_of_lt_of_le (Nat.lt_succ_self _) (Nat.le_of_lt y))) s5) n5 x5 d5
end

section
variable {prog : Program} {w : World} {A : Around} {E : Value → Shared → Prop} {hp : Heap} {g : Array GenState} {d : Drawn} {t : Nat} {os : OsState} {K : Frag} {C fI : Addr} {f : Str} {B newId initId : String} {bmB : List Value} {mg mb : Str → Option Value}
/-- such a class is called -/
theorem made_run {v : Value} {Q : Value → Shared → Prop} (T : SupC prog K C fI f B newId initId bmB) (SF : StoreFacts B bmB "object.__setattr__" "object") (FB : ExcBaseFacts B newId initId bmB) (KF : KxsFacts B initId)
    (X₀ : K.In hp) (hG : hp.Ns mainGlobals mg) (hB : hp.Ns builtinsNs mb) (hbs : mb ("super" : Str) = some (.type "super")) (hgs : mg ("super" : Str) = none) (hlim : hp.NoLimit)
    (hroom : (A.under (.builtin "type.__call__" ⟨[.ref C, v], []⟩)).depth < recursionLimit)
    (hq : ∀ h' tk' a dx t1, (∀ b o, hp.get? b = some o → h'.get? b = some o) → hp.objs.size ≤ a → hp.objs.size ≤ dx → dx ≠ a →
      h'.get? a = some { cls := .ref C, dict := some dx, data := .fields #[.ref t1, .none, .none, .none, .bool false, .none] } →
      h'.Ns1 dx (fun y => if y = f then some v else none) → Q (.ref a) ⟨h', g, d, tk', os⟩) :
    wpAny (model prog w) A (call (.ref C) [v]) Q E ⟨hp, g, d, t, os⟩ := by
  obtain ⟨nm, N', qn, bs, bm, hdct, sn, sub, ab, col, dd, k0, k1, k2, k3, k5, hC, hT⟩ := excInit_of X₀ T.exi
  have tI := T.isf
  refine wpAny_call (PySem.HandSPX.call_own FB hT hC (looks_findIn X₀ T.ini) (fun self => bind_fn X₀ self tI) (show (1 : Nat) ≤ sizeLine by rw [sizeLine_eq]; decide) ?_)
  refine init_run T SF FB KF X₀ hG hB hbs hgs hlim hroom fun h' tk' dx t1 k s n x d => ?_
  exact ⟨rfl, hq h' tk' _ dx t1 k (Nat.le_succ _) s n x d⟩
end
end VX

namespace L2
open PySem PySem.Spec PyProof.Rows
/-- C(e): an exception with one field -/
def tMk1 (C : Addr) (f : Str) (ta : TA) : St → Hp → XK → Prop := fun σ H Q => ta σ H fun vs H1 => ∃ v, vs = [v] ∧ ∀ dx, H1 dx = none → Q (.ref C) (some dx) (upd H1 dx (.xd [(f, v)]))
theorem pmk_sup {X : Cx} {x f : Str} {C fI : Addr} {B newId initId : String} {bmB : List Value} {k : Nat} {e : Expr} {ta : TA} {p pos : Pos}
    (T : VX.SupC X.prog X.K C fI f B newId initId bmB) (SF : StoreFacts B bmB "object.__setattr__" "object") (FB : ExcBaseFacts B newId initId bmB) (KF : PySem.W.KxsFacts B initId)
    (hx : PySem.W.subIn X.K (.ref C) (.type "BaseException") = some true) (ht : PySem.W.typeIn X.K (.ref C) = some (.type "type")) (kC : PySem.W.keepIn X.K (.ref C) = true)
    (hr : Room (k + 1) X.A) (hg : Gl X x) (hm : X.mg x = some (.ref C)) (hs : X.mg ("super" : Str) = none) (ha : PA X [e] ta)
    (hdb : (x == ("__debug__" : Str)) = false := by decide) (he : starEach [e] X.env = (false, eval e X.env) :: starEach [] X.env := by rfl) (hpl : (backTo pos (starEach [] X.env)).any (·.1) = false := by rfl) :
    PMk X (.Call (.Name x p) [e] [] pos) (tMk1 C f ta) := by
  intro pins s σ H Q I h
  refine wpAny_Call_Name_kw (ld_glob I hg hm ?_ hdb)
  refine PySem.W.callWith_K (h₀ := X.base) I.ok.mod.kin kC (thn (ha.run pos pins s σ H _ I h) fun us s1 ⟨vs, H1, I1, r1, v, ev, q1⟩ => ⟨I1.kIn, ?_⟩) he hpl
  subst ev
  cases r1 with
  | @cons _ u _ us' ru rn =>
    cases rn
    show wpAny _ _ (call (.ref C) [u]) _ _ _
    obtain ⟨mb, b1, b2⟩ := I1.mod.blt
    obtain ⟨hp, g, dr, tk, os⟩ := s1
    refine VX.made_run (mg := X.mg) (mb := mb) T SF FB KF I1.kIn (I1.mod.glob.keeps I1.bk) (b1.keeps I1.bk) ((b2 "super" (by decide)).trans (by decide +kernel)) hs (I1.mod.nolimit.keeps I1.bk) (hr.make C [u] []).depth fun h' tk' a dx t1 kp sa sd nd hxo hns => ?_
    obtain ⟨G, g1, g2⟩ := restrict h' fun b => decide (b ≠ a)
    have gk : ∀ b, b ≠ a → G.get? b = h'.get? b := fun b hb => g1 b (decide_eq_true hb)
    have ga : G.get? a = none := g2 a (by simp)
    have n1 : H1 dx = none := I1.hok.fresh sd
    have n2 : H1 a = none := I1.hok.fresh sa
    have ok : ObjOk X.prog X.w H1 G dx (.xd [(f, v)]) := ⟨_, hns.at fun o y => (gk dx nd).trans y, relO_put (fs := []) ru fun g => True.intro⟩
    have J : Inv X pins σ (upd H1 dx (.xd [(f, v)])) ⟨G, g, dr, tk', os⟩ := I1.laid (t' := tk') (a := dx) (o := .xd [(f, v)]) (h' := G) (fun b o z => by
      rw [gk b (Nat.ne_of_lt (Nat.lt_of_lt_of_le (Heap.lt_size z) sa))]
      exact kp b o z) sd ok
    refine ⟨a, _, _, ⟨G, g, dr, tk', os⟩, _, .ref C, some dx, rfl, J, fun b o z => ?_, ga, hxo, ⟨rfl, rfl⟩, rfl, rfl, ?_, rfl, I1.bare, raises_own hx ht, q1 dx n1⟩
    · by_cases hb : b = a
      · rw [hb, ga] at z; cases z
      · exact (gk b hb).symm.trans z
    · rw [upd_ne (Ne.symm nd)]
      exact n2
end L2
end

section
set_option Elab.async false
set_option linter.all false
set_option maxRecDepth 100000
set_option maxHeartbeats 4000000
namespace L2
open PySem PySem.Spec PyProof.Rows
set_option autoImplicit false

/-! ### a caught exception that stays -/
/-- at a: an object of the class at C, its dict od -/
def xob (a C : Addr) (od : Option Addr) : HO := .ext fun h => ∃ (o : Obj) (vs : Array Value), h.get? a = some o ∧ o.cls = .ref C ∧ o.dict = od ∧ o.data = .fields vs
theorem xob_ok {P : Program} {w : World} {H : Hp} {h : Heap} {a C : Addr} {od : Option Addr} {o : Obj} {vs : Array Value} (e : h.get? a = some o) (z : Zc (.ref C) od o) (hd : o.data = .fields vs) : ObjOk P w H h a (xob a C od) :=
  ⟨⟨o, vs, e, z.1, z.2, hd⟩, ⟨o, e⟩, fun h1 h2 q k => by
    obtain ⟨o1, vs1, e1, r1⟩ := q
    exact ⟨o1, vs1, k _ e1, r1⟩⟩
theorem xob_at {P : Program} {w : World} {H : Hp} {h : Heap} {a C : Addr} {od : Option Addr} (ok : HOk P w H h) (e : H a = some (xob a C od)) : ∃ (o : Obj) (vs : Array Value), h.get? a = some o ∧ o.cls = .ref C ∧ o.dict = od ∧ o.data = .fields vs := by
  have x : ObjOk P w H h a (.ext fun h => ∃ (o : Obj) (vs : Array Value), h.get? a = some o ∧ o.cls = .ref C ∧ o.dict = od ∧ o.data = .fields vs) := ok a _ e
  exact x.1
section
variable {X : Cx} {pins : List (Addr × Obj)} {σ : St} {H : Hp} {s : Shared}
/-- an object that no one tracks, made behind the entry, is tracked from here on -/
theorem Inv.adopt (I : Inv X pins σ H s) {a : Addr} {o : Obj} {vs : Array Value} {u : HO} (ha : s.heap.get? a = some o) (hd : o.data = .fields vs) (na : H a = none) (nL : a ≠ X.env.locals)
    (n0 : X.s_0.heap.get? a = none) (np : ∀ p ∈ X.pn ++ pins, p.1 ≠ a) (ok : ∀ H', ObjOk X.prog X.w H' s.heap a u) : Inv X pins σ (upd H a u) s := by
  have ne : ∀ {b : Addr} {z : HO}, H b = some z → b ≠ a := fun {b z} h e => by rw [e, na] at h; cases h
  refine ⟨I.ok, I.os, I.bare, ⟨I.base.keep, I.base.slot, fun b x hb hn hx => ?_, I.base.there, fun b xs hb => ?_, fun b x y hb => ?_, fun b ps hb => ?_⟩, I.loc, I.cell, ?_, fun x c hc => ?_, fun p hp => ?_, fun b z hb => ?_, I.len⟩
  · rw [upd_ne fun e => by rw [e, n0] at hb; cases hb]
    exact I.base.free b x hb hn hx
  · have q := I.base.tups b xs hb
    rw [upd_ne (ne q)]
    exact q
  · have q := I.base.frzs b x y hb
    rw [upd_ne (ne q)]
    exact q
  · obtain ⟨more, q⟩ := I.base.tbls b ps hb
    exact ⟨more, by rw [upd_ne (ne q)]; exact q⟩
  · rw [upd_ne (Ne.symm nL)]
    exact I.free
  · obtain ⟨v, oc, q1, q2⟩ := I.cell x c hc
    rw [upd_ne fun e => by
      rw [e, ha] at q1
      cases q1
      rw [hd] at q2
      cases q2]
    exact I.freeC x c hc
  · obtain ⟨p1, p2, p3⟩ := I.pin p hp
    exact ⟨p1, by rw [upd_ne (np p hp)]; exact p2, p3⟩
  · by_cases e : b = a
    · subst e
      rw [upd_same] at hb
      cases hb
      exact ok _
    · rw [upd_ne e] at hb
      exact (I.hok b z hb).stay (fun c v hc y => y) (fun c hc => by rw [upd_ne (ne hc)]; exact hc) (fun c xs hc => by rw [upd_ne (ne hc)]; exact hc)
theorem Inv.inSuite (I : Inv X pins σ H s) (a : Addr) : Inv (X.suite a (X.pn ++ pins)) [] σ H s :=
  ⟨I.ok.suite _ _, I.os, I.bare, I.base, I.loc, I.cell, I.free, I.freeC, fun p hp => I.pin p (by rw [List.append_nil] at hp; exact hp), I.hok, I.len⟩
theorem Inv.offSuite {a : Addr} (I : Inv (X.suite a (X.pn ++ pins)) [] σ H s) (ok : X.Ok) : Inv X pins σ H s :=
  ⟨ok, I.os, I.bare, I.base, I.loc, I.cell, I.free, I.freeC, fun p hp => I.pin p (by rw [List.append_nil]; exact hp), I.hok, I.len⟩
end
/-- behind a clause its name is gone -/
def offN (i : Nat) (D : Ends) : Ends := ⟨fun σ H => D.nx (σ.set i none) H, D.rt, fun σ H => D.bk (σ.set i none) H, fun σ H => D.ct (σ.set i none) H⟩
/-- a clause: the class asked for, the slot of its name, the suite's reading -/
abbrev Clause := Value × Nat × TS
def wCl (K : PySem.W.Frag) (Wout : WX) (D : Ends) : List Clause → WX
  | [] => Wout
  | q :: r => fun cls d σ H => ∃ b, PySem.W.exmOne K cls q.1 = some b ∧ (b = true → ∃ C, cls = .ref C ∧ ∀ a, H a = none → q.2.2 (offN q.2.1 D) (σ.set q.2.1 (some (.ref a))) (upd H a (xob a C d))) ∧
      (b = false → wCl K Wout D r cls d σ H)
inductive ClOk (X : Cx) : List ExceptHandler → List Clause → Prop
  | nil : ClOk X [] []
  | cons {x n : Str} {c : Value} {i : Nat} {ts : TS} {b₀ : Stmt} {suite : List Stmt} {np pos' : Pos} {hds : List ExceptHandler} {l : List Clause} (hc : Names X x c) (hi : X.N[i]? = some n) (hl : X.env.kindOf n = some .local)
      (hsu : ∀ (a : Addr) (pn : List (Addr × Obj)), PSs (X.suite a pn) (b₀ :: suite) ts) (r : ClOk X hds l) : ClOk X (.ExceptHandler (some (.Name x np)) (some n) (b₀ :: suite) pos' :: hds) ((c, i, ts) :: l)
section
variable {X : Cx} {body : List Stmt} {h₀ : ExceptHandler} {hds : List ExceptHandler} {l : List Clause} {pos : Pos} {tb : WX → TS} {Wout : WX}
/-- try with clauses that name what they caught; it stays behind them -/
theorem ps_try_cl (hs : X.stack = X.env :: X.outer) (hf : X.env.frame = some X.env.locals) (hex : X.ex = []) (hN : X.N.Nodup) (tk : Takes X Wout)
    (hb : ∀ (W : WX) (pn : List (Addr × Obj)) (xe : Value → Shared → Prop), Takes (X.tr pn xe) W → PassesOwn (model X.prog X.w) X.A X.env xe → PSs (X.tr pn xe) body (tb W))
    (hh : ClOk X (h₀ :: hds) l) : PS X (.Try body (h₀ :: hds) [] [] pos) (fun D σ H => tb (wCl X.K Wout D l) D σ H) := by
  refine ⟨fun pins s σ H D I h => wpAny_Try_except ?_⟩
  have xok := I.ok
  have hfr : X.A.frames = some (X.env :: X.outer) := by rw [xok.frames, hs]
  refine wpAny_mono ((hb (wCl X.K Wout D l) (X.pn ++ pins) _ (fun u s1 air => ?_) (PassesOwn.looking (E₁ := X.xe) (K := fun e s2 => wpAny (model X.prog X.w) X.A (setFlight e none) (fun _ s3 => wpAny (model X.prog X.w) X.A (handleBy e X.env (h₀ :: hds)) (SP X pins D) X.xe s3) X.xe s2))).run [] s σ H D (I.toTry _) h) (fun fl s1 q => ?_) (fun e s1 q => q)
  · obtain ⟨a, B, sI, ps1, σ1, H1, cls, d, rfl, J0, ground, up1, sky, na, hos, hbare, wish⟩ := air
    have J : Inv X pins σ1 H1 sI := J0.ofTry xok
    show wpAny (model X.prog X.w) X.A (noteFrame (.ref a) X.env) _ _ _
    refine Sky.land Zc.steady hfr hf (by rw [← hs]; exact sky) fun h3 fly3 up3 => ?_
    have J3 : Inv X pins σ1 H1 { s1 with heap := h3 } := J.landed ground fly3.1 (up1.trans up3) hos hbare
    obtain ⟨o3, vs3, at3, z3, d3⟩ := fly3.there
    have off : a ∉ frs (X.env :: X.outer) := fun m => by
      obtain ⟨_, o', at', nf⟩ := fly3.2.2.1.mem m
      rw [at3] at at'
      cases at'
      exact nf _ d3
    have offL : a ≠ X.env.locals := fun z => off (List.mem_filterMap.mpr ⟨X.env, List.mem_cons_self, by rw [hf, z]⟩)
    have offF : a ∉ X.fs := fun m => by
      obtain ⟨e, he, q⟩ := List.mem_filterMap.mp m
      exact off (List.mem_filterMap.mpr ⟨e, List.mem_cons_of_mem _ he, q⟩)
    -- it is no object of the state without it
    have notI : sI.heap.get? a = none := by
      cases q : sI.heap.get? a with
      | none => rfl
      | some o =>
        have z := ground a o q (by rw [hs]; exact off)
        rw [fly3.2.1] at z
        cases z
    have not0 : X.s_0.heap.get? a = none := by
      cases q : X.s_0.heap.get? a with
      | none => rfl
      | some o =>
        obtain ⟨o', z⟩ := J.base.there a o q (by rw [hex]; simp)
        rw [notI] at z
        cases z
    have notP : ∀ p ∈ X.pn ++ pins, p.1 ≠ a := fun p hp z => by
      have y := (J.pin p hp).1
      rw [z, notI] at y
      cases y
    have all : ∀ {hds' : List ExceptHandler} {l' : List Clause}, ClOk X hds' l' → wCl X.K Wout D l' cls d σ1 H1 → wpAny (model X.prog X.w) X.A (handleBy (.ref a) X.env hds') (SP X pins D) X.xe { s1 with heap := h3 } := by
      intro hds' l' ck
      induction ck with
      | nil =>
        intro wi
        refine wpAny_handleBy_nil ?_
        obtain ⟨_, _, _, o, vs, T, _, _, e1, _, e2, e3, _⟩ := id fly3
        have leave : wpAny (model X.prog X.w) X.A (setFlight (.ref a) X.env.frame) (fun _ s4 => wpAny (model X.prog X.w) X.A (throw (.ref a) : Sem Flow) (SP X pins D) X.xe s4) X.xe { s1 with heap := h3 } := by
          rw [hf]
          exact HandSPX.setFlight_upZ fly3 fun h4 held up4 => wpAny_throw (tk _ _ ⟨a, B, sI, pins, σ1, H1, cls, d, rfl, J, ground, (up1.trans up3).trans up4, .inr (.inr (by rw [hs]; exact held)), na, hos, hbare, wi⟩)
        unfold PySem.passOn
        refine wpAny_bind (wpAny_field e1 e2 e3 ?_)
        rw [if_neg (show ¬ ((Value.ref T == Value.none) = true) from by simp)]
        first
          | exact wpAny_bind (wpAny_pure (wpAny_bind leave))
          | exact wpAny_bind leave
      | @cons x n c i ts b₀ suite np pos' hds2 l2 hc hi hl hsu r ih =>
        intro wi
        obtain ⟨b, hm, yes, no⟩ := wi
        have S3 := J3.inSuite a
        refine wpAny_handleBy_cons (codeAny_handlers_test ?_) (by intro q; cases q)
        have ty : PySem.W.Looks (model X.prog X.w) h3 (typeOf (.ref a)) cls := fun A Q E s k q => wpAny_typeOf_ref (k _ _ at3) (by rw [z3.1]; exact q)
        have asks := PySem.W.exm_one (M := model X.prog X.w) J3.kIn ty hm
        have name : ∀ {Q : Value → Shared → Prop} {E : Value → Shared → Prop}, Q c { s1 with heap := h3 } → wpAny (model X.prog X.w) (X.A.mark (some (.ref a))) (eval (.Name x np) X.env) Q E { s1 with heap := h3 } := fun {Q E} q => by
          obtain ⟨g1, g2, g3 | ⟨g3, g4, g5⟩⟩ := hc
          · exact ld_glob (X := X.suite a (X.pn ++ pins)) S3 g1 g3 q g2
          · exact ld_blt (X := X.suite a (X.pn ++ pins)) S3 g1 g3 g4 q g5 g2
        refine name (asks.here ?_)
        cases b with
        | false =>
          show wpAny _ X.A (handleBy (.ref a) X.env hds2) _ _ _
          exact ih (no rfl)
        | true =>
          obtain ⟨C, ec, run⟩ := yes rfl
          refine codeAny_handlers_suite_as (HandSPX.lands_againZ fly3 fun h4 fly4 up4 => ?_)
          have J4 : Inv X pins σ1 H1 { s1 with heap := h4 } := J.landed ground fly4.1 ((up1.trans up3).trans up4) hos hbare
          obtain ⟨o4, vs4, at4, z4, d4⟩ := fly4.there
          subst ec
          have T4 : Inv X pins σ1 (upd H1 a (xob a C d)) { s1 with heap := h4 } := J4.adopt at4 d4 na offL not0 notP fun H' => xob_ok at4 z4 d4
          refine store_ok (X := X.suite a (X.pn ++ pins)) (v := .ref a) (T4.inSuite a) hN hi (.inl hl) rfl (fun s5 S5 => ?_) (.inr hl)
          have fin : ∀ {σ6 : St} {H6 : Hp} {s6 : Shared} {Q : Shared → Prop}, Inv (X.suite a (X.pn ++ pins)) [] σ6 H6 s6 → (∀ s7, Inv X pins (σ6.set i none) H6 s7 → Q s7) →
              wpAny (model X.prog X.w) X.A (do bindName X.env n .none; unbindBehindTheSuite X.env n pos') (fun _ s7 => Q s7) X.xe s6 := fun {σ6 H6 s6 Q} S6 hq => gone_ok (S6.offSuite xok) hN hi hl hq
          refine wpAny_mono ((hsu a (X.pn ++ pins)).run [] s5 _ _ _ S5 (run a na)) (fun fl s6 q => ?_) (fun _ _ z => z.elim)
          cases fl with
          | next =>
            obtain ⟨_, _, S6, q6⟩ := q
            exact fin S6 fun s7 J7 => ⟨_, _, J7, q6⟩
          | brk =>
            obtain ⟨_, _, S6, q6⟩ := q
            exact fin S6 fun s7 J7 => ⟨_, _, J7, q6⟩
          | cont =>
            obtain ⟨_, _, S6, q6⟩ := q
            exact fin S6 fun s7 J7 => ⟨_, _, J7, q6⟩
          | ret u =>
            obtain ⟨_, _, _, S6, r6, q6⟩ := q
            exact fin S6 fun s7 J7 => ⟨_, _, _, J7, r6, q6⟩
    exact all hh wish
  · cases fl with
    | next =>
      obtain ⟨_, _, J', q'⟩ := q
      exact wpAny_execs_nil ⟨_, _, J'.ofTry xok, q'⟩
    | brk =>
      obtain ⟨_, _, J', q'⟩ := q
      exact ⟨_, _, J'.ofTry xok, q'⟩
    | cont =>
      obtain ⟨_, _, J', q'⟩ := q
      exact ⟨_, _, J'.ofTry xok, q'⟩
    | ret u =>
      obtain ⟨_, _, _, J', r', q'⟩ := q
      exact ⟨_, _, _, J'.ofTry xok, r', q'⟩
end
end L2
end

section
set_option Elab.async false
set_option linter.all false
set_option maxRecDepth 100000
set_option maxHeartbeats 4000000
namespace VL
open PySem PySem.Spec PyProof.Rows L2

abbrev D := PyData
abbrev Env := List (Option D)
abbrev Fz := Addr → Prop
abbrev St := L2.St
set_option autoImplicit false

inductive R (α : Type) where
  | ok (a : α)
  | exc (c : Nat) (fs : List D) (ρ : Env)
  | stuck

def R.bind {α β : Type} : R α → (α → R β) → R β
  | .ok a, f => f a
  | .exc c fs ρ, _ => .exc c fs ρ
  | .stuck, _ => .stuck
def R.of {α : Type} : Option α → R α
  | some a => .ok a
  | none => .stuck

/-- the facts of the text that a promise needs -/
structure Gb where
  K : PySem.W.Frag
  cls : Nat → Addr
  fld : Nat → List Str

def keyD : Key → D
  | .inl i => .int i
  | .inr x => .str x

def WrL (K : PySem.W.Frag) (a : Addr) (xs : List V) : Prop :=
  ∃ (o : Obj) (its : Array Value) (n : Nat), K.lookup a = some o ∧ o.cls = .type "list" ∧ o.dict = none ∧ o.data = .seq its n ∧ its.size ≤ sizeLine ∧ Vals xs its.toList
def WrT (K : PySem.W.Frag) (a : Addr) (xs : List V) : Prop :=
  ∃ (o : Obj) (its : Array Value) (n : Nat), K.lookup a = some o ∧ o.cls = .type "tuple" ∧ o.data = .seq its n ∧ its.size ≤ sizeLine ∧ Vals xs its.toList

/-- what dict() may be asked of: pairs with a text ahead -/
def pairish : D → Bool
  | .tuple [.str _, _] => true
  | _ => false
def rowish (ds : List D) : Bool := ds.all pairish
/-- a caught exception by value: its class's name, its fields -/
def excD (nm : Str) (ps : List (D × D)) : D := .dict ((.none, .str nm) :: ps)
/-- the class of that name -/
def ClsN (K : PySem.W.Frag) (nm : Str) (C : Addr) : Prop := PySem.W.nsIn K mainGlobals nm = some (some (.ref C))
mutual
inductive Dq (K : PySem.W.Frag) (F : Fz) (H : Hp) : V → D → Prop
  | non : Dq K F H .non .none
  | bl (b : Bool) : Dq K F H (.bl b) (.bool b)
  | int (i : Int) : Dq K F H (.int i) (.int i)
  | str (x : Str) : Dq K F H (.str x) (.str x)
  | lst {a : Addr} {xs : List V} {ds : List D} : F a → H a = some (.lst xs) → DqAll K F H xs ds → Dq K F H (.ref a) (.list ds)
  | tup {a : Addr} {xs : List V} {ds : List D} : H a = some (.tup xs) → rowish ds = false → DqAll K F H xs ds → Dq K F H (.ref a) (.tuple ds)
  | tupP {a : Addr} {o : Obj} {xs : List V} {ds : List D} : F a → H a = some (.frz o (.tup xs)) → o.dict = none → rowish ds = true → DqAll K F H xs ds → Dq K F H (.ref a) (.tuple ds)
  | scr {a : Addr} {xs : List V} {ds : List D} : (F a ∧ Rd H a (.lst xs)) ∨ WrL K a xs → DqAll K F H xs ds → Dq K F H (.ref a) (.dict [(.none, .list ds)])
  | tupK {a : Addr} {xs : List V} {ds : List D} : WrT K a xs → (∀ ks : List Key, ks ≠ [] → ds ≠ ks.map keyD) → (rowish ds = true → ∃ o, K.lookup a = some o ∧ o.dict = none) → DqAll K F H xs ds → Dq K F H (.ref a) (.tuple ds)
  | dicK {a : Addr} {o : Obj} {kvs : List (Key × V)} {ds : List (D × D)} : F a → H a = some (.frz o (.dK kvs)) → DqKV K F H kvs ds → Dq K F H (.ref a) (.dict ds)
  | dicT {a : Addr} {o : Obj} {kvs : List (List Key × V)} {ds : List (D × D)} : F a → H a = some (.frz o (.dT kvs)) → DqTV K F H kvs ds → Dq K F H (.ref a) (.dict ((.none, .bool true) :: ds))
  | exn0 {a C : Addr} {nm : Str} : F a → H a = some (xob a C none) → ClsN K nm C → Dq K F H (.ref a) (.dict [(.none, .str nm)])
  | exn1 {a C dd : Addr} {nm x : Str} {v : V} {d : D} : F a → H a = some (xob a C (some dd)) → ClsN K nm C → F dd → H dd = some (.xd [(x, v)]) → Dq K F H v d → Dq K F H (.ref a) (.dict [(.none, .str nm), (.str x, d)])
  | fn {a : Addr} {nm : Str} : ClsN K nm a → Dq K F H (.ref a) (.dict [(.none, .tuple [.str nm])])
inductive DqAll (K : PySem.W.Frag) (F : Fz) (H : Hp) : List V → List D → Prop
  | nil : DqAll K F H [] []
  | cons {v : V} {vs : List V} {d : D} {ds : List D} : Dq K F H v d → DqAll K F H vs ds → DqAll K F H (v :: vs) (d :: ds)
inductive DqKV (K : PySem.W.Frag) (F : Fz) (H : Hp) : List (Key × V) → List (D × D) → Prop
  | nil : DqKV K F H [] []
  | cons {k : Key} {v : V} {vs : List (Key × V)} {d : D} {ds : List (D × D)} : Dq K F H v d → DqKV K F H vs ds → DqKV K F H ((k, v) :: vs) ((keyD k, d) :: ds)
inductive DqTV (K : PySem.W.Frag) (F : Fz) (H : Hp) : List (List Key × V) → List (D × D) → Prop
  | nil : DqTV K F H [] []
  | cons {k : List Key} {v : V} {vs : List (List Key × V)} {d : D} {ds : List (D × D)} : Dq K F H v d → DqTV K F H vs ds → DqTV K F H ((k, v) :: vs) ((.tuple (k.map keyD), d) :: ds)
end

/-- what is frozen stays -/
def Grow (F : Fz) (H : Hp) (F' : Fz) (H' : Hp) : Prop := (∀ b, F b → F' b ∧ H' b = H b) ∧ ∀ b xs, H b = some (.tup xs) → H' b = some (.tup xs)
theorem Grow.refl {F : Fz} {H : Hp} : Grow F H F H := ⟨fun _ h => ⟨h, rfl⟩, fun _ _ h => h⟩
theorem Grow.trans {F F1 F2 : Fz} {H H1 H2 : Hp} (a : Grow F H F1 H1) (b : Grow F1 H1 F2 H2) : Grow F H F2 H2 := ⟨fun c h => by
  obtain ⟨h1, e1⟩ := a.1 c h
  obtain ⟨h2, e2⟩ := b.1 c h1
  exact ⟨h2, e2.trans e1⟩, fun c xs h => b.2 c xs (a.2 c xs h)⟩
theorem Grow.upd {F : Fz} {H : Hp} {a : Addr} {u w : HO} (nf : ¬ F a) (ha : H a = some w) (mu : Mut (some w)) : Grow F H F (L2.upd H a u) :=
  ⟨fun b hb => ⟨hb, upd_ne fun z => nf (z ▸ hb)⟩, fun b xs h => by
    rw [upd_ne fun z => by rw [z, ha] at h; cases h; exact mu]
    exact h⟩
theorem Grow.rd {F F' : Fz} {H H' : Hp} {a : Addr} {u : HO} (g : Grow F H F' H') (h : F a) (r : Rd H a u) : Rd H' a u := by
  have e := (g.1 a h).2
  rcases r with r | ⟨o, r⟩
  · exact .inl (e.trans r)
  · exact .inr ⟨o, e.trans r⟩

mutual
theorem Dq.grow {K : PySem.W.Frag} {F F' : Fz} {H H' : Hp} (g : Grow F H F' H') : ∀ {v : V} {d : D}, Dq K F H v d → Dq K F' H' v d
  | _, _, .non => .non
  | _, _, .bl b => .bl b
  | _, _, .int i => .int i
  | _, _, .str x => .str x
  | _, _, .lst h r q => .lst (g.1 _ h).1 ((g.1 _ h).2.trans r) (DqAll.grow g q)
  | _, _, .tup r c q => .tup (g.2 _ _ r) c (DqAll.grow g q)
  | _, _, .tupP f r d c q => .tupP (g.1 _ f).1 ((g.1 _ f).2.trans r) d c (DqAll.grow g q)
  | _, _, .scr w q => .scr (w.elim (fun h => .inl ⟨(g.1 _ h.1).1, g.rd h.1 h.2⟩) .inr) (DqAll.grow g q)
  | _, _, .tupK w n m q => .tupK w n m (DqAll.grow g q)
  | _, _, .dicK h r q => .dicK (g.1 _ h).1 ((g.1 _ h).2.trans r) (DqKV.grow g q)
  | _, _, .dicT h r q => .dicT (g.1 _ h).1 ((g.1 _ h).2.trans r) (DqTV.grow g q)
  | _, _, .exn0 h r c => .exn0 (g.1 _ h).1 ((g.1 _ h).2.trans r) c
  | _, _, .exn1 h r c h' r' q => .exn1 (g.1 _ h).1 ((g.1 _ h).2.trans r) c (g.1 _ h').1 ((g.1 _ h').2.trans r') (Dq.grow g q)
  | _, _, .fn c => .fn c
theorem DqAll.grow {K : PySem.W.Frag} {F F' : Fz} {H H' : Hp} (g : Grow F H F' H') : ∀ {vs : List V} {ds : List D}, DqAll K F H vs ds → DqAll K F' H' vs ds
  | _, _, .nil => .nil
  | _, _, .cons q r => .cons (Dq.grow g q) (DqAll.grow g r)
theorem DqKV.grow {K : PySem.W.Frag} {F F' : Fz} {H H' : Hp} (g : Grow F H F' H') : ∀ {vs : List (Key × V)} {ds : List (D × D)}, DqKV K F H vs ds → DqKV K F' H' vs ds
  | _, _, .nil => .nil
  | _, _, .cons q r => .cons (Dq.grow g q) (DqKV.grow g r)
theorem DqTV.grow {K : PySem.W.Frag} {F F' : Fz} {H H' : Hp} (g : Grow F H F' H') : ∀ {vs : List (List Key × V)} {ds : List (D × D)}, DqTV K F H vs ds → DqTV K F' H' vs ds
  | _, _, .nil => .nil
  | _, _, .cons q r => .cons (Dq.grow g q) (DqTV.grow g r)
end
section
variable {K : PySem.W.Frag} {F F' : Fz} {H H' : Hp}
theorem DqAll.length : ∀ {vs : List V} {ds : List D}, DqAll K F H vs ds → vs.length = ds.length
  | _, _, .nil => rfl
  | _, _, .cons _ r => congrArg (· + 1) (DqAll.length r)
theorem DqAll.append : ∀ {vs ws : List V} {ds es : List D}, DqAll K F H vs ds → DqAll K F H ws es → DqAll K F H (vs ++ ws) (ds ++ es)
  | _, _, _, _, .nil, s => s
  | _, _, _, _, .cons q r, s => .cons q (DqAll.append r s)
theorem DqAll.get : ∀ {vs : List V} {ds : List D} {i : Nat} {d : D}, DqAll K F H vs ds → ds[i]? = some d → ∃ v, vs[i]? = some v ∧ Dq K F H v d
  | _, _, _, _, .nil, e => by simp at e
  | _, _, 0, _, .cons q _, e => by simp at e; subst e; exact ⟨_, rfl, q⟩
  | _, _, i + 1, _, .cons _ r, e => by
    obtain ⟨v, h1, h2⟩ := DqAll.get (i := i) r (by simpa using e)
    exact ⟨v, by simpa using h1, h2⟩
theorem DqAll.get' : ∀ {vs : List V} {ds : List D} {i : Nat} {v : V}, DqAll K F H vs ds → vs[i]? = some v → ∃ d, ds[i]? = some d ∧ Dq K F H v d
  | _, _, _, _, .nil, e => by simp at e
  | _, _, 0, _, .cons q _, e => by simp at e; subst e; exact ⟨_, rfl, q⟩
  | _, _, i + 1, _, .cons _ r, e => by
    obtain ⟨v, h1, h2⟩ := DqAll.get' (i := i) r (by simpa using e)
    exact ⟨v, by simpa using h1, h2⟩
theorem DqAll.take : ∀ {vs : List V} {ds : List D} (n : Nat), DqAll K F H vs ds → DqAll K F H (vs.take n) (ds.take n)
  | _, _, 0, _ => .nil
  | _, _, _ + 1, .nil => .nil
  | _, _, n + 1, .cons q r => .cons q (DqAll.take n r)
theorem DqAll.drop : ∀ {vs : List V} {ds : List D} (n : Nat), DqAll K F H vs ds → DqAll K F H (vs.drop n) (ds.drop n)
  | _, _, 0, r => r
  | _, _, _ + 1, .nil => .nil
  | _, _, n + 1, .cons _ r => DqAll.drop n r
theorem DqAll.set {v : V} {d : D} (q : Dq K F H v d) : ∀ {vs : List V} {ds : List D} (n : Nat), DqAll K F H vs ds → DqAll K F H (vs.set n v) (ds.set n d)
  | _, _, _, .nil => .nil
  | _, _, 0, .cons _ r => .cons q r
  | _, _, n + 1, .cons p r => .cons p (DqAll.set q n r)
theorem DqAll.erase : ∀ {vs : List V} {ds : List D} (n : Nat), DqAll K F H vs ds → DqAll K F H (vs.eraseIdx n) (ds.eraseIdx n)
  | _, _, _, .nil => .nil
  | _, _, 0, .cons _ r => r
  | _, _, n + 1, .cons p r => .cons p (DqAll.erase n r)
theorem DqAll.reverse : ∀ {vs : List V} {ds : List D}, DqAll K F H vs ds → DqAll K F H vs.reverse ds.reverse
  | _, _, .nil => .nil
  | _, _, .cons q r => by
    rw [List.reverse_cons, List.reverse_cons]
    exact (DqAll.reverse r).append (.cons q .nil)
end

/-! ### the state -/
structure Gm where
  O : List Nat
  P : List (Nat × Addr)
  F0 : Fz
  H0 : Hp

inductive OwnAt (K : PySem.W.Frag) (F : Fz) (H : Hp) (a : Addr) : D → Prop
  | lst {xs : List V} {ds : List D} : H a = some (.lst xs) → DqAll K F H xs ds → OwnAt K F H a (.list ds)
  | dicK {kvs : List (Key × V)} {ds : List (D × D)} : H a = some (.dK kvs) → DqKV K F H kvs ds → OwnAt K F H a (.dict ds)
  | dicT {kvs : List (List Key × V)} {ds : List (D × D)} : H a = some (.dT kvs) → DqTV K F H kvs ds → OwnAt K F H a (.dict ((.none, .bool true) :: ds))
theorem OwnAt.some {K : PySem.W.Frag} {F : Fz} {H : Hp} {a : Addr} {d : D} (h : OwnAt K F H a d) : ∃ o, H a = some o := by
  cases h with
  | lst e _ => exact ⟨_, e⟩
  | dicK e _ => exact ⟨_, e⟩
  | dicT e _ => exact ⟨_, e⟩
theorem OwnAt.grow {K : PySem.W.Frag} {F F' : Fz} {H H' : Hp} {a : Addr} {d : D} (g : Grow F H F' H') (e : H' a = H a) (h : OwnAt K F H a d) : OwnAt K F' H' a d := by
  cases h with
  | lst q r => exact .lst (e.trans q) (r.grow g)
  | dicK q r => exact .dicK (e.trans q) (r.grow g)
  | dicT q r => exact .dicT (e.trans q) (r.grow g)
/-- what stands at a when it is frozen: a dict is locked -/
def Lkd (d : D) (H H1 : Hp) (a : Addr) : Prop := match d with
  | .dict _ => ∃ o u, H a = some u ∧ H1 a = some (.frz o u)
  | _ => H1 a = H a
theorem OwnAt.lock {K : PySem.W.Frag} {F F' : Fz} {H H1 : Hp} {a : Addr} {d : D} (h : OwnAt K F H a d) (g : Grow F H F' H1) (f : F' a) (l : Lkd d H H1 a) : Dq K F' H1 (.ref a) d := by
  cases h with
  | lst q r => exact .lst f ((show H1 a = H a from l).trans q) (r.grow g)
  | dicK q r =>
    obtain ⟨o, u, h1, h2⟩ := l
    rw [q] at h1
    cases h1
    exact .dicK f h2 (r.grow g)
  | dicT q r =>
    obtain ⟨o, u, h1, h2⟩ := l
    rw [q] at h1
    cases h1
    exact .dicT f h2 (r.grow g)
/-- a dict of one's own can be locked -/
theorem OwnAt.mut {K : PySem.W.Frag} {F : Fz} {H : Hp} {a : Addr} {d : D} (h : OwnAt K F H a d) : ∃ u, H a = Option.some u ∧ Mut (Option.some u) := by
  cases h with
  | lst q r => exact ⟨_, q, trivial⟩
  | dicK q r => exact ⟨_, q, trivial⟩
  | dicT q r => exact ⟨_, q, trivial⟩

structure Rel (K : PySem.W.Frag) (Γ : Gm) (F : Fz) (ρ : Env) (σ : St) (H : Hp) : Prop where
  len : ρ.length = σ.length
  trk : ∀ b, F b → ∃ o, H b = some o
  val : ∀ i d, ρ[i]? = some (some d) → i ∉ Γ.O → ∃ v, σ[i]? = some (some v) ∧ Dq K F H v d
  own : ∀ i d, ρ[i]? = some (some d) → i ∈ Γ.O → ∃ a, σ[i]? = some (some (.ref a)) ∧ ¬ F a ∧ OwnAt K F H a d ∧ (Γ.H0 a = none ∨ (i, a) ∈ Γ.P)
  inj : ∀ i j a d e, i ∈ Γ.O → j ∈ Γ.O → ρ[i]? = some (some d) → ρ[j]? = some (some e) → σ[i]? = some (some (.ref a)) → σ[j]? = some (some (.ref a)) → i = j
  pin : ∀ i a, (i, a) ∈ Γ.P → i ∈ Γ.O ∧ (∃ d, ρ[i]? = some (some d)) ∧ σ[i]? = some (some (.ref a))
  ext : ∀ b o, Γ.H0 b = some o → (∀ i, (i, b) ∉ Γ.P) → H b = some o
  fro : ∀ b, F b → Γ.F0 b ∨ Γ.H0 b = none
  frm : ∀ b, Γ.F0 b → F b
  dom : ∀ j, j ∈ Γ.O → ∀ v, σ[j]? = some (some v) → ∃ d, ρ[j]? = some (some d)

/-- a slot of one's own holds it -/
def Own (O : List Nat) (σ : St) (b : Addr) : Prop := ∃ j, j ∈ O ∧ σ[j]? = some (some (.ref b))
/-- what no slot owns stays as it is -/
structure Kp (O : List Nat) (σ : St) (F : Fz) (H : Hp) (F' : Fz) (H' : Hp) : Prop where
  frz : ∀ b, F b → F' b
  keep : ∀ b o, H b = some o → ¬ Own O σ b → H' b = some o ∧ (F' b → F b)
theorem Kp.refl {O : List Nat} {σ : St} {F : Fz} {H : Hp} : Kp O σ F H F H := ⟨fun _ h => h, fun _ _ h _ => ⟨h, fun z => z⟩⟩
theorem Kp.trans {O : List Nat} {σ : St} {F F1 F2 : Fz} {H H1 H2 : Hp} (a : Kp O σ F H F1 H1) (b : Kp O σ F1 H1 F2 H2) : Kp O σ F H F2 H2 :=
  ⟨fun c h => b.frz c (a.frz c h), fun c o h n => by
    obtain ⟨h1, f1⟩ := a.keep c o h n
    obtain ⟨h2, f2⟩ := b.keep c o h1 n
    exact ⟨h2, fun z => f1 (f2 z)⟩⟩
theorem Rel.nown {K : PySem.W.Frag} {Γ : Gm} {F : Fz} {ρ : Env} {σ : St} {H : Hp} (r : Rel K Γ F ρ σ H) {b : Addr} (h : F b) : ¬ Own Γ.O σ b := fun ⟨j, hj, hs⟩ => by
  obtain ⟨d, hd⟩ := r.dom j hj _ hs
  obtain ⟨a, ha, nf, _⟩ := r.own j d hd hj
  rw [hs] at ha; cases ha
  exact nf h
theorem Rel.nownN {K : PySem.W.Frag} {Γ : Gm} {F : Fz} {ρ : Env} {σ : St} {H : Hp} (r : Rel K Γ F ρ σ H) {b : Addr} (h : H b = none) : ¬ Own Γ.O σ b := fun ⟨j, hj, hs⟩ => by
  obtain ⟨d, hd⟩ := r.dom j hj _ hs
  obtain ⟨a, ha, _, oa, _⟩ := r.own j d hd hj
  rw [hs] at ha; cases ha
  obtain ⟨u, hu⟩ := oa.some
  rw [h] at hu; cases hu
theorem OwnAt.ntup {K : PySem.W.Frag} {F : Fz} {H : Hp} {a : Addr} {d : D} (h : OwnAt K F H a d) (xs : List V) : H a ≠ Option.some (.tup xs) := fun z => by
  cases h with
  | lst e _ => rw [e] at z; cases z
  | dicK e _ => rw [e] at z; cases z
  | dicT e _ => rw [e] at z; cases z
theorem Rel.nownT {K : PySem.W.Frag} {Γ : Gm} {F : Fz} {ρ : Env} {σ : St} {H : Hp} (r : Rel K Γ F ρ σ H) {b : Addr} {xs : List V} (h : H b = some (.tup xs)) : ¬ Own Γ.O σ b := fun ⟨j, hj, hs⟩ => by
  obtain ⟨d, hd⟩ := r.dom j hj _ hs
  obtain ⟨a, ha, _, oa, _⟩ := r.own j d hd hj
  rw [hs] at ha; cases ha
  exact oa.ntup xs h
theorem Kp.g {K : PySem.W.Frag} {Γ : Gm} {F F' : Fz} {ρ : Env} {σ : St} {H H' : Hp} (k : Kp Γ.O σ F H F' H') (r : Rel K Γ F ρ σ H) : Grow F H F' H' := ⟨fun b h => by
  obtain ⟨o, q⟩ := r.trk b h
  exact ⟨k.frz b h, by rw [q, (k.keep b o q (r.nown h)).1]⟩, fun b xs h => (k.keep b _ h (r.nownT h)).1⟩

/-- objects are added, no more -/
structure Ext (F : Fz) (H : Hp) (F' : Fz) (H' : Hp) : Prop where
  same : ∀ b o, H b = some o → H' b = some o
  mono : ∀ b, F b → F' b
  new : ∀ b, F' b → F b ∨ H b = none
  trk : ∀ b, F' b → ∃ o, H' b = some o
theorem Ext.refl {F : Fz} {H : Hp} (t : ∀ b, F b → ∃ o, H b = some o) : Ext F H F H := ⟨fun _ _ h => h, fun _ h => h, fun _ h => .inl h, t⟩
theorem Ext.trans {F F1 F2 : Fz} {H H1 H2 : Hp} (a : Ext F H F1 H1) (b : Ext F1 H1 F2 H2) : Ext F H F2 H2 where
  same := fun c o h => b.same c o (a.same c o h)
  mono := fun c h => b.mono c (a.mono c h)
  new := fun c h => by
    rcases b.new c h with h | h
    · exact a.new c h
    · cases q : H c with
      | none => exact .inr rfl
      | some o => rw [a.same c o q] at h; cases h
  trk := b.trk
theorem Ext.grow {F F' : Fz} {H H' : Hp} (t : ∀ b, F b → ∃ o, H b = some o) (e : Ext F H F' H') : Grow F H F' H' := ⟨fun b h => by
  obtain ⟨o, q⟩ := t b h
  exact ⟨e.mono b h, by rw [q, e.same b o q]⟩, fun b xs h => e.same b _ h⟩
/-- the script's data -/
abbrev scr (ds : List D) : D := .dict [(.none, .list ds)]
/-- a new frozen object -/
theorem Ext.alloc {F : Fz} {H : Hp} {p : Addr} {o : HO} (t : ∀ b, F b → ∃ o, H b = some o) (n : H p = none) : Ext F H (fun b => F b ∨ b = p) (upd H p o) where
  same := fun b u h => by rw [upd_ne (ne_of_none h n)]; exact h
  mono := fun b h => .inl h
  new := fun b h => by
    rcases h with h | rfl
    · exact .inl h
    · exact .inr n
  trk := fun b h => by
    by_cases q : b = p
    · subst q; exact ⟨o, upd_same⟩
    · rcases h with h | h
      · rw [upd_ne q]; exact t b h
      · exact absurd h q
/-- a new object of one's own -/
theorem Ext.laid {F : Fz} {H : Hp} {p : Addr} {o : HO} (t : ∀ b, F b → ∃ o, H b = some o) (n : H p = none) : Ext F H F (upd H p o) where
  same := fun b u h => by rw [upd_ne (ne_of_none h n)]; exact h
  mono := fun b h => h
  new := fun b h => .inl h
  trk := fun b h => by
    obtain ⟨u, q⟩ := t b h
    exact ⟨u, by rw [upd_ne (ne_of_none q n)]; exact q⟩
theorem Ext.freeze {F : Fz} {H : Hp} {F' : Fz} {H' : Hp} {p : Addr} {o : HO} (e : Ext F H F' H') (h : H' p = some o) (n : H p = none) : Ext F H (fun b => F' b ∨ b = p) H' where
  same := e.same
  mono := fun b h => .inl (e.mono b h)
  new := fun b h => by
    rcases h with h | rfl
    · exact e.new b h
    · exact .inr n
  trk := fun b h' => by
    rcases h' with h' | rfl
    · exact e.trk b h'
    · exact ⟨o, h⟩

section
variable {K : PySem.W.Frag} {Γ : Gm} {F F' : Fz} {H H' : Hp} {ρ : Env} {σ : St}
theorem Rel.h0 (r : Rel K Γ F ρ σ H) {b : Addr} (h : H b = none) : Γ.H0 b = none := by
  cases q : Γ.H0 b with
  | none => rfl
  | some o =>
    by_cases hp : ∃ i, (i, b) ∈ Γ.P
    · obtain ⟨i, hp⟩ := hp
      obtain ⟨ho, ⟨d, hd⟩, hs⟩ := r.pin i b hp
      obtain ⟨a, ha, _, oa, _⟩ := r.own i d hd ho
      rw [hs] at ha
      cases ha
      obtain ⟨u, hu⟩ := oa.some
      rw [hu] at h; cases h
    · rw [r.ext b o q (fun i hi => hp ⟨i, hi⟩)] at h
      cases h
theorem Rel.to (r : Rel K Γ F ρ σ H) (e : Ext F H F' H') : Rel K Γ F' ρ σ H' where
  len := r.len
  trk := e.trk
  val := fun i d h n => by
    obtain ⟨v, h1, h2⟩ := r.val i d h n
    exact ⟨v, h1, h2.grow (e.grow r.trk)⟩
  own := fun i d h n => by
    obtain ⟨a, h1, h2, h3, h4⟩ := r.own i d h n
    obtain ⟨o, q⟩ := h3.some
    refine ⟨a, h1, fun z => ?_, h3.grow (e.grow r.trk) (by rw [q, e.same a o q]), h4⟩
    rcases e.new a z with z | z
    · exact h2 z
    · rw [q] at z; cases z
  inj := r.inj
  pin := r.pin
  ext := fun b o h n => e.same b o (r.ext b o h n)
  fro := fun b h => by
    rcases e.new b h with h | h
    · exact r.fro b h
    · exact .inr (r.h0 h)
  frm := fun b h => e.mono b (r.frm b h)
  dom := r.dom
theorem Ext.kp {O : List Nat} (e : Ext F H F' H') : Kp O σ F H F' H' := ⟨e.mono, fun b o h _ => ⟨e.same b o h, fun z => by
  rcases e.new b z with z | z
  · exact z
  · rw [h] at z; cases z⟩⟩
/-- a slot's name takes a value that is data -/
theorem Rel.setD (r : Rel K Γ F ρ σ H) {i : Nat} {v : V} {d : D} (q : Dq K F H v d) (hp : ∀ a, (i, a) ∉ Γ.P) : Rel K { Γ with O := Γ.O.filter (fun j => decide (j ≠ i)) } F (ρ.set i (some d)) (σ.set i (some v)) H := by
  have mo : ∀ {j : Nat}, j ∈ Γ.O.filter (fun j => decide (j ≠ i)) ↔ j ∈ Γ.O ∧ j ≠ i := by
    intro j; rw [List.mem_filter, decide_eq_true_eq]
  refine ⟨by rw [List.length_set, List.length_set]; exact r.len, r.trk, fun j e h n => ?_, fun j e h n => ?_, fun j k a e e' hj hk h1 h2 h3 h4 => ?_, fun j a h => ?_, r.ext, r.fro, r.frm, fun j hj w hs => ?_⟩
  · by_cases c : i = j
    · subst c
      have hl : i < ρ.length := by
        have := List.getElem?_eq_some_iff.mp h
        obtain ⟨w, _⟩ := this
        rw [List.length_set] at w; exact w
      rw [List.getElem?_set_self hl] at h
      cases h
      exact ⟨v, by rw [List.getElem?_set_self (by rw [← r.len]; exact hl)], q⟩
    · rw [List.getElem?_set_ne c] at h ⊢
      exact r.val j e h (fun z => n (mo.mpr ⟨z, fun w => c w.symm⟩))
  · obtain ⟨n1, n2⟩ := mo.mp n
    rw [List.getElem?_set_ne (fun w => n2 w.symm)] at h ⊢
    exact r.own j e h n1
  · obtain ⟨n1, n2⟩ := mo.mp hj
    obtain ⟨m1, m2⟩ := mo.mp hk
    rw [List.getElem?_set_ne (fun w => n2 w.symm)] at h1 h3
    rw [List.getElem?_set_ne (fun w => m2 w.symm)] at h2 h4
    exact r.inj j k a e e' n1 m1 h1 h2 h3 h4
  · obtain ⟨h1, h2, h3⟩ := r.pin j a h
    have c : j ≠ i := fun z => hp a (z ▸ h)
    refine ⟨mo.mpr ⟨h1, c⟩, ?_, ?_⟩
    · rw [List.getElem?_set_ne (fun w => c w.symm)]; exact h2
    · rw [List.getElem?_set_ne (fun w => c w.symm)]; exact h3
  · obtain ⟨n1, n2⟩ := mo.mp hj
    rw [List.getElem?_set_ne (fun w => n2 w.symm)] at hs ⊢
    exact r.dom j n1 w hs
/-- a slot's name takes a new object of its own -/
theorem Rel.setO (r : Rel K Γ F ρ σ H) {i : Nat} {a : Addr} {d : D} (q : OwnAt K F H a d) (nf : ¬ F a) (n0 : Γ.H0 a = none) (nu : ¬ Own Γ.O σ a) (hp : ∀ a, (i, a) ∉ Γ.P) :
    Rel K { Γ with O := i :: Γ.O } F (ρ.set i (some d)) (σ.set i (some (.ref a))) H := by
  refine ⟨by rw [List.length_set, List.length_set]; exact r.len, r.trk, fun j e h n => ?_, fun j e h n => ?_, fun j k b e e' hj hk h1 h2 h3 h4 => ?_, fun j a h => ?_, r.ext, r.fro, r.frm, fun j hj w hs => ?_⟩
  · have c : i ≠ j := fun z => n (by rw [z]; exact List.mem_cons_self)
    rw [List.getElem?_set_ne c] at h ⊢
    exact r.val j e h (fun z => n (List.mem_cons_of_mem _ z))
  · by_cases c : i = j
    · subst c
      have hl : i < ρ.length := by
        obtain ⟨w, _⟩ := List.getElem?_eq_some_iff.mp h
        rw [List.length_set] at w; exact w
      rw [List.getElem?_set_self hl] at h
      cases h
      exact ⟨a, by rw [List.getElem?_set_self (by rw [← r.len]; exact hl)], nf, q, .inl n0⟩
    · rw [List.getElem?_set_ne c] at h ⊢
      exact r.own j e h (by
        rcases List.mem_cons.mp n with z | z
        · exact absurd z.symm c
        · exact z)
  · by_cases c : i = j
    · by_cases c' : i = k
      · exact c.symm.trans c'
      · subst c
        rw [List.getElem?_set_ne c'] at h2 h4
        have hl : i < σ.length := by
          obtain ⟨w, _⟩ := List.getElem?_eq_some_iff.mp h3
          rw [List.length_set] at w; exact w
        rw [List.getElem?_set_self hl] at h3
        cases h3
        exact absurd ⟨k, (by
          rcases List.mem_cons.mp hk with z | z
          · exact absurd z.symm c'
          · exact z), h4⟩ nu
    · by_cases c' : i = k
      · subst c'
        rw [List.getElem?_set_ne c] at h1 h3
        have hl : i < σ.length := by
          obtain ⟨w, _⟩ := List.getElem?_eq_some_iff.mp h4
          rw [List.length_set] at w; exact w
        rw [List.getElem?_set_self hl] at h4
        cases h4
        exact absurd ⟨j, (by
          rcases List.mem_cons.mp hj with z | z
          · exact absurd z.symm c
          · exact z), h3⟩ nu
      · rw [List.getElem?_set_ne c] at h1 h3
        rw [List.getElem?_set_ne c'] at h2 h4
        refine r.inj j k b e e' ?_ ?_ h1 h2 h3 h4
        · rcases List.mem_cons.mp hj with z | z
          · exact absurd z.symm c
          · exact z
        · rcases List.mem_cons.mp hk with z | z
          · exact absurd z.symm c'
          · exact z
  · obtain ⟨h1, h2, h3⟩ := r.pin j a h
    have c : i ≠ j := fun z => hp a (z ▸ h)
    refine ⟨List.mem_cons_of_mem _ h1, ?_, ?_⟩
    · rw [List.getElem?_set_ne c]; exact h2
    · rw [List.getElem?_set_ne c]; exact h3
  · by_cases c : i = j
    · subst c
      have hl : i < σ.length := by
        obtain ⟨w, _⟩ := List.getElem?_eq_some_iff.mp hs
        rw [List.length_set] at w; exact w
      exact ⟨d, by rw [List.getElem?_set_self (by rw [r.len]; exact hl)]⟩
    · rw [List.getElem?_set_ne c] at hs ⊢
      refine r.dom j ?_ w hs
      rcases List.mem_cons.mp hj with z | z
      · exact absurd z.symm c
      · exact z
end
end VL
end

section
set_option Elab.async false
set_option linter.all false
set_option maxRecDepth 100000
set_option maxHeartbeats 4000000
namespace VL
open PySem PySem.Spec PyProof.Rows L2
set_option autoImplicit false
/-! ### new tuples, as they are or with their object told (an object without a dict) -/
abbrev Lay (H : Hp) (xs : List V) (Q : VK) : Prop :=
  (∀ p, H p = none → Q (.ref p) (upd H p (.tup xs))) ∨ (∀ p o, H p = none → o.dict = none → Q (.ref p) (upd H p (.frz o (.tup xs))))
theorem Lay.imp {H : Hp} {xs : List V} {Q Q' : VK} (h : Lay H xs Q) (i : ∀ v H', Q v H' → Q' v H') : Lay H xs Q' :=
  Or.imp (fun q p n => i _ _ (q p n)) (fun q p o n d => i _ _ (q p o n d)) h
section
variable {X : Cx} {pins : List (Addr × Obj)} {σ : St} {H : Hp} {s : Shared}
theorem lay_ep (I : Inv X pins σ H s) {xs : List V} {us : List Value} (r : Vals xs us) (z : xs.length ≤ sizeLine) {h' : Heap} {t' : Nat} {p : Addr} {n : Nat}
    (kp : ∀ b o, s.heap.get? b = some o → h'.get? b = some o) (hp : s.heap.objs.size ≤ p) (ho : h'.get? p = some { cls := .type "tuple", data := .seq us.toArray n }) {Q : VK} (q : Lay H xs Q) : EP X pins σ Q (.ref p) { s with heap := h', toks := t' } := by
  have tp : IsTup h' p us.toArray := ⟨_, ho, rfl, _, rfl⟩
  have np := I.hok.fresh hp
  rcases q with q | q
  · have J : Inv X pins σ (upd H p (.tup xs)) { s with heap := h', toks := t' } := I.laid kp hp ⟨z, us, r, tp⟩
    exact ⟨.ref p, _, J, rfl, q p np⟩
  · have J : Inv X pins σ (upd H p (.frz { cls := .type "tuple", data := .seq us.toArray n } (.tup xs))) { s with heap := h', toks := t' } := I.laid kp hp ⟨ho, z, us, r, tp⟩
    exact ⟨.ref p, _, J, rfl, q p _ np rfl⟩
end
section
variable {X : Cx} {es : List Expr} {t : TA} {pos : Pos}
def tTupP (t : TA) : TE := fun σ H Q => t σ H fun xs H1 => xs.length ≤ sizeLine ∧ Lay H1 xs Q
theorem pe_tupP {x1} (h : PA X es t) : PE X (.Tuple es x1 pos) (tTupP t) :=
  ⟨fun pins s σ H Q I hq => wpAny_Tuple_spliced (thn (h.run pos pins s σ H _ I hq) fun us s1 w => by
    obtain ⟨xs, H1, I1, r, z, q⟩ := w
    exact ⟨by rw [← r.length]; exact z, lay_ep (t' := s1.toks) I1 r z (fun b u e => Heap.get?_push_of_some _ e) (Nat.le_refl _) (Heap.get?_push_size _ rfl) q⟩)⟩
theorem call_tupP : CallR X (.type "tuple") (fun xs H Q => ∃ p ys, xs = [.ref p] ∧ ((SqL X.K H p ys ∧ Lay H ys Q) ∨ (SqT X.K H p ys ∧ Q (.ref p) H))) := by
  intro pins s σ H xs us Q I r h
  obtain ⟨p, ys, e, h⟩ := h
  rcases h with ⟨hq, q⟩ | h
  · subst e
    obtain ⟨u, e, rx⟩ := vals1 r
    subst e
    cases rx
    obtain ⟨its, r', pl, hz⟩ := I.list hq
    have hl : its.toArray.size ≤ sizeLine := by rw [List.size_toArray, ← r'.length]; exact hz
    refine call_tuple_list pl.isList (fun h' kp => ?_) hl
    have I1 : Inv X pins σ H { s with heap := h' } := I.kept (t' := s.toks) kp
    exact lay_ep (t' := s.toks) I1 r' hz (fun b o e => Heap.get?_push_of_some _ e) (Nat.le_refl _) (Heap.get?_push_size _ rfl) q
  · exact call_tuple_of pins s σ H xs us Q I r ⟨p, ys, e, .inr h⟩
def rCatP (K : PySem.W.Frag) : R2 := fun x y H Q => ∃ a b xs ys, x = .ref a ∧ y = .ref b ∧ SqT K H a xs ∧ SqT K H b ys ∧ xs.length + ys.length ≤ sizeLine ∧
  (xs = [] → Q (.ref b) H) ∧ (xs ≠ [] → ys = [] → Q (.ref a) H) ∧ (xs ≠ [] → ys ≠ [] → Lay H (xs ++ ys) Q)
theorem op_catP : OpR X (binaryOp .Add) (rCatP X.K) := by
  intro pins s σ H x y v u Q I rx ry h
  obtain ⟨a, b, xs, ys, e1, e2, ha, hb, hz, q0, q1, q2⟩ := h
  by_cases hx : xs = []
  · exact op_catA pins s σ H x y v u Q I rx ry ⟨a, b, xs, ys, e1, e2, ha, hb, hz, q0, q1, fun n => absurd hx n⟩
  · subst e1 e2
    cases rx
    cases ry
    obtain ⟨its, r1, p1, _⟩ := I.tuple ha
    obtain ⟨its2, r2, p2, _⟩ := I.tuple hb
    refine HT.cat_tup p1 p2 (fun z => hx (r1.nil_iff.mp z)) (fun z => ⟨.ref a, H, I, rfl, q1 hx (r2.nil_iff.mp z)⟩) (fun z => ?_) (by rw [← r1.length, ← r2.length]; exact hz)
    exact lay_ep (t' := s.toks) I (r1.append r2) (by rw [List.length_append]; exact hz) (fun b o e => Heap.get?_push_of_some _ e) (Nat.le_refl _) (Heap.get?_push_size _ rfl) (q2 hx fun w => z (r2.nil_iff.mpr w))
/-- t * 0 -/
theorem tuple_mul0 (l : Addr) (items : Array Value) (n : Nat) (dd : Option Addr) (sl : Array (Option Value)) (u : Tok) (c1 : (items.isEmpty || (0 : Int) == 1) = false) :
    Meets (Builtin.«tuple.__mul__» ⟨[.ref l, .int 0 u], []⟩) (fun _ R s => s.heap.get? l = some { cls := .type "tuple", dict := dd, data := .seq items n, slots := sl } ∧
      R (.ok (.ret (Value.ref s.heap.objs.size))) { s with heap := s.heap.push { cls := Value.type "tuple", data := Data.seq #[] }, toks := s.toks }) :=
  .of_wp fun prog w A R s h => by
    obtain ⟨hp, g, d, tk, os⟩ := s
    obtain ⟨hl, h⟩ := h
    have f1 := AutoSeq1.idx_int
    wp_walk using wpAny_loadPart' hl
    repeat (first
      | (refine wpAny_ite_false (decide_eq_false (by rw [c1]; exact Bool.false_ne_true)) ?_; wp_walk using wpAny_loadPart' hl)
      | (refine wpAny_ite_true (decide_eq_true rfl) ?_; wp_walk using wpAny_loadPart' hl))
    exact ⟨_, rfl, h⟩
theorem op_repT0 : OpR X (binaryOp .Mult) (fun x y H Q => ∃ l xs, x = .ref l ∧ y = .int 0 ∧ SqT X.K H l xs ∧ xs ≠ [] ∧ Lay H [] Q) := by
  intro pins s σ H x y v u Q I rx ry h
  obtain ⟨l, xs, rfl, rfl, hT, hne, q⟩ := h
  cases rx
  obtain ⟨t, rfl⟩ := ry
  obtain ⟨its, r, ⟨⟨cls, dd, data, sl⟩, ho, hc, n, hd⟩, hs⟩ := I.tuple hT
  simp only at hc hd
  subst hc hd
  have hi : its.toArray.isEmpty = false := by
    cases its with
    | nil => exact absurd (r.nil_iff.mp rfl) hne
    | cons a b => rfl
  refine wpAny_binaryOp_repeat_ref (T := "tuple") (U := "int") (by decide) ⟨_, ho, rfl⟩ (fun s' => typeIs_int s' 0 t) noFill_tuple_mul F.fills_int_mul F.slot_int_rmul repeat_tuple F.slot_int_index.lookup
    (call_meets F.slot_int_rmul (typeIs_int s 0 t) F.entry_int_rmul (F.args_int_rmul_2 _ _) (int_rmul_tuple 0 t l its.toArray n dd sl)
      ⟨ho, rfl, ⟨_, ho, rfl⟩, call_meets F.slot_tuple_mul ⟨_, ho, rfl⟩ F.entry_tuple_mul (F.args_tuple_mul_2 _ _) (tuple_mul0 l its.toArray n dd sl t (by rw [hi]; rfl)) ⟨ho, ?_⟩⟩)
  exact lay_ep (t' := s.toks) (us := []) I .nil (Nat.zero_le _) (fun b o e => Heap.get?_push_of_some _ e) (Nat.le_refl _) (Heap.get?_push_size _ rfl) q
def rSlP (K : PySem.W.Frag) : V → Option Int → Option Int → Hp → VK → Prop := fun x lo hi H Q => ∃ a xs, x = .ref a ∧ SqT K H a xs ∧
  (HT.sIx xs.length 0 lo = 0 ∧ HT.sIx xs.length xs.length hi = xs.length → Q (.ref a) H) ∧ (¬ (HT.sIx xs.length 0 lo = 0 ∧ HT.sIx xs.length xs.length hi = xs.length) → Lay H (cutV xs lo hi) Q)
theorem sl_tupP : SlR X (rSlP X.K) := by
  intro pins s σ H x v vl vu lo hi sl Q I rx hs pl pu h
  obtain ⟨a, xs, e, hx, q1, q2⟩ := h
  by_cases hw : HT.sIx xs.length 0 lo = 0 ∧ HT.sIx xs.length xs.length hi = xs.length
  · exact sl_tupA pins s σ H x v vl vu lo hi sl Q I rx hs pl pu ⟨a, xs, e, hx, q1, fun n => absurd hw n⟩
  · subst e
    cases rx
    obtain ⟨its, r, ht, hz⟩ := I.tuple hx
    have hn : its.toArray.size = xs.length := by rw [List.size_toArray]; exact r.length.symm
    refine ⟨"tuple", _, PyProof.Rows.slot_tuple_getitem.lookup, ht.typeIs, ?_⟩
    refine HT.getItem_tuple_cut ht hs pl pu (by rw [hn]; exact hw) ?_ (by rw [hn]; exact hz)
    rw [hn]
    exact lay_ep (t' := s.toks) I ((r.drop (HT.sIx xs.length 0 lo)).take (HT.sIx xs.length xs.length hi - HT.sIx xs.length 0 lo)) (Nat.le_trans (cutV_length xs lo hi) hz) (fun b o e => Heap.get?_push_of_some _ e) (Nat.le_refl _) (Heap.get?_push_size _ rfl) (q2 hw)
end
end VL
end

section
set_option Elab.async false
set_option linter.all false
set_option maxRecDepth 100000
set_option maxHeartbeats 4000000
namespace VL
open PySem PySem.Spec PyProof.Rows L2
set_option autoImplicit false

/-! ### readings by values -/
abbrev M (α : Type) := Env → R (α × Env)
def M.pure {α : Type} (a : α) : M α := fun ρ => .ok (a, ρ)
def M.bind {α β : Type} (m : M α) (f : α → M β) : M β := fun ρ => (m ρ).bind fun p => f p.1 p.2
def M.of {α : Type} (o : Option α) : M α := fun ρ => (R.of o).bind fun a => .ok (a, ρ)
abbrev Wish := St → XK
/-- the classes of the errors: place of the class, its field names -/
structure Eb where
  cls : Nat → Addr
  fld : Nat → List Str
def ExcAt (K : PySem.W.Frag) (B : Eb) (F : Fz) (H : Hp) (c : Nat) (fs : List D) (od : Option Addr) : Prop :=
  (fs = [] ∧ B.fld c = [] ∧ od = none) ∨ ∃ d vs, fs ≠ [] ∧ od = some d ∧ F d ∧ H d = some (.xd ((B.fld c).zip vs)) ∧ DqAll K F H vs fs ∧ (B.fld c).length = fs.length

def Res {α : Type} (r : R (α × Env)) (kok : α → Env → Prop) (kex : Nat → List D → Env → Prop) : Prop :=
  match r with
  | .ok p => kok p.1 p.2
  | .exc c fs ρ => kex c fs ρ
  | .stuck => False
theorem Res.bind {α β : Type} {m : M α} {f : α → M β} {ρ : Env} {kok : β → Env → Prop} {kex : Nat → List D → Env → Prop} (h : Res (m.bind f ρ) kok kex) : Res (m ρ) (fun a ρ1 => Res (f a ρ1) kok kex) kex := by
  unfold M.bind at h
  cases e : m ρ with
  | ok p => rw [e] at h; exact h
  | exc c fs ρ' => rw [e] at h; exact h
  | stuck => rw [e] at h; exact h
theorem Res.mono {α : Type} {r : R (α × Env)} {kok kok' : α → Env → Prop} {kex kex' : Nat → List D → Env → Prop} (h : Res r kok kex) (h1 : ∀ a ρ, kok a ρ → kok' a ρ) (h2 : ∀ c fs ρ, kex c fs ρ → kex' c fs ρ) : Res r kok' kex' := by
  cases r with
  | ok p => exact h1 _ _ h
  | exc c fs ρ' => exact h2 _ _ _ h
  | stuck => exact h
theorem Res.of {α : Type} {o : Option α} {ρ : Env} {kok : α → Env → Prop} {kex : Nat → List D → Env → Prop} (h : Res (M.of o ρ) kok kex) : ∃ a, o = some a ∧ kok a ρ := by
  cases o with
  | none => exact h.elim
  | some a => exact ⟨a, rfl, h⟩

/-- what is wanted of an exception, in the state at hand -/
def Kex (K : PySem.W.Frag) (B : Eb) (Γ : Gm) (E : Wish) (σ : St) (F : Fz) (H : Hp) (c : Nat) (fs : List D) (ρ' : Env) : Prop :=
  ∀ F' H' od, Rel K Γ F' ρ' σ H' → Kp Γ.O σ F H F' H' → ExcAt K B F' H' c fs od → E σ (.ref (B.cls c)) od H'
theorem Kex.grow {K : PySem.W.Frag} {B : Eb} {Γ : Gm} {E : Wish} {σ : St} {F F1 : Fz} {H H1 : Hp} {c : Nat} {fs : List D} {ρ' : Env} (h : Kex K B Γ E σ F H c fs ρ') (g : Kp Γ.O σ F H F1 H1) : Kex K B Γ E σ F1 H1 c fs ρ' :=
  fun F' H' od r g' x => h F' H' od r (g.trans g') x

/-- a reading whose answer is α, held as T says -/
def tG {α β : Type} (T : Hp → Fz → Hp → β → α → Prop) (K : PySem.W.Frag) (B : Eb) (Γ : Gm) (E : Wish) (m : M α) : St → Hp → (β → Hp → Prop) → Prop := fun σ H Q => ∃ F ρ, Rel K Γ F ρ σ H ∧
  Res (m ρ) (fun d ρ' => ∀ v H' F', Rel K Γ F' ρ' σ H' → Kp Γ.O σ F H F' H' → T H F' H' v d → Q v H') (Kex K B Γ E σ F H)
def tV (K : PySem.W.Frag) (B : Eb) (Γ : Gm) (E : Wish) (m : M D) : TE := tG (fun _ => Dq K) K B Γ E m
def tVs (K : PySem.W.Frag) (B : Eb) (Γ : Gm) (E : Wish) (m : M (List D)) : TA := tG (fun _ => DqAll K) K B Γ E m
def tVt (K : PySem.W.Frag) (B : Eb) (Γ : Gm) (E : Wish) (m : M Bool) : TT := tG (fun _ _ _ b c => b = c) K B Γ E m
/-- a new object of one's own -/
def Fresh (K : PySem.W.Frag) (Hs : Hp) (F : Fz) (H : Hp) (v : V) (d : D) : Prop := ∃ a, v = .ref a ∧ OwnAt K F H a d ∧ ¬ F a ∧ Hs a = none
def tO (K : PySem.W.Frag) (B : Eb) (Γ : Gm) (E : Wish) (m : M D) : TE := tG (Fresh K) K B Γ E m

def VE (X : Cx) (B : Eb) (Γ : Gm) (E : Wish) (e : Expr) (m : M D) : Prop := PE X e (tV X.K B Γ E m)
def VO (X : Cx) (B : Eb) (Γ : Gm) (E : Wish) (e : Expr) (m : M D) : Prop := PE X e (tO X.K B Γ E m)
def VT (X : Cx) (B : Eb) (Γ : Gm) (E : Wish) (e : Expr) (m : M Bool) : Prop := PT X e (tVt X.K B Γ E m)
def VW (X : Cx) (B : Eb) (Γ : Gm) (E : Wish) (e : Expr) (m : M Bool) : Prop := PW X e (tVt X.K B Γ E m)
structure VA (X : Cx) (B : Eb) (Γ : Gm) (E : Wish) (es : List Expr) (m : M (List D)) : Prop where
  pa : PA X es (tVs X.K B Γ E m)
  len : ∀ ρ ds ρ', m ρ = .ok (ds, ρ') → ds.length = es.length

theorem PE.imp {X : Cx} {e : Expr} {t t' : TE} (h : PE X e t) (i : ∀ σ H Q, t' σ H Q → t σ H Q) : PE X e t' := ⟨fun pins s σ H Q I q => h.run pins s σ H Q I (i σ H Q q)⟩
theorem PT.imp {X : Cx} {e : Expr} {t t' : TT} (h : PT X e t) (i : ∀ σ H Q, t' σ H Q → t σ H Q) : PT X e t' := ⟨fun pins s σ H Q I q => h.run pins s σ H Q I (i σ H Q q)⟩
theorem PW.imp {X : Cx} {e : Expr} {t t' : TT} (h : PW X e t) (i : ∀ σ H Q, t' σ H Q → t σ H Q) : PW X e t' := ⟨fun w pins s σ H Q I q => h.run w pins s σ H Q I (i σ H Q q)⟩
theorem PA.imp {X : Cx} {es : List Expr} {t t' : TA} (h : PA X es t) (i : ∀ σ H Q, t' σ H Q → t σ H Q) : PA X es t' := ⟨fun p pins s σ H Q I q => h.run p pins s σ H Q I (i σ H Q q)⟩
theorem PE.or {X : Cx} {e : Expr} {t t' : TE} (h : PE X e t) (h' : PE X e t') : PE X e (fun σ H Q => t σ H Q ∨ t' σ H Q) := ⟨fun pins s σ H Q I q => q.elim (h.run pins s σ H Q I) (h'.run pins s σ H Q I)⟩
theorem OpR.imp {X : Cx} {f : Value → Value → Sem Value} {r r' : R2} (h : OpR X f r) (i : ∀ x y H Q, r' x y H Q → r x y H Q) : OpR X f r' := fun pins s σ H x y v u Q I rx ry q => h pins s σ H x y v u Q I rx ry (i x y H Q q)
theorem OpR.or {X : Cx} {f : Value → Value → Sem Value} {r r' : R2} (h : OpR X f r) (h' : OpR X f r') : OpR X f (fun x y H Q => r x y H Q ∨ r' x y H Q) := fun pins s σ H x y v u Q I rx ry q =>
  q.elim (h pins s σ H x y v u Q I rx ry) (h' pins s σ H x y v u Q I rx ry)
theorem CallR.imp {X : Cx} {f : Value} {r r' : List V → Hp → VK → Prop} (h : CallR X f r) (i : ∀ x H Q, r' x H Q → r x H Q) : CallR X f r' := fun pins s σ H x u Q I rx q => h pins s σ H x u Q I rx (i x H Q q)
theorem CallR.or {X : Cx} {f : Value} {r r' : List V → Hp → VK → Prop} (h : CallR X f r) (h' : CallR X f r') : CallR X f (fun x H Q => r x H Q ∨ r' x H Q) := fun pins s σ H x u Q I rx q =>
  q.elim (h pins s σ H x u Q I rx) (h' pins s σ H x u Q I rx)

/-! ### operations by values: they add objects, no more -/
abbrev Trk (F : Fz) (H : Hp) : Prop := ∀ b, F b → ∃ o, H b = some o
/-- Q holds behind whatever adds objects and answers d -/
def Gives (K : PySem.W.Frag) (F : Fz) (H : Hp) (d : D) (Q : VK) : Prop := ∀ v H' F', Ext F H F' H' → Dq K F' H' v d → Q v H'
def rV (K : PySem.W.Frag) (g : D → D → Option D) : R2 := fun x y H Q => ∃ F dx dy d, Trk F H ∧ Dq K F H x dx ∧ Dq K F H y dy ∧ g dx dy = some d ∧ Gives K F H d Q
def rVs (K : PySem.W.Frag) (g : List D → Option D) : List V → Hp → VK → Prop := fun xs H Q => ∃ F ds d, Trk F H ∧ DqAll K F H xs ds ∧ g ds = some d ∧ Gives K F H d Q

section
variable {K : PySem.W.Frag} {F F' : Fz} {H H' : Hp} {d : D} {Q : VK}
theorem Gives.here (h : Gives K F H d Q) (t : Trk F H) {v : V} (q : Dq K F H v d) : Q v H := h v H F (.refl t) q
theorem Gives.lst {ds : List D} {vs : List V} {p : Addr} (h : Gives K F H (.list ds) Q) (t : Trk F H) (q : DqAll K F H vs ds) (n : H p = none) : Q (.ref p) (upd H p (.lst vs)) :=
  h _ _ _ (Ext.alloc t n) (.lst (.inr rfl) upd_same (q.grow ((Ext.alloc t n).grow t)))
theorem Gives.lay {ds : List D} {vs : List V} (h : Gives K F H (.tuple ds) Q) (t : Trk F H) (q : DqAll K F H vs ds) : Lay H vs Q := by
  cases c : rowish ds with
  | false => exact .inl fun p n => h _ _ _ (Ext.alloc t n) (.tup upd_same c (q.grow ((Ext.alloc t n).grow t)))
  | true => exact .inr fun p o n d => h _ _ _ (Ext.alloc t n) (.tupP (.inr rfl) upd_same d c (q.grow ((Ext.alloc t n).grow t)))
theorem rowish_mem {ds : List D} {d : D} (h : d ∈ ds) (n : pairish d = false) : rowish ds = false := by
  cases c : rowish ds with
  | false => rfl
  | true => rw [List.all_eq_true.mp c d h] at n; cases n
end

section
variable {X : Cx} {B : Eb} {Γ : Gm} {E : Wish} {a b : Expr} {ma mb : M D} {pos : Pos}
def m1 (g : D → Option D) (ma : M D) : M D := ma.bind fun x => M.of (g x)
def m2 (g : D → D → Option D) (ma mb : M D) : M D := ma.bind fun x => mb.bind fun y => M.of (g x y)

theorem two {g : D → D → Option D} {σ : St} {H : Hp} {Q : VK} (h : tV X.K B Γ E (m2 g ma mb) σ H Q) : tOp (rV X.K g) (tV X.K B Γ E ma) (tV X.K B Γ E mb) σ H Q := by
  obtain ⟨F, ρ, r, h⟩ := h
  refine ⟨F, ρ, r, (Res.bind h).mono (fun x ρ1 h1 v1 H1 F1 r1 g1 q1 => ⟨F1, ρ1, r1, (Res.bind h1).mono (fun y ρ2 h2 v2 H2 F2 r2 g2 q2 => ?_) (fun c fs ρ' k => k.grow g1)⟩) (fun _ _ _ k => k)⟩
  obtain ⟨d, e, h3⟩ := Res.of h2
  exact ⟨F2, x, y, d, r2.trk, q1.grow (g2.g r1), q2, e, fun v H' F' ex q => h3 v H' F' (r2.to ex) ((g1.trans g2).trans ex.kp) q⟩
theorem ve_op {op : Operator} {g : D → D → Option D} (ho : OpR X (binaryOp op) (rV X.K g)) (ha : VE X B Γ E a ma) (hb : VE X B Γ E b mb) : VE X B Γ E (.BinOp a op b pos) (m2 g ma mb) :=
  PE.imp (pe_op ho ha hb) fun _ _ _ h => two h
theorem ve_cmp {op : CmpOp} {g : D → D → Option D} (ho : OpR X (compareOp op) (rV X.K g)) (ha : VE X B Γ E a ma) (hb : VE X B Γ E b mb) (hm : behindInMarks op b = false) : VE X B Γ E (.Compare a [op] [b] pos) (m2 g ma mb) :=
  PE.imp (pe_cmpR ho ha hb hm) fun _ _ _ h => two h
theorem ve_ix {g : D → D → Option D} (ho : IxR X (rV X.K g)) (ha : VE X B Γ E a ma) (hb : VE X B Γ E b mb) (hs : PlainIx b) : VE X B Γ E (.Subscript a b pos) (m2 g ma mb) :=
  PE.imp (pe_ix ho ha hb hs) fun _ _ _ h => two h

/-! ### names, constants -/
def mVar (i : Nat) : M D := fun ρ => match ρ[i]? with
  | some (some d) => .ok (d, ρ)
  | _ => .stuck
theorem ve_var (i : Nat) {x : Str} (hi : i ∉ Γ.O) (hN : X.N[i]? = some x) (hv : Vis X.env.scope x) (hd : (x == ("__debug__" : Str)) = false := by decide) (hcd : (x == ("__classdict__" : Str)) = false := by decide) : VE X B Γ E (.Name x pos) (mVar i) :=
  PE.imp (pe_var hN hv hd hcd) fun σ H Q ⟨F, ρ, r, h⟩ => by
    unfold mVar at h
    cases e : ρ[i]? with
    | none => rw [e] at h; exact h.elim
    | some o =>
      cases o with
      | none => rw [e] at h; exact h.elim
      | some d =>
        rw [e] at h
        obtain ⟨v, h1, h2⟩ := r.val i d e hi
        exact ⟨v, h1, h v H F r .refl h2⟩
def mC (d : D) : M D := fun ρ => .ok (d, ρ)
theorem ve_c {e : Expr} {v : V} {d : D} (h : PE X e (tC v)) (q : ∀ F H, Dq X.K F H v d) : VE X B Γ E e (mC d) :=
  PE.imp h fun σ H Q ⟨F, ρ, r, h⟩ => h v H F r .refl (q F H)
theorem ve_int {i : Int} {j} : VE X B Γ E (.Constant (.int i) j pos) (mC (.int i)) := ve_c pe_int fun _ _ => .int i
theorem ve_bl {i : Bool} {j} : VE X B Γ E (.Constant (.bool i) j pos) (mC (.bool i)) := ve_c pe_bl fun _ _ => .bl i
theorem ve_non {j} : VE X B Γ E (.Constant .none j pos) (mC .none) := ve_c pe_non fun _ _ => .non
theorem ve_str {i : Str} {j} : VE X B Γ E (.Constant (.str i) j pos) (mC (.str i)) := ve_c pe_str fun _ _ => .str i
/-! ### truth -/
def dTruth : D → Option Bool
  | .none => some false
  | .bool b => some b
  | .int i => some (i != 0)
  | .str s => if s.length ≤ sizeLine then some ((s.length : Int) != 0) else none
  | .list xs => some (!xs.isEmpty)
  | .tuple xs => some (!xs.isEmpty)
  | .dict _ => none
def mTruth (m : M D) : M Bool := m.bind fun d => M.of (dTruth d)
theorem dqall_empty {K : PySem.W.Frag} {F : Fz} {H : Hp} {xs : List V} {ds : List D} (q : DqAll K F H xs ds) : xs.isEmpty = ds.isEmpty := by cases q <;> rfl
theorem dq_sqL {K : PySem.W.Frag} {F : Fz} {H : Hp} {v : V} {ds : List D} (q : Dq K F H v (.list ds)) : ∃ a xs, v = .ref a ∧ SqL K H a xs ∧ DqAll K F H xs ds := by
  cases q with
  | lst f r q => exact ⟨_, _, rfl, .inl (.inl r), q⟩
theorem dq_sqT {K : PySem.W.Frag} {F : Fz} {H : Hp} {v : V} {ds : List D} (q : Dq K F H v (.tuple ds)) : ∃ a xs, v = .ref a ∧ SqT K H a xs ∧ DqAll K F H xs ds := by
  cases q with
  | tup r _ q => exact ⟨_, _, rfl, .inl (.inl r), q⟩
  | tupP _ r _ _ q => exact ⟨_, _, rfl, .inl (.inr ⟨_, r⟩), q⟩
  | tupK w _ _ q => exact ⟨_, _, rfl, .inr w, q⟩
theorem dq_int {K : PySem.W.Frag} {F : Fz} {H : Hp} {v : V} {i : Int} (q : Dq K F H v (.int i)) : v = .int i := by cases q; rfl
theorem dq_bl {K : PySem.W.Frag} {F : Fz} {H : Hp} {v : V} {i : Bool} (q : Dq K F H v (.bool i)) : v = .bl i := by cases q; rfl
theorem dq_str {K : PySem.W.Frag} {F : Fz} {H : Hp} {v : V} {i : Str} (q : Dq K F H v (.str i)) : v = .str i := by cases q; rfl
theorem dq_non {K : PySem.W.Frag} {F : Fz} {H : Hp} {v : V} (q : Dq K F H v .none) : v = .non := by cases q; rfl
theorem dq_tru {K : PySem.W.Frag} {F : Fz} {H : Hp} {v : V} {d : D} {k : Bool} (q : Dq K F H v d) (e : dTruth d = some k) : TruV K v H k := by
  cases q with
  | non => exact (Option.some.inj e).symm
  | bl b => exact (Option.some.inj e).symm
  | int i => exact (Option.some.inj e).symm
  | str x =>
    by_cases h : x.length ≤ sizeLine
    · have e' : (if x.length ≤ sizeLine then some ((x.length : Int) != 0) else none) = some k := e
      rw [if_pos h] at e'
      exact ⟨h, (Option.some.inj e').symm⟩
    · have e' : (if x.length ≤ sizeLine then some ((x.length : Int) != 0) else none) = some k := e
      rw [if_neg h] at e'
      cases e'
  | lst f r q => exact .inl ⟨_, .inl (.inl r), by rw [dqall_empty q]; exact (Option.some.inj e).symm⟩
  | scr w q => cases e
  | tup r _ q => exact .inr (.inl ⟨_, .inl (.inl r), by rw [dqall_empty q]; exact (Option.some.inj e).symm⟩)
  | tupP _ r _ _ q => exact .inr (.inl ⟨_, .inl (.inr ⟨_, r⟩), by rw [dqall_empty q]; exact (Option.some.inj e).symm⟩)
  | tupK w _ _ q => exact .inr (.inl ⟨_, .inr w, by rw [dqall_empty q]; exact (Option.some.inj e).symm⟩)
  | dicK _ _ _ => cases e
  | dicT _ _ _ => cases e
  | exn0 _ _ _ => cases e
  | exn1 _ _ _ _ _ _ => cases e
  | fn _ => cases e
theorem vt_of (h : VE X B Γ E a ma) (he : ∀ whole, isTrue a X.env whole = (do let v ← whole; standAt a.pos; holding [v] (truthy v)) := by intro _; rfl) : VT X B Γ E a (mTruth ma) :=
  PT.imp (pt_truth h he) fun σ H Q ⟨F, ρ, r, h⟩ => ⟨F, ρ, r, (Res.bind h).mono (fun d ρ1 h1 v H1 F1 r1 g1 q1 => by
    obtain ⟨k, e, h2⟩ := Res.of h1
    exact ⟨k, dq_tru q1 e, h2 k H1 F1 r1 g1 rfl⟩) (fun _ _ _ k => k)⟩

/-- a comparison as a test -/
theorem vt_cmp {op : CmpOp} {g : D → D → Option D} (ho : OpR X (compareOp op) (rV X.K fun x y => (g x y))) (hg : ∀ x y d, g x y = some d → ∃ c, d = .bool c) (ha : VE X B Γ E a ma) (hb : VE X B Γ E b mb) (hm : behindInMarks op b = false) :
    VT X B Γ E (.Compare a [op] [b] pos) (mTruth (m2 g ma mb)) :=
  PT.imp (pt_cmpR ho ha hb hm) fun σ H Q ⟨F, ρ, r, h⟩ => by
    refine ⟨F, ρ, r, (Res.bind (Res.bind h)).mono (fun x ρ1 h1 v1 H1 F1 r1 g1 q1 => ⟨F1, ρ1, r1, (Res.bind h1).mono (fun y ρ2 h2 v2 H2 F2 r2 g2 q2 => ?_) (fun c fs ρ' k => k.grow g1)⟩) (fun _ _ _ k => k)⟩
    obtain ⟨d, e, h3⟩ := Res.of h2
    obtain ⟨k, e2, h4⟩ := Res.of h3
    obtain ⟨c, rfl⟩ := hg _ _ _ e
    refine ⟨F2, x, y, .bool c, r2.trk, q1.grow (g2.g r1), q2, e, fun v H' F' ex q => ?_⟩
    have ek : c = k := Option.some.inj e2
    subst ek
    exact ⟨c, dq_bl q, h4 c H' F' (r2.to ex) ((g1.trans g2).trans ex.kp) rfl⟩

/-! ### and, or, not as tests -/
def mAnd (a b : M Bool) : M Bool := a.bind fun x => if x = true then b else M.pure false
def mOr (a b : M Bool) : M Bool := a.bind fun x => if x = true then M.pure true else b
def mNot (a : M Bool) : M Bool := a.bind fun x => M.pure (!x)
variable {ta tb : M Bool} {rest : List Expr}
theorem VW.t (h : VW X B Γ E a ta) : VT X B Γ E a ta := PW.pt h
theorem vw_or1 (h : VT X B Γ E a ta) : VW X B Γ E (.BoolOp .Or [a] pos) ta := pw_or1 h
theorem vw_or (ha : VT X B Γ E a ta) (hb : VW X B Γ E (.BoolOp .Or (b :: rest) pos) tb) : VW X B Γ E (.BoolOp .Or (a :: b :: rest) pos) (mOr ta tb) :=
  PW.imp (pw_or ha hb) fun σ H Q ⟨F, ρ, r, h⟩ => ⟨F, ρ, r, (Res.bind h).mono (fun x ρ1 h1 v H1 F1 r1 g1 q1 => by
    subst q1
    cases v with
    | false => exact ⟨F1, ρ1, r1, (show Res (tb ρ1) _ _ from h1).mono (fun y ρ2 h2 v2 H2 F2 r2 g2 q2 => h2 v2 H2 F2 r2 (g1.trans g2) q2) (fun _ _ _ k => k.grow g1)⟩
    | true => exact h1 true H1 F1 r1 g1 rfl) (fun _ _ _ k => k)⟩
theorem vt_not (ha : VT X B Γ E a ta) : VT X B Γ E (.UnaryOp .Not a pos) (mNot ta) :=
  PT.imp (pt_not ha) fun σ H Q ⟨F, ρ, r, h⟩ => ⟨F, ρ, r, (Res.bind h).mono (fun x ρ1 h1 v H1 F1 r1 g1 q1 => by
    subst q1
    exact h1 _ H1 F1 r1 g1 rfl) (fun _ _ _ k => k)⟩
/-! ### and, or, not as values, a conditional expression -/
def mAndV (a b : M D) : M D := a.bind fun x => (M.of (dTruth x)).bind fun c => if c = true then b else M.pure x
def mOrV (a b : M D) : M D := a.bind fun x => (M.of (dTruth x)).bind fun c => if c = true then M.pure x else b
def mNotV (a : M D) : M D := a.bind fun x => (M.of (dTruth x)).bind fun c => M.pure (.bool (!c))
def mIf (c : M Bool) (a b : M D) : M D := c.bind fun x => if x = true then a else b
theorem ve_one {op} (h : VE X B Γ E a ma) : VE X B Γ E (.BoolOp op [a] pos) ma := pe_one h
theorem ve_and (ha : VE X B Γ E a ma) (hb : VE X B Γ E (.BoolOp .And (b :: rest) pos) mb) : VE X B Γ E (.BoolOp .And (a :: b :: rest) pos) (mAndV ma mb) :=
  PE.imp (pe_andT ha hb) fun σ H Q ⟨F, ρ, r, h⟩ => ⟨F, ρ, r, (Res.bind h).mono (fun x ρ1 h1 v H1 F1 r1 g1 q1 => by
    obtain ⟨k, e, h2⟩ := Res.of (Res.bind h1)
    refine ⟨k, dq_tru q1 e, ?_⟩
    cases k with
    | true => exact ⟨F1, ρ1, r1, (show Res (mb ρ1) _ _ from h2).mono (fun y ρ2 h2 v2 H2 F2 r2 g2 q2 => h2 v2 H2 F2 r2 (g1.trans g2) q2) (fun _ _ _ k => k.grow g1)⟩
    | false => exact h2 v H1 F1 r1 g1 q1) (fun _ _ _ k => k)⟩
theorem ve_not (ha : VE X B Γ E a ma) : VE X B Γ E (.UnaryOp .Not a pos) (mNotV ma) :=
  PE.imp (pe_notT ha) fun σ H Q ⟨F, ρ, r, h⟩ => ⟨F, ρ, r, (Res.bind h).mono (fun x ρ1 h1 v H1 F1 r1 g1 q1 => by
    obtain ⟨k, e, h2⟩ := Res.of (Res.bind h1)
    exact ⟨k, dq_tru q1 e, h2 _ H1 F1 r1 g1 (.bl _)⟩) (fun _ _ _ k => k)⟩
theorem ve_if {c : Expr} (hc : VT X B Γ E c ta) (ha : VE X B Γ E a ma) (hb : VE X B Γ E b mb) : VE X B Γ E (.IfExp c a b pos) (mIf ta ma mb) :=
  PE.imp (pe_ifExp hc ha hb) fun σ H Q ⟨F, ρ, r, h⟩ => ⟨F, ρ, r, (Res.bind h).mono (fun x ρ1 h1 v H1 F1 r1 g1 q1 => by
    subst q1
    cases v with
    | true => exact ⟨F1, ρ1, r1, (show Res (ma ρ1) _ _ from h1).mono (fun y ρ2 h2 v2 H2 F2 r2 g2 q2 => h2 v2 H2 F2 r2 (g1.trans g2) q2) (fun _ _ _ k => k.grow g1)⟩
    | false => exact ⟨F1, ρ1, r1, (show Res (mb ρ1) _ _ from h1).mono (fun y ρ2 h2 v2 H2 F2 r2 g2 q2 => h2 v2 H2 F2 r2 (g1.trans g2) q2) (fun _ _ _ k => k.grow g1)⟩) (fun _ _ _ k => k)⟩

/-! ### argument lists, displays -/
def mNil : M (List D) := M.pure []
def mCons (a : M D) (r : M (List D)) : M (List D) := a.bind fun x => r.bind fun xs => M.pure (x :: xs)
variable {e : Expr} {es : List Expr} {ms : M (List D)}
theorem va_nil : VA X B Γ E [] mNil := ⟨PA.imp pa_nil fun σ H Q ⟨F, ρ, r, h⟩ => h [] H F r .refl .nil, fun ρ ds ρ' h => by cases h; rfl⟩
theorem va_cons (ha : VE X B Γ E e ma) (hr : VA X B Γ E es ms) (hs : starEach (e :: es) X.env = (false, eval e X.env) :: starEach es X.env := by rfl) : VA X B Γ E (e :: es) (mCons ma ms) := by
  refine ⟨PA.imp (pa_cons ha hr.pa hs) fun σ H Q ⟨F, ρ, r, h⟩ => ?_, fun ρ ds ρ' h => ?_⟩
  · refine ⟨F, ρ, r, (Res.bind h).mono (fun x ρ1 h1 v1 H1 F1 r1 g1 q1 => ⟨F1, ρ1, r1, (Res.bind h1).mono (fun y ρ2 h2 v2 H2 F2 r2 g2 q2 => h2 _ H2 F2 r2 (g1.trans g2) (.cons (q1.grow (g2.g r1)) q2)) (fun _ _ _ k => k.grow g1)⟩) (fun _ _ _ k => k)⟩
  · unfold mCons M.bind at h
    cases e1 : ma ρ with
    | stuck => rw [e1] at h; cases h
    | exc c fs ρ1 => rw [e1] at h; cases h
    | ok p =>
      rw [e1] at h
      cases e2 : ms p.2 with
      | stuck => simp only [R.bind, e2] at h; cases h
      | exc c fs ρ1 => simp only [R.bind, e2] at h; cases h
      | ok q =>
        simp only [R.bind, e2, M.pure] at h
        cases h
        show q.1.length + 1 = es.length + 1
        rw [hr.len p.2 q.1 q.2 e2]
def mTup (m : M (List D)) : M D := m.bind fun ds => M.pure (.tuple ds)
def mLst (m : M (List D)) : M D := m.bind fun ds => M.pure (.list ds)
theorem res_len {m : M (List D)} {n : Nat} (hl : ∀ ρ ds ρ', m ρ = .ok (ds, ρ') → ds.length = n) {ρ : Env} {kok kok' : List D → Env → Prop} {kex kex' : Nat → List D → Env → Prop} (h : Res (m ρ) kok kex) (h1 : ∀ a ρ, a.length = n → kok a ρ → kok' a ρ) (h2 : ∀ c fs ρ, kex c fs ρ → kex' c fs ρ) : Res (m ρ) kok' kex' := by
  cases e : m ρ with
  | ok p => rw [e] at h; exact h1 _ _ (hl ρ p.1 p.2 e) h
  | exc c fs ρ' => rw [e] at h; exact h2 _ _ _ h
  | stuck => rw [e] at h; exact h
theorem ve_tup {x1} (h : VA X B Γ E es ms) (hl : es.length ≤ sizeLine := by decide) : VE X B Γ E (.Tuple es x1 pos) (mTup ms) :=
  PE.imp (pe_tupP h.pa) fun σ H Q ⟨F, ρ, r, hq⟩ => ⟨F, ρ, r, res_len h.len (Res.bind hq) (fun x ρ1 hn h1 v H1 F1 r1 g1 q1 => by
    have gv : Gives X.K F1 H1 (.tuple x) Q := fun v H' F' ex q => h1 v H' F' (r1.to ex) (g1.trans ex.kp) q
    exact ⟨by rw [q1.length, hn]; exact hl, gv.lay r1.trk q1⟩) (fun _ _ _ k => k)⟩
theorem Rel.nf {K : PySem.W.Frag} {F : Fz} {ρ : Env} {σ : St} {H : Hp} {p : Addr} (r : Rel K Γ F ρ σ H) (n : H p = none) : ¬ F p := fun z => by
  obtain ⟨u, hu⟩ := r.trk p z
  rw [n] at hu; cases hu
/-- what is free now was free at the start -/
theorem Kp.none0 {K : PySem.W.Frag} {F F' : Fz} {ρ : Env} {σ : St} {H H' : Hp} {p : Addr} (k : Kp Γ.O σ F H F' H') (r : Rel K Γ F' ρ σ H') (n : H' p = none) : H p = none := by
  cases q : H p with
  | none => rfl
  | some o =>
    rw [(k.keep p o q (r.nownN n)).1] at n
    cases n
theorem vo_lst (h : VA X B Γ E es ms) (hl : es.length ≤ sizeLine := by decide) : VO X B Γ E (.List es pos) (mLst ms) :=
  PE.imp (pe_lst h.pa) fun σ H Q ⟨F, ρ, r, hq⟩ => ⟨F, ρ, r, res_len h.len (Res.bind hq) (fun x ρ1 hn h1 v H1 F1 r1 g1 q1 => by
    refine ⟨by rw [q1.length, hn]; exact hl, fun p np => ?_⟩
    have ex := Ext.laid (o := .lst v) r1.trk np
    exact h1 (.ref p) _ _ (r1.to ex) (g1.trans ex.kp) ⟨p, rfl, .lst upd_same (q1.grow (ex.grow r1.trk)), r1.nf np, g1.none0 r1 np⟩) (fun _ _ _ k => k)⟩
/-- what is one's own is frozen -/
theorem Rel.freeze {K : PySem.W.Frag} {F : Fz} {ρ : Env} {σ : St} {H : Hp} {a : Addr} {o : HO} (r : Rel K Γ F ρ σ H) (h : H a = some o) (h0 : Γ.H0 a = none) (nu : ¬ Own Γ.O σ a) :
    Rel K Γ (fun b => F b ∨ b = a) ρ σ H := by
  have g : Grow F H (fun b => F b ∨ b = a) H := ⟨fun b hb => ⟨.inl hb, rfl⟩, fun _ _ h => h⟩
  refine ⟨r.len, fun b hb => ?_, fun i d hi n => ?_, fun i d hi n => ?_, r.inj, r.pin, r.ext, fun b hb => ?_, fun b hb => .inl (r.frm b hb), r.dom⟩
  · rcases hb with hb | rfl
    · exact r.trk b hb
    · exact ⟨o, h⟩
  · obtain ⟨v, h1, h2⟩ := r.val i d hi n
    exact ⟨v, h1, h2.grow g⟩
  · obtain ⟨c, h1, h2, h3, h4⟩ := r.own i d hi n
    refine ⟨c, h1, fun z => ?_, h3.grow g rfl, h4⟩
    rcases z with z | rfl
    · exact h2 z
    · exact nu ⟨i, n, h1⟩
  · rcases hb with hb | rfl
    · exact r.fro b hb
    · exact .inr h0
/-- .. a dict is locked when it is frozen -/
theorem Rel.frz1 {K : PySem.W.Frag} {F : Fz} {ρ : Env} {σ : St} {H H2 : Hp} {a : Addr} {o : HO} (r : Rel K Γ F ρ σ H) (h : H2 a = some o) (hb : ∀ b, b ≠ a → H2 b = H b) (nf : ¬ F a) (nt : ∀ xs, H a ≠ some (.tup xs)) (h0 : Γ.H0 a = none) (nu : ¬ Own Γ.O σ a) :
    Rel K Γ (fun b => F b ∨ b = a) ρ σ H2 ∧ Grow F H (fun b => F b ∨ b = a) H2 := by
  have g : Grow F H (fun b => F b ∨ b = a) H2 := ⟨fun b hf => ⟨.inl hf, hb b fun z => nf (z ▸ hf)⟩, fun b xs h => by rw [hb b fun z => nt xs (by rw [← z]; exact h)]; exact h⟩
  refine ⟨⟨r.len, fun b hf => ?_, fun i d hi n => ?_, fun i d hi n => ?_, r.inj, r.pin, fun b u hu hp => ?_, fun b hf => ?_, fun b hf => .inl (r.frm b hf), r.dom⟩, g⟩
  · rcases hf with hf | rfl
    · obtain ⟨u, hu⟩ := r.trk b hf
      exact ⟨u, by rw [(g.1 b hf).2]; exact hu⟩
    · exact ⟨o, h⟩
  · obtain ⟨v, h1, h2⟩ := r.val i d hi n
    exact ⟨v, h1, h2.grow g⟩
  · obtain ⟨c, h1, h2, h3, h4⟩ := r.own i d hi n
    have ca : c ≠ a := fun z => nu ⟨i, n, z ▸ h1⟩
    refine ⟨c, h1, fun z => ?_, h3.grow g (hb c ca), h4⟩
    rcases z with z | z
    · exact h2 z
    · exact ca z
  · rw [hb b fun z => by rw [z, h0] at hu; cases hu]
    exact r.ext b u hu hp
  · rcases hf with hf | rfl
    · exact r.fro b hf
    · exact .inr h0
theorem PE.lockd {X : Cx} {e : Expr} {t : TE} (h : PE X e t) : PE X e (fun σ H Q => t σ H fun v H' => Q v H' ∨ ∃ a u, v = .ref a ∧ H' a = some u ∧ Mut (some u) ∧ ∀ od, Q v (upd H' a (.frz od u))) :=
  ⟨fun pins s σ H Q I hw => thn (h.run pins s σ H _ I hw) fun u s1 ⟨v, H1, I1, r, q⟩ => by
    rcases q with q | ⟨a, w, e, ha, mu, q⟩
    · exact ⟨v, H1, I1, r, q⟩
    · obtain ⟨od, I2⟩ := I1.lock ha mu
      exact ⟨v, _, I2, r, q od⟩⟩
theorem lkd_same {d : D} {H : Hp} {a : Addr} (c : ¬ ∃ ds, d = .dict ds) : Lkd d H H a := by
  cases d with
  | dict ds => exact absurd ⟨ds, rfl⟩ c
  | _ => rfl
theorem vo_e {m : M D} (h : VO X B Γ E e m) : VE X B Γ E e m :=
  PE.imp (PE.lockd h) fun σ H Q ⟨F, ρ, r, hq⟩ => ⟨F, ρ, r, hq.mono (fun d ρ1 h1 v H1 F1 r1 g1 q1 => by
    obtain ⟨a, rfl, oa, nf, h0⟩ := q1
    have go : ∀ H2 o, H2 a = some o → (∀ b, b ≠ a → H2 b = H1 b) → Lkd d H1 H2 a → Q (.ref a) H2 := fun H2 o ho hb l => by
      obtain ⟨r2, g2⟩ := r1.frz1 ho hb nf oa.ntup (r.h0 h0) (r.nownN h0)
      refine h1 (.ref a) H2 (fun b => F1 b ∨ b = a) r2 ⟨fun b hf => .inl (g1.frz b hf), fun b o h n => ?_⟩ (oa.lock g2 (.inr rfl) l)
      obtain ⟨k1, k2⟩ := g1.keep b o h n
      have ba : b ≠ a := fun z => by rw [z, h0] at h; cases h
      refine ⟨by rw [hb b ba]; exact k1, fun z => ?_⟩
      rcases z with z | z
      · exact k2 z
      · exact absurd z ba
    obtain ⟨u, hu, mu⟩ := oa.mut
    by_cases c : ∃ ds, d = .dict ds
    · refine .inr ⟨a, u, rfl, hu, mu, fun od => go _ _ upd_same (fun b hb => upd_ne hb) ?_⟩
      obtain ⟨ds, rfl⟩ := c
      exact ⟨od, u, hu, upd_same⟩
    · exact .inl (go H1 u hu (fun _ _ => rfl) (lkd_same c))) (fun _ _ _ k => k)⟩
/-! ### one operand; built-ins called -/
def rV1 (K : PySem.W.Frag) (g : D → Option D) : V → Hp → VK → Prop := fun x H Q => ∃ F dx d, Trk F H ∧ Dq K F H x dx ∧ g dx = some d ∧ Gives K F H d Q
theorem ve_un {op : UnaryOp} {g : D → Option D} (ho : UnR X (unaryOp op) (rV1 X.K g)) (ha : VE X B Γ E a ma) : VE X B Γ E (.UnaryOp op a pos) (m1 g ma) :=
  PE.imp (pe_un ho ha) fun σ H Q ⟨F, ρ, r, h⟩ => ⟨F, ρ, r, (Res.bind h).mono (fun x ρ1 h1 v1 H1 F1 r1 g1 q1 => by
    obtain ⟨d, e, h3⟩ := Res.of h1
    exact ⟨F1, x, d, r1.trk, q1, e, fun v H' F' ex q => h3 v H' F' (r1.to ex) (g1.trans ex.kp) q⟩) (fun _ _ _ k => k)⟩
def gNeg : D → Option D
  | .int i => some (.int (-i))
  | _ => none
theorem ve_neg (ha : VE X B Γ E a ma) : VE X B Γ E (.UnaryOp .USub a pos) (m1 gNeg ma) :=
  ve_un (fun pins s σ H x v Q I rx h => by
    obtain ⟨F, dx, d, t, q, e, gv⟩ := h
    cases dx with
    | int i =>
      cases dq_int q
      cases e
      exact un_neg pins s σ H _ v Q I rx ⟨i, rfl, gv.here t (.int _)⟩
    | _ => cases e) ha
def mCall (g : List D → Option D) (m : M (List D)) : M D := m.bind fun ds => M.of (g ds)
theorem callv {g : List D → Option D} {σ : St} {H : Hp} {Q : VK} (h : tV X.K B Γ E (mCall g ms) σ H Q) : tCB (rVs X.K g) (tVs X.K B Γ E ms) σ H Q := by
  obtain ⟨F, ρ, r, h⟩ := h
  exact ⟨F, ρ, r, (Res.bind h).mono (fun x ρ1 h1 v1 H1 F1 r1 g1 q1 => by
    obtain ⟨d, e, h3⟩ := Res.of h1
    exact ⟨F1, x, d, r1.trk, q1, e, fun v H' F' ex q => h3 v H' F' (r1.to ex) (g1.trans ex.kp) q⟩) (fun _ _ _ k => k)⟩
theorem ve_callB {id : String} {x : Str} {p : Pos} {g : List D → Option D} (hc : CallR X (.builtin id) (rVs X.K g)) (hg : Gl X x) (hm : X.mg x = none) (hv : bootBuiltins x = some (.builtin id)) (ha : VA X B Γ E (e :: es) ms) (hn : x ≠ "__name__" := by decide) (hdb : (x == ("__debug__" : Str)) = false := by decide)
    (he : starEach (e :: es) X.env = (false, eval e X.env) :: starEach es X.env := by rfl) (hpl : (backTo pos (starEach es X.env)).any (·.1) = false := by rfl) : VE X B Γ E (.Call (.Name x p) (e :: es) [] pos) (mCall g ms) :=
  PE.imp (pe_callB hc hg hm hv ha.pa hn hdb he hpl) fun _ _ _ h => callv h
theorem ve_callTy {T : String} {x : Str} {p : Pos} {g : List D → Option D} (hc : CallR X (.type T) (rVs X.K g)) (hg : Gl X x) (hm : X.mg x = none) (hv : bootBuiltins x = some (.type T)) (ha : VA X B Γ E (e :: es) ms) (hn : x ≠ "__name__" := by decide) (hdb : (x == ("__debug__" : Str)) = false := by decide)
    (he : starEach (e :: es) X.env = (false, eval e X.env) :: starEach es X.env := by rfl) (hpl : (backTo pos (starEach es X.env)).any (·.1) = false := by rfl) : VE X B Γ E (.Call (.Name x p) (e :: es) [] pos) (mCall g ms) :=
  PE.imp (pe_callTy hc hg hm hv ha.pa hn hdb he hpl) fun _ _ _ h => callv h
end
end VL
end

section
set_option Elab.async false
set_option linter.all false
set_option maxRecDepth 100000
set_option maxHeartbeats 4000000
namespace VL
open PySem PySem.Spec PyProof.Rows L2
set_option autoImplicit false

/-- a def's entry: the addresses of the arguments that it may change, what is frozen, the heap -/
structure Gd where
  As : List Addr
  F0 : Fz
  H0 : Hp
def Gd.w (G : Gd) (Ps O : List Nat) : Gm := ⟨O, Ps.zip G.As, G.F0, G.H0⟩
inductive Fl where
  | nx | rt (d : D) | bk | ct
def RetAt (K : PySem.W.Frag) (G : Gd) (ro : Bool) (F : Fz) (H : Hp) (v : V) (d : D) : Prop :=
  if ro = true then ∃ a, v = .ref a ∧ OwnAt K F H a d ∧ ¬ F a ∧ G.H0 a = none else Dq K F H v d
def KexS (K : PySem.W.Frag) (B : Eb) (G : Gd) (Ps : List Nat) (E : Wish) (F : Fz) (H : Hp) (c : Nat) (fs : List D) (ρ' : Env) : Prop :=
  ∀ O' σ' F' H' od, Rel K (G.w Ps O') F' ρ' σ' H' → Grow F H F' H' → ExcAt K B F' H' c fs od → E σ' (.ref (B.cls c)) od H'
def kS (K : PySem.W.Frag) (G : Gd) (Ps : List Nat) (ro : Bool) (On Ol : List Nat) (F : Fz) (H : Hp) (N : Ends) (f : Fl) (ρ' : Env) : Prop :=
  match f with
  | .nx => ∀ σ' H' F', Rel K (G.w Ps On) F' ρ' σ' H' → Grow F H F' H' → N.nx σ' H'
  | .bk => ∀ σ' H' F', Rel K (G.w Ps Ol) F' ρ' σ' H' → Grow F H F' H' → N.bk σ' H'
  | .ct => ∀ σ' H' F', Rel K (G.w Ps Ol) F' ρ' σ' H' → Grow F H F' H' → N.ct σ' H'
  | .rt d => ∀ O' v σ' H' F', Rel K (G.w Ps O') F' ρ' σ' H' → Grow F H F' H' → RetAt K G ro F' H' v d → N.rt v H'
/-- a statement's reading: E what is wanted of an exception, ro whether the def hands back a new list of its own, O On Ol the slots that own their lists ahead, behind, at a loop's turn -/
def tS (K : PySem.W.Frag) (B : Eb) (G : Gd) (Ps : List Nat) (E : Wish) (ro : Bool) (O On Ol : List Nat) (m : M Fl) : TS := fun N σ H => ∃ F ρ, Rel K (G.w Ps O) F ρ σ H ∧
  Res (m ρ) (kS K G Ps ro On Ol F H N) (KexS K B G Ps E F H)
def VS (X : Cx) (B : Eb) (G : Gd) (Ps : List Nat) (E : Wish) (ro : Bool) (O On Ol : List Nat) (st : Stmt) (m : M Fl) : Prop := PS X st (tS X.K B G Ps E ro O On Ol m)
def VSs (X : Cx) (B : Eb) (G : Gd) (Ps : List Nat) (E : Wish) (ro : Bool) (O On Ol : List Nat) (st : List Stmt) (m : M Fl) : Prop := PSs X st (tS X.K B G Ps E ro O On Ol m)
theorem PS.imp {X : Cx} {e : Stmt} {t t' : TS} (h : PS X e t) (i : ∀ N σ H, t' N σ H → t N σ H) : PS X e t' := ⟨fun pins s σ H N I q => h.run pins s σ H N I (i N σ H q)⟩
theorem PSs.imp {X : Cx} {e : List Stmt} {t t' : TS} (h : PSs X e t) (i : ∀ N σ H, t' N σ H → t N σ H) : PSs X e t' := ⟨fun pins s σ H N I q => h.run pins s σ H N I (i N σ H q)⟩

section
variable {K : PySem.W.Frag} {B : Eb} {G : Gd} {Ps O On Ol : List Nat} {E : Wish} {ro : Bool} {F F1 : Fz} {H H1 : Hp} {ρ : Env} {σ : St} {N : Ends}
theorem KexS.grow {c : Nat} {fs : List D} {ρ' : Env} (h : KexS K B G Ps E F H c fs ρ') (g : Grow F H F1 H1) : KexS K B G Ps E F1 H1 c fs ρ' := fun O' σ' F' H' od r g' x => h O' σ' F' H' od r (g.trans g') x
theorem KexS.ex {c : Nat} {fs : List D} {ρ' : Env} (h : KexS K B G Ps E F H c fs ρ') (r : Rel K (G.w Ps O) F ρ σ H) : Kex K B (G.w Ps O) E σ F H c fs ρ' := fun F' H' od r' k x => h O σ F' H' od r' (k.g r) x
theorem kS.grow {f : Fl} {ρ' : Env} (h : kS K G Ps ro On Ol F H N f ρ') (g : Grow F H F1 H1) : kS K G Ps ro On Ol F1 H1 N f ρ' := by
  cases f with
  | nx => exact fun σ' H' F' r g' => h σ' H' F' r (g.trans g')
  | bk => exact fun σ' H' F' r g' => h σ' H' F' r (g.trans g')
  | ct => exact fun σ' H' F' r g' => h σ' H' F' r (g.trans g')
  | rt d => exact fun O' v σ' H' F' r g' q => h O' v σ' H' F' r (g.trans g') q
end

section
variable {X : Cx} {B : Eb} {G : Gd} {Ps O O1 On Ol : List Nat} {E : Wish} {ro : Bool} {st : Stmt} {rest : List Stmt} {m m' : M Fl} {e : Expr} {me : M D} {pos : Pos}

def mNx : M Fl := M.pure .nx
def mSeq (a b : M Fl) : M Fl := a.bind fun f => match f with
  | .nx => b
  | .rt d => M.pure (.rt d)
  | .bk => M.pure .bk
  | .ct => M.pure .ct
theorem vss_nil : VSs X B G Ps E ro O O Ol [] mNx := PSs.imp pss_nil fun N σ H ⟨F, ρ, r, h⟩ => h σ H F r .refl
theorem vss_cons (h1 : VS X B G Ps E ro O O1 Ol st m) (h2 : VSs X B G Ps E ro O1 On Ol rest m') : VSs X B G Ps E ro O On Ol (st :: rest) (mSeq m m') :=
  PSs.imp (pss_cons h1 h2) fun N σ H ⟨F, ρ, r, h⟩ => ⟨F, ρ, r, (Res.bind h).mono (fun f ρ1 hf => by
    cases f with
    | nx => exact fun σ' H' F' r' g => ⟨F', ρ1, r', (show Res (m' ρ1) _ _ from hf).mono (fun f ρ2 k => k.grow g) (fun _ _ _ k => k.grow g)⟩
    | bk => exact hf
    | ct => exact hf
    | rt d => exact hf) (fun _ _ _ k => k)⟩
theorem vss_one (h1 : VS X B G Ps E ro O On Ol st m) : VSs X B G Ps E ro O On Ol [st] m := pss_one h1

def mDrop (m : M D) : M Fl := m.bind fun _ => M.pure .nx
theorem vs_expr (he : VE X B (G.w Ps O) E e me) (hs : swapsWith e none pos.line X.env = pure false := by rfl) : VS X B G Ps E ro O O Ol (.Expr e pos) (mDrop me) :=
  PS.imp (ps_expr he hs) fun N σ H ⟨F, ρ, r, h⟩ => ⟨F, ρ, r, (Res.bind h).mono (fun d ρ1 h1 v H1 F1 r1 g1 q1 => h1 σ H1 F1 r1 (g1.g r)) (fun _ _ _ k => k.ex r)⟩
def mRet (m : M D) : M Fl := m.bind fun d => M.pure (.rt d)
theorem vs_ret (he : VE X B (G.w Ps O) E e me) : VS X B G Ps E false O On Ol (.Return (some e) pos) (mRet me) :=
  PS.imp (ps_ret he) fun N σ H ⟨F, ρ, r, h⟩ => ⟨F, ρ, r, (Res.bind h).mono (fun d ρ1 h1 v H1 F1 r1 g1 q1 => h1 O v σ H1 F1 r1 (g1.g r) (by rw [RetAt, if_neg (by decide)]; exact q1)) (fun _ _ _ k => k.ex r)⟩
theorem vs_retO (he : VO X B (G.w Ps O) E e me) : VS X B G Ps E true O On Ol (.Return (some e) pos) (mRet me) :=
  PS.imp (ps_ret he) fun N σ H ⟨F, ρ, r, h⟩ => ⟨F, ρ, r, (Res.bind h).mono (fun d ρ1 h1 v H1 F1 r1 g1 q1 => h1 O v σ H1 F1 r1 (g1.g r) (by
    obtain ⟨a, rfl, oa, nf, hn⟩ := q1
    rw [RetAt, if_pos rfl]
    exact ⟨a, rfl, oa, nf, r.h0 hn⟩)) (fun _ _ _ k => k.ex r)⟩
theorem notpin {i : Nat} (hp : i ∉ Ps) : ∀ a, (i, a) ∉ (G.w Ps O).P := fun a z => hp (List.of_mem_zip z).1
def delO (i : Nat) (O : List Nat) : List Nat := O.filter fun j => decide (j ≠ i)
def mSet (i : Nat) (m : M D) : M Fl := m.bind fun d => fun ρ => .ok (.nx, ρ.set i (some d))
theorem vs_set {i : Nat} {x : Str} {px : Pos} (hO : delO i O = O1) (hN : X.N.Nodup) (hi : X.N[i]? = some x) (hx : Loc X.env.scope x) (he : VE X B (G.w Ps O) E e me) (hp : i ∉ Ps := by decide) (hs : swapsWith e (some (.Name x px)) pos.line X.env = pure false := by rfl)
    (hf : X.fn x = true ∨ X.env.scope.names.lookup x = some .local := by first | exact .inl rfl | exact .inr rfl) : VS X B G Ps E ro O O1 Ol (.Assign [.Name x px] e pos) (mSet i me) :=
  PS.imp (ps_set hN hi hx he hs) fun N σ H ⟨F, ρ, r, h⟩ => ⟨F, ρ, r, (Res.bind h).mono (fun d ρ1 h1 v H1 F1 r1 g1 q1 => h1 _ H1 F1 (hO ▸ r1.setD q1 (notpin hp)) (g1.g r)) (fun _ _ _ k => k.ex r)⟩
theorem vs_setO {i : Nat} {x : Str} {px : Pos} (hN : X.N.Nodup) (hi : X.N[i]? = some x) (hx : Loc X.env.scope x) (he : VO X B (G.w Ps O) E e me) (hp : i ∉ Ps := by decide) (hs : swapsWith e (some (.Name x px)) pos.line X.env = pure false := by rfl)
    (hf : X.fn x = true ∨ X.env.scope.names.lookup x = some .local := by first | exact .inl rfl | exact .inr rfl) : VS X B G Ps E ro O (i :: O) Ol (.Assign [.Name x px] e pos) (mSet i me) :=
  PS.imp (ps_set hN hi hx he hs) fun N σ H ⟨F, ρ, r, h⟩ => ⟨F, ρ, r, (Res.bind h).mono (fun d ρ1 h1 v H1 F1 r1 g1 q1 => by
    obtain ⟨a, rfl, oa, nf, hn⟩ := q1
    exact h1 _ H1 F1 (r1.setO oa nf (r.h0 hn) (r.nownN hn) (notpin hp)) (g1.g r)) (fun _ _ _ k => k.ex r)⟩

/-! ### a list of one's own is frozen -/
/-- the dicts among the slots that are given up -/
def lks (O O1 : List Nat) (ρ : Env) (σ : St) : List Addr := O.filterMap fun j => if j ∈ O1 then none else match ρ[j]?, σ[j]? with
  | some (some (.dict _)), some (some (.ref a)) => some a
  | _, _ => none
theorem mem_lks {O O1 : List Nat} {ρ : Env} {σ : St} {a : Addr} : a ∈ lks O O1 ρ σ ↔ ∃ j ds, j ∈ O ∧ j ∉ O1 ∧ ρ[j]? = some (some (.dict ds)) ∧ σ[j]? = some (some (.ref a)) := by
  unfold lks
  rw [List.mem_filterMap]
  constructor
  · rintro ⟨j, hj, h⟩
    by_cases c : j ∈ O1
    · rw [if_pos c] at h; cases h
    · rw [if_neg c] at h
      split at h
      · rename_i ds b e1 e2
        cases h
        exact ⟨j, ds, hj, c, e1, e2⟩
      · cases h
  · rintro ⟨j, ds, hj, c, e1, e2⟩
    refine ⟨j, hj, ?_⟩
    rw [if_neg c, e1, e2]
theorem Inv.locks {X : Cx} {pins : List (Addr × Obj)} {σ : St} {H : Hp} {s : Shared} (I : Inv X pins σ H s) : ∀ ls : List Addr, (∀ a ∈ ls, ∃ u, H a = some u ∧ Mut (some u)) →
    ∃ H1, Inv X pins σ H1 s ∧ (∀ b, b ∉ ls → H1 b = H b) ∧ ∀ a ∈ ls, ∃ o u, H a = some u ∧ H1 a = some (.frz o u)
  | [], _ => ⟨H, I, fun _ _ => rfl, fun _ h => nomatch h⟩
  | a :: ls, h => by
    obtain ⟨H1, I1, k1, l1⟩ := Inv.locks I ls fun b hb => h b (List.mem_cons_of_mem _ hb)
    by_cases c : a ∈ ls
    · refine ⟨H1, I1, fun b hb => k1 b fun z => hb (List.mem_cons_of_mem _ z), fun b hb => ?_⟩
      rcases List.mem_cons.mp hb with rfl | hb
      · exact l1 b c
      · exact l1 b hb
    · obtain ⟨u, hu, mu⟩ := h a List.mem_cons_self
      obtain ⟨od, I2⟩ := I1.lock ((k1 a c).trans hu) mu
      refine ⟨_, I2, fun b hb => ?_, fun b hb => ?_⟩
      · rw [List.mem_cons, not_or] at hb
        rw [upd_ne hb.1]
        exact k1 b hb.2
      · rcases List.mem_cons.mp hb with rfl | hb
        · exact ⟨od, u, hu, upd_same⟩
        · rw [upd_ne fun z : b = a => c (by rw [← z]; exact hb)]
          exact l1 b hb
theorem Rel.lks_mut {K : PySem.W.Frag} {F : Fz} {ρ : Env} {σ : St} {H : Hp} (r : Rel K (G.w Ps O) F ρ σ H) : ∀ a ∈ lks O O1 ρ σ, ∃ u, H a = some u ∧ Mut (some u) := fun a ha => by
  obtain ⟨j, ds, hj, c, e1, e2⟩ := mem_lks.mp ha
  obtain ⟨b, h1, _, oa, _⟩ := r.own j _ e1 hj
  rw [e2] at h1
  cases h1
  exact oa.mut
theorem Rel.release {K : PySem.W.Frag} {F : Fz} {ρ : Env} {σ : St} {H H1 : Hp} (r : Rel K (G.w Ps O) F ρ σ H) (h1 : ∀ j, j ∈ O1 → j ∈ O) (h2 : ∀ j, j ∈ Ps → j ∈ O1)
    (hk : ∀ b, b ∉ lks O O1 ρ σ → H1 b = H b) (hl : ∀ a ∈ lks O O1 ρ σ, ∃ o u, H a = some u ∧ H1 a = some (.frz o u)) :
    ∃ F', Rel K (G.w Ps O1) F' ρ σ H1 ∧ Grow F H F' H1 := by
  have nl : ∀ b, F b → b ∉ lks O O1 ρ σ := fun b hb z => by
    obtain ⟨j, ds, hj, c, e1, e2⟩ := mem_lks.mp z
    obtain ⟨a, ha, nf, _⟩ := r.own j _ e1 hj
    rw [e2] at ha; cases ha
    exact nf hb
  have g : Grow F H (fun b => F b ∨ ∃ j d, j ∈ O ∧ j ∉ O1 ∧ ρ[j]? = some (some d) ∧ σ[j]? = some (some (.ref b))) H1 := ⟨fun b hb => ⟨.inl hb, hk b (nl b hb)⟩, fun b xs h => by
    rw [hk b fun z => by
      obtain ⟨u, hu, mu⟩ := r.lks_mut b z
      rw [h] at hu
      cases hu
      exact mu]
    exact h⟩
  have so : ∀ b u, H b = some u → ∃ o, H1 b = some o := fun b u hu => by
    by_cases c : b ∈ lks O O1 ρ σ
    · obtain ⟨o, w, _, q⟩ := hl b c
      exact ⟨_, q⟩
    · exact ⟨u, (hk b c).trans hu⟩
  refine ⟨_, ⟨r.len, fun b hb => ?_, fun i d hi n => ?_, fun i d hi n => ?_, fun i j a d e hi hj => r.inj i j a d e (h1 i hi) (h1 j hj), fun i a hi => ?_, fun b o hb hp => ?_, fun b hb => ?_, fun b hb => .inl (r.frm b hb), fun j hj => r.dom j (h1 j hj)⟩, g⟩
  · rcases hb with hb | ⟨j, d, hj, _, hd, hs⟩
    · obtain ⟨u, hu⟩ := r.trk b hb
      exact so b u hu
    · obtain ⟨a, ha, _, oa, _⟩ := r.own j d hd hj
      rw [hs] at ha; cases ha
      obtain ⟨u, hu⟩ := oa.some
      exact so _ u hu
  · by_cases c : i ∈ O
    · obtain ⟨a, ha, nf, oa, _⟩ := r.own i d hi c
      refine ⟨.ref a, ha, oa.lock g (.inr ⟨i, d, c, n, hi, ha⟩) ?_⟩
      by_cases cd : ∃ ds, d = .dict ds
      · obtain ⟨ds, rfl⟩ := cd
        exact hl a (mem_lks.mpr ⟨i, ds, c, n, hi, ha⟩)
      · have na : a ∉ lks O O1 ρ σ := fun z => by
          obtain ⟨j, ds, hj, _, e1, e2⟩ := mem_lks.mp z
          have := r.inj i j a d _ c hj hi e1 ha e2
          subst this
          rw [hi] at e1
          cases e1
          exact cd ⟨ds, rfl⟩
        have e := hk a na
        cases d with
        | dict ds => exact absurd ⟨ds, rfl⟩ cd
        | _ => exact e
    · obtain ⟨v, q1, q2⟩ := r.val i d hi c
      exact ⟨v, q1, q2.grow g⟩
  · obtain ⟨a, ha, nf, oa, h4⟩ := r.own i d hi (h1 i n)
    have na : a ∉ lks O O1 ρ σ := fun z => by
      obtain ⟨j, ds, hj, nj, e1, e2⟩ := mem_lks.mp z
      have := r.inj i j a d _ (h1 i n) hj hi e1 ha e2
      subst this
      exact nj n
    refine ⟨a, ha, fun z => ?_, oa.grow g (hk a na), h4⟩
    rcases z with z | ⟨j, e, hj, nj, hd, hs⟩
    · exact nf z
    · have := r.inj i j a d e (h1 i n) hj hi hd ha hs
      subst this
      exact nj n
  · obtain ⟨q1, q2, q3⟩ := r.pin i a hi
    exact ⟨h2 i (List.of_mem_zip hi).1, q2, q3⟩
  · have nb : b ∉ lks O O1 ρ σ := fun z => by
      obtain ⟨j, ds, hj, nj, e1, e2⟩ := mem_lks.mp z
      obtain ⟨a, ha, _, _, h4⟩ := r.own j _ e1 hj
      rw [e2] at ha; cases ha
      rcases h4 with h4 | h4
      · have hb' : (G.w Ps O).H0 b = some o := hb
        rw [hb'] at h4; cases h4
      · exact hp j h4
    rw [hk b nb]
    exact r.ext b o hb hp
  · rcases hb with hb | ⟨j, d, hj, nj, hd, hs⟩
    · exact r.fro b hb
    · obtain ⟨a, ha, _, _, h4⟩ := r.own j d hd hj
      rw [hs] at ha; cases ha
      rcases h4 with h4 | h4
      · exact .inr h4
      · exact absurd (h2 j (List.of_mem_zip h4).1) nj
theorem vs_frz {O' : List Nat} (h : VS X B G Ps E ro O1 On Ol st m) (h1 : ∀ j, j ∈ O1 → j ∈ O' := by decide) (h2 : ∀ j, j ∈ Ps → j ∈ O1 := by decide) : VS X B G Ps E ro O' On Ol st m :=
  ⟨fun pins s σ H N I ⟨F, ρ, r, hm⟩ => by
    obtain ⟨H1, I1, hk, hl⟩ := Inv.locks I (lks O' O1 ρ σ) r.lks_mut
    obtain ⟨F1, r1, g1⟩ := r.release h1 h2 hk hl
    exact h.run pins s σ H1 N I1 ⟨F1, ρ, r1, hm.mono (fun f ρ1 k => k.grow g1) (fun _ _ _ k => k.grow g1)⟩⟩
theorem vss_frz {O' : List Nat} {sts : List Stmt} (h : VSs X B G Ps E ro O1 On Ol sts m) (h1 : ∀ j, j ∈ O1 → j ∈ O' := by decide) (h2 : ∀ j, j ∈ Ps → j ∈ O1 := by decide) : VSs X B G Ps E ro O' On Ol sts m :=
  ⟨fun pins s σ H N I ⟨F, ρ, r, hm⟩ => by
    obtain ⟨H1, I1, hk, hl⟩ := Inv.locks I (lks O' O1 ρ σ) r.lks_mut
    obtain ⟨F1, r1, g1⟩ := r.release h1 h2 hk hl
    exact h.run pins s σ H1 N I1 ⟨F1, ρ, r1, hm.mono (fun f ρ1 k => k.grow g1) (fun _ _ _ k => k.grow g1)⟩⟩
/-! ### if -/
def mIfS (c : M Bool) (a b : M Fl) : M Fl := c.bind fun x => if x = true then a else b
theorem vs_if {c : Expr} {a b : List Stmt} {mc : M Bool} (hc : VT X B (G.w Ps O) E c mc) (ha : VSs X B G Ps E ro O On Ol a m) (hb : VSs X B G Ps E ro O On Ol b m') : VS X B G Ps E ro O On Ol (.If c a b pos) (mIfS mc m m') :=
  PS.imp (ps_if hc ha hb) fun N σ H ⟨F, ρ, r, h⟩ => ⟨F, ρ, r, (Res.bind h).mono (fun x ρ1 h1 v H1 F1 r1 g1 q1 => by
    subst q1
    cases v with
    | true => exact ⟨F1, ρ1, r1, (show Res (m ρ1) _ _ from h1).mono (fun f ρ2 k => k.grow (g1.g r)) (fun _ _ _ k => k.grow (g1.g r))⟩
    | false => exact ⟨F1, ρ1, r1, (show Res (m' ρ1) _ _ from h1).mono (fun f ρ2 k => k.grow (g1.g r)) (fun _ _ _ k => k.grow (g1.g r))⟩) (fun _ _ _ k => k.ex r)⟩
theorem vs_break : VS X B G Ps E ro O On O (.Break pos) (M.pure .bk) := PS.imp ps_break fun N σ H ⟨F, ρ, r, h⟩ => h σ H F r .refl
end
end VL
end

section
set_option Elab.async false
set_option linter.all false
set_option maxRecDepth 100000
set_option maxHeartbeats 4000000
namespace VL
open PySem PySem.Spec PyProof.Rows L2
set_option autoImplicit false

/-! ### a def's promise by values -/
/-- the addresses of the arguments that may be changed -/
def mAs : List Bool → List V → List Addr
  | true :: ms, .ref a :: vs => a :: mAs ms vs
  | _ :: ms, _ :: vs => mAs ms vs
  | _, _ => []
inductive ArgsAt (K : PySem.W.Frag) (F : Fz) (H : Hp) : List Bool → List V → List D → Prop
  | nil : ArgsAt K F H [] [] []
  | dat {ms : List Bool} {v : V} {vs : List V} {d : D} {ds : List D} : Dq K F H v d → ArgsAt K F H ms vs ds → ArgsAt K F H (false :: ms) (v :: vs) (d :: ds)
  | own {ms : List Bool} {a : Addr} {vs : List V} {d : D} {ds : List D} : OwnAt K F H a d → ¬ F a → ArgsAt K F H ms vs ds → ArgsAt K F H (true :: ms) (.ref a :: vs) (d :: ds)
inductive OutAt (K : PySem.W.Frag) (F : Fz) (H : Hp) : List Addr → List D → Prop
  | nil : OutAt K F H [] []
  | cons {a : Addr} {as : List Addr} {d : D} {ds : List D} : OwnAt K F H a d → ¬ F a → OutAt K F H as ds → OutAt K F H (a :: as) (d :: ds)
/-- all but what stands at As is as it was -/
structure Frm (As : List Addr) (F : Fz) (H : Hp) (F' : Fz) (H' : Hp) : Prop where
  same : ∀ b o, H b = some o → b ∉ As → H' b = some o
  mono : ∀ b, F b → F' b
  new : ∀ b, F' b → F b ∨ H b = none
  trk : ∀ b, F' b → ∃ o, H' b = some o
def ResAt (K : PySem.W.Frag) (ro : Bool) (H : Hp) (F' : Fz) (H' : Hp) (v : V) (d : D) : Prop :=
  if ro = true then ∃ a, v = .ref a ∧ OwnAt K F' H' a d ∧ ¬ F' a ∧ H a = none else Dq K F' H' v d
/-- a def's function: the arguments' data; the answer, and what the changed arguments are then -/
abbrev Fn := List D → R (D × List D)
def spV (K : PySem.W.Frag) (B : Eb) (ms : List Bool) (ro : Bool) (f : Fn) : Sp := fun vs H Q E => ∃ F ds, Trk F H ∧ ArgsAt K F H ms vs ds ∧ (mAs ms vs).Nodup ∧
  match f ds with
  | .ok p => ∀ v H' F', Frm (mAs ms vs) F H F' H' → OutAt K F' H' (mAs ms vs) p.2 → ResAt K ro H F' H' v p.1 → Q v H'
  | .exc c fs _ => mAs ms vs = [] ∧ ∀ H' F' od, Ext F H F' H' → ExcAt K B F' H' c fs od → E (.ref (B.cls c)) od H'
  | .stuck => False
theorem ArgsAt.len {K : PySem.W.Frag} {F : Fz} {H : Hp} : ∀ {ms : List Bool} {vs : List V} {ds : List D}, ArgsAt K F H ms vs ds → vs.length = ms.length ∧ ds.length = ms.length
  | _, _, _, .nil => ⟨rfl, rfl⟩
  | _, _, _, .dat _ r => ⟨congrArg (· + 1) r.len.1, congrArg (· + 1) r.len.2⟩
  | _, _, _, .own _ _ r => ⟨congrArg (· + 1) r.len.1, congrArg (· + 1) r.len.2⟩
theorem Frm.ext {F F' : Fz} {H H' : Hp} (f : Frm [] F H F' H') : Ext F H F' H' := ⟨fun b o h => f.same b o h (by simp), f.mono, f.new, f.trk⟩

/-! ### arguments at a call -/
inductive Sl where
  | dat | slot (j : Nat) | tmp
def Sl.m : Sl → Bool
  | .dat => false
  | .slot _ => true
  | .tmp => true
def fill : List Sl → List D → Env → Option (List D)
  | [], [], _ => some []
  | .dat :: s, d :: ds, ρ => (fill s ds ρ).map (d :: ·)
  | .tmp :: s, d :: ds, ρ => (fill s ds ρ).map (d :: ·)
  | .slot j :: s, ds, ρ => match ρ[j]? with
    | some (some d) => (fill s ds ρ).map (d :: ·)
    | _ => none
  | _, _, _ => none
def put : List Sl → List D → Env → Option Env
  | [], [], ρ => some ρ
  | .dat :: s, es, ρ => put s es ρ
  | .tmp :: s, _ :: es, ρ => put s es ρ
  | .slot j :: s, e :: es, ρ => put s es (ρ.set j (some e))
  | _, _, _ => none
def slots : List Sl → List Nat
  | [] => []
  | .slot j :: s => j :: slots s
  | _ :: s => slots s
inductive HeldA (K : PySem.W.Frag) (F : Fz) (H : Hp) (Hs : Hp) (σ : St) : List Sl → List V → List D → Prop
  | nil : HeldA K F H Hs σ [] [] []
  | dat {s : List Sl} {v : V} {vs : List V} {d : D} {ds : List D} : Dq K F H v d → HeldA K F H Hs σ s vs ds → HeldA K F H Hs σ (.dat :: s) (v :: vs) (d :: ds)
  | tmp {s : List Sl} {a : Addr} {vs : List V} {d : D} {ds : List D} : OwnAt K F H a d → ¬ F a → Hs a = none → a ∉ mAs (s.map Sl.m) vs → HeldA K F H Hs σ s vs ds → HeldA K F H Hs σ (.tmp :: s) (.ref a :: vs) (d :: ds)
  | slot {s : List Sl} {j : Nat} {v : V} {vs : List V} {ds : List D} : σ[j]? = some (some v) → HeldA K F H Hs σ s vs ds → HeldA K F H Hs σ (.slot j :: s) (v :: vs) ds
def tM (K : PySem.W.Frag) (B : Eb) (Γ : Gm) (E : Wish) (sl : List Sl) (m : M (List D)) : TA := fun σ H Q => ∃ F ρ, Rel K Γ F ρ σ H ∧
  Res (m ρ) (fun ds ρ' => ∀ vs H' F', Rel K Γ F' ρ' σ H' → Kp Γ.O σ F H F' H' → HeldA K F' H' H σ sl vs ds → Q vs H') (Kex K B Γ E σ F H)
def VM (X : Cx) (B : Eb) (Γ : Gm) (E : Wish) (es : List Expr) (sl : List Sl) (m : M (List D)) : Prop := PA X es (tM X.K B Γ E sl m)

section
variable {X : Cx} {B : Eb} {Γ : Gm} {E : Wish} {e : Expr} {es : List Expr} {sl : List Sl} {ma : M D} {ms : M (List D)} {pos : Pos}
theorem vm_nil : VM X B Γ E [] [] mNil := PA.imp pa_nil fun σ H Q ⟨F, ρ, r, h⟩ => h [] H F r .refl .nil
/-- where the tail began later -/
theorem HeldA.back {K : PySem.W.Frag} {F : Fz} {H Hs H1 : Hp} {σ : St} (h : ∀ a, H1 a = none → Hs a = none) : ∀ {s : List Sl} {vs : List V} {ds : List D}, HeldA K F H H1 σ s vs ds → HeldA K F H Hs σ s vs ds
  | _, _, _, .nil => .nil
  | _, _, _, .dat q r => .dat q (HeldA.back h r)
  | _, _, _, .tmp q n z w r => .tmp q n (h _ z) w (HeldA.back h r)
  | _, _, _, .slot q r => .slot q (HeldA.back h r)
theorem vm_cons (ha : VE X B Γ E e ma) (hr : VM X B Γ E es sl ms) (hs : starEach (e :: es) X.env = (false, eval e X.env) :: starEach es X.env := by rfl) : VM X B Γ E (e :: es) (.dat :: sl) (mCons ma ms) :=
  PA.imp (pa_cons ha hr hs) fun σ H Q ⟨F, ρ, r, h⟩ => ⟨F, ρ, r, (Res.bind h).mono (fun x ρ1 h1 v1 H1 F1 r1 g1 q1 => ⟨F1, ρ1, r1, (Res.bind h1).mono (fun y ρ2 h2 v2 H2 F2 r2 g2 q2 =>
    h2 _ H2 F2 r2 (g1.trans g2) (.dat (q1.grow (g2.g r1)) (q2.back fun a z => g1.none0 r1 z))) (fun _ _ _ k => k.grow g1)⟩) (fun _ _ _ k => k)⟩
/-- what the later arguments' places hold is no object that was there ahead, but the slots' own -/
theorem HeldA.old {K : PySem.W.Frag} {F : Fz} {H Hs : Hp} {σ : St} {O : List Nat} {a : Addr} (n : ¬ Own O σ a) (t : Hs a ≠ none) {s : List Sl} {vs : List V} {ds : List D} (h : HeldA K F H Hs σ s vs ds) : (∀ j ∈ slots s, j ∈ O) → a ∉ mAs (s.map Sl.m) vs := by
  induction h with
  | nil => intro _; simp [mAs]
  | @dat s v vs d ds q r ih =>
    intro ho
    have ih := ih ho
    cases v <;> exact ih
  | @tmp s b vs d ds q nf z w r ih =>
    intro ho hm
    rcases List.mem_cons.mp (show a ∈ b :: mAs (s.map Sl.m) vs from hm) with rfl | hm
    · exact t z
    · exact ih ho hm
  | @slot s j v vs ds q r ih =>
    intro ho
    have ih := ih (fun j hj => ho j (List.mem_cons_of_mem _ hj))
    cases v with
    | ref b =>
      intro hm
      rcases List.mem_cons.mp (show a ∈ b :: mAs (s.map Sl.m) vs from hm) with rfl | hm
      · exact n ⟨j, ho j (List.mem_cons_self ..), q⟩
      · exact ih hm
    | _ => exact ih
theorem vm_tmp (ha : VO X B Γ E e ma) (hr : VM X B Γ E es sl ms) (ho : ∀ j ∈ slots sl, j ∈ Γ.O) (hs : starEach (e :: es) X.env = (false, eval e X.env) :: starEach es X.env := by rfl) : VM X B Γ E (e :: es) (.tmp :: sl) (mCons ma ms) :=
  PA.imp (pa_cons ha hr hs) fun σ H Q ⟨F, ρ, r, h⟩ => ⟨F, ρ, r, (Res.bind h).mono (fun x ρ1 h1 v1 H1 F1 r1 g1 q1 => ⟨F1, ρ1, r1, (Res.bind h1).mono (fun y ρ2 h2 v2 H2 F2 r2 g2 q2 => by
    obtain ⟨a, rfl, oa, nf, hn⟩ := q1
    obtain ⟨o, hoa⟩ := oa.some
    have no : ¬ Own Γ.O σ a := r.nownN hn
    obtain ⟨k1, k2⟩ := g2.keep a o hoa no
    exact h2 _ H2 F2 r2 (g1.trans g2) (.tmp (oa.grow (g2.g r1) (by rw [k1, hoa])) (fun z => nf (k2 z)) hn (q2.old no (by rw [hoa]; simp) ho) (q2.back fun a z => g1.none0 r1 z))) (fun _ _ _ k => k.grow g1)⟩) (fun _ _ _ k => k)⟩
def mSlot (i : Nat) (ms : M (List D)) : M (List D) := fun ρ => match ρ[i]? with
  | some (some _) => ms ρ
  | _ => .stuck
theorem vm_slot {i : Nat} {x : Str} {px : Pos} (hr : VM X B Γ E es sl ms) (hN : X.N[i]? = some x := by rfl) (hv : Vis X.env.scope x := by first | exact Or.inl rfl | exact Or.inr (Or.inl rfl) | exact Or.inr (Or.inr rfl)) (hd : (x == ("__debug__" : Str)) = false := by decide) (hcd : (x == ("__classdict__" : Str)) = false := by decide)
    (hdef : ∀ K F ρ σ H, Rel K Γ F ρ σ H → True := by intros; trivial) (hs : starEach (.Name x px :: es) X.env = (false, eval (.Name x px) X.env) :: starEach es X.env := by rfl) : VM X B Γ E (.Name x px :: es) (.slot i :: sl) (mSlot i ms) :=
  PA.imp (pa_cons (pe_var hN hv hd hcd) hr hs) fun σ H Q ⟨F, ρ, r, h⟩ => by
    unfold mSlot at h
    cases e : ρ[i]? with
    | none => simp only [e] at h; exact h.elim
    | some o =>
      cases o with
      | none => simp only [e] at h; exact h.elim
      | some d =>
        simp only [e] at h
        have hv : ∃ v, σ[i]? = some (some v) := by
          by_cases c : i ∈ Γ.O
          · obtain ⟨a, ha, _⟩ := r.own i d e c
            exact ⟨_, ha⟩
          · obtain ⟨v, hv, _⟩ := r.val i d e c
            exact ⟨v, hv⟩
        obtain ⟨v, hv⟩ := hv
        exact ⟨v, hv, F, ρ, r, h.mono (fun ds ρ1 h1 vs H1 F1 r1 g1 q1 => h1 _ H1 F1 r1 g1 (.slot hv q1)) (fun _ _ _ k => k)⟩
end

/-! ### the state behind a call -/
section
variable {K : PySem.W.Frag} {Γ : Gm} {F F' : Fz} {H H' Hs : Hp} {ρ : Env} {σ : St}
def sets (T : List (Nat × Addr × D)) (ρ : Env) : Env := T.foldl (fun ρ t => ρ.set t.1 (some t.2.2)) ρ
theorem sets_len : ∀ (T : List (Nat × Addr × D)) (ρ : Env), (sets T ρ).length = ρ.length
  | [], _ => rfl
  | t :: T, ρ => by
    show (sets T (ρ.set t.1 _)).length = _
    rw [sets_len T, List.length_set]
theorem sets_out : ∀ (T : List (Nat × Addr × D)) (ρ : Env) (i : Nat), i ∉ T.map (·.1) → (sets T ρ)[i]? = ρ[i]?
  | [], _, _, _ => rfl
  | t :: T, ρ, i, h => by
    rw [List.map_cons, List.mem_cons, not_or] at h
    show (sets T (ρ.set t.1 _))[i]? = _
    rw [sets_out T _ i h.2, List.getElem?_set_ne fun z => h.1 z.symm]
theorem sets_in : ∀ (T : List (Nat × Addr × D)) (ρ : Env) (i : Nat) (a : Addr) (d : D), (T.map (·.1)).Nodup → (i, a, d) ∈ T → i < ρ.length → (sets T ρ)[i]? = some (some d)
  | [], _, _, _, _, _, h, _ => by cases h
  | t :: T, ρ, i, a, d, nd, h, hl => by
    rw [List.map_cons, List.nodup_cons] at nd
    show (sets T (ρ.set t.1 _))[i]? = _
    rcases List.mem_cons.mp h with e | h
    · subst e
      rw [sets_out T _ i nd.1, List.getElem?_set_self hl]
    · exact sets_in T _ i a d nd.2 h (by rw [List.length_set]; exact hl)
theorem ArgsAt.ntup {K : PySem.W.Frag} {F : Fz} {H : Hp} {ms : List Bool} {vs : List V} {ds : List D} (h : ArgsAt K F H ms vs ds) : ∀ a ∈ mAs ms vs, ∀ xs, H a ≠ some (.tup xs) := by
  induction h with
  | nil => intro a ha; cases ha
  | @dat ms v vs d ds q r ih => cases v <;> exact ih
  | @own ms b vs d ds q nf r ih =>
    intro a ha xs
    rcases List.mem_cons.mp (show a ∈ b :: mAs ms vs from ha) with rfl | ha
    · exact q.ntup xs
    · exact ih a ha xs
theorem Rel.after {As : List Addr} {T : List (Nat × Addr × D)} {Fs : Fz} (r : Rel K Γ F ρ σ H) (k : Kp Γ.O σ Fs Hs F H) (f : Frm As F H F' H') (hnt : ∀ a ∈ As, ∀ xs, H a ≠ some (.tup xs)) (nd : (T.map (·.1)).Nodup)
    (hT : ∀ i a d, (i, a, d) ∈ T → i ∈ Γ.O ∧ σ[i]? = some (some (.ref a)) ∧ OwnAt K F' H' a d ∧ ¬ F' a ∧ ∃ d', ρ[i]? = some (some d'))
    (hA : ∀ a ∈ As, (∃ i d, (i, a, d) ∈ T) ∨ (¬ Own Γ.O σ a ∧ Γ.H0 a = none ∧ ¬ F a ∧ Hs a = none)) : Rel K Γ F' (sets T ρ) σ H' ∧ Kp Γ.O σ Fs Hs F' H' := by
  have nF : ∀ a ∈ As, ¬ F a := fun a ha hf => by
    rcases hA a ha with ⟨i, d, h⟩ | ⟨_, _, h, _⟩
    · exact (hT i a d h).2.2.2.1 (f.mono a hf)
    · exact h hf
  have g : Grow F H F' H' := ⟨fun b hb => by
    obtain ⟨o, ho⟩ := r.trk b hb
    exact ⟨f.mono b hb, by rw [ho, f.same b o ho fun z => nF b z hb]⟩, fun b xs h => f.same b _ h fun z => hnt b z xs h⟩
  have notA : ∀ i d a, i ∈ Γ.O → i ∉ T.map (·.1) → ρ[i]? = some (some d) → σ[i]? = some (some (.ref a)) → a ∉ As := fun i d a hi hn hd hs ha => by
    rcases hA a ha with ⟨j, e, h⟩ | ⟨h, _⟩
    · obtain ⟨h1, h2, _, _, d', h5⟩ := hT j a e h
      have := r.inj i j a d d' hi h1 hd h5 hs h2
      subst this
      exact hn (List.mem_map.mpr ⟨_, h, rfl⟩)
    · exact h ⟨i, hi, hs⟩
  have lift : ∀ i d, (sets T ρ)[i]? = some (some d) → ∃ d', ρ[i]? = some (some d') := fun i d hi => by
    by_cases c : i ∈ T.map (·.1)
    · obtain ⟨⟨j, a, e⟩, hm, rfl⟩ := List.mem_map.mp c
      exact (hT _ a e hm).2.2.2.2
    · rw [sets_out T ρ i c] at hi
      exact ⟨d, hi⟩
  refine ⟨⟨by rw [sets_len]; exact r.len, f.trk, fun i d hi n => ?_, fun i d hi n => ?_, fun i j a d e hi hj h1 h2 h3 h4 => ?_, fun i a hi => ?_, fun b o hb hp => ?_, fun b hb => ?_, fun b hb => f.mono b (r.frm b hb), fun j hj v hs => ?_⟩, fun b hb => f.mono b (k.frz b hb), fun b o hb nb => ⟨f.same b o (k.keep b o hb nb).1 fun hA' => ?_, fun z => (k.keep b o hb nb).2 ?_⟩⟩
  · have c : i ∉ T.map (·.1) := fun c => by
      obtain ⟨⟨j, a, e⟩, hm, rfl⟩ := List.mem_map.mp c
      exact n (hT _ a e hm).1
    rw [sets_out T ρ i c] at hi
    obtain ⟨v, h1, h2⟩ := r.val i d hi n
    exact ⟨v, h1, h2.grow g⟩
  · by_cases c : i ∈ T.map (·.1)
    · obtain ⟨⟨j, a, e⟩, hm, rfl⟩ := List.mem_map.mp c
      obtain ⟨h1, h2, h3, h4, d', h5⟩ := hT _ a e hm
      have hl : j < ρ.length := by
        obtain ⟨w, _⟩ := List.getElem?_eq_some_iff.mp h5
        exact w
      rw [sets_in T ρ j a e nd hm hl] at hi
      cases hi
      obtain ⟨a', q1, _, _, q4⟩ := r.own j d' h5 h1
      rw [h2] at q1; cases q1
      exact ⟨a, h2, h4, h3, q4⟩
    · rw [sets_out T ρ i c] at hi
      obtain ⟨a, h1, h2, h3, h4⟩ := r.own i d hi n
      have na := notA i d a n c hi h1
      obtain ⟨o, ho⟩ := h3.some
      refine ⟨a, h1, fun z => ?_, h3.grow g (by rw [ho, f.same a o ho na]), h4⟩
      rcases f.new a z with z | z
      · exact h2 z
      · rw [ho] at z; cases z
  · obtain ⟨d', h1'⟩ := lift i d h1
    obtain ⟨e', h2'⟩ := lift j e h2
    exact r.inj i j a d' e' hi hj h1' h2' h3 h4
  · obtain ⟨h1, ⟨d, h2⟩, h3⟩ := r.pin i a hi
    refine ⟨h1, ?_, h3⟩
    by_cases c : i ∈ T.map (·.1)
    · obtain ⟨⟨j, b, e⟩, hm, rfl⟩ := List.mem_map.mp c
      have hl : j < ρ.length := by
        obtain ⟨w, _⟩ := List.getElem?_eq_some_iff.mp h2
        exact w
      exact ⟨e, sets_in T ρ j b e nd hm hl⟩
    · exact ⟨d, by rw [sets_out T ρ i c]; exact h2⟩
  · refine f.same b o (r.ext b o hb hp) fun ha => ?_
    rcases hA b ha with ⟨i, d, h⟩ | ⟨_, h, _, _⟩
    · obtain ⟨h1, h2, h3, h4, d', h5⟩ := hT i b d h
      obtain ⟨a', q1, _, _, q4⟩ := r.own i d' h5 h1
      rw [h2] at q1; cases q1
      rcases q4 with q4 | q4
      · rw [hb] at q4; cases q4
      · exact hp i q4
    · rw [hb] at h; cases h
  · rcases f.new b hb with h | h
    · exact r.fro b h
    · exact .inr (r.h0 h)
  · obtain ⟨d, hd⟩ := r.dom j hj v hs
    by_cases c : j ∈ T.map (·.1)
    · obtain ⟨⟨i, a, e⟩, hm, rfl⟩ := List.mem_map.mp c
      have hl : i < ρ.length := by
        obtain ⟨w, _⟩ := List.getElem?_eq_some_iff.mp hd
        exact w
      exact ⟨e, sets_in T ρ i a e nd hm hl⟩
    · exact ⟨d, by rw [sets_out T ρ j c]; exact hd⟩
  · rcases hA b hA' with ⟨i, d, h⟩ | ⟨_, _, _, h0⟩
    · obtain ⟨h1, h2, _⟩ := hT i b d h
      exact nb ⟨i, h1, h2⟩
    · rw [hb] at h0; cases h0
  · rcases f.new b z with z | z
    · exact z
    · rw [(k.keep b o hb nb).1] at z; cases z
end
end VL
end

section
set_option Elab.async false
set_option linter.all false
set_option maxRecDepth 100000
set_option maxHeartbeats 4000000
namespace VL
open PySem PySem.Spec PyProof.Rows L2
set_option autoImplicit false

section
variable {K : PySem.W.Frag} {Γ : Gm} {F F' Fs : Fz} {H H' Hs : Hp} {ρ ρs : Env} {σ : St}
theorem HeldA.mem {sl : List Sl} {vs : List V} {ds : List D} (h : HeldA K F H Hs σ sl vs ds) {a : Addr} : a ∈ mAs (sl.map Sl.m) vs → (∃ j ∈ slots sl, σ[j]? = some (some (.ref a))) ∨ (Hs a = none ∧ ¬ F a) := by
  induction h with
  | nil => intro hm; cases hm
  | @dat s v vs d ds q r ih =>
    intro hm
    have hm' : a ∈ mAs (s.map Sl.m) vs := by cases v <;> exact hm
    exact ih hm'
  | @tmp s b vs d ds q nf z w r ih =>
    intro hm
    rcases List.mem_cons.mp (show a ∈ b :: mAs (s.map Sl.m) vs from hm) with rfl | hm
    · exact .inr ⟨z, nf⟩
    · exact ih hm
  | @slot s j v vs ds q r ih =>
    intro hm
    have go : a ∈ mAs (s.map Sl.m) vs → (∃ j' ∈ slots (.slot j :: s), σ[j']? = some (some (.ref a))) ∨ (Hs a = none ∧ ¬ F a) := fun hm => by
      rcases ih hm with ⟨j', h1, h2⟩ | h
      · exact .inl ⟨j', List.mem_cons_of_mem _ h1, h2⟩
      · exact .inr h
    cases v with
    | ref b =>
      rcases List.mem_cons.mp (show a ∈ b :: mAs (s.map Sl.m) vs from hm) with rfl | hm
      · exact .inl ⟨j, List.mem_cons_self .., q⟩
      · exact go hm
    | _ => exact go hm
theorem HeldA.args {sl : List Sl} {vs : List V} {ds : List D} (h : HeldA K F H Hs σ sl vs ds) (r : Rel K Γ F ρ σ H) (rs : Rel K Γ Fs ρs σ Hs) : ∀ {full : List D}, (∀ j ∈ slots sl, j ∈ Γ.O) → (slots sl).Nodup → fill sl ds ρ = some full →
    ArgsAt K F H (sl.map Sl.m) vs full ∧ (mAs (sl.map Sl.m) vs).Nodup := by
  induction h with
  | nil => intro full ho nd e; cases e; exact ⟨.nil, .nil⟩
  | @dat s v vs d ds q r ih =>
    intro full ho nd e
    obtain ⟨l, e1, rfl⟩ := Option.map_eq_some_iff.mp (show (fill s ds ρ).map (d :: ·) = some full from e)
    obtain ⟨h1, h2⟩ := ih ho nd e1
    refine ⟨.dat q h1, ?_⟩
    cases v <;> exact h2
  | @tmp s b vs d ds q nf z w r ih =>
    intro full ho nd e
    obtain ⟨l, e1, rfl⟩ := Option.map_eq_some_iff.mp (show (fill s ds ρ).map (d :: ·) = some full from e)
    obtain ⟨h1, h2⟩ := ih ho nd e1
    exact ⟨.own q nf h1, List.nodup_cons.mpr ⟨w, h2⟩⟩
  | @slot s j v vs ds q r' ih =>
    intro full ho nd e
    have hj := ho j (List.mem_cons_self ..)
    have nd' := List.nodup_cons.mp (show (j :: slots s).Nodup from nd)
    cases e2 : ρ[j]? with
    | none => simp only [fill, e2] at e; cases e
    | some o =>
      cases o with
      | none => simp only [fill, e2] at e; cases e
      | some d =>
        simp only [fill, e2] at e
        obtain ⟨l, e1, rfl⟩ := Option.map_eq_some_iff.mp e
        obtain ⟨h1, h2⟩ := ih (fun j' hj' => ho j' (List.mem_cons_of_mem _ hj')) nd'.2 e1
        obtain ⟨a, ha, nf, oa, _⟩ := r.own j d e2 hj
        rw [q] at ha; cases ha
        refine ⟨.own oa nf h1, List.nodup_cons.mpr ⟨fun hm => ?_, h2⟩⟩
        rcases r'.mem hm with ⟨j', k1, k2⟩ | ⟨k1, _⟩
        · obtain ⟨d', hd'⟩ := r.dom j' (ho j' (List.mem_cons_of_mem _ k1)) _ k2
          have := r.inj j j' a d d' hj (ho j' (List.mem_cons_of_mem _ k1)) e2 hd' q k2
          subst this
          exact nd'.1 k1
        · exact rs.nownN k1 ⟨j, hj, q⟩
def trip : List Sl → List V → List D → List (Nat × Addr × D)
  | .slot j :: s, .ref a :: vs, e :: es => (j, a, e) :: trip s vs es
  | .tmp :: s, _ :: vs, _ :: es => trip s vs es
  | .dat :: s, _ :: vs, es => trip s vs es
  | _, _, _ => []
theorem HeldA.trip {sl : List Sl} {vs : List V} {ds : List D} (h : HeldA K F H Hs σ sl vs ds) : ∀ {es : List D} {ρ' : Env}, (∀ j ∈ slots sl, ∃ a, σ[j]? = some (some (.ref a))) → OutAt K F' H' (mAs (sl.map Sl.m) vs) es →
    put sl es ρ' = some (sets (trip sl vs es) ρ') ∧ (trip sl vs es).map (·.1) = slots sl ∧ (∀ i a d, (i, a, d) ∈ trip sl vs es → i ∈ slots sl ∧ σ[i]? = some (some (.ref a)) ∧ OwnAt K F' H' a d ∧ ¬ F' a) ∧
    (∀ a ∈ mAs (sl.map Sl.m) vs, (∃ i d, (i, a, d) ∈ trip sl vs es) ∨ (Hs a = none ∧ ¬ F a)) := by
  induction h with
  | nil => intro es ρ' ho o; cases o; exact ⟨rfl, rfl, (fun i a d z => by cases z), (fun a z => by cases z)⟩
  | @dat s v vs d ds q r ih =>
    intro es ρ' ho o
    have o' : OutAt K F' H' (mAs (s.map Sl.m) vs) es := by cases v <;> exact o
    obtain ⟨h1, h2, h3, h4⟩ := ih (ρ' := ρ') ho o'
    exact ⟨h1, h2, h3, fun a ha => h4 a (by cases v <;> exact ha)⟩
  | @tmp s b vs d ds q nf z w r ih =>
    intro es ρ' ho o
    have o0 : OutAt K F' H' (b :: mAs (s.map Sl.m) vs) es := o
    cases o0 with
    | cons oa na o' =>
      obtain ⟨h1, h2, h3, h4⟩ := ih (ρ' := ρ') ho o'
      refine ⟨h1, h2, h3, fun a ha => ?_⟩
      rcases List.mem_cons.mp (show a ∈ b :: mAs (s.map Sl.m) vs from ha) with rfl | ha
      · exact .inr ⟨z, nf⟩
      · exact h4 a ha
  | @slot s j v vs ds q r ih =>
    intro es ρ' ho o
    obtain ⟨a, ha⟩ := ho j (List.mem_cons_self ..)
    rw [q] at ha; cases ha
    have o0 : OutAt K F' H' (a :: mAs (s.map Sl.m) vs) es := o
    cases o0 with
    | @cons _ _ e es' oa na o' =>
      obtain ⟨h1, h2, h3, h4⟩ := ih (ρ' := ρ'.set j (some e)) (fun j' hj' => ho j' (List.mem_cons_of_mem _ hj')) o'
      refine ⟨h1, congrArg (j :: ·) h2, fun i b d hm => ?_, fun b hb => ?_⟩
      · rcases List.mem_cons.mp (show (i, b, d) ∈ (j, a, e) :: VL.trip s vs es' from hm) with z | hm
        · cases z
          exact ⟨List.mem_cons_self .., q, oa, na⟩
        · obtain ⟨k1, k2⟩ := h3 i b d hm
          exact ⟨List.mem_cons_of_mem _ k1, k2⟩
      · rcases List.mem_cons.mp (show b ∈ a :: mAs (s.map Sl.m) vs from hb) with rfl | hb
        · exact .inl ⟨j, e, List.mem_cons_self ..⟩
        · rcases h4 b hb with ⟨i, d, hm⟩ | hh
          · exact .inl ⟨i, d, List.mem_cons_of_mem _ hm⟩
          · exact .inr hh
theorem fill_def : ∀ {sl : List Sl} {ds full : List D}, fill sl ds ρ = some full → ∀ j ∈ slots sl, ∃ d, ρ[j]? = some (some d)
  | [], _, _, _, j, hj => by cases hj
  | .dat :: s, [], _, e, _, _ => by cases e
  | .dat :: s, d :: ds, _, e, j, hj => by
    obtain ⟨l, e1, _⟩ := Option.map_eq_some_iff.mp (show (fill s ds ρ).map (d :: ·) = some _ from e)
    exact fill_def e1 j hj
  | .tmp :: s, [], _, e, _, _ => by cases e
  | .tmp :: s, d :: ds, _, e, j, hj => by
    obtain ⟨l, e1, _⟩ := Option.map_eq_some_iff.mp (show (fill s ds ρ).map (d :: ·) = some _ from e)
    exact fill_def e1 j hj
  | .slot i :: s, ds, full, e, j, hj => by
    cases e2 : ρ[i]? with
    | none => simp only [fill, e2] at e; cases e
    | some o =>
      cases o with
      | none => simp only [fill, e2] at e; cases e
      | some d =>
        simp only [fill, e2] at e
        obtain ⟨l, e1, _⟩ := Option.map_eq_some_iff.mp e
        rcases List.mem_cons.mp (show j ∈ i :: slots s from hj) with rfl | hj
        · exact ⟨d, e2⟩
        · exact fill_def e1 j hj
end

theorem mAs_none : ∀ {sl : List Sl} {vs : List V}, sl.all (fun s => !s.m) = true → mAs (sl.map Sl.m) vs = []
  | [], vs, _ => by cases vs <;> rfl
  | s :: sl, [], _ => by cases s <;> rfl
  | s :: sl, v :: vs, h => by
    rw [List.all_cons, Bool.and_eq_true] at h
    have ih := mAs_none (vs := vs) h.2
    cases s with
    | dat => cases v <;> exact ih
    | slot j => cases h.1
    | tmp => cases h.1
/-! ### a call of a def -/
def mCallF (f : Fn) (sl : List Sl) (m : M (List D)) : M D := fun ρ => (m ρ).bind fun p => match fill sl p.1 p.2 with
  | none => .stuck
  | some full => match f full with
    | .ok q => match put sl q.2 p.2 with
      | none => .stuck
      | some ρ' => .ok (q.1, ρ')
    | .exc c fs _ => if sl.all (fun s => !s.m) = true then .exc c fs p.2 else .stuck
    | .stuck => .stuck
section
variable {X : Cx} {B : Eb} {Γ : Gm} {Ek : XK} {CX : CXT} {k : Nat} {f : Addr} {fd : FuncData} {ps : List Str} {x : Str} {p pos : Pos} {e : Expr} {es : List Expr} {sl : List Sl} {m : M (List D)} {ms : List Bool} {fn : Fn} {ro : Bool}
theorem callt (hms : sl.map Sl.m = ms) (nd : (slots sl).Nodup) (ho : ∀ j ∈ slots sl, j ∈ Γ.O) {σ : St} {H : Hp} {Q : VK}
    (h : tG (fun H F' H' v d => ResAt X.K ro H F' H' v d) X.K B Γ (fun _ => Ek) (mCallF fn sl m) σ H Q) : tCall (spV X.K B ms ro fn) [] Ek (tM X.K B Γ (fun _ => Ek) sl m) σ H Q := by
  obtain ⟨F, ρ, r, h⟩ := h
  refine ⟨F, ρ, r, ?_⟩
  unfold mCallF at h
  cases e1 : m ρ with
  | stuck => rw [e1] at h; exact h.elim
  | exc c fs ρ' => rw [e1] at h; exact h
  | ok q =>
    obtain ⟨ds, ρ1⟩ := q
    rw [e1] at h
    intro vs H1 F1 r1 k1 hh
    show spV X.K B ms ro fn (vs ++ []) H1 Q Ek
    rw [List.append_nil]
    cases e2 : fill sl ds ρ1 with
    | none => simp only [R.bind, e2] at h; exact h.elim
    | some full =>
      simp only [R.bind, e2] at h
      obtain ⟨ha, hnd⟩ := hh.args r1 r ho nd e2
      rw [hms] at ha hnd
      refine ⟨F1, full, r1.trk, ha, hnd, ?_⟩
      cases e3 : fn full with
      | stuck => rw [e3] at h; exact h.elim
      | exc c fs ρ' =>
        rw [e3] at h
        by_cases c1 : sl.all (fun s => !s.m) = true
        · simp only [if_pos c1] at h
          have na : mAs ms vs = [] := by rw [← hms]; exact mAs_none c1
          exact ⟨na, fun H' F' od ex xa => h F' H' od (r1.to ex) (k1.trans ex.kp) xa⟩
        · simp only [if_neg c1] at h
          exact h.elim
      | ok q =>
        rw [e3] at h
        intro v H' F' fr out res
        rw [← hms] at fr out
        have hs : ∀ j ∈ slots sl, ∃ a, σ[j]? = some (some (.ref a)) := fun j hj => by
          obtain ⟨d, hd⟩ := fill_def e2 j hj
          obtain ⟨a, ha, _⟩ := r1.own j d hd (ho j hj)
          exact ⟨a, ha⟩
        obtain ⟨t1, t2, t3, t4⟩ := hh.trip (ρ' := ρ1) hs out
        simp only [t1] at h
        obtain ⟨r2, k2⟩ := r1.after k1 fr (T := trip sl vs q.2) (by rw [hms]; exact ha.ntup) (by rw [t2]; exact nd) (fun i a d hm => by
          obtain ⟨z1, z2, z3, z4⟩ := t3 i a d hm
          exact ⟨ho i z1, z2, z3, z4, fill_def e2 i z1⟩) (fun a hm => by
          rcases t4 a hm with z | ⟨z, zf⟩
          · exact .inl z
          · exact .inr ⟨r.nownN z, r.h0 z, zf, z⟩)
        refine h v H' F' r2 k2 ?_
        unfold ResAt at res ⊢
        cases ro with
        | false => exact res
        | true =>
          obtain ⟨a, rfl, oa, na, hn⟩ := res
          exact ⟨a, rfl, oa, na, k1.none0 r1 hn⟩
theorem ve_call (F : FnOk X.prog X.w X.K X.mg X.base CX k f fd ps (spV X.K B ms false fn)) (hr : Room k X.A) (hg : Gl X x) (hm : X.mg x = some (.ref f)) (hk : PySem.W.keepIn X.K (.ref f) = true) (hb : Binds X.K fd ps []) (hx : Passes CX X Ek)
    (ha : VM X B Γ (fun _ => Ek) (e :: es) sl m) (ho : ∀ j ∈ slots sl, j ∈ Γ.O) (hms : sl.map Sl.m = ms := by rfl) (nd : (slots sl).Nodup := by decide) (hdb : (x == ("__debug__" : Str)) = false := by decide) (he : starEach (e :: es) X.env = (false, eval e X.env) :: starEach es X.env := by rfl)
    (hpl : (backTo pos (starEach es X.env)).any (·.1) = false := by rfl) : VE X B Γ (fun _ => Ek) (.Call (.Name x p) (e :: es) [] pos) (mCallF fn sl m) :=
  PE.imp (pe_call F hr hg hm hk hb .nil hx ha hdb he hpl) fun σ H Q h => callt hms nd ho h
theorem vo_call (F : FnOk X.prog X.w X.K X.mg X.base CX k f fd ps (spV X.K B ms true fn)) (hr : Room k X.A) (hg : Gl X x) (hm : X.mg x = some (.ref f)) (hk : PySem.W.keepIn X.K (.ref f) = true) (hb : Binds X.K fd ps []) (hx : Passes CX X Ek)
    (ha : VM X B Γ (fun _ => Ek) (e :: es) sl m) (ho : ∀ j ∈ slots sl, j ∈ Γ.O) (hms : sl.map Sl.m = ms := by rfl) (nd : (slots sl).Nodup := by decide) (hdb : (x == ("__debug__" : Str)) = false := by decide) (he : starEach (e :: es) X.env = (false, eval e X.env) :: starEach es X.env := by rfl)
    (hpl : (backTo pos (starEach es X.env)).any (·.1) = false := by rfl) : VO X B Γ (fun _ => Ek) (.Call (.Name x p) (e :: es) [] pos) (mCallF fn sl m) :=
  PE.imp (pe_call F hr hg hm hk hb .nil hx ha hdb he hpl) fun σ H Q h => callt hms nd ho h
theorem ve_call0 (F : FnOk X.prog X.w X.K X.mg X.base CX k f fd ps (spV X.K B [] false fn)) (hr : Room k X.A) (hg : Gl X x) (hm : X.mg x = some (.ref f)) (hk : PySem.W.keepIn X.K (.ref f) = true) (hb : Binds X.K fd ps []) (hx : Passes CX X Ek)
    (hdb : (x == ("__debug__" : Str)) = false := by decide) : VE X B Γ (fun _ => Ek) (.Call (.Name x p) [] [] pos) (mCallF fn [] mNil) :=
  PE.imp (pe_call0 F hr hg hm hk hb .nil hx hdb) fun σ H Q h => by
    have q := callt (X := X) (ro := false) (sl := []) (m := mNil) rfl .nil (fun j hj => by cases hj) h
    obtain ⟨F, ρ, r, hq⟩ := q
    exact hq [] H F r .refl .nil
end

/-! ### a def keeps its promise -/
/-- the slots of the parameters that may be changed -/
def mPs : Nat → List Bool → List Nat
  | _, [] => []
  | i, true :: ms => i :: mPs (i + 1) ms
  | i, false :: ms => mPs (i + 1) ms
def outs : List Nat → Env → Option (List D)
  | [], _ => some []
  | i :: is, ρ => match ρ[i]? with
    | some (some d) => (outs is ρ).map (d :: ·)
    | _ => none
def startE (n : Nat) (ds : List D) : Env := ds.map some ++ List.replicate (n - ds.length) none
def runF (ro : Bool) (n : Nat) (Ps : List Nat) (m : M Fl) : Fn := fun ds => match m (startE n ds) with
  | .ok p => match p.1 with
    | .rt d => match outs Ps p.2 with
      | some es => .ok (d, es)
      | none => .stuck
    | .nx => if ro = true then .stuck else match outs Ps p.2 with
      | some es => .ok (.none, es)
      | none => .stuck
    | _ => .stuck
  | .exc c fs _ => if Ps = [] then .exc c fs [] else .stuck
  | .stuck => .stuck
section
variable {K : PySem.W.Frag} {F F' : Fz} {H H' : Hp}
theorem ArgsAt.val : ∀ {ms : List Bool} {vs : List V} {ds : List D} (i : Nat), ArgsAt K F H ms vs ds → ∀ {k : Nat} {d : D}, ds[k]? = some d → ∃ v, vs[k]? = some v ∧ (i + k ∉ mPs i ms → Dq K F H v d) ∧
    (i + k ∈ mPs i ms → ∃ a, v = .ref a ∧ OwnAt K F H a d ∧ ¬ F a ∧ a ∈ mAs ms vs ∧ (i + k, a) ∈ (mPs i ms).zip (mAs ms vs))
  | _, _, _, i, .nil, k, d, h => by simp at h
  | _, _, _, i, .dat (ms := ms) (v := v) (vs := vs) q r, 0, d, h => by
    simp at h; subst h
    have hn : ∀ (ms : List Bool) (j : Nat), i < j → i ∉ mPs j ms := by
      intro ms
      induction ms with
      | nil => intro j _ z; cases z
      | cons b ms ih =>
        intro j hj z
        cases b with
        | true =>
          rcases List.mem_cons.mp (show i ∈ j :: mPs (j + 1) ms from z) with e | z
          · omega
          · exact ih (j + 1) (by omega) z
        | false => exact ih (j + 1) (by omega) z
    exact ⟨v, rfl, fun _ => q, fun z => absurd z (hn ms (i + 1) (by omega))⟩
  | _, _, _, i, .dat (ms := ms) (v := v) (vs := vs) q r, k + 1, d, h => by
    obtain ⟨w, h1, h2, h3⟩ := ArgsAt.val (i + 1) r (k := k) (d := d) (by simpa using h)
    have e : i + (k + 1) = i + 1 + k := by omega
    have e2 : mAs (false :: ms) (v :: vs) = mAs ms vs := by cases v <;> rfl
    rw [e, e2]
    exact ⟨w, by simpa using h1, h2, h3⟩
  | _, _, _, i, .own (ms := ms) (a := a) (vs := vs) q nf r, 0, d, h => by
    simp at h; subst h
    exact ⟨.ref a, rfl, fun z => absurd (List.mem_cons_self ..) z, fun _ => ⟨a, rfl, q, nf, List.mem_cons_self .., List.mem_cons_self ..⟩⟩
  | _, _, _, i, .own (ms := ms) (a := a) (vs := vs) q nf r, k + 1, d, h => by
    obtain ⟨w, h1, h2, h3⟩ := ArgsAt.val (i + 1) r (k := k) (d := d) (by simpa using h)
    have e : i + (k + 1) = i + 1 + k := by omega
    rw [e]
    refine ⟨w, by simpa using h1, fun z => h2 fun y => z (List.mem_cons_of_mem _ y), fun z => ?_⟩
    rcases List.mem_cons.mp (show i + 1 + k ∈ i :: mPs (i + 1) ms from z) with e' | z
    · omega
    · obtain ⟨b, z1, z2, z3, z4, z5⟩ := h3 z
      exact ⟨b, z1, z2, z3, List.mem_cons_of_mem _ z4, List.mem_cons_of_mem _ z5⟩
theorem ArgsAt.pin : ∀ {ms : List Bool} {vs : List V} {ds : List D} (i : Nat), ArgsAt K F H ms vs ds → ∀ {j : Nat} {a : Addr}, (j, a) ∈ (mPs i ms).zip (mAs ms vs) → ∃ k d, j = i + k ∧ vs[k]? = some (.ref a) ∧ ds[k]? = some d
  | _, _, _, i, .nil, j, a, h => by cases h
  | _, _, _, i, .dat (ms := ms) (v := v) (vs := vs) q r, j, a, h => by
    have e2 : mAs (false :: ms) (v :: vs) = mAs ms vs := by cases v <;> rfl
    rw [e2] at h
    obtain ⟨k, d, e, h1, h2⟩ := ArgsAt.pin (i + 1) r h
    exact ⟨k + 1, d, by omega, by simpa using h1, by simpa using h2⟩
  | _, _, _, i, .own (ms := ms) (a := b) (vs := vs) q nf r, j, a, h => by
    rcases List.mem_cons.mp (show (j, a) ∈ (i, b) :: (mPs (i + 1) ms).zip (mAs ms vs) from h) with e | h
    · cases e
      exact ⟨0, _, rfl, rfl, rfl⟩
    · obtain ⟨k, d, e, h1, h2⟩ := ArgsAt.pin (i + 1) r h
      exact ⟨k + 1, d, by omega, by simpa using h1, by simpa using h2⟩
theorem mPs_len : ∀ {ms : List Bool} {vs : List V} {ds : List D} (i : Nat), ArgsAt K F H ms vs ds → (mPs i ms).length = (mAs ms vs).length
  | _, _, _, i, .nil => rfl
  | _, _, _, i, .dat (ms := ms) (v := v) (vs := vs) q r => by
    have e2 : mAs (false :: ms) (v :: vs) = mAs ms vs := by cases v <;> rfl
    rw [e2]
    exact mPs_len (i + 1) r
  | _, _, _, i, .own q nf r => congrArg (· + 1) (mPs_len (i + 1) r)
theorem nodup_fst {α β : Type} : ∀ {l : List (α × β)} {i j : α} {a : β}, (l.map (·.2)).Nodup → (i, a) ∈ l → (j, a) ∈ l → i = j
  | [], _, _, _, _, h, _ => by cases h
  | p :: l, i, j, a, nd, h1, h2 => by
    rw [List.map_cons, List.nodup_cons] at nd
    rcases List.mem_cons.mp h1 with e1 | h1
    · rcases List.mem_cons.mp h2 with e2 | h2
      · exact congrArg Prod.fst (e1.trans e2.symm)
      · exact absurd (by rw [← e1]; exact List.mem_map.mpr ⟨_, h2, rfl⟩) nd.1
    · rcases List.mem_cons.mp h2 with e2 | h2
      · exact absurd (by rw [← e2]; exact List.mem_map.mpr ⟨_, h1, rfl⟩) nd.1
      · exact nodup_fst nd.2 h1 h2
theorem zip_snd {α β : Type} : ∀ {l : List α} {m : List β}, l.length = m.length → (l.zip m).map (·.2) = m
  | [], [], _ => rfl
  | [], _ :: _, h => by cases h
  | _ :: _, [], h => by cases h
  | a :: l, b :: m, h => by
    rw [List.zip_cons_cons, List.map_cons, zip_snd (Nat.succ.inj h)]
/-- the state at a def's entry -/
theorem rel_start {ms : List Bool} {vs : List V} {ds : List D} {n : Nat} (t : Trk F H) (h : ArgsAt K F H ms vs ds) (nd : (mAs ms vs).Nodup) (hn : ms.length ≤ n) : Rel K (Gd.w ⟨mAs ms vs, F, H⟩ (mPs 0 ms) (mPs 0 ms)) F (startE n ds) (vs.map some ++ List.replicate (n - vs.length) none) H := by
  obtain ⟨l1, l2⟩ := h.len
  have get : ∀ i d, (startE n ds)[i]? = some (some d) → ds[i]? = some d := fun i d hi => by
    unfold startE at hi
    by_cases c : i < ds.length
    · rw [List.getElem?_append_left (by simpa using c), List.getElem?_map] at hi
      cases e : ds[i]? with
      | none => rw [e] at hi; cases hi
      | some a => rw [e] at hi; cases hi; rfl
    · rw [List.getElem?_append_right (by simpa using c), List.getElem?_replicate] at hi
      split at hi <;> cases hi
  have getV : ∀ (i : Nat) (v : V), (vs.map some ++ List.replicate (n - vs.length) none : St)[i]? = some (some v) → vs[i]? = some v := fun i d hi => by
    by_cases c : i < vs.length
    · rw [List.getElem?_append_left (by simpa using c), List.getElem?_map] at hi
      cases e : vs[i]? with
      | none => rw [e] at hi; cases hi
      | some a => rw [e] at hi; cases hi; rfl
    · rw [List.getElem?_append_right (by simpa using c), List.getElem?_replicate] at hi
      split at hi <;> cases hi
  have putV : ∀ (i : Nat) (v : V), vs[i]? = some v → (vs.map some ++ List.replicate (n - vs.length) none : St)[i]? = some (some v) := fun i v hi => by
    obtain ⟨w, e⟩ := List.getElem?_eq_some_iff.mp hi
    rw [List.getElem?_append_left (by simpa using w), List.getElem?_map, hi]
    rfl
  have putD : ∀ (i : Nat) (d : D), ds[i]? = some d → (startE n ds)[i]? = some (some d) := fun i v hi => by
    obtain ⟨w, e⟩ := List.getElem?_eq_some_iff.mp hi
    unfold startE
    rw [List.getElem?_append_left (by simpa using w), List.getElem?_map, hi]
    rfl
  have own : ∀ i d, ds[i]? = some d → i ∈ mPs 0 ms → ∃ a, vs[i]? = some (.ref a) ∧ OwnAt K F H a d ∧ ¬ F a ∧ (i, a) ∈ (mPs 0 ms).zip (mAs ms vs) := fun i d hd hi => by
    obtain ⟨v, h1, _, h3⟩ := h.val 0 hd
    rw [Nat.zero_add] at h3
    obtain ⟨a, rfl, z2, z3, z4, z5⟩ := h3 hi
    exact ⟨a, h1, z2, z3, z5⟩
  refine ⟨by unfold startE; simp only [List.length_append, List.length_map, List.length_replicate]; omega, t, fun i d hi ni => ?_, fun i d hi ni => ?_, fun i j a d e hi hj h1 h2 h3 h4 => ?_, fun i a hi => ?_, fun b o hb _ => hb, fun b hb => .inl hb, fun b hb => hb, fun j hj v hs => ?_⟩
  · obtain ⟨v, h1, h2, _⟩ := h.val 0 (get i d hi)
    rw [Nat.zero_add] at h2
    exact ⟨v, putV i v h1, h2 ni⟩
  · obtain ⟨a, h1, h2, h3, h4⟩ := own i d (get i d hi) ni
    exact ⟨a, putV i _ h1, h3, h2, .inr h4⟩
  · obtain ⟨a1, k1, _, _, k4⟩ := own i d (get i d h1) hi
    obtain ⟨a2, m1, _, _, m4⟩ := own j e (get j e h2) hj
    rw [getV i _ h3] at k1; cases k1
    rw [getV j _ h4] at m1; cases m1
    exact nodup_fst (by rw [zip_snd (mPs_len 0 h)]; exact nd) k4 m4
  · obtain ⟨k, d, e, h1, h2⟩ := h.pin 0 hi
    rw [Nat.zero_add] at e
    subst e
    exact ⟨(List.of_mem_zip hi).1, ⟨d, putD _ d h2⟩, putV _ _ h1⟩
  · have hv := getV j v hs
    have : j < ds.length := by
      obtain ⟨w, _⟩ := List.getElem?_eq_some_iff.mp hv
      omega
    exact ⟨ds[j], putD j _ (List.getElem?_eq_getElem this)⟩
theorem outs_at {G : Gd} {Ps O : List Nat} {ρ : Env} {σ : St} : ∀ (Qs : List Nat) (as : List Addr) (es : List D), (∀ j a, (j, a) ∈ Qs.zip as → (j, a) ∈ Ps.zip G.As) → Qs.length = as.length → Rel K (G.w Ps O) F ρ σ H → outs Qs ρ = some es → OutAt K F H as es
  | [], [], es, _, _, r, e => by cases e; exact .nil
  | [], _ :: _, _, _, h, _, _ => by cases h
  | _ :: _, [], _, _, h, _, _ => by cases h
  | q :: Qs, a :: as, es, hz, hl, r, e => by
    obtain ⟨h1, ⟨d, h2⟩, h3⟩ := r.pin q a (hz q a (List.mem_cons_self ..))
    simp only [outs, h2] at e
    obtain ⟨l, e1, rfl⟩ := Option.map_eq_some_iff.mp e
    obtain ⟨b, k1, k2, k3, _⟩ := r.own q d h2 h1
    rw [h3] at k1; cases k1
    exact .cons k3 k2 (outs_at Qs as l (fun j a' z => hz j a' (List.mem_cons_of_mem _ z)) (Nat.succ.inj hl) r e1)
end
/-- THE RULE for a def: its body's judgement, for every entry -/
theorem fn_ok {P : Program} {w : World} {K : PySem.W.Frag} {mg : Str → Option Value} {base : Heap} {x qual : Str} {params : Arguments} {body : List Stmt} {scope : Scope} {dvs : List V} {kws : List (Str × V)} {f : Addr} {fd : FuncData} {CX : CXT} {N ps : List Str} {k : Nat} {B : Eb} {ms : List Bool} {ro : Bool} {m : M Fl} {On : List Nat}
    (Fd : FunD K x qual params body scope dvs kws f fd) (S : FnScope N ps scope) (hps : ps.length = ms.length)
    (hbody : ∀ (cdv : Value) (A : Around) (outer : List PySem.Env) (s : Shared) (H : Hp) (E : XK) (G : Gd), Room k (A.deeper (envOfC qual scope s.heap.objs.size f cdv)) →
      VSs (cxOf CX P w K mg base N qual scope f cdv A outer s H E) B G (mPs 0 ms) (fun _ => E) ro (mPs 0 ms) On [] body m) : FnOk P w K mg base CX (k + 1) f fd ps (spV K B ms ro (runF ro N.length (mPs 0 ms) m)) := by
  refine FunD.ok Fd S (fun vs H Q E h => ?_) (fun cdv A outer s H vs Q E hr h => ?_)
  · obtain ⟨F, ds, t, ha, _⟩ := h
    rw [ha.len.1, hps]
  · obtain ⟨F, ds, t, ha, nd, hm⟩ := h
    refine ⟨_, hbody cdv A outer s H E ⟨mAs ms vs, F, H⟩ hr, F, startE N.length ds, ?_, ?_⟩
    · have hpl : ps.length ≤ N.length := by have := congrArg List.length S.pre; rw [List.length_take] at this; omega
      exact rel_start t ha nd (by rw [← hps]; exact hpl)
    · have frm : ∀ {O' : List Nat} {F' : Fz} {ρ' : Env} {σ' : St} {H' : Hp}, Rel K (Gd.w ⟨mAs ms vs, F, H⟩ (mPs 0 ms) O') F' ρ' σ' H' → Frm (mAs ms vs) F H F' H' := fun {O' F' ρ' σ' H'} r =>
        ⟨fun b o hb nb => r.ext b o hb fun i hi => nb (List.of_mem_zip hi).2, r.frm, r.fro, r.trk⟩
      have fin : ∀ {O' : List Nat} {F' : Fz} {ρ' : Env} {σ' : St} {H' : Hp} {es : List D}, Rel K (Gd.w ⟨mAs ms vs, F, H⟩ (mPs 0 ms) O') F' ρ' σ' H' → outs (mPs 0 ms) ρ' = some es → OutAt K F' H' (mAs ms vs) es := fun {O' F' ρ' σ' H' es} r e =>
        outs_at (mPs 0 ms) (mAs ms vs) es (fun j a z => z) (mPs_len 0 ha) r e
      unfold runF at hm
      cases e : m (startE N.length ds) with
      | stuck => rw [e] at hm; exact hm.elim
      | exc c fs ρ' =>
        rw [e] at hm
        by_cases c1 : mPs 0 ms = []
        · simp only [if_pos c1] at hm
          obtain ⟨na, hm⟩ := hm
          intro O' σ' F' H' od r g xa
          have fr := frm r
          rw [na] at fr
          exact hm H' F' od fr.ext xa
        · simp only [if_neg c1] at hm
      | ok p =>
        obtain ⟨fl, ρ'⟩ := p
        rw [e] at hm
        cases fl with
        | rt d =>
          intro O' v σ' H' F' r g ra
          cases e2 : outs (mPs 0 ms) ρ' with
          | none => simp only [e2] at hm
          | some es =>
            simp only [e2] at hm
            exact hm v H' F' (frm r) (fin r e2) ra
        | nx =>
          intro σ' H' F' r g
          cases ro with
          | true => exact False.elim hm
          | false =>
            cases e2 : outs (mPs 0 ms) ρ' with
            | none => simp only [e2] at hm; exact hm.elim
            | some es =>
              simp only [e2] at hm
              exact hm .non H' F' (frm r) (fin r e2) Dq.non
        | bk => exact False.elim hm
        | ct => exact False.elim hm
end VL
end

section
set_option Elab.async false
set_option linter.all false
set_option maxRecDepth 100000
set_option maxHeartbeats 4000000
set_option autoImplicit false
/-! data that are alike up to the first place at which they differ: < and sorts of them -/
namespace VL
open PySem PySem.W PySem.SeqAt PyProof.Rows
open AutoSeq1 (wpAny_loadPart')
open MeetsSeq MeetsSeq2 MeetsSeq3 SeqRoads2
/-- tuple's own <: only the first place that differs is asked -/
theorem tuple_ltF (l b : Addr) (xs ys : Array Value) (n m : Nat) (dx dy : Option Addr) (sx sy : Array (Option Value)) (e r : Nat → Bool) :
    Meets (Builtin.«tuple.__lt__» ⟨[.ref l, .ref b], []⟩)
      (fun A R s => s.heap.get? l = some { cls := .type "tuple", dict := dx, data := .seq xs n, slots := sx } ∧ s.heap.get? b = some { cls := .type "tuple", dict := dy, data := .seq ys m, slots := sy } ∧
        (∀ j (h1 : j < xs.size) (h2 : j < ys.size), EqAt A.in1 s xs[j] ys[j] (e j)) ∧ (∀ j (h1 : j < xs.size) (h2 : j < ys.size), (∀ i, i < j → e i = true) → e j = false → RcLt A.in1 s xs[j] ys[j] (r j)) ∧
        R (.ok (.ret (.bool (firstLt e r (decide (xs.size < ys.size)) (List.range (min xs.size ys.size)))))) s) :=
  .of_wp fun prog w A R s h => by
    obtain ⟨hp, g, d, tk, os⟩ := s; obtain ⟨hx, hy, eqs, lts, hR0⟩ := h
    have f2 := AutoSeq1.sub_tuple_tuple
    have zl : (xs.toList.zip ys.toList).length = min xs.size ys.size := by simp
    wp_walk using wpAny_loadPart' hx, wpAny_loadPart' hy, wpAny_forIn_list _ (fun rest b s' => b.1 = none ∧ s' = ⟨hp, g, d, tk, os⟩ ∧ ∃ i, rest = (xs.toList.zip ys.toList).drop i ∧ (∀ k, k < i → e k = true) ∧
      R (.ok (.ret (.bool (firstLt e r (decide (xs.size < ys.size)) ((List.range (min xs.size ys.size)).drop i))))) ⟨hp, g, d, tk, os⟩) _
    case turn =>
      rintro ⟨y, x⟩ rest b s' ⟨hb', rfl, i, hz, same, hR⟩
      have inz : i < (xs.toList.zip ys.toList).length := by
        by_cases c : i < (xs.toList.zip ys.toList).length
        · exact c
        · rw [List.drop_of_length_le (Nat.le_of_not_lt c)] at hz
          cases hz
      have im : i < min xs.size ys.size := zl ▸ inz
      have i1 : i < xs.size := by omega
      have i2 : i < ys.size := by omega
      rw [List.drop_eq_getElem_cons inz] at hz
      obtain ⟨hyx, hrest⟩ := List.cons.inj hz
      have ey : y = xs[i] := by have := congrArg Prod.fst hyx; simpa using this
      have ex : x = ys[i] := by have := congrArg Prod.snd hyx; simpa using this
      subst ey ex
      have er : (List.range (min xs.size ys.size)).drop i = i :: (List.range (min xs.size ys.size)).drop (i + 1) := by simp [List.drop_eq_getElem_cons, im]
      rw [er] at hR
      refine wpAny_bind (eqs i i1 i2 prog w _ _ ?_)
      cases ei : e i with
      | true =>
        rw [firstLt_yes ei] at hR
        wp_walk
        exact ⟨rfl, rfl, i + 1, hrest, fun k hk => by
          by_cases c : k = i
          · rw [c]; exact ei
          · exact same k (by omega), hR⟩
      | false =>
        rw [firstLt_no ei] at hR
        show wpAny (model prog w) A.in1 (do
          rule "tuple.compare.by-the-first-pair-that-differs"
          let v ← richCompare CmpOp.Lt xs[i] ys[i]
          let u ← ret v
          pure (ForInStep.done (some u, ()))) _ _ _
        refine wpAny_bind (wpAny_rule (wpAny_bind (lts i i1 i2 same ei prog w _ _ ?_)))
        wp_walk
        exact ⟨_, rfl, hR⟩
    case fin =>
      rintro ⟨b1, b2⟩ s' ⟨hb', rfl, i, hz, _, hR⟩
      simp only at hb'
      subst hb'
      have out : min xs.size ys.size ≤ i := by
        by_cases c : i < (xs.toList.zip ys.toList).length
        · rw [List.drop_eq_getElem_cons c] at hz
          cases hz
        · rw [zl] at c
          omega
      rw [List.drop_of_length_le (by simpa using out)] at hR
      wp_walk
      exact ⟨_, rfl, by simpa [Builtin.Tuple.tupleCompareSizes, firstLt] using hR⟩
    case h =>
      exact ⟨rfl, rfl, 0, rfl, (fun _ z => absurd z (Nat.not_lt_zero _)), by simpa using hR0⟩
section
variable {A : Around} {s : Shared}
theorem rcLtF {l b : Addr} {xs ys : Array Value} {e r : Nat → Bool} (hl : s.heap.IsTuple l xs) (hb : s.heap.IsTuple b ys) (hu : A.units < cLine)
    (he : ∀ j (h1 : j < xs.size) (h2 : j < ys.size), EqAt A.in1 s xs[j] ys[j] (e j)) (hr : ∀ j (h1 : j < xs.size) (h2 : j < ys.size), (∀ i, i < j → e i = true) → e j = false → RcLt A.in1 s xs[j] ys[j] (r j)) :
    RcLt A s (.ref l) (.ref b) (firstLt e r (decide (xs.size < ys.size)) (List.range (min xs.size ys.size))) := fun prog w E Q h => by
  obtain ⟨⟨c1, q1, p1, z1⟩, ho, hc, n, hd⟩ := id hl
  obtain ⟨⟨c2, q2, p2, z2⟩, ho2, hc2, n2, hd2⟩ := id hb
  dsimp only at hc hd hc2 hd2
  subst hc hd hc2 hd2
  exact richCompare_meets_room (op := .Lt) ⟨_, ho, rfl⟩ ⟨_, ho2, rfl⟩ F.slot_tuple_lt F.entry_tuple_lt (F.args_tuple_lt_2 _ _) (tuple_ltF l b xs ys n n2 q1 q2 z1 z2 e r)
    ⟨ho, ho2, he, hr, (fun z => nomatch z), h⟩ hu
/-- the call of tuple's own < -/
theorem call_ltF {prog : Program} {w : World} {E : Value → Shared → Prop} {Q : Value → Shared → Prop} {l b : Addr} {xs ys : Array Value} {e r : Nat → Bool} (hl : s.heap.IsTuple l xs) (hb : s.heap.IsTuple b ys)
    (he : ∀ j (h1 : j < xs.size) (h2 : j < ys.size), EqAt A.in1 s xs[j] ys[j] (e j)) (hr : ∀ j (h1 : j < xs.size) (h2 : j < ys.size), (∀ i, i < j → e i = true) → e j = false → RcLt A.in1 s xs[j] ys[j] (r j))
    (h : Q (.bool (firstLt e r (decide (xs.size < ys.size)) (List.range (min xs.size ys.size)))) s) : wpAny (model prog w) A (call (.builtin "tuple.__lt__") [.ref l, .ref b]) Q E s := by
  obtain ⟨⟨c1, q1, p1, z1⟩, ho, hc, n, hd⟩ := id hl
  obtain ⟨⟨c2, q2, p2, z2⟩, ho2, hc2, n2, hd2⟩ := id hb
  dsimp only at hc hd hc2 hd2
  subst hc hd hc2 hd2
  exact call_meets F.slot_tuple_lt ⟨_, ho, rfl⟩ F.entry_tuple_lt (F.args_tuple_lt_2 _ _) (tuple_ltF l b xs ys n n2 q1 q2 z1 z2 e r) ⟨ho, ho2, he, hr, h⟩
end
mutual
/-- alike up to the first place that differs -/
def lk : PyData → PyData → Bool
  | .none, .none => true
  | .bool _, .bool _ => true
  | .int _, .int _ => true
  | .str _, .str _ => true
  | .list xs, .list ys => alikeAll xs ys
  | .tuple xs, .tuple ys => lkAll xs ys
  | _, _ => false
def lkAll : List PyData → List PyData → Bool
  | x :: xs, y :: ys => if PyData.eqv x y = true then alike x y && lkAll xs ys else lk x y
  | [], _ => true
  | _ :: _, [] => true
end
theorem lk_yes {x y : PyData} {xs ys : List PyData} (h : lkAll (x :: xs) (y :: ys) = true) (e : PyData.eqv x y = true) : alike x y = true ∧ lkAll xs ys = true := by
  rw [lkAll, if_pos e, Bool.and_eq_true] at h
  exact h
theorem lk_no {x y : PyData} {xs ys : List PyData} (h : lkAll (x :: xs) (y :: ys) = true) (e : PyData.eqv x y = false) : lk x y = true := by
  rw [lkAll, if_neg (by rw [e]; decide)] at h
  exact h
/-- what is no tuple is alike -/
theorem lk_flat {x y : PyData} (h : lk x y = true) (n : ∀ xs, x ≠ .tuple xs) : alike x y = true := by
  cases x with
  | tuple xs => exact absurd rfl (n xs)
  | none => cases y <;> simp [lk] at h <;> simp [alike]
  | bool _ => cases y <;> simp [lk] at h <;> simp [alike]
  | int _ => cases y <;> simp [lk] at h <;> simp [alike]
  | str _ => cases y <;> simp [lk] at h <;> simp [alike]
  | list xs => cases y <;> simp [lk] at h; simpa [alike] using h
  | dict _ => cases y <;> simp [lk] at h
theorem lk_tup {xs : List PyData} {y : PyData} (h : lk (.tuple xs) y = true) : ∃ ys, y = .tuple ys ∧ lkAll xs ys = true := by
  cases y <;> simp [lk] at h
  exact ⟨_, rfl, h⟩
mutual
theorem alike_lk : ∀ (x y : PyData), alike x y = true → lk x y = true
  | .none, y, h => by cases y <;> simp [alike] at h <;> simp [lk]
  | .bool _, y, h => by cases y <;> simp [alike] at h <;> simp [lk]
  | .int _, y, h => by cases y <;> simp [alike] at h <;> simp [lk]
  | .str _, y, h => by cases y <;> simp [alike] at h <;> simp [lk]
  | .list _, y, h => by cases y <;> simp [alike] at h; simpa [lk] using h
  | .dict _, y, h => by cases y <;> simp [alike] at h
  | .tuple xs, y, h => by
    cases y <;> simp [alike] at h
    rw [lk]
    exact alike_lkAll xs _ h
theorem alike_lkAll : ∀ (xs ys : List PyData), alikeAll xs ys = true → lkAll xs ys = true
  | [], ys, _ => by cases ys <;> rfl
  | _ :: _, [], _ => rfl
  | x :: xs, y :: ys, h => by
    obtain ⟨h1, h2⟩ := alike_all_cons h
    rw [lkAll]
    split
    · rw [h1, alike_lkAll xs ys h2]; rfl
    · exact alike_lk x y h1
end
mutual
theorem lk_toks : ∀ (x y : PyData), lk x y = true → PyData.eqv x y = true → keyToks x = keyToks y
  | .tuple xs, y, h, e => by
    obtain ⟨ys, rfl, h⟩ := lk_tup h
    simp only [keyToks]
    exact lk_toksAll xs ys h (by simpa [PyData.eqv] using e)
  | .none, y, h, e => (toks_eqv _ y (lk_flat h (by simp))).1 e
  | .bool _, y, h, e => (toks_eqv _ y (lk_flat h (by simp))).1 e
  | .int _, y, h, e => (toks_eqv _ y (lk_flat h (by simp))).1 e
  | .str _, y, h, e => (toks_eqv _ y (lk_flat h (by simp))).1 e
  | .list _, y, h, e => (toks_eqv _ y (lk_flat h (by simp))).1 e
  | .dict _, y, h, e => (toks_eqv _ y (lk_flat h (by simp))).1 e
theorem lk_toksAll : ∀ (xs ys : List PyData), lkAll xs ys = true → PyData.eqvAll xs ys = true → keyToksAll xs = keyToksAll ys
  | [], [], _, _ => rfl
  | [], _ :: _, _, e => by simp [PyData.eqvAll] at e
  | _ :: _, [], _, e => by simp [PyData.eqvAll] at e
  | x :: xs, y :: ys, h, e => by
    rw [eqv_all_cons, Bool.and_eq_true] at e
    obtain ⟨a, b⟩ := lk_yes h e.1
    rw [toks_all_cons, toks_all_cons, (toks_eqv x y a).1 e.1, lk_toksAll xs ys b e.2]
end
mutual
theorem lk_lex : ∀ (x y : PyData), lk x y = true → PyData.eqv x y = false → ∀ l m, PyProof.Rows.lexLt itemOrd (keyToks x ++ l) (keyToks y ++ m) = PyProof.Rows.lexLt itemOrd (keyToks x) (keyToks y)
  | .tuple xs, y, h, e => by
    obtain ⟨ys, rfl, h⟩ := lk_tup h
    simp only [keyToks]
    exact lk_lexAll xs ys h (by simpa [PyData.eqv] using e)
  | .none, y, h, e => (toks_eqv _ y (lk_flat h (by simp))).2 e
  | .bool _, y, h, e => (toks_eqv _ y (lk_flat h (by simp))).2 e
  | .int _, y, h, e => (toks_eqv _ y (lk_flat h (by simp))).2 e
  | .str _, y, h, e => (toks_eqv _ y (lk_flat h (by simp))).2 e
  | .list _, y, h, e => (toks_eqv _ y (lk_flat h (by simp))).2 e
  | .dict _, y, h, e => (toks_eqv _ y (lk_flat h (by simp))).2 e
theorem lk_lexAll : ∀ (xs ys : List PyData), lkAll xs ys = true → PyData.eqvAll xs ys = false → ∀ l m, PyProof.Rows.lexLt itemOrd (keyToksAll xs ++ l) (keyToksAll ys ++ m) = PyProof.Rows.lexLt itemOrd (keyToksAll xs) (keyToksAll ys)
  | [], [], _, e => by simp [PyData.eqvAll] at e
  | [], y :: ys, _, _ => fun l m => by
    rw [toks_all_cons]
    simp only [keyToksAll, List.cons_append, List.nil_append]
    rw [lex_diff (O := itemOrd) (by simp), lex_diff (O := itemOrd) (by simp)]
  | x :: xs, [], _, _ => fun l m => by
    rw [toks_all_cons]
    simp only [keyToksAll, List.cons_append, List.nil_append]
    rw [lex_diff (O := itemOrd) (by simp), lex_diff (O := itemOrd) (by simp)]
  | x :: xs, y :: ys, h, e => fun l m => by
    rw [eqv_all_cons] at e
    rw [toks_all_cons, toks_all_cons, List.cons_append, List.cons_append, List.append_assoc, List.append_assoc, lex_self (O := itemOrd), lex_self (O := itemOrd)]
    cases c : PyData.eqv x y with
    | true =>
      obtain ⟨a, b⟩ := lk_yes h c
      rw [c, Bool.true_and] at e
      rw [(toks_eqv x y a).1 c, lex_pre, lex_pre]
      exact lk_lexAll xs ys b e l m
    | false =>
      have z := lk_lex x y (lk_no h c) c
      rw [z, z]
end
theorem lt_no {x y : PyData} {xs ys : List PyData} (h : lk x y = true) (e : PyData.eqv x y = false) : PyProof.Rows.lexLt itemOrd (keyToksAll (x :: xs)) (keyToksAll (y :: ys)) = dataLt x y := by
  rw [toks_all_cons, toks_all_cons, lex_self (O := itemOrd), lk_lex x y h e]
  rfl
theorem first_lk : ∀ (xs ys : List PyData), lkAll xs ys = true →
    firstLt (pairEq xs ys) (fun j => dataLt (xs.getD j .none) (ys.getD j .none)) (decide (xs.length < ys.length)) (List.range (min xs.length ys.length)) = PyProof.Rows.lexLt itemOrd (keyToksAll xs) (keyToksAll ys)
  | [], [], _ => by simp [firstLt, keyToksAll, lex_irrefl]
  | [], y :: ys, _ => by
    rw [toks_all_cons, keyToksAll, lex_diff (O := itemOrd) (by simp)]
    simp [firstLt, itemLt]
  | x :: xs, [], _ => by
    rw [toks_all_cons, keyToksAll, lex_diff (O := itemOrd) (by simp)]
    simp [firstLt, itemLt]
  | x :: xs, y :: ys, h => by
    have e1 : min (x :: xs).length (y :: ys).length = min xs.length ys.length + 1 := by simp only [List.length_cons]; omega
    have e2 : decide ((x :: xs).length < (y :: ys).length) = decide (xs.length < ys.length) := decide_eq_decide.mpr (by simp only [List.length_cons]; omega)
    rw [e1, e2, List.range_succ_eq_map]
    cases c : PyData.eqv x y with
    | true =>
      obtain ⟨a, b⟩ := lk_yes h c
      rw [firstLt_yes (show pairEq (x :: xs) (y :: ys) 0 = true from c), firstLt_map, dataLt_all_yes a c, ← first_lk xs ys b]
      rfl
    | false =>
      rw [firstLt_no (show pairEq (x :: xs) (y :: ys) 0 = false from c), lt_no (lk_no h c) c]
      rfl
theorem lk_ne {x y : PyData} (h : lk x y = true) (e : PyData.eqv x y = false) : x ≠ .none := by
  rintro rfl
  cases y <;> simp [lk] at h
  simp [PyData.eqv] at e
mutual
/-- a < b -/
theorem rcLt_lk : ∀ (da db : PyData) (A : Around) (s : Shared) (a b : Value) (as bs : List Addr), Reads s.heap a da as → Reads s.heap b db bs → da.plain = true → db.plain = true → lk da db = true → da ≠ .none → A.units + min da.depth db.depth < cLine → RcLt A s a b (dataLt da db)
  | .tuple xs, db, A, s, a, b, as, bs, ra, rb, pa, pb, h, _, hu => by
    obtain ⟨ys, rfl, h⟩ := lk_tup h
    have pa' : PyData.plainAll xs = true := by simpa [PyData.plain] using pa
    have pb' : PyData.plainAll ys = true := by simpa [PyData.plain] using pb
    cases ra with
    | @tuple l o vs n _ _ a1 a2 a3 a4 =>
      cases rb with
      | @tuple l' o' ws m _ _ b1 b2 b3 b4 =>
        have z1 : vs.size = xs.length := by simpa using ReadsAll.length _ _ _ a4
        have z2 : ws.size = ys.length := by simpa using ReadsAll.length _ _ _ b4
        rw [dataLt_tuple, ← first_lk xs ys h, ← z1, ← z2]
        refine rcLtF ⟨_, a1, a2, _, a3⟩ ⟨_, b1, b2, _, b3⟩ (room_here hu) (fun j j1 j2 => ?_) fun j j1 j2 sm hj => ?_
        · have z := eqAt_plainAll xs ys A.in1 s vs.toList ws.toList _ _ a4 b4 pa' pb' (room_in hu) j (by simpa using j1) (by simpa using j2)
          simpa using z
        · have z := rcLt_lkAll xs ys A.in1 s vs.toList ws.toList _ _ a4 b4 pa' pb' h (room_in hu) j (by simpa using j1) (by simpa using j2) sm hj
          simpa using z
  | .none, _, _, _, _, _, _, _, _, _, _, _, _, n, _ => absurd rfl n
  | .bool _, db, A, s, a, b, as, bs, ra, rb, _, _, h, n, hu => rcLt_alike _ db A s a b as bs ra rb (lk_flat h (by simp)) n hu
  | .int _, db, A, s, a, b, as, bs, ra, rb, _, _, h, n, hu => rcLt_alike _ db A s a b as bs ra rb (lk_flat h (by simp)) n hu
  | .str _, db, A, s, a, b, as, bs, ra, rb, _, _, h, n, hu => rcLt_alike _ db A s a b as bs ra rb (lk_flat h (by simp)) n hu
  | .list _, db, A, s, a, b, as, bs, ra, rb, _, _, h, n, hu => rcLt_alike _ db A s a b as bs ra rb (lk_flat h (by simp)) n hu
  | .dict _, db, A, s, a, b, as, bs, ra, rb, _, _, h, n, hu => rcLt_alike _ db A s a b as bs ra rb (lk_flat h (by simp)) n hu
theorem rcLt_lkAll : ∀ (xs ys : List PyData) (A : Around) (s : Shared) (vs ws : List Value) (as bs : List Addr), ReadsAll s.heap vs xs as → ReadsAll s.heap ws ys bs → PyData.plainAll xs = true → PyData.plainAll ys = true → lkAll xs ys = true →
    A.units + min (PyData.depthAll xs) (PyData.depthAll ys) < cLine → ∀ j (h1 : j < vs.length) (h2 : j < ws.length), (∀ i, i < j → pairEq xs ys i = true) → pairEq xs ys j = false → RcLt A s vs[j] ws[j] (dataLt (xs.getD j .none) (ys.getD j .none))
  | [], _, _, _, _, _, _, _, ra, _, _, _, _, _, j, h1, _, _, _ => by cases ra; exact absurd h1 (Nat.not_lt_zero _)
  | _ :: _, [], _, _, _, _, _, _, _, rb, _, _, _, _, j, _, h2, _, _ => by cases rb; exact absurd h2 (Nat.not_lt_zero _)
  | x :: xs, y :: ys, A, s, _, _, _, _, ra, rb, pa, pb, h, hu, j, h1, h2, sm, hj => by
    have pa' : x.plain = true ∧ PyData.plainAll xs = true := by simpa [PyData.plainAll] using pa
    have pb' : y.plain = true ∧ PyData.plainAll ys = true := by simpa [PyData.plainAll] using pb
    cases ra with
    | cons r rs =>
      cases rb with
      | cons r' rs' =>
        cases j with
        | zero =>
          have hj : PyData.eqv x y = false := hj
          exact rcLt_lk x y A s _ _ _ _ r r' pa'.1 pb'.1 (lk_no h hj) (lk_ne (lk_no h hj) hj) (room_head hu)
        | succ j =>
          have e0 : PyData.eqv x y = true := sm 0 (Nat.succ_pos j)
          exact rcLt_lkAll xs ys A s _ _ _ _ rs rs' pa'.2 pb'.2 (lk_yes h e0).2 (room_tail hu) j (Nat.lt_of_succ_lt_succ h1) (Nat.lt_of_succ_lt_succ h2) (fun i hi => sm (i + 1) (Nat.succ_lt_succ hi)) hj
end
end VL
end

section
set_option Elab.async false
set_option linter.all false
set_option maxRecDepth 100000
set_option maxHeartbeats 4000000
set_option autoImplicit false
/-! sorts of tuples that are alike up to the first place that differs; () may be among them -/
namespace VL
open PySem PySem.W PySem.SeqAt PyProof.Rows
section
variable {prog : Program} {w : World} {A : Around} {E : Value → Shared → Prop} {s : Shared}
theorem oneLt_lk {f : Bool} {da db : PyData} {a b : Value} {as bs : List Addr} {Q : Bool → Shared → Prop} (ra : Reads s.heap a da as) (rb : Reads s.heap b db bs) (pa : da.plain = true) (pb : db.plain = true) (h : lk da db = true) (hn : da ≠ .none)
    (hu : A.units + min da.depth db.depth < cLine) (hq : Q (dataLt da db) s) : wpAny (model prog w) A (oneLt' f a b) Q E s := by
  cases f with
  | false =>
    rw [oneLt'_eq, if_neg (by decide)]
    exact wpAny_bind (rcLt_lk da db A s a b as bs ra rb pa pb h hn hu prog w E _ (wpAny_truthy_bool hq))
  | true =>
    by_cases c : ∃ xs, da = .tuple xs
    · obtain ⟨xs, rfl⟩ := c
      obtain ⟨ys, rfl, h⟩ := lk_tup h
      have pa' : PyData.plainAll xs = true := by simpa [PyData.plain] using pa
      have pb' : PyData.plainAll ys = true := by simpa [PyData.plain] using pb
      cases ra with
      | @tuple l o vs n _ _ a1 a2 a3 a4 =>
        cases rb with
        | @tuple l' o' ws m _ _ b1 b2 b3 b4 =>
          have z1 : vs.size = xs.length := by simpa using ReadsAll.length _ _ _ a4
          have z2 : ws.size = ys.length := by simpa using ReadsAll.length _ _ _ b4
          rw [dataLt_tuple, ← first_lk xs ys h, ← z1, ← z2] at hq
          rw [oneLt'_eq, if_pos rfl]
          refine wpAny_bind (wpAny_cRoomFor (room_here hu) (wpAny_bind (wpAny_callSpecialIfBound?_slot (T := "tuple") ⟨_, a1, a2⟩ F.slot_tuple_lt (call_ltF (e := pairEq xs ys) (r := fun j => dataLt (xs.getD j .none) (ys.getD j .none)) ⟨_, a1, a2, _, a3⟩ ⟨_, b1, b2, _, b3⟩ (fun j j1 j2 => ?_) (fun j j1 j2 sm hj => ?_) ?_))))
          · have z := eqAt_plainAll xs ys A.in1 s vs.toList ws.toList _ _ a4 b4 pa' pb' (room_in hu) j (by simpa using j1) (by simpa using j2)
            simpa using z
          · have z := rcLt_lkAll xs ys A.in1 s vs.toList ws.toList _ _ a4 b4 pa' pb' h (room_in hu) j (by simpa using j1) (by simpa using j2) sm hj
            simpa using z
          · exact wpAny_truthy_bool hq
    · have n : ∀ xs, da ≠ .tuple xs := fun xs e => c ⟨xs, e⟩
      exact oneLt_alike (fun _ => n) ra rb (lk_flat h n) hn hu hq
theorem katLex_lk {b fin : Bool} {Q : Bool → Shared → Prop} : ∀ (xs ys : List PyData) (i : Nat) (vs ws : List Value) (as bs : List Addr), ReadsAll s.heap vs xs as → ReadsAll s.heap ws ys bs → PyData.plainAll xs = true → PyData.plainAll ys = true → lkAll xs ys = true →
    A.units + min (PyData.depthAll xs) (PyData.depthAll ys) < cLine → fin = decide (xs.length < ys.length) → Q (PyProof.Rows.lexLt itemOrd (keyToksAll xs) (keyToksAll ys)) s → KatLex prog w A b fin Q (vs.zip ws) i s
  | [], [], i, _, _, _, _, ra, rb, _, _, _, _, hf, hq => by
    cases ra
    cases rb
    rw [lex_irrefl] at hq
    have e : fin = false := hf
    rw [e]
    exact kat_nil hq
  | [], y :: ys, i, _, _, _, _, ra, rb, _, _, _, _, hf, hq => by
    cases ra
    have e : fin = true := hf.trans (decide_eq_true (Nat.succ_pos _))
    rw [toks_all_cons, keyToksAll, lex_diff (O := itemOrd) (by simp)] at hq
    rw [e, List.zip_nil_left]
    exact kat_nil (by simpa [itemLt] using hq)
  | x :: xs, [], i, _, _, _, _, ra, rb, _, _, _, _, hf, hq => by
    cases rb
    have e : fin = false := hf.trans (decide_eq_false (Nat.not_lt_zero _))
    rw [toks_all_cons, keyToksAll, lex_diff (O := itemOrd) (by simp)] at hq
    rw [e, List.zip_nil_right]
    exact kat_nil (by simpa [itemLt] using hq)
  | x :: xs, y :: ys, i, _, _, _, _, ra, rb, pa, pb, h, hu, hf, hq => by
    have pa' : x.plain = true ∧ PyData.plainAll xs = true := by simpa [PyData.plainAll] using pa
    have pb' : y.plain = true ∧ PyData.plainAll ys = true := by simpa [PyData.plainAll] using pb
    have hf' : fin = decide (xs.length < ys.length) := hf.trans (decide_eq_decide.mpr (by simp only [List.length_cons]; omega))
    cases ra with
    | cons r rs =>
      cases rb with
      | cons r' rs' =>
        rw [List.zip_cons_cons]
        refine kat_cons (eqAt_plain x y A s _ _ _ _ r r' pa'.1 pb'.1 (room_head hu) prog w _ _ ?_)
        cases c : PyData.eqv x y with
        | true =>
          obtain ⟨a, t⟩ := lk_yes h c
          rw [dataLt_all_yes a c] at hq
          exact kat_yes (katLex_lk xs ys (i + 1) _ _ _ _ rs rs' pa'.2 pb'.2 t (room_tail hu) hf' hq)
        | false =>
          have a := lk_no h c
          rw [lt_no a c] at hq
          exact kat_no (oneLt_lk r r' pa'.1 pb'.1 a (lk_ne a c) (room_head hu) hq)
/-! ### the kind of keys -/
def AllLk (ds : List PyData) : Prop := ∀ d, d ∈ ds → ∀ d', d' ∈ ds → lk d d' = true
theorem lk_type {x y : PyData} (h : lk x y = true) : dataType x = dataType y := by
  cases x <;> cases y <;> first | rfl | simp [lk] at h
theorem kind_some {h : Heap} {ds : List PyData} (hp : ∀ d ∈ ds, d.plain = true) {v : Value} {d : PyData} {as : List Addr} (hd : d ∈ ds) (r : Reads h v d as) : (dataKind h ds).keyOf v = some (keyToks d) := by
  have q : ∃ d, d ∈ ds ∧ ∃ as, Reads h v d as := ⟨d, hd, as, r⟩
  have e : (dataKind h ds).keyOf v = some (keyToks q.choose) := by
    unfold dataKind
    exact dif_pos q
  obtain ⟨h1, as', h2⟩ := q.choose_spec
  rw [e, plain_unique _ _ _ _ _ (hp _ h1) h2 r]
theorem firsts_of : ∀ (vs : List Value) {ds : List PyData} {Q : List (Option Value) → Shared → Prop}, EachIs (fun v d => (∃ as, Reads s.heap v d as) ∧ ∃ xs, d = .tuple xs) vs ds →
    (∀ fs : List (Option Value), EachIs (fun f d => (∃ g x r as, f = some g ∧ d = .tuple (x :: r) ∧ Reads s.heap g x as) ∨ (f = none ∧ d = .tuple [])) fs ds → Q fs s) → wpAny (model prog w) A (vs.mapM firstOfTuple') Q E s
  | [], _, _, e, h => by
    cases e
    rw [List.mapM_nil]
    exact wpAny_pure (h [] .nil)
  | v :: vs, _, Q, .cons (b := d) (bs := ds) ⟨⟨as, r⟩, xs, ed⟩ t, h => by
    subst ed
    cases r with
    | @tuple a o ws n _ _ ho hc hd hr =>
      rw [List.mapM_cons]
      refine wpAny_bind ?_
      rw [kas_first_eq]
      refine wpAny_bind (Looks.here (show Looks (model prog w) s.heap (typeOf (.ref a)) o.cls from (Looks.ld ho).andThen .now) ?_)
      rw [hc, if_neg (by first | decide | simp)]
      refine wpAny_bind (listItems_at ho hd (wpAny_pure (wpAny_bind ?_)))
      refine firsts_of vs (Q := fun bs s' => wpAny (model prog w) A (pure (ws[0]? :: bs)) Q E s') t fun fs hfs => wpAny_pure (h _ (.cons ?_ hfs))
      cases q : ws.toList with
      | nil =>
        rw [q] at hr
        cases hr
        exact .inr ⟨by rw [← Array.getElem?_toList, q]; rfl, rfl⟩
      | cons g gr =>
        rw [q] at hr
        cases hr with
        | cons r1 r2 => exact .inl ⟨g, _, _, _, by rw [← Array.getElem?_toList, q]; rfl, rfl, r1⟩
theorem all_some : ∀ {fs : List (Option Value)} {ds : List PyData}, EachIs (fun f d => (∃ g x r as, f = some g ∧ d = .tuple (x :: r) ∧ Reads s.heap g x as) ∨ (f = none ∧ d = .tuple [])) fs ds → (fs.all fun f => f.isSome) = true →
    ∃ gs, fs = gs.map some ∧ EachIs (fun g d => ∃ x r as, d = .tuple (x :: r) ∧ Reads s.heap g x as) gs ds
  | _, _, .nil, _ => ⟨[], rfl, .nil⟩
  | _, _, .cons h t, e => by
    rw [List.all_cons, Bool.and_eq_true] at e
    obtain ⟨gs, rfl, hg⟩ := all_some t e.2
    rcases h with ⟨g, x, r, as, rfl, ed, rg⟩ | ⟨rfl, _⟩
    · exact ⟨g :: gs, rfl, .cons ⟨x, r, as, ed, rg⟩ hg⟩
    · exact absurd e.1 (by simp)
theorem each_right {α β : Type} {R : α → β → Prop} : ∀ {as : List α} {bs : List β}, EachIs R as bs → ∀ b ∈ bs, ∃ a, R a b
  | _, _, .nil, _, h => by cases h
  | _, _, .cons h t, b, hb => by
    rcases List.mem_cons.mp hb with rfl | hb
    · exact ⟨_, h⟩
    · exact each_right t b hb
/-- tuples that are alike so far can be sorted -/
theorem sortsLk {vs : List Value} {ds : List PyData} (e : EachIs (fun v d => ∃ as, Reads s.heap v d as) vs ds) (hp : ∀ d ∈ ds, d.plain = true) (hal : AllLk ds) (ht : ∀ d ∈ ds, ∃ xs, d = .tuple xs) (hu : ∀ d, d ∈ ds → A.units + d.depth < cLine) : SortsAt prog w A s (dataKind s.heap ds) vs := by
  have room : ∀ {d d' : PyData}, d ∈ ds → A.units + min d.depth d'.depth < cLine := fun {d d'} hd => Nat.lt_of_le_of_lt (Nat.add_le_add_left (Nat.min_le_left _ _) _) (hu d hd)
  have lexk : ∀ (b : Bool), H.LtAt prog w A s (dataKind s.heap ds) (tuples' b) := by
    intro b E x y k1 k2 Q ha hb hq
    obtain ⟨d, as, hd, ra, rfl⟩ := dataKind_inv ha
    obtain ⟨d', as', hd', rb, rfl⟩ := dataKind_inv hb
    have p1 := hp d hd
    have p2 := hp d' hd'
    have hl := hal d hd d' hd'
    have hroom := room (d' := d') hd
    obtain ⟨xs, rfl⟩ := ht d hd
    obtain ⟨ys, rfl⟩ := ht d' hd'
    have hq' : Q (dataLt (.tuple xs) (.tuple ys)) s := hq
    rw [dataLt_tuple] at hq'
    cases ra with
    | @tuple l o us n _ _ a1 a2 a3 a4 =>
      cases rb with
      | @tuple l' o' ws m _ _ b1 b2 b3 b4 =>
        have z1 : us.size = xs.length := by simpa using ReadsAll.length _ _ _ a4
        have z2 : ws.size = ys.length := by simpa using ReadsAll.length _ _ _ b4
        refine kat_lt a1 a3 b1 b3 (katLex_lk xs ys 0 _ _ _ _ a4 b4 (by simpa [PyData.plain] using p1) (by simpa [PyData.plain] using p2) (by simpa [lk] using hl) (by have q := room_in hroom; omega) (by rw [z1, z2]) hq')
  have onek : ∀ (f : Bool) (kd : SortKind), (∀ x y, keyLt' kd x y = oneLt' f x y) → H.LtAt prog w A s (dataKind s.heap ds) kd := by
    intro f kd hk E x y k1 k2 Q ha hb hq
    obtain ⟨d, as, hd, ra, rfl⟩ := dataKind_inv ha
    obtain ⟨d', as', hd', rb, rfl⟩ := dataKind_inv hb
    rw [hk]
    obtain ⟨xs, ex⟩ := ht d hd
    exact oneLt_lk ra rb (hp d hd) (hp d' hd') (hal d hd d' hd') (by rw [ex]; simp) (room hd) hq
  refine ⟨fun v hv => ?_, ?_⟩
  · obtain ⟨d, hd, as, r⟩ := e.left v hv
    exact ⟨_, kind_some hp hd r⟩
  have e2 : EachIs (fun v d => (∃ as, Reads s.heap v d as) ∧ ∃ xs, d = .tuple xs) vs ds := (each_mem e).mono fun v d hvd => ⟨hvd.1, ht d hvd.2⟩
  by_cases all : ∀ d ∈ ds, d ≠ .tuple []
  · -- none is ()
    cases ds with
    | nil =>
      cases e
      exact ⟨general', onek false _ fun _ _ => rfl, fun h2 => absurd h2 (by simp)⟩
    | cons d0 ds0 =>
      obtain ⟨xs0, e0⟩ := ht d0 List.mem_cons_self
      cases xs0 with
      | nil => exact absurd e0 (all d0 List.mem_cons_self)
      | cons x0 r0 =>
        refine ⟨tuples' (dataType x0 != Value.type "tuple"), lexk _, fun h2 E Q hq => ?_⟩
        have hne : ∀ d, d ∈ d0 :: ds0 → ∃ x r, d = .tuple (x :: r) := fun d hd => by
          obtain ⟨xs, ex⟩ := ht d hd
          cases xs with
          | nil => exact absurd ex (all d hd)
          | cons x r => exact ⟨x, r, ex⟩
        obtain ⟨fs, t1, t2, t3⟩ := each_katTups e hne
        refine kat_kind (T := dataType x0) t1 (by omega) (fun f hf => ?_) (beq_self_eq_true _) hq
        obtain ⟨x, r, as, m1, m2⟩ := t3 f hf
        have hl := hal _ m1 d0 List.mem_cons_self
        rw [e0] at hl
        have hl : lkAll (x :: r) (x0 :: r0) = true := by simpa [lk] using hl
        have et : dataType x = dataType x0 := by
          cases c : PyData.eqv x x0 with
          | true => exact dataType_alike (lk_yes hl c).1
          | false => exact lk_type (lk_no hl c)
        rw [← et]
        exact looks_reads m2
  · -- () is among them
    have ex : ∃ d ∈ ds, d = .tuple [] := by
      by_cases c : ∃ d ∈ ds, d = .tuple []
      · exact c
      · exact absurd (fun d hd he => c ⟨d, hd, he⟩) all
    have two : ∀ (kd : SortKind), (∀ (E : Value → Shared → Prop) {Q : SortKind → Shared → Prop}, Q kd s → wpAny (model prog w) A (keyKind' vs.toArray) Q E s) → (∃ f, ∀ x y, keyLt' kd x y = oneLt' f x y) → ∃ kd : SortKind, H.LtAt prog w A s (dataKind s.heap ds) kd ∧ (2 ≤ vs.length → ∀ (E : Value → Shared → Prop) {Q : SortKind → Shared → Prop}, Q kd s → wpAny (model prog w) A (keyKind' vs.toArray) Q E s) :=
      fun kd h1 ⟨f, h2⟩ => ⟨kd, onek f kd h2, fun _ => h1⟩
    have no_all : ∀ {fs : List (Option Value)}, EachIs (fun f d => (∃ g x r as, f = some g ∧ d = PyData.tuple (x :: r) ∧ Reads s.heap g x as) ∨ (f = none ∧ d = .tuple [])) fs ds → (fs.toArray.all fun f => f.isSome) = false := fun {fs} hfs => by
      cases c : fs.all fun f => f.isSome with
      | false => rw [List.all_toArray]; exact c
      | true =>
        obtain ⟨gs, rfl, hg⟩ := all_some hfs c
        obtain ⟨d, hd, rfl⟩ := ex
        obtain ⟨g, x, r, as, ed, _⟩ := each_right hg _ hd
        cases ed
    cases e2 with
    | nil => obtain ⟨d, hd, _⟩ := ex; cases hd
    | @cons v d vs' ds' h0 t0 =>
      obtain ⟨⟨as0, r0⟩, xs0, e0⟩ := h0
      have e2' : EachIs (fun v d => (∃ as, Reads s.heap v d as) ∧ ∃ xs, d = .tuple xs) (v :: vs') (d :: ds') := .cons ⟨⟨as0, r0⟩, xs0, e0⟩ t0
      cases xs0 with
      | cons x r =>
        refine two general' (fun E Q hq => ?_) ⟨false, fun _ _ => rfl⟩
        rw [kat_kind_eq, List.mapM_toArray, map_eq_pure_bind]
        refine wpAny_bind (wpAny_bind (firsts_of _ e2' fun fs hfs => wpAny_pure ?_))
        have na := no_all hfs
        rw [if_neg (by rw [na]; decide)]
        cases hfs with
        | cons hf _ =>
          rcases hf with ⟨g, _, _, _, rfl, _, _⟩ | ⟨_, ed⟩
          · rw [if_pos (by simp)]
            exact wpAny_pure hq
          · rw [e0] at ed
            cases ed
      | nil =>
        refine two oneType' (fun E Q hq => ?_) ⟨true, fun _ _ => rfl⟩
        rw [kat_kind_eq, List.mapM_toArray, map_eq_pure_bind]
        refine wpAny_bind (wpAny_bind (firsts_of _ e2' fun fs hfs => wpAny_pure ?_))
        have na := no_all hfs
        rw [if_neg (by rw [na]; decide)]
        cases hfs with
        | cons hf _ =>
          rcases hf with ⟨g, _, _, _, rfl, ed, _⟩ | ⟨rfl, _⟩
          · rw [e0] at ed
            cases ed
          · rw [if_neg (by simp), oneTypeOnly'_eq, List.mapM_toArray, map_eq_pure_bind]
            refine wpAny_bind (wpAny_bind (wpAny_bind (kas_mapM (r := Value.type "tuple") _ (fun u hu Q' hq' => ?_) (wpAny_pure ?_))))
            · obtain ⟨d1, _, ⟨as1, r1⟩, xs1, rfl⟩ := e2'.left u hu
              exact (looks_reads r1).here hq'
            · have ha2 : ((List.map (fun _ => Value.type "tuple") (v :: vs')).toArray.all fun x => x == Value.type "tuple") = true := by simp
              have h0' : (List.map (fun _ => Value.type "tuple") (v :: vs')).toArray[0]? = some (Value.type "tuple") := by simp
              rw [h0']
              simp only [ha2, if_true]
              exact wpAny_pure (wpAny_pure hq)
/-! ### what the sorts give -/
theorem keys_lk {h : Heap} {ds : List PyData} (hp : ∀ d ∈ ds, d.plain = true) {vs : List Value} (e : EachIs (fun v d => ∃ as, Reads h v d as) vs ds) : EachIs (fun v d => (dataKind h ds).keyOf v = some (keyToks d)) vs ds :=
  (each_mem e).mono fun _ _ z => by
    obtain ⟨⟨as, r⟩, hd⟩ := z
    exact kind_some hp hd r
theorem sortVals_lk {h : Heap} {R : Value → PyData → Prop} {vs : List Value} {ds : List PyData} (e : EachIs R vs ds) (er : EachIs (fun v d => ∃ as, Reads h v d as) vs ds) (hp : ∀ d ∈ ds, d.plain = true) :
    EachIs R (sortVals (dataKind h ds) false vs vs) (ds.mergeSort (dataLe false id)) :=
  sortVals_each (κ := dataKind h ds) (fun d => keyToks d) e (keys_lk hp er)
end
end VL
end

section
set_option Elab.async false
set_option linter.all false
set_option maxRecDepth 100000
set_option maxHeartbeats 4000000
set_option autoImplicit false
namespace VL
open PySem PySem.W PySem.SeqAt PyProof.Rows
mutual
/-- plain data that read off objects other than a list that changes -/
theorem reads_but {h h' : Heap} {a : Addr} (k : ∀ b o, b ≠ a → h.get? b = some o → h'.get? b = some o) (ha : ∀ o, h.get? a = some o → o.cls = .type "list") : ∀ (d : PyData) (v : Value) (as : List Addr), d.plain = true → Reads h v d as → a ∉ as → Reads h' v d as
  | .none, _, _, _, r, _ => by cases r; exact .none
  | .bool b, _, _, _, r, _ => by cases r; exact .bool b
  | .int i, _, _, _, r, _ => by cases r; exact .int i _
  | .str x, _, _, _, r, _ => by cases r; exact .str x _
  | .dict _, _, _, p, _, _ => by simp [PyData.plain] at p
  | .list xs, _, _, p, r, n => by
    cases r with
    | list a1 a2 a3 a4 =>
      rw [List.mem_cons, not_or] at n
      exact .list (k _ _ (Ne.symm n.1) a1) a2 a3 (reads_butAll k ha xs _ _ (by simpa [PyData.plain] using p) a4 n.2)
  | .tuple xs, _, _, p, r, n => by
    cases r with
    | @tuple b o vs m _ _ a1 a2 a3 a4 =>
      have hb : b ≠ a := fun e => by
        have q := ha o (e ▸ a1)
        rw [a2] at q
        exact absurd q (by decide)
      exact .tuple (k _ _ hb a1) a2 a3 (reads_butAll k ha xs _ _ (by simpa [PyData.plain] using p) a4 n)
theorem reads_butAll {h h' : Heap} {a : Addr} (k : ∀ b o, b ≠ a → h.get? b = some o → h'.get? b = some o) (ha : ∀ o, h.get? a = some o → o.cls = .type "list") : ∀ (ds : List PyData) (vs : List Value) (as : List Addr), PyData.plainAll ds = true → ReadsAll h vs ds as → a ∉ as → ReadsAll h' vs ds as
  | [], _, _, _, r, _ => by cases r; exact .nil
  | d :: ds, _, _, p, r, n => by
    have p' : d.plain = true ∧ PyData.plainAll ds = true := by simpa [PyData.plainAll] using p
    cases r with
    | cons r1 r2 =>
      rw [List.mem_append, not_or] at n
      exact .cons (reads_but k ha d _ _ p'.1 r1 n.1) (reads_butAll k ha ds _ _ p'.2 r2 n.2)
end
/-- what can be sorted here -/
def SOk (ds : List PyData) : Prop := (AllAlike ds ∧ Sortable ds) ∨ (AllLk ds ∧ ∀ d ∈ ds, ∃ xs, d = .tuple xs)
theorem SOk.sub {ds es : List PyData} (h : SOk ds) (s : ∀ d ∈ es, d ∈ ds) : SOk es := by
  rcases h with ⟨h1, h2⟩ | ⟨h1, h2⟩
  · refine .inl ⟨fun d hd e he => h1 d (s d hd) e (s e he), ?_⟩
    rcases h2 with h2 | h2
    · exact .inl fun d hd => h2 d (s d hd)
    · exact .inr fun d hd => h2 d (s d hd)
  · exact .inr ⟨fun d hd e he => h1 d (s d hd) e (s e he), fun d hd => h2 d (s d hd)⟩
theorem SOk.lk {ds : List PyData} (h : SOk ds) : AllLk ds := by
  rcases h with ⟨h1, _⟩ | ⟨h1, _⟩
  · exact fun d hd e he => alike_lk d e (h1 d hd e he)
  · exact h1
section
variable {prog : Program} {w : World} {A : Around} {E : Value → Shared → Prop} {s : Shared}
theorem list_sortX {R : Value → PyData → Prop} {vs : List Value} {ds : List PyData} {a : Addr} {n : Nat} {Q : Value → Shared → Prop} (ho : s.heap.get? a = some (seqObj "list" vs.toArray n)) (e : EachIs R vs ds) (er : EachIs (fun v d => ∃ as, Reads s.heap v d as ∧ a ∉ as) vs ds) (hs : SOk ds) (hp : ∀ d ∈ ds, d.plain = true) (hL : ds.length ≤ sizeLine)
    (hu : ∀ d, d ∈ ds → A.units + 1 + d.depth < cLine) (h : ∀ out, out.length = ds.length → EachIs R out (ds.mergeSort (dataLe false id)) → Q .none { s with heap := sortedHeap s.heap a vs (List.toArray out) }) :
    wpAny (model prog w) A (call (.builtin "list.sort") [.ref a]) Q E s := by
  rcases hs with ⟨h1, h2⟩ | ⟨h1, h2⟩
  · have em : ds.map id = ds := List.map_id ds
    exact list_sort_data (enc := id) (bs := ds) ho e er (by rw [em]; exact h1) (by rw [em]; exact h2) hL hu h
  · have el : ∀ o, s.heap.get? a = some o → o.cls = .type "list" := fun o q => by
      rw [ho] at q
      rw [← Option.some.inj q]
    have er' : EachIs (fun v d => ∃ as, Reads (sortingHeap s.heap a vs) v d as) vs ds := (each_mem er).mono fun v d z => by
      obtain ⟨⟨as, r, na⟩, hd⟩ := z
      exact ⟨as, reads_but (fun b o hb q => sortingHeap_old hb q) el d v as (hp d hd) r na⟩
    refine wpAny_call_entry slot_list_sort ⟨_, ho, rfl⟩ entry_list_sort (list_sort_vals (κ := dataKind (sortingHeap s.heap a vs) ds) ho (sortsLk (s := { s with heap := sortingHeap s.heap a vs }) er' hp h1 h2 hu) (by rw [e.length]; exact hL) ⟨.none, rfl, ?_⟩) (args_list_sort _)
    exact h _ (by rw [sortVals_length false rfl]; exact e.length) (sortVals_lk e er' hp)
/-- < of data that are alike so far -/
theorem lt_lk {da db : PyData} {a b : Value} {as bs : List Addr} {Q : Value → Shared → Prop} (ra : Reads s.heap a da as) (rb : Reads s.heap b db bs) (pa : da.plain = true) (pb : db.plain = true) (h : lk da db = true) (hn : da ≠ .none) (hu : A.units + min da.depth db.depth < cLine) (hq : Q (.bool (dataLt da db)) s) :
    wpAny (model prog w) A (compareOp .Lt a b) Q E s := rcLt_lk da db A s a b as bs ra rb pa pb h hn hu prog w E Q hq
end
end VL
end

section
set_option Elab.async false
set_option linter.all false
set_option maxRecDepth 100000
set_option maxHeartbeats 4000000
namespace VL
open PySem PySem.Spec PyProof.Rows L2
set_option autoImplicit false

mutual
theorem Dq.dp {K : PySem.W.Frag} {F : Fz} {H : Hp} : ∀ {v : V} {d : D}, Dq K F H v d → d.plain = true → Dp K H v d
  | _, _, .non, _ => .non
  | _, _, .bl b, _ => .bl b
  | _, _, .int i, _ => .int i
  | _, _, .str x, _ => .str x
  | _, _, .lst h r q, n => .lst (.inl (.inl r)) (DqAll.dp q (by simpa [PyData.plain] using n))
  | _, _, .tup r _ q, n => .tup (.inl (.inl r)) (DqAll.dp q (by simpa [PyData.plain] using n))
  | _, _, .tupP _ r _ _ q, n => .tup (.inl (.inr ⟨_, r⟩)) (DqAll.dp q (by simpa [PyData.plain] using n))
  | _, _, .tupK w _ _ q, n => .tup (.inr w) (DqAll.dp q (by simpa [PyData.plain] using n))
  | _, _, .scr _ _, n => by simp [PyData.plain] at n
  | _, _, .dicK _ _ _, n => by simp [PyData.plain] at n
  | _, _, .dicT _ _ _, n => by simp [PyData.plain] at n
theorem DqAll.dp {K : PySem.W.Frag} {F : Fz} {H : Hp} : ∀ {vs : List V} {ds : List D}, DqAll K F H vs ds → PyData.plainAll ds = true → DpAll K H vs ds
  | _, _, .nil, _ => .nil
  | _, _, .cons q r, n => by
    rw [PyData.plainAll, Bool.and_eq_true] at n
    exact .cons (Dq.dp q n.1) (DqAll.dp r n.2)
end
theorem Dq.rd {F : Fz} {X : Cx} {pins : List (Addr × Obj)} {σ : St} {H : Hp} {s : Shared} {v : V} {u : Value} {d : D} (q : Dq X.K F H v d) (I : Inv X pins σ H s) (r : RelV v u) (n : d.plain = true) : ∃ as, Reads s.heap u d as := Dp.reads I d v u (q.dp n) r
theorem huR {k : Nat} {A : Around} (r : Room k A) : A.units + 150 < cLine := by have := r.un; omega

section
variable {X : Cx} {B : Eb} {Γ : Gm} {E : Wish} {a b : Expr} {ma mb : M D} {pos : Pos}
theorem dq_lst {K : PySem.W.Frag} {F : Fz} {H : Hp} {v : V} {ds : List D} (q : Dq K F H v (.list ds)) : ∃ a xs, v = .ref a ∧ H a = some (.lst xs) ∧ DqAll K F H xs ds := by
  cases q with
  | lst f r q => exact ⟨_, _, rfl, r, q⟩

/-! ### arithmetic -/
def gAdd : D → D → Option D
  | .int i, .int j => some (.int (i + j))
  | .str x, .str y => if x.length + y.length ≤ sizeLine then some (.str (x ++ y)) else none
  | .list xs, .list ys => if xs.length + ys.length ≤ sizeLine then some (.list (xs ++ ys)) else none
  | .tuple xs, .tuple ys => if xs.length + ys.length ≤ sizeLine then some (.tuple (xs ++ ys)) else none
  | _, _ => none
theorem ite_some {α : Type} {c : Prop} [Decidable c] {a b : α} (h : (if c then some a else none) = some b) : c ∧ a = b := by
  by_cases k : c
  · rw [if_pos k] at h; exact ⟨k, Option.some.inj h⟩
  · rw [if_neg k] at h; cases h
theorem op_addV : OpR X (binaryOp .Add) (rV X.K gAdd) := by
  intro pins s σ H x y v u Q I rx ry h
  obtain ⟨F, dx, dy, d, t, qx, qy, e, gv⟩ := h
  cases dx with
  | int i =>
    cases dy with
    | int j =>
      cases e
      cases dq_int qx
      cases dq_int qy
      exact op_add pins s σ H _ _ v u Q I rx ry ⟨i, j, rfl, rfl, gv.here t (.int _)⟩
    | _ => cases e
  | str i =>
    cases dy with
    | str j =>
      obtain ⟨c, rfl⟩ := ite_some e
      cases dq_str qx
      cases dq_str qy
      exact op_add_str pins s σ H _ _ v u Q I rx ry ⟨i, j, rfl, rfl, c, gv.here t (.str _)⟩
    | _ => cases e
  | list i =>
    cases dy with
    | list j =>
      obtain ⟨c, rfl⟩ := ite_some e
      obtain ⟨a, xs, rfl, ha, qa⟩ := dq_lst qx
      obtain ⟨b, ys, rfl, hb, qb⟩ := dq_lst qy
      exact op_cat pins s σ H _ _ v u Q I rx ry ⟨a, b, xs, ys, rfl, rfl, ha, hb, by rw [qa.length, qb.length]; exact c, fun p np => gv.lst t (qa.append qb) np⟩
    | _ => cases e
  | tuple i =>
    cases dy with
    | tuple j =>
      obtain ⟨c, rfl⟩ := ite_some e
      obtain ⟨a, xs, rfl, ha, qa⟩ := dq_sqT qx
      obtain ⟨b, ys, rfl, hb, qb⟩ := dq_sqT qy
      refine op_catP pins s σ H _ _ v u Q I rx ry ⟨a, b, xs, ys, rfl, rfl, ha, hb, by rw [qa.length, qb.length]; exact c, fun z => ?_, fun _ z => ?_, fun _ _ => gv.lay t (qa.append qb)⟩
      · subst z
        cases qa
        exact gv.here t qy
      · subst z
        cases qb
        rw [List.append_nil] at gv
        exact gv.here t qx
    | _ => cases e
  | _ => cases e
def gSub : D → D → Option D
  | .int i, .int j => some (.int (i - j))
  | _, _ => none
theorem op_subV : OpR X (binaryOp .Sub) (rV X.K gSub) := by
  intro pins s σ H x y v u Q I rx ry h
  obtain ⟨F, dx, dy, d, t, qx, qy, e, gv⟩ := h
  cases dx with
  | int i =>
    cases dy with
    | int j =>
      cases e
      cases dq_int qx
      cases dq_int qy
      exact op_sub pins s σ H _ _ v u Q I rx ry ⟨i, j, rfl, rfl, gv.here t (.int _)⟩
    | _ => cases e
  | _ => cases e
def gMul : D → D → Option D
  | .int i, .int j => if (-(2 ^ 64) < i ∧ i < 2 ^ 64) ∨ (-(2 ^ 64) < j ∧ j < 2 ^ 64) then some (.int (i * j)) else none
  | .list xs, .int k => if -(2 ^ 63) ≤ k ∧ k < 2 ^ 63 ∧ xs.length * k.toNat ≤ sizeLine then some (.list (List.replicate k.toNat xs).flatten) else none
  | .tuple xs, .int k => if rowish xs = false ∧ 2 ≤ k ∧ k ≤ 1000 ∧ xs.length ≤ 1000 then some (.tuple (List.replicate k.toNat xs).flatten) else if k = 0 ∧ xs.isEmpty = false then some (.tuple []) else none
  | _, _ => none
theorem DqAll.rep {K : PySem.W.Frag} {F : Fz} {H : Hp} {vs : List V} {ds : List D} (q : DqAll K F H vs ds) : ∀ n : Nat, DqAll K F H (List.replicate n vs).flatten (List.replicate n ds).flatten
  | 0 => .nil
  | n + 1 => by
    rw [List.replicate_succ, List.replicate_succ, List.flatten_cons, List.flatten_cons]
    exact q.append (DqAll.rep q n)
theorem op_mulV : OpR X (binaryOp .Mult) (rV X.K gMul) := by
  intro pins s σ H x y v u Q I rx ry h
  obtain ⟨F, dx, dy, d, t, qx, qy, e, gv⟩ := h
  cases dx with
  | int i =>
    cases dy with
    | int j =>
      obtain ⟨c, rfl⟩ := ite_some e
      cases dq_int qx
      cases dq_int qy
      exact op_mul pins s σ H _ _ v u Q I rx ry ⟨i, j, rfl, rfl, c, gv.here t (.int _)⟩
    | _ => cases e
  | list i =>
    cases dy with
    | int j =>
      obtain ⟨c, rfl⟩ := ite_some e
      obtain ⟨a, xs, rfl, ha, qa⟩ := dq_lst qx
      cases dq_int qy
      exact op_rep pins s σ H _ _ v u Q I rx ry ⟨a, j, xs, rfl, rfl, ha, c.1, c.2.1, by rw [qa.length]; exact c.2.2, fun p np => gv.lst t (qa.rep _) np⟩
    | _ => cases e
  | tuple i =>
    cases dy with
    | int j =>
      obtain ⟨a, xs, rfl, ha, qa⟩ := dq_sqT qx
      cases dq_int qy
      by_cases c0 : rowish i = false ∧ 2 ≤ j ∧ j ≤ 1000 ∧ i.length ≤ 1000
      case neg =>
        have e0 : (if rowish i = false ∧ 2 ≤ j ∧ j ≤ 1000 ∧ i.length ≤ 1000 then some (PyData.tuple (List.replicate j.toNat i).flatten) else if j = 0 ∧ i.isEmpty = false then some (.tuple []) else none) = some d := e
        rw [if_neg c0] at e0
        obtain ⟨c1, rfl⟩ := ite_some e0
        obtain ⟨rfl, ne⟩ := c1
        exact op_repT0 pins s σ H _ _ v u Q I rx ry ⟨a, xs, rfl, rfl, ha, (fun z => by
          subst z
          cases qa
          cases ne), gv.lay t .nil⟩
      have e0 : (if rowish i = false ∧ 2 ≤ j ∧ j ≤ 1000 ∧ i.length ≤ 1000 then some (PyData.tuple (List.replicate j.toNat i).flatten) else if j = 0 ∧ i.isEmpty = false then some (.tuple []) else none) = some d := e
      rw [if_pos c0] at e0
      have c := c0
      cases e0
      have hn : xs ≠ [] := fun z => by
        subst z
        cases qa
        have c1 := c.1
        cases c1
      have hr : rowish (List.replicate j.toNat i).flatten = false := by
        obtain ⟨d, hd, nd⟩ : ∃ d ∈ i, pairish d = false := by
          have c1 := c.1
          unfold rowish at c1
          rw [List.all_eq_false] at c1
          obtain ⟨d, hd, nd⟩ := c1
          exact ⟨d, hd, by simpa using nd⟩
        refine rowish_mem (List.mem_flatten.mpr ⟨i, ?_, hd⟩) nd
        rw [List.mem_replicate]
        exact ⟨by have := c.2.1; omega, rfl⟩
      exact op_repT pins s σ H _ _ v u Q I rx ry ⟨a, j, xs, rfl, rfl, ha, hn, c.2.1, c.2.2.1, by rw [qa.length]; exact c.2.2.2, fun p np => gv _ _ _ (Ext.alloc t np) (.tup upd_same hr ((qa.rep _).grow ((Ext.alloc t np).grow t)))⟩
    | _ => cases e
  | _ => cases e
def gMod : D → D → Option D
  | .int i, .int j => if 0 < j then some (.int (i % j)) else none
  | _, _ => none
theorem op_modV : OpR X (binaryOp .Mod) (rV X.K gMod) := by
  intro pins s σ H x y v u Q I rx ry h
  obtain ⟨F, dx, dy, d, t, qx, qy, e, gv⟩ := h
  cases dx with
  | int i =>
    cases dy with
    | int j =>
      obtain ⟨c, rfl⟩ := ite_some e
      cases dq_int qx
      cases dq_int qy
      exact op_mod pins s σ H _ _ v u Q I rx ry ⟨i, j, rfl, rfl, c, gv.here t (.int _)⟩
    | _ => cases e
  | _ => cases e
def gFdv : D → D → Option D
  | .int i, .int j => if 0 < j ∧ j < 1606938044258990275541962092341162602522202993782792835301376 then some (.int (i / j)) else none
  | _, _ => none
theorem op_fdvV : OpR X (binaryOp .FloorDiv) (rV X.K gFdv) := by
  intro pins s σ H x y v u Q I rx ry h
  obtain ⟨F, dx, dy, d, t, qx, qy, e, gv⟩ := h
  cases dx with
  | int i =>
    cases dy with
    | int j =>
      obtain ⟨c, rfl⟩ := ite_some e
      cases dq_int qx
      cases dq_int qy
      have h200 : (2 : Nat) ^ 200 = 1606938044258990275541962092341162602522202993782792835301376 := by decide
      have hw : j.natAbs < 2 ^ 200 := by rw [h200]; omega
      exact op_fdivW pins s σ H _ _ v u Q I rx ry ⟨i, j, rfl, rfl, wide_div c.1 hw (by decide) (by decide), gv.here t (.int _)⟩
    | _ => cases e
  | _ => cases e
def gPow : D → D → Option D
  | .int i, .int j => if 0 ≤ j ∧ j ≤ 1000000 ∧ i.natAbs < 2 ^ 64 then some (.int (i ^ j.toNat)) else none
  | _, _ => none
theorem op_powV : OpR X (binaryOp .Pow) (rV X.K gPow) := by
  intro pins s σ H x y v u Q I rx ry h
  obtain ⟨F, dx, dy, d, t, qx, qy, e, gv⟩ := h
  cases dx with
  | int i =>
    cases dy with
    | int j =>
      obtain ⟨c, rfl⟩ := ite_some e
      cases dq_int qx
      cases dq_int qy
      exact op_pow pins s σ H _ _ v u Q I rx ry ⟨i, j, rfl, rfl, c, gv.here t (.int _)⟩
    | _ => cases e
  | _ => cases e

/-! ### comparisons -/
def okc (x y : D) : Bool := x.plain && y.plain && decide (min x.depth y.depth ≤ 100)
theorem okc_ok {x y : D} (h : okc x y = true) : x.plain = true ∧ y.plain = true ∧ min x.depth y.depth ≤ 100 := by
  unfold okc at h
  rw [Bool.and_eq_true, Bool.and_eq_true, decide_eq_true_eq] at h
  exact ⟨h.1.1, h.1.2, h.2⟩
def gEq (x y : D) : Option D := if okc x y = true then some (.bool (PyData.eqv x y)) else none
def gNe (x y : D) : Option D := if okc x y = true then some (.bool (!PyData.eqv x y)) else none
theorem op_eqV (hu : X.A.units + 150 < cLine) : OpR X (compareOp .Eq) (rV X.K gEq) := by
  intro pins s σ H x y v u Q I rx ry h
  obtain ⟨F, dx, dy, d, t, qx, qy, e, gv⟩ := h
  obtain ⟨c, rfl⟩ := ite_some e
  obtain ⟨c1, c2, c3⟩ := okc_ok c
  obtain ⟨as, ra⟩ := qx.rd I rx c1
  obtain ⟨bs, rb⟩ := qy.rd I ry c2
  exact PySem.SeqAt.eq_plain ra rb c1 c2 (by omega) ⟨.bl _, H, I, rfl, gv.here t (.bl _)⟩
theorem op_neV (hu : X.A.units + 150 < cLine) : OpR X (compareOp .NotEq) (rV X.K gNe) := by
  intro pins s σ H x y v u Q I rx ry h
  obtain ⟨F, dx, dy, d, t, qx, qy, e, gv⟩ := h
  obtain ⟨c, rfl⟩ := ite_some e
  obtain ⟨c1, c2, c3⟩ := okc_ok c
  obtain ⟨as, ra⟩ := qx.rd I rx c1
  obtain ⟨bs, rb⟩ := qy.rd I ry c2
  exact PySem.SeqAt.ne_plain ra rb c1 c2 (by omega) ⟨.bl _, H, I, rfl, gv.here t (.bl _)⟩
def isN : D → Bool
  | .none => true
  | _ => false
def okl (x y : D) : Bool := okc x y && PySem.W.alike x y && !isN x
theorem okl_ok {x y : D} (h : okl x y = true) : x.plain = true ∧ y.plain = true ∧ min x.depth y.depth ≤ 100 ∧ PySem.W.alike x y = true ∧ x ≠ .none := by
  unfold okl at h
  rw [Bool.and_eq_true, Bool.and_eq_true] at h
  obtain ⟨c1, c2, c3⟩ := okc_ok h.1.1
  refine ⟨c1, c2, c3, h.1.2, fun z => ?_⟩
  subst z
  cases h.2
def okk (x y : D) : Bool := okc x y && lk x y && !isN x
theorem okk_ok {x y : D} (h : okk x y = true) : x.plain = true ∧ y.plain = true ∧ min x.depth y.depth ≤ 100 ∧ lk x y = true ∧ x ≠ .none := by
  unfold okk at h
  rw [Bool.and_eq_true, Bool.and_eq_true] at h
  obtain ⟨c1, c2, c3⟩ := okc_ok h.1.1
  refine ⟨c1, c2, c3, h.1.2, fun z => ?_⟩
  subst z
  cases h.2
theorem okl_okk {x y : D} (h : okl x y = true) : okk x y = true := by
  unfold okl at h
  unfold okk
  rw [Bool.and_eq_true, Bool.and_eq_true] at h ⊢
  exact ⟨⟨h.1.1, alike_lk x y h.1.2⟩, h.2⟩
def gLt (x y : D) : Option D := if okk x y = true then some (.bool (PySem.W.dataLt x y)) else none
def gGt (x y : D) : Option D := if okl x y = true then some (.bool (PySem.W.dataLt y x)) else none
def gLe (x y : D) : Option D := if okl x y = true then some (.bool (!PySem.W.dataLt y x)) else none
def gGe (x y : D) : Option D := if okl x y = true then some (.bool (!PySem.W.dataLt x y)) else none
theorem op_ltV (hu : X.A.units + 150 < cLine) : OpR X (compareOp .Lt) (rV X.K gLt) := by
  intro pins s σ H x y v u Q I rx ry h
  obtain ⟨F, dx, dy, d, t, qx, qy, e, gv⟩ := h
  obtain ⟨c, rfl⟩ := ite_some e
  obtain ⟨c1, c2, c3, c4, c5⟩ := okk_ok c
  obtain ⟨as, ra⟩ := qx.rd I rx c1
  obtain ⟨bs, rb⟩ := qy.rd I ry c2
  exact lt_lk ra rb c1 c2 c4 c5 (by omega) ⟨.bl _, H, I, rfl, gv.here t (.bl _)⟩
theorem op_gtV (hu : X.A.units + 150 < cLine) : OpR X (compareOp .Gt) (rV X.K gGt) := by
  intro pins s σ H x y v u Q I rx ry h
  obtain ⟨F, dx, dy, d, t, qx, qy, e, gv⟩ := h
  obtain ⟨c, rfl⟩ := ite_some e
  obtain ⟨c1, c2, c3, c4, c5⟩ := okl_ok c
  obtain ⟨as, ra⟩ := qx.rd I rx c1
  obtain ⟨bs, rb⟩ := qy.rd I ry c2
  exact PySem.W.gt_data ra rb c4 c5 (by omega) ⟨.bl _, H, I, rfl, gv.here t (.bl _)⟩
theorem op_leV (hu : X.A.units + 150 < cLine) : OpR X (compareOp .LtE) (rV X.K gLe) := by
  intro pins s σ H x y v u Q I rx ry h
  obtain ⟨F, dx, dy, d, t, qx, qy, e, gv⟩ := h
  obtain ⟨c, rfl⟩ := ite_some e
  obtain ⟨c1, c2, c3, c4, c5⟩ := okl_ok c
  obtain ⟨as, ra⟩ := qx.rd I rx c1
  obtain ⟨bs, rb⟩ := qy.rd I ry c2
  exact PySem.W.le_data ra rb c4 c5 (by omega) ⟨.bl _, H, I, rfl, gv.here t (.bl _)⟩
theorem op_geV (hu : X.A.units + 150 < cLine) : OpR X (compareOp .GtE) (rV X.K gGe) := by
  intro pins s σ H x y v u Q I rx ry h
  obtain ⟨F, dx, dy, d, t, qx, qy, e, gv⟩ := h
  obtain ⟨c, rfl⟩ := ite_some e
  obtain ⟨c1, c2, c3, c4, c5⟩ := okl_ok c
  obtain ⟨as, ra⟩ := qx.rd I rx c1
  obtain ⟨bs, rb⟩ := qy.rd I ry c2
  exact PySem.W.ge_data ra rb c4 c5 (by omega) ⟨.bl _, H, I, rfl, gv.here t (.bl _)⟩
def gIs : D → D → Option D
  | x, .none => some (.bool (isN x))
  | _, _ => none
def gIsn : D → D → Option D
  | x, .none => some (.bool (!isN x))
  | _, _ => none
theorem dq_isN {K : PySem.W.Frag} {F : Fz} {H : Hp} {v : V} {d : D} (q : Dq K F H v d) : decide (v = .non) = isN d := by
  cases q <;> simp [isN]
theorem op_isV : OpR X (compareOp .Is) (rV X.K gIs) := by
  intro pins s σ H x y v u Q I rx ry h
  obtain ⟨F, dx, dy, d, t, qx, qy, e, gv⟩ := h
  cases dy with
  | none =>
    cases e
    cases dq_non qy
    exact op_isN pins s σ H _ _ v u Q I rx ry ⟨rfl, by rw [dq_isN qx]; exact gv.here t (.bl _)⟩
  | _ => cases e
end
end VL
end

section
set_option Elab.async false
set_option linter.all false
set_option maxRecDepth 100000
set_option maxHeartbeats 4000000
namespace VL
open PySem PySem.Spec PyProof.Rows L2
set_option autoImplicit false

section
variable {X : Cx} {B : Eb} {Γ : Gm} {E : Wish} {a b e : Expr} {es : List Expr} {ma mb : M D} {ms : M (List D)} {pos p : Pos}
theorem IxR.imp {r r' : R2} (h : IxR X r) (i : ∀ x y H Q, r' x y H Q → r x y H Q) : IxR X r' := fun va sl pins s σ H x y v u Q I rx ry q => h va sl pins s σ H x y v u Q I rx ry (i x y H Q q)

/-! ### subscripts -/
def gIx : D → D → Option D
  | .list xs, .int i => atI xs i
  | .tuple xs, .int i => atI xs i
  | .str s, .int i => if s.length ≤ sizeLine then (atI s.cps.toList i).map fun c => .str ⟨#[c]⟩ else none
  | _, _ => none
theorem atI_get {α : Type} {xs : List α} {i : Int} {x : α} (h : atI xs i = some x) : ∃ j, ixN xs.length i = some j ∧ xs[j]? = some x := by
  unfold atI at h
  cases e : ixN xs.length i with
  | none => rw [e] at h; cases h
  | some j => rw [e] at h; exact ⟨j, rfl, h⟩
theorem DqAll.at {K : PySem.W.Frag} {F : Fz} {H : Hp} {vs : List V} {ds : List D} {i : Int} {d : D} (q : DqAll K F H vs ds) (h : atI ds i = some d) : ∃ v, atI vs i = some v ∧ Dq K F H v d := by
  obtain ⟨j, h1, h2⟩ := atI_get h
  obtain ⟨v, h3, h4⟩ := q.get h2
  exact ⟨v, by unfold atI; rw [q.length, h1]; exact h3, h4⟩
theorem ix_V : IxR X (rV X.K gIx) := IxR.imp ix_seq fun x y H Q ⟨F, dx, dy, d, t, qx, qy, e, gv⟩ => by
  cases dy with
  | int i =>
    cases dq_int qy
    cases dx with
    | list xs =>
      obtain ⟨a, vs, rfl, ha, qa⟩ := dq_sqL qx
      obtain ⟨v, h1, h2⟩ := qa.at e
      exact .inl ⟨a, vs, i, v, rfl, rfl, ha, h1, gv.here t h2⟩
    | tuple xs =>
      obtain ⟨a, vs, rfl, ha, qa⟩ := dq_sqT qx
      obtain ⟨v, h1, h2⟩ := qa.at e
      exact .inr (.inl ⟨a, vs, i, v, rfl, rfl, ha, h1, gv.here t h2⟩)
    | str z =>
      cases dq_str qx
      by_cases c : z.length ≤ sizeLine
      · have e' : (atI z.cps.toList i).map (fun c => PyData.str ⟨#[c]⟩) = some d := by
          have : (if z.length ≤ sizeLine then (atI z.cps.toList i).map (fun c => PyData.str ⟨#[c]⟩) else none) = some d := e
          rw [if_pos c] at this; exact this
        obtain ⟨k, h1, rfl⟩ := Option.map_eq_some_iff.mp e'
        exact .inr (.inr ⟨z, i, k, rfl, rfl, c, h1, gv.here t (.str _)⟩)
      · have : (if z.length ≤ sizeLine then (atI z.cps.toList i).map (fun c => PyData.str ⟨#[c]⟩) else none) = some d := e
        rw [if_neg c] at this; cases this
    | _ => cases e
  | _ => cases dx <;> cases e

/-! ### slices -/
def mPart (m : M D) : M (Option Int) := m.bind fun d => match d with
  | .int i => M.pure (some i)
  | _ => fun _ => .stuck
def mNoPart : M (Option Int) := M.pure none
def tVo (K : PySem.W.Frag) (B : Eb) (Γ : Gm) (E : Wish) (m : M (Option Int)) : TO := tG (fun _ _ _ b c => b = c) K B Γ E m
def VP (X : Cx) (B : Eb) (Γ : Gm) (E : Wish) (o : Option Expr) (m : M (Option Int)) : Prop := PO X o (tVo X.K B Γ E m)
theorem PO.imp {o : Option Expr} {t t' : TO} (h : PO X o t) (i : ∀ σ H Q, t' σ H Q → t σ H Q) : PO X o t' := ⟨fun pins s σ H Q I q => h.run pins s σ H Q I (i σ H Q q)⟩
theorem vp_none : VP X B Γ E none mNoPart := PO.imp po_none fun σ H Q ⟨F, ρ, r, h⟩ => h none H F r .refl rfl
theorem vp_some (h : VE X B Γ E a ma) : VP X B Γ E (some a) (mPart ma) := PO.imp (po_some h) fun σ H Q ⟨F, ρ, r, h⟩ => ⟨F, ρ, r, (Res.bind h).mono (fun d ρ1 h1 v H1 F1 r1 g1 q1 => by
  cases d with
  | int i => exact ⟨i, dq_int q1, h1 (some i) H1 F1 r1 g1 rfl⟩
  | _ => exact h1.elim) (fun _ _ _ k => k)⟩
def cutD {α : Type} (xs : List α) (lo hi : Option Int) : List α := (xs.drop (HT.sIx xs.length 0 lo)).take (HT.sIx xs.length xs.length hi - HT.sIx xs.length 0 lo)
def gSl : D → Option Int → Option Int → Option D
  | .list xs, lo, hi => some (.list (cutD xs lo hi))
  | .dict [(.none, .list xs)], lo, hi => some (.list (cutD xs lo hi))
  | .tuple xs, lo, hi => some (.tuple (cutD xs lo hi))
  | .str z, lo, hi => if z.length ≤ sizeLine then some (.str (cutS z lo hi)) else none
  | _, _, _ => none
theorem DqAll.cut {K : PySem.W.Frag} {F : Fz} {H : Hp} {vs : List V} {ds : List D} {lo hi : Option Int} (q : DqAll K F H vs ds) : DqAll K F H (cutV vs lo hi) (cutD ds lo hi) := by
  unfold cutV cutD
  rw [q.length]
  exact (q.drop _).take _
def mSl (g : D → Option Int → Option Int → Option D) (me : M D) (ml mh : M (Option Int)) : M D := me.bind fun x => ml.bind fun l => mh.bind fun h => M.of (g x l h)
theorem SlR.imp {r r' : V → Option Int → Option Int → Hp → VK → Prop} (h : SlR X r) (i : ∀ x l u H Q, r' x l u H Q → r x l u H Q) : SlR X r' := fun pins s σ H x v vl vu lo hi sl Q I rx hs pl pu q => h pins s σ H x v vl vu lo hi sl Q I rx hs pl pu (i x lo hi H Q q)
theorem ve_slice {lo hi : Option Expr} {ml mh : M (Option Int)} {p2 : Pos} (he : VE X B Γ E e ma) (hl : VP X B Γ E lo ml) (hu : VP X B Γ E hi mh) : VE X B Γ E (.Subscript e (.Slice lo hi none p2) pos) (mSl gSl ma ml mh) := by
  refine PE.imp (pe_slice (SlR.or sl_list (SlR.or sl_tupP sl_str)) he hl hu) fun σ H Q ⟨F, ρ, r, h⟩ => ?_
  refine ⟨F, ρ, r, (Res.bind h).mono (fun x ρ1 h1 v1 H1 F1 r1 g1 q1 => ⟨F1, ρ1, r1, (Res.bind h1).mono (fun l ρ2 h2 l' H2 F2 r2 g2 e2 => ?_) (fun c fs ρ' k => k.grow g1)⟩) (fun _ _ _ k => k)⟩
  subst e2
  refine ⟨F2, ρ2, r2, (Res.bind h2).mono (fun u ρ3 h3 u' H3 F3 r3 g3 e3 => ?_) (fun c fs ρ' k => (k.grow g1).grow g2)⟩
  subst e3
  obtain ⟨d, e, h4⟩ := Res.of h3
  have gv : Gives X.K F3 H3 d Q := fun v H' F' ex q => h4 v H' F' (r3.to ex) (((g1.trans g2).trans g3).trans ex.kp) q
  have q3 : Dq X.K F3 H3 v1 x := (q1.grow (g2.g r1)).grow (g3.g r2)
  cases q3 with
  | lst f ha qa =>
    cases e
    exact .inl ⟨_, _, rfl, .inl (.inl ha), fun p np => gv.lst r3.trk qa.cut np⟩
  | scr w qa =>
    cases e
    exact .inl ⟨_, _, rfl, w.elim (fun h => .inl h.2) .inr, fun p np => gv.lst r3.trk qa.cut np⟩
  | @tup a xs ds ha nr qa =>
    cases e
    refine .inr (.inl ⟨_, _, rfl, .inl (.inl ha), fun hw => ?_, fun hw => gv.lay r3.trk qa.cut⟩)
    have : cutD ds l' u' = ds := by
      unfold cutD
      rw [← qa.length, hw.1, hw.2, List.drop_zero, Nat.sub_zero, qa.length, List.take_length]
    rw [this] at gv
    exact gv.here r3.trk (.tup ha nr qa)
  | @tupP a o xs ds fa ha od nr qa =>
    cases e
    refine .inr (.inl ⟨_, _, rfl, .inl (.inr ⟨_, ha⟩), fun hw => ?_, fun hw => gv.lay r3.trk qa.cut⟩)
    have : cutD ds l' u' = ds := by
      unfold cutD
      rw [← qa.length, hw.1, hw.2, List.drop_zero, Nat.sub_zero, qa.length, List.take_length]
    rw [this] at gv
    exact gv.here r3.trk (.tupP fa ha od nr qa)
  | @tupK a xs ds w nk mk qa =>
    cases e
    refine .inr (.inl ⟨_, _, rfl, .inr w, fun hw => ?_, fun hw => gv.lay r3.trk qa.cut⟩)
    have : cutD ds l' u' = ds := by
      unfold cutD
      rw [← qa.length, hw.1, hw.2, List.drop_zero, Nat.sub_zero, qa.length, List.take_length]
    rw [this] at gv
    exact gv.here r3.trk (.tupK w nk mk qa)
  | str z =>
    obtain ⟨c, rfl⟩ := ite_some (show (if z.length ≤ sizeLine then some (PyData.str (cutS z l' u')) else none) = some d from e)
    exact .inr (.inr ⟨z, rfl, c, gv.here r3.trk (.str _)⟩)
  | dicK f ha qa => cases qa <;> (try cases e) <;> (rename_i k _ _ _ _ _ _; cases k <;> cases e)
  | dicT f ha qa => cases qa <;> cases e
  | _ => cases e

/-! ### built-ins -/
theorem DqAll.one {K : PySem.W.Frag} {F : Fz} {H : Hp} {vs : List V} {d : D} (q : DqAll K F H vs [d]) : ∃ v, vs = [v] ∧ Dq K F H v d := by
  cases q with
  | cons q r => cases r; exact ⟨_, rfl, q⟩
theorem DqAll.two {K : PySem.W.Frag} {F : Fz} {H : Hp} {vs : List V} {d e : D} (q : DqAll K F H vs [d, e]) : ∃ v w, vs = [v, w] ∧ Dq K F H v d ∧ Dq K F H w e := by
  cases q with
  | cons q r =>
    obtain ⟨w, rfl, r'⟩ := r.one
    exact ⟨_, _, rfl, q, r'⟩
def cLen : List D → Option D
  | [.list xs] => some (.int xs.length)
  | [.tuple xs] => some (.int xs.length)
  | [.str s] => if s.length ≤ sizeLine then some (.int s.length) else none
  | _ => none
theorem call_lenV : CallR X (.builtin "len") (rVs X.K cLen) := CallR.imp call_len fun xs H Q ⟨F, ds, d, t, q, e, gv⟩ => by
  match ds, e with
  | [.list ys], e =>
    cases e
    obtain ⟨v, rfl, q'⟩ := q.one
    obtain ⟨a, vs, rfl, ha, qa⟩ := dq_sqL q'
    exact ⟨.ref a, ys.length, rfl, .inl ⟨vs, ha, qa.length.symm⟩, gv.here t (.int _)⟩
  | [.tuple ys], e =>
    cases e
    obtain ⟨v, rfl, q'⟩ := q.one
    obtain ⟨a, vs, rfl, ha, qa⟩ := dq_sqT q'
    exact ⟨.ref a, ys.length, rfl, .inr ⟨vs, ha, qa.length.symm⟩, gv.here t (.int _)⟩
  | [.str s], e =>
    obtain ⟨c, rfl⟩ := ite_some e
    obtain ⟨v, rfl, q'⟩ := q.one
    cases dq_str q'
    exact ⟨.str s, s.length, rfl, ⟨c, rfl⟩, gv.here t (.int _)⟩
def cAbs : List D → Option D
  | [.int i] => some (.int (if i < 0 then -i else i))
  | _ => none
theorem call_absV : CallR X (.builtin "abs") (rVs X.K cAbs) := CallR.imp call_abs fun xs H Q ⟨F, ds, d, t, q, e, gv⟩ => by
  match ds, e with
  | [.int i], e =>
    cases e
    obtain ⟨v, rfl, q'⟩ := q.one
    cases dq_int q'
    exact ⟨i, rfl, gv.here t (.int _)⟩
def cInt : List D → Option D
  | [.int i] => some (.int i)
  | [.bool k] => some (.int (if k then 1 else 0))
  | _ => none
theorem call_intV : CallR X (.type "int") (rVs X.K cInt) := CallR.imp call_int1 fun xs H Q ⟨F, ds, d, t, q, e, gv⟩ => by
  match ds, e with
  | [.int i], e =>
    cases e
    obtain ⟨v, rfl, q'⟩ := q.one
    cases dq_int q'
    exact .inl ⟨i, rfl, gv.here t (.int _)⟩
  | [.bool k], e =>
    cases e
    obtain ⟨v, rfl, q'⟩ := q.one
    cases dq_bl q'
    exact .inr ⟨k, rfl, gv.here t (.int _)⟩
def cTup : List D → Option D
  | [.list xs] => some (.tuple xs)
  | [.tuple xs] => some (.tuple xs)
  | _ => none
theorem call_tupV : CallR X (.type "tuple") (rVs X.K cTup) := CallR.imp call_tupP fun xs H Q ⟨F, ds, d, t, q, e, gv⟩ => by
  match ds, e with
  | [.list ys], e =>
    cases e
    obtain ⟨v, rfl, q'⟩ := q.one
    obtain ⟨a, vs, rfl, ha, qa⟩ := dq_sqL q'
    exact ⟨a, vs, rfl, .inl ⟨ha, gv.lay t qa⟩⟩
  | [.tuple ys], e =>
    cases e
    obtain ⟨v, rfl, q'⟩ := q.one
    obtain ⟨a, vs, rfl, ha, qa⟩ := dq_sqT q'
    exact ⟨a, vs, rfl, .inr ⟨ha, gv.here t q'⟩⟩
def cLst : List D → Option D
  | [.list xs] => some (.list xs)
  | [.tuple xs] => some (.list xs)
  | _ => none
theorem vo_list {p : Pos} (hg : Gl X "list") (hm : X.mg "list" = none) (ha : VA X B Γ E [e] ms) (he : starEach [e] X.env = (false, eval e X.env) :: starEach [] X.env := by rfl) (hpl : (backTo pos (starEach [] X.env)).any (·.1) = false := by rfl) :
    VO X B Γ E (.Call (.Name "list" p) [e] [] pos) (mCall cLst ms) :=
  PE.imp (pe_callTy call_list_of hg hm PyProof.Rows.boot_list ha.pa (by decide) (by decide) he hpl) fun σ H Q ⟨F, ρ, r, h⟩ => ⟨F, ρ, r, (Res.bind h).mono (fun x ρ1 h1 v1 H1 F1 r1 g1 q1 => by
    obtain ⟨d, e, h3⟩ := Res.of h1
    have fin : ∀ {vs : List V} {ys : List D} {l : Addr}, d = .list ys → DqAll X.K F1 H1 vs ys → H1 l = none → Q (.ref l) (upd H1 l (.lst vs)) := fun {vs ys l} ed qa nl => by
      subst ed
      have ex := Ext.laid (o := .lst vs) r1.trk nl
      exact h3 (.ref l) _ _ (r1.to ex) (g1.trans ex.kp) ⟨l, rfl, .lst upd_same (qa.grow (ex.grow r1.trk)), r1.nf nl, g1.none0 r1 nl⟩
    match x, e with
    | [.list ys], e =>
      cases e
      obtain ⟨v, rfl, q'⟩ := q1.one
      obtain ⟨a, vs, rfl, ha, qa⟩ := dq_sqL q'
      exact ⟨a, vs, rfl, .inl ha, fun l nl => fin rfl qa nl⟩
    | [.tuple ys], e =>
      cases e
      obtain ⟨v, rfl, q'⟩ := q1.one
      obtain ⟨a, vs, rfl, ha, qa⟩ := dq_sqT q'
      exact ⟨a, vs, rfl, .inr ha, fun l nl => fin rfl qa nl⟩) (fun _ _ _ k => k)⟩
def bools : List D → Option (List Bool)
  | [] => some []
  | .bool b :: r => (bools r).map (b :: ·)
  | _ => none
theorem bools_ok {K : PySem.W.Frag} {F : Fz} {H : Hp} : ∀ {vs : List V} {ds : List D} {bs : List Bool}, DqAll K F H vs ds → bools ds = some bs → vs = bs.map V.bl
  | _, _, _, .nil, e => by cases e; rfl
  | _, _, _, .cons q r, e => by
    cases q with
    | bl b =>
      obtain ⟨l, h, rfl⟩ := Option.map_eq_some_iff.mp (show (bools _).map (b :: ·) = some _ from e)
      rw [List.map_cons, bools_ok r h]
    | _ => cases e
def cAll : List D → Option D
  | [.list xs] => (bools xs).map fun bs => .bool (bs.all id)
  | _ => none
def cAny : List D → Option D
  | [.list xs] => (bools xs).map fun bs => .bool (bs.any id)
  | _ => none
theorem call_allV (hc : X.calm = true) : CallR X (.builtin "all") (rVs X.K cAll) := CallR.imp (cr_all hc) fun xs H Q ⟨F, ds, d, t, q, e, gv⟩ => by
  match ds, e with
  | [.list ys], e =>
    obtain ⟨bs, h, rfl⟩ := Option.map_eq_some_iff.mp (show (bools ys).map (fun bs => PyData.bool (bs.all id)) = some d from e)
    obtain ⟨v, rfl, q'⟩ := q.one
    obtain ⟨a, vs, rfl, ha, qa⟩ := dq_sqL q'
    rw [bools_ok qa h] at ha
    exact ⟨a, bs, rfl, ha, gv.here t (.bl _)⟩
def cMin2 : List D → Option D
  | [.int i, .int j] => some (.int (if j < i then j else i))
  | _ => none
def cMax2 : List D → Option D
  | [.int i, .int j] => some (.int (if j > i then j else i))
  | _ => none
theorem call_min2V (hc : X.calm = true) : CallR X (.builtin "min") (rVs X.K cMin2) := CallR.imp (call_min2 hc) fun xs H Q ⟨F, ds, d, t, q, e, gv⟩ => by
  match ds, e with
  | [.int i, .int j], e =>
    cases e
    obtain ⟨v, w, rfl, q1, q2⟩ := q.two
    cases dq_int q1
    cases dq_int q2
    exact ⟨i, j, rfl, gv.here t (.int _)⟩
/-! ### isinstance -/
def tyD : D → Option String
  | .none => some "NoneType"
  | .bool _ => some "bool"
  | .int _ => some "int"
  | .str _ => some "str"
  | .list _ => some "list"
  | .tuple _ => some "tuple"
  | .dict [(.none, .list _)] => none
  | .dict ((.none, .bool true) :: _) => none
  | .dict ((.none, .str _) :: _) => none
  | .dict [(.none, .tuple _)] => none
  | .dict _ => some "dict"
theorem tyD_ok {K : PySem.W.Frag} {F : Fz} {H : Hp} {v : V} {d : D} {t : String} (q : Dq K F H v d) (e : tyD d = some t) : TyX K H v (.type t) := by
  cases q with
  | non => cases e; exact .base .non
  | bl b => cases e; exact .base (.bl b)
  | int b => cases e; exact .base (.int b)
  | str b => cases e; exact .base (.str b)
  | lst f h q => cases e; exact .base (.lst h)
  | tup h _ q => cases e; exact .base (.tup h)
  | tupP _ h _ _ q => cases e; exact .fTuple h
  | tupK w _ _ q =>
    cases e
    obtain ⟨o, its, n, h1, h2, _⟩ := w
    exact .kTuple h1 h2
  | scr w q => cases e
  | @dicK a o kvs ds f h q =>
    have : t = "dict" := by
      cases q with
      | nil => cases e; rfl
      | @cons k v vs d ds q r =>
        cases k <;> (cases r <;> (cases e; rfl))
    subst this
    exact .fDict h
  | dicT f h q => cases e
  | exn0 _ _ _ => cases e
  | exn1 _ _ _ _ _ _ => cases e
  | fn _ => cases e
def gIsi (T : String) (d : D) : Option D := (tyD d).bind fun t => (kitB t T).map .bool
theorem ve_isi {x : Str} {T : String} {p2 : Pos} (he : VE X B Γ E e ma) (hg : Gl X "isinstance") (hm : X.mg "isinstance" = none) (hg2 : Gl X x) (hm2 : X.mg x = none) (hv : bootBuiltins x = some (.type T)) (hn : x ≠ "__name__" := by decide) (hdb : (x == ("__debug__" : Str)) = false := by decide)
    (hs : starEach [e, .Name x p2] X.env = (false, eval e X.env) :: starEach [.Name x p2] X.env := by rfl) (hs2 : starEach [.Name x p2] X.env = (false, eval (.Name x p2) X.env) :: starEach [] X.env := by rfl)
    (hpl : (backTo pos (starEach [.Name x p2] X.env)).any (·.1) = false := by rfl) : VE X B Γ E (.Call (.Name "isinstance" p) [e, .Name x p2] [] pos) (m1 (gIsi T) ma) :=
  PE.imp (pe_callB call_isi hg hm (by decide +kernel) (pa_cons he (pa_cons (pe_bltn (v := .ty T) hg2 hm2 hv rfl hn hdb) pa_nil hs2) hs) (by decide) (by decide) hs hpl) fun σ H Q ⟨F, ρ, r, h⟩ => ⟨F, ρ, r, (Res.bind h).mono (fun d ρ1 h1 v H1 F1 r1 g1 q1 => by
    obtain ⟨k, e, h2⟩ := Res.of h1
    obtain ⟨t, e1, e2⟩ := Option.bind_eq_some_iff.mp (show (tyD d).bind (fun t => (kitB t T).map .bool) = some k from e)
    obtain ⟨b, e3, rfl⟩ := Option.map_eq_some_iff.mp e2
    exact ⟨v, .ty T, .type t, .type T, b, rfl, .ty T, tyD_ok q1 e1, kit_ty e3, h2 _ H1 F1 r1 g1 (.bl b)⟩) (fun _ _ _ k => k)⟩
def gIsi2 (T U : String) (d : D) : Option D := (tyD d).bind fun t => (kitB t T).bind fun b => if b = true then some (.bool true) else (kitB t U).map .bool
theorem ve_isi2 {x y : Str} {T U : String} {p2 p3 p4 : Pos} {k : Nat} (he : VE X B Γ E e ma) (hg : Gl X "isinstance") (hm : X.mg "isinstance" = none) (hg2 : Gl X x) (hm2 : X.mg x = none) (hv : bootBuiltins x = some (.type T)) (hg3 : Gl X y) (hm3 : X.mg y = none) (hv3 : bootBuiltins y = some (.type U))
    (hn : x ≠ "__name__" := by decide) (hdb : (x == ("__debug__" : Str)) = false := by decide) (hn3 : y ≠ "__name__" := by decide) (hdb3 : (y == ("__debug__" : Str)) = false := by decide)
    (ht2 : starEach [.Name x p2, .Name y p3] X.env = (false, eval (.Name x p2) X.env) :: starEach [.Name y p3] X.env := by rfl) (ht3 : starEach [.Name y p3] X.env = (false, eval (.Name y p3) X.env) :: starEach [] X.env := by rfl)
    (hs : starEach [e, .Tuple [.Name x p2, .Name y p3] k p4] X.env = (false, eval e X.env) :: starEach [.Tuple [.Name x p2, .Name y p3] k p4] X.env := by rfl)
    (hs2 : starEach [.Tuple [.Name x p2, .Name y p3] k p4] X.env = (false, eval (.Tuple [.Name x p2, .Name y p3] k p4) X.env) :: starEach [] X.env := by rfl)
    (hpl : (backTo pos (starEach [.Tuple [.Name x p2, .Name y p3] k p4] X.env)).any (·.1) = false := by rfl) : VE X B Γ E (.Call (.Name "isinstance" p) [e, .Tuple [.Name x p2, .Name y p3] k p4] [] pos) (m1 (gIsi2 T U) ma) :=
  PE.imp (pe_callB call_isiT hg hm (by decide +kernel) (pa_cons he (pa_cons (pe_tup (pa_cons (pe_bltn (v := .ty T) hg2 hm2 hv rfl hn hdb) (pa_cons (pe_bltn (v := .ty U) hg3 hm3 hv3 rfl hn3 hdb3) pa_nil ht3) ht2)) pa_nil hs2) hs) (by decide) (by decide) hs hpl) fun σ H Q ⟨F, ρ, r, h⟩ => ⟨F, ρ, r, (Res.bind h).mono (fun d ρ1 h1 v H1 F1 r1 g1 q1 => by
    obtain ⟨k, e, h2⟩ := Res.of h1
    obtain ⟨t, e1, e2⟩ := Option.bind_eq_some_iff.mp (show (tyD d).bind (fun t => (kitB t T).bind fun b => if b = true then some (.bool true) else (kitB t U).map .bool) = some k from e)
    obtain ⟨b, e3, e4⟩ := Option.bind_eq_some_iff.mp e2
    refine ⟨(by decide : 2 ≤ sizeLine), fun p np => ?_⟩
    have ex := Ext.alloc (o := .tup [.ty T, .ty U]) r1.trk np
    have q2 := q1.grow (ex.grow r1.trk)
    cases b with
    | true =>
      cases e4
      exact ⟨v, p, [.ty T, .ty U], .type t, [.type T, .type U], true, rfl, upd_same, .cons (.ty T) (.cons (.ty U) .nil), tyD_ok q2 e1, kitAny_cons (kit_ty e3) (fun z => by cases z) (fun _ => rfl), h2 _ _ _ (r1.to ex) (g1.trans ex.kp) (.bl _)⟩
    | false =>
      obtain ⟨c, e5, rfl⟩ := Option.map_eq_some_iff.mp (show (kitB t U).map .bool = some k from e4)
      exact ⟨v, p, [.ty T, .ty U], .type t, [.type T, .type U], c, rfl, upd_same, .cons (.ty T) (.cons (.ty U) .nil), tyD_ok q2 e1, kitAny_cons (kit_ty e3) (fun _ => kitAny_cons (kit_ty e5) (fun z => by rw [z]; exact kitAny_nil) (fun z => z)) (fun z => by cases z), h2 _ _ _ (r1.to ex) (g1.trans ex.kp) (.bl _)⟩) (fun _ _ _ k => k)⟩
end
end VL
end

section
set_option Elab.async false
set_option linter.all false
set_option maxRecDepth 100000
set_option maxHeartbeats 4000000
/-! enumerate of a tuple -/
namespace VL
open PySem PySem.Spec PyProof.Rows L2
theorem meets_enumerate_newT (l : Addr) (items : Array Value) :
    Meets (Builtin.«enumerate.__new__» ⟨[.type "enumerate", .ref l], []⟩) (fun _ R s => s.heap.IsTuple l items ∧
      R (.ok (.ret (.ref (s.heap.push { cls := .type "tuple_iterator", data := .fields #[.ref l, .int 0 0] }).objs.size)))
        { s with heap := (s.heap.push { cls := .type "tuple_iterator", data := .fields #[.ref l, .int 0 0] }).push { cls := .type "enumerate", data := .fields #[.none, .bool false, .ref s.heap.objs.size, rawInt 0, .none, .none] } }) :=
  .of_wp fun prog w A R s h => by
    obtain ⟨hp, g, d, tk, os⟩ := s; obtain ⟨hl, h⟩ := h
    obtain ⟨⟨c, dct, dt, sl⟩, hl0, hc, n, hd⟩ := id hl
    replace hc : c = .type "tuple" := hc
    replace hd : dt = .seq items n := hd
    subst hc hd
    have hsub := sub_enumerate
    wp_walk using AutoSeq1.wpAny_loadPart' hl0
    refine wpAny_stack_any fun st => wpAny_pure ?_
    split
    · rename_i c _ _ _ _ _
      cases (c == Value.type "enumerate")
      · wp_walk using AutoSeq1.wpAny_loadPart' hl0, wpAny_pyIter_tuple hl
        exact ⟨_, rfl, h⟩
      · wp_walk using AutoSeq1.wpAny_loadPart' hl0, wpAny_pyIter_tuple hl
        exact ⟨_, rfl, h⟩
    · wp_walk using AutoSeq1.wpAny_loadPart' hl0, wpAny_pyIter_tuple hl
      exact ⟨_, rfl, h⟩
section
variable {prog : Program} {w : World} {A : Around} {E : Value → Shared → Prop} {s : Shared}
theorem call_enumerate_tuple {l : Addr} {items : Array Value} {Q : Value → Shared → Prop} (hL : s.heap.IsTuple l items)
    (h : ∀ h', IsEnum h' (s.heap.objs.size + 1) s.heap.objs.size 0 .none → h'.IsTupleIter s.heap.objs.size l 0 → h'.objs.size = s.heap.objs.size + 2 →
      (∀ b o, s.heap.get? b = some o → h'.get? b = some o) → Q (.ref (s.heap.objs.size + 1)) { s with heap := h' }) :
    wpAny (model prog w) A (call (.type "enumerate") [.ref l]) Q E s := by
  refine callType_new F.called_enumerate (by decide) (F.typeCall_enumerate_1 _) (F.newCall_enumerate_1 _) (fun obj => F.args_object_init_2 obj _) F.entry_enumerate_new
    (meets_enumerate_newT l items) ⟨hL, ?_⟩
  have hz : (s.heap.push { cls := .type "tuple_iterator", data := .fields #[.ref l, .int 0 0] }).objs.size = s.heap.objs.size + 1 := Heap.size_push ..
  show _ ∧ _
  rw [hz]
  have he : IsEnum ((s.heap.push { cls := .type "tuple_iterator", data := .fields #[.ref l, .int 0 0] }).push
      { cls := .type "enumerate", data := .fields #[.none, .bool false, .ref s.heap.objs.size, rawInt 0, .none, .none] }) (s.heap.objs.size + 1) s.heap.objs.size 0 .none := by
    have := Heap.get?_push_size (s.heap.push { cls := .type "tuple_iterator", data := .fields #[.ref l, .int 0 0] })
      (o := { cls := .type "enumerate", data := .fields #[.none, .bool false, .ref s.heap.objs.size, rawInt 0, .none, .none] }) rfl
    rw [hz] at this; exact this
  refine ⟨⟨_, he, rfl⟩, h _ he ⟨_, Heap.get?_push_of_some _ (Heap.get?_push_size _ rfl), rfl, rfl⟩ (by rw [Heap.size_push, hz]) fun b o x => Heap.get?_push_of_some _ (Heap.get?_push_of_some _ x)⟩
end
/-- the tuple at a, each item in a new pair -/
def IteT (K : PySem.W.Frag) (a : Addr) : It :=
  ⟨fun i H => ∃ (xs : List V) (x : V), SqT K H a xs ∧ xs[i]? = some x, fun i H v H' => ∃ T x, v = .ref T ∧ H T = none ∧ H' = upd H T (.tup [.int (i : Nat), x]) ∧ ∀ xs, SqT K H a xs → xs[i]? = some x, fun i H => ∃ xs : List V, SqT K H a xs ∧ xs.length ≤ i⟩
theorem turn_enumT {P : Program} {w : World} {K : PySem.W.Frag} {elts : List Expr} {kk : Nat} {tpos : Pos} (a e it : Addr) :
    Turn P w K (.Tuple elts kk tpos) (IteT K a) [e, it] e (fun i h => (∃ old, IsEnum h e it ((i : Nat) : Int) old) ∧ h.IsTupleIter it a i ∧ e ≠ it ∧ a ≠ it ∧ a ≠ e) where
  mem := by simp
  obj := fun i h st b hb => by
    obtain ⟨⟨old, he⟩, ⟨o, ho, hc, hd⟩, _⟩ := st
    have e' : b = e ∨ b = it := by simpa using hb
    rcases e' with z | z
    · rw [z]; exact ⟨_, he, fun v q => nomatch q⟩
    · rw [z]; exact ⟨o, ho, fun v q => by rw [hd] at q; cases q⟩
  keep := fun i h h' st k => let ⟨⟨old, he⟩, hi, hne⟩ := st; ⟨⟨old, k e (by simp) _ he⟩, hi.at fun o q => k it (by simp) o q, hne⟩
  item := by
    intro X hP hw hK hc i pins s σ H E I hf st hg
    subst hP hw hK
    obtain ⟨⟨old, he⟩, hit, hne, hai, hae⟩ := st
    obtain ⟨xs, x, hq, hx⟩ := hg
    obtain ⟨its, rv, p, hz⟩ := I.tuple hq
    obtain ⟨u, hu, ru⟩ := rv.get hx
    have hel : e < s.heap.objs.size := Heap.lt_size he
    have hil : it < s.heap.objs.size := by obtain ⟨_, q, _⟩ := hit; exact Heap.lt_size q
    have hlt : i < its.toArray.size := by
      have := (List.getElem?_eq_some_iff.mp hu).1
      simpa using this
    have hA : X.A.in1.handled = none := I.ok.hd hc
    refine wpAny_pyNext_enum_itemD (Draws.tuple hA it a hai its.toArray) he ⟨hit, show s.heap.IsTuple a its.toArray from p⟩ hlt hne (by simp [hne, Ne.symm hae]) fun y h' tk hP ho hst hT hsz hk => ?_
    have hy : y = u := by
      have h1 : its.toArray[i]? = some y := hP
      have h2 : its.toArray[i]? = some u := by simpa using hu
      rw [h1] at h2
      exact Option.some.inj h2
    subst hy
    refine ⟨_, rfl, wpAny_letOwnedTupleGo_enum (s := { s with heap := h', toks := tk + 1 }) ho fun h'' he' sb => ?_⟩
    have hT2 : h''.get? s.heap.objs.size = some { cls := .type "tuple", data := .seq #[.int i tk, y] } := (sb.2 _ (Nat.ne_of_gt hel)).trans hT
    have new : ObjOk X.prog X.w (upd H s.heap.objs.size (.tup [.int (i : Nat), x])) h'' s.heap.objs.size (.tup [.int (i : Nat), x]) :=
      ⟨by show 2 ≤ sizeLine; decide, [.int i tk, y], .cons ⟨_, rfl⟩ (.cons ru .nil), ⟨_, hT2, rfl, _, rfl⟩⟩
    have I1 : Inv X pins σ (upd H s.heap.objs.size (.tup [.int (i : Nat), x])) { s with heap := h'', toks := tk + 1 } :=
      I.turnedNew (ch := [e, it]) (fun b ob hb q => (sb.2 b (fun z => hb (by simp [z]))).trans (hk b ob (fun z => hb (by simp [z])) (fun z => hb (by simp [z])) q)) hf (Nat.le_refl _) new
    refine ⟨.ref s.heap.objs.size, _, I1, rfl, ⟨_, x, rfl, I.hok.fresh (Nat.le_refl _), rfl, fun ys hy => by rw [I.tuple_inj hy hq]; exact hx⟩, ⟨⟨y, ?_⟩, hst.1.at fun o q => (sb.2 it (Ne.symm hne)).trans q, hne, hai, hae⟩, fun b hb => ?_⟩
    · have e1 : ((i + 1 : Nat) : Int) = (i : Int) + 1 := by omega
      rw [e1]; exact he'
    · have hb' : b < s.heap.objs.size := by
        have e' : b = e ∨ b = it := by simpa using hb
        rcases e' with z | z
        · rw [z]; exact hel
        · rw [z]; exact hil
      rw [upd_ne (Nat.ne_of_lt hb')]
      exact (hf b hb).1
  done := by
    intro X hP hw hK hc i pins s σ H E I hf st hg
    subst hP hw hK
    obtain ⟨⟨old, he⟩, hit, hne, hai, hae⟩ := st
    obtain ⟨xs, hq, hx⟩ := hg
    obtain ⟨its, rv, p, hz⟩ := I.tuple hq
    obtain ⟨f0, f1, f2, f3, f4, f5⟩ := hf it (by simp)
    have hl := rv.length
    have hA : X.A.in1.handled = none := I.ok.hd hc
    have hn : its.toArray[i]? = none := by simp; omega
    have hT : s.TypeIs (.ref e) "enumerate" := ⟨_, he, rfl⟩
    unfold pyNext
    refine wpAny_bind (wpAny_attempt (wpAny_callSpecial?_slot (name := Str.ofString "__next__") hT F.slot_enumerate_next
      (wpAny_call_entry F.slot_enumerate_next hT F.entry_enumerate_next ?_ (F.args_enumerate_next_1 _))))
    show wpAny _ _ (PySem.field (.ref e) 2 >>= _) _ _ _
    refine wpAny_bind (wpAny_field he rfl (x := .ref it) rfl ?_)
    refine wpAny_bind (wpAny_nextOf_tuple_end hA hit (show s.heap.IsTuple a its.toArray from p) hn fun h' x he' hx' => ?_)
    obtain ⟨o, ho, hcl⟩ := hx'
    refine wpAny_bind (wpAny_isInstance (T := "StopIteration") (b := true) ⟨o, ho, hcl⟩ isSubtype_stop ?_)
    exact wpAny_pure ⟨rfl, I.turned (t' := s.toks) (fun b o hb q => he' b o hb q) f0 f1 f3 f4 f5⟩
  self := fun A i s Q E st h => let ⟨⟨_, he⟩, _⟩ := st; wpAny_pyIter_enum he h
def iEnumA (K : PySem.W.Frag) (ta : TA) : TI := fun σ H R => ta σ H fun vs H1 => ∃ a xs, vs = [.ref a] ∧ ((SqL K H1 a xs ∧ R (Ite K a) H1) ∨ (SqT K H1 a xs ∧ R (IteT K a) H1))
theorem pi_enumA {X : Cx} {e : Expr} {ta : TA} {p pos tpos : Pos} {elts : List Expr} {kk : Nat} (hg : Gl X "enumerate") (hm : X.mg "enumerate" = none) (ha : PA X [e] ta) (hs : starEach [e] X.env = [(false, eval e X.env)] := by rfl) :
    PI X (.Tuple elts kk tpos) (.Call (.Name "enumerate" p) [e] [] pos) (iEnumA X.K ta) := by
  refine ⟨fun pins s σ H R I h => ?_⟩
  refine Call_ (ld_blt I hg hm boot_enumerate (PyProof.Rows.callWith_type1 (thn (ha.run pos pins s σ H _ I h) fun us s1 ⟨vs, H1, I1, r1, q1⟩ => ?_) hs rfl))
  obtain ⟨a, xs, ex, q⟩ := q1
  subst ex
  cases r1 with
  | cons r rr =>
    cases rr
    cases r
    have hfp : ∀ b ∈ [s1.heap.objs.size + 1, s1.heap.objs.size], s1.heap.objs.size ≤ b := fun b hb => by
      have e' : b = s1.heap.objs.size + 1 ∨ b = s1.heap.objs.size := by simpa using hb
      rcases e' with z | z
      · rw [z]; exact Nat.le_add_right _ _
      · rw [z]; exact Nat.le_refl _
    rcases q with ⟨hq, q⟩ | ⟨hq, q⟩
    · obtain ⟨its, rv, p', hz⟩ := I1.list hq
      refine call_enumerate_list p'.isList fun h' he hit hsz hk => wpAny_pyIter_enum he ?_
      have I2 : Inv X pins σ H1 { s1 with heap := h' } := I1.kept (t' := s1.toks) hk
      exact ⟨s1.heap.objs.size + 1, [s1.heap.objs.size + 1, s1.heap.objs.size], _, _, H1, rfl, I2, turn_enum a (s1.heap.objs.size + 1) s1.heap.objs.size, ⟨⟨.none, he⟩, hit, Nat.succ_ne_self _⟩, fun b hb => I1.fpOk (hfp b hb) (I1.hok.fresh (hfp b hb)), q⟩
    · obtain ⟨its, rv, p', hz⟩ := I1.tuple hq
      have hal : a < s1.heap.objs.size := by obtain ⟨o, ho, _⟩ := p'; exact Heap.lt_size ho
      refine call_enumerate_tuple (show s1.heap.IsTuple a its.toArray from p') fun h' he hit hsz hk => wpAny_pyIter_enum he ?_
      have I2 : Inv X pins σ H1 { s1 with heap := h' } := I1.kept (t' := s1.toks) hk
      exact ⟨s1.heap.objs.size + 1, [s1.heap.objs.size + 1, s1.heap.objs.size], _, _, H1, rfl, I2, turn_enumT a (s1.heap.objs.size + 1) s1.heap.objs.size, ⟨⟨.none, he⟩, hit, Nat.succ_ne_self _, Nat.ne_of_lt hal, Nat.ne_of_lt (Nat.lt_succ_of_lt hal)⟩, fun b hb => I1.fpOk (hfp b hb) (I1.hok.fresh (hfp b hb)), q⟩
end VL
end

section
set_option Elab.async false
set_option linter.all false
set_option maxRecDepth 100000
set_option maxHeartbeats 4000000
namespace VL
open PySem PySem.Spec PyProof.Rows L2
set_option autoImplicit false

/-! ### targets -/
inductive Tg where
  | nm (i : Nat)
  | tp (ts : List Tg)
mutual
def bindT : Tg → D → Env → Option Env
  | .nm i, d, ρ => some (ρ.set i (some d))
  | .tp ts, .tuple ds, ρ => bindTs ts ds ρ
  | .tp ts, .list ds, ρ => bindTs ts ds ρ
  | .tp _, _, _ => none
def bindTs : List Tg → List D → Env → Option Env
  | [], [], ρ => some ρ
  | t :: ts, d :: ds, ρ => (bindT t d ρ).bind (bindTs ts ds)
  | _, _, _ => none
end
mutual
def Tg.slots : Tg → List Nat
  | .nm i => [i]
  | .tp ts => Tg.slotsL ts
def Tg.slotsL : List Tg → List Nat
  | [] => []
  | t :: ts => t.slots ++ Tg.slotsL ts
end
structure SameBut (S : List Nat) (σ σ' : St) : Prop where
  len : σ'.length = σ.length
  out : ∀ i, i ∉ S → σ'[i]? = σ[i]?
theorem SameBut.refl {S : List Nat} {σ : St} : SameBut S σ σ := ⟨rfl, fun _ _ => rfl⟩
theorem SameBut.trans {S T : List Nat} {σ σ1 σ2 : St} (a : SameBut S σ σ1) (b : SameBut T σ1 σ2) : SameBut (S ++ T) σ σ2 :=
  ⟨b.len.trans a.len, fun i h => by
    rw [List.mem_append, not_or] at h
    rw [b.out i h.2, a.out i h.1]⟩
/-- .. or a new pair of two things, which is taken apart at once -/
inductive DqW (K : PySem.W.Frag) (F : Fz) (H : Hp) : V → D → Prop
  | d {v : V} {d : D} : Dq K F H v d → DqW K F H v d
  | p {a : Addr} {x y : V} {d e : D} : H a = some (.tup [x, y]) → Dq K F H x d → Dq K F H y e → DqW K F H (.ref a) (.tuple [d, e])
def DqB (w : Bool) (K : PySem.W.Frag) (F : Fz) (H : Hp) (v : V) (d : D) : Prop := match w with
  | true => DqW K F H v d
  | false => Dq K F H v d
theorem DqB.of {w : Bool} {K : PySem.W.Frag} {F : Fz} {H : Hp} {v : V} {d : D} (q : Dq K F H v d) : DqB w K F H v d := by
  cases w
  · exact q
  · exact .d q
def isTup : Expr → Bool
  | .Tuple _ _ _ => true
  | _ => false
def gT (K : PySem.W.Frag) (w : Bool) (Γ : Gm) (t : Tg) : TG := fun v σ H Q => ∃ F ρ d ρ', Rel K Γ F ρ σ H ∧ DqB w K F H v d ∧ bindT t d ρ = some ρ' ∧ ∀ σ', Rel K Γ F ρ' σ' H → SameBut t.slots σ σ' → Q σ' H
def gTs (K : PySem.W.Frag) (Γ : Gm) (ts : List Tg) : TGs := fun vs σ H Q => ∃ F ρ ds ρ', Rel K Γ F ρ σ H ∧ DqAll K F H vs ds ∧ bindTs ts ds ρ = some ρ' ∧ ∀ σ', Rel K Γ F ρ' σ' H → SameBut (Tg.slotsL ts) σ σ' → Q σ' H
def VG (X : Cx) (Γ : Gm) (e : Expr) (t : Tg) : Prop := PG X e (gT X.K (isTup e) Γ t)
structure VGs (X : Cx) (Γ : Gm) (es : List Expr) (ts : List Tg) : Prop where
  pg : PGs X es (gTs X.K Γ ts)
  len : es.length = ts.length
theorem PG.imp {X : Cx} {e : Expr} {t t' : TG} (h : PG X e t) (i : ∀ v σ H Q, t' v σ H Q → t v σ H Q) : PG X e t' := ⟨fun pins s σ H v u Q I r q => h.run pins s σ H v u Q I r (i v σ H Q q)⟩
theorem PGs.imp {X : Cx} {e : List Expr} {t t' : TGs} (h : PGs X e t) (i : ∀ v σ H Q, t' v σ H Q → t v σ H Q) : PGs X e t' := ⟨fun pins s σ H v u Q I r q => h.run pins s σ H v u Q I r (i v σ H Q q)⟩
theorem PG.or {X : Cx} {e : Expr} {t t' : TG} (h : PG X e t) (h' : PG X e t') : PG X e (fun v σ H Q => t v σ H Q ∨ t' v σ H Q) := ⟨fun pins s σ H v u Q I r q => q.elim (h.run pins s σ H v u Q I r) (h'.run pins s σ H v u Q I r)⟩
theorem bindTs_len : ∀ {ts : List Tg} {ds : List D} {ρ ρ' : Env}, bindTs ts ds ρ = some ρ' → ds.length = ts.length
  | [], [], _, _, _ => rfl
  | [], _ :: _, _, _, h => by cases h
  | _ :: _, [], _, _, h => by cases h
  | t :: ts, d :: ds, ρ, ρ', h => by
    obtain ⟨ρ1, _, h2⟩ := Option.bind_eq_some_iff.mp (show (bindT t d ρ).bind (bindTs ts ds) = some ρ' from h)
    exact congrArg (· + 1) (bindTs_len h2)
section
variable {X : Cx} {B : Eb} {G : Gd} {Ps O : List Nat} {Γ : Gm} {E : Wish} {pos : Pos}
theorem vg_nm {i : Nat} {x : Str} (hO : delO i O = O) (hN : X.N.Nodup) (hi : X.N[i]? = some x) (hx : Loc X.env.scope x) (hp : i ∉ Ps := by decide) (hf : X.fn x = true ∨ X.env.scope.names.lookup x = some .local := by first | exact .inl rfl | exact .inr rfl) :
    VG X (G.w Ps O) (.Name x pos) (.nm i) :=
  PG.imp (pg_name hN hi hx hf) fun v σ H Q ⟨F, ρ, d, ρ', r, q, e, h⟩ => by
    cases (Option.some.inj (show some (ρ.set i (some d)) = some ρ' from e))
    refine h _ ?_ ⟨by rw [List.length_set], fun j hj => ?_⟩
    · have := r.setD q (notpin hp)
      have e2 : ({ (G.w Ps O) with O := (G.w Ps O).O.filter (fun j => decide (j ≠ i)) } : Gm) = G.w Ps O := by
        show Gd.w G Ps (delO i O) = _
        rw [hO]
      rw [e2] at this
      exact this
    · rw [List.getElem?_set_ne fun z => hj (by rw [z]; exact List.mem_cons_self ..)]
theorem vgs_nil : VGs X Γ [] [] := ⟨PGs.imp pgs_nil (fun vs σ H Q ⟨F, ρ, ds, ρ', r, q, e, h⟩ => by
  cases ds with
  | nil =>
    cases q
    cases (Option.some.inj (show some ρ = some ρ' from e))
    exact ⟨rfl, h σ r .refl⟩
  | cons _ _ => cases e), rfl⟩
theorem vgs_cons {e : Expr} {es : List Expr} {t : Tg} {ts : List Tg} (h1 : VG X Γ e t) (h2 : VGs X Γ es ts) (hs : (assignEach (e :: es) X.env).map (·.2) = assign e X.env :: (assignEach es X.env).map (·.2) := by rfl) : VGs X Γ (e :: es) (t :: ts) :=
  ⟨PGs.imp (pgs_cons h1 h2.pg hs) (fun vs σ H Q ⟨F, ρ, ds, ρ', r, q, e, h⟩ => by
    cases q with
    | nil => cases e
    | @cons v vs d ds q qs =>
      obtain ⟨ρ1, e1, e2⟩ := Option.bind_eq_some_iff.mp (show (bindT t d ρ).bind (bindTs ts ds) = some ρ' from e)
      refine ⟨v, vs, rfl, F, ρ, d, ρ1, r, .of q, e1, fun σ1 r1 s1 => ⟨F, ρ1, ds, ρ', r1, qs, e2, fun σ2 r2 s2 => h σ2 r2 (s1.trans s2)⟩⟩), congrArg (· + 1) h2.len⟩
theorem vg_tup {es : List Expr} {ts : List Tg} {k : Nat} (hc : X.calm = true) (h : VGs X Γ es ts) (hn : (assignEach es X.env).length = es.length := by rfl) (hst : (assignEach es X.env).findIdx? (·.1) = none := by rfl) : VG X Γ (.Tuple es k pos) (.tp ts) :=
  PG.imp (PG.or (pg_tup hc h.pg hn hst) (pg_unl hc h.pg hn hst)) fun v σ H Q ⟨F, ρ, d, ρ', r, q, e, h'⟩ => by
    cases d with
    | tuple ds =>
      have q : DqW X.K F H v (.tuple ds) := q
      obtain ⟨a, vs, rfl, ha, qa⟩ : ∃ a xs, v = .ref a ∧ SqT X.K H a xs ∧ DqAll X.K F H xs ds := by
        cases q with
        | d q => exact dq_sqT q
        | p h q1 q2 => exact ⟨_, _, rfl, .inl (.inl h), .cons q1 (.cons q2 .nil)⟩
      exact .inl ⟨a, vs, rfl, ha, by rw [qa.length, bindTs_len (show bindTs ts ds ρ = some ρ' from e), h.len], F, ρ, ds, ρ', r, qa, e, h'⟩
    | list ds =>
      have q : DqW X.K F H v (.list ds) := q
      obtain ⟨a, vs, rfl, ha, qa⟩ : ∃ a xs, v = .ref a ∧ SqL X.K H a xs ∧ DqAll X.K F H xs ds := by
        cases q with
        | d q => exact dq_sqL q
      exact .inr ⟨a, vs, rfl, ha, by rw [qa.length, bindTs_len (show bindTs ts ds ρ = some ρ' from e), h.len], F, ρ, ds, ρ', r, qa, e, h'⟩
    | _ => cases e
end

/-! ### what is walked -/
structure ItV (K : PySem.W.Frag) (w : Bool) (F : Fz) (H : Hp) (J : It) (ds : List D) : Prop where
  go : ∀ i d F' H', Grow F H F' H' → Trk F' H' → ds[i]? = some d → J.go i H' ∧ ∀ x H'', J.yld i H' x H'' → ∃ F'', Ext F' H' F'' H'' ∧ DqB w K F'' H'' x d
  stop : ∀ F' H', Grow F H F' H' → Trk F' H' → J.stop ds.length H'
def tI (K : PySem.W.Frag) (w : Bool) (B : Eb) (Γ : Gm) (E : Wish) (m : M (List D)) : TI := tG (fun _ F H J ds => ItV K w F H J ds) K B Γ E m
def VI (X : Cx) (B : Eb) (Γ : Gm) (E : Wish) (tg iter : Expr) (m : M (List D)) : Prop := PI X tg iter (tI X.K (isTup tg) B Γ E m)
theorem PI.imp {X : Cx} {tg e : Expr} {t t' : TI} (h : PI X tg e t) (i : ∀ σ H Q, t' σ H Q → t σ H Q) : PI X tg e t' := ⟨fun pins s σ H Q I q => h.run pins s σ H Q I (i σ H Q q)⟩
theorem PI.or {X : Cx} {tg e : Expr} {t t' : TI} (h : PI X tg e t) (h' : PI X tg e t') : PI X tg e (fun σ H Q => t σ H Q ∨ t' σ H Q) := ⟨fun pins s σ H Q I q => q.elim (h.run pins s σ H Q I) (h'.run pins s σ H Q I)⟩
def dSeq : D → Option (List D)
  | .list xs => some xs
  | .tuple xs => some xs
  | .str s => some (s.cps.toList.map fun c => .str ⟨#[c]⟩)
  | _ => none
def mSeqOf (m : M D) : M (List D) := m.bind fun d => M.of (dSeq d)
section
variable {X : Cx} {B : Eb} {Γ : Gm} {E : Wish} {e a b c tg : Expr} {ma mb mc : M D} {pos p : Pos}
theorem itl {K : PySem.W.Frag} {w : Bool} {F : Fz} {H : Hp} {a : Addr} {ds : List D} (q : Dq K F H (.ref a) (.list ds)) : ItV K w F H (Itl K a) ds := by
  refine ⟨fun i d F' H' g t hd => ?_, fun F' H' g t => ?_⟩
  · obtain ⟨b, xs, e, hs, qa⟩ := dq_sqL (q.grow g)
    cases e
    obtain ⟨v, h1, h2⟩ := qa.get hd
    refine ⟨⟨xs, v, hs, h1⟩, fun x H'' y => ?_⟩
    obtain ⟨rfl, y⟩ := y
    have := y xs hs
    rw [h1] at this
    cases this
    exact ⟨F', .refl t, .of h2⟩
  · obtain ⟨b, xs, e, hs, qa⟩ := dq_sqL (q.grow g)
    cases e
    exact ⟨xs, hs, by rw [qa.length]; exact Nat.le_refl _⟩
theorem itt {K : PySem.W.Frag} {w : Bool} {F : Fz} {H : Hp} {a : Addr} {ds : List D} (q : Dq K F H (.ref a) (.tuple ds)) : ItV K w F H (Itt K a) ds := by
  refine ⟨fun i d F' H' g t hd => ?_, fun F' H' g t => ?_⟩
  · obtain ⟨b, xs, e, hs, qa⟩ := dq_sqT (q.grow g)
    cases e
    obtain ⟨v, h1, h2⟩ := qa.get hd
    refine ⟨⟨xs, v, hs, h1⟩, fun x H'' y => ?_⟩
    obtain ⟨rfl, y⟩ := y
    have := y xs hs
    rw [h1] at this
    cases this
    exact ⟨F', .refl t, .of h2⟩
  · obtain ⟨b, xs, e, hs, qa⟩ := dq_sqT (q.grow g)
    cases e
    exact ⟨xs, hs, by rw [qa.length]; exact Nat.le_refl _⟩
theorem its {K : PySem.W.Frag} {w : Bool} {F : Fz} {H : Hp} {s : Str} : ItV K w F H (Its s) (s.cps.toList.map fun c => .str ⟨#[c]⟩) := by
  refine ⟨fun i d F' H' g t hd => ?_, fun F' H' g t => ?_⟩
  · rw [List.getElem?_map, Array.getElem?_toList] at hd
    obtain ⟨c, h1, rfl⟩ := Option.map_eq_some_iff.mp hd
    have hl : i < s.cps.size := by
      obtain ⟨w, _⟩ := Array.getElem?_eq_some_iff.mp h1
      exact w
    refine ⟨hl, fun x H'' y => ?_⟩
    obtain ⟨rfl, c', h2, rfl⟩ := y
    rw [h1] at h2
    cases h2
    exact ⟨F', .refl t, .of (.str _)⟩
  · show s.cps.size ≤ _
    rw [List.length_map, Array.length_toList]
    exact Nat.le_refl _
theorem vi_seq (h : VE X B Γ E e ma) : VI X B Γ E tg e (mSeqOf ma) :=
  PI.imp (PI.or (pi_list h) (PI.or (pi_tup h) (pi_str h))) fun σ H Q ⟨F, ρ, r, h⟩ => by
    unfold mSeqOf M.bind at h
    cases e1 : ma ρ with
    | stuck => rw [e1] at h; exact h.elim
    | exc c fs ρ' => rw [e1] at h; exact .inl ⟨F, ρ, r, by rw [e1]; exact h⟩
    | ok p =>
      obtain ⟨d, ρ1⟩ := p
      rw [e1] at h
      cases d with
      | list ds =>
        refine .inl ⟨F, ρ, r, ?_⟩
        rw [e1]
        intro v H1 F1 r1 g1 q1
        obtain ⟨a, xs, rfl, ha, qa⟩ := dq_sqL q1
        exact ⟨a, rfl, ⟨xs, ha⟩, h _ H1 F1 r1 g1 (itl q1)⟩
      | tuple ds =>
        refine .inr (.inl ⟨F, ρ, r, ?_⟩)
        rw [e1]
        intro v H1 F1 r1 g1 q1
        obtain ⟨a, xs, rfl, ha, qa⟩ := dq_sqT q1
        exact ⟨a, rfl, ⟨xs, ha⟩, h _ H1 F1 r1 g1 (itt q1)⟩
      | str s =>
        refine .inr (.inr ⟨F, ρ, r, ?_⟩)
        rw [e1]
        intro v H1 F1 r1 g1 q1
        exact ⟨s, dq_str q1, h _ H1 F1 r1 g1 its⟩
      | _ => exact h.elim
def rng (lo : Int) (n : Nat) : List D := (List.range n).map fun i => .int (lo + (i : Nat))
theorem itr {K : PySem.W.Frag} {w : Bool} {F : Fz} {H : Hp} {lo : Int} {n : Nat} : ItV K w F H (Itr lo n) (rng lo n) := by
  refine ⟨fun i d F' H' g t hd => ?_, fun F' H' g t => ?_⟩
  · unfold rng at hd
    rw [List.getElem?_map] at hd
    obtain ⟨k, h1, rfl⟩ := Option.map_eq_some_iff.mp hd
    obtain ⟨w, h2⟩ := List.getElem?_eq_some_iff.mp h1
    rw [List.length_range] at w
    rw [List.getElem_range] at h2
    subst h2
    refine ⟨w, fun x H'' y => ?_⟩
    obtain ⟨rfl, rfl⟩ := y
    exact ⟨F', .refl t, .of (.int _)⟩
  · show n ≤ _
    unfold rng
    rw [List.length_map, List.length_range]
    exact Nat.le_refl _
def lim62 (i : Int) : Bool := decide (-(2 ^ 62) ≤ i) && decide (i < 2 ^ 62)
theorem lim62_ok {i : Int} (h : lim62 i = true) : -(2 ^ 62) ≤ i ∧ i < 2 ^ 62 := by
  unfold lim62 at h
  rw [Bool.and_eq_true, decide_eq_true_eq, decide_eq_true_eq] at h
  exact h
def rng1 : List D → Option (List D)
  | [.int j] => if lim62 j = true then some (rng 0 j.toNat) else none
  | _ => none
def rng2 : List D → Option (List D)
  | [.int i, .int j] => if (lim62 i && lim62 j) = true then some (rng i (j - i).toNat) else none
  | _ => none
def mRng (g : List D → Option (List D)) (ms : M (List D)) : M (List D) := ms.bind fun ds => M.of (g ds)
theorem vi_range1 {ms : M (List D)} (hg : Gl X "range") (hm : X.mg "range" = none) (ha : VA X B Γ E [a] ms) (hs : starEach [a] X.env = [(false, eval a X.env)] := by rfl) : VI X B Γ E tg (.Call (.Name "range" p) [a] [] pos) (mRng rng1 ms) :=
  PI.imp (pi_range1 hg hm ha.pa hs) fun σ H Q ⟨F, ρ, r, h⟩ => ⟨F, ρ, r, (Res.bind h).mono (fun ds ρ1 h1 v H1 F1 r1 g1 q1 => by
    obtain ⟨l, e, h2⟩ := Res.of h1
    match ds, e with
    | [.int j], e =>
      obtain ⟨c, rfl⟩ := ite_some e
      obtain ⟨w, rfl, q'⟩ := q1.one
      cases dq_int q'
      obtain ⟨c1, c2⟩ := lim62_ok c
      exact ⟨j, rfl, c1, c2, h2 _ H1 F1 r1 g1 itr⟩) (fun _ _ _ k => k)⟩
theorem vi_range2 {ms : M (List D)} (hg : Gl X "range") (hm : X.mg "range" = none) (ha : VA X B Γ E [a, b] ms) (hs : starEach [a, b] X.env = [(false, eval a X.env), (false, eval b X.env)] := by rfl) (hs2 : starEach [b] X.env = [(false, eval b X.env)] := by rfl) :
    VI X B Γ E tg (.Call (.Name "range" p) [a, b] [] pos) (mRng rng2 ms) :=
  PI.imp (pi_range2 hg hm ha.pa hs hs2) fun σ H Q ⟨F, ρ, r, h⟩ => ⟨F, ρ, r, (Res.bind h).mono (fun ds ρ1 h1 v H1 F1 r1 g1 q1 => by
    obtain ⟨l, e, h2⟩ := Res.of h1
    match ds, e with
    | [.int i, .int j], e =>
      obtain ⟨c, rfl⟩ := ite_some e
      rw [Bool.and_eq_true] at c
      obtain ⟨w, w', rfl, q', q''⟩ := q1.two
      cases dq_int q'
      cases dq_int q''
      obtain ⟨c1, c2⟩ := lim62_ok c.1
      obtain ⟨c3, c4⟩ := lim62_ok c.2
      exact ⟨i, j, rfl, ⟨c1, c2, c3, c4⟩, h2 _ H1 F1 r1 g1 itr⟩) (fun _ _ _ k => k)⟩
/-- pairs of a new tuple each -/
theorem pair_new {K : PySem.W.Frag} {F' : Fz} {H' : Hp} {T : Addr} {x y : V} {d e : D} (t : Trk F' H') (n : H' T = none) (qx : Dq K F' H' x d) (qy : Dq K F' H' y e) : ∃ F'', Ext F' H' F'' (upd H' T (.tup [x, y])) ∧ DqB true K F'' (upd H' T (.tup [x, y])) (.ref T) (.tuple [d, e]) := by
  have ex := Ext.alloc (o := .tup [x, y]) t n
  exact ⟨_, ex, DqW.p upd_same (qx.grow (ex.grow t)) (qy.grow (ex.grow t))⟩
def enumL : Nat → List D → List D
  | _, [] => []
  | n, d :: ds => .tuple [.int (n : Nat), d] :: enumL (n + 1) ds
theorem enumL_get : ∀ {n : Nat} {ds : List D} {i : Nat} {d : D}, (enumL n ds)[i]? = some d → ∃ e, ds[i]? = some e ∧ d = .tuple [.int ((n + i : Nat) : Nat), e]
  | _, [], _, _, h => by simp [enumL] at h
  | n, x :: ds, 0, d, h => by
    simp [enumL] at h
    exact ⟨x, rfl, by rw [← h]; rfl⟩
  | n, x :: ds, i + 1, d, h => by
    obtain ⟨e, h1, h2⟩ := enumL_get (n := n + 1) (ds := ds) (i := i) (d := d) (by simpa [enumL] using h)
    refine ⟨e, by simpa using h1, ?_⟩
    rw [h2, show n + 1 + i = n + (i + 1) by omega]
theorem enumL_len : ∀ {n : Nat} {ds : List D}, (enumL n ds).length = ds.length
  | _, [] => rfl
  | n, _ :: ds => congrArg (· + 1) (enumL_len (n := n + 1) (ds := ds))
theorem ite {K : PySem.W.Frag} {F : Fz} {H : Hp} {a : Addr} {ds : List D} (q : Dq K F H (.ref a) (.list ds)) : ItV K true F H (Ite K a) (enumL 0 ds) := by
  refine ⟨fun i d F' H' g t hd => ?_, fun F' H' g t => ?_⟩
  · obtain ⟨b, xs, e, hs, qa⟩ := dq_sqL (q.grow g)
    cases e
    obtain ⟨e, h0, rfl⟩ := enumL_get hd
    obtain ⟨v, h1, h2⟩ := qa.get h0
    refine ⟨⟨xs, v, hs, h1⟩, fun x H'' y => ?_⟩
    obtain ⟨T, x, rfl, nT, rfl, y⟩ := y
    have := y xs hs
    rw [h1] at this
    cases this
    rw [Nat.zero_add]
    exact pair_new t nT (.int _) h2
  · obtain ⟨b, xs, e, hs, qa⟩ := dq_sqL (q.grow g)
    cases e
    exact ⟨xs, hs, by rw [qa.length, enumL_len]; exact Nat.le_refl _⟩
theorem iteT {K : PySem.W.Frag} {F : Fz} {H : Hp} {a : Addr} {ds : List D} (q : Dq K F H (.ref a) (.tuple ds)) : ItV K true F H (IteT K a) (enumL 0 ds) := by
  refine ⟨fun i d F' H' g t hd => ?_, fun F' H' g t => ?_⟩
  · obtain ⟨b, xs, e, hs, qa⟩ := dq_sqT (q.grow g)
    cases e
    obtain ⟨e, h0, rfl⟩ := enumL_get hd
    obtain ⟨v, h1, h2⟩ := qa.get h0
    refine ⟨⟨xs, v, hs, h1⟩, fun x H'' y => ?_⟩
    obtain ⟨T, x, rfl, nT, rfl, y⟩ := y
    have := y xs hs
    rw [h1] at this
    cases this
    rw [Nat.zero_add]
    exact pair_new t nT (.int _) h2
  · obtain ⟨b, xs, e, hs, qa⟩ := dq_sqT (q.grow g)
    cases e
    exact ⟨xs, hs, by rw [qa.length, enumL_len]; exact Nat.le_refl _⟩
def cEnum : List D → Option (List D)
  | [.list xs] => some (enumL 0 xs)
  | [.tuple xs] => some (enumL 0 xs)
  | _ => none
theorem vi_enum {ms : M (List D)} {elts : List Expr} {kk : Nat} {tpos : Pos} (hg : Gl X "enumerate") (hm : X.mg "enumerate" = none) (ha : VA X B Γ E [e] ms) (hs : starEach [e] X.env = [(false, eval e X.env)] := by rfl) : VI X B Γ E (.Tuple elts kk tpos) (.Call (.Name "enumerate" p) [e] [] pos) (mRng cEnum ms) :=
  PI.imp (pi_enumA hg hm ha.pa hs) fun σ H Q ⟨F, ρ, r, h⟩ => ⟨F, ρ, r, (Res.bind h).mono (fun ds ρ1 h1 v H1 F1 r1 g1 q1 => by
    obtain ⟨l, e, h2⟩ := Res.of h1
    match ds, e with
    | [.list xs], e =>
      cases e
      obtain ⟨w, rfl, q'⟩ := q1.one
      obtain ⟨a, ys, rfl, ha, qa⟩ := dq_sqL q'
      exact ⟨a, ys, rfl, .inl ⟨ha, h2 _ H1 F1 r1 g1 (ite q')⟩⟩
    | [.tuple xs], e =>
      cases e
      obtain ⟨w, rfl, q'⟩ := q1.one
      obtain ⟨a, ys, rfl, ha, qa⟩ := dq_sqT q'
      exact ⟨a, ys, rfl, .inr ⟨ha, h2 _ H1 F1 r1 g1 (iteT q')⟩⟩) (fun _ _ _ k => k)⟩
def zipL : List D → List D → List D
  | a :: as, b :: bs => .tuple [a, b] :: zipL as bs
  | _, _ => []
theorem zipL_get : ∀ {as bs : List D} {i : Nat} {d : D}, (zipL as bs)[i]? = some d → ∃ a b, as[i]? = some a ∧ bs[i]? = some b ∧ d = .tuple [a, b]
  | [], _, _, _, h => by simp [zipL] at h
  | _ :: _, [], _, _, h => by simp [zipL] at h
  | a :: as, b :: bs, 0, d, h => by
    simp [zipL] at h
    exact ⟨a, b, rfl, rfl, h.symm⟩
  | a :: as, b :: bs, i + 1, d, h => by
    obtain ⟨x, y, h1, h2, h3⟩ := zipL_get (as := as) (bs := bs) (i := i) (d := d) (by simpa [zipL] using h)
    exact ⟨x, y, by simpa using h1, by simpa using h2, h3⟩
theorem zipL_len : ∀ {as bs : List D}, as.length ≤ (zipL as bs).length ∨ bs.length ≤ (zipL as bs).length
  | [], _ => .inl (Nat.le_refl _)
  | _ :: _, [] => .inr (Nat.le_refl _)
  | a :: as, b :: bs => by
    rcases zipL_len (as := as) (bs := bs) with h | h
    · exact .inl (Nat.succ_le_succ h)
    · exact .inr (Nat.succ_le_succ h)
theorem itz {K : PySem.W.Frag} {F : Fz} {H : Hp} {a b : Addr} {ds es : List D} (q : Dq K F H (.ref a) (.list ds)) (q2 : Dq K F H (.ref b) (.list es)) : ItV K true F H (Itz K a b) (zipL ds es) := by
  refine ⟨fun i d F' H' g t hd => ?_, fun F' H' g t => ?_⟩
  · obtain ⟨_, xs, e, hs, qa⟩ := dq_sqL (q.grow g)
    cases e
    obtain ⟨_, ys, e, hs2, qb⟩ := dq_sqL (q2.grow g)
    cases e
    obtain ⟨u, w, h0, h00, rfl⟩ := zipL_get hd
    obtain ⟨v, h1, h2⟩ := qa.get h0
    obtain ⟨v', h1', h2'⟩ := qb.get h00
    refine ⟨⟨xs, ys, v, v', hs, hs2, h1, h1'⟩, fun x H'' y => ?_⟩
    obtain ⟨T, x, y, rfl, nT, rfl, y1, y2⟩ := y
    have z1 := y1 xs hs
    rw [h1] at z1
    cases z1
    have z2 := y2 ys hs2
    rw [h1'] at z2
    cases z2
    exact pair_new t nT h2 h2'
  · obtain ⟨_, xs, e, hs, qa⟩ := dq_sqL (q.grow g)
    cases e
    obtain ⟨_, ys, e, hs2, qb⟩ := dq_sqL (q2.grow g)
    cases e
    exact ⟨xs, ys, hs, hs2, by rw [qa.length, qb.length]; exact zipL_len⟩
theorem itzT {K : PySem.W.Frag} {F : Fz} {H : Hp} {a b : Addr} {ds es : List D} (q : Dq K F H (.ref a) (.tuple ds)) (q2 : Dq K F H (.ref b) (.tuple es)) : ItV K true F H (RZ.ItzT K a b) (zipL ds es) := by
  refine ⟨fun i d F' H' g t hd => ?_, fun F' H' g t => ?_⟩
  · obtain ⟨_, xs, e, hs, qa⟩ := dq_sqT (q.grow g)
    cases e
    obtain ⟨_, ys, e, hs2, qb⟩ := dq_sqT (q2.grow g)
    cases e
    obtain ⟨u, w, h0, h00, rfl⟩ := zipL_get hd
    obtain ⟨v, h1, h2⟩ := qa.get h0
    obtain ⟨v', h1', h2'⟩ := qb.get h00
    refine ⟨⟨xs, ys, v, v', hs, hs2, h1, h1'⟩, fun x H'' y => ?_⟩
    obtain ⟨T, x, y, rfl, nT, rfl, y1, y2⟩ := y
    have z1 := y1 xs hs
    rw [h1] at z1
    cases z1
    have z2 := y2 ys hs2
    rw [h1'] at z2
    cases z2
    exact pair_new t nT h2 h2'
  · obtain ⟨_, xs, e, hs, qa⟩ := dq_sqT (q.grow g)
    cases e
    obtain ⟨_, ys, e, hs2, qb⟩ := dq_sqT (q2.grow g)
    cases e
    exact ⟨xs, ys, hs, hs2, by rw [qa.length, qb.length]; exact zipL_len⟩
def cZip : List D → Option (List D)
  | [.list xs, .list ys] => some (zipL xs ys)
  | [.tuple xs, .tuple ys] => some (zipL xs ys)
  | _ => none
theorem vi_zip {ms : M (List D)} {elts : List Expr} {kk : Nat} {tpos : Pos} (hg : Gl X "zip") (hm : X.mg "zip" = none) (ha : VA X B Γ E [a, b] ms) (hs : starEach [a, b] X.env = (false, eval a X.env) :: starEach [b] X.env := by rfl) (hpl : (backTo pos (starEach [b] X.env)).any (·.1) = false := by rfl) :
    VI X B Γ E (.Tuple elts kk tpos) (.Call (.Name "zip" p) [a, b] [] pos) (mRng cZip ms) :=
  PI.imp (RZ.pi_zipA hg hm ha.pa hs hpl) fun σ H Q ⟨F, ρ, r, h⟩ => ⟨F, ρ, r, (Res.bind h).mono (fun ds ρ1 h1 v H1 F1 r1 g1 q1 => by
    obtain ⟨l, e, h2⟩ := Res.of h1
    match ds, e with
    | [.list xs, .list ys], e =>
      cases e
      obtain ⟨w, w', rfl, q', q''⟩ := q1.two
      obtain ⟨a, vs, rfl, ha, qa⟩ := dq_sqL q'
      obtain ⟨b, ws, rfl, hb, qb⟩ := dq_sqL q''
      exact ⟨a, b, vs, ws, rfl, .inl ⟨ha, hb, h2 _ H1 F1 r1 g1 (itz q' q'')⟩⟩
    | [.tuple xs, .tuple ys], e =>
      cases e
      obtain ⟨w, w', rfl, q', q''⟩ := q1.two
      obtain ⟨a, vs, rfl, ha, qa⟩ := dq_sqT q'
      obtain ⟨b, ws, rfl, hb, qb⟩ := dq_sqT q''
      exact ⟨a, b, vs, ws, rfl, .inr ⟨ha, hb, h2 _ H1 F1 r1 g1 (itzT q' q'')⟩⟩) (fun _ _ _ k => k)⟩
end

/-! ### for -/
def forL (t : Tg) (mb : M Fl) : List D → M Fl
  | [] => mNx
  | d :: ds => fun ρ => match bindT t d ρ with
    | none => .stuck
    | some ρ1 => (mb ρ1).bind fun p => match p.1 with
      | .nx => forL t mb ds p.2
      | .ct => forL t mb ds p.2
      | .bk => .ok (.nx, p.2)
      | .rt d => .ok (.rt d, p.2)
def mFor (t : Tg) (mi : M (List D)) (mb : M Fl) : M Fl := mi.bind fun ds => forL t mb ds
section
variable {X : Cx} {B : Eb} {G : Gd} {Ps O On Ol : List Nat} {E : Wish} {ro : Bool} {tg iter : Expr} {body : List Stmt} {t : Tg} {mi : M (List D)} {mb : M Fl} {pos : Pos}
theorem vs_for (hp : PassesOwn (model X.prog X.w) X.A X.env X.xe) (hc : X.calm = true) (hi : VI X B (G.w Ps O) E tg iter mi) (hg : VG X (G.w Ps O) tg t) (hb : VSs X B G Ps E ro O O O body mb) (hs : ∀ x, foldedSetIterable iter X.env x = pure x := by intro _; rfl) :
    VS X B G Ps E ro O O Ol (.For tg iter body [] pos) (mFor t mi mb) :=
  PS.imp (ps_for hp hc hi hg hb hs) fun N σ H ⟨F, ρ, r, h⟩ => ⟨F, ρ, r, (Res.bind h).mono (fun ds ρ1 h1 J H1 F1 r1 g1 it => by
    have g1' := g1.g r
    refine ⟨fun i n σ' H' => n = ds.length - i ∧ i ≤ ds.length ∧ ∃ F' ρ', Rel X.K (G.w Ps O) F' ρ' σ' H' ∧ Grow F1 H1 F' H' ∧ Res (forL t mb (ds.drop i) ρ') (kS X.K G Ps ro O Ol F1 H1 N) (KexS X.K B G Ps E F1 H1), ⟨ds.length, by simp, Nat.zero_le _, F1, ρ1, r1, .refl, ?_⟩, ?_⟩
    · rw [List.drop_zero]
      exact h1.mono (fun f ρ2 k => k.grow g1') (fun _ _ _ k => k.grow g1')
    · rintro i n σ' H' ⟨rfl, hi, F', ρ', r', g', h'⟩
      by_cases hlt : i < ds.length
      · have hd : ds[i]? = some ds[i] := List.getElem?_eq_getElem hlt
        obtain ⟨hgo, hy⟩ := it.go i ds[i] F' H' g' r'.trk hd
        refine .inr ⟨hgo, fun σ2 H2 => ∃ F2 ρ2, Rel X.K (G.w Ps O) F2 ρ2 σ2 H2 ∧ Grow F1 H1 F2 H2 ∧ Res (forL t mb (ds.drop (i + 1)) ρ2) (kS X.K G Ps ro O Ol F1 H1 N) (KexS X.K B G Ps E F1 H1), fun σ2 H2 hh => ?_, fun x H2 y => ?_⟩
        · obtain ⟨F2, ρ2, q1, q2, q3⟩ := hh
          exact ⟨ds.length - (i + 1), by omega, rfl, hlt, F2, ρ2, q1, q2, q3⟩
        · obtain ⟨F2, ex, q⟩ := hy x H2 y
          have r2 := r'.to ex
          have g2 : Grow F1 H1 F2 H2 := g'.trans (ex.grow r'.trk)
          rw [List.drop_eq_getElem_cons hlt] at h'
          cases eb : bindT t ds[i] ρ' with
          | none => simp only [forL, eb] at h'; exact h'.elim
          | some ρ2 =>
            simp only [forL, eb] at h'
            refine ⟨F2, ρ', ds[i], ρ2, r2, q, eb, fun σ3 r3 sb => ⟨F2, ρ2, r3, ?_⟩⟩
            cases em : mb ρ2 with
            | stuck => rw [em] at h'; exact h'.elim
            | exc c fs ρ3 => rw [em] at h'; exact KexS.grow h' g2
            | ok p =>
              obtain ⟨fl, ρ3⟩ := p
              rw [em] at h'
              cases fl with
              | nx => exact fun σ4 H4 F4 r4 g4 => ⟨F4, ρ3, r4, g2.trans g4, h'⟩
              | ct => exact fun σ4 H4 F4 r4 g4 => ⟨F4, ρ3, r4, g2.trans g4, h'⟩
              | bk => exact fun σ4 H4 F4 r4 g4 => h' σ4 H4 F4 r4 (g2.trans g4)
              | rt d => exact fun O' v σ4 H4 F4 r4 g4 q4 => h' O' v σ4 H4 F4 r4 (g2.trans g4) q4
      · have e : i = ds.length := by omega
        subst e
        rw [List.drop_length] at h'
        exact .inl ⟨it.stop F' H' g' r'.trk, h' σ' H' F' r' g'⟩) (fun _ _ _ k => k.ex r)⟩
end
end VL
end

section
set_option Elab.async false
set_option linter.all false
set_option maxRecDepth 100000
set_option maxHeartbeats 4000000
namespace VL
open PySem PySem.Spec PyProof.Rows L2
set_option autoImplicit false

/-! ### a comprehension -/
def wipeE (ρ : Env) : List Nat → Env
  | [] => ρ
  | v :: vs => (wipeE ρ vs).set v none
theorem wipeE_len (ρ : Env) : ∀ vs : List Nat, (wipeE ρ vs).length = ρ.length
  | [] => rfl
  | v :: vs => by unfold wipeE; rw [List.length_set, wipeE_len ρ vs]
theorem wipeE_out {ρ : Env} {i : Nat} : ∀ {vs : List Nat}, i ∉ vs → (wipeE ρ vs)[i]? = ρ[i]?
  | [], _ => rfl
  | v :: vs, h => by
    rw [List.mem_cons, not_or] at h
    unfold wipeE
    rw [List.getElem?_set_ne fun z => h.1 z.symm, wipeE_out h.2]
theorem wipeE_some {ρ : Env} {i : Nat} {d : D} : ∀ {vs : List Nat}, (wipeE ρ vs)[i]? = some (some d) → i ∉ vs
  | [], _, z => by cases z
  | v :: vs, h, z => by
    unfold wipeE at h
    by_cases c : v = i
    · subst c
      by_cases hl : v < (wipeE ρ vs).length
      · rw [List.getElem?_set_self hl] at h
        cases h
      · rw [List.getElem?_eq_none_iff.mpr (by rw [List.length_set]; omega)] at h
        cases h
    · rw [List.getElem?_set_ne c] at h
      rcases List.mem_cons.mp z with z | z
      · exact c z.symm
      · exact wipeE_some h z
/-- the slots vs as they stood in ρ, all else as in ρ' -/
def backE (ρ : Env) : List Nat → Env → Env
  | [], ρ' => ρ'
  | v :: vs, ρ' => (backE ρ vs ρ').set v ((ρ[v]?).getD none)
theorem backE_len (ρ : Env) : ∀ (vs : List Nat) (ρ' : Env), (backE ρ vs ρ').length = ρ'.length
  | [], _ => rfl
  | v :: vs, ρ' => by unfold backE; rw [List.length_set, backE_len ρ vs ρ']
theorem backE_out {ρ ρ' : Env} {i : Nat} : ∀ {vs : List Nat}, i ∉ vs → (backE ρ vs ρ')[i]? = ρ'[i]?
  | [], _ => rfl
  | v :: vs, h => by
    rw [List.mem_cons, not_or] at h
    unfold backE
    rw [List.getElem?_set_ne fun z => h.1 z.symm, backE_out h.2]
theorem backE_in {ρ ρ' : Env} {i : Nat} (hl : i < ρ'.length) : ∀ {vs : List Nat}, i ∈ vs → (backE ρ vs ρ')[i]? = some ((ρ[i]?).getD none)
  | [], h => by cases h
  | v :: vs, h => by
    unfold backE
    by_cases c : v = i
    · subst c
      rw [List.getElem?_set_self (by rw [backE_len]; exact hl)]
    · rw [List.getElem?_set_ne c]
      rcases List.mem_cons.mp h with z | z
      · exact absurd z.symm c
      · exact backE_in hl z
section
variable {K : PySem.W.Frag} {Γ : Gm} {F F' : Fz} {H H' : Hp} {ρ ρ' : Env} {σ σ' : St}
theorem Rel.wipe {vs : List Nat} (r : Rel K Γ F ρ σ H) (hv : ∀ i ∈ vs, i ∉ Γ.O) : Rel K Γ F (wipeE ρ vs) (L2.wipe σ vs) H := by
  have ov : ∀ i, i ∈ Γ.O → i ∉ vs := fun i hi z => hv i z hi
  refine ⟨by rw [wipeE_len, wipe_length]; exact r.len, r.trk, fun i d hi n => ?_, fun i d hi n => ?_, fun i j a d e hi hj h1 h2 h3 h4 => ?_, fun i a hi => ?_, r.ext, r.fro, r.frm, fun j hj v hs => ?_⟩
  · have nv := wipeE_some hi
    rw [wipeE_out nv] at hi
    obtain ⟨v, h1, h2⟩ := r.val i d hi n
    exact ⟨v, by rw [wipe_out nv]; exact h1, h2⟩
  · have nv := wipeE_some hi
    rw [wipeE_out nv] at hi
    obtain ⟨a, h1, h2⟩ := r.own i d hi n
    exact ⟨a, by rw [wipe_out nv]; exact h1, h2⟩
  · rw [wipeE_out (ov i hi)] at h1
    rw [wipeE_out (ov j hj)] at h2
    rw [wipe_out (ov i hi)] at h3
    rw [wipe_out (ov j hj)] at h4
    exact r.inj i j a d e hi hj h1 h2 h3 h4
  · obtain ⟨h1, h2, h3⟩ := r.pin i a hi
    exact ⟨h1, by rw [wipeE_out (ov i h1)]; exact h2, by rw [wipe_out (ov i h1)]; exact h3⟩
  · rw [wipe_out (ov j hj)] at hs
    rw [wipeE_out (ov j hj)]
    exact r.dom j hj v hs
/-- the block's end: its slots are as they were -/
theorem Rel.back {vs : List Nat} (r : Rel K Γ F ρ σ H) (hv : ∀ i ∈ vs, i ∉ Γ.O) (r' : Rel K Γ F' ρ' (L2.wipe σ vs) H') (g : Grow F H F' H') : Rel K Γ F' (backE ρ vs ρ') σ H' := by
  have ov : ∀ i, i ∈ Γ.O → i ∉ vs := fun i hi z => hv i z hi
  refine ⟨by rw [backE_len, r'.len, wipe_length], r'.trk, fun i d hi n => ?_, fun i d hi n => ?_, fun i j a d e hi hj h1 h2 h3 h4 => ?_, fun i a hi => ?_, r'.ext, r'.fro, r'.frm, fun j hj v hs => ?_⟩
  · by_cases c : i ∈ vs
    · have hl : i < ρ'.length := by
        obtain ⟨w, _⟩ := List.getElem?_eq_some_iff.mp hi
        rw [backE_len] at w; exact w
      rw [backE_in hl c] at hi
      have hi' : ρ[i]? = some (some d) := by
        cases e : ρ[i]? with
        | none => rw [e] at hi; cases hi
        | some o => rw [e] at hi; exact hi
      obtain ⟨v, h1, h2⟩ := r.val i d hi' n
      exact ⟨v, h1, h2.grow g⟩
    · rw [backE_out c] at hi
      obtain ⟨v, h1, h2⟩ := r'.val i d hi n
      exact ⟨v, by rw [wipe_out c] at h1; exact h1, h2⟩
  · have c := ov i n
    rw [backE_out c] at hi
    obtain ⟨a, h1, h2⟩ := r'.own i d hi n
    exact ⟨a, by rw [wipe_out c] at h1; exact h1, h2⟩
  · rw [backE_out (ov i hi)] at h1
    rw [backE_out (ov j hj)] at h2
    exact r'.inj i j a d e hi hj h1 h2 (by rw [wipe_out (ov i hi)]; exact h3) (by rw [wipe_out (ov j hj)]; exact h4)
  · obtain ⟨h1, h2, h3⟩ := r'.pin i a hi
    exact ⟨h1, by rw [backE_out (ov i h1)]; exact h2, by rw [wipe_out (ov i h1)] at h3; exact h3⟩
  · rw [backE_out (ov j hj)]
    exact r'.dom j hj v (by rw [wipe_out (ov j hj)]; exact hs)
/-- an object that no slot owns, not frozen, is changed -/
theorem Rel.foreign {a : Addr} {o : HO} (r : Rel K Γ F ρ σ H) (nt : ∀ xs, H a ≠ some (.tup xs)) (nf : ¬ F a) (no : ¬ Own Γ.O σ a) (h0 : Γ.H0 a = none) : Rel K Γ F ρ σ (upd H a o) := by
  have g : Grow F H F (upd H a o) := ⟨fun b hb => ⟨hb, upd_ne fun z => nf (z ▸ hb)⟩, fun b xs h => by rw [upd_ne fun z => nt xs (by rw [← z]; exact h)]; exact h⟩
  refine ⟨r.len, fun b hb => ?_, fun i d hi n => ?_, fun i d hi n => ?_, r.inj, r.pin, fun b u hb hp => ?_, r.fro, r.frm, r.dom⟩
  · obtain ⟨u, hu⟩ := r.trk b hb
    exact ⟨u, by rw [(g.1 b hb).2]; exact hu⟩
  · obtain ⟨v, h1, h2⟩ := r.val i d hi n
    exact ⟨v, h1, h2.grow g⟩
  · obtain ⟨b, h1, h2, h3, h4⟩ := r.own i d hi n
    exact ⟨b, h1, h2, h3.grow g (upd_ne fun z => no ⟨i, n, z ▸ h1⟩), h4⟩
  · rw [upd_ne fun z => by rw [z, h0] at hb; cases hb]
    exact r.ext b u hb hp
theorem Own.same {O S : List Nat} (h : SameBut S σ σ') (ho : ∀ i ∈ S, i ∉ O) {b : Addr} : Own O σ' b ↔ Own O σ b := by
  constructor
  · rintro ⟨j, hj, hs⟩
    exact ⟨j, hj, by rw [h.out j fun z => ho j z hj] at hs; exact hs⟩
  · rintro ⟨j, hj, hs⟩
    exact ⟨j, hj, by rw [h.out j fun z => ho j z hj]; exact hs⟩
theorem Own.wipe {O S : List Nat} (ho : ∀ i ∈ S, i ∉ O) {b : Addr} : Own O (L2.wipe σ S) b ↔ Own O σ b := by
  constructor
  · rintro ⟨j, hj, hs⟩
    exact ⟨j, hj, by rw [wipe_out fun z => ho j z hj] at hs; exact hs⟩
  · rintro ⟨j, hj, hs⟩
    exact ⟨j, hj, by rw [wipe_out fun z => ho j z hj]; exact hs⟩
theorem Kp.own {O : List Nat} (k : Kp O σ F H F' H') (e : ∀ b, Own O σ' b ↔ Own O σ b) : Kp O σ' F H F' H' := ⟨k.frz, fun b o h n => k.keep b o h fun z => n ((e b).mpr z)⟩
theorem wipe_in {i : Nat} (τ : St) : ∀ {vs : List Nat}, i ∈ vs → (L2.wipe τ vs)[i]? = if i < τ.length then some none else none
  | [], z => by cases z
  | v :: vs, z => by
    show ((L2.wipe τ vs).set v none)[i]? = _
    by_cases c : v = i
    · subst c
      by_cases hl : v < τ.length
      · rw [List.getElem?_set_self (by rw [wipe_length]; exact hl), if_pos hl]
      · rw [if_neg hl, List.getElem?_eq_none_iff.mpr (by rw [List.length_set, wipe_length]; omega)]
    · rw [List.getElem?_set_ne c]
      rcases List.mem_cons.mp z with z | z
      · exact absurd z.symm c
      · exact wipe_in τ z
theorem wipe_same {S vs : List Nat} (h : SameBut S σ σ') (hs : ∀ i ∈ S, i ∈ vs) : L2.wipe σ' vs = L2.wipe σ vs := by
  apply List.ext_getElem?
  intro i
  by_cases c : i ∈ vs
  · rw [wipe_in σ' c, wipe_in σ c, h.len]
  · rw [wipe_out c, wipe_out c, h.out i fun z => c (hs i z)]
theorem wipe_idem {vs : List Nat} : L2.wipe (L2.wipe σ vs) vs = L2.wipe σ vs := by
  apply List.ext_getElem?
  intro i
  by_cases c : i ∈ vs
  · rw [wipe_in _ c, wipe_in σ c, wipe_length]
  · rw [wipe_out c]
def R.sbind {α β : Type} : R α → (α → R β) → R β
  | .ok a, f => f a
  | _, _ => .stuck
end
def lcL (t : Tg) (own : List Nat) (mt : M Bool) (me : M D) : List D → List D → M (List D)
  | [], acc => M.pure acc
  | d :: ds, acc => fun ρ => match bindT t d ρ with
    | none => .stuck
    | some ρ1 => (mt ρ1).sbind fun q => if q.1 = true then (me q.2).sbind fun p => lcL t own mt me ds (acc ++ [p.1]) (wipeE p.2 own) else lcL t own mt me ds acc (wipeE q.2 own)
def mLc (t : Tg) (own : List Nat) (mi : M (List D)) (mt : M Bool) (me : M D) : M D := fun ρ => (mi ρ).bind fun p => if p.1.length ≤ sizeLine then (lcL t own mt me p.1 [] (wipeE p.2 own)).sbind fun q => .ok (.list q.1, backE p.2 own q.2) else .stuck
def VTs (X : Cx) (B : Eb) (Γ : Gm) (E : Wish) (ifs : List Expr) (m : M Bool) : Prop := PTs X ifs (tVt X.K B Γ E m)
abbrev E0w : Wish := fun _ => E0
section
variable {X : Cx} {B : Eb} {Γ : Gm} {E : Wish} {tg iter elt : Expr} {ifs : List Expr} {t : Tg} {mi : M (List D)} {mt : M Bool} {me : M D} {pos : Pos}
theorem PTs.imp {X : Cx} {e : List Expr} {t t' : TT} (h : PTs X e t) (i : ∀ σ H Q, t' σ H Q → t σ H Q) : PTs X e t' := ⟨fun pins s σ H Q I q => h.run pins s σ H Q I (i σ H Q q)⟩
theorem vts_nil : VTs X B Γ E [] (M.pure true) := PTs.imp pts_nil fun σ H Q ⟨F, ρ, r, h⟩ => h true H F r .refl rfl
theorem vts_one {c : Expr} (h : VT X B Γ E c mt) : VTs X B Γ E [c] mt := pts_one h
theorem tlc {w : Bool} {own : List (Str × Nat)} (hv : ∀ i ∈ own.map (·.2), i ∉ Γ.O) (ht : ∀ i ∈ t.slots, i ∈ own.map (·.2)) {σ : St} {H : Hp} {Q : VK} (h : tO X.K B Γ E (mLc t (own.map (·.2)) mi mt me) σ H Q) :
    tLc (tI X.K w B Γ E mi) (gT X.K w Γ t) (tVt X.K B Γ E0w mt) (tV X.K B Γ E0w me) (own.map (·.2)) σ H Q := by
  generalize own.map (·.2) = vs at hv ht h ⊢
  obtain ⟨F, ρ, r, h⟩ := h
  refine ⟨F, ρ, r, ?_⟩
  unfold mLc at h
  cases em : mi ρ with
  | stuck => rw [em] at h; exact h.elim
  | exc c fs ρ' => rw [em] at h; exact h
  | ok p =>
    obtain ⟨ds, ρ1⟩ := p
    rw [em] at h
    intro J H1 F1 r1 k1 it D hD
    simp only [R.bind] at h
    by_cases hz : ds.length ≤ sizeLine
    · rw [if_pos hz] at h
      have ovs : ∀ i ∈ t.slots, i ∉ Γ.O := fun i hi => hv i (ht i hi)
      have nD0 : Γ.H0 D = none := r1.h0 hD
      have noD : ¬ Own Γ.O σ D := r1.nownN hD
      have nfD : ¬ F1 D := r1.nf hD
      refine ⟨fun i n H' => n = ds.length - i ∧ i ≤ ds.length ∧ ∃ F' ρ' acc vacc, Rel X.K Γ F' ρ' (L2.wipe σ vs) H' ∧ Kp Γ.O σ F1 H1 F' H' ∧ ¬ F' D ∧ H' D = some (.lst vacc) ∧ DqAll X.K F' H' vacc acc ∧ acc.length ≤ i ∧
        Res (lcL t vs mt me (ds.drop i) acc ρ') (fun ys ρ2 => ∀ v H2 F2, Rel X.K Γ F2 (backE ρ1 vs ρ2) σ H2 → Kp Γ.O σ F H F2 H2 → Fresh X.K H F2 H2 v (.list ys) → Q v H2) (fun _ _ _ => False), ⟨ds.length, by simp, Nat.zero_le _, F1, wipeE ρ1 vs, [], [], ?_, (Ext.laid r1.trk hD).kp, nfD, upd_same, .nil, Nat.le_refl _, ?_⟩, ?_⟩
      · exact (r1.wipe hv).foreign (fun xs z => by rw [hD] at z; cases z) nfD (fun z => noD ((Own.wipe hv).mp z)) nD0
      · rw [List.drop_zero]
        cases el : lcL t vs mt me ds [] (wipeE ρ1 vs) with
        | stuck => rw [el] at h; exact h.elim
        | exc c fs ρ' => rw [el] at h; exact h.elim
        | ok q => rw [el] at h; exact h
      · rintro i n H' ⟨rfl, hi, F', ρ', acc, vacc, r', k', nF', hD', qa, hacc, h'⟩
        have g' : Grow F1 H1 F' H' := k'.g r1
        by_cases hlt : i < ds.length
        · have hd : ds[i]? = some ds[i] := List.getElem?_eq_getElem hlt
          obtain ⟨hgo, hy⟩ := it.go i ds[i] F' H' g' r'.trk hd
          refine .inr ⟨hgo, fun H2 => ∃ F2 ρ2 acc2 vacc2, Rel X.K Γ F2 ρ2 (L2.wipe σ vs) H2 ∧ Kp Γ.O σ F1 H1 F2 H2 ∧ ¬ F2 D ∧ H2 D = some (.lst vacc2) ∧ DqAll X.K F2 H2 vacc2 acc2 ∧ acc2.length ≤ i + 1 ∧
            Res (lcL t vs mt me (ds.drop (i + 1)) acc2 ρ2) (fun ys ρ2 => ∀ v H2 F2, Rel X.K Γ F2 (backE ρ1 vs ρ2) σ H2 → Kp Γ.O σ F H F2 H2 → Fresh X.K H F2 H2 v (.list ys) → Q v H2) (fun _ _ _ => False), fun H2 hh => ?_, fun x H2 y => ?_⟩
          · obtain ⟨F2, ρ2, acc2, vacc2, q⟩ := hh
            exact ⟨ds.length - (i + 1), by omega, rfl, hlt, F2, ρ2, acc2, vacc2, q⟩
          · obtain ⟨F2, ex, q⟩ := hy x H2 y
            have r2 := r'.to ex
            have k2 : Kp Γ.O σ F1 H1 F2 H2 := k'.trans ex.kp
            have hD2 : H2 D = some (.lst vacc) := ex.same D _ hD'
            have nF2 : ¬ F2 D := fun z => by
              rcases ex.new D z with z | z
              · exact nF' z
              · rw [hD'] at z; cases z
            have qa2 := qa.grow (ex.grow r'.trk)
            rw [List.drop_eq_getElem_cons hlt] at h'
            cases eb : bindT t ds[i] ρ' with
            | none => simp only [lcL, eb] at h'; exact h'.elim
            | some ρ2 =>
              simp only [lcL, eb] at h'
              refine ⟨F2, ρ', ds[i], ρ2, r2, q, eb, fun σ3 r3 sb => ?_⟩
              have w3 : L2.wipe σ3 vs = L2.wipe σ vs := (wipe_same sb ht).trans wipe_idem
              have own3 : ∀ b, Own Γ.O σ b ↔ Own Γ.O σ3 b := fun b => ((Own.same sb ovs).trans (Own.wipe hv)).symm
              refine ⟨w3, F2, ρ2, r3, ?_⟩
              cases et : mt ρ2 with
              | stuck => rw [et] at h'; exact h'.elim
              | exc c fs ρ3 => rw [et] at h'; exact h'.elim
              | ok p3 =>
                obtain ⟨tb, ρ3⟩ := p3
                rw [et] at h'
                intro v H3 F3 r4 k3 ev
                have ev' : v = tb := ev
                subst ev'
                have k3' : Kp Γ.O σ F1 H1 F3 H3 := k2.trans (k3.own own3)
                obtain ⟨hD3, fD3⟩ := k3.keep D _ hD2 fun z => noD ((own3 D).mpr z)
                have nF3 : ¬ F3 D := fun z => nF2 (fD3 z)
                have qa3 := qa2.grow (k3.g r3)
                cases v with
                | false =>
                  exact ⟨F3, wipeE ρ3 vs, acc, vacc, w3 ▸ r4.wipe hv, k3', nF3, hD3, qa3, Nat.le_succ_of_le hacc, h'⟩
                | true =>
                  refine ⟨F3, ρ3, r4, ?_⟩
                  simp only [R.sbind, if_true] at h'
                  cases ee : me ρ3 with
                  | stuck => rw [ee] at h'; exact h'.elim
                  | exc c fs ρ4 => rw [ee] at h'; exact h'.elim
                  | ok p4 =>
                    obtain ⟨d4, ρ4⟩ := p4
                    rw [ee] at h'
                    intro y4 H4 F4 r5 k4 q4
                    obtain ⟨hD4, fD4⟩ := k4.keep D _ hD3 fun z => noD ((own3 D).mpr z)
                    have nF4 : ¬ F4 D := fun z => nF3 (fD4 z)
                    have qa4 := qa3.grow (k4.g r4)
                    have gD : Grow F4 H4 F4 (upd H4 D (.lst (vacc ++ [y4]))) := .upd nF4 hD4 trivial
                    refine ⟨vacc, hD4, by rw [qa.length]; omega, F4, wipeE ρ4 vs, acc ++ [d4], vacc ++ [y4], ?_, ?_, nF4, upd_same, ?_, ?_, h'⟩
                    · exact (w3 ▸ r5.wipe hv : Rel X.K Γ F4 (wipeE ρ4 vs) (L2.wipe σ vs) H4).foreign (fun xs z => by rw [hD4] at z; cases z) nF4 (fun z => noD ((Own.wipe hv).mp z)) nD0
                    · have k5 : Kp Γ.O σ F1 H1 F4 H4 := k3'.trans (k4.own own3)
                      refine ⟨k5.frz, fun b o hb nb => ?_⟩
                      obtain ⟨z1, z2⟩ := k5.keep b o hb nb
                      exact ⟨by rw [upd_ne fun z => by rw [z, hD] at hb; cases hb]; exact z1, z2⟩
                    · exact (qa4.append (.cons q4 .nil)).grow gD
                    · rw [List.length_append]; exact Nat.succ_le_succ hacc
        · have e : i = ds.length := by omega
          subst e
          rw [List.drop_length] at h'
          refine .inl ⟨it.stop F' H' g' r'.trk, ?_⟩
          exact h' (.ref D) H' F' (r1.back hv r' g') (k1.trans k') ⟨D, rfl, .lst hD' qa, nF', k1.none0 r1 hD⟩
    · rw [if_neg hz] at h; exact h.elim
theorem vo_lc {G : Gd} {Ps O : List Nat} {scope : Scope} {own : List (Str × Nat)} (hc : X.calm = true) (hN : X.N.Nodup) (hi : VI X B (G.w Ps O) E tg iter mi) (ok : BlkOk X.N X.env.scope scope own)
    (hg : ∀ (s : Shared) (H : Hp) (C : Addr) (cl : List (Str × Addr)) (fp : List Addr), VG (X.blk s H scope (compEnvC scope cl C X.env) fp) (G.w Ps O) tg t)
    (ht : ∀ (s : Shared) (H : Hp) (C : Addr) (cl : List (Str × Addr)) (fp : List Addr), VTs (X.blk s H scope (compEnvC scope cl C X.env) fp) B (G.w Ps O) E0w ifs mt)
    (he : ∀ (s : Shared) (H : Hp) (C : Addr) (cl : List (Str × Addr)) (fp : List Addr), VE (X.blk s H scope (compEnvC scope cl C X.env) fp) B (G.w Ps O) E0w elt me)
    (hv : ∀ i ∈ own.map (·.2), i ∉ O := by decide) (hts : ∀ i ∈ t.slots, i ∈ own.map (·.2) := by decide) (hs : ∀ x, foldedSetIterable iter X.env x = pure x := by intro _; rfl) :
    VO X B (G.w Ps O) E (.ListComp elt [⟨tg, iter, ifs, 0⟩] scope pos) (mLc t (own.map (·.2)) mi mt me) :=
  PE.imp (pe_lc (g := gT X.K (isTup tg) (G.w Ps O) t) (tt := tVt X.K B (G.w Ps O) E0w mt) (te := tV X.K B (G.w Ps O) E0w me) hc hN hi ok hg ht he hs) fun σ H Q h => tlc hv hts h
end

/-! ### y = [.. for ..], stored within the comprehension -/
section
variable {X : Cx} {B : Eb} {G : Gd} {Ps O Ol : List Nat} {E : Wish} {ro : Bool} {tg iter elt : Expr} {ifs : List Expr} {t : Tg} {mi : M (List D)} {mt : M Bool} {me : M D} {pos spos py : Pos}
theorem vs_setLcO {i : Nat} {y : Str} {scope : Scope} {own : List (Str × Nat)} (hc : X.calm = true) (hN : X.N.Nodup) (hy : X.N[i]? = some y) (hyl : X.env.scope.names.lookup y = some .local) (hsw : swapsWith (.ListComp elt [⟨tg, iter, ifs, 0⟩] scope pos) (some (.Name y py)) spos.line X.env = pure true)
    (hi : VI X B (G.w Ps O) E tg iter mi) (ok : BlkOk X.N X.env.scope scope own)
    (hg : ∀ (s : Shared) (H : Hp) (C : Addr) (cl : List (Str × Addr)) (fp : List Addr), VG (X.blk s H scope (compEnvC scope cl C X.env) fp) (G.w Ps O) tg t)
    (ht : ∀ (s : Shared) (H : Hp) (C : Addr) (cl : List (Str × Addr)) (fp : List Addr), VTs (X.blk s H scope (compEnvC scope cl C X.env) fp) B (G.w Ps O) E0w ifs mt)
    (he : ∀ (s : Shared) (H : Hp) (C : Addr) (cl : List (Str × Addr)) (fp : List Addr), VE (X.blk s H scope (compEnvC scope cl C X.env) fp) B (G.w Ps O) E0w elt me)
    (hp : i ∉ Ps := by decide) (hv : ∀ i ∈ own.map (·.2), i ∉ O := by decide) (hts : ∀ i ∈ t.slots, i ∈ own.map (·.2) := by decide) (hs : ∀ x, foldedSetIterable iter X.env x = pure x := by intro _; rfl) :
    VS X B G Ps E ro O (i :: O) Ol (.Assign [.Name y py] (.ListComp elt [⟨tg, iter, ifs, 0⟩] scope pos) spos) (mSet i (mLc t (own.map (·.2)) mi mt me)) :=
  PS.imp (ps_setLc (g := gT X.K (isTup tg) (G.w Ps O) t) (tt := tVt X.K B (G.w Ps O) E0w mt) (te := tV X.K B (G.w Ps O) E0w me) hc hN hy hyl hsw hi ok hg ht he hs) fun N σ H ⟨F, ρ, r, h⟩ => tlc (X := X) (E := E) (Γ := G.w Ps O) hv hts ⟨F, ρ, r, (Res.bind h).mono (fun d ρ1 h1 v H1 F1 r1 g1 q1 => by
    obtain ⟨a, rfl, oa, nf, hn⟩ := q1
    exact h1 _ H1 F1 (r1.setO oa nf (r.h0 hn) (r.nownN hn) (notpin hp)) (g1.g r)) (fun _ _ _ k => k.ex r)⟩
end
end VL
end

section
set_option Elab.async false
set_option linter.all false
set_option maxRecDepth 100000
set_option maxHeartbeats 4000000
namespace VL
open PySem PySem.Spec PyProof.Rows L2
set_option autoImplicit false

/-! ### a list of one's own is changed -/
section
variable {K : PySem.W.Frag} {Γ : Gm} {F : Fz} {H : Hp} {ρ : Env} {σ : St}
theorem Rel.mut {i : Nat} {a : Addr} {o : HO} {d d' : D} (r : Rel K Γ F ρ σ H) (hi : i ∈ Γ.O) (hd : ρ[i]? = some (some d)) (hs : σ[i]? = some (some (.ref a))) (nf : ¬ F a) (q : OwnAt K F (upd H a o) a d') :
    Rel K Γ F (ρ.set i (some d')) σ (upd H a o) ∧ Kp Γ.O σ F H F (upd H a o) := by
  have fr : Frm [a] F H F (upd H a o) := ⟨fun b u hb nb => by rw [upd_ne fun z => nb (by rw [z]; exact List.mem_cons_self ..)]; exact hb, fun b h => h, fun b h => .inl h, fun b h => by
    obtain ⟨u, hu⟩ := r.trk b h
    exact ⟨u, by rw [upd_ne (show b ≠ a from fun z => nf (z ▸ h))]; exact hu⟩⟩
  have := r.after (T := [(i, a, d')]) Kp.refl fr (fun b hb xs z => by
    obtain rfl : b = a := by simpa using hb
    obtain ⟨c, h1, _, oa, _⟩ := r.own i d hd hi
    rw [hs] at h1
    cases h1
    exact oa.ntup xs z) (by simp) (fun j b e hm => by
    rcases List.mem_cons.mp hm with z | z
    · cases z
      exact ⟨hi, hs, q, nf, d, hd⟩
    · cases z) (fun b hb => by
    rcases List.mem_cons.mp hb with z | z
    · subst z
      exact .inl ⟨i, d', List.mem_cons_self ..⟩
    · cases z)
  exact this
end
section
variable {X : Cx} {B : Eb} {G : Gd} {Ps O Ol O1 : List Nat} {E : Wish} {ro : Bool} {e ix : Expr} {me mi : M D} {pos apos cpos px : Pos}
/-- the list in slot i -/
def lstAt (ρ : Env) (i : Nat) : Option (List D) := match ρ[i]? with
  | some (some (.list ds)) => some ds
  | _ => none
theorem lstAt_some {ρ : Env} {i : Nat} {ds : List D} (h : lstAt ρ i = some ds) : ρ[i]? = some (some (.list ds)) := by
  unfold lstAt at h
  split at h
  · next e => rw [e, Option.some.inj h]
  · cases h
theorem own_lst {K : PySem.W.Frag} {Γ : Gm} {F : Fz} {H : Hp} {ρ : Env} {σ : St} {i : Nat} {ds : List D} (r : Rel K Γ F ρ σ H) (hi : i ∈ Γ.O) (h : lstAt ρ i = some ds) : ∃ a xs, σ[i]? = some (some (.ref a)) ∧ ¬ F a ∧ H a = some (.lst xs) ∧ DqAll K F H xs ds := by
  obtain ⟨a, h1, h2, h3, _⟩ := r.own i _ (lstAt_some h) hi
  cases h3 with
  | lst q qa => exact ⟨a, _, h1, h2, q, qa⟩
def mApp (i : Nat) (me : M D) : M D := fun ρ => match lstAt ρ i with
  | none => .stuck
  | some _ => (me ρ).bind fun p => match lstAt p.2 i with
    | none => .stuck
    | some ds => if ds.length < sizeLine then .ok (.none, p.2.set i (some (.list (ds ++ [p.1])))) else .stuck
theorem ve_append {i : Nat} {x : Str} (he : VE X B (G.w Ps O) E e me) (hi : i ∈ O := by decide) (hN : X.N[i]? = some x := by rfl) (hv : Vis X.env.scope x := by first | exact Or.inl rfl | exact Or.inr (Or.inl rfl) | exact Or.inr (Or.inr rfl)) (hd : (x == ("__debug__" : Str)) = false := by decide) (hcd : (x == ("__classdict__" : Str)) = false := by decide)
    (hbase : attributeBase (.Name x px) "append" X.env (eval (.Name x px) X.env) = eval (.Name x px) X.env := by rfl)
    (hfew : ((backTo cpos (starEach [e] X.env)).all (fun x => !x.1) && (backToKw cpos (keywordEach [] X.env)).all (fun x => x.1.isSome) && decide ([e].length + ([] : List Keyword).length + (if ([] : List Keyword).isEmpty then 0 else 1) < 30)) = true := by rfl)
    (hline : (apos.endLine == cpos.line) = true := by rfl) (hs : starEach [e] X.env = (false, eval e X.env) :: starEach [] X.env := by rfl) (hplain : (backTo cpos (starEach [] X.env)).any (·.1) = false := by rfl) :
    VE X B (G.w Ps O) E (.Call (.Attribute (.Name x px) "append" apos) [e] [] cpos) (mApp i me) :=
  PE.imp (pe_bm PySem.F.plainAttrs_list PySem.F.slot_list_append PySem.F.type_list_append mt_append (pe_var hN hv hd hcd) (pa_cons he pa_nil hs) hbase hfew hline hs hplain) fun σ H Q ⟨F, ρ, r, h⟩ => by
    unfold mApp at h
    cases e1 : lstAt ρ i with
    | none => rw [e1] at h; exact h.elim
    | some ds0 =>
      rw [e1] at h
      obtain ⟨a, xs, h1, h2, h3, h4⟩ := own_lst r hi e1
      refine ⟨.ref a, h1, .inl ⟨rfl, xs, .inl (.inl h3)⟩, F, ρ, r, ?_⟩
      cases e2 : me ρ with
      | stuck => rw [e2] at h; exact h.elim
      | exc c fs ρ' => rw [e2] at h; exact h
      | ok p =>
        obtain ⟨d, ρ1⟩ := p
        rw [e2] at h
        intro v H1 F1 r1 k1 q1
        cases e3 : lstAt ρ1 i with
        | none => simp only [R.bind, e3] at h; exact h.elim
        | some ds =>
          simp only [R.bind, e3] at h
          by_cases c : ds.length < sizeLine
          · rw [if_pos c] at h
            obtain ⟨b, ys, g1, g2, g3, g4⟩ := own_lst r1 hi e3
            rw [h1] at g1; cases g1
            refine ⟨a, ys, v, rfl, rfl, g3, by rw [g4.length]; exact c, ?_⟩
            have gr : Grow F1 H1 F1 (upd H1 a (.lst (ys ++ [v]))) := .upd g2 g3 trivial
            obtain ⟨r2, k2⟩ := r1.mut (d' := .list (ds ++ [d])) hi (lstAt_some e3) h1 g2 (.lst upd_same ((g4.append (.cons q1 .nil)).grow gr))
            exact h .non _ F1 r2 (k1.trans k2) .non
          · rw [if_neg c] at h; exact h.elim
def mPopAt (i : Nat) (me : M D) : M D := fun ρ => match lstAt ρ i with
  | none => .stuck
  | some _ => (me ρ).bind fun p => match p.1, lstAt p.2 i with
    | .int k, some ds => if -(2 ^ 63) ≤ k ∧ k < 2 ^ 63 then match seqIndex? k ds.length with
      | some j => match ds[j]? with
        | some d => .ok (d, p.2.set i (some (.list (ds.eraseIdx j))))
        | none => .stuck
      | none => .stuck else .stuck
    | _, _ => .stuck
theorem ve_popAt {i : Nat} {x : Str} (he : VE X B (G.w Ps O) E e me) (hi : i ∈ O := by decide) (hN : X.N[i]? = some x := by rfl) (hv : Vis X.env.scope x := by first | exact Or.inl rfl | exact Or.inr (Or.inl rfl) | exact Or.inr (Or.inr rfl)) (hd : (x == ("__debug__" : Str)) = false := by decide) (hcd : (x == ("__classdict__" : Str)) = false := by decide)
    (hbase : attributeBase (.Name x px) "pop" X.env (eval (.Name x px) X.env) = eval (.Name x px) X.env := by rfl)
    (hfew : ((backTo cpos (starEach [e] X.env)).all (fun x => !x.1) && (backToKw cpos (keywordEach [] X.env)).all (fun x => x.1.isSome) && decide ([e].length + ([] : List Keyword).length + (if ([] : List Keyword).isEmpty then 0 else 1) < 30)) = true := by rfl)
    (hline : (apos.endLine == cpos.line) = true := by rfl) (hs : starEach [e] X.env = (false, eval e X.env) :: starEach [] X.env := by rfl) (hplain : (backTo cpos (starEach [] X.env)).any (·.1) = false := by rfl) :
    VE X B (G.w Ps O) E (.Call (.Attribute (.Name x px) "pop" apos) [e] [] cpos) (mPopAt i me) :=
  PE.imp (pe_bm PySem.F.plainAttrs_list PySem.F.slot_list_pop PySem.F.type_list_pop mt_popAt (pe_var hN hv hd hcd) (pa_cons he pa_nil hs) hbase hfew hline hs hplain) fun σ H Q ⟨F, ρ, r, h⟩ => by
    unfold mPopAt at h
    cases e1 : lstAt ρ i with
    | none => rw [e1] at h; exact h.elim
    | some ds0 =>
      rw [e1] at h
      obtain ⟨a, xs, h1, h2, h3, h4⟩ := own_lst r hi e1
      refine ⟨.ref a, h1, .inl ⟨rfl, xs, .inl (.inl h3)⟩, F, ρ, r, ?_⟩
      cases e2 : me ρ with
      | stuck => rw [e2] at h; exact h.elim
      | exc c fs ρ' => rw [e2] at h; exact h
      | ok p =>
        obtain ⟨d, ρ1⟩ := p
        rw [e2] at h
        intro v H1 F1 r1 k1 q1
        cases d with
        | int k =>
          cases e3 : lstAt ρ1 i with
          | none => simp only [R.bind, e3] at h; exact h.elim
          | some ds =>
            simp only [R.bind, e3] at h
            by_cases c : -(2 ^ 63) ≤ k ∧ k < 2 ^ 63
            · rw [if_pos c] at h
              cases e4 : seqIndex? k ds.length with
              | none => simp only [e4] at h; exact h.elim
              | some j =>
                simp only [e4] at h
                cases e5 : ds[j]? with
                | none => simp only [e5] at h; exact h.elim
                | some y =>
                  simp only [e5] at h
                  obtain ⟨b, ys, g1, g2, g3, g4⟩ := own_lst r1 hi e3
                  rw [h1] at g1; cases g1
                  obtain ⟨w, w1, w2⟩ := g4.get e5
                  cases dq_int q1
                  refine ⟨a, ys, k, j, w, rfl, rfl, g3, c.1, c.2, by rw [g4.length]; exact e4, w1, ?_⟩
                  have gr : Grow F1 H1 F1 (upd H1 a (.lst (ys.eraseIdx j))) := .upd g2 g3 trivial
                  obtain ⟨r2, k2⟩ := r1.mut (d' := .list (ds.eraseIdx j)) hi (lstAt_some e3) h1 g2 (.lst upd_same ((g4.erase j).grow gr))
                  exact h w _ F1 r2 (k1.trans k2) (w2.grow gr)
            · rw [if_neg c] at h; exact h.elim
        | _ => cases e3 : lstAt ρ1 i <;> (simp only [R.bind, e3] at h; exact h.elim)
/-- x[i] of one's own -/
def mIxO (i : Nat) (mi : M D) : M D := fun ρ => match lstAt ρ i with
  | none => .stuck
  | some _ => (mi ρ).bind fun p => match p.1, lstAt p.2 i with
    | .int k, some ds => match atI ds k with
      | some d => .ok (d, p.2)
      | none => .stuck
    | _, _ => .stuck
theorem ve_ixO {i : Nat} {x : Str} (he : VE X B (G.w Ps O) E ix mi) (hp : PlainIx ix) (hi : i ∈ O := by decide) (hN : X.N[i]? = some x := by rfl) (hv : Vis X.env.scope x := by first | exact Or.inl rfl | exact Or.inr (Or.inl rfl) | exact Or.inr (Or.inr rfl)) (hd : (x == ("__debug__" : Str)) = false := by decide) (hcd : (x == ("__classdict__" : Str)) = false := by decide) :
    VE X B (G.w Ps O) E (.Subscript (.Name x px) ix pos) (mIxO i mi) :=
  PE.imp (pe_ix ix_list (pe_var hN hv hd hcd) he hp) fun σ H Q ⟨F, ρ, r, h⟩ => by
    unfold mIxO at h
    cases e1 : lstAt ρ i with
    | none => rw [e1] at h; exact h.elim
    | some ds0 =>
      rw [e1] at h
      obtain ⟨a, xs, h1, h2, h3, h4⟩ := own_lst r hi e1
      refine ⟨.ref a, h1, F, ρ, r, ?_⟩
      cases e2 : mi ρ with
      | stuck => rw [e2] at h; exact h.elim
      | exc c fs ρ' => rw [e2] at h; exact h
      | ok p =>
        obtain ⟨d, ρ1⟩ := p
        rw [e2] at h
        intro v H1 F1 r1 k1 q1
        cases d with
        | int k =>
          cases e3 : lstAt ρ1 i with
          | none => simp only [R.bind, e3] at h; exact h.elim
          | some ds =>
            simp only [R.bind, e3] at h
            cases e4 : atI ds k with
            | none => simp only [e4] at h; exact h.elim
            | some y =>
              simp only [e4] at h
              obtain ⟨b, ys, g1, g2, g3, g4⟩ := own_lst r1 hi e3
              rw [h1] at g1; cases g1
              obtain ⟨w, w1, w2⟩ := g4.at e4
              cases dq_int q1
              exact ⟨a, ys, k, w, rfl, rfl, .inl (.inl g3), w1, h w H1 F1 r1 k1 w2⟩
        | _ => cases e3 : lstAt ρ1 i <;> (simp only [R.bind, e3] at h; exact h.elim)
/-- x[i] = e of one's own -/
def mSetIx (i : Nat) (me mi : M D) : M Fl := fun ρ => (me ρ).bind fun p => match lstAt p.2 i with
  | none => .stuck
  | some _ => (mi p.2).bind fun q => match q.1, lstAt q.2 i with
    | .int k, some ds => match ixN ds.length k with
      | some j => .ok (.nx, q.2.set i (some (.list (ds.set j p.1))))
      | none => .stuck
    | _, _ => .stuck
theorem vs_setIx {i : Nat} {x : Str} {p2 : Pos} (he : VE X B (G.w Ps O) E e me) (hx : VE X B (G.w Ps O) E ix mi) (hi : i ∈ O := by decide) (hN : X.N[i]? = some x := by rfl) (hv : Vis X.env.scope x := by first | exact Or.inl rfl | exact Or.inr (Or.inl rfl) | exact Or.inr (Or.inr rfl)) (hd : (x == ("__debug__" : Str)) = false := by decide) (hcd : (x == ("__classdict__" : Str)) = false := by decide)
    (ha : ∀ v, assign (.Subscript (.Name x px) ix p2) X.env v = (do
      let ov ← holding [v] (eval (.Name x px) X.env)
      let iv ← holding [v, ov] (eval ix X.env)
      standAt p2
      holding [v, ov, iv] (setItem ov iv v)
      release [v, ov, iv] []) := by intro _; rfl)
    (hs : swapsWithSole [.Subscript (.Name x px) ix p2] e pos.line X.env = pure false := by rfl) (hw : swappedStores [.Subscript (.Name x px) ix p2] e X.env = pure none := by rfl) :
    VS X B G Ps E ro O O Ol (.Assign [.Subscript (.Name x px) ix p2] e pos) (mSetIx i me mi) :=
  PS.imp (ps_asg he (pg_sub (pe_var hN hv hd hcd) hx set_list ha) hs hw) fun N σ H ⟨F, ρ, r, h⟩ => by
    refine ⟨F, ρ, r, ?_⟩
    unfold mSetIx at h
    cases e2 : me ρ with
    | stuck => rw [e2] at h; exact h.elim
    | exc c fs ρ' => rw [e2] at h; exact KexS.ex h r
    | ok p =>
      obtain ⟨d, ρ1⟩ := p
      rw [e2] at h
      intro v H1 F1 r1 k1 q1
      cases e1 : lstAt ρ1 i with
      | none => simp only [R.bind, e1] at h; exact h.elim
      | some ds0 =>
        simp only [R.bind, e1] at h
        obtain ⟨a, xs, h1, h2, h3, h4⟩ := own_lst r1 hi e1
        refine ⟨.ref a, h1, F1, ρ1, r1, ?_⟩
        cases e5 : mi ρ1 with
        | stuck => rw [e5] at h; exact h.elim
        | exc c fs ρ' => rw [e5] at h; exact KexS.ex (KexS.grow h (k1.g r)) r1
        | ok p2 =>
          obtain ⟨d2, ρ2⟩ := p2
          rw [e5] at h
          intro w H2 F2 r2 k2 q2
          cases d2 with
          | int k =>
            cases e3 : lstAt ρ2 i with
            | none => simp only [e3] at h; exact h.elim
            | some ds =>
              simp only [e3] at h
              cases e4 : ixN ds.length k with
              | none => simp only [e4] at h; exact h.elim
              | some j =>
                simp only [e4] at h
                obtain ⟨b, ys, g1, g2, g3, g4⟩ := own_lst r2 hi e3
                rw [h1] at g1; cases g1
                cases dq_int q2
                refine ⟨a, ys, k, j, rfl, rfl, g3, by rw [g4.length]; exact e4, ?_⟩
                have gr : Grow F2 H2 F2 (upd H2 a (.lst (ys.set j v))) := .upd g2 g3 trivial
                obtain ⟨r3, k3⟩ := r2.mut (d' := .list (ds.set j d)) hi (lstAt_some e3) h1 g2 (.lst upd_same ((g4.set (q1.grow (k2.g r1)) j).grow gr))
                exact h σ _ F2 r3 (((k1.g r).trans (k2.g r1)).trans gr)
          | _ => cases e3 : lstAt ρ2 i <;> (simp only [e3] at h; exact h.elim)
/-- len of one's own -/
def mLenO (i : Nat) : M D := fun ρ => match lstAt ρ i with
  | some ds => .ok (.int ds.length, ρ)
  | none => .stuck
theorem ve_lenO {i : Nat} {x : Str} (hg : Gl X "len") (hm : X.mg "len" = none) (hi : i ∈ O := by decide) (hN : X.N[i]? = some x := by rfl) (hv : Vis X.env.scope x := by first | exact Or.inl rfl | exact Or.inr (Or.inl rfl) | exact Or.inr (Or.inr rfl)) (hd : (x == ("__debug__" : Str)) = false := by decide) (hcd : (x == ("__classdict__" : Str)) = false := by decide)
    (he : starEach [.Name x px] X.env = (false, eval (.Name x px) X.env) :: starEach [] X.env := by rfl) (hpl : (backTo pos (starEach [] X.env)).any (·.1) = false := by rfl) : VE X B (G.w Ps O) E (.Call (.Name "len" apos) [.Name x px] [] pos) (mLenO i) :=
  PE.imp (pe_callB call_len_seq hg hm PySem.boot_len (pa_cons (pe_var hN hv hd hcd) pa_nil he) (by decide) (by decide) he hpl) fun σ H Q ⟨F, ρ, r, h⟩ => by
    unfold mLenO at h
    cases e1 : lstAt ρ i with
    | none => rw [e1] at h; exact h.elim
    | some ds =>
      rw [e1] at h
      obtain ⟨a, xs, h1, h2, h3, h4⟩ := own_lst r hi e1
      refine ⟨.ref a, h1, a, xs, rfl, .inl (.inl (.inl h3)), ?_⟩
      rw [h4.length]
      exact h _ H F r .refl (.int _)
/-- name op= e, ints -/
def mAug (g : Int → Int → Int) (i : Nat) (me : M D) : M Fl := fun ρ => match ρ[i]? with
  | some (some (.int k)) => (me ρ).bind fun p => match p.1 with
    | .int j => .ok (.nx, p.2.set i (some (.int (g k j))))
    | _ => .stuck
  | _ => .stuck
theorem vs_aug {i : Nat} {x : Str} {op : Operator} {g : Int → Int → Int} (hO : delO i O = O) (hN : X.N.Nodup) (hn : X.N[i]? = some x) (hx : Loc X.env.scope x) (he : VE X B (G.w Ps O) E e me) (ho : PIp X op (ipI g)) (hni : i ∉ O := by decide) (hp : i ∉ Ps := by decide)
    (hf : X.fn x = true ∨ X.env.scope.names.lookup x = some .local := by first | exact .inl rfl | exact .inr rfl) : VS X B G Ps E ro O O Ol (.AugAssign (.Name x px) op e pos) (mAug g i me) :=
  PS.imp (ps_aug hN hn hx he ho hf) fun N σ H ⟨F, ρ, r, h⟩ => by
    unfold mAug at h
    cases e1 : ρ[i]? with
    | none => rw [e1] at h; exact h.elim
    | some o =>
      cases o with
      | none => rw [e1] at h; exact h.elim
      | some d0 =>
        cases d0 with
        | int k =>
          rw [e1] at h
          obtain ⟨v0, h1, h2⟩ := r.val i _ e1 hni
          cases dq_int h2
          refine ⟨.int k, h1, F, ρ, r, ?_⟩
          cases e2 : me ρ with
          | stuck => rw [e2] at h; exact h.elim
          | exc c fs ρ' => rw [e2] at h; exact KexS.ex h r
          | ok p =>
            obtain ⟨d, ρ1⟩ := p
            rw [e2] at h
            intro v H1 F1 r1 k1 q1
            cases d with
            | int j =>
              cases dq_int q1
              refine ⟨k, j, rfl, rfl, ?_⟩
              have r2 := r1.setD (d := .int (g k j)) (.int _) (notpin hp)
              have e3 : ({ (G.w Ps O) with O := (G.w Ps O).O.filter (fun j => decide (j ≠ i)) } : Gm) = G.w Ps O := by
                show Gd.w G Ps (delO i O) = _
                rw [hO]
              rw [e3] at r2
              exact h _ H1 F1 r2 (k1.g r)
            | _ => exact h.elim
        | _ => rw [e1] at h; exact h.elim
end
end VL
end

section
set_option Elab.async false
set_option linter.all false
set_option maxRecDepth 100000
set_option maxHeartbeats 4000000
namespace VL
open PySem PySem.Spec PyProof.Rows L2
set_option autoImplicit false

/-! ### a, b = x, y -/
def newO : Sl → Nat → List Nat → List Nat
  | .tmp, i, O => i :: O
  | _, i, O => delO i O
section
variable {X : Cx} {B : Eb} {G : Gd} {Ps O Ol O1 O2 O3 : List Nat} {E : Wish} {ro : Bool} {a b c e tg : Expr} {m : M (List D)} {me : M D} {pos : Pos}
/-- one value of such a row -/
inductive Held1 (K : PySem.W.Frag) (F : Fz) (H Hs : Hp) : Sl → V → D → Prop
  | dat {v : V} {d : D} : Dq K F H v d → Held1 K F H Hs .dat v d
  | tmp {a : Addr} {d : D} : OwnAt K F H a d → ¬ F a → Hs a = none → Held1 K F H Hs .tmp (.ref a) d
theorem Held1.set {K : PySem.W.Frag} {F : Fz} {H Hs : Hp} {s : Sl} {v : V} {d : D} {ρ : Env} {σ : St} {i : Nat} (h : Held1 K F H Hs s v d) (r : Rel K (G.w Ps O) F ρ σ H) (h0 : ∀ a, Hs a = none → G.H0 a = none) (no : s = .tmp → ∀ a, v = .ref a → Hs a = none → ¬ Own O σ a) (hp : i ∉ Ps) :
    Rel K (G.w Ps (newO s i O)) F (ρ.set i (some d)) (σ.set i (some v)) H := by
  cases h with
  | dat q => exact r.setD q (notpin hp)
  | tmp oa nf hn => exact r.setO oa nf (h0 _ hn) (no rfl _ rfl hn) (notpin hp)
def mPar (is : List Nat) (m : M (List D)) : M Fl := m.bind fun ds ρ => match is, ds with
  | [i, j], [d1, d2] => .ok (.nx, (ρ.set i (some d1)).set j (some d2))
  | [i, j, k], [d1, d2, d3] => .ok (.nx, ((ρ.set i (some d1)).set j (some d2)).set k (some d3))
  | _, _ => .stuck
theorem own_set {O : List Nat} {σ : St} {i : Nat} {v : V} {b : Addr} {s : Sl} (n : ¬ Own O σ b) (hv : s = .tmp → v ≠ .ref b) : ¬ Own (newO s i O) (σ.set i (some v)) b := fun ⟨j, hj, hs⟩ => by
  cases s with
  | tmp =>
    by_cases c : i = j
    · subst c
      have hl : i < σ.length := by
        obtain ⟨w, _⟩ := List.getElem?_eq_some_iff.mp hs
        rw [List.length_set] at w; exact w
      rw [List.getElem?_set_self hl] at hs
      cases hs
      exact hv rfl rfl
    · rw [List.getElem?_set_ne c] at hs
      rcases List.mem_cons.mp (show j ∈ i :: O from hj) with z | z
      · exact c z.symm
      · exact n ⟨j, z, hs⟩
  | dat =>
    obtain ⟨h1, h2⟩ := List.mem_filter.mp (show j ∈ O.filter _ from hj)
    rw [List.getElem?_set_ne fun z => (of_decide_eq_true h2) z.symm] at hs
    exact n ⟨j, h1, hs⟩
  | slot k =>
    obtain ⟨h1, h2⟩ := List.mem_filter.mp (show j ∈ O.filter _ from hj)
    rw [List.getElem?_set_ne fun z => (of_decide_eq_true h2) z.symm] at hs
    exact n ⟨j, h1, hs⟩
theorem held2 {K : PySem.W.Frag} {F : Fz} {H Hs : Hp} {σ : St} {s1 s2 : Sl} {vs : List V} {ds : List D} (n1 : ∀ j, s1 ≠ .slot j) (n2 : ∀ j, s2 ≠ .slot j) (h : HeldA K F H Hs σ [s1, s2] vs ds) :
    ∃ v w d1 d2, vs = [v, w] ∧ ds = [d1, d2] ∧ Held1 K F H Hs s1 v d1 ∧ Held1 K F H Hs s2 w d2 ∧ (s1 = .tmp → s2 = .tmp → v ≠ w) := by
  cases h with
  | dat q r =>
    cases r with
    | dat q' r' => cases r'; exact ⟨_, _, _, _, rfl, rfl, .dat q, .dat q', fun z => by cases z⟩
    | tmp oa nf hn _ r' => cases r'; exact ⟨_, _, _, _, rfl, rfl, .dat q, .tmp oa nf hn, fun z => by cases z⟩
    | slot q' r' => exact absurd rfl (n2 _)
  | tmp oa nf hn ni r =>
    cases r with
    | dat q' r' => cases r'; exact ⟨_, _, _, _, rfl, rfl, .tmp oa nf hn, .dat q', fun _ z => by cases z⟩
    | tmp oa' nf' hn' _ r' => cases r'; exact ⟨_, _, _, _, rfl, rfl, .tmp oa nf hn, .tmp oa' nf' hn', fun _ _ z => ni (by cases z; exact List.mem_cons_self ..)⟩
    | slot q' r' => exact absurd rfl (n2 _)
  | slot q r => exact absurd rfl (n1 _)
theorem held3 {K : PySem.W.Frag} {F : Fz} {H Hs : Hp} {σ : St} {s1 s2 s3 : Sl} {vs : List V} {ds : List D} (n1 : ∀ j, s1 ≠ .slot j) (n2 : ∀ j, s2 ≠ .slot j) (n3 : ∀ j, s3 ≠ .slot j) (h : HeldA K F H Hs σ [s1, s2, s3] vs ds) :
    ∃ u v w d1 d2 d3, vs = [u, v, w] ∧ ds = [d1, d2, d3] ∧ Held1 K F H Hs s1 u d1 ∧ Held1 K F H Hs s2 v d2 ∧ Held1 K F H Hs s3 w d3 ∧ (s1 = .tmp → s2 = .tmp → u ≠ v) ∧ (s1 = .tmp → s3 = .tmp → u ≠ w) ∧ (s2 = .tmp → s3 = .tmp → v ≠ w) := by
  cases h with
  | dat q r =>
    obtain ⟨v, w, d1, d2, rfl, rfl, h1, h2, h3⟩ := held2 n2 n3 r
    exact ⟨_, v, w, _, d1, d2, rfl, rfl, .dat q, h1, h2, (fun z => by cases z), (fun z => by cases z), h3⟩
  | tmp oa nf hn ni r =>
    obtain ⟨v, w, d1, d2, rfl, rfl, h1, h2, h3⟩ := held2 n2 n3 r
    refine ⟨_, v, w, _, d1, d2, rfl, rfl, .tmp oa nf hn, h1, h2, fun _ z e => ?_, fun _ z e => ?_, h3⟩
    · subst z
      subst e
      exact ni (List.mem_cons_self ..)
    · subst z
      subst e
      cases h1 with
      | dat _ => exact ni (by
          cases v <;> first | exact List.mem_cons_self .. | exact List.mem_cons_self ..)
      | tmp _ _ _ => exact ni (List.mem_cons_of_mem _ (List.mem_cons_self ..))
  | slot q r => exact absurd rfl (n1 _)
theorem vs_par2 {i j : Nat} {x y : Str} {px py pt pt2 : Pos} {kt k2 : Nat} {s1 s2 : Sl} (hO1 : newO s1 i O = O1) (hO2 : newO s2 j O1 = O2) (hc : X.calm = true) (hN : X.N.Nodup) (hi : X.N[i]? = some x) (hj : X.N[j]? = some y) (hij : i ≠ j) (hx : X.env.scope.names.lookup x = some .local) (hy : X.env.scope.names.lookup y = some .local)
    (ha : VM X B (G.w Ps O) E [a, b] [s1, s2] m) (hw : swappedStores [.Tuple [.Name x px, .Name y py] kt pt] (.Tuple [a, b] k2 pt2) X.env = pure (some [x, y]) := by rfl)
    (hs : swapsWithSole [.Tuple [.Name x px, .Name y py] kt pt] (.Tuple [a, b] k2 pt2) pos.line X.env = pure false := by rfl) (n1 : ∀ j, s1 ≠ .slot j := by intro _ z; cases z) (n2 : ∀ j, s2 ≠ .slot j := by intro _ z; cases z) (hp1 : i ∉ Ps := by decide) (hp2 : j ∉ Ps := by decide) :
    VS X B G Ps E ro O O2 Ol (.Assign [.Tuple [.Name x px, .Name y py] kt pt] (.Tuple [a, b] k2 pt2) pos) (mPar [i, j] m) :=
  PS.imp (ps_par hc hN hi hj hij hx hy ha hw hs) fun N σ H ⟨F, ρ, r, h⟩ => ⟨F, ρ, r, (Res.bind h).mono (fun ds ρ1 h1 vs H1 F1 r1 k1 hh => by
    obtain ⟨v, w, d1, d2, rfl, rfl, q1, q2, q3⟩ := held2 n1 n2 hh
    have h0 : ∀ a, H a = none → G.H0 a = none := fun a z => r.h0 z
    have ra := q1.set r1 h0 (fun _ a _ z => r.nownN z) hp1
    have rb := q2.set ra h0 (fun t2 b e z => own_set (r.nownN z) fun t1 e2 => q3 t1 t2 (e2.trans e.symm)) hp2
    rw [hO1, hO2] at rb
    exact ⟨v, w, rfl, h1 _ H1 F1 rb (k1.g r)⟩) (fun _ _ _ k => k.ex r)⟩
theorem vs_par3 {i j l : Nat} {x y z : Str} {px py pz pt pt2 : Pos} {kt k2 : Nat} {s1 s2 s3 : Sl} (hO1 : newO s1 i O = O1) (hO2 : newO s2 j O1 = O2) (hO3 : newO s3 l O2 = O3) (hc : X.calm = true) (hN : X.N.Nodup) (hi : X.N[i]? = some x) (hj : X.N[j]? = some y) (hl : X.N[l]? = some z) (hij : i ≠ j) (hil : i ≠ l) (hjl : j ≠ l)
    (hx : X.env.scope.names.lookup x = some .local) (hy : X.env.scope.names.lookup y = some .local) (hz : X.env.scope.names.lookup z = some .local)
    (ha : VM X B (G.w Ps O) E [a, b, c] [s1, s2, s3] m) (hw : swappedStores [.Tuple [.Name x px, .Name y py, .Name z pz] kt pt] (.Tuple [a, b, c] k2 pt2) X.env = pure (some [x, y, z]) := by rfl)
    (hs : swapsWithSole [.Tuple [.Name x px, .Name y py, .Name z pz] kt pt] (.Tuple [a, b, c] k2 pt2) pos.line X.env = pure false := by rfl) (n1 : ∀ j, s1 ≠ .slot j := by intro _ z; cases z) (n2 : ∀ j, s2 ≠ .slot j := by intro _ z; cases z) (n3 : ∀ j, s3 ≠ .slot j := by intro _ z; cases z) (hp1 : i ∉ Ps := by decide) (hp2 : j ∉ Ps := by decide) (hp3 : l ∉ Ps := by decide) :
    VS X B G Ps E ro O O3 Ol (.Assign [.Tuple [.Name x px, .Name y py, .Name z pz] kt pt] (.Tuple [a, b, c] k2 pt2) pos) (mPar [i, j, l] m) :=
  PS.imp (ps_par3 hc hN hi hj hl hij hil hjl hx hy hz ha hw hs) fun N σ H ⟨F, ρ, r, h⟩ => ⟨F, ρ, r, (Res.bind h).mono (fun ds ρ1 h1 vs H1 F1 r1 k1 hh => by
    obtain ⟨u, v, w, d1, d2, d3, rfl, rfl, q1, q2, q3, e12, e13, e23⟩ := held3 n1 n2 n3 hh
    have h0 : ∀ a, H a = none → G.H0 a = none := fun a z => r.h0 z
    have ra := q1.set r1 h0 (fun _ a _ z => r.nownN z) hp1
    have rb := q2.set ra h0 (fun t2 b e z => own_set (r.nownN z) fun t1 e2 => e12 t1 t2 (e2.trans e.symm)) hp2
    have rc := q3.set rb h0 (fun t3 b e z => own_set (own_set (r.nownN z) fun t1 e2 => e13 t1 t3 (e2.trans e.symm)) fun t2 e2 => e23 t2 t3 (e2.trans e.symm)) hp3
    rw [hO1, hO2, hO3] at rc
    exact ⟨u, v, w, rfl, h1 _ H1 F1 rc (k1.g r)⟩) (fun _ _ _ k => k.ex r)⟩

/-! ### a, b = e -/
def mBind (t : Tg) (me : M D) : M Fl := me.bind fun d ρ => match bindT t d ρ with
  | some ρ' => .ok (.nx, ρ')
  | none => .stuck
theorem vs_asg {t : Tg} (he : VE X B (G.w Ps O) E e me) (hg : VG X (G.w Ps O) tg t) (hs : swapsWithSole [tg] e pos.line X.env = pure false := by rfl) (hw : swappedStores [tg] e X.env = pure none := by rfl) (ht : (assignEach [tg] X.env).map (·.2) = [assign tg X.env] := by rfl) :
    VS X B G Ps E ro O O Ol (.Assign [tg] e pos) (mBind t me) :=
  PS.imp (ps_asg he hg hs hw ht) fun N σ H ⟨F, ρ, r, h⟩ => ⟨F, ρ, r, (Res.bind h).mono (fun d ρ1 h1 v H1 F1 r1 k1 q1 => by
    cases e1 : bindT t d ρ1 with
    | none => simp only [e1] at h1; exact h1.elim
    | some ρ2 =>
      simp only [e1] at h1
      exact ⟨F1, ρ1, d, ρ2, r1, .of q1, e1, fun σ' r' _ => h1 σ' H1 F1 r' (k1.g r)⟩) (fun _ _ _ k => k.ex r)⟩

/-! ### a <= b < c -/
variable {Γ : Gm} {ma mb mc : M D}
def mChain (g g' : D → D → Option D) (ma mb mc : M D) : M D := ma.bind fun x => mb.bind fun y => (M.of (g x y)).bind fun k => match k with
  | .bool true => mc.bind fun z => M.of (g' y z)
  | .bool false => M.pure (.bool false)
  | _ => fun _ => .stuck
theorem chainv {g g' : D → D → Option D} {σ : St} {H : Hp} {Q : VK} (h : tV X.K B Γ E (mChain g g' ma mb mc) σ H Q) : tChain (rV X.K g) (rV X.K g') (tV X.K B Γ E ma) (tV X.K B Γ E mb) (tV X.K B Γ E mc) σ H Q := by
  obtain ⟨F, ρ, r, h⟩ := h
  refine ⟨F, ρ, r, (Res.bind h).mono (fun x ρ1 h1 v1 H1 F1 r1 g1 q1 => ⟨F1, ρ1, r1, (Res.bind h1).mono (fun y ρ2 h2 v2 H2 F2 r2 g2 q2 => ?_) (fun c fs ρ' k => k.grow g1)⟩) (fun _ _ _ k => k)⟩
  obtain ⟨d, e, h3⟩ := Res.of (Res.bind h2)
  refine ⟨F2, x, y, d, r2.trk, q1.grow (g2.g r1), q2, e, fun v H3 F3 ex q => ?_⟩
  have r3 := r2.to ex
  have k3 := (g1.trans g2).trans ex.kp (O := Γ.O) (σ := σ)
  cases d with
  | bool k =>
    cases dq_bl q
    refine ⟨k, rfl, ?_⟩
    cases k with
    | true =>
      refine ⟨F3, ρ2, r3, (Res.bind (show Res ((mc.bind fun z => M.of (g' y z)) ρ2) _ _ from h3)).mono (fun z ρ4 h4 v4 H4 F4 r4 k4 q4 => ?_) (fun c fs ρ' k => k.grow k3)⟩
      obtain ⟨d', e', h5⟩ := Res.of h4
      exact ⟨F4, y, z, d', r4.trk, (q2.grow (ex.grow r2.trk)).grow (k4.g r3), q4, e', fun v H' F' ex' q' => h5 v H' F' (r4.to ex') ((k3.trans k4).trans ex'.kp) q'⟩
    | false => exact h3 (.bl false) H3 F3 r3 k3 (.bl false)
  | _ => exact h3.elim
theorem vt_chain {op op' : CmpOp} {g g' : D → D → Option D} (ho : OpR X (compareOp op) (rV X.K g)) (ho' : OpR X (compareOp op') (rV X.K g')) (ha : VE X B Γ E a ma) (hb : VE X B Γ E b mb) (hc : VE X B Γ E c mc) (hg : ∀ x y d, g' x y = some d → ∃ c, d = .bool c) (hm : lastMarks [op, op'] [b, c] = false := by with_unfolding_all rfl) :
    VT X B Γ E (.Compare a [op, op'] [b, c] pos) (mTruth (mChain g g' ma mb mc)) := PT.imp (pt_chain ho ho' ha hb hc hm) fun σ H Q h => by
  refine chainv ?_
  obtain ⟨F, ρ, r, h⟩ := h
  refine ⟨F, ρ, r, ?_⟩
  have hb : ∀ d ρ', mChain g g' ma mb mc ρ = .ok (d, ρ') → ∃ k, d = .bool k := fun d ρ' he => by
    unfold mChain M.bind at he
    cases e1 : ma ρ with
    | stuck => rw [e1] at he; cases he
    | exc _ _ _ => rw [e1] at he; cases he
    | ok p =>
      rw [e1] at he
      cases e2 : mb p.2 with
      | stuck => simp only [R.bind, e2] at he; cases he
      | exc _ _ _ => simp only [R.bind, e2] at he; cases he
      | ok q =>
        simp only [R.bind, e2] at he
        cases e3 : g p.1 q.1 with
        | none => simp only [e3, M.of, R.of, R.bind] at he; cases he
        | some k =>
          simp only [e3, M.of, R.of, R.bind] at he
          cases k with
          | bool k =>
            cases k with
            | false => simp only [M.pure] at he; cases he; exact ⟨_, rfl⟩
            | true =>
              simp only at he
              cases e4 : mc q.2 with
              | stuck => simp only [e4] at he; cases he
              | exc _ _ _ => simp only [e4] at he; cases he
              | ok z =>
                simp only [e4] at he
                cases e5 : g' q.1 z.1 with
                | none => simp only [e5] at he; cases he
                | some w =>
                  simp only [e5] at he
                  cases he
                  exact hg _ _ _ e5
          | _ => cases he
  unfold mTruth M.bind at h
  cases e1 : mChain g g' ma mb mc ρ with
  | stuck => rw [e1] at h; exact h.elim
  | exc _ _ _ => rw [e1] at h; exact h
  | ok p =>
    obtain ⟨d, ρ'⟩ := p
    rw [e1] at h
    obtain ⟨k, rfl⟩ := hb d ρ' e1
    intro v H' F' r' k' q'
    exact ⟨k, dq_bl q', h k H' F' r' k' rfl⟩
end

/-! ### sorted -/
section
variable {α : Type} {le : α → α → Bool}
def insL (le : α → α → Bool) (x : α) : List α → List α
  | [] => [x]
  | y :: ys => if le x y = true then x :: y :: ys else y :: insL le x ys
def isort (le : α → α → Bool) : List α → List α
  | [] => []
  | x :: xs => insL le x (isort le xs)
theorem insL_mem {x z : α} : ∀ {l : List α}, z ∈ insL le x l → z = x ∨ z ∈ l
  | [], h => .inl (by simpa [insL] using h)
  | y :: ys, h => by
    unfold insL at h
    by_cases c : le x y = true
    · rw [if_pos c] at h
      rcases List.mem_cons.mp h with h | h
      · exact .inl h
      · exact .inr h
    · rw [if_neg c] at h
      rcases List.mem_cons.mp h with h | h
      · exact .inr (by rw [h]; exact List.mem_cons_self ..)
      · rcases insL_mem h with h | h
        · exact .inl h
        · exact .inr (List.mem_cons_of_mem _ h)
theorem insL_sorted (h : PySem.W.TotalLe le) {x : α} : ∀ {l : List α}, l.Pairwise (fun a b => le a b = true) → (insL le x l).Pairwise (fun a b => le a b = true)
  | [], _ => by simp [insL]
  | y :: ys, hp => by
    obtain ⟨p1, p2⟩ := List.pairwise_cons.mp hp
    unfold insL
    by_cases c : le x y = true
    · rw [if_pos c]
      refine List.pairwise_cons.mpr ⟨fun z hz => ?_, hp⟩
      rcases List.mem_cons.mp hz with rfl | hz
      · exact c
      · exact h.trans _ _ _ c (p1 z hz)
    · rw [if_neg c]
      refine List.pairwise_cons.mpr ⟨fun z hz => ?_, insL_sorted h p2⟩
      rcases insL_mem hz with rfl | hz
      · exact (h.total _ _).resolve_left c
      · exact p1 z hz
theorem insL_filter (h : PySem.W.TotalLe le) {x c : α} : ∀ {l : List α}, (insL le x l).filter (PySem.W.sameRank le c) = (x :: l).filter (PySem.W.sameRank le c)
  | [] => rfl
  | y :: ys => by
    unfold insL
    by_cases k : le x y = true
    · rw [if_pos k]
    · rw [if_neg k, List.filter_cons, insL_filter h (l := ys), List.filter_cons, List.filter_cons, List.filter_cons]
      by_cases s1 : PySem.W.sameRank le c x = true
      · by_cases s2 : PySem.W.sameRank le c y = true
        · exfalso
          unfold PySem.W.sameRank at s1 s2
          rw [Bool.and_eq_true] at s1 s2
          exact k (h.trans _ _ _ s1.2 s2.1)
        · simp only [if_neg s2, if_pos s1]
      · simp only [if_neg s1]
theorem isort_eq (h : PySem.W.TotalLe le) (l : List α) : isort le l = l.mergeSort le := by
  refine PySem.W.sort_unique h ?_ ?_
  · induction l with
    | nil => exact .nil
    | cons x xs ih => exact insL_sorted h ih
  · intro c
    induction l with
    | nil => rfl
    | cons x xs ih =>
      show (insL le x (isort le xs)).filter _ = _
      rw [insL_filter h, List.filter_cons, List.filter_cons, ih]
end
def dle (x y : D) : Bool := !PySem.W.dataLt y x
def sortD (l : List D) : List D := isort dle l
theorem sortD_eq (l : List D) : sortD l = l.mergeSort (PySem.W.dataLe false id) := isort_eq (PySem.W.sortLe_total (PyProof.Rows.listOrd PyProof.Rows.itemOrd) false fun b => PySem.W.keyToks b) l
def allAlike (l : List D) : Bool := l.all fun x => l.all fun y => PySem.W.alike x y
def isTupC : D → Bool
  | .tuple (_ :: _) => true
  | _ => false
def isOth : D → Bool
  | .none => false
  | .tuple _ => false
  | _ => true
def isTupD : D → Bool
  | .tuple _ => true
  | _ => false
def allLk (l : List D) : Bool := l.all fun x => l.all fun y => lk x y
def sortOk1 (l : List D) : Bool := PyData.plainAll l && allAlike l && (l.all isTupC || l.all isOth) && l.all fun x => decide (x.depth ≤ 100)
def sortOk2 (l : List D) : Bool := PyData.plainAll l && allLk l && l.all isTupD && l.all fun x => decide (x.depth ≤ 100)
def sortOk (l : List D) : Bool := sortOk1 l || sortOk2 l
def cSort : List D → Option D
  | [.list xs] => if sortOk xs = true then some (.list (sortD xs)) else none
  | [.tuple xs] => if sortOk xs = true then some (.list (sortD xs)) else none
  | _ => none
theorem sortOk1_ok {l : List D} (h : sortOk1 l = true) : PyData.plainAll l = true ∧ PySem.W.AllAlike l ∧ PySem.W.Sortable l ∧ ∀ x ∈ l, x.depth ≤ 100 := by
  unfold sortOk1 at h
  rw [Bool.and_eq_true, Bool.and_eq_true, Bool.and_eq_true] at h
  obtain ⟨⟨⟨h1, h2⟩, h3⟩, h4⟩ := h
  refine ⟨h1, fun d hd d' hd' => ?_, ?_, fun x hx => of_decide_eq_true (List.all_eq_true.mp h4 x hx)⟩
  · unfold allAlike at h2
    exact List.all_eq_true.mp (List.all_eq_true.mp h2 d hd) d' hd'
  · rcases Bool.or_eq_true_iff.mp h3 with h3 | h3
    · refine .inl fun d hd => ?_
      have := List.all_eq_true.mp h3 d hd
      unfold isTupC at this
      split at this
      · exact ⟨_, _, rfl⟩
      · cases this
    · refine .inr fun d hd => ?_
      have := List.all_eq_true.mp h3 d hd
      exact ⟨(fun z => by subst z; cases this), (fun xs z => by subst z; cases this)⟩
theorem sortOk_ok {l : List D} (h : sortOk l = true) : PyData.plainAll l = true ∧ SOk l ∧ ∀ x ∈ l, x.depth ≤ 100 := by
  unfold sortOk at h
  rcases Bool.or_eq_true_iff.mp h with h | h
  · obtain ⟨h1, h2, h3, h4⟩ := sortOk1_ok h
    exact ⟨h1, .inl ⟨h2, h3⟩, h4⟩
  · unfold sortOk2 at h
    rw [Bool.and_eq_true, Bool.and_eq_true, Bool.and_eq_true] at h
    obtain ⟨⟨⟨h1, h2⟩, h3⟩, h4⟩ := h
    refine ⟨h1, .inr ⟨fun d hd d' hd' => ?_, fun d hd => ?_⟩, fun x hx => of_decide_eq_true (List.all_eq_true.mp h4 x hx)⟩
    · exact List.all_eq_true.mp (List.all_eq_true.mp h2 d hd) d' hd'
    · have := List.all_eq_true.mp h3 d hd
      cases d <;> first | exact ⟨_, rfl⟩ | cases this
theorem sortOk_1 {l : List D} (h : sortOk1 l = true) : sortOk l = true := by unfold sortOk; rw [h]; rfl
theorem each_vals {K : PySem.W.Frag} {F : Fz} {H : Hp} : ∀ {vs : List V} {us : List Value} {ds : List D}, Vals vs us → DqAll K F H vs ds → PySem.W.EachIs (fun u d => ∃ v, RelV v u ∧ Dq K F H v d) us ds
  | _, _, _, .nil, .nil => .nil
  | _, _, _, .cons r t, .cons q w => .cons ⟨_, r, q⟩ (each_vals t w)
theorem vals_each {K : PySem.W.Frag} {F : Fz} {H : Hp} : ∀ {us : List Value} {ds : List D}, PySem.W.EachIs (fun u d => ∃ v, RelV v u ∧ Dq K F H v d) us ds → ∃ vs, Vals vs us ∧ DqAll K F H vs ds
  | _, _, .nil => ⟨[], .nil, .nil⟩
  | _, _, .cons ⟨v, r, q⟩ t => by
    obtain ⟨vs, h1, h2⟩ := vals_each t
    exact ⟨v :: vs, .cons r h1, .cons q h2⟩
theorem each_mem {α β : Type} {R : α → β → Prop} : ∀ {as : List α} {bs : List β}, PySem.W.EachIs R as bs → PySem.W.EachIs (fun a b => R a b ∧ b ∈ bs) as bs
  | _, _, .nil => .nil
  | _, _, .cons r t => .cons ⟨r, List.mem_cons_self ..⟩ ((each_mem t).mono fun _ _ h => ⟨h.1, List.mem_cons_of_mem _ h.2⟩)
section
variable {X : Cx} {B : Eb} {Γ : Gm} {E : Wish} {e : Expr} {ms : M (List D)} {pos p : Pos}
/-- sorted(x): a new list -/
def rSortV (K : PySem.W.Frag) : List V → Hp → VK → Prop := fun xs H Q => ∃ F ds, Trk F H ∧ (DqAll K F H xs [.list ds] ∨ DqAll K F H xs [.tuple ds]) ∧ sortOk ds = true ∧ ∀ vs l, H l = none → DqAll K F H vs (sortD ds) → Q (.ref l) (upd H l (.lst vs))
theorem plain_mem : ∀ {ds : List D} {d : D}, PyData.plainAll ds = true → d ∈ ds → d.plain = true
  | [], _, _, h => by cases h
  | x :: xs, d, h, hm => by
    rw [PyData.plainAll, Bool.and_eq_true] at h
    rcases List.mem_cons.mp hm with rfl | hm
    · exact h.1
    · exact plain_mem h.2 hm
mutual
theorem reads_lt {h : Heap} : ∀ {v : Value} {d : PyData} {as : List Addr}, Reads h v d as → ∀ a, a ∈ as → a < h.objs.size
  | _, _, _, .none, _, z => nomatch z
  | _, _, _, .bool _, _, z => nomatch z
  | _, _, _, .int _ _, _, z => nomatch z
  | _, _, _, .str _ _, _, z => nomatch z
  | _, _, _, .list h1 _ _ r, a, z => (List.mem_cons.mp z).elim (fun e => e ▸ Heap.lt_size h1) (readsAll_lt r a)
  | _, _, _, .tuple _ _ _ r, a, z => readsAll_lt r a z
  | _, _, _, .dict h1 _ _ r r', a, z => (List.mem_append.mp z).elim (fun z => (List.mem_cons.mp z).elim (fun e => e ▸ Heap.lt_size h1) (readsAll_lt r a)) (readsAll_lt r' a)
theorem readsAll_lt {h : Heap} : ∀ {vs : List Value} {ds : List PyData} {as : List Addr}, ReadsAll h vs ds as → ∀ a, a ∈ as → a < h.objs.size
  | _, _, _, .nil, _, z => nomatch z
  | _, _, _, .cons r rs, a, z => (List.mem_append.mp z).elim (reads_lt r a) (readsAll_lt rs a)
end
theorem call_sortV (hu : X.A.units + 150 < cLine) : CallR X (.builtin "sorted") (rSortV X.K) := by
  intro pins s σ H xs us Q I r h
  obtain ⟨F, ds, t, q, ok, fin⟩ := h
  obtain ⟨o1, o2, o4⟩ := sortOk_ok ok
  have got : ∃ (a : Addr) (vs : List V) (its : List Value) (o : Obj) (T : String) (n : Nat), us = [.ref a] ∧ DqAll X.K F H vs ds ∧ Vals vs its ∧ vs.length ≤ sizeLine ∧ (T = "list" ∨ T = "tuple") ∧ s.heap.get? a = some o ∧ o.cls = .type T ∧ o.data = .seq its.toArray n := by
    rcases q with q | q
    · obtain ⟨v, rfl, q'⟩ := q.one
      obtain ⟨a, vs, rfl, ha, qa⟩ := dq_sqL q'
      obtain ⟨its, rv, hl, hz⟩ := I.list ha
      obtain ⟨o, ho, hc, n, hd⟩ := hl.isList
      exact ⟨a, vs, its, o, _, n, Vals.ref1 r, qa, rv, hz, .inl rfl, ho, hc, hd⟩
    · obtain ⟨v, rfl, q'⟩ := q.one
      obtain ⟨a, vs, rfl, ha, qa⟩ := dq_sqT q'
      obtain ⟨its, rv, ⟨o, ho, hc, n, hd⟩, hz⟩ := I.tuple ha
      exact ⟨a, vs, its, o, _, n, Vals.ref1 r, qa, rv, hz, .inr rfl, ho, hc, hd⟩
  obtain ⟨a, vs, its, o, T, n, rfl, qa, rv, hz, hT, ho, hc, hd⟩ := got
  have hzi : its.length ≤ sizeLine := by rw [← rv.length]; exact hz
  refine PySem.Calls.call_function_entry kind_sorted plain_sorted entry_sorted (args_sorted1 _) ?_
  unfold Builtin.«sorted»
  refine wpAny_bind (m := checkCount "sorted" 1 1 _) (wpAny_pure ?_)
  refine wpAny_bind (wpAny_collect_seq a hT ho hc hd (fun h' hk => ?_) (by rw [List.size_toArray]; exact hzi))
  rw [List.toList_toArray]
  have I2 : Inv X pins σ H { s with heap := h', toks := s.toks } := I.kept hk
  have ev := each_vals rv qa
  refine wpAny_bind (wpAny_newList ?_ hzi)
  have hoL : (h'.push (seqObj "list" its.toArray 0)).get? h'.objs.size = some (seqObj "list" its.toArray 0) := Heap.get?_push_size _ rfl
  have nl : H h'.objs.size = none := I2.hok.fresh (Nat.le_refl _)
  have er : PySem.W.EachIs (fun v b => ∃ as, Reads (h'.push (seqObj "list" its.toArray 0)) v (id b) as ∧ h'.objs.size ∉ as) its ds := (each_mem ev).mono fun u d ⟨⟨v, rv, q⟩, hm⟩ => by
    obtain ⟨as, ra⟩ := q.rd I2 rv (plain_mem o1 hm)
    exact ⟨as, PyProof.Rows.Reads.keeps (fun b o e => Heap.get?_push_of_some _ e) ra, fun z => absurd (reads_lt ra _ z) (Nat.lt_irrefl _)⟩
  have em : ds.map id = ds := List.map_id ds
  refine wpAny_bind (wpAny_holding (list_sortX (ds := ds) (vs := its) hoL ev er o2 (fun d hd => plain_mem o1 hd) (by rw [← qa.length]; exact hz) (fun b hb => by
    have := o4 b hb
    show X.A.in1.units + 1 + b.depth < _
    have e : X.A.in1.units = X.A.units + 1 := rfl
    omega) fun out hlen ho' => ?_))
  rw [← sortD_eq] at ho'
  obtain ⟨ws, w1, w2⟩ := vals_each ho'
  obtain ⟨c, hcc⟩ := sortedHeap_at (vs := its) (out := out.toArray) hoL
  have hlw : ws.length ≤ sizeLine := by rw [w1.length, hlen, ← qa.length]; exact hz
  refine wpAny_pure ⟨_, rfl, .ref h'.objs.size, upd H h'.objs.size (.lst ws), I2.laid (t' := s.toks) (fun b u e => ?_) (Nat.le_refl _) ⟨hlw, out, c, w1, hcc⟩, rfl, fin ws _ nl w2⟩
  have lt := Heap.lt_size e
  show (sortedHeap (h'.push (seqObj "list" its.toArray 0)) h'.objs.size its out.toArray).get? b = some u
  rw [sortedHeap_old (Nat.ne_of_lt lt) (by rw [size_push']; exact Nat.lt_succ_of_lt lt)]
  exact Heap.get?_push_of_some _ e
theorem vo_sorted (hu : X.A.units + 150 < cLine) (hg : Gl X "sorted") (hm : X.mg "sorted" = none) (ha : VA X B Γ E [e] ms) (he : starEach [e] X.env = (false, eval e X.env) :: starEach [] X.env := by rfl) (hpl : (backTo pos (starEach [] X.env)).any (·.1) = false := by rfl) :
    VO X B Γ E (.Call (.Name "sorted" p) [e] [] pos) (mCall cSort ms) :=
  PE.imp (pe_callB (call_sortV hu) hg hm (by decide +kernel) ha.pa (by decide) (by decide) he hpl) fun σ H Q ⟨F, ρ, r, h⟩ => ⟨F, ρ, r, (Res.bind h).mono (fun x ρ1 h1 v1 H1 F1 r1 g1 q1 => by
    obtain ⟨d, e, h3⟩ := Res.of h1
    match x, e with
    | [.list ys], e =>
      obtain ⟨c, rfl⟩ := ite_some e
      refine ⟨F1, ys, r1.trk, .inl q1, c, fun vs l nl qs => ?_⟩
      have ex := Ext.laid (o := .lst vs) r1.trk nl
      exact h3 (.ref l) _ _ (r1.to ex) (g1.trans ex.kp) ⟨l, rfl, .lst upd_same (qs.grow (ex.grow r1.trk)), r1.nf nl, g1.none0 r1 nl⟩
    | [.tuple ys], e =>
      obtain ⟨c, rfl⟩ := ite_some e
      refine ⟨F1, ys, r1.trk, .inr q1, c, fun vs l nl qs => ?_⟩
      have ex := Ext.laid (o := .lst vs) r1.trk nl
      exact h3 (.ref l) _ _ (r1.to ex) (g1.trans ex.kp) ⟨l, rfl, .lst upd_same (qs.grow (ex.grow r1.trk)), r1.nf nl, g1.none0 r1 nl⟩) (fun _ _ _ k => k)⟩
end
end VL
end

section
set_option Elab.async false
set_option linter.all false
set_option maxRecDepth 100000
set_option maxHeartbeats 4000000
namespace VL
open PySem PySem.Spec PyProof.Rows L2
set_option autoImplicit false

/-! ### what is never reached -/
section
variable {X : Cx} {B : Eb} {G : Gd} {Ps O On Ol : List Nat} {Γ : Gm} {E : Wish} {ro : Bool} {e tg : Expr} {es : List Expr} {st : Stmt} {sts : List Stmt} {pos p : Pos}
/-- a name's value -/
theorem vv (i : Nat) {x : Str} (hi : i ∉ O := by decide) (hN : X.N[i]? = some x := by rfl) (hv : Vis X.env.scope x := by first | exact Or.inl rfl | exact Or.inr (Or.inl rfl) | exact Or.inr (Or.inr rfl)) (hd : (x == ("__debug__" : Str)) = false := by decide) (hcd : (x == ("__classdict__" : Str)) = false := by decide) :
    VE X B (G.w Ps O) E (.Name x pos) (mVar i) := ve_var i hi hN hv hd hcd
theorem gNe_b : ∀ x y d, gNe x y = some d → ∃ c, d = .bool c := fun x y d h => ⟨_, (ite_some h).2.symm⟩
theorem gLt_b : ∀ x y d, gLt x y = some d → ∃ c, d = .bool c := fun x y d h => ⟨_, (ite_some h).2.symm⟩
theorem gGt_b : ∀ x y d, gGt x y = some d → ∃ c, d = .bool c := fun x y d h => ⟨_, (ite_some h).2.symm⟩
theorem gIs_b : ∀ x y d, gIs x y = some d → ∃ c, d = .bool c := fun x y d h => by cases y <;> first | (cases h; exact ⟨_, rfl⟩) | cases h
end

/-! ### a def that is called -/
structure Cal (P : Program) (w : World) (K : PySem.W.Frag) (mg : Str → Option Value) (base : Heap) (B : Eb) (k : Nat) (x : Str) (st : Stmt) (ps : List Str) (ms : List Bool) (ro : Bool) (fn : Fn) : Prop where
  ex : ∃ a fd, FnOk P w K mg base (L2.CX P w) k a fd ps (spV K B ms ro fn) ∧ mg x = some (.ref a) ∧ FunD K x x (defArgs st) (defBody st) (defScope st) [] [] a fd ∧ Binds K fd ps []
theorem Cal.mono {P : Program} {w : World} {K : PySem.W.Frag} {mg : Str → Option Value} {base : Heap} {B : Eb} {k k' : Nat} {x : Str} {st : Stmt} {ps : List Str} {ms : List Bool} {ro : Bool} {fn : Fn} (c : Cal P w K mg base B k x st ps ms ro fn) (h : k ≤ k') : Cal P w K mg base B k' x st ps ms ro fn := by
  obtain ⟨a, fd, h1, h2, h3, h4⟩ := c.ex
  exact ⟨a, fd, h1.mono h, h2, h3, h4⟩
section
variable {X : Cx} {B : Eb} {G : Gd} {Ps O : List Nat} {Ek : XK} {k : Nat} {x : Str} {st : Stmt} {ps : List Str} {p pos : Pos} {e : Expr} {es : List Expr} {sl : List Sl} {m : M (List D)} {ms : List Bool} {fn : Fn} {kws : List Keyword}
theorem ve_do (c : Cal X.prog X.w X.K X.mg X.base B k x st ps ms false fn) (hr : Room k X.A) (hx : Passes (L2.CX X.prog X.w) X Ek) (ha : VM X B (G.w Ps O) (fun _ => Ek) (e :: es) sl m) (hg : Gl X x := by rfl) (ho : ∀ j ∈ slots sl, j ∈ O := by decide) (hms : sl.map Sl.m = ms := by rfl) (nd : (slots sl).Nodup := by decide)
    (hdb : (x == ("__debug__" : Str)) = false := by decide) (he : starEach (e :: es) X.env = (false, eval e X.env) :: starEach es X.env := by rfl) (hpl : (backTo pos (starEach es X.env)).any (·.1) = false := by rfl) : VE X B (G.w Ps O) (fun _ => Ek) (.Call (.Name x p) (e :: es) [] pos) (mCallF fn sl m) := by
  obtain ⟨a, fd, h1, h2, h3, h4⟩ := c.ex
  exact ve_call h1 hr hg h2 h3.kp h4 hx ha ho hms nd hdb he hpl
theorem vo_do (c : Cal X.prog X.w X.K X.mg X.base B k x st ps ms true fn) (hr : Room k X.A) (hx : Passes (L2.CX X.prog X.w) X Ek) (ha : VM X B (G.w Ps O) (fun _ => Ek) (e :: es) sl m) (hg : Gl X x := by rfl) (ho : ∀ j ∈ slots sl, j ∈ O := by decide) (hms : sl.map Sl.m = ms := by rfl) (nd : (slots sl).Nodup := by decide)
    (hdb : (x == ("__debug__" : Str)) = false := by decide) (he : starEach (e :: es) X.env = (false, eval e X.env) :: starEach es X.env := by rfl) (hpl : (backTo pos (starEach es X.env)).any (·.1) = false := by rfl) : VO X B (G.w Ps O) (fun _ => Ek) (.Call (.Name x p) (e :: es) [] pos) (mCallF fn sl m) := by
  obtain ⟨a, fd, h1, h2, h3, h4⟩ := c.ex
  exact vo_call h1 hr hg h2 h3.kp h4 hx ha ho hms nd hdb he hpl
theorem ve_do0 (c : Cal X.prog X.w X.K X.mg X.base B k x st ps [] false fn) (hr : Room k X.A) (hx : Passes (L2.CX X.prog X.w) X Ek) (hg : Gl X x := by rfl) (hdb : (x == ("__debug__" : Str)) = false := by decide) : VE X B (G.w Ps O) (fun _ => Ek) (.Call (.Name x p) [] [] pos) (mCallF fn [] mNil) := by
  obtain ⟨a, fd, h1, h2, h3, h4⟩ := c.ex
  exact ve_call0 h1 hr hg h2 h3.kp h4 hx hdb
theorem vmt {E : Wish} {ma : M D} (ha : VO X B (G.w Ps O) E e ma) (hr : VM X B (G.w Ps O) E es sl m) (ho : ∀ j ∈ slots sl, j ∈ O := by decide) (hs : starEach (e :: es) X.env = (false, eval e X.env) :: starEach es X.env := by rfl) : VM X B (G.w Ps O) E (e :: es) (.tmp :: sl) (mCons ma m) := vm_tmp ha hr ho hs

/-! ### keywords -/
structure VK1 (X : Cx) (B : Eb) (Γ : Gm) (E : Wish) (kws : List Keyword) (m : M (List D)) : Prop where
  pk : PK X kws (tVs X.K B Γ E m)
  len : ∀ ρ ds ρ', m ρ = .ok (ds, ρ') → ds.length = kws.length
end

/-! ### a def keeps its promise, by its text -/
theorem cal_ok {P : Program} {w : World} {K : PySem.W.Frag} {mg : Str → Option Value} {base : Heap} {x : Str} {st : Stmt} {f : Addr} {fd : FuncData} {N ps : List Str} {k : Nat} {B : Eb} {ms : List Bool} {ro : Bool} {m : M Fl} {On : List Nat} {n : Nat} {Ps : List Nat} {fn : Fn}
    (hf : fn = runF ro n Ps m) (hn : N.length = n) (hP : mPs 0 ms = Ps) (Fd : FunD K x x (defArgs st) (defBody st) (defScope st) [] [] f fd) (hm : mg x = some (.ref f)) (S : FnScope N ps (defScope st)) (hps : ps.length = ms.length)
    (hb : ∀ (kV doc pm : Value) (an : Option Addr) (cdv ct : Value) (us : List Value), us.length = ps.length → bindArgs (PySem.W.fnOf x x (defArgs st) (defBody st) (defScope st) .none kV doc pm an cdv ct) ⟨us, []⟩ = pure (ps.zip us))
    (hbody : ∀ (cdv : Value) (A : Around) (outer : List PySem.Env) (s : Shared) (H : Hp) (E : XK) (G : Gd), Room k (A.deeper (envOfC x (defScope st) s.heap.objs.size f cdv)) →
      VSs (cxOf (L2.CX P w) P w K mg base N x (defScope st) f cdv A outer s H E) B G Ps (fun _ => E) ro Ps On [] (defBody st) m) : Cal P w K mg base B (k + 1) x st ps ms ro fn := by
  subst hf hn hP
  exact ⟨f, fd, fn_ok Fd S hps hbody, hm, Fd, Fd.bindsN hb⟩
theorem cal_stk {P : Program} {w : World} {K : PySem.W.Frag} {mg : Str → Option Value} {base : Heap} {x : Str} {st : Stmt} {f : Addr} {fd : FuncData} {ps : List Str} {k : Nat} {B : Eb} {ms : List Bool} {ro : Bool}
    (Fd : FunD K x x (defArgs st) (defBody st) (defScope st) [] [] f fd) (hm : mg x = some (.ref f)) (hps : ps.length = ms.length)
    (hb : ∀ (kV doc pm : Value) (an : Option Addr) (cdv ct : Value) (us : List Value), us.length = ps.length → bindArgs (PySem.W.fnOf x x (defArgs st) (defBody st) (defScope st) .none kV doc pm an cdv ct) ⟨us, []⟩ = pure (ps.zip us)) : Cal P w K mg base B k x st ps ms ro (fun _ => .stuck) :=
  ⟨f, fd, ⟨fun vs H Q E h => by
    obtain ⟨F, ds, _, ha, _⟩ := h
    rw [ha.len.1, hps], fun A outer s H args us vs Q E hr he hb hv hs => by
    obtain ⟨F, ds, _, _, _, hf⟩ := hs
    exact hf.elim⟩, hm, Fd, Fd.bindsN hb⟩
/-- what a callee lets out, the def lets out -/
theorem lets {P : Program} {w : World} {K : PySem.W.Frag} {mg : Str → Option Value} {base : Heap} {N : List Str} {qual : Str} {scope : Scope} {f : Addr} {cd : Value} {A : Around} {outer : List PySem.Env} {s : Shared} {H : Hp} {E : XK} :
    Passes (L2.CX P w) (cxOf (L2.CX P w) P w K mg base N qual scope f cd A outer s H E) E := passes_call (takes_of rfl rfl rfl rfl) fun _ _ _ _ h => h
theorem letsOwn {P : Program} {w : World} {K : PySem.W.Frag} {mg : Str → Option Value} {base : Heap} {N : List Str} {qual : Str} {scope : Scope} {f : Addr} {cd : Value} {A : Around} {outer : List PySem.Env} {s : Shared} {H : Hp} {E : XK} :
    PassesOwn (model P w) (cxOf (L2.CX P w) P w K mg base N qual scope f cd A outer s H E).A (cxOf (L2.CX P w) P w K mg base N qual scope f cd A outer s H E).env (cxOf (L2.CX P w) P w K mg base N qual scope f cd A outer s H E).xe := passes_of (X := cxOf (L2.CX P w) P w K mg base N qual scope f cd A outer s H E) rfl
end VL
end

section
set_option Elab.async false
set_option linter.all false
set_option maxRecDepth 100000
set_option maxHeartbeats 4000000
namespace VL
open PySem PySem.Spec PyProof.Rows L2
set_option autoImplicit false

section
variable {X : Cx} {B : Eb} {G : Gd} {Ps O : List Nat} {Γ : Gm} {E : Wish} {a b e : Expr} {rest : List Expr} {ma mb : M D} {pos p : Pos}
/-! ### x or y, both new lists -/
theorem vo_one {op} (h : VO X B Γ E a ma) : VO X B Γ E (.BoolOp op [a] pos) ma := pe_one h
theorem vo_or (ha : VO X B Γ E a ma) (hb : VO X B Γ E (.BoolOp .Or (b :: rest) pos) mb) : VO X B Γ E (.BoolOp .Or (a :: b :: rest) pos) (mOrV ma mb) :=
  PE.imp (pe_orT ha hb) fun σ H Q ⟨F, ρ, r, h⟩ => ⟨F, ρ, r, (Res.bind h).mono (fun x ρ1 h1 v H1 F1 r1 g1 q1 => by
    obtain ⟨k, e, h2⟩ := Res.of (Res.bind h1)
    obtain ⟨c, rfl, oa, nf, hn⟩ := q1
    have tru : TruV X.K (.ref c) H1 k := by
      cases oa with
      | lst q qa => exact .inl ⟨_, .inl (.inl q), by rw [dqall_empty qa]; exact (Option.some.inj e).symm⟩
      | dicK q qa => cases e
      | dicT q qa => cases e
    refine ⟨k, tru, ?_⟩
    cases k with
    | false => exact ⟨F1, ρ1, r1, (show Res (mb ρ1) _ _ from h2).mono (fun y ρ2 h2 v2 H2 F2 r2 g2 q2 => h2 v2 H2 F2 r2 (g1.trans g2) (by
        obtain ⟨c', e', oa', nf', hn'⟩ := q2
        exact ⟨c', e', oa', nf', g1.none0 r1 hn'⟩)) (fun _ _ _ k => k.grow g1)⟩
    | true => exact h2 (.ref c) H1 F1 r1 g1 ⟨c, rfl, oa, nf, hn⟩) (fun _ _ _ k => k)⟩

/-! ### xs[::-1], a list -/
/-! ### a dict of the text with text keys and text values -/
structure KD (K : PySem.W.Frag) (w : World) (mg : Str → Option Value) (x : Str) (kvs : List (Str × Str)) : Prop where
  ex : ∃ d es n, mg x = some (.ref d) ∧ KDict K w d es n ∧ ∀ z, match kvs.lookup z with
    | some v => ∃ t, PySem.W.nsIn K d z = some (some (.str v t))
    | none => PySem.W.nsIn K d z = some none
theorem kin {x : Str} {px : Pos} {kvs : List (Str × Str)} (D : KD X.K X.w X.mg x kvs) (hg : Gl X x) (ha : VE X B Γ E a ma) (hdb : (x == ("__debug__" : Str)) = false := by decide) (hm : behindInMarks .In (.Name x px) = false := by rfl) :
    ∃ d es n, ∃ (D' : KDict X.K X.w d es n) (hd : X.mg x = some (.ref d)), (∀ z, match kvs.lookup z with
    | some v => ∃ t, PySem.W.nsIn X.K d z = some (some (.str v t))
    | none => PySem.W.nsIn X.K d z = some none) := by
  obtain ⟨d, es, n, h1, h2, h3⟩ := D.ex
  exact ⟨d, es, n, h2, h1, h3⟩
/-! ### f(k = e, ..) -/
structure VKw (X : Cx) (B : Eb) (Γ : Gm) (E : Wish) (kws : List Keyword) (m : M (List D)) : Prop where
  pk : PK X kws (tVs X.K B Γ E m)
  len : ∀ ρ ds ρ', m ρ = .ok (ds, ρ') → ds.length = kws.length
theorem PK.imp {kws : List Keyword} {t t' : TA} (h : PK X kws t) (i : ∀ σ H Q, t' σ H Q → t σ H Q) : PK X kws t' := ⟨fun p pins s σ H Q I q => h.run p pins s σ H Q I (i σ H Q q)⟩
variable {kws : List Keyword} {ms : M (List D)}
theorem vk_nil : VKw X B Γ E [] mNil := ⟨PK.imp pk_nil fun σ H Q ⟨F, ρ, r, h⟩ => h [] H F r .refl .nil, fun ρ ds ρ' h => by cases h; rfl⟩
theorem vk_cons {nm : Option Str} {kpos : Pos} (ha : VE X B Γ E e ma) (hr : VKw X B Γ E kws ms) : VKw X B Γ E (⟨nm, e, kpos⟩ :: kws) (mCons ma ms) := by
  refine ⟨PK.imp (pk_cons ha hr.pk) fun σ H Q ⟨F, ρ, r, h⟩ => ?_, fun ρ ds ρ' h => ?_⟩
  · refine ⟨F, ρ, r, (Res.bind h).mono (fun x ρ1 h1 v1 H1 F1 r1 g1 q1 => ⟨F1, ρ1, r1, (Res.bind h1).mono (fun y ρ2 h2 v2 H2 F2 r2 g2 q2 => h2 _ H2 F2 r2 (g1.trans g2) (.cons (q1.grow (g2.g r1)) q2)) (fun _ _ _ k => k.grow g1)⟩) (fun _ _ _ k => k)⟩
  · unfold mCons M.bind at h
    cases e1 : ma ρ with
    | stuck => rw [e1] at h; cases h
    | exc c fs ρ1 => rw [e1] at h; cases h
    | ok p =>
      rw [e1] at h
      cases e2 : ms p.2 with
      | stuck => simp only [R.bind, e2] at h; cases h
      | exc c fs ρ1 => simp only [R.bind, e2] at h; cases h
      | ok q =>
        simp only [R.bind, e2, M.pure] at h
        cases h
        show q.1.length + 1 = kws.length + 1
        rw [hr.len p.2 q.1 q.2 e2]
/-- the arguments by the places ix of the written ones -/
def pick {α : Type} (ix : List Nat) (l : List α) : List α := ix.filterMap fun i => l[i]?
def mCallK (f : Fn) (ix : List Nat) (m : M (List D)) : M D := fun ρ => (m ρ).bind fun p => match f (pick ix p.1) with
  | .ok q => if q.2 = [] then .ok (q.1, p.2) else .stuck
  | .exc c fs _ => .exc c fs p.2
  | .stuck => .stuck
theorem pick_len {α : Type} {n : Nat} {l : List α} (hl : l.length = n) : ∀ {ix : List Nat}, (∀ i ∈ ix, i < n) → (pick ix l).length = ix.length
  | [], _ => rfl
  | i :: ix, h => by
    have hi : i < l.length := by rw [hl]; exact h i (List.mem_cons_self ..)
    unfold pick
    rw [List.filterMap_cons_some (List.getElem?_eq_getElem hi), List.length_cons]
    exact congrArg (· + 1) (pick_len hl fun j hj => h j (List.mem_cons_of_mem _ hj))
theorem pick_vals {vs : List V} {us : List Value} (r : Vals vs us) : ∀ (ix : List Nat), Vals (pick ix vs) (pick ix us)
  | [] => .nil
  | i :: ix => by
    unfold pick
    cases e : vs[i]? with
    | none =>
      rw [List.filterMap_cons_none e, List.filterMap_cons_none (r.none_of e)]
      exact pick_vals r ix
    | some v =>
      obtain ⟨u, hu, rv⟩ := r.get e
      rw [List.filterMap_cons_some e, List.filterMap_cons_some hu]
      exact .cons rv (pick_vals r ix)
theorem pick_dq {K : PySem.W.Frag} {F : Fz} {H : Hp} {vs : List V} {ds : List D} (r : DqAll K F H vs ds) : ∀ (ix : List Nat), DqAll K F H (pick ix vs) (pick ix ds)
  | [] => .nil
  | i :: ix => by
    unfold pick
    cases e : vs[i]? with
    | none =>
      have e2 : ds[i]? = none := by
        have := List.getElem?_eq_none_iff.mp e
        exact List.getElem?_eq_none_iff.mpr (by rw [← r.length]; exact this)
      rw [List.filterMap_cons_none e, List.filterMap_cons_none e2]
      exact pick_dq r ix
    | some v =>
      obtain ⟨u, hu, rv⟩ := r.get' e
      rw [List.filterMap_cons_some e, List.filterMap_cons_some hu]
      exact .cons rv (pick_dq r ix)
theorem args_dat {K : PySem.W.Frag} {F : Fz} {H : Hp} : ∀ {vs : List V} {ds : List D} {n : Nat}, DqAll K F H vs ds → vs.length = n → ArgsAt K F H (List.replicate n false) vs ds ∧ mAs (List.replicate n false) vs = []
  | _, _, 0, .nil, _ => ⟨.nil, rfl⟩
  | _, _, n + 1, .nil, h => by cases h
  | _, _, 0, .cons _ _, h => by cases h
  | v :: vs, _, n + 1, .cons q r, h => by
    obtain ⟨h1, h2⟩ := args_dat r (Nat.succ.inj h)
    refine ⟨.dat q h1, ?_⟩
    cases v <;> exact h2
variable {Ek : XK} {k : Nat} {x : Str} {st : Stmt} {ps ks : List Str} {fn : Fn} {es : List Expr}
theorem callk {n : Nat} {ix : List Nat} {F : Fz} {H : Hp} {F1 : Fz} {H1 : Hp} {ρ ρ1 : Env} {σ : St} {vs : List V} {ds : List D} {Q : VK} (r : Rel X.K Γ F ρ σ H) (r1 : Rel X.K Γ F1 ρ1 σ H1) (k1 : Kp Γ.O σ F H F1 H1) (q : DqAll X.K F1 H1 vs ds) (hl : vs.length = n) (hix : ∀ i ∈ ix, i < n)
    (h : Res (match fn (pick ix ds) with
      | .ok q => if q.2 = [] then .ok (q.1, ρ1) else .stuck
      | .exc c fs _ => .exc c fs ρ1
      | .stuck => (.stuck : R (D × Env))) (fun d ρ' => ∀ v H' F', Rel X.K Γ F' ρ' σ H' → Kp Γ.O σ F H F' H' → Dq X.K F' H' v d → Q v H') (Kex X.K B Γ (fun _ => Ek) σ F H)) : spV X.K B (List.replicate ix.length false) false fn (pick ix vs) H1 Q Ek := by
  obtain ⟨a1, a2⟩ := args_dat (pick_dq q ix) (pick_len hl hix)
  refine ⟨F1, pick ix ds, r1.trk, a1, by rw [a2]; exact .nil, ?_⟩
  cases e3 : fn (pick ix ds) with
  | stuck => rw [e3] at h; exact h.elim
  | exc c fs ρ' =>
    rw [e3] at h
    exact ⟨a2, fun H' F' od ex xa => h F' H' od (r1.to ex) (k1.trans ex.kp) xa⟩
  | ok p =>
    rw [e3] at h
    intro v H' F' fr out res
    rw [a2] at fr out
    have ex := fr.ext
    cases eo : p.2 with
    | nil =>
      simp only [if_pos eo] at h
      exact h v H' F' (r1.to ex) (k1.trans ex.kp) res
    | cons d ds' =>
      rw [eo] at out
      cases out
theorem ve_doK0 {n : Nat} {ix : List Nat} (c : Cal X.prog X.w X.K X.mg X.base B k x st ps (List.replicate ix.length false) false fn) (hr : Room k X.A) (hx : Passes (L2.CX X.prog X.w) X Ek) (hkw : VKw X B (G.w Ps O) (fun _ => Ek) kws ms) (hn : kws.length = n) (hkn : ks.length = n)
    (hb : ∀ (kV doc pm : Value) (an : Option Addr) (cdv ct : Value) (ws : List Value), ws.length = n → bindArgs (PySem.W.fnOf x x (defArgs st) (defBody st) (defScope st) .none kV doc pm an cdv ct) ⟨[], ks.zip ws⟩ = pure (ps.zip (pick ix ws)))
    (hix : ∀ i ∈ ix, i < n := by decide) (hg : Gl X x := by rfl) (hall : (backToKw pos (keywordEach kws X.env)).all (·.1.isSome) = true := by rfl) (hks : (backToKw pos (keywordEach kws X.env)).filterMap (·.1) = ks := by rfl) (hdb : (x == ("__debug__" : Str)) = false := by decide)
    (hpl : ((backTo pos (starEach [] X.env)).any (·.1) || (backToKw pos (keywordEach kws X.env)).any (·.1.isNone)) = false := by rfl) : VE X B (G.w Ps O) (fun _ => Ek) (.Call (.Name x p) [] kws pos) (mCallK fn ix ms) := by
  obtain ⟨a, fd, h1, h2, h3, h4⟩ := c.ex
  have kb : KBn X.K fd ps 0 ks (fun us ws => pick ix ws) (fun vs zs => pick ix zs) := by
    refine ⟨fun s us ws kin lu lw => ?_, fun rv rz => pick_vals rz ix⟩
    obtain ⟨oc, od, dV, kV, doc, pm, an, cdv, ct, osl, rfl, lk, hcd, hdf, _⟩ := h3.ex
    have e0 : us = [] := List.length_eq_zero_iff.mp lu
    subst e0
    rcases hdf with ⟨_, rfl⟩ | ⟨z, _⟩
    · exact .of_eq (hb kV doc pm an cdv ct ws (by rw [lw, hkn]))
    · exact absurd rfl z
  refine ⟨fun pins s σ H Q I h => ?_⟩
  obtain ⟨F, ρ, r, h⟩ := h
  refine wpAny_Call_Name_kw (ld_glob I hg h2 ?_ hdb)
  refine PySem.W.callWith_KW0 (h₀ := X.base) I.ok.mod.kin h3.kp hall ?_ hpl
  have hh : tVs X.K B (G.w Ps O) (fun _ => Ek) ms σ H (fun zs H2 => zs.length = n ∧ spV X.K B (List.replicate ix.length false) false fn (pick ix zs) H2 Q Ek) := by
    refine ⟨F, ρ, r, ?_⟩
    unfold mCallK at h
    cases e1 : ms ρ with
    | stuck => rw [e1] at h; exact h.elim
    | exc c fs ρ' => rw [e1] at h; exact h
    | ok q =>
      obtain ⟨ds, ρ1⟩ := q
      rw [e1] at h
      intro vs H1 F1 r1 k1 q1
      have hl : vs.length = n := by rw [q1.length, hkw.len ρ ds ρ1 e1, hn]
      exact ⟨hl, callk r r1 k1 q1 hl hix h⟩
  refine thn (hkw.pk.run pos pins s σ H _ I hh) fun ws s2 ⟨zs, H2, I2, rz, l2, q2⟩ => ⟨I2.kIn, ?_⟩
  rw [hks]
  exact run_fnN (us := []) (vs := []) h1 hr kb hx I2 .nil rz rfl (by rw [l2, hkn]) q2
def mApp2 (ma mk : M (List D)) : M (List D) := ma.bind fun xs => mk.bind fun ys => M.pure (xs ++ ys)
end
end VL
end

section
set_option Elab.async false
set_option linter.all false
set_option maxRecDepth 100000
set_option maxHeartbeats 4000000
namespace VL
open PySem PySem.Spec PyProof.Rows L2
set_option autoImplicit false

/-! ### raise -/
def mRaise1 (c : Nat) (m : M D) : M Fl := m.bind fun d => fun ρ => .exc c [d] ρ
section
variable {X : Cx} {B : Eb} {G : Gd} {Ps O On Ol : List Nat} {ro : Bool} {e : Expr} {me : M D}
theorem vs_raise1 {W : WX} {c : Nat} {f : Str} {eC : Expr} {pos : Pos} (hB : B.fld c = [f]) (hc : X.calm = true) (tk : Takes X W) (ha : VA X B (G.w Ps O) (WE W) [e] (mCons me mNil))
    (hm : PMk X eC (tMk1 (B.cls c) f (tVs X.K B (G.w Ps O) (WE W) (mCons me mNil)))) : VS X B G Ps (WE W) ro O On Ol (.Raise (some eC) none pos) (mRaise1 c me) :=
  PS.imp (ps_raise hc tk hm) fun N σ H ⟨F, ρ, r, h⟩ => by
    refine ⟨F, ρ, r, ?_⟩
    unfold mCons mNil
    have h' := Res.bind (show Res (me.bind (fun d => fun ρ => (.exc c [d] ρ : R (Fl × Env))) ρ) _ _ from h)
    unfold M.bind
    cases q : me ρ with
    | stuck => rw [q] at h'; exact h'
    | exc c' fs ρ' =>
      rw [q] at h'
      exact KexS.ex h' r
    | ok p =>
      obtain ⟨d, ρ1⟩ := p
      rw [q] at h'
      have hx : KexS X.K B G Ps (WE W) F H c [d] ρ1 := h'
      show ∀ vs H1 F1, Rel X.K (G.w Ps O) F1 ρ1 σ H1 → Kp (G.w Ps O).O σ F H F1 H1 → DqAll X.K F1 H1 vs [d] → _
      intro vs H1 F1 r1 k1 qv
      cases qv with
      | @cons v _ _ _ qd qn =>
        cases qn
        refine ⟨v, rfl, fun dx n => ?_⟩
        have ex := Ext.alloc (o := .xd [(f, v)]) r1.trk n
        refine hx O σ _ _ (some dx) (r1.to ex) ((k1.trans ex.kp).g r) (.inr ⟨dx, [v], by simp, rfl, .inr rfl, ?_, .cons (qd.grow (ex.grow r1.trk)) .nil, by rw [hB] <;> rfl⟩)
        rw [hB, upd_same] <;> rfl
end

/-! ### a call whose exception is caught here -/
section
variable {X : Cx} {B : Eb} {G : Gd} {Ps O : List Nat} {E : Wish} {k : Nat} {x : Str} {st : Stmt} {ps ks : List Str} {p pos : Pos} {e : Expr} {es : List Expr} {sl : List Sl} {m ms : M (List D)} {mb : List Bool} {fn : Fn} {kws : List Keyword}
theorem ve_doT (hx : ∀ σ, PassesAt (L2.CX X.prog X.w) X σ (E σ)) (c : Cal X.prog X.w X.K X.mg X.base B k x st ps mb false fn) (hr : Room k X.A) (ha : VM X B (G.w Ps O) E (e :: es) sl m) (hg : Gl X x := by rfl) (ho : ∀ j ∈ slots sl, j ∈ O := by decide) (hms : sl.map Sl.m = mb := by rfl) (nd : (slots sl).Nodup := by decide)
    (hdb : (x == ("__debug__" : Str)) = false := by decide) (he : starEach (e :: es) X.env = (false, eval e X.env) :: starEach es X.env := by rfl) (hpl : (backTo pos (starEach es X.env)).any (·.1) = false := by rfl) : VE X B (G.w Ps O) E (.Call (.Name x p) (e :: es) [] pos) (mCallF fn sl m) := by
  obtain ⟨a, fd, h1, h2, h3, h4⟩ := c.ex
  refine PE.imp (pe_callS (E := E) h1 hr hg h2 h3.kp h4 hx ha hdb he hpl) fun σ H Q h => ?_
  have z := callt (X := X) (Ek := E σ) (ro := false) (m := m) hms nd ho (show tG (fun H F' H' v d => ResAt X.K false H F' H' v d) X.K B (G.w Ps O) (fun _ => E σ) (mCallF fn sl m) σ H Q from h)
  obtain ⟨F, ρ, r, z⟩ := z
  refine ⟨F, ρ, r, z.mono (fun ds ρ1 h1 vs H' F' r1 k1 q1 => ?_) (fun _ _ _ k => k)⟩
  have y : spV X.K B mb false fn (vs ++ []) H' Q (E σ) := h1 vs H' F' r1 k1 q1
  rw [List.append_nil] at y
  exact y
end

/-! ### try: what is caught stays as a value -/
/-- this program's classes of errors -/
def xN : Nat → Str
  | 0 => "NoName" | 1 => "NoPlace" | 2 => "NoNumber" | 3 => "NothingDone" | 4 => "NoValues" | 5 => "StartKnown" | 6 => "Twice" | 7 => "BadText" | 8 => "BadLine" | _ => ""
def xF : Nat → List Str
  | 0 => ["name"] | 1 => ["place"] | 2 => ["number"] | 6 => ["name"] | 8 => ["number"] | _ => []
def xD : Nat → List D → Option D
  | c, [] => if xF c = [] then some (excD (xN c) []) else none
  | c, [d] => match xF c with
    | [x] => some (excD (xN c) [(.str x, d)])
    | _ => none
  | _, _ => none
abbrev ClM := (Nat → Option Bool) × Nat × M Fl
def runCl : List ClM → Nat → List D → M Fl
  | [], c, fs => fun ρ => .exc c fs ρ
  | q :: r, c, fs => fun ρ => match q.1 c with
    | none => .stuck
    | some false => runCl r c fs ρ
    | some true => match xD c fs with
      | none => .stuck
      | some d => match q.2.2 (ρ.set q.2.1 (some d)) with
        | .ok p => .ok (p.1, p.2.set q.2.1 none)
        | _ => .stuck
def mTry (m : M Fl) (l : List ClM) : M Fl := fun ρ => match m ρ with
  | .ok p => .ok p
  | .exc c fs ρ' => runCl l c fs ρ'
  | .stuck => .stuck

section
variable {K : PySem.W.Frag} {Γ : Gm} {F : Fz} {ρ : Env} {σ : St} {H : Hp}
theorem Rel.unset (r : Rel K Γ F ρ σ H) {i : Nat} (hp : ∀ a, (i, a) ∉ Γ.P) : Rel K Γ F (ρ.set i none) (σ.set i none) H := by
  have key : ∀ {j : Nat} {d : D}, (ρ.set i none)[j]? = some (some d) → j ≠ i ∧ ρ[j]? = some (some d) := fun {j d} h => by
    by_cases c : i = j
    · subst c
      by_cases l : i < ρ.length
      · rw [List.getElem?_set_self l] at h; cases h
      · rw [List.getElem?_eq_none (by simpa using l)] at h; cases h
    · rw [List.getElem?_set_ne c] at h
      exact ⟨fun z => c z.symm, h⟩
  have keyS : ∀ {j : Nat} {v : V}, (σ.set i none)[j]? = some (some v) → j ≠ i ∧ σ[j]? = some (some v) := fun {j v} h => by
    by_cases c : i = j
    · subst c
      by_cases l : i < σ.length
      · rw [List.getElem?_set_self l] at h; cases h
      · rw [List.getElem?_eq_none (by simpa using l)] at h; cases h
    · rw [List.getElem?_set_ne c] at h
      exact ⟨fun z => c z.symm, h⟩
  have put : ∀ {j : Nat} {v : V}, j ≠ i → σ[j]? = some (some v) → (σ.set i none)[j]? = some (some v) := fun {j v} n h => by rw [List.getElem?_set_ne fun z => n z.symm]; exact h
  have putD : ∀ {j : Nat} {d : D}, j ≠ i → ρ[j]? = some (some d) → (ρ.set i none)[j]? = some (some d) := fun {j v} n h => by rw [List.getElem?_set_ne fun z => n z.symm]; exact h
  refine ⟨by rw [List.length_set, List.length_set]; exact r.len, r.trk, fun j d h n => ?_, fun j d h n => ?_, fun j k a d e hj hk h1 h2 h3 h4 => ?_, fun j a h => ?_, r.ext, r.fro, r.frm, fun j hj v h => ?_⟩
  · obtain ⟨c, h⟩ := key h
    obtain ⟨v, h1, h2⟩ := r.val j d h n
    exact ⟨v, put c h1, h2⟩
  · obtain ⟨c, h⟩ := key h
    obtain ⟨a, h1, h2⟩ := r.own j d h n
    exact ⟨a, put c h1, h2⟩
  · exact r.inj j k a d e hj hk (key h1).2 (key h2).2 (keyS h3).2 (keyS h4).2
  · obtain ⟨h1, ⟨d, h2⟩, h3⟩ := r.pin j a h
    have c : j ≠ i := fun z => hp a (z ▸ h)
    exact ⟨h1, ⟨d, putD c h2⟩, put c h3⟩
  · obtain ⟨c, h⟩ := keyS h
    obtain ⟨d, h⟩ := r.dom j hj v h
    exact ⟨d, putD c h⟩
end

section
variable {X : Cx} {B : Eb} {G : Gd} {ro : Bool} {On Ol : List Nat}
/-- nothing leaves a suite -/
abbrev noE : Wish := fun _ _ _ _ => False
structure NmB (K : PySem.W.Frag) (B : Eb) : Prop where
  nm : ∀ c, c < 9 → B.fld c = xF c
inductive ClV (X : Cx) (B : Eb) (G : Gd) (ro : Bool) (On Ol : List Nat) : List ExceptHandler → List ClM → Prop
  | nil : ClV X B G ro On Ol [] []
  | cons {x n : Str} {cv : Value} {i : Nat} {b₀ : Stmt} {suite : List Stmt} {np pos' : Pos} {hds : List ExceptHandler} {l : List ClM} {t : Nat → Option Bool} {m : M Fl} (hc : Names X x cv) (hi : X.N[i]? = some n) (hl : X.env.kindOf n = some .local)
      (ht : ∀ c b, t c = some b → PySem.W.exmOne X.K (.ref (B.cls c)) cv = some b ∧ B.fld c = xF c ∧ ClsN X.K (xN c) (B.cls c))
      (hsu : ∀ (a : Addr) (pn : List (Addr × Obj)), VSs (X.suite a pn) B G [] noE ro [] On Ol (b₀ :: suite) m) (r : ClV X B G ro On Ol hds l) : ClV X B G ro On Ol (.ExceptHandler (some (.Name x np)) (some n) (b₀ :: suite) pos' :: hds) ((t, i, m) :: l)
/-- a suite's reading, whatever was owned ahead -/
def tCl (X : Cx) (B : Eb) (G : Gd) (ro : Bool) (On Ol : List Nat) (m : M Fl) : TS := fun N σ H => ∃ O', tS X.K B G [] noE ro O' On Ol m N σ H
/-- the clauses' wish, met -/
theorem clWish {Wout : WX} {N : Ends} {F : Fz} {H : Hp} {hds : List ExceptHandler} {l : List ClM} (h : ClV X B G ro On Ol hds l) :
    ∃ cl : List Clause, ClOk X hds cl ∧ ∀ (c : Nat) (fs : List D) (ρ : Env) (F : Fz) (H : Hp) (N : Ends), Res (runCl l c fs ρ) (kS X.K G [] ro On Ol F H N) (KexS X.K B G [] (WE Wout) F H) → KexS X.K B G [] (WE (wCl X.K Wout N cl)) F H c fs ρ := by
  induction h with
  | nil => exact ⟨[], .nil, fun c fs ρ F H N h => h⟩
  | @cons x n cv i b₀ suite np pos' hds l t m hc hi hl ht hsu r ih =>
    obtain ⟨cl, ck, hw⟩ := ih
    refine ⟨(cv, i, tCl X B G ro On Ol m) :: cl, .cons hc hi hl (fun a pn => ⟨fun pins s σ H N I ⟨O', h⟩ => (vss_frz (hsu a pn) (by simp) (by simp)).run pins s σ H N I h⟩) ck, fun c fs ρ F H N h => ?_⟩
    have h' : Res (match t c with
      | none => (.stuck : R (Fl × Env))
      | some false => runCl l c fs ρ
      | some true => match xD c fs with
        | none => .stuck
        | some d => match m (ρ.set i (some d)) with
          | .ok p => .ok (p.1, p.2.set i none)
          | _ => .stuck) (kS X.K G [] ro On Ol F H N) (KexS X.K B G [] (WE Wout) F H) := h
    cases et : t c with
    | none => rw [et] at h'; exact h'.elim
    | some b =>
      obtain ⟨hm, hf, hn⟩ := ht c b et
      cases b with
      | false =>
        rw [et] at h'
        have z := hw c fs ρ F H N h'
        exact fun O' σ' F' H' od r g xa => ⟨false, hm, fun y => (by cases y), fun _ => z O' σ' F' H' od r g xa⟩
      | true =>
        rw [et] at h'
        refine fun O' σ' F' H' od r g xa => ⟨true, hm, fun _ => ⟨_, rfl, fun a na => ?_⟩, fun z => (by cases z)⟩
        dsimp only at h'
        have ex := Ext.alloc (o := xob a (B.cls c) od) r.trk na
        -- the value of what is caught
        have hd : ∀ d, xD c fs = some d → Dq X.K (fun b => F' b ∨ b = a) (upd H' a (xob a (B.cls c) od)) (.ref a) d := fun d e => by
          rcases xa with ⟨rfl, e2, rfl⟩ | ⟨dd, vs, ne, rfl, fdd, hdd, qv, ln⟩
          · rw [hf] at e2
            have e' : (if xF c = [] then some (excD (xN c) []) else none) = some d := e
            rw [if_pos e2] at e'
            cases e'
            exact .exn0 (.inr rfl) upd_same hn
          · rw [hf] at hdd ln
            cases qv with
            | nil => exact absurd rfl ne
            | @cons v vs' d0 ds' qd qr =>
              cases qr with
              | cons _ _ => cases e
              | nil =>
                have e' : (match xF c with
                  | [x] => some (excD (xN c) [(.str x, d0)])
                  | _ => none) = some d := e
                cases ef : xF c with
                | nil => rw [ef] at ln; cases ln
                | cons y ys =>
                  cases ys with
                  | cons _ _ => rw [ef] at ln; cases ln
                  | nil =>
                    rw [ef] at e' hdd
                    cases e'
                    have nd : dd ≠ a := fun z => by rw [z, na] at hdd; cases hdd
                    exact .exn1 (.inr rfl) upd_same hn (.inl fdd) (by rw [upd_ne nd]; exact hdd) (qd.grow (ex.grow r.trk))
        cases ed : xD c fs with
        | none => rw [ed] at h'; exact h'.elim
        | some d =>
          rw [ed] at h'
          dsimp only at h'
          have r2 := r.to ex
          have r3 := r2.setD (i := i) (hd d ed) (fun a z => by cases z)
          refine ⟨_, _, _, r3, ?_⟩
          cases em : m (ρ.set i (some d)) with
          | stuck => rw [em] at h'; exact h'.elim
          | exc _ _ _ => rw [em] at h'; exact h'.elim
          | ok p =>
            rw [em] at h'
            obtain ⟨f, ρ1⟩ := p
            have g2 : Grow F H (fun b => F' b ∨ b = a) (upd H' a (xob a (B.cls c) od)) := g.trans (ex.grow r.trk)
            have h2 : kS X.K G [] ro On Ol F H N f (ρ1.set i none) := h'
            show kS X.K G [] ro On Ol _ _ (offN i N) f ρ1
            cases f with
            | nx => exact fun σ1 H1 F1 q1 g1 => h2 (σ1.set i none) H1 F1 (q1.unset fun a z => by cases z) (g2.trans g1)
            | bk => exact fun σ1 H1 F1 q1 g1 => h2 (σ1.set i none) H1 F1 (q1.unset fun a z => by cases z) (g2.trans g1)
            | ct => exact fun σ1 H1 F1 q1 g1 => h2 (σ1.set i none) H1 F1 (q1.unset fun a z => by cases z) (g2.trans g1)
            | rt d1 => exact fun O1 v σ1 H1 F1 q1 g1 ra => h2 O1 v (σ1.set i none) H1 F1 (q1.unset fun a z => by cases z) (g2.trans g1) ra
end
end VL
end

section
set_option Elab.async false
set_option linter.all false
set_option maxRecDepth 100000
set_option maxHeartbeats 4000000
namespace PySem.W
open PySem PySem.Spec PySem.Calls PyProof.Rows
set_option autoImplicit false
section
variable {prog : Program} {w : World} {A : Around} {E : Value → Shared → Prop} {s : Shared} {K : Frag} {x D : Addr} {ox : Obj} {od : Option Obj}
theorem vfind_data {C : Addr} {nm : Str} {a g : Value} (hc : (clsIn K C).isSome = true) (ha : findIn K (.ref C) nm = some (some a)) (hg : specialIn K a "__get__" = some (some g)) (ht : takesIn K a = some true) : findObj K C od nm = some (.bind g a) := by
  obtain ⟨cd, hc⟩ := Option.isSome_iff_exists.mp hc
  unfold findObj
  rw [hc, Option.bind_some, ha, Option.bind_some]
  simp [hg, ht]
theorem vclass_of {Q : Option Value → Shared → Prop} (T : L2.ExcC K D) (X : K.In s.heap) (I : InstAt s.heap x ox D od) (h : Q (some (.ref D)) { s with toks := s.toks + 1 }) : wpAny (model prog w) A (getAttr? (.ref x) "__class__") Q E s := by
  have hf : findObj K D od "__class__" = some (.bind (.builtin "getset_descriptor.__get__") (.builtin "object.__class__")) := vfind_data (by obtain ⟨cd, hc, _⟩ := any_some T.hd; rw [hc]; rfl) T.ha T.hn T.ht
  obtain ⟨hp, g, d, t, os⟩ := s
  have T0 := I.type (M := model prog w)
  have T1 := looks_findIn (M := model prog w) X T.hg
  have T2 := looks_findIn (M := model prog w) X T.hk
  have T3 := looks_find (M := model prog w) X I hf
  have under : Looks (model prog w) hp (isInstance (.ref x) (.type "BaseException")) true := T0.andThen (looks_subIn X T.hs)
  have no1 : (false && onTheHeap (Value.builtin "BaseException.__getattribute__")) = false := rfl
  have no2 : (Value.builtin "BaseException.__getattribute__" == Value.builtin "object.__getattribute__") = false := by decide +kernel
  have no3 : (onTheHeap (Value.ref D) && Value.builtin "BaseException.__getattribute__" == Value.builtin "object.__getattribute__") = false := by rw [no2]; rfl
  unfold getAttr? getAttrBy? getAttrBy
  refine wpAny_bind (wpAny_mkText (wpAny_bind (wpAny_attempt (wpAny_holding (wpAny_bind (T0.at (wpAny_bind (T1.at ?_))))))))
  show wpAny _ _ (if (onTheHeap (Value.ref D) && Value.builtin "BaseException.__getattribute__" == Value.builtin "object.__getattribute__") = true then _ else _) _ _ _
  rw [no3, if_neg Bool.false_ne_true]
  unfold getAttrByItsOwn hookBefore
  refine wpAny_bind ?_
  rw [if_pos (show onTheHeap (Value.ref D) = true from rfl)]
  refine T2.at (wpAny_bind (wpAny_attempt (wpAny_holding ?_)))
  unfold callGetattribute
  rw [no1, if_neg Bool.false_ne_true]
  unfold boundAndCalled
  rw [PySem.F.excAttr_ValueError.ga.bind (.ref x)]
  refine wpAny_bind (wpAny_pure ?_)
  show wpAny _ _ (call (.builtin "BaseException.__getattribute__") [.ref x, .str "__class__" t]) _ _ _
  refine wpAny_call (codeAny_call_builtin PySem.F.excAttr_ValueError.ga.plain PySem.F.entry_bexc_ga ?_)
  refine @check_slot (model prog w) _ _ ⟨hp, g, d, t + 1, os⟩ "BaseException.__getattribute__" "BaseException" "__getattribute__" (.ref x) [.str "__class__" t] [] _ (by decide +kernel) (by decide +kernel) under (PySem.F.args_bexc_ga (.ref x) (.str "__class__" t)) ?_
  unfold Builtin.«object.__getattribute__»
  refine wpAny_bind (wpAny_of_eq (a := ((Value.ref x : Value), [Value.str "__class__" t])) (by first | rfl | (simp only [slotArgs]; rfl)) ?_)
  refine wpAny_bind (wpAny_pure (wpAny_bind (T0.at (wpAny_bind (T3.at ?_)))))
  show wpAny _ _ (holding [Value.builtin "object.__class__"] (call (.builtin "getset_descriptor.__get__") [.builtin "object.__class__", .ref x, .ref D]) >>= ret) _ _ _
  refine wpAny_bind (wpAny_holding (wpAny_call (class_get (s := ⟨hp, g, d, t + 1, os⟩) (ox := ox) (od := od) X I T.hm ?_)))
  refine wpAny_pure ?_
  show wpAny _ _ (handedOut (.ref D)) _ _ _
  rw [handedOut_of (v := .ref D) rfl]
  first
    | exact wpAny_pure (wpAny_pure h)
    | exact wpAny_pure h
    | exact wpAny_pure (wpAny_bind (wpAny_pure (wpAny_pure h)))
theorem vkitx {odx : Option Obj} (T : L2.ExcC K D) : KitX K (.ref x) (.ref D) (fun h => ∃ ox od, InstAt h x ox D od) where
  ty := fun _ _ _ I => by
    obtain ⟨ox, od, I⟩ := I
    exact I.type
  it := fun _ _ X _ => by
    obtain ⟨cd, hc, _⟩ := any_some T.hd
    unfold clsIn at hc
    split at hc
    · rename_i c' d' cd' sl' ho
      intro A' Q' E' s' k q
      unfold isType loadHead
      exact wpAny_bind (wpAny_loadPart (k _ _ (X _ _ ho)) (wpAny_pure q))
    · cases hc
  ne := fun h tp dd its n sl X htp => by
    obtain ⟨cd, hc, _⟩ := any_some T.hd
    refine Bool.eq_false_iff.mpr fun q => ?_
    have e : D = tp := Value.ref.inj (beq_iff_eq.mp q)
    subst e
    unfold clsIn at hc
    split at hc
    · rename_i c' d' cd' sl' ho
      have z := (X _ _ ho).symm.trans htp
      cases z
    · cases hc
  ca := fun X I k => by
    obtain ⟨ox, od, I⟩ := I
    exact vclass_of T X I k
end
end PySem.W

namespace VL
open PySem PySem.Spec PyProof.Rows L2
set_option autoImplicit false
section
variable {X : Cx} {B : Eb} {G : Gd} {ro : Bool} {O On Ol : List Nat} {body : List Stmt} {h₀ : ExceptHandler} {hds : List ExceptHandler} {l : List ClM} {m : M Fl} {pos : Pos} {E : XK}
theorem vs_try (hs : X.stack = X.env :: X.outer) (hf : X.env.frame = some X.env.locals) (hex : X.ex = []) (hN : X.N.Nodup) (tk : Takes X (fun cls d _ H => E cls d H))
    (hb : ∀ (W : WX) (pn : List (Addr × Obj)) (xe : Value → Shared → Prop), Takes (X.tr pn xe) W → PassesOwn (model X.prog X.w) X.A X.env xe → VSs (X.tr pn xe) B G [] (WE W) ro O On Ol body m)
    (hc : ClV X B G ro On Ol (h₀ :: hds) l) : VS X B G [] (fun _ => E) ro O On Ol (.Try body (h₀ :: hds) [] [] pos) (mTry m l) := by
  obtain ⟨cl, ck, hw⟩ := clWish (Wout := fun cls d _ H => E cls d H) (N := ⟨fun _ _ => True, fun _ _ => True, fun _ _ => True, fun _ _ => True⟩) (F := fun _ => True) (H := fun _ => none) hc
  refine PS.imp (ps_try_cl hs hf hex hN tk (tb := fun W => tS X.K B G [] (WE W) ro O On Ol m) hb ck) fun N σ H ⟨F, ρ, r, h⟩ => ⟨F, ρ, r, ?_⟩
  unfold mTry at h
  cases q : m ρ with
  | stuck => rw [q] at h; exact h.elim
  | ok p => rw [q] at h; exact h
  | exc c fs ρ' =>
    rw [q] at h
    exact hw c fs ρ' F H N h
end

/-! ### what is caught, asked -/
def gFld (nms : List Str) (f : Str) : D → Option D
  | .dict [(.none, .str nm), (.str x, d)] => if nms.contains nm = true then (if x = f then some d else none) else none
  | _ => none
section
variable {K : PySem.W.Frag} {F : Fz} {H : Hp} {v : V} {d d' : D}
theorem gFld_ok {nms : List Str} {f : Str} (q : Dq K F H v d) (e : gFld nms f d = some d') : ∃ (a C dd : Addr) (nm : Str) (w : V), v = .ref a ∧ H a = some (xob a C (some dd)) ∧ nm ∈ nms ∧ ClsN K nm C ∧ H dd = some (.xd [(f, w)]) ∧ Dq K F H w d' := by
  cases q with
  | @exn1 a C dd nm x w d0 h r c h' r' qd =>
    have e' : (if nms.contains nm = true then (if x = f then some d0 else none) else none) = some d' := e
    by_cases c1 : nms.contains nm = true
    · rw [if_pos c1] at e'
      by_cases c2 : x = f
      · rw [if_pos c2] at e'
        cases e'
        subst c2
        exact ⟨a, C, dd, nm, w, rfl, r, by simpa using c1, c, r', qd⟩
      · rw [if_neg c2] at e'; cases e'
    · rw [if_neg c1] at e'; cases e'
  | dicK _ _ qa =>
    cases qa with
    | nil => cases e
    | @cons k v vs d ds q r => cases k <;> cases e
  | scr _ _ => cases e
  | exn0 _ _ _ => cases e
  | dicT _ _ _ => cases e
  | _ => cases e
/-- isinstance of what was caught: tab by the class's name, nb for None -/
def gIsx (tab : Str → Option Bool) (nb : Option Bool) : D → Option D
  | .none => nb.map .bool
  | .dict ((.none, .str nm) :: _) => (tab nm).map .bool
  | _ => none
theorem gIsx_ok {tab : Str → Option Bool} {nb : Option Bool} (q : Dq K F H v d) (e : gIsx tab nb d = some d') : (v = .non ∧ ∃ b, nb = some b ∧ d' = .bool b) ∨ ∃ (a C : Addr) (od : Option Addr) (nm : Str) (b : Bool), v = .ref a ∧ H a = some (xob a C od) ∧ ClsN K nm C ∧ tab nm = some b ∧ (∀ dd, od = some dd → ∃ o, H dd = some o) ∧ d' = .bool b := by
  cases q with
  | non =>
    obtain ⟨b, h1, rfl⟩ := Option.map_eq_some_iff.mp (show nb.map .bool = some d' from e)
    exact .inl ⟨rfl, b, h1, rfl⟩
  | @exn1 a C dd nm x w d0 h r c h' r' qd =>
    obtain ⟨b, h1, rfl⟩ := Option.map_eq_some_iff.mp (show (tab nm).map .bool = some d' from e)
    exact .inr ⟨a, C, _, nm, b, rfl, r, c, h1, fun _ z => by cases z; exact ⟨_, r'⟩, rfl⟩
  | @exn0 a C nm h r c =>
    obtain ⟨b, h1, rfl⟩ := Option.map_eq_some_iff.mp (show (tab nm).map .bool = some d' from e)
    exact .inr ⟨a, C, _, nm, b, rfl, r, c, h1, (fun _ z => by cases z), rfl⟩
  | dicK _ _ qa =>
    cases qa with
    | nil => cases e
    | @cons k v vs d ds q r => cases k <;> cases e
  | scr _ _ => cases e
  | dicT _ _ _ => cases e
  | _ => cases e
end
section
variable {X : Cx} {B : Eb} {Γ : Gm} {E : Wish} {e : Expr} {me : M D} {p pos : Pos}
theorem xob_inst {P : Program} {w : World} {H : Hp} {h : Heap} {a C : Addr} {od : Option Addr} (ok : HOk P w H h) (ha : H a = some (xob a C od)) (hd : ∀ dd, od = some dd → ∃ o, h.get? dd = some o) :
    ∃ (o : Obj) (oo : Option Obj), PySem.W.InstAt h a o C oo ∧ (∀ dd, od = some dd → ∃ o', oo = some o' ∧ h.get? dd = some o') := by
  obtain ⟨o, vs, q1, q2, q3, q4⟩ := xob_at ok ha
  cases od with
  | none => exact ⟨o, none, ⟨q1, q2, by unfold PySem.W.notCls; rw [q4] <;> rfl, by rw [q3]; trivial⟩, fun _ z => by cases z⟩
  | some dd =>
    obtain ⟨o', z⟩ := hd dd rfl
    exact ⟨o, some o', ⟨q1, q2, by unfold PySem.W.notCls; rw [q4] <;> rfl, by rw [q3]; exact z⟩, fun _ y => by cases y; exact ⟨o', rfl, z⟩⟩
theorem ve_fld {f : Str} {nms : List Str} (hX : ∀ nm ∈ nms, ∀ C, ClsN X.K nm C → XfC X.K C ∧ PySem.W.findIn X.K (.ref C) f = some none) (he : VE X B Γ E e me) (hb : attributeBase e f X.env (eval e X.env) = eval e X.env := by rfl) :
    VE X B Γ E (.Attribute e f pos) (m1 (gFld nms f) me) := by
  refine ⟨fun pins s σ H Q I ⟨F, ρ, r, h⟩ => attr_of hb (thn (he.run pins s σ H (fun v H1 => ∃ F1 ρ1 x d, Rel X.K Γ F1 ρ1 σ H1 ∧ Dq X.K F1 H1 v x ∧ gFld nms f x = some d ∧ ∀ w, Dq X.K F1 H1 w d → Q w H1) I ⟨F, ρ, r, (Res.bind h).mono (fun x ρ1 h1 v1 H1 F1 r1 g1 q1 => ?_) (fun _ _ _ k => k)⟩) fun u s1 hh => ?_)⟩
  · obtain ⟨d, e1, h2⟩ := Res.of h1
    exact ⟨F1, ρ1, x, d, r1, q1, e1, fun w q => h2 w H1 F1 r1 g1 q⟩
  · obtain ⟨v, H1, I1, rv, F1, ρ1, x, d, r1, q1, e1, hQ⟩ := hh
    obtain ⟨a, C, dd, nm, w, rfl, h1, hn, hc, h2, qd⟩ := gFld_ok q1 e1
    obtain rfl : u = Value.ref a := rv
    obtain ⟨T, no⟩ := hX nm hn C hc
    have ox : ObjOk X.prog X.w H1 s1.heap dd (.xd [(f, w)]) := I1.hok dd _ h2
    obtain ⟨mA, hns, hr⟩ := ox
    obtain ⟨od, ho, hl⟩ := lookIn_ns hns
    obtain ⟨u, hu, ru⟩ := RelO.some_of (v := w) (o := mA f) (by
      have z := hr f
      have e : ([(f, w)] : List (Str × V)).lookup f = some w := by simp
      rw [e] at z
      exact z)
    obtain ⟨o, oo, J, hoo⟩ := xob_inst I1.hok h1 fun _ z => by cases z; exact ⟨od, ho⟩
    obtain ⟨o', rfl, z⟩ := hoo dd rfl
    rw [ho] at z
    cases z
    exact HandSPX.exc_get I1.kIn J T.ga T.gg T.exC (PySem.W.findObj_own T.hdC no rfl (by rw [hl, hu])) (handed_of ru) ⟨w, H1, I1.tok _, ru, hQ w qd⟩
/-- isinstance(e, C) of what was caught -/
theorem ve_isx {x : Str} {cv : Value} {cV : V} {tab : Str → Option Bool} {nb : Option Bool} {p2 : Pos} (hT : ∀ nm b, tab nm = some b → ∀ C, ClsN X.K nm C → ExcC X.K C ∧ PySem.W.kitOne X.K (.ref C) cv = some b) (hnb : ∀ b, nb = some b → PySem.W.kitOne X.K (.type "NoneType") cv = some b)
    (hcv : ∀ u, RelV cV u → u = cv) (hC : PE X (.Name x p2) (tC cV)) (he : VE X B Γ E e me) (hg : Gl X "isinstance") (hm : X.mg "isinstance" = none)
    (hs : starEach [e, .Name x p2] X.env = (false, eval e X.env) :: starEach [.Name x p2] X.env := by rfl) (hs2 : starEach [.Name x p2] X.env = (false, eval (.Name x p2) X.env) :: starEach [] X.env := by rfl)
    (hpl : (backTo pos (starEach [.Name x p2] X.env)).any (·.1) = false := by rfl) : VE X B Γ E (.Call (.Name "isinstance" p) [e, .Name x p2] [] pos) (m1 (gIsx tab nb) me) := by
  have cr : CallR X (.builtin "isinstance") (fun xs H Q => ∃ (v : V) (F : Fz) (d d' : D), xs = [v, cV] ∧ Dq X.K F H v d ∧ gIsx tab nb d = some d' ∧ ∀ b, d' = .bool b → Q (.bl b) H) := by
    intro pins s σ H xs us Q I r h
    obtain ⟨v, F, d, d', rfl, q, e, hQ⟩ := h
    cases r with
    | cons rx rr =>
      cases rr with
      | cons rt rr =>
        cases rr
        have ec := hcv _ rt
        subst ec
        rcases gIsx_ok q e with ⟨rfl, b, h1, rfl⟩ | ⟨a, C, od, nm, b, rfl, h1, hc, h2, hx, rfl⟩
        · obtain ⟨P, Z, p, hx⟩ := kit_of I rx (.base .non)
          exact PySem.W.kia_one Z I.kIn p (hnb b h1) hx fun tk => ⟨.bl b, H, I.tok tk, rfl, hQ b rfl⟩
        · cases rx
          obtain ⟨TC, hk⟩ := hT nm b h2 C hc
          obtain ⟨o, oo, J, _⟩ := xob_inst I.hok h1 fun dd z => by
            obtain ⟨y, hy⟩ := hx dd z
            exact objOk_get (I.hok dd y hy)
          exact PySem.W.kia_one (PySem.W.vkitx (x := a) (odx := none) TC) I.kIn ⟨o, oo, J⟩ hk (fun z => nomatch z) fun tk => ⟨.bl b, H, I.kept (t' := tk) fun _ _ z => z, rfl, hQ b rfl⟩
  refine PE.imp (pe_callB cr hg hm (by decide +kernel) (pa_cons he (pa_cons hC pa_nil hs2) hs) (by decide) (by decide) hs hpl) fun σ H Q ⟨F, ρ, r, h⟩ => ⟨F, ρ, r, (Res.bind h).mono (fun d ρ1 h1 v H1 F1 r1 g1 q1 => ?_) (fun _ _ _ k => k)⟩
  obtain ⟨k, e, h2⟩ := Res.of h1
  exact ⟨v, F1, d, k, rfl, q1, e, fun b eb => h2 _ H1 F1 r1 g1 (by subst eb; exact .bl b)⟩
end
end VL
end

section
set_option Elab.async false
set_option linter.all false
set_option maxRecDepth 100000
set_option maxHeartbeats 4000000
namespace VL
open PySem PySem.Spec PyProof.Rows L2
set_option autoImplicit false

theorem walk_V {l : PySem.W.OpenLaw} {n k : Nat} {q : Program} {loose : List Str} {XP : (Str → Option Value) → Heap → Prop} {YP : World → Heap → Prop} {d : DefRec} {x : Str}
    (hn : l.most = some n) (hn2 : n ≤ sizeLine) (hdf : d.params.defaults = []) (hr : Room k callerA)
    (F : ∀ (w : World) (mg : Str → Option Value) (fa : Addr) (h : Heap), YP w h → h.Ns mainGlobals mg → mg d.name = some (.ref fa) →
      ∃ (K : PySem.W.Frag) (fd : FuncData) (sp : Sp), K.In h ∧ (∀ (s : Shared) (u : Value), BindsTo s fd ⟨[u], []⟩ [(x, u)]) ∧
        (∀ (H : Hp) (a : Addr) (ns : List Int), ns.length ≤ n → Only H → SqL K H a (ns.map V.int) → sp [.ref a] H (fun v _ => v = .bl true) fun _ _ _ => False) ∧
        ∀ base : Heap, K.In base → base.Ns mainGlobals mg → FnOk l.prog w K mg base (L2.CX l.prog w) k fa fd [x] sp) :
    PySem.W.WalkO q loose XP YP l.row.toRowW d [] (fun f vs => PySem.call f vs) := by
  refine Att.attach_call hn hdf fun w s₀ s₁ mg mb fa o pm cd doc a vs ns G Y ho hd hcd hmg hobj hints hlen hg => ?_
  obtain ⟨K, fd, sp, KX, hb, hsp, hF⟩ := F w mg fa _ Y G.T.g hmg
  refine law_call KX G.T.g G.T.b G.T.builtins G.T.nolimit hg hobj hints (Nat.le_trans hlen hn2) hr hF hb (fun H hO hS => hsp H a ns hlen hO hS) fun H e s' hc => ?_
  obtain ⟨_, _, _, _, _, _, _, _, _, _, _, _, z⟩ := hc
  exact z
/-- the law's promise at the script -/
theorem law_sp {K : PySem.W.Frag} {B : Eb} {f : Fn} {H : Hp} {a : Addr} {ns : List Int} (h : f [scr (ns.map .int)] = .ok (.bool true, [])) (hS : SqL K H a (ns.map V.int)) : spV K B [false] false f [.ref a] H (fun v _ => v = .bl true) fun _ _ _ => False := by
  have q : DqAll K (fun b => ∃ o, H b = some o) H (ns.map V.int) (ns.map .int) := by
    induction ns with
    | nil => exact .nil
    | cons n ns ih =>
      clear h hS
      rw [List.map_cons, List.map_cons]
      refine .cons (.int n) ?_
      have : ∀ ms : List Int, DqAll K (fun b => ∃ o, H b = some o) H (ms.map V.int) (ms.map .int) := by
        intro ms
        induction ms with
        | nil => exact .nil
        | cons m ms ih => exact .cons (.int m) ih
      exact this ns
  refine ⟨fun b => ∃ o, H b = some o, [scr (ns.map .int)], fun b hb => hb, .dat (.scr ?_ q) .nil, .nil, ?_⟩
  · rcases hS with hS | hS
    · refine .inl ⟨?_, hS⟩
      rcases hS with hS | ⟨o, hS⟩
      · exact ⟨_, hS⟩
      · exact ⟨_, hS⟩
    · exact .inr hS
  · rw [h]
    intro v H' F' _ _ r
    exact dq_bl r
/-- a text's dict, from what the head tells -/
theorem KD.of {K : PySem.W.Frag} {w : World} {mg : Str → Option Value} {x : Str} {kvs : List (Str × Str)} {es : Array DictEntry} {n : Nat} (hm : mg x = some (.ref (He.ga K x))) (hD : KDict K w (He.ga K x) es n)
    (hk : ∀ e ∈ es.toList, ∃ z t, e.key = .str z t ∧ (kvs.lookup z).isSome = true) (hv : He.valsB K (He.ga K x) (kvs.map fun p => (p.1, He.Dv.str p.2)) = true) : KD K w mg x kvs := by
  refine ⟨He.ga K x, es, n, hm, hD, fun z => ?_⟩
  cases e : kvs.lookup z with
  | some v =>
    have hmem : (z, v) ∈ kvs := PySem.mem_of_lookup e
    obtain ⟨u, hu, r⟩ := He.valsB_ok hv (q := (z, He.Dv.str v)) (List.mem_map.mpr ⟨(z, v), hmem, rfl⟩)
    obtain ⟨t, rfl⟩ := (show ∃ t, u = Value.str v t from r)
    exact ⟨t, hu⟩
  | none =>
    unfold PySem.W.nsIn
    rw [hD.at_]
    have hf : es.toList.find? (·.key.isStr z) = none := by
      rw [List.find?_eq_none]
      intro en hen
      obtain ⟨y, t, hy, hs⟩ := hk en hen
      rw [hy]
      intro hc
      have : y = z := by
        have hc' : (Value.str y t).isStr z = true := hc
        simpa [Value.isStr] using hc'
      subst this
      rw [e] at hs
      cases hs
    have hr : es.toList.any (·.refKey) = false := by
      rw [List.any_eq_false]
      intro en hen
      obtain ⟨y, t, hy, _⟩ := hk en hen
      simp [DictEntry.refKey, hy]
    simp only [hf, hr]
    rfl
end VL
end

section
set_option Elab.async false
set_option linter.all false
set_option maxRecDepth 100000
set_option maxHeartbeats 4000000
namespace VL
open PySem PySem.Spec PyProof.Rows L2
set_option autoImplicit false

/-! ### what is told of the classes of errors -/
inductive Bs where
  | le | ve
def Bs.nm : Bs → String
  | .le => "LookupError"
  | .ve => "ValueError"
def Bs.newId : Bs → String
  | .le => "LookupError.__new__"
  | .ve => "ValueError.__new__"
def Bs.initId : Bs → String
  | .le => "LookupError.__init__"
  | .ve => "ValueError.__init__"
def Bs.bm : Bs → List Value
  | .le => [.type "LookupError", .type "Exception", .type "BaseException", .type "object"]
  | .ve => [.type "ValueError", .type "Exception", .type "BaseException", .type "object"]
theorem Bs.base : (b : Bs) → ExcBaseFacts b.nm b.newId b.initId b.bm
  | .le => PySem.F.excBase_LookupError
  | .ve => PySem.F.excBase_ValueError
theorem Bs.sf : (b : Bs) → StoreFacts b.nm b.bm "object.__setattr__" "object"
  | .le => PySem.F.store_LookupError
  | .ve => PySem.F.store_ValueError
theorem Bs.kf : (b : Bs) → PySem.W.KxsFacts b.nm b.initId
  | .le => PySem.W.kxs_LookupError
  | .ve => PySem.W.kxs_ValueError
/-- this program's classes by number, in K -/
def eb (K : PySem.W.Frag) : Eb := ⟨fun c => He.ga K (xN c), xF⟩
structure ExcK (P : Program) (K : PySem.W.Frag) (mg : Str → Option Value) (nm f : Str) (b : Bs) : Prop where
  glo : mg nm = some (.ref (He.ga K nm))
  sup : VX.SupC P K (He.ga K nm) (He.ma K (He.ga K nm) "__init__") f b.nm b.newId b.initId b.bm
  sub : PySem.W.subIn K (.ref (He.ga K nm)) (.type "BaseException") = some true
  typ : PySem.W.typeIn K (.ref (He.ga K nm)) = some (.type "type")
  kp : PySem.W.keepIn K (.ref (He.ga K nm)) = true
theorem vs_raiseC {X : Cx} {G : Gd} {Ps O On Ol : List Nat} {ro : Bool} {e : Expr} {me : M D} {E : XK} {c k : Nat} {nm f : Str} {b : Bs} {p pos pos' : Pos} (T : ExcK X.prog X.K X.mg nm f b) (hs : X.mg ("super" : Str) = none) (hr : Room (k + 1) X.A) (tk : Takes X (fun cls d _ H => E cls d H))
    (he : VE X (eb X.K) (G.w Ps O) (fun _ => E) e me) (hn : xN c = nm := by rfl) (hf : xF c = [f] := by rfl) (hc : X.calm = true := by rfl) (hg : Gl X nm := by rfl) (hdb : (nm == ("__debug__" : Str)) = false := by decide)
    (h1 : starEach [e] X.env = (false, eval e X.env) :: starEach [] X.env := by rfl) (h2 : (backTo pos (starEach [] X.env)).any (·.1) = false := by rfl) :
    VS X (eb X.K) G Ps (fun _ => E) ro O On Ol (.Raise (some (.Call (.Name nm p) [e] [] pos)) none pos') (mRaise1 c me) := by
  subst hn
  have ha : VA X (eb X.K) (G.w Ps O) (fun _ => E) [e] (mCons me mNil) := va_cons he va_nil h1
  exact vs_raise1 (W := fun cls d _ H => E cls d H) (f := f) hf hc tk ha (pmk_sup T.sup b.sf b.base b.kf T.sub T.typ T.kp hr hg T.glo hs ha.pa hdb h1 h2)

/-! ### classes without fields -/
structure ExcN (K : PySem.W.Frag) (mg : Str → Option Value) (nm : Str) (b : Bs) : Prop where
  glo : mg nm = some (.ref (He.ga K nm))
  ex : PySem.W.excIn K (He.ga K nm) b.bm b.newId = true
  sub : PySem.W.subIn K (.ref (He.ga K nm)) (.type "BaseException") = some true
  typ : PySem.W.typeIn K (.ref (He.ga K nm)) = some (.type "type")
  kp : PySem.W.keepIn K (.ref (He.ga K nm)) = true
def mRaise0 (c : Nat) : M Fl := fun ρ => .exc c [] ρ
/-! ### told by a Bool -/
section
open PySem.W
def fileB (P : Program) (K : Frag) (c : Addr) : Bool := match K.lookup c with
  | some ⟨_, _, .fields vs, _⟩ => (match (vs[2]? : Option Value) with
    | some (Value.str y _) => decide (y = P.main.file)
    | _ => false)
  | _ => false
def cellB (K : Frag) (c C : Addr) : Bool := match K.lookup c with
  | some ⟨_, _, .cell (some (.ref D)), _⟩ => decide (D = C)
  | _ => false
def scB (x : Str) (s : Scope) : Bool := decide (s.kind = .function) && (decide (s.isGenerator = false) && (decide (s.isCoroutine = false) && (s.names.all (fun y => decide (y.2 ≠ .cell)) && (decide (s.names.lookup ("self" : Str) = some .local) && (decide (s.names.lookup x = some .local) &&
  (decide (s.names.lookup ("super" : Str) = some .globalImplicit) && (decide (s.names.lookup ("__class__" : Str) = some .free) && (decide (x ≠ ("self" : Str)) && (decide ((x == ("__debug__" : Str)) = false) && (decide (x = ("name" : Str)) || decide (x = ("place" : Str)) || decide (x = ("number" : Str))))))))))))
def fnB (P : Program) (K : Frag) (C : Addr) (f : Str) : FuncData → Bool
  | ⟨name, qual, ⟨[], [⟨a1, n1, q1⟩, ⟨a2, n2, q2⟩], none, [], [], none, []⟩, .stmts [.Expr (.Call (.Attribute (.Call (.Name s0 p0) [] [] p1) i0 p2) [.Name x1 p3] [] p4) p5, .Assign [.Attribute (.Name s1 p6) f1 p7] (.Name x2 p8) p9], scope, gl, [(c0, cc)], .none, kV, doc, pm, an, .ref cda, ct, bl⟩ =>
    decide (name = ("__init__" : Str)) && (decide (gl = mainGlobals) && (decide (bl = builtinsNs) && (decide (a1 = ("self" : Str)) && (decide (x1 = a2) && (decide (x2 = a2) && (decide (s0 = ("super" : Str)) && (decide (i0 = ("__init__" : Str)) && (decide (s1 = ("self" : Str)) && (decide (f1 = f) &&
    (decide (c0 = ("__class__" : Str)) && ((p2.endLine == p4.line) && (codeIn K (.ref cda) qual && (fileB P K cda && (cellB K cc C && (scB a2 scope && decide ((P.main.scope.names.lookup ("super" : Str)).isSome = false))))))))))))))))
  | _ => false
def clsB (P : Program) (K : Frag) (nm f : Str) (b : Bs) : Bool := He.eqO (nsIn K mainGlobals nm) (some (some (.ref (He.ga K nm)))) && (He.eqO (findIn K (.ref (He.ga K nm)) "__init__") (some (some (.ref (He.ma K (He.ga K nm) "__init__")))) &&
  (decide (typeIn K (.ref (He.ma K (He.ga K nm) "__init__")) = some (.type "function")) && (excInitIn K (He.ga K nm) b.bm b.newId && (excOver K (He.ga K nm) b.bm && (He.eqO (findIn K (.ref (He.ga K nm)) "__setattr__") (some (some (.builtin "object.__setattr__"))) &&
  (He.eqO (findIn K (.ref (He.ga K nm)) f) (some none) && (hasDictIn K (He.ga K nm) && (He.eqO (ks_superIn K (He.ga K nm) (He.ga K nm) "__init__") (some (some (.builtin b.initId))) && (decide (subIn K (.ref (He.ga K nm)) (.type b.nm) = some true) &&
  (He.eqO (nsIn K cStatics "thirdparty.any") (some none) && (decide (mroIn K (He.ga K nm) (.ref (He.ga K nm)) = some true) && (decide (subIn K (.ref (He.ga K nm)) (.type "BaseException") = some true) && (decide (typeIn K (.ref (He.ga K nm)) = some (.type "type")) && (keepIn K (.ref (He.ga K nm)) &&
  (match K.lookup (He.ma K (He.ga K nm) "__init__") with
    | some ⟨_, _, .func fd, _⟩ => fnB P K (He.ga K nm) f fd
    | _ => false)))))))))))))))
theorem fnB_ok {P : Program} {K : Frag} {C fI : Addr} {f : Str} {fd : FuncData} {oc : Value} {od : Option Addr} {osl : Array (Option Value)} (lk : K.lookup fI = some ⟨oc, od, .func fd, osl⟩) (h : fnB P K C f fd = true) : ∃ x scope body fd cda cc, VX.InitD P K C fI f x scope body fd cda cc := by
  unfold fnB at h
  split at h
  · rename_i name qual a1 n1 q1 a2 n2 q2 s0 p0 p1 i0 p2 x1 p3 p4 p5 s1 p6 f1 p7 x2 p8 p9 scope gl c0 cc kV doc pm an cda ct bl
    obtain ⟨h1, h⟩ := He.ba h
    obtain ⟨h2, h⟩ := He.ba h
    obtain ⟨h3, h⟩ := He.ba h
    obtain ⟨h4, h⟩ := He.ba h
    obtain ⟨h5, h⟩ := He.ba h
    obtain ⟨h6, h⟩ := He.ba h
    obtain ⟨h7, h⟩ := He.ba h
    obtain ⟨h8, h⟩ := He.ba h
    obtain ⟨h9, h⟩ := He.ba h
    obtain ⟨h10, h⟩ := He.ba h
    obtain ⟨h11, h⟩ := He.ba h
    obtain ⟨h12, h⟩ := He.ba h
    obtain ⟨h13, h⟩ := He.ba h
    obtain ⟨h14, h⟩ := He.ba h
    obtain ⟨h15, h⟩ := He.ba h
    obtain ⟨h16, h17⟩ := He.ba h
    cases of_decide_eq_true h1
    cases of_decide_eq_true h2
    cases of_decide_eq_true h3
    cases of_decide_eq_true h4
    cases of_decide_eq_true h5
    cases of_decide_eq_true h6
    cases of_decide_eq_true h7
    cases of_decide_eq_true h8
    cases of_decide_eq_true h9
    cases of_decide_eq_true h10
    cases of_decide_eq_true h11
    unfold scB at h16
    obtain ⟨s1, h16⟩ := He.ba h16
    obtain ⟨s2, h16⟩ := He.ba h16
    obtain ⟨s3, h16⟩ := He.ba h16
    obtain ⟨s4, h16⟩ := He.ba h16
    obtain ⟨s5, h16⟩ := He.ba h16
    obtain ⟨s6, h16⟩ := He.ba h16
    obtain ⟨s7, h16⟩ := He.ba h16
    obtain ⟨s8, h16⟩ := He.ba h16
    obtain ⟨s9, h16⟩ := He.ba h16
    obtain ⟨s10, s11⟩ := He.ba h16
    refine ⟨_, scope, _, _, cda, cc, ⟨⟨oc, od, qual, _, .none, kV, doc, pm, an, ct, osl, rfl, lk, h13⟩, fun u v s => .of_eq (by
      rw [Bool.or_eq_true, Bool.or_eq_true] at s11
      rcases s11 with (s11 | s11) | s11 <;> (cases of_decide_eq_true s11; rfl)), ⟨_, rfl, rfl⟩, ?_, ?_, ⟨p0, p1, p2, p3, p4, p5, p6, p7, p8, p9, h12, rfl⟩, of_decide_eq_true s1, of_decide_eq_true s2, of_decide_eq_true s3,
      fun y hy => of_decide_eq_true (List.all_eq_true.mp s4 y hy), of_decide_eq_true s5, of_decide_eq_true s6, of_decide_eq_true s7, of_decide_eq_true s8, of_decide_eq_true s9, of_decide_eq_true s10, of_decide_eq_true h17⟩⟩
    · unfold fileB at h14
      split at h14
      · rename_i oc' od' vs sl' e
        split at h14
        · rename_i y t e2
          cases of_decide_eq_true h14
          exact ⟨oc', od', vs, sl', t, e, e2⟩
        · cases h14
      · cases h14
    · unfold cellB at h15
      split at h15
      · rename_i oc' od' D sl' e
        cases of_decide_eq_true h15
        exact ⟨oc', od', sl', e⟩
      · cases h15
  · cases h
theorem clsB_ok {P : Program} {K : Frag} {h : Heap} {mg : Str → Option Value} {nm f : Str} {b : Bs} (X : K.In h) (G : h.Ns mainGlobals mg) (c : clsB P K nm f b = true) : ExcK P K mg nm f b := by
  unfold clsB at c
  obtain ⟨c1, c⟩ := He.ba c
  obtain ⟨c2, c⟩ := He.ba c
  obtain ⟨c3, c⟩ := He.ba c
  obtain ⟨c4, c⟩ := He.ba c
  obtain ⟨c5, c⟩ := He.ba c
  obtain ⟨c6, c⟩ := He.ba c
  obtain ⟨c7, c⟩ := He.ba c
  obtain ⟨c8, c⟩ := He.ba c
  obtain ⟨c9, c⟩ := He.ba c
  obtain ⟨c10, c⟩ := He.ba c
  obtain ⟨c11, c⟩ := He.ba c
  obtain ⟨c12, c⟩ := He.ba c
  obtain ⟨c13, c⟩ := He.ba c
  obtain ⟨c14, c⟩ := He.ba c
  obtain ⟨c15, c⟩ := He.ba c
  refine ⟨mg_of X G (He.eqO_ok c1), ⟨He.eqO_ok c2, of_decide_eq_true c3, c4, c5, He.eqO_ok c6, He.eqO_ok c7, c8, He.eqO_ok c9, of_decide_eq_true c10, He.eqO_ok c11, of_decide_eq_true c12, ?_⟩, of_decide_eq_true c13, of_decide_eq_true c14, c15⟩
  split at c
  · rename_i oc od fd osl e
    exact fnB_ok e c
  · cases c
/-- except nm: which of the classes it takes -/
def takB (K : Frag) (nm : Str) (l : List (Nat × Bool)) : Bool := l.all fun p => He.eqO (nsIn K mainGlobals (xN p.1)) (some (some (.ref (He.ga K (xN p.1))))) && decide (exmOne K (.ref (He.ga K (xN p.1))) (.ref (He.ga K nm)) = some p.2)
theorem mem_of_lk {α β : Type} [BEq α] [LawfulBEq α] {a : α} {b : β} : ∀ {l : List (α × β)}, l.lookup a = some b → (a, b) ∈ l
  | [], h => by cases h
  | (x, y) :: r, h => by
    by_cases e : (a == x) = true
    · have e' := eq_of_beq e
      subst e'
      rw [List.lookup_cons, e] at h
      cases h
      exact List.mem_cons_self
    · rw [List.lookup_cons, Bool.not_eq_true _ |>.mp e] at h
      exact List.mem_cons_of_mem _ (mem_of_lk h)
theorem takB_ok {K : Frag} {nm : Str} {l : List (Nat × Bool)} (h : takB K nm l = true) : ∀ c b, l.lookup c = some b → exmOne K (.ref ((eb K).cls c)) (.ref (He.ga K nm)) = some b ∧ (eb K).fld c = xF c ∧ ClsN K (xN c) ((eb K).cls c) := fun c b e => by
  obtain ⟨h1, h2⟩ := He.ba (List.all_eq_true.mp h (c, b) (mem_of_lk e))
  exact ⟨of_decide_eq_true h2, rfl, He.eqO_ok h1⟩
/-- e.f -/
def fldB (K : Frag) (f : Str) (l : List Str) : Bool := l.all fun nm => He.eqO (nsIn K mainGlobals nm) (some (some (.ref (He.ga K nm)))) && (xfB K (He.ga K nm) && He.eqO (findIn K (.ref (He.ga K nm)) f) (some none))
theorem fldB_ok {K : Frag} {f : Str} {l : List Str} (h : fldB K f l = true) : ∀ nm ∈ l, ∀ C, ClsN K nm C → XfC K C ∧ findIn K (.ref C) f = some none := fun nm hn C hc => by
  obtain ⟨h1, h2⟩ := He.ba (List.all_eq_true.mp h nm hn)
  obtain ⟨h3, h4⟩ := He.ba h2
  have e := (He.eqO_ok h1).symm.trans hc
  cases e
  exact ⟨xfB_ok h3, He.eqO_ok h4⟩
/-- isinstance(e, T) -/
def excB (K : Frag) (D : Addr) : Bool := He.eqO (findIn K (.ref D) "__getattribute__") (some (some (.builtin "BaseException.__getattribute__"))) && (He.eqO (findIn K (.ref D) "__getattr__") (some none) && (decide (subIn K (.ref D) (.type "BaseException") = some true) && (hasDictIn K D &&
  (He.eqO (findIn K (.ref D) "__class__") (some (some (.builtin "object.__class__"))) && (He.eqO (specialIn K (.builtin "object.__class__") "__get__") (some (some (.builtin "getset_descriptor.__get__"))) && (decide (takesIn K (.builtin "object.__class__") = some true) && decide (mroIn K D (.type "object") = some true)))))))
theorem excB_ok {K : Frag} {D : Addr} (h : excB K D = true) : ExcC K D := by
  obtain ⟨h1, h⟩ := He.ba h
  obtain ⟨h2, h⟩ := He.ba h
  obtain ⟨h3, h⟩ := He.ba h
  obtain ⟨h4, h⟩ := He.ba h
  obtain ⟨h5, h⟩ := He.ba h
  obtain ⟨h6, h⟩ := He.ba h
  obtain ⟨h7, h8⟩ := He.ba h
  exact ⟨He.eqO_ok h1, He.eqO_ok h2, of_decide_eq_true h3, h4, He.eqO_ok h5, He.eqO_ok h6, of_decide_eq_true h7, of_decide_eq_true h8⟩
def isxB (K : Frag) (cv : Value) (l : List (Str × Bool)) : Bool := l.all fun p => He.eqO (nsIn K mainGlobals p.1) (some (some (.ref (He.ga K p.1)))) && (excB K (He.ga K p.1) && decide (kitOne K (.ref (He.ga K p.1)) cv = some p.2))
theorem isxB_ok {K : Frag} {cv : Value} {l : List (Str × Bool)} (h : isxB K cv l = true) : ∀ nm b, l.lookup nm = some b → ∀ C, ClsN K nm C → ExcC K C ∧ kitOne K (.ref C) cv = some b := fun nm b e C hc => by
  obtain ⟨h1, h2⟩ := He.ba (List.all_eq_true.mp h (nm, b) (mem_of_lk e))
  obtain ⟨h3, h4⟩ := He.ba h2
  have e := (He.eqO_ok h1).symm.trans hc
  cases e
  exact ⟨excB_ok h3, of_decide_eq_true h4⟩
end

/-! ### the head with the interpreter's statics -/
section
open He
def kY (g : Addr → Option Obj) (n : Nat) : PySem.W.Frag := frT g (asD g n ++ [cStatics])
structure SaysY (fa : List Fa) (fn : List DefD) (ts : List Tab) (ex : PySem.W.Frag → Bool) (w : World) (K : PySem.W.Frag) : Prop where
  t : SaysT fa fn ts w K
  more : ex K = true
def obsY (n : Nat) (fa : List Fa) (fn : List DefD) (ts : List Tab) (ex : PySem.W.Frag → Bool) (g : Addr → Option Obj) : AlX := (obsT fa fn ts (kY g n), ex (kY g n))
def hookY (n : Nat) (fa : List Fa) (fn : List DefD) (ts : List Tab) (ex : PySem.W.Frag → Bool) : PySem.W.Hook where
  α := AlX
  obs := fun s => obsY n fa fn ts ex s.heap.get?
  val := fun w => valX fn ts w
  says := fun w h => ∃ K : PySem.W.Frag, K.In h ∧ SaysY fa fn ts ex w K
  of := fun _ _ e => ⟨_, frT_in, ⟨congrArg (fun z : AlX => z.1) e, congrArg (fun z : AlX => z.2) e⟩⟩
  keeps := fun _ _ _ ⟨K, hK, c⟩ k => ⟨K, PySem.W.Frag.In.keeps hK k, c⟩
theorem obsY_eq {n : Nat} {fa : List Fa} {fn : List DefD} {ts : List Tab} {ex : PySem.W.Frag → Bool} {g : Addr → Option Obj} {s : Shared} (h : ∀ a, g a = s.heap.get? a) : obsY n fa fn ts ex g = (hookY n fa fn ts ex).obs s := by
  have e : g = s.heap.get? := funext h
  rw [e] <;> rfl
end
end VL
end

section
set_option Elab.async false
set_option linter.all false
set_option maxRecDepth 100000
set_option maxHeartbeats 4000000
namespace VL
open PySem PySem.Spec PyProof.Rows L2
set_option autoImplicit false
/-! ### dicts by value -/
def keyK : D → Option Key
  | .int i => some (.inl i)
  | .str s => some (.inr s)
  | _ => none
def keysK : List D → Option (List Key)
  | [] => some []
  | d :: r => (keyK d).bind fun k => (keysK r).map (k :: ·)
def kvK : List (D × D) → Option (List (Key × D))
  | [] => some []
  | (y, d) :: r => (keyK y).bind fun k => (kvK r).map ((k, d) :: ·)
def keyT : D → Option (List Key)
  | .tuple ks => keysK ks
  | _ => none
/-- a tuple that may be a key -/
def keyT1 : D → Option (List Key)
  | .tuple (k :: ks) => keysK (k :: ks)
  | _ => none
def kvT : List (D × D) → Option (List (List Key × D))
  | [] => some []
  | (y, d) :: r => (keyT y).bind fun k => (kvT r).map ((k, d) :: ·)
def dK (l : List (Key × D)) : D := .dict (l.map fun p => (keyD p.1, p.2))
def dT (l : List (List Key × D)) : D := .dict ((.none, .bool true) :: l.map fun p => (.tuple (p.1.map keyD), p.2))
def dParse : D → Option (List (Key × D) ⊕ List (List Key × D))
  | .dict ((.none, .bool true) :: ds) => (kvT ds).map .inr
  | .dict ds => (kvK ds).map .inl
  | _ => none
theorem keyK_D (k : Key) : keyK (keyD k) = some k := by cases k <;> rfl
theorem keysK_D : ∀ ks : List Key, keysK (ks.map keyD) = some ks
  | [] => rfl
  | k :: ks => by rw [List.map_cons, keysK, keyK_D, keysK_D ks]; rfl
theorem kvK_D : ∀ l : List (Key × D), kvK (l.map fun p => (keyD p.1, p.2)) = some l
  | [] => rfl
  | p :: l => by rw [List.map_cons, kvK, keyK_D, kvK_D l]; rfl
theorem kvT_D : ∀ l : List (List Key × D), kvT (l.map fun p => (.tuple (p.1.map keyD), p.2)) = some l
  | [] => rfl
  | p :: l => by rw [List.map_cons, kvT, keyT, keysK_D, kvT_D l]; rfl
theorem dParse_K (l : List (Key × D)) : dParse (dK l) = some (.inl l) := by
  cases l with
  | nil => rfl
  | cons p l =>
    have := kvK_D (p :: l)
    obtain ⟨k, d⟩ := p
    cases k <;> exact congrArg (Option.map Sum.inl) this
theorem dParse_T (l : List (List Key × D)) : dParse (dT l) = some (.inr l) := by
  show (kvT _).map _ = _
  rw [kvT_D]
  rfl
inductive DqP {κ : Type} (K : PySem.W.Frag) (F : Fz) (H : Hp) : List (κ × V) → List (κ × D) → Prop
  | nil : DqP K F H [] []
  | cons {k : κ} {v : V} {vs : List (κ × V)} {d : D} {ds : List (κ × D)} : Dq K F H v d → DqP K F H vs ds → DqP K F H ((k, v) :: vs) ((k, d) :: ds)
section
variable {K : PySem.W.Frag} {F F' : Fz} {H H' : Hp}
theorem DqP.grow {κ : Type} {vs : List (κ × V)} {ds : List (κ × D)} (g : Grow F H F' H') (q : DqP K F H vs ds) : DqP K F' H' vs ds := by
  induction q with
  | nil => exact .nil
  | cons h _ ih => exact .cons (h.grow g) ih
theorem DqP.length {κ : Type} {vs : List (κ × V)} {ds : List (κ × D)} (q : DqP K F H vs ds) : vs.length = ds.length := by
  induction q with
  | nil => rfl
  | cons h _ ih => exact congrArg (· + 1) ih
theorem DqKV.par : ∀ {vs : List (Key × V)} {ds : List (D × D)}, DqKV K F H vs ds → ∃ l, ds = l.map (fun p => (keyD p.1, p.2)) ∧ DqP K F H vs l
  | _, _, .nil => ⟨[], rfl, .nil⟩
  | _, _, .cons (k := k) (d := d) q r => by
    obtain ⟨l, e, h⟩ := DqKV.par r
    exact ⟨(k, d) :: l, by rw [e]; rfl, .cons q h⟩
theorem DqTV.par : ∀ {vs : List (List Key × V)} {ds : List (D × D)}, DqTV K F H vs ds → ∃ l, ds = l.map (fun p => (.tuple (p.1.map keyD), p.2)) ∧ DqP K F H vs l
  | _, _, .nil => ⟨[], rfl, .nil⟩
  | _, _, .cons (k := k) (d := d) q r => by
    obtain ⟨l, e, h⟩ := DqTV.par r
    exact ⟨(k, d) :: l, by rw [e]; rfl, .cons q h⟩
theorem DqP.kv {vs : List (Key × V)} {l : List (Key × D)} (q : DqP K F H vs l) : DqKV K F H vs (l.map fun p => (keyD p.1, p.2)) := by
  induction q with
  | nil => exact .nil
  | cons h _ ih => exact .cons h ih
end
section
variable {κ : Type} [DecidableEq κ] {K : PySem.W.Frag} {F : Fz} {H : Hp}
def valD (l : List (κ × D)) (k : κ) : Option D := (l.find? fun kv => decide (kv.1 = k)).map (·.2)
def putD (l : List (κ × D)) (k : κ) (d : D) : List (κ × D) :=
  if (l.any fun kv => decide (kv.1 = k)) = true then l.map (fun kv => if kv.1 = k then (kv.1, d) else kv) else l ++ [(k, d)]
theorem DqP.val {vs : List (κ × V)} {l : List (κ × D)} (q : DqP K F H vs l) (k : κ) : (valD l k = none ∧ valV vs k = none) ∨ ∃ d v, valD l k = some d ∧ valV vs k = some v ∧ Dq K F H v d := by
  induction q with
  | nil => exact .inl ⟨rfl, rfl⟩
  | @cons k' v vs d ds h _ ih =>
    by_cases e : k' = k
    · exact .inr ⟨d, v, by simp [valD, List.find?_cons, e], by simp [valV, List.find?_cons, e], h⟩
    · have e1 : valD ((k', d) :: ds) k = valD ds k := by simp [valD, List.find?_cons, e]
      have e2 : valV ((k', v) :: vs) k = valV vs k := by simp [valV, List.find?_cons, e]
      rw [e1, e2]
      exact ih
theorem DqP.any {vs : List (κ × V)} {l : List (κ × D)} (q : DqP K F H vs l) (k : κ) : (vs.any fun kv => decide (kv.1 = k)) = l.any fun kv => decide (kv.1 = k) := by
  induction q with
  | nil => rfl
  | cons h _ ih => rw [List.any_cons, List.any_cons, ih]
theorem DqP.over {vs : List (κ × V)} {l : List (κ × D)} {v : V} {d : D} (q : DqP K F H vs l) (k : κ) (h : Dq K F H v d) : DqP K F H (vs.map fun kv => if kv.1 = k then (kv.1, v) else kv) (l.map fun kv => if kv.1 = k then (kv.1, d) else kv) := by
  induction q with
  | nil => exact .nil
  | @cons k' v' vs d' ds h' _ ih =>
    rw [List.map_cons, List.map_cons]
    by_cases e : k' = k
    · rw [if_pos e, if_pos e]
      exact .cons h ih
    · rw [if_neg e, if_neg e]
      exact .cons h' ih
theorem DqP.snoc {vs : List (κ × V)} {l : List (κ × D)} {v : V} {d : D} (q : DqP K F H vs l) (k : κ) (h : Dq K F H v d) : DqP K F H (vs ++ [(k, v)]) (l ++ [(k, d)]) := by
  induction q with
  | nil => exact .cons h .nil
  | cons h' _ ih => exact .cons h' ih
theorem DqP.put {vs : List (κ × V)} {l : List (κ × D)} {v : V} {d : D} (q : DqP K F H vs l) (k : κ) (h : Dq K F H v d) : DqP K F H (putK vs k v) (putD l k d) := by
  unfold putK putD
  rw [q.any k]
  split
  · exact q.over k h
  · exact q.snoc k h
end
section
variable {K : PySem.W.Frag} {F : Fz} {H : Hp}
end
end VL
end

section
set_option Elab.async false
set_option linter.all false
set_option maxRecDepth 100000
set_option maxHeartbeats 4000000
namespace VL
open PySem PySem.Spec PyProof.Rows L2
set_option autoImplicit false
/-! ### dicts: reading, storing -/
def dGet (x y : D) : Option (Option D) := match dParse x with
  | some (.inl l) => (keyK y).map fun k => valD l k
  | some (.inr l) => (keyT1 y).map fun k => valD l k
  | none => none
section
variable {K : PySem.W.Frag} {F : Fz} {H : Hp}
/-- the answers at a key go together -/
def OptQ (K : PySem.W.Frag) (F : Fz) (H : Hp) (ov : Option V) (o : Option D) : Prop := (o = none ∧ ov = none) ∨ ∃ d v, o = some d ∧ ov = some v ∧ Dq K F H v d
theorem OptQ.getD {ov : Option V} {o : Option D} {w : V} {y : D} (h : OptQ K F H ov o) (q : Dq K F H w y) : Dq K F H (ov.getD w) (o.getD y) := by
  rcases h with ⟨rfl, rfl⟩ | ⟨d, v, rfl, rfl, h⟩
  · exact q
  · exact h
theorem OptQ.isSome {ov : Option V} {o : Option D} (h : OptQ K F H ov o) : ov.isSome = o.isSome := by
  rcases h with ⟨rfl, rfl⟩ | ⟨d, v, rfl, rfl, h⟩ <;> rfl
/-- d[k] = v: what the dict is then -/
def dPut (x y z : D) : Option D := match dParse x with
  | some (.inl l) => if l.length < sizeLine then (keyK y).map fun k => dK (putD l k z) else none
  | some (.inr l) => if l.length < sizeLine then (keyT1 y).map fun k => dT (putD l k z) else none
  | none => none
end
def dicAt (ρ : Env) (i : Nat) : Option D := match ρ[i]? with
  | some (some (.dict ds)) => some (.dict ds)
  | _ => none
section
variable {X : Cx} {B : Eb} {Γ : Gm} {E : Wish} {a b c : Expr} {ma mb mc : M D} {pos px p2 apos : Pos}
/-! #### d[k], k in d, of what stays -/
def gIxD (x y : D) : Option D := match dParse x with
  | some _ => (dGet x y).bind fun o => o
  | none => gIx x y
/-! #### d.get(k), d.get(k, x) of what stays -/
def mGet1 (ma mb : M D) : M D := ma.bind fun x => if (dParse x).isSome = true then mb.bind fun y => M.of ((dGet x y).map fun o => o.getD .none) else fun _ => .stuck
def mGet2 (ma mb mc : M D) : M D := ma.bind fun x => if (dParse x).isSome = true then mb.bind fun y => mc.bind fun z => M.of ((dGet x y).map fun o => o.getD z) else fun _ => .stuck
/-! #### one's own -/
def mDGetO (i : Nat) (mb : M D) : M D := fun ρ => match dicAt ρ i with
  | none => .stuck
  | some _ => (mb ρ).bind fun p => match dicAt p.2 i with
    | none => .stuck
    | some d => match dGet d p.1 with
      | some (some z) => .ok (z, p.2)
      | _ => .stuck
def mDInO (neg : Bool) (ma : M D) (i : Nat) : M D := fun ρ => (ma ρ).bind fun p => match dicAt p.2 i with
  | none => .stuck
  | some d => match dGet d p.1 with
    | some o => .ok (.bool (o.isSome != neg), p.2)
    | none => .stuck
def mGet1O (i : Nat) (mb : M D) : M D := fun ρ => match dicAt ρ i with
  | none => .stuck
  | some d0 => if (dParse d0).isSome = true then (mb ρ).bind fun p => match dicAt p.2 i with
    | none => .stuck
    | some d => match dGet d p.1 with
      | some o => .ok (o.getD .none, p.2)
      | none => .stuck else .stuck
def mGet2O (i : Nat) (mb mc : M D) : M D := fun ρ => match dicAt ρ i with
  | none => .stuck
  | some d0 => if (dParse d0).isSome = true then (mb ρ).bind fun p => (mc p.2).bind fun q => match dicAt q.2 i with
    | none => .stuck
    | some d => match dGet d p.1 with
      | some o => .ok (o.getD q.1, q.2)
      | none => .stuck else .stuck
/-! #### {} -/
end
section
variable {X : Cx} {B : Eb} {G : Gd} {Ps O Ol : List Nat} {E : Wish} {ro : Bool} {e ix : Expr} {me mi : M D} {pos px p2 : Pos}
/-! #### d[k] = v -/
def mDPut (i : Nat) (me mi : M D) : M Fl := fun ρ => (me ρ).bind fun p => match dicAt p.2 i with
  | none => .stuck
  | some _ => (mi p.2).bind fun q => match dicAt q.2 i with
    | none => .stuck
    | some d => match dPut d q.1 p.1 with
      | some d' => .ok (.nx, q.2.set i (some d'))
      | none => .stuck
end
end VL
end

section
set_option Elab.async false
set_option linter.all false
set_option maxRecDepth 100000
set_option maxHeartbeats 4000000
namespace VL
open PySem PySem.Spec PyProof.Rows L2
set_option autoImplicit false
/-! ### walking a dict: its keys, its items -/
/-! by values -/
def dKeys (x : D) : Option (List D) := match dParse x with
  | some (.inl l) => some (l.map fun p => keyD p.1)
  | some (.inr l) => if l.all (fun p => !p.1.isEmpty) = true then some (l.map fun p => .tuple (p.1.map keyD)) else none
  | none => none
def dItms (x : D) : Option (List D) := match dParse x with
  | some (.inl l) => some (l.map fun p => .tuple [keyD p.1, p.2])
  | some (.inr l) => if l.all (fun p => !p.1.isEmpty) = true then some (l.map fun p => .tuple [.tuple (p.1.map keyD), p.2]) else none
  | none => none
def mKeysOf (m : M D) : M (List D) := m.bind fun x => M.of (dKeys x)
def mItmsOf (m : M D) : M (List D) := m.bind fun x => M.of (dItms x)
section
variable {K : PySem.W.Frag} {F : Fz} {H : Hp}
theorem DqP.at {κ : Type} {vs : List (κ × V)} {l : List (κ × D)} (q : DqP K F H vs l) : ∀ {i : Nat} {k : κ} {d : D}, l[i]? = some (k, d) → ∃ v, vs[i]? = some (k, v) ∧ Dq K F H v d := by
  induction q with
  | nil => intro i k d h; simp at h
  | @cons k v vs d ds h _ ih =>
    intro i k' d' hi
    cases i with
    | zero => simp at hi; obtain ⟨rfl, rfl⟩ := hi; exact ⟨v, rfl, h⟩
    | succ i => exact ih (by simpa using hi)
end
section
variable {X : Cx} {B : Eb} {Γ : Gm} {E : Wish} {e tg : Expr} {ma : M D} {pos apos tpos : Pos} {elts : List Expr} {kk : Nat}
end
end VL
end

section
set_option Elab.async false
set_option linter.all false
set_option maxRecDepth 100000
set_option maxHeartbeats 4000000
namespace VL
open PySem PySem.Spec PyProof.Rows L2
set_option autoImplicit false
/-! ### sorted(d) -/
section
variable {X : Cx} {pins : List (Addr × Obj)} {σ : St} {H : Hp} {s : Shared}
end
section
variable {X : Cx} {B : Eb} {Γ : Gm} {E : Wish} {e : Expr} {ms : M (List D)} {pos p : Pos}
def cSortD : List D → Option D
  | [x] => (dKeys x).bind fun ds => if sortOk ds = true then some (.list (sortD ds)) else none
  | _ => none
end
end VL
end

section
set_option Elab.async false
set_option linter.all false
set_option maxRecDepth 100000
set_option maxHeartbeats 4000000
namespace VL
open PySem PySem.Spec PyProof.Rows L2
set_option autoImplicit false
/-! ### dict([(k, v), ..]) -/
section
variable {κ : Type} [DecidableEq κ]
end
/-! by values -/
section
variable {K : PySem.W.Frag} {F : Fz} {H : Hp}
end
section
variable {X : Cx} {B : Eb} {Γ : Gm} {E : Wish} {e : Expr} {ms : M (List D)} {pos p : Pos}
end
end VL
end

section
set_option Elab.async false
set_option linter.all false
set_option maxRecDepth 100000
set_option maxHeartbeats 4000000
/-! dict comprehensions of one and of two fors, of either kind of dict (printed by mkdc.py: turned out of the hand layer's proofs for lists and for one for) -/
namespace L2
open PySem PySem.Spec PyProof.Rows
section
variable {prog : Program} {w : World} {A : Around} {R : Result → Shared → Prop} {s : Shared} {kx vx t0 i0 t1 i1 : Expr} {ifs0 ifs1 : List Expr} {scope : Scope} {pos : Pos} {it : Value} {D : Addr} {env : Env}
end
section
variable {X : Cx}
end
end L2
end

section
set_option Elab.async false
set_option linter.all false
set_option maxRecDepth 100000
set_option maxHeartbeats 4000000
namespace VL
open PySem PySem.Spec PyProof.Rows L2
set_option autoImplicit false
/-! ### sets of ints and texts -/
def keyM (v : Value) : Key := match v with
  | .int k _ => .inl k
  | .str x _ => .inr x
  | _ => .inl 0
def GoodM (P : Program) (w : World) (e : Int × Value) : Prop := (mixKind P w).is (keyM e.2) e.2 = true ∧ e.1 = (mixKind P w).hash (keyM e.2) ∧ e.2.scannable = true
abbrev ksOf (es : Array (Int × Value)) : List Key := es.toList.map fun e => keyM e.2
/-- at a lies a set whose members are S -/
def SetM (P : Program) (w : World) (h : Heap) (a : Addr) (S : List Key) : Prop :=
  ∃ o es ep t, h.get? a = some o ∧ o.ExactSet ∧ o.data = .set es ep t ∧ ((∀ e ∈ es.toList, GoodM P w e) ∧ (ksOf es).Nodup ∧ (∀ k, k ∈ S ↔ k ∈ ksOf es) ∧ es.size < scanBound) ∧ t.fits es.size = true ∧ Ris t.place.toList ∧ (w.params.followText "set-order" = true ∨ t.led = true)
section
variable {P : Program} {w : World} {A : Around} {E : Value → Shared → Prop} {s : Shared} {a : Addr} {S : List Key}
theorem SetM.at {h h' : Heap} (R : SetM P w h a S) (k : ∀ o, h.get? a = some o → h'.get? a = some o) : SetM P w h' a S := by
  obtain ⟨o, es, ep, t, ho, r⟩ := R
  exact ⟨o, es, ep, t, k o ho, r⟩
theorem SetM.congr {h : Heap} {S' : List Key} (R : SetM P w h a S) (e : ∀ k, k ∈ S' ↔ k ∈ S) : SetM P w h a S' := by
  obtain ⟨o, es, ep, t, ho, h1, h2, ⟨h3, h4, h5, h6⟩, r⟩ := R
  exact ⟨o, es, ep, t, ho, h1, h2, ⟨h3, h4, fun k => (e k).trans (h5 k), h6⟩, r⟩
end
end VL
end

section
set_option Elab.async false
set_option linter.all false
set_option maxRecDepth 100000
set_option maxHeartbeats 4000000
namespace VL
open PySem PySem.Spec PyProof.Rows L2
set_option autoImplicit false
/-! ### set(xs), by a theory of its members -/
abbrev Sub0 (h0 h : Heap) : Prop := ∀ b o, h0.get? b = some o → h.get? b = some o
/-- how members of sets are: R h0 h a ks says that at a lies (in h) the set of ks, whose values lie in h0; is h0 k v that v is the key k -/
structure SetTh (P : Program) (w : World) (ok : Around → Prop) (κ : Type) where
  R : Heap → Heap → Addr → List κ → Prop
  is : Heap → κ → Value → Prop
  most : Nat
  frame : ∀ {h0 h h' : Heap} {a : Addr} {ks : List κ}, R h0 h a ks → (∀ o, h.get? a = some o → h'.get? a = some o) → Sub0 h0 h' → R h0 h' a ks
  new : ∀ {h0 h : Heap} {a : Addr}, h.get? a = some { cls := .type "set", dict := none, data := .set #[] 0 (.fresh 0 0 (!w.params.followText "set-order")) } → R h0 h a []
  add : ∀ {A : Around} {E : Value → Shared → Prop} {s : Shared} {a : Addr} {ks : List κ} {k : κ} {v : Value} {Q : Bool → Shared → Prop} {h0 : Heap}, ok A → Sub0 h0 s.heap → h0.get? a = none → R h0 s.heap a ks → is h0 k v → ks.Nodup → ks.length + 1 < most →
    (∀ b h' tk ks', s.toks ≤ tk → Heap.SameBut a s.heap h' → R h0 h' a ks' → ks'.Nodup → (∀ x, x ∈ ks' ↔ x = k ∨ x ∈ ks) → ks'.length ≤ ks.length + 1 → Q b { s with heap := h', toks := tk }) → wpAny (model P w) A (setAdd a v) Q E s
section
variable {P : Program} {w : World} {A : Around} {E : Value → Shared → Prop} {s : Shared} {ok : Around → Prop} {κ : Type}
end
end VL
end

section
set_option Elab.async false
set_option linter.all false
set_option maxRecDepth 100000
set_option maxHeartbeats 8000000
namespace VL
open PySem PySem.Spec PyProof.Rows L2
set_option autoImplicit false
section
variable {P : Program} {w : World} {A : Around} {E : Value → Shared → Prop} {s : Shared} {ok : Around → Prop} {κ : Type}
end
end VL
end

section
set_option Elab.async false
set_option linter.all false
set_option maxRecDepth 100000
set_option maxHeartbeats 4000000
namespace VL
open PySem PySem.Spec PyProof.Rows L2
set_option autoImplicit false
section
variable {P : Program} {w : World} {A : Around} {E : Value → Shared → Prop} {s : Shared}
/-! ### sorted of it -/
end
end VL
end

section
set_option Elab.async false
set_option linter.all false
set_option maxRecDepth 100000
set_option maxHeartbeats 4000000
namespace VL
open PySem PySem.Spec PyProof.Rows L2
set_option autoImplicit false
section
variable {X : Cx}
end
end VL
end

section
set_option Elab.async false
set_option linter.all false
set_option maxRecDepth 100000
set_option maxHeartbeats 4000000
namespace VL
open PySem PySem.Spec PyProof.Rows L2
set_option autoImplicit false
/-! ### what a set asks of a member that is a tuple (of texts, ints and such tuples) -/
section
variable {P : Program} {w : World} {E : Value → Shared → Prop}
/-- whether it is of no class of the text's -/
def OwnQ (P : Program) (w : World) (n : Nat) (s : Shared) (v : Value) : Prop := ∀ (A : Around) (E : Value → Shared → Prop) (Q : Bool → Shared → Prop), Q false s → wpAny (model P w) A (ofAClassStatement n v) Q E s
/-- its hash is asked by value or not -/
def ValQ (P : Program) (w : World) (n : Nat) (s : Shared) (v : Value) : Prop := ∀ (A : Around) (E : Value → Shared → Prop) (Q : Bool → Shared → Prop), (∀ b, Q b s) → wpAny (model P w) A (hashByValue n v) Q E s
theorem OwnQ.tup {n : Nat} {s : Shared} {a : Addr} {o : Obj} {vs : Array Value} {m : Nat} (ho : s.heap.get? a = some o) (hc : o.cls = .type "tuple") (hd : o.data = .seq vs m) (hq : ∀ v ∈ vs.toList, OwnQ P w n s v) : OwnQ P w (n + 1) s (.ref a) := fun A E Q h => by
  have hT : s.TypeIs (.ref a) "tuple" := ⟨o, ho, hc⟩
  unfold ofAClassStatement
  refine wpAny_bind (wpAny_typeOf hT ?_)
  dsimp only
  have e : (("tuple" : String) == "tuple") = true := by decide
  simp only [e, if_true, Bool.not_true, Bool.false_eq_true, if_false]
  try refine wpAny_bind (wpAny_pure ?_)
  try simp only [Bool.not_true, Bool.false_eq_true, if_false]
  show wpAny _ _ (seqItems? (.ref a) >>= _) _ _ s
  refine wpAny_bind (wpAny_seqItems ho hd ?_)
  dsimp only
  refine wpAny_bind ?_
  show wpAny _ _ (forIn vs _ _) _ _ s
  rw [← Array.forIn_toList]
  refine wpAny_forIn_list _ (fun rest r s' => r.1 = none ∧ s' = s ∧ ∀ v ∈ rest, OwnQ P w n s v) _ ?_ ?_ _ _ ⟨rfl, rfl, hq⟩
  · rintro v rest r s' ⟨hr, rfl, hall⟩
    refine wpAny_bind (hall v List.mem_cons_self _ _ _ ?_)
    simp only [Bool.false_eq_true, if_false]
    exact wpAny_pure ⟨rfl, rfl, fun u hu => hall u (List.mem_cons_of_mem _ hu)⟩
  · rintro ⟨r1, r2⟩ s' ⟨hr, rfl, _⟩
    simp only at hr
    subst hr
    exact wpAny_pure h
theorem ValQ.tup {n : Nat} {s : Shared} {a : Addr} {o : Obj} {vs : Array Value} {m : Nat} (ho : s.heap.get? a = some o) (hc : o.cls = .type "tuple") (hd : o.data = .seq vs m) (hq : ∀ v ∈ vs.toList, ValQ P w n s v) : ValQ P w (n + 1) s (.ref a) := fun A E Q h => by
  have hT : s.TypeIs (.ref a) "tuple" := ⟨o, ho, hc⟩
  unfold hashByValue
  refine wpAny_bind (wpAny_specialOf hT F.slot_tuple_hash.lookup ?_)
  show wpAny _ _ (seqItems? (.ref a) >>= _) _ _ s
  refine wpAny_bind (wpAny_seqItems ho hd ?_)
  refine wpAny_bind ?_
  show wpAny _ _ (forIn vs _ _) _ _ s
  rw [← Array.forIn_toList]
  refine wpAny_forIn_list _ (fun rest r s' => (r.1 = none ∨ r.1 = some false) ∧ s' = s ∧ ∀ v ∈ rest, ValQ P w n s v) _ ?_ ?_ _ _ ⟨.inl rfl, rfl, hq⟩
  · rintro v rest r s' ⟨hr, rfl, hall⟩
    have rest' : ∀ u ∈ rest, ValQ P w n s' u := fun u hu => hall u (List.mem_cons_of_mem _ hu)
    refine wpAny_bind (hall v List.mem_cons_self _ _ _ fun b => ?_)
    cases b
    · simp only [Bool.not_false, if_true]
      first
        | exact wpAny_pure (wpAny_pure (h false))
        | exact wpAny_pure ⟨.inr rfl, rfl, rest'⟩
        | exact wpAny_bind (wpAny_pure (wpAny_pure (h false)))
        | exact wpAny_pure (h false)
    · simp only [Bool.not_true, Bool.false_eq_true, if_false]
      exact wpAny_pure ⟨.inl rfl, rfl, rest'⟩
  · rintro ⟨r1, r2⟩ s' ⟨hr, rfl, _⟩
    rcases hr with hr | hr
    · simp only at hr
      subst hr
      exact wpAny_pure (h true)
    · simp only at hr
      subst hr
      exact wpAny_pure (h false)
mutual
theorem ownQ : ∀ (k : NestedKey) (v : Value) (n : Nat) (s : Shared), NestedIs s.heap k v → k.depth ≤ n → OwnQ P w n s v
  | .none, _, n, s, x, _ => by cases x; intro A E Q h; cases n <;> exact wpAny_pure h
  | .num i, _, n, s, x, _ => by cases x <;> (intro A E Q h; cases n <;> exact wpAny_pure h)
  | .text y, _, n, s, x, _ => by cases x; intro A E Q h; cases n <;> exact wpAny_pure h
  | .tup ks, _, n, s, x, hn => by
    cases x with
    | tup hg hc hd hk =>
      simp only [NestedKey.depth] at hn
      cases n with
      | zero => omega
      | succ n => exact .tup hg hc hd (ownQs ks _ n s hk (by omega))
theorem ownQs : ∀ (ks : List NestedKey) (vs : List Value) (n : Nat) (s : Shared), NestedAll s.heap ks vs → NestedKey.depthAll ks ≤ n → ∀ v ∈ vs, OwnQ P w n s v
  | [], _, n, s, x, _, v, hv => by cases x; cases hv
  | k :: ks, _, n, s, x, hn, v, hv => by
    cases x with
    | cons x1 x2 =>
      simp only [NestedKey.depthAll] at hn
      rcases List.mem_cons.mp hv with e | hv
      · rw [e]; exact ownQ k _ n s x1 (by omega)
      · exact ownQs ks _ n s x2 (by omega) v hv
end
mutual
theorem valQ : ∀ (k : NestedKey) (v : Value) (n : Nat) (s : Shared), NestedIs s.heap k v → k.depth ≤ n → ValQ P w n s v
  | .none, _, n, s, x, _ => by cases x; intro A E Q h; cases n <;> exact wpAny_pure (h _)
  | .num i, _, n, s, x, _ => by cases x <;> (intro A E Q h; cases n <;> exact wpAny_pure (h _))
  | .text y, _, n, s, x, _ => by cases x; intro A E Q h; cases n <;> exact wpAny_pure (h _)
  | .tup ks, _, n, s, x, hn => by
    cases x with
    | tup hg hc hd hk =>
      simp only [NestedKey.depth] at hn
      cases n with
      | zero => omega
      | succ n => exact .tup hg hc hd (valQs ks _ n s hk (by omega))
theorem valQs : ∀ (ks : List NestedKey) (vs : List Value) (n : Nat) (s : Shared), NestedAll s.heap ks vs → NestedKey.depthAll ks ≤ n → ∀ v ∈ vs, ValQ P w n s v
  | [], _, n, s, x, _, v, hv => by cases x; cases hv
  | k :: ks, _, n, s, x, hn, v, hv => by
    cases x with
    | cons x1 x2 =>
      simp only [NestedKey.depthAll] at hn
      rcases List.mem_cons.mp hv with e | hv
      · rw [e]; exact valQ k _ n s x1 (by omega)
      · exact valQs ks _ n s x2 (by omega) v hv
end
end
end VL
end

section
set_option Elab.async false
set_option linter.all false
set_option maxRecDepth 100000
set_option maxHeartbeats 4000000
namespace VL
open PySem PySem.Spec PyProof.Rows L2
set_option autoImplicit false
/-! ### sets of tuples: looking for one -/
/-- the tuple at b is the key k -/
def IsN (h : Heap) (k : NestedKey) (b : Addr) : Prop := NestedIs h k (.ref b) ∧ k.depth ≤ 8
abbrev Mem := Addr × NestedKey
def rowN (w : World) (p : Mem) : Int × Value := (p.2.hash w, .ref p.1)
theorem IsN.keep {h h' : Heap} {k : NestedKey} {b : Addr} (x : IsN h k b) (hk : ∀ a o vs n, h.get? a = some o → o.data = .seq vs n → h'.get? a = some o) : IsN h' k b := ⟨NestedIs.at hk _ _ x.1, x.2⟩
structure NSet (w : World) (h : Heap) (a : Addr) (L : List Mem) (es : Array (Int × Value)) (ep : Nat) (t : SetTable) : Prop where
  ob : ∃ o, h.get? a = some o ∧ o.ExactSet ∧ o.data = .set es ep t
  rows : es.toList = L.map (rowN w)
  tab : TabOk t (L.map fun p => p.2.hash w)
  nd : (L.map (·.2)).Nodup
  led : w.params.followText "set-order" = true ∨ t.led = true
  room : L.length * 5 < t.mask * 3
  few : L.length < 64
section
variable {P : Program} {w : World} {A : Around} {E : Value → Shared → Prop} {s : Shared} {a : Addr} {L : List Mem} {es : Array (Int × Value)} {ep : Nat} {t : SetTable}
theorem NSet.size (R : NSet w s.heap a L es ep t) : es.size = L.length := by
  have h := congrArg List.length R.rows
  rwa [Array.length_toList, List.length_map] at h
theorem fitsN {hs : List Int} (T : TabOk t hs) {n : Nat} (hn : n = hs.length) (hm : n ≤ t.mask) : t.fits n = true := by
  have h1 := T.sz
  unfold SetTable.fits SetTable.fill
  rw [T.dm, Bool.and_eq_true, beq_iff_eq, decide_eq_true_eq]
  show t.place.size = n ∧ t.place.size + 0 ≤ t.mask
  omega
theorem NSet.fits (R : NSet w s.heap a L es ep t) : t.fits es.size = true := by
  have h3 := R.room
  exact fitsN R.tab (by rw [R.size, List.length_map]) (by rw [R.size]; omega)
theorem NSet.entry (R : NSet w s.heap a L es ep t) {i : Nat} {p : Mem} (h : L[i]? = some p) : es[i]? = some (rowN w p) := by
  rw [← Array.getElem?_toList, R.rows, List.getElem?_map, h]
  rfl
/-- the probe at the c-th step of the way -/
abbrev stp (m : Nat) (h : Int) (c : Nat) : SetTable.Probe := nth m (runAt m (SetTable.bits h % (m + 1)) (SetTable.bits h)) c
end
end VL
end

section
set_option Elab.async false
set_option linter.all false
set_option maxRecDepth 100000
set_option maxHeartbeats 4000000
namespace VL
open PySem PySem.Spec PyProof.Rows L2
set_option autoImplicit false
/-! ### sets of tuples: one more -/
section
variable {P : Program} {w : World} {A : Around} {E : Value → Shared → Prop} {s : Shared} {a : Addr} {L : List Mem} {es : Array (Int × Value)} {ep : Nat} {t : SetTable}
end
end VL
end

section
set_option Elab.async false
set_option linter.all false
set_option maxRecDepth 100000
set_option maxHeartbeats 4000000
namespace VL
open PySem PySem.Spec PyProof.Rows L2
set_option autoImplicit false
/-! ### sets of tuples: the data -/
mutual
/-- a text, an int, None, or a tuple of such -/
def toN : D → Option NestedKey
  | .none => some .none
  | .int i => some (.num i)
  | .str x => some (.text x)
  | .tuple xs => (toNs xs).map .tup
  | .bool _ => none
  | .list _ => none
  | .dict _ => none
def toNs : List D → Option (List NestedKey)
  | [] => some []
  | x :: xs => (toN x).bind fun k => (toNs xs).map (k :: ·)
end
mutual
theorem toN_data : ∀ (d : D) (k : NestedKey), toN d = some k → k.data = d
  | .none, k, e => by cases e; rfl
  | .int i, k, e => by cases e; rfl
  | .str x, k, e => by cases e; rfl
  | .tuple xs, k, e => by
    rw [toN, Option.map_eq_some_iff] at e
    obtain ⟨ks, e1, rfl⟩ := e
    rw [NestedKey.data, toNs_datas xs ks e1]
  | .bool _, k, e => by rw [toN] at e; cases e
  | .list _, k, e => by rw [toN] at e; cases e
  | .dict _, k, e => by rw [toN] at e; cases e
theorem toNs_datas : ∀ (ds : List D) (ks : List NestedKey), toNs ds = some ks → NestedKey.datas ks = ds
  | [], ks, e => by rw [toNs] at e; cases e; rfl
  | x :: xs, ks, e => by
    rw [toNs] at e
    obtain ⟨k, e1, e2⟩ := Option.bind_eq_some_iff.mp e
    obtain ⟨ks', e3, rfl⟩ := Option.map_eq_some_iff.mp e2
    rw [NestedKey.datas, toN_data x k e1, toNs_datas xs ks' e3]
end
mutual
theorem toN_inj : ∀ (a b : NestedKey), a.data = b.data → a = b
  | .none, b, e => by cases b <;> simp [NestedKey.data] at e; rfl
  | .num i, b, e => by cases b <;> simp [NestedKey.data] at e; rw [e]
  | .text x, b, e => by cases b <;> simp [NestedKey.data] at e; rw [e]
  | .tup ks, b, e => by
    cases b with
    | tup ls =>
      simp only [NestedKey.data, PyData.tuple.injEq] at e
      rw [toNs_inj ks ls e]
    | _ => simp [NestedKey.data] at e
theorem toNs_inj : ∀ (a b : List NestedKey), NestedKey.datas a = NestedKey.datas b → a = b
  | [], b, e => by cases b <;> simp [NestedKey.datas] at e; rfl
  | x :: xs, b, e => by
    cases b with
    | nil => simp [NestedKey.datas] at e
    | cons y ys =>
      simp only [NestedKey.datas, List.cons.injEq] at e
      rw [toN_inj x y e.1, toNs_inj xs ys e.2]
end
/-! ### data of one kind -/
mutual
theorem eqv_self : ∀ d : D, d.plain = true → PyData.eqv d d = true
  | .none, _ => by simp [PyData.eqv]
  | .bool b, _ => by simp [PyData.eqv]
  | .int i, _ => by simp [PyData.eqv]
  | .str x, _ => by simp [PyData.eqv]
  | .list xs, h => by rw [PyData.eqv]; exact eqvAll_self xs (by simpa [PyData.plain] using h)
  | .tuple xs, h => by rw [PyData.eqv]; exact eqvAll_self xs (by simpa [PyData.plain] using h)
  | .dict _, h => by simp [PyData.plain] at h
theorem eqvAll_self : ∀ ds : List D, PyData.plainAll ds = true → PyData.eqvAll ds ds = true
  | [], _ => by simp [PyData.eqvAll]
  | x :: xs, h => by
    rw [PyData.plainAll, Bool.and_eq_true] at h
    rw [PyData.eqvAll, eqv_self x h.1, eqvAll_self xs h.2]
    rfl
end
mutual
theorem eqv_alike : ∀ (x y : D), PySem.W.alike x y = true → PyData.eqv x y = true → x = y
  | .none, y, h, e => by cases y <;> simp [PySem.W.alike] at h; rfl
  | .bool a, y, h, e => by
    cases y with
    | bool b => rw [show a = b by simpa [PyData.eqv] using e]
    | _ => simp [PySem.W.alike] at h
  | .int a, y, h, e => by
    cases y with
    | int b => rw [show a = b by simpa [PyData.eqv] using e]
    | _ => simp [PySem.W.alike] at h
  | .str a, y, h, e => by
    cases y with
    | str b => rw [show a = b by simpa [PyData.eqv] using e]
    | _ => simp [PySem.W.alike] at h
  | .list xs, y, h, e => by
    cases y with
    | list ys => rw [eqvAll_alike xs ys (by simpa [PySem.W.alike] using h) (by simpa [PyData.eqv] using e)]
    | _ => simp [PySem.W.alike] at h
  | .tuple xs, y, h, e => by
    cases y with
    | tuple ys => rw [eqvAll_alike xs ys (by simpa [PySem.W.alike] using h) (by simpa [PyData.eqv] using e)]
    | _ => simp [PySem.W.alike] at h
  | .dict _, y, h, e => by cases y <;> simp [PySem.W.alike] at h
theorem eqvAll_alike : ∀ (xs ys : List D), PySem.W.alikeAll xs ys = true → PyData.eqvAll xs ys = true → xs = ys
  | [], ys, h, e => by cases ys <;> simp [PyData.eqvAll] at e; rfl
  | x :: xs, ys, h, e => by
    cases ys with
    | nil => simp [PyData.eqvAll] at e
    | cons y ys =>
      rw [PySem.W.alikeAll, Bool.and_eq_true] at h
      rw [PyData.eqvAll, Bool.and_eq_true] at e
      rw [eqv_alike x y h.1 e.1, eqvAll_alike xs ys h.2 e.2]
end
mutual
theorem toks_inj : ∀ (x y : D), PySem.W.alike x y = true → ∀ l m, PySem.W.keyToks x ++ l = PySem.W.keyToks y ++ m → x = y ∧ l = m
  | .none, y, h, l, m, e => by
    cases y with
    | none => exact ⟨rfl, e⟩
    | _ => simp [PySem.W.alike] at h
  | .bool a, y, h, l, m, e => by
    cases y with
    | bool b =>
      simp only [PySem.W.keyToks, List.cons_append, List.nil_append, List.cons.injEq, Sum.inl.injEq] at e
      refine ⟨?_, e.2⟩
      have := e.1
      cases a <;> cases b <;> first | rfl | (exfalso; revert this; decide)
    | _ => simp [PySem.W.alike] at h
  | .int a, y, h, l, m, e => by
    cases y with
    | int b =>
      simp only [PySem.W.keyToks, List.cons_append, List.nil_append, List.cons.injEq, Sum.inl.injEq] at e
      exact ⟨by rw [e.1], e.2⟩
    | _ => simp [PySem.W.alike] at h
  | .str a, y, h, l, m, e => by
    cases y with
    | str b =>
      simp only [PySem.W.keyToks, List.cons_append, List.nil_append, List.cons.injEq, Sum.inr.injEq] at e
      exact ⟨by rw [PySem.W.str_of_cps e.1], e.2⟩
    | _ => simp [PySem.W.alike] at h
  | .list xs, y, h, l, m, e => by
    cases y with
    | list ys =>
      obtain ⟨e1, e2⟩ := toksAll_inj xs ys (by simpa [PySem.W.alike] using h) l m (by simpa [PySem.W.keyToks] using e)
      exact ⟨by rw [e1], e2⟩
    | _ => simp [PySem.W.alike] at h
  | .tuple xs, y, h, l, m, e => by
    cases y with
    | tuple ys =>
      obtain ⟨e1, e2⟩ := toksAll_inj xs ys (by simpa [PySem.W.alike] using h) l m (by simpa [PySem.W.keyToks] using e)
      exact ⟨by rw [e1], e2⟩
    | _ => simp [PySem.W.alike] at h
  | .dict _, y, h, _, _, _ => by cases y <;> simp [PySem.W.alike] at h
theorem toksAll_inj : ∀ (xs ys : List D), PySem.W.alikeAll xs ys = true → ∀ l m, PySem.W.keyToksAll xs ++ l = PySem.W.keyToksAll ys ++ m → xs = ys ∧ l = m
  | [], ys, h, l, m, e => by
    cases ys with
    | nil =>
      simp only [PySem.W.keyToksAll, List.cons_append, List.nil_append, List.cons.injEq] at e
      exact ⟨rfl, e.2⟩
    | cons y ys =>
      simp only [PySem.W.keyToksAll, List.cons_append, List.nil_append, List.cons.injEq, Sum.inl.injEq] at e
      exact absurd e.1 (by decide)
  | x :: xs, ys, h, l, m, e => by
    cases ys with
    | nil =>
      simp only [PySem.W.keyToksAll, List.cons_append, List.nil_append, List.cons.injEq, Sum.inl.injEq] at e
      exact absurd e.1 (by decide)
    | cons y ys =>
      rw [PySem.W.alikeAll, Bool.and_eq_true] at h
      simp only [PySem.W.keyToksAll, List.cons_append, List.append_assoc, List.cons.injEq] at e
      obtain ⟨e1, e2⟩ := toks_inj x y h.1 _ _ e.2
      obtain ⟨e3, e4⟩ := toksAll_inj xs ys h.2 _ _ e2
      exact ⟨by rw [e1, e3], e4⟩
end
/-! ### alike up to the first place that differs -/
mutual
theorem eqv_lk : ∀ (x y : D), lk x y = true → PyData.eqv x y = true → x = y
  | .tuple xs, y, h, e => by
    obtain ⟨ys, rfl, h⟩ := lk_tup h
    rw [eqvAll_lk xs ys h (by simpa [PyData.eqv] using e)]
  | .none, y, h, e => eqv_alike _ y (lk_flat h (by simp)) e
  | .bool _, y, h, e => eqv_alike _ y (lk_flat h (by simp)) e
  | .int _, y, h, e => eqv_alike _ y (lk_flat h (by simp)) e
  | .str _, y, h, e => eqv_alike _ y (lk_flat h (by simp)) e
  | .list _, y, h, e => eqv_alike _ y (lk_flat h (by simp)) e
  | .dict _, y, h, e => eqv_alike _ y (lk_flat h (by simp)) e
theorem eqvAll_lk : ∀ (xs ys : List D), lkAll xs ys = true → PyData.eqvAll xs ys = true → xs = ys
  | [], [], _, _ => rfl
  | [], _ :: _, _, e => by simp [PyData.eqvAll] at e
  | _ :: _, [], _, e => by simp [PyData.eqvAll] at e
  | x :: xs, y :: ys, h, e => by
    rw [PySem.W.eqv_all_cons, Bool.and_eq_true] at e
    obtain ⟨a, b⟩ := lk_yes h e.1
    rw [eqv_alike x y a e.1, eqvAll_lk xs ys b e.2]
end
end VL
end

section
set_option Elab.async false
set_option linter.all false
set_option maxRecDepth 100000
set_option maxHeartbeats 8000000
namespace VL
open PySem PySem.Spec PyProof.Rows L2
set_option autoImplicit false
section
variable {P : Program} {w : World} {A : Around} {E : Value → Shared → Prop} {s : Shared} {ok : Around → Prop} {κ : Type}
end
end VL
end

section
set_option Elab.async false
set_option linter.all false
set_option maxRecDepth 100000
set_option maxHeartbeats 4000000
namespace VL
open PySem PySem.Spec PyProof.Rows L2
set_option autoImplicit false
section
variable {P : Program} {w : World} {A : Around} {E : Value → Shared → Prop} {s : Shared}
end
end VL
end

section
set_option Elab.async false
set_option linter.all false
set_option maxRecDepth 100000
set_option maxHeartbeats 4000000
namespace VL
open PySem PySem.Spec PyProof.Rows L2
set_option autoImplicit false
/-! ### sorts of the same things -/
section
variable {X : Cx}
end
end VL
end

section
set_option Elab.async false
set_option linter.all false
set_option maxRecDepth 100000
set_option maxHeartbeats 4000000
namespace VL
open PySem PySem.Spec PyProof.Rows L2
set_option autoImplicit false
structure OneKind (xs : List D) : Prop where
  refl : ∀ x ∈ xs, PyData.eqv x x = true
  eq : ∀ x ∈ xs, ∀ y ∈ xs, PyData.eqv x y = true → x = y
  anti : ∀ a ∈ xs, ∀ b ∈ xs, dle a b = true → dle b a = true → a = b
  alike : PySem.W.AllAlike xs
  srt : PySem.W.Sortable xs
section
variable {X : Cx} {B : Eb} {Γ : Gm} {E : Wish} {a : Expr} {ma : M D} {p p2 q pos : Pos}
end
end VL
end

section
set_option Elab.async false
set_option linter.all false
set_option maxRecDepth 100000
set_option maxHeartbeats 4000000
namespace VL
open PySem PySem.Spec PyProof.Rows L2
set_option autoImplicit false
section
variable {X : Cx} {B : Eb} {Γ : Gm} {E : Wish} {a b e : Expr} {es : List Expr} {ma mb : M D} {ms : M (List D)} {pos p : Pos}
/-! ### displays with stars -/
def dItems : D → Option (List D)
  | .list xs => some xs
  | .tuple xs => some xs
  | _ => none
def mStar (a : M D) (r : M (List D)) : M (List D) := a.bind fun x => (M.of (dItems x)).bind fun xs => r.bind fun ys => M.pure (xs ++ ys)
def mTupS (m : M (List D)) : M D := m.bind fun ds => (M.of (if ds.length ≤ sizeLine then some () else none)).bind fun _ => M.pure (.tuple ds)
def mLstS (m : M (List D)) : M D := m.bind fun ds => (M.of (if ds.length ≤ sizeLine then some () else none)).bind fun _ => M.pure (.list ds)
/-! ### two lists put together: a new one -/
def gCat : D → D → Option D
  | .list xs, .list ys => if xs.length + ys.length ≤ sizeLine then some (.list (xs ++ ys)) else none
  | _, _ => none
theorem vo_cat (ha : VE X B Γ E a ma) (hb : VE X B Γ E b mb) : VO X B Γ E (.BinOp a .Add b pos) (m2 gCat ma mb) :=
  PE.imp (pe_op op_cat ha hb) fun σ H Q ⟨F, ρ, r, h⟩ => ⟨F, ρ, r, (Res.bind h).mono (fun x ρ1 h1 v1 H1 F1 r1 g1 q1 => ⟨F1, ρ1, r1, (Res.bind h1).mono (fun y ρ2 h2 v2 H2 F2 r2 g2 q2 => by
    obtain ⟨d, e, h3⟩ := Res.of h2
    cases x with
    | list xs =>
      cases y with
      | list ys =>
        obtain ⟨c, rfl⟩ := ite_some e
        obtain ⟨l, vs, rfl, ha, qa⟩ := dq_lst (q1.grow (g2.g r1))
        obtain ⟨k, ws, rfl, hb, qb⟩ := dq_lst q2
        refine ⟨l, k, vs, ws, rfl, rfl, ha, hb, by rw [qa.length, qb.length]; exact c, fun p np => ?_⟩
        have ex := Ext.laid (o := .lst (vs ++ ws)) r2.trk np
        exact h3 (.ref p) _ _ (r2.to ex) ((g1.trans g2).trans ex.kp) ⟨p, rfl, .lst upd_same ((qa.append qb).grow (ex.grow r2.trk)), r2.nf np, (g1.trans g2).none0 r2 np⟩
      | _ => cases e
    | _ => cases e) (fun _ _ _ k => k.grow g1)⟩) (fun _ _ _ k => k)⟩
/-! ### sum, max, min of a list of ints -/
def intsD : List D → Option (List Int)
  | [] => some []
  | .int i :: r => (intsD r).map (i :: ·)
  | _ => none
theorem intsD_ok {K : PySem.W.Frag} {F : Fz} {H : Hp} : ∀ {vs : List V} {ds : List D} {is : List Int}, DqAll K F H vs ds → intsD ds = some is → vs = is.map V.int
  | _, _, _, .nil, e => by cases e; rfl
  | _, _, _, .cons q r, e => by
    cases q with
    | int b =>
      obtain ⟨l, h, rfl⟩ := Option.map_eq_some_iff.mp (show (intsD _).map (b :: ·) = some _ from e)
      rw [List.map_cons, intsD_ok r h]
    | _ => cases e
def cSum : List D → Option D
  | [.list xs] => (intsD xs).map fun is => .int is.sum
  | _ => none
theorem call_sumV (hc : X.calm = true) : CallR X (.builtin "sum") (rVs X.K cSum) := CallR.imp (cr_sum hc) fun xs H Q ⟨F, ds, d, t, q, e, gv⟩ => by
  match ds, e with
  | [.list ys], e =>
    obtain ⟨is, h, rfl⟩ := Option.map_eq_some_iff.mp (show (intsD ys).map (fun is => PyData.int is.sum) = some d from e)
    obtain ⟨v, rfl, q'⟩ := q.one
    obtain ⟨a, vs, rfl, ha, qa⟩ := dq_sqL q'
    rw [intsD_ok qa h] at ha
    exact ⟨a, is, rfl, ha, gv.here t (.int _)⟩
end
end VL
end

section
set_option Elab.async false
set_option linter.all false
set_option maxRecDepth 100000
set_option maxHeartbeats 4000000
namespace VL
open PySem PySem.Spec PyProof.Rows L2
set_option autoImplicit false
section
variable {X : Cx} {B : Eb} {Γ : Gm} {E : Wish} {a b e : Expr} {ma mb me : M D} {pos p : Pos}
/-! ### a text's dict read -/
/-! ### x, *y = a tuple -/
end
section
variable {X : Cx} {B : Eb} {G : Gd} {Ps O On Ol : List Nat} {E : Wish} {ro : Bool} {e e1 e2 : Expr} {me : M D} {pos : Pos} {k : Nat} {ps : Pos}
def starT (i j : Tg) (d : D) (ρ : Env) : Option Env := match d with
  | .tuple (x :: xs) => (bindT i x ρ).bind (bindT j (.list xs))
  | _ => none
def mStar2 (i j : Tg) (me : M D) : M Fl := me.bind fun d ρ => match starT i j d ρ with
  | some ρ' => .ok (.nx, ρ')
  | none => .stuck
end
end VL
end

section
set_option Elab.async false
set_option linter.all false
set_option maxRecDepth 100000
set_option maxHeartbeats 4000000
namespace VL
open PySem PySem.Spec PyProof.Rows L2
set_option autoImplicit false
section
variable {X : Cx} {B : Eb} {Γ : Gm} {E : Wish} {a b c tg : Expr} {ms : M (List D)} {p pos : Pos}
end
end VL
end

section
set_option Elab.async false
set_option linter.all false
set_option maxRecDepth 100000
set_option maxHeartbeats 4000000
namespace VL
open PySem PySem.Spec PyProof.Rows L2
set_option autoImplicit false
/-! ### comparing what is one's own: it stays one's own -/
def slotAt (ρ : Env) (i : Nat) : Option D := match ρ[i]? with
  | some (some (.list ds)) => some (.list ds)
  | _ => none
def boolOf : D → Option D
  | .bool b => some (.bool b)
  | _ => none
def mPkL (g : D → D → Option D) (i : Nat) (mb : M D) : M D := fun ρ => match slotAt ρ i with
  | none => .stuck
  | some _ => (mb ρ).bind fun p => match slotAt p.2 i with
    | none => .stuck
    | some d => match (g d p.1).bind boolOf with
      | some c => .ok (c, p.2)
      | none => .stuck
def mPkR (g : D → D → Option D) (ma : M D) (i : Nat) : M D := fun ρ => (ma ρ).bind fun p => match slotAt p.2 i with
  | none => .stuck
  | some d => match (g p.1 d).bind boolOf with
    | some c => .ok (c, p.2)
    | none => .stuck
section
variable {X : Cx} {B : Eb} {Γ : Gm} {E : Wish} {a b : Expr} {ma mb : M D} {pos px : Pos}
end
end VL
end

section
set_option Elab.async false
set_option linter.all false
set_option maxRecDepth 100000
set_option maxHeartbeats 4000000
namespace VL
open PySem PySem.Spec PyProof.Rows L2
set_option autoImplicit false
/-! ### [e for x in xs if .. for y in ys if ..] -/
def lcB (t : Tg) (own : List Nat) (mt : M Bool) (me : M D) : List D → List D → M (List D)
  | [], acc => M.pure acc
  | d :: ds, acc => fun ρ => match bindT t d ρ with
    | none => .stuck
    | some ρ1 => (mt ρ1).sbind fun q => if q.1 = true then (me q.2).sbind fun p => if acc.length < sizeLine then lcB t own mt me ds (acc ++ [p.1]) (wipeE p.2 own) else .stuck else lcB t own mt me ds acc (wipeE q.2 own)
def lcL2 (t : Tg) (own : List Nat) (mt : M Bool) (mi1 : M (List D)) (t1 : Tg) (vs1 : List Nat) (mt1 : M Bool) (me : M D) : List D → List D → M (List D)
  | [], acc => M.pure acc
  | d :: ds, acc => fun ρ => match bindT t d ρ with
    | none => .stuck
    | some ρ1 => (mt ρ1).sbind fun q => if q.1 = true then (mi1 q.2).sbind fun p => (lcB t1 vs1 mt1 me p.1 acc (wipeE p.2 vs1)).sbind fun r => lcL2 t own mt mi1 t1 vs1 mt1 me ds r.1 (wipeE r.2 own) else lcL2 t own mt mi1 t1 vs1 mt1 me ds acc (wipeE q.2 own)
def mLc2 (t : Tg) (own : List Nat) (mi : M (List D)) (mt : M Bool) (mi1 : M (List D)) (t1 : Tg) (vs1 : List Nat) (mt1 : M Bool) (me : M D) : M D := fun ρ => (mi ρ).bind fun p => (lcL2 t own mt mi1 t1 vs1 mt1 me p.1 [] (wipeE p.2 own)).sbind fun q => .ok (.list q.1, backE p.2 own q.2)
structure Kpd (O : List Nat) (σ : St) (D0 : Addr) (F : Fz) (H : Hp) (F' : Fz) (H' : Hp) : Prop where
  frz : ∀ b, F b → F' b
  keep : ∀ b o, b ≠ D0 → H b = some o → ¬ Own O σ b → H' b = some o ∧ (F' b → F b)
section
variable {O : List Nat} {σ σ' : St} {D0 : Addr} {F F1 F2 : Fz} {H H1 H2 : Hp}
theorem Kpd.refl : Kpd O σ D0 F H F H := ⟨fun _ h => h, fun _ _ _ h _ => ⟨h, fun z => z⟩⟩
theorem Kp.kd (k : Kp O σ F H F1 H1) : Kpd O σ D0 F H F1 H1 := ⟨k.frz, fun b o _ h n => k.keep b o h n⟩
theorem Kpd.trans (a : Kpd O σ D0 F H F1 H1) (b : Kpd O σ D0 F1 H1 F2 H2) : Kpd O σ D0 F H F2 H2 :=
  ⟨fun c h => b.frz c (a.frz c h), fun c o nd h n => by
    obtain ⟨h1, f1⟩ := a.keep c o nd h n
    obtain ⟨h2, f2⟩ := b.keep c o nd h1 n
    exact ⟨h2, fun z => f1 (f2 z)⟩⟩
theorem Kpd.upd (k : Kpd O σ D0 F H F1 H1) (u : HO) : Kpd O σ D0 F H F1 (L2.upd H1 D0 u) := ⟨k.frz, fun b o nd h n => by
  obtain ⟨h1, f1⟩ := k.keep b o nd h n
  exact ⟨by rw [upd_ne nd]; exact h1, f1⟩⟩
theorem Kpd.own (k : Kpd O σ D0 F H F1 H1) (e : ∀ b, Own O σ' b ↔ Own O σ b) : Kpd O σ' D0 F H F1 H1 := ⟨k.frz, fun b o nd h n => k.keep b o nd h fun z => n ((e b).mpr z)⟩
theorem Kpd.g {K : PySem.W.Frag} {Γ : Gm} {ρ : Env} (k : Kpd Γ.O σ D0 F H F1 H1) (r : Rel K Γ F ρ σ H) (nf : ¬ F D0) (nt : ∀ xs, H D0 ≠ some (.tup xs)) : Grow F H F1 H1 := by
  refine ⟨fun b hb => ?_, fun b xs h => (k.keep b _ (fun z => nt xs (by rw [← z]; exact h)) h (r.nownT h)).1⟩
  obtain ⟨o, ho⟩ := r.trk b hb
  have no : ¬ Own Γ.O σ b := fun ⟨j, hj, hs⟩ => by
    obtain ⟨d, hd⟩ := r.dom j hj _ hs
    obtain ⟨a, h1, h2, _⟩ := r.own j d hd hj
    rw [hs] at h1; cases h1
    exact h2 hb
  exact ⟨k.frz b hb, by rw [ho]; exact (k.keep b o (fun z => nf (z ▸ hb)) ho no).1⟩
end
section
variable {X : Cx} {B : Eb} {Γ : Gm} {E : Wish} {t t1 : Tg} {mi mi1 : M (List D)} {mt mt1 : M Bool} {me : M D}
end
section
variable {X : Cx} {B : Eb} {E : Wish} {tg iter tg1 iter1 elt : Expr} {ifs ifs1 : List Expr} {t t1 : Tg} {mi mi1 : M (List D)} {mt mt1 : M Bool} {me : M D} {pos spos py : Pos}
end
end VL
end

section
set_option Elab.async false
set_option linter.all false
set_option maxRecDepth 100000
set_option maxHeartbeats 4000000
namespace VL
open PySem PySem.Spec PyProof.Rows L2
set_option autoImplicit false
/-! ### {k: v for x in xs if ..}, {k: v for x in xs if .. for y in ys if ..} -/
def dcL (t : Tg) (own : List Nat) (mt : M Bool) (mk mv : M D) : List D → D → M D
  | [], acc => M.pure acc
  | d :: ds, acc => fun ρ => match bindT t d ρ with
    | none => .stuck
    | some ρ1 => (mt ρ1).sbind fun q => if q.1 = true then (mk q.2).sbind fun k => (mv k.2).sbind fun v => match dPut acc k.1 v.1 with
      | some acc' => dcL t own mt mk mv ds acc' (wipeE v.2 own)
      | none => .stuck else dcL t own mt mk mv ds acc (wipeE q.2 own)
def mDc (d0 : D) (t : Tg) (own : List Nat) (mi : M (List D)) (mt : M Bool) (mk mv : M D) : M D := fun ρ => (mi ρ).bind fun p => (dcL t own mt mk mv p.1 d0 (wipeE p.2 own)).sbind fun q => .ok (q.1, backE p.2 own q.2)
def dcL2 (t : Tg) (own : List Nat) (mt : M Bool) (mi1 : M (List D)) (t1 : Tg) (vs1 : List Nat) (mt1 : M Bool) (mk mv : M D) : List D → D → M D
  | [], acc => M.pure acc
  | d :: ds, acc => fun ρ => match bindT t d ρ with
    | none => .stuck
    | some ρ1 => (mt ρ1).sbind fun q => if q.1 = true then (mi1 q.2).sbind fun p => (dcL t1 vs1 mt1 mk mv p.1 acc (wipeE p.2 vs1)).sbind fun r => dcL2 t own mt mi1 t1 vs1 mt1 mk mv ds r.1 (wipeE r.2 own) else dcL2 t own mt mi1 t1 vs1 mt1 mk mv ds acc (wipeE q.2 own)
def mDc2 (d0 : D) (t : Tg) (own : List Nat) (mi : M (List D)) (mt : M Bool) (mi1 : M (List D)) (t1 : Tg) (vs1 : List Nat) (mt1 : M Bool) (mk mv : M D) : M D := fun ρ => (mi ρ).bind fun p => (dcL2 t own mt mi1 t1 vs1 mt1 mk mv p.1 d0 (wipeE p.2 own)).sbind fun q => .ok (q.1, backE p.2 own q.2)
section
variable {X : Cx} {B : Eb} {Γ : Gm} {E : Wish} {t t1 : Tg} {mi mi1 : M (List D)} {mt mt1 : M Bool} {mk mv : M D}
end
section
variable {X : Cx} {B : Eb} {E : Wish} {tg iter tg1 iter1 kx vx : Expr} {ifs ifs1 : List Expr} {t t1 : Tg} {mi mi1 : M (List D)} {mt mt1 : M Bool} {mk mv : M D} {pos : Pos}
end
/-! y = {..}, stored within the comprehension -/
section
variable {X : Cx} {B : Eb} {G : Gd} {Ps O Ol : List Nat} {E : Wish} {ro : Bool} {tg iter tg1 iter1 kx vx : Expr} {ifs ifs1 : List Expr} {t t1 : Tg} {mi mi1 : M (List D)} {mt mt1 : M Bool} {mk mv : M D} {pos spos py : Pos}
end
end VL
end

section
set_option Elab.async false
set_option linter.all false
set_option maxRecDepth 100000
set_option maxHeartbeats 4000000
namespace VL
open PySem PySem.Spec PyProof.Rows L2
set_option autoImplicit false
/-! ### defs whose last parameter may be left out: then it is () -/
/-- an empty tuple of the text's, an object without a dict -/
def WrTP (K : PySem.W.Frag) (a : Addr) : Prop := WrT K a [] ∧ ∃ o, K.lookup a = some o ∧ o.dict = none
structure CalD (P : Program) (w : World) (K : PySem.W.Frag) (mg : Str → Option Value) (base : Heap) (B : Eb) (k : Nat) (x : Str) (st : Stmt) (ps : List Str) (ms : List Bool) (ro : Bool) (fn : Fn) : Prop where
  ex : ∃ a fd E ds, FnOk P w K mg base (L2.CX P w) k a fd ps (spV K B ms ro fn) ∧ mg x = some (.ref a) ∧ PySem.W.keepIn K (.ref a) = true ∧ WrTP K E ∧ Binds K fd ps [] ∧ Vals [.ref E] ds ∧ Binds K fd ps ds
def mCallD (fn : Fn) (ms : M (List D)) : M D := fun ρ => (ms ρ).bind fun p => match fn (p.1 ++ [.tuple []]) with
  | .ok q => if q.2 = [] then .ok (q.1, p.2) else .stuck
  | .exc c fs _ => .exc c fs p.2
  | .stuck => .stuck
section
variable {X : Cx} {B : Eb} {G : Gd} {Ps O : List Nat} {Γ : Gm} {Ek : XK} {k : Nat} {x : Str} {st : Stmt} {ps : List Str} {p pos : Pos} {e : Expr} {es : List Expr} {sl : List Sl} {m : M (List D)} {ms : List Bool} {fn : Fn}
end
theorem Held1.ext {K : PySem.W.Frag} {F F' : Fz} {H H' Hs : Hp} {s : Sl} {v : V} {d : D} (h : Held1 K F H Hs s v d) (t : ∀ b, F b → ∃ o, H b = some o) (ex : Ext F H F' H') : Held1 K F' H' Hs s v d := by
  cases h with
  | dat q => exact .dat (q.grow (ex.grow t))
  | tmp oa nf hn =>
    obtain ⟨o, ho⟩ := oa.some
    refine .tmp (oa.grow (ex.grow t) (by rw [ho]; exact ex.same _ _ ho)) (fun z => ?_) hn
    rcases ex.new _ z with z | z
    · exact nf z
    · rw [ho] at z; cases z
section
variable {X : Cx} {B : Eb} {G : Gd} {Ps O Ol O1 O2 : List Nat} {E : Wish} {ro : Bool} {a b : Expr} {m : M (List D)} {pos : Pos}
/-- a, b = x, y where a name is a cell -/
theorem vs_parC2 {i j : Nat} {x y : Str} {px py pt pt2 : Pos} {kt k2 : Nat} {s1 s2 : Sl} (hO1 : newO s1 i O = O1) (hO2 : newO s2 j O1 = O2) (hc : X.calm = true) (hN : X.N.Nodup) (hi : X.N[i]? = some x) (hj : X.N[j]? = some y) (hx : Loc X.env.scope x) (hy : Loc X.env.scope y)
    (ha : VM X B (G.w Ps O) E [a, b] [s1, s2] m) (hw : swappedStores [.Tuple [.Name x px, .Name y py] kt pt] (.Tuple [a, b] k2 pt2) X.env = pure none := by rfl)
    (hs : swapsWithSole [.Tuple [.Name x px, .Name y py] kt pt] (.Tuple [a, b] k2 pt2) pos.line X.env = pure false := by rfl) (n1 : ∀ j, s1 ≠ .slot j := by intro _ z; cases z) (n2 : ∀ j, s2 ≠ .slot j := by intro _ z; cases z) (hp1 : i ∉ Ps := by decide) (hp2 : j ∉ Ps := by decide)
    (hf : X.fn x = true ∨ X.env.scope.names.lookup x = some .local := by first | exact .inl rfl | exact .inr rfl) (hf2 : X.fn y = true ∨ X.env.scope.names.lookup y = some .local := by first | exact .inl rfl | exact .inr rfl)
    (hae : (assignEach [.Name x px, .Name y py] X.env).map (·.2) = assign (.Name x px) X.env :: (assignEach [.Name y py] X.env).map (·.2) := by rfl) (hae2 : (assignEach [.Name y py] X.env).map (·.2) = assign (.Name y py) X.env :: (assignEach [] X.env).map (·.2) := by rfl)
    (hal : (assignEach [.Name x px, .Name y py] X.env).length = 2 := by rfl) (hst : (assignEach [.Name x px, .Name y py] X.env).findIdx? (·.1) = none := by rfl) (h1 : (assignEach [.Tuple [.Name x px, .Name y py] kt pt] X.env).map (·.2) = [assign (.Tuple [.Name x px, .Name y py] kt pt) X.env] := by rfl) :
    VS X B G Ps E ro O O2 Ol (.Assign [.Tuple [.Name x px, .Name y py] kt pt] (.Tuple [a, b] k2 pt2) pos) (mPar [i, j] m) :=
  PS.imp (ps_asg (pe_tup ha) (pg_tup hc (pgs_cons (pg_name hN hi hx hf) (pgs_cons (pg_name hN hj hy hf2) pgs_nil hae2) hae) hal hst) hs hw h1) fun N σ H ⟨F, ρ, r, h⟩ => ⟨F, ρ, r, (Res.bind h).mono (fun ds ρ1 h1 vs H1 F1 r1 k1 hh => by
    obtain ⟨v, w, d1, d2, rfl, rfl, q1, q2, q3⟩ := held2 n1 n2 hh
    refine ⟨by show 2 ≤ sizeLine; decide, fun p np => ?_⟩
    have ex := Ext.laid (o := .tup [v, w]) r1.trk np
    have r1' := r1.to ex
    have h0 : ∀ a, H a = none → G.H0 a = none := fun a z => r.h0 z
    have ra := (q1.ext r1.trk ex).set r1' h0 (fun _ a _ z => r.nownN z) hp1
    have rb := (q2.ext r1.trk ex).set ra h0 (fun t2 b e z => own_set (r.nownN z) fun t1 e2 => q3 t1 t2 (e2.trans e.symm)) hp2
    rw [hO1, hO2] at rb
    exact ⟨p, [v, w], rfl, .inl (.inl upd_same), rfl, v, [w], rfl, w, [], rfl, rfl, h1 _ _ F1 rb ((k1.trans ex.kp).g r)⟩) (fun _ _ _ k => k.ex r)⟩
end
end VL
end

section
set_option Elab.async false
set_option linter.all false
set_option maxRecDepth 100000
set_option maxHeartbeats 0
namespace K57
open PySem PySem.Spec PyProof.Rows L2 VL
abbrev PW : Program := PySem.Challenge.pw_lastlimit_k57_ways_to_weave
def topS (i : Nat) : Stmt := PySem.Challenge.pw_lastlimit_k57_ways_to_weave.main.body.getD i (.Pass ⟨0, 0, 0, 0⟩)
abbrev s_tupled : Stmt := topS 3
abbrev s_ways_of : Stmt := topS 5
abbrev s_how_many_ways : Stmt := topS 6
abbrev s_one_less : Stmt := topS 7
abbrev s_nth_way : Stmt := topS 8
abbrev s_number_of_way : Stmt := topS 9
abbrev s_woven : Stmt := topS 10
abbrev s__law_box : Stmt := topS 12
abbrev s__law_take : Stmt := topS 13
abbrev s__law_cells : Stmt := topS 14
abbrev s__law_of : Stmt := topS 15
abbrev s__law_pick : Stmt := topS 16
abbrev s__law_lists : Stmt := topS 17
abbrev s__law_same : Stmt := topS 18
abbrev s__law_tags : Stmt := topS 19
abbrev s__law_limits : Stmt := topS 20
abbrev s__law_ways : Stmt := topS 21
abbrev s__law_woven : Stmt := topS 22
abbrev s__law_heard : Stmt := topS 23
abbrev s__law_by_hand_right : Stmt := topS 24
abbrev s__law_right : Stmt := topS 25
abbrev s_law : Stmt := topS 26
/-! ### the head -/
def d_tupled : He.DefD := ⟨("tupled", none), "tupled", "tupled", defArgs s_tupled, defBody s_tupled, defScope s_tupled, [], []⟩
def d_ways_of : He.DefD := ⟨("ways_of", none), "ways_of", "ways_of", defArgs s_ways_of, defBody s_ways_of, defScope s_ways_of, [], []⟩
def d_how_many_ways : He.DefD := ⟨("how_many_ways", none), "how_many_ways", "how_many_ways", defArgs s_how_many_ways, defBody s_how_many_ways, defScope s_how_many_ways, [], []⟩
def d_one_less : He.DefD := ⟨("one_less", none), "one_less", "one_less", defArgs s_one_less, defBody s_one_less, defScope s_one_less, [], []⟩
def d_nth_way : He.DefD := ⟨("nth_way", none), "nth_way", "nth_way", defArgs s_nth_way, defBody s_nth_way, defScope s_nth_way, [], []⟩
def d_number_of_way : He.DefD := ⟨("number_of_way", none), "number_of_way", "number_of_way", defArgs s_number_of_way, defBody s_number_of_way, defScope s_number_of_way, [], []⟩
def d_woven : He.DefD := ⟨("woven", none), "woven", "woven", defArgs s_woven, defBody s_woven, defScope s_woven, [], []⟩
def d__law_box : He.DefD := ⟨("_law_box", none), "_law_box", "_law_box", defArgs s__law_box, defBody s__law_box, defScope s__law_box, [], []⟩
def d__law_take : He.DefD := ⟨("_law_take", none), "_law_take", "_law_take", defArgs s__law_take, defBody s__law_take, defScope s__law_take, [], []⟩
def d__law_cells : He.DefD := ⟨("_law_cells", none), "_law_cells", "_law_cells", defArgs s__law_cells, defBody s__law_cells, defScope s__law_cells, [], []⟩
def d__law_of : He.DefD := ⟨("_law_of", none), "_law_of", "_law_of", defArgs s__law_of, defBody s__law_of, defScope s__law_of, [], []⟩
def d__law_pick : He.DefD := ⟨("_law_pick", none), "_law_pick", "_law_pick", defArgs s__law_pick, defBody s__law_pick, defScope s__law_pick, [], []⟩
def d__law_lists : He.DefD := ⟨("_law_lists", none), "_law_lists", "_law_lists", defArgs s__law_lists, defBody s__law_lists, defScope s__law_lists, [], []⟩
def d__law_same : He.DefD := ⟨("_law_same", none), "_law_same", "_law_same", defArgs s__law_same, defBody s__law_same, defScope s__law_same, [], []⟩
def d__law_tags : He.DefD := ⟨("_law_tags", none), "_law_tags", "_law_tags", defArgs s__law_tags, defBody s__law_tags, defScope s__law_tags, [], []⟩
def d__law_limits : He.DefD := ⟨("_law_limits", none), "_law_limits", "_law_limits", defArgs s__law_limits, defBody s__law_limits, defScope s__law_limits, [], []⟩
def d__law_ways : He.DefD := ⟨("_law_ways", none), "_law_ways", "_law_ways", defArgs s__law_ways, defBody s__law_ways, defScope s__law_ways, [], []⟩
def d__law_woven : He.DefD := ⟨("_law_woven", none), "_law_woven", "_law_woven", defArgs s__law_woven, defBody s__law_woven, defScope s__law_woven, [], []⟩
def d__law_heard : He.DefD := ⟨("_law_heard", none), "_law_heard", "_law_heard", defArgs s__law_heard, defBody s__law_heard, defScope s__law_heard, [], []⟩
def d__law_by_hand_right : He.DefD := ⟨("_law_by_hand_right", none), "_law_by_hand_right", "_law_by_hand_right", defArgs s__law_by_hand_right, defBody s__law_by_hand_right, defScope s__law_by_hand_right, [], []⟩
def d__law_right : He.DefD := ⟨("_law_right", none), "_law_right", "_law_right", defArgs s__law_right, defBody s__law_right, defScope s__law_right, [], []⟩
def d_law : He.DefD := ⟨("law", none), "law", "law", defArgs s_law, defBody s_law, defScope s_law, [], []⟩
def hfn : List He.DefD := [d_tupled, d_ways_of, d_how_many_ways, d_one_less, d_nth_way, d_number_of_way, d_woven, d__law_box, d__law_take, d__law_cells, d__law_of, d__law_pick, d__law_lists, d__law_same, d__law_tags, d__law_limits, d__law_ways, d__law_woven, d__law_heard, d__law_by_hand_right, d__law_right, d_law]
def hfa : List He.Fa := [.glo "tupled", .glo "ways_of", .glo "how_many_ways", .glo "one_less", .glo "nth_way", .glo "number_of_way", .glo "woven", .glo "_law_box", .glo "_law_take", .glo "_law_cells", .glo "_law_of", .glo "_law_pick", .glo "_law_lists", .glo "_law_same", .glo "_law_tags", .glo "_law_limits", .glo "_law_ways", .glo "_law_woven", .glo "_law_heard", .glo "_law_by_hand_right", .glo "_law_right", .glo "law", .free "LookupError", .free "abs", .free "all", .free "bool", .free "dict", .free "enumerate", .free "int", .free "isinstance", .free "len", .free "list", .free "min", .free "range", .free "sorted", .free "str", .free "sum", .free "super", .free "tuple", .free "zip"]
def hts : List He.Tab := []
def hex (K : PySem.W.Frag) : Bool := VL.clsB PW K "NoNumber" "number" .le && VL.takB K "NoNumber" ([(2, true)] : List (Nat × Bool)) && VL.fldB K "number" ["NoNumber"] && VL.isxB K (.type "LookupError") ([("NoNumber", true)] : List (Str × Bool))
abbrev hR : PySem.W.OpenRow := PySem.W.OpenLaw.row PySem.Challenge.rw_lastlimit_k57_ways_to_weave
abbrev hk : PySem.W.Hook := VL.hookY 4 hfa hfn hts hex
def hob (s : PySem.W.SharedT) : He.AlX := VL.obsY 4 hfa hfn hts hex (HandSHeadRun.getT s)
theorem hob_eq (s : PySem.W.SharedT) : hob s = hk.obs s.abs := VL.obsY_eq (HandSHeadRun.getT_eq s)
def hn0 : List Str := ["NoNumber", "tupled", "ways_of", "how_many_ways", "one_less", "nth_way", "number_of_way", "woven", "_law_box", "_law_take", "_law_cells", "_law_of", "_law_pick", "_law_lists", "_law_same", "_law_tags", "_law_limits", "_law_ways", "_law_woven", "_law_heard", "_law_by_hand_right", "_law_right"]
def hnames : List Str := hn0
theorem hrunF (w : World) : HandSHeadRun.RunEq hR (PySem.W.view hR.prog [26]) hk hob 2500 hnames (w.withFollow "special-get-raises" false) := by
  intro os
  kernel_rfl
theorem hrunT (w : World) : HandSHeadRun.RunEq hR (PySem.W.view hR.prog [26]) hk hob 2500 hnames (w.withFollow "special-get-raises" true) := by
  intro os
  kernel_rfl
theorem hrun (w : World) : HandSHeadRun.RunEq hR (PySem.W.view hR.prog [26]) hk hob 2500 hnames w :=
  PySem.W.byRow2 "special-get-raises" (P := fun w => HandSHeadRun.RunEq hR (PySem.W.view hR.prog [26]) hk hob 2500 hnames w) hrunF hrunT w
end K57
end

section
set_option Elab.async false
set_option linter.all false
set_option maxRecDepth 100000
set_option maxHeartbeats 4000000
namespace VL
open PySem PySem.Spec PyProof.Rows L2
set_option autoImplicit false
section
variable {P : Program} {w : World} {A : Around} {E : Value → Shared → Prop} {s : Shared}
/-- a slice taken from behind -/
theorem sliceApplied_back {sl : Addr} {vl vu vs : Value} {n : Nat} {Q : Int × Int × Nat → Shared → Prop} (hs : s.heap.IsSliceOf sl vl vu vs) (pl : IsPart vl none) (pu : IsPart vu none) (ps : IsPart vs (some (-1))) (h : Q ((n : Int) - 1, -1, n) s) :
    wpAny (model P w) A (Builtin.Slice.sliceApplied (.ref sl) (pure (n : Int))) Q E s := by
  obtain ⟨os, hos, hcs, hds⟩ := id hs
  unfold Builtin.Slice.sliceApplied Builtin.Slice.sliceFields
  refine wpAny_bind (wpAny_bind (wpAny_field hos hds (x := vl) rfl (wpAny_bind (wpAny_field hos hds (x := vu) rfl (wpAny_bind (wpAny_field hos hds (x := vs) rfl (wpAny_pure ?_)))))))
  refine wpAny_bind (HT.slicePart_ ps ?_)
  show wpAny _ _ (if ((-1 : Int) == 0) = true then _ else _) _ _ s
  rw [if_neg (by decide)]
  refine wpAny_bind (HT.slicePart_ pl (wpAny_bind (HT.slicePart_ pu (wpAny_bind (wpAny_pure ?_)))))
  show wpAny _ _ (match Builtin.Slice.sliceAdjust none none (-1) (n : Int) with | (lo, hi) => pure (lo, (-1 : Int), Builtin.Slice.slicePlaces lo hi (-1))) _ _ s
  have e1 : Builtin.Slice.sliceAdjust none none (-1) (n : Int) = ((n : Int) - 1, -1) := rfl
  rw [e1]
  show wpAny _ _ (pure ((n : Int) - 1, (-1 : Int), Builtin.Slice.slicePlaces ((n : Int) - 1) (-1) (-1))) _ _ s
  have e2 : Builtin.Slice.slicePlaces ((n : Int) - 1) (-1) (-1) = n := by
    unfold Builtin.Slice.slicePlaces
    rw [if_neg (by decide)]
    by_cases c : (n : Int) - 1 > -1
    · rw [if_pos c]
      simp only [Int.neg_neg, Int.ediv_one]
      omega
    · rw [if_neg c]
      have : n = 0 := by omega
      subst this
      rfl
  rw [e2]
  exact wpAny_pure h
theorem pick_back (xs : Array Value) : ((List.range xs.size).filterMap fun (m : Nat) => xs[(((xs.size : Int) - 1) + (m : Int) * (-1)).toNat]?) = xs.toList.reverse := by
  have e : ((List.range xs.size).filterMap fun (m : Nat) => xs[(((xs.size : Int) - 1) + (m : Int) * (-1)).toNat]?) = ((List.range xs.size).map fun k => xs.size - 1 - k).filterMap (xs[·]?) := by
    rw [List.filterMap_map]
    have gen : ∀ l : List Nat, (∀ m ∈ l, m < xs.size) → l.filterMap (fun (m : Nat) => xs[(((xs.size : Int) - 1) + (m : Int) * (-1)).toNat]?) = l.filterMap ((fun x => xs[x]?) ∘ fun k => xs.size - 1 - k) := by
      intro l
      induction l with
      | nil => intro _; rfl
      | cons m l ih =>
        intro h
        have hm := h m (List.mem_cons_self ..)
        have e : (((xs.size : Int) - 1) + (m : Int) * (-1)).toNat = xs.size - 1 - m := by omega
        rw [List.filterMap_cons, List.filterMap_cons, ih fun x hx => h x (List.mem_cons_of_mem _ hx), e]
        rfl
    exact gen _ fun m hm => List.mem_range.mp hm
  rw [e, PySem.W.krv_range, List.filterMap_reverse, PySem.W.krv_all]
theorem getItem_tuple_back {t sl : Addr} {items : Array Value} {vl vu vs : Value} {Q : Value → Shared → Prop} (ht : IsTup s.heap t items) (hs : s.heap.IsSliceOf sl vl vu vs) (pl : IsPart vl none) (pu : IsPart vu none) (ps : IsPart vs (some (-1)))
    (h : Q (.ref s.heap.objs.size) { s with heap := s.heap.push { cls := .type "tuple", data := .seq items.toList.reverse.toArray } }) (hsz : items.size ≤ sizeLine) : wpAny (model P w) A (getItem (.ref t) (.ref sl)) Q E s := by
  have hz : sizeOk (.seq items.toList.reverse.toArray) := by
    show items.toList.reverse.toArray.size ≤ sizeLine
    rw [List.size_toArray, List.length_reverse, Array.length_toList]
    exact hsz
  obtain ⟨os, hos, hcs, hds⟩ := id hs
  have hTs : s.TypeIs (.ref sl) "slice" := ⟨os, hos, hcs⟩
  unfold getItem
  try with_reducible refine wpAny_holding ?_
  first | refine wpAny_bind (wpAny_pure ?_) | skip
  refine wpAny_bind (wpAny_sequenceKey ht.typeIs (by decide) ?_)
  refine wpAny_bind (wpAny_callSpecial?_slot (name := Str.ofString "__getitem__") ht.typeIs PyProof.Rows.slot_tuple_getitem (wpAny_call_entry PyProof.Rows.slot_tuple_getitem ht.typeIs entry_tuple_getitem ?_ (args_tuple_getitem _ _)))
  show wpAny _ _ (Builtin.Tuple.tupleItemsOf (.ref t) >>= _) _ _ s
  refine wpAny_bind (tupleItemsOf_ ht (wpAny_bind (wpAny_typeOf hTs ?_)))
  rw [if_pos (by decide)]
  refine wpAny_bind (sliceApplied_back hs pl pu ps ?_)
  show wpAny _ _ (if ((items.size : Int) - 1 == 0 && (-1 : Int) == 1 && items.size == items.size) = true then _ else _) _ _ s
  rw [if_neg (by simp)]
  rw [pick_back]
  first
    | exact wpAny_bind (m := Builtin.Tuple.tupleExact _) (wpAny_newObj_type (wpAny_pure ⟨_, rfl, wpAny_pure h⟩) hz)
    | exact wpAny_bind (m := Builtin.Tuple.tupleExact _) (wpAny_newObj_type (wpAny_bind (wpAny_pure (wpAny_pure ⟨_, rfl, wpAny_pure h⟩))) hz)
    | exact wpAny_bind (wpAny_bind (m := Builtin.Tuple.tupleExact _) (wpAny_newObj_type (wpAny_pure (wpAny_pure ⟨_, rfl, wpAny_pure h⟩)) hz))
    | exact wpAny_bind (wpAny_bind (m := Builtin.Tuple.tupleExact _) (wpAny_newObj_type (wpAny_pure ⟨_, rfl, wpAny_pure h⟩) hz))
end
/-- t[::-1] of a tuple -/
def tRevT (K : PySem.W.Frag) (te : TE) : TE := fun σ H Q => te σ H fun x H1 => ∃ a xs, x = .ref a ∧ SqT K H1 a xs ∧ Lay H1 xs.reverse Q
section
variable {X : Cx}
theorem pe_revT {e : Expr} {te : TE} {k : Nat} {p1 p2 p3 pos : Pos} (he : PE X e te) : PE X (.Subscript e (.Slice none none (some (.UnaryOp .USub (.Constant (.int 1) k p1) p2)) p3) pos) (tRevT X.K te) := by
  refine ⟨fun pins s σ H Q I h => ?_⟩
  refine Subscript_ (thn (he.run pins s σ H _ I h) fun v s1 ⟨x, H1, I1, r1, a, xs, ex, hx, q⟩ => ?_)
  subst ex
  cases r1
  have hst : PO X (some (.UnaryOp .USub (.Constant (.int 1) k p1) p2)) (tPart (tUn (rU fun i => .int (-i)) (tC (.int 1)))) := po_some (pe_un un_neg pe_int)
  refine wpAny_Slice (thn (po_none.run pins s1 σ H1 (fun o H2 => o = none ∧ H2 = H1) I1 ⟨rfl, rfl⟩) fun vl s2 ⟨l, H2, I2, pl, el, e2⟩ => ?_)
  subst el e2
  refine thn (po_none.run pins s2 σ H2 (fun o H3 => o = none ∧ H3 = H2) I2 ⟨rfl, rfl⟩) fun vu s3 ⟨u, H3, I3, pu, eu, e3⟩ => ?_
  subst eu e3
  refine thn (hst.run pins s3 σ H3 (fun o H4 => o = some (-1) ∧ H4 = H3) I3 ⟨1, rfl, -1, rfl, rfl, rfl⟩) fun vs s4 ⟨o, H4, I4, ps, eo, e4⟩ => ?_
  subst eo e4
  have I5 : Inv X pins σ H4 { s4 with heap := s4.heap.push { cls := .type "slice", data := .fields #[vl, vu, vs] } } := I4.kept (t' := s4.toks) fun b ob q => Heap.get?_push_of_some _ q
  obtain ⟨its, r, ht, hz⟩ := I5.tuple hx
  have hlen := r.length
  show wpAny (model X.prog X.w) X.A (subscriptTail e (.Slice none none (some (.UnaryOp .USub (.Constant (.int 1) k p1) p2)) p3) (.ref a) (.ref s4.heap.objs.size)) (EP X pins σ Q) X.xe { s4 with heap := s4.heap.push { cls := .type "slice", data := .fields #[vl, vu, vs] } }
  refine tail_any (ops := [.ref a, .ref s4.heap.objs.size]) ht.typeIs (PyProof.Rows.slot_tuple_getitem.lookup) ?_ (by with_unfolding_all rfl)
  refine getItem_tuple_back ht (Heap.IsSliceOf.new _ vl vu vs) pl pu ps ?_ (by rw [List.size_toArray]; omega)
  exact lay_ep (t' := s4.toks) I5 r.reverse (by rw [List.length_reverse]; exact hz) (fun b ob q => Heap.get?_push_of_some _ q) (Nat.le_refl _) (Heap.get?_push_size _ rfl) q
variable {B : Eb} {Γ : Gm} {E : Wish} {e : Expr} {ma : M D} {pos : Pos}
def gRevA : D → Option D
  | .list xs => some (.list xs.reverse)
  | .tuple xs => some (.tuple xs.reverse)
  | _ => none
theorem ve_revA {k : Nat} {p1 p2 p3 : Pos} (he : VE X B Γ E e ma) : VE X B Γ E (.Subscript e (.Slice none none (some (.UnaryOp .USub (.Constant (.int 1) k p1) p2)) p3) pos) (m1 gRevA ma) :=
  PE.imp (PE.or (pe_revL he) (pe_revT he)) fun σ H Q ⟨F, ρ, r, h⟩ => by
    have h' := Res.bind h
    cases hm : ma ρ with
    | stuck => rw [hm] at h'; exact h'.elim
    | exc c fs ρ' => rw [hm] at h'; exact .inl ⟨F, ρ, r, by rw [hm]; exact h'⟩
    | ok q =>
      obtain ⟨d, ρ1⟩ := q
      rw [hm] at h'
      have h2 : Res (M.of (gRevA d) ρ1) (fun d ρ' => ∀ v H' F', Rel X.K Γ F' ρ' σ H' → Kp Γ.O σ F H F' H' → Dq X.K F' H' v d → Q v H') (Kex X.K B Γ E σ F H) := h'
      obtain ⟨d2, e2, h3⟩ := Res.of h2
      cases d with
      | list xs =>
        cases e2
        refine .inl ⟨F, ρ, r, ?_⟩
        rw [hm]
        intro v H1 F1 r1 g1 q1
        obtain ⟨a, vs, rfl, hs, qa⟩ := dq_sqL q1
        refine ⟨a, vs, rfl, hs, fun p np => ?_⟩
        have ex := Ext.alloc (o := .lst vs.reverse) r1.trk np
        exact h3 (.ref p) _ _ (r1.to ex) (g1.trans ex.kp) (.lst (.inr rfl) upd_same ((qa.reverse).grow (ex.grow r1.trk)))
      | tuple xs =>
        cases e2
        refine .inr ⟨F, ρ, r, ?_⟩
        rw [hm]
        intro v H1 F1 r1 g1 q1
        obtain ⟨a, vs, rfl, hs, qa⟩ := dq_sqT q1
        have gv : Gives X.K F1 H1 (.tuple xs.reverse) Q := fun v H' F' ex q => h3 v H' F' (r1.to ex) (g1.trans ex.kp) q
        exact ⟨a, vs, rfl, hs, gv.lay r1.trk qa.reverse⟩
      | _ => cases e2
end
end VL
end

section
set_option Elab.async false
set_option linter.all false
set_option maxRecDepth 100000
namespace LL
open PySem VL
def f__law_take : Fn := runF false 6 [0] ((mSeq (mIfS (mTruth (m2 gGt (mIxO 0 (mC (.int 0))) (mC (.int 0))))
  (mSeq (mSet 2 (m2 gMod (mCall cInt (mCons (mIxO 0 (mC (.int 0))) mNil)) (mVar 1)))
  (mSeq (mSetIx 0 (m2 gFdv (mIxO 0 (mC (.int 0))) (mVar 1)) (mC (.int 0)))
  (mRet (mVar 2))))
  mNx)
  (mSeq (mSetIx 0 (m2 gAdd (mIxO 0 (mC (.int 2))) (mC (.int 1))) (mC (.int 2)))
  (mSeq (mSet 3 (m2 gMod (mCall cInt (mCons (m2 gMul (m2 gAdd (mIxO 0 (mC (.int 1))) (m2 gMul (mC (.int 48271)) (mIxO 0 (mC (.int 2))))) (m2 gAdd (mC (.int 39373)) (mIxO 0 (mC (.int 2))))) mNil)) (mC (.int 2147483647))))
  (mSeq (mSet 4 (m2 gAdd (m2 gMod (mCall cInt (mCons (mVar 3) mNil)) (mC (.int 40009))) (mC (.int 7))))
  (mSeq (mSet 5 (m2 gMod (mCall cInt (mCons (m2 gMul (m2 gAdd (m2 gAdd (mVar 3) (mIxO 0 (mC (.int 2)))) (m2 gFdv (mIxO 0 (mC (.int 1))) (mC (.int 1000003)))) (mVar 4)) mNil)) (mC (.int 2147483629))))
  (mRet (m2 gMod (mCall cInt (mCons (m2 gFdv (m2 gMod (mCall cInt (mCons (m2 gAdd (m2 gMul (mVar 5) (mC (.int 48271))) (mVar 3)) mNil)) (mC (.int 2147483587))) (mC (.int 64))) mNil)) (mVar 1)))))))))
def f__law_cells : Fn := runF false 6 [] ((mSeq (mSet 2 (mOrV (mCall cLst (mCons (mSl gSl (mVar 0) mNoPart (mPart (mVar 1))) mNil)) (mLst (mCons (mC (.int 0)) mNil))))
  (mSeq (mFor (.tp [(.nm 3), (.nm 4)]) (mRng cEnum (mCons (mSl gSl (mVar 0) (mPart (mVar 1)) (mPart (mC (.int 63)))) mNil))
  (mSeq (mSet 5 (m2 gMod (mCall cInt (mCons (mVar 3) mNil)) (mVar 1)))
  (mSetIx 2 (m2 gAdd (mIxO 2 (mVar 5)) (m2 gMul (mVar 4) (m2 gAdd (mVar 3) (mC (.int 2))))) (mVar 5))))
  (mRet (mVar 2)))))
def f__law_of : Fn := runF false 2 [0] ((mRet (m2 gIx (mVar 1) (mCallF f__law_take [.slot 0, .dat] (mSlot 0 (mCons (mCall cLen (mCons (mVar 1) mNil)) mNil))))))
def f__law_pick : Fn := runF false 6 [0] ((mSeq (mPar [3, 4] (mCons (mCall cLst (mCons (mVar 1) mNil)) (mCons (mLst mNil) mNil)))
  (mSeq (mFor (.nm 5) (mRng rng1 (mCons (mCall cMin2 (mCons (mVar 2) (mCons (mLenO 3) mNil))) mNil))
  (mDrop (mApp 4 (mPopAt 3 (mCallF f__law_take [.slot 0, .dat] (mSlot 0 (mCons (mLenO 3) mNil)))))))
  (mRet (mVar 4)))))
def f__law_same : Nat → Fn
  | 0 => fun _ => .stuck
  | n + 1 => runF false 5 [] ((mSeq (mIfS (mTruth (m1 (gIsi2 "list" "tuple") (mVar 1)))
  (mSeq (mIfS (mOr (mTruth (m2 gNe (m1 (gIsi "list") (mVar 0)) (m1 (gIsi "list") (mVar 1)))) (mTruth (m2 gNe (m1 (gIsi "tuple") (mVar 0)) (m1 (gIsi "tuple") (mVar 1)))))
  (mRet (mC (.bool false)))
  mNx)
  (mRet (mAndV (m2 gEq (mCall cLen (mCons (mVar 0) mNil)) (mCall cLen (mCons (mVar 1) mNil))) (mCall cAll (mCons (mLc (.tp [(.nm 3), (.nm 4)]) [3, 4] (mRng cZip (mCons (mVar 0) (mCons (mVar 1) mNil))) (M.pure true) (mCallF (f__law_same n) [.dat, .dat] (mCons (mVar 3) (mCons (mVar 4) mNil)))) mNil)))))
  mNx)
  (mSeq (mIfS (mTruth (m1 (gIsi "dict") (mVar 1)))
  (mSeq (mIfS (mOr (mNot (mTruth (m1 (gIsi "dict") (mVar 0)))) (mTruth (m2 gNe (mCall cSort (mCons (mVar 0) mNil)) (mCall cSort (mCons (mVar 1) mNil)))))
  (mRet (mC (.bool false)))
  mNx)
  (mRet (mCall cAll (mCons (mLc (.nm 2) [2] (mSeqOf (mVar 1)) (M.pure true) (mCallF (f__law_same n) [.dat, .dat] (mCons (m2 gIx (mVar 0) (mVar 2)) (mCons (m2 gIx (mVar 1) (mVar 2)) mNil)))) mNil))))
  mNx)
  (mSeq (mIfS (mOr (mTruth (m2 gIs (mVar 1) (mC .none))) (mTruth (m1 (gIsi2 "bool" "str") (mVar 1))))
  (mRet (mAndV (m2 gEq (mVar 0) (mVar 1)) (mAndV (m2 gEq (m1 (gIsi "bool") (mVar 0)) (m1 (gIsi "bool") (mVar 1))) (m2 gEq (m2 gIs (mVar 0) (mC .none)) (m2 gIs (mVar 1) (mC .none))))))
  mNx)
  (mRet (mAndV (m1 (gIsi "int") (mVar 0)) (mAndV (mNotV (m1 (gIsi "bool") (mVar 0))) (m2 gEq (mVar 0) (mVar 1)))))))))
def f__law_tags : Fn := runF false 3 [0] ((mSeq (mSet 2 (mLst (mCons (mC (.str "a")) (mCons (mC (.str "b")) (mCons (mC (.str "cap")) (mCons (mC (.str "floor")) (mCons (mC (.str "start")) (mCons (mC (.str "nought")) (mCons (mC (.str "x")) (mCons (mC (.str "yy")) (mCons (mC (.str "abcdefgh")) mNil)))))))))))
  (mRet (mCall cTup (mCons (mCall cSort (mCons (mCallF f__law_pick [.slot 0, .dat, .dat] (mSlot 0 (mCons (mVar 2) (mCons (mVar 1) mNil)))) mNil)) mNil)))))
def f__law_lists : Nat → Fn
  | 0 => fun _ => .stuck
  | n + 1 => runF false 2 [] ((mRet (mIf (mTruth (m1 (gIsi2 "list" "tuple") (mVar 0))) (mLc (.nm 1) [1] (mSeqOf (mVar 0)) (M.pure true) (mCallF (f__law_lists n) [.dat] (mCons (mVar 1) mNil))) (mVar 0))))
def f_tupled : Nat → Fn
  | 0 => fun _ => .stuck
  | n + 1 => runF false 2 [] ((mRet (mIf (mTruth (m1 (gIsi2 "list" "tuple") (mVar 0))) (mCall cTup (mCons (mLc (.nm 1) [1] (mSeqOf (mVar 0)) (M.pure true) (mCallF (f_tupled n) [.dat] (mCons (mVar 1) mNil))) mNil)) (mVar 0))))
end LL
end

section
set_option linter.all false
set_option maxRecDepth 100000
set_option maxHeartbeats 1000000
namespace VL
open PySem PySem.Spec PyProof.Rows L2
set_option autoImplicit false
def mSetV (i : Nat) (mi : M D) (d : D) : M Fl := fun ρ => match lstAt ρ i with
  | none => .stuck
  | some _ => (mi ρ).bind fun q => match q.1, lstAt q.2 i with
    | .int k, some ds => match ixN ds.length k with
      | some j => .ok (.nx, q.2.set i (some (.list (ds.set j d))))
      | none => .stuck
    | _, _ => .stuck
def mParIx (i : Nat) (mi : M D) (j : Nat) (mj : M D) (m : M (List D)) : M Fl := m.bind fun ds => match ds with
  | [d1, d2] => fun ρ => (mSetV i mi d1 ρ).bind fun p => mSetV j mj d2 p.2
  | _ => fun _ => .stuck
section
variable {X : Cx} {B : Eb} {G : Gd} {Ps O Ol : List Nat} {E : Wish} {ro : Bool} {a b ix jx : Expr} {m : M (List D)} {mi mj : M D} {pos : Pos}
end
/-! ### a list so many times: a new one -/
def gRep : D → D → Option D
  | .list xs, .int k => if -(2 ^ 63) ≤ k ∧ k < 2 ^ 63 ∧ xs.length * k.toNat ≤ sizeLine then some (.list (List.replicate k.toNat xs).flatten) else none
  | _, _ => none
section
variable {X : Cx} {B : Eb} {Γ : Gm} {E : Wish} {a b : Expr} {ma mb : M D} {pos : Pos}
theorem vo_rep (ha : VE X B Γ E a ma) (hb : VE X B Γ E b mb) : VO X B Γ E (.BinOp a .Mult b pos) (m2 gRep ma mb) :=
  PE.imp (pe_op op_rep ha hb) fun σ H Q ⟨F, ρ, r, h⟩ => ⟨F, ρ, r, (Res.bind h).mono (fun x ρ1 h1 v1 H1 F1 r1 g1 q1 => ⟨F1, ρ1, r1, (Res.bind h1).mono (fun y ρ2 h2 v2 H2 F2 r2 g2 q2 => by
    obtain ⟨d, e, h3⟩ := Res.of h2
    cases x with
    | list xs =>
      cases y with
      | int k =>
        obtain ⟨c, rfl⟩ := ite_some e
        obtain ⟨l, vs, rfl, ha, qa⟩ := dq_lst (q1.grow (g2.g r1))
        cases dq_int q2
        refine ⟨l, k, vs, rfl, rfl, ha, c.1, c.2.1, by rw [qa.length]; exact c.2.2, fun p np => ?_⟩
        have ex := Ext.laid (o := .lst (List.replicate k.toNat vs).flatten) r2.trk np
        exact h3 (.ref p) _ _ (r2.to ex) ((g1.trans g2).trans ex.kp) ⟨p, rfl, .lst upd_same ((qa.rep _).grow (ex.grow r2.trk)), r2.nf np, (g1.trans g2).none0 r2 np⟩
      | _ => cases e
    | _ => cases e) (fun _ _ _ k => k.grow g1)⟩) (fun _ _ _ k => k)⟩
end
end VL
end

section
set_option Elab.async false
set_option linter.all false
set_option maxRecDepth 100000
set_option maxHeartbeats 4000000
namespace VL
open PySem PySem.Spec PyProof.Rows L2
set_option autoImplicit false
/-! ### min of things that lie in the heap (tuples) -/
section
variable {prog : Program} {w : World} {A : Around} {R : Result → Shared → Prop} {I : Addr} {fp wr : List Addr} {n : Nat} {P : Nat → Value → Prop} {St : Nat → Heap → Prop}
/-- all of an older heap is there -/
def HasAll (b h : Heap) : Prop := ∀ c o, b.get? c = some o → h.get? c = some o
def LtAt (prog : Program) (w : World) (A : Around) (base : Heap) (P : Nat → Value → Prop) (bt : Nat → Nat → Bool) : Prop :=
  ∀ i j u v (s : Shared) (Q E : Value → Shared → Prop), j < i → HasAll base s.heap → P i u → P j v → Q (.bool (bt i j)) s → wpAny (model prog w) A (richCompare .Lt u v) Q E s
end
section
variable {prog : Program} {w : World} {A : Around} {E : Value → Shared → Prop} {s : Shared} {Q : Value → Shared → Prop} {bt : Nat → Nat → Bool}
end
end VL
end

section
set_option Elab.async false
set_option linter.all false
set_option maxRecDepth 100000
set_option maxHeartbeats 4000000
namespace VL
open PySem PySem.Spec PyProof.Rows L2
set_option autoImplicit false
/-! ### min by what is less (tuples, ints, texts) -/
section
variable {X : Cx}
theorem DqAll.getV {K : PySem.W.Frag} {F : Fz} {H : Hp} : ∀ {vs : List V} {ds : List D}, DqAll K F H vs ds → ∀ {i : Nat} {v : V}, vs[i]? = some v → ∃ d, ds[i]? = some d ∧ Dq K F H v d
  | _, _, .nil, i, v, h => by cases h
  | _, _, .cons q r, 0, v, h => by cases h; exact ⟨_, rfl, q⟩
  | _, _, .cons q r, i + 1, v, h => DqAll.getV r (i := i) h
end
end VL
end

section
set_option Elab.async false
set_option linter.all false
set_option maxRecDepth 100000
set_option maxHeartbeats 4000000
namespace VL
open PySem PySem.Spec PyProof.Rows L2
set_option autoImplicit false
/-! ### zip of a list and a tuple -/
section
variable {X : Cx} {B : Eb} {Γ : Gm} {E : Wish} {a b : Expr} {p pos : Pos}
end
end VL
end

section
set_option Elab.async false
set_option linter.all false
set_option maxRecDepth 100000
set_option maxHeartbeats 4000000
namespace VL
open PySem PySem.Spec PyProof.Rows L2
set_option autoImplicit false
/-! ### str(x) of a text and of a whole number -/
section
variable {X : Cx}
end
end VL
end

section
set_option Elab.async false
set_option linter.all false
set_option maxRecDepth 100000
set_option maxHeartbeats 4000000
namespace VL
open PySem PySem.Spec PyProof.Rows L2
set_option autoImplicit false
/-! ### zip of a tuple and a list -/
section
variable {X : Cx} {B : Eb} {Γ : Gm} {E : Wish} {a b : Expr} {p pos : Pos}
end
end VL
end

section
set_option Elab.async false
set_option linter.all false
set_option maxRecDepth 100000
set_option maxHeartbeats 4000000
namespace VL
open PySem PySem.Spec PyProof.Rows L2
set_option autoImplicit false
/-! ### dict(t), t a tuple of pairs with a text ahead: its object is known to have no dict -/
def PlT (K : PySem.W.Frag) (H : Hp) (a : Addr) (xs : List V) : Prop := (∃ o, H a = some (.frz o (.tup xs)) ∧ o.dict = none) ∨ (WrT K a xs ∧ ∃ o, K.lookup a = some o ∧ o.dict = none)
theorem PlT.sq {K : PySem.W.Frag} {H : Hp} {a : Addr} {xs : List V} (h : PlT K H a xs) : SqT K H a xs := by
  rcases h with ⟨o, h, _⟩ | ⟨h, _⟩
  · exact .inl (.inr ⟨o, h⟩)
  · exact .inr h
theorem PlT.plain {X : Cx} {pins : List (Addr × Obj)} {σ : St} {H : Hp} {s : Shared} {a : Addr} {xs : List V} (I : Inv X pins σ H s) (h : PlT X.K H a xs) : ∃ its : List Value, Vals xs its ∧ PlainSeq "tuple" s.heap a its.toArray ∧ xs.length ≤ sizeLine := by
  obtain ⟨its, rv, ⟨o1, h1, c1, n1, e1⟩, hz⟩ := I.tuple h.sq
  refine ⟨its, rv, ?_, hz⟩
  rcases h with ⟨o, h, d⟩ | ⟨_, o, h, d⟩
  · obtain ⟨g, _⟩ := I.hok a _ h
    have e : o = o1 := Option.some.inj (g.symm.trans h1)
    subst e
    exact ⟨o, n1, g, c1, d, e1⟩
  · have g := I.kIn a o h
    have e : o = o1 := Option.some.inj (g.symm.trans h1)
    subst e
    exact ⟨o, n1, g, c1, d, e1⟩
section
variable {X : Cx} {B : Eb} {Γ : Gm} {E : Wish} {e : Expr} {ms : M (List D)} {pos p : Pos}
end
end VL
end

section
set_option Elab.async false
set_option linter.all false
set_option maxRecDepth 100000
namespace LL
open PySem VL
end LL
end

section
set_option Elab.async false
set_option linter.all false
set_option maxRecDepth 100000
namespace LL
open PySem VL
end LL
end

section
set_option Elab.async false
set_option linter.all false
set_option maxRecDepth 100000
namespace LL
open PySem VL
end LL
end

section
set_option Elab.async false
set_option linter.all false
set_option maxRecDepth 100000
set_option maxHeartbeats 4000000
namespace VL
open PySem PySem.Spec PyProof.Rows L2
set_option autoImplicit false
/-! ### list(d.items()), d a dict that stays -/
section
variable {X : Cx} {e : Expr} {te : TE} {p apos cpos pos : Pos}
end
section
variable {X : Cx} {B : Eb} {Γ : Gm} {E : Wish} {e : Expr} {ma : M D} {p apos cpos pos : Pos}
end
end VL
end

section
set_option Elab.async false
set_option linter.all false
set_option maxRecDepth 100000
namespace LL
open PySem VL
end LL
end

section
set_option Elab.async false
set_option linter.all false
set_option maxRecDepth 100000
namespace LL
open PySem VL
end LL
end

section
set_option Elab.async false
set_option linter.all false
set_option maxRecDepth 100000
namespace LL
open PySem VL
end LL
end

section
set_option Elab.async false
set_option linter.all false
set_option maxRecDepth 100000
set_option maxHeartbeats 4000000
namespace L2
open PySem PySem.Spec PyProof.Rows
set_option autoImplicit false
/-! ### an error that is made, and held as a value -/
theorem MkP.held {X : Cx} {pins : List (Addr × Obj)} {σ : St} {Q : VK} {u : Value} {s' : Shared} (hex : X.ex = []) (h : MkP X pins σ (fun cls d H' => ∃ C, cls = .ref C ∧ ∀ a, H' a = none → Q (.ref a) (upd H' a (xob a C d))) u s') :
    ∃ v H2, Inv X pins σ H2 s' ∧ RelV v u ∧ Q v H2 := by
  obtain ⟨a, oe, vs, sI, H', cls, d, rfl, J, k, hne, ha, hz, hd, h1, na, os, ag, r, C, rfl, q⟩ := h
  have J1 : Inv X pins σ H' { sI with heap := s'.heap, toks := s'.toks } := J.kept k
  have J2 : Inv X pins σ H' s' := ⟨J1.ok, os.trans J.os, ag, J1.base, J1.loc, J1.cell, J1.free, J1.freeC, J1.pin, J1.hok, J1.len⟩
  have n0 : X.s_0.heap.get? a = none := by
    cases q : X.s_0.heap.get? a with
    | none => rfl
    | some o =>
      obtain ⟨o', z⟩ := J.base.there a o q (by rw [hex]; simp)
      rw [hne] at z
      cases z
  have nP : ∀ p ∈ X.pn ++ pins, p.1 ≠ a := fun p hp z => by
    have y := (J.pin p hp).1
    rw [z, hne] at y
    cases y
  have nL : a ≠ X.env.locals := fun z => by
    obtain ⟨m, hns, _⟩ := J.loc
    obtain ⟨od, _, _, ho, _⟩ := hns
    rw [← z, hne] at ho
    cases ho
  exact ⟨.ref a, _, J2.adopt ha hd na nL n0 nP fun H'' => xob_ok ha hz hd, rfl, q a na⟩
end L2
namespace VL
open PySem PySem.Spec PyProof.Rows L2
set_option autoImplicit false
def mMk1 (c : Nat) (m : M D) : M D := m.bind fun d => fun ρ => match xD c [d] with
  | some x => .ok (x, ρ)
  | none => .stuck
def mMk0 (c : Nat) : M D := fun ρ => match xD c [] with
  | some x => .ok (x, ρ)
  | none => .stuck
section
variable {X : Cx} {G : Gd} {Ps O : List Nat} {E : Wish} {e : Expr} {me : M D}
end
/-! ### isinstance(e, (T, U)) -/
section
variable {X : Cx} {B : Eb} {Γ : Gm} {E : Wish} {e : Expr} {me : M D} {p pos : Pos}
end
end VL
end

section
set_option Elab.async false
set_option linter.all false
set_option maxRecDepth 100000
set_option maxHeartbeats 4000000
namespace VL
open PySem PySem.Spec PyProof.Rows L2
set_option autoImplicit false
/-! ### the operations at known kinds -/
theorem beq_dec (i j : Int) : (i == j) = decide (i = j) := by by_cases h : i = j <;> simp [h]
theorem okc_int (i j : Int) : okc (.int i) (.int j) = true := by simp [okc, PyData.plain, PyData.depth]
theorem okl_int (i j : Int) : okl (.int i) (.int j) = true := by simp [okl, okc_int, PySem.W.alike, isN]
theorem gEq_int (i j : Int) : gEq (.int i) (.int j) = some (.bool (decide (i = j))) := by
  unfold gEq; rw [if_pos (okc_int i j)]; simp only [PyData.eqv]; rw [beq_dec]
theorem gNe_int (i j : Int) : gNe (.int i) (.int j) = some (.bool (!decide (i = j))) := by
  unfold gNe; rw [if_pos (okc_int i j)]; simp only [PyData.eqv]; rw [beq_dec]
theorem gLt_int (i j : Int) : gLt (.int i) (.int j) = some (.bool (decide (i < j))) := by
  unfold gLt; rw [if_pos (okl_okk (okl_int i j)), PySem.W.dataLt_int]
theorem gGt_int (i j : Int) : gGt (.int i) (.int j) = some (.bool (decide (j < i))) := by
  unfold gGt; rw [if_pos (okl_int i j), PySem.W.dataLt_int]
theorem gLe_int (i j : Int) : gLe (.int i) (.int j) = some (.bool (decide (i ≤ j))) := by
  unfold gLe; rw [if_pos (okl_int i j), PySem.W.dataLt_int, PySem.W.not_lt_int]
theorem gGe_int (i j : Int) : gGe (.int i) (.int j) = some (.bool (decide (j ≤ i))) := by
  unfold gGe; rw [if_pos (okl_int i j), PySem.W.dataLt_int, PySem.W.not_lt_int]
theorem gAdd_int (i j : Int) : gAdd (.int i) (.int j) = some (.int (i + j)) := rfl
theorem gSub_int (i j : Int) : gSub (.int i) (.int j) = some (.int (i - j)) := rfl
theorem gMul_l (i j : Int) (h : -(2 ^ 64) < i ∧ i < 2 ^ 64) : gMul (.int i) (.int j) = some (.int (i * j)) := if_pos (.inl h)
theorem gMul_r (i j : Int) (h : -(2 ^ 64) < j ∧ j < 2 ^ 64) : gMul (.int i) (.int j) = some (.int (i * j)) := if_pos (.inr h)
theorem gMod_int (i j : Int) (h : 0 < j) : gMod (.int i) (.int j) = some (.int (i % j)) := if_pos h
theorem gFdv_int (i j : Int) (h : 0 < j ∧ j < 1606938044258990275541962092341162602522202993782792835301376) : gFdv (.int i) (.int j) = some (.int (i / j)) := if_pos h
end VL
end

section
set_option Elab.async false
set_option linter.all false
set_option maxRecDepth 100000
set_option maxHeartbeats 4000000
namespace VL
open PySem PySem.Spec PyProof.Rows L2
set_option autoImplicit false
/-! ### what a run answers, and what is wanted of it -/
/-! ### loops -/
end VL
end

section
set_option Elab.async false
set_option linter.all false
set_option maxRecDepth 100000
set_option maxHeartbeats 4000000
namespace VL
open PySem PySem.Spec PyProof.Rows L2
set_option autoImplicit false
abbrev XE := Nat → List D → Env → Prop
abbrev E0 : XE := fun _ _ _ => False
def popI (ds : List D) : D → Option (D × List D)
  | .int k => if -(2 ^ 63) ≤ k ∧ k < 2 ^ 63 then (seqIndex? k ds.length).bind fun j => (ds[j]?).map fun d => (d, ds.eraseIdx j) else none
  | _ => none
def setI (ds : List D) (d : D) : D → Option (List D)
  | .int k => (ixN ds.length k).map fun j => ds.set j d
  | _ => none
namespace P0
/-! ### what is wanted of a run, forwards -/
def wX {α : Type} (r : R α) (Q : α → Prop) (E : XE) : Prop := match r with
  | .ok a => Q a
  | .exc c fs ρ => E c fs ρ
  | .stuck => False
def wM {α : Type} (m : M α) (ρ : Env) (Q : α → Env → Prop) (E : XE) : Prop := wX (m ρ) (fun p => Q p.1 p.2) E
def wO {α : Type} (o : Option α) (Q : α → Prop) : Prop := match o with
  | some a => Q a
  | none => False
def wIf (b : Bool) (P Q : Prop) : Prop := if b = true then P else Q
def wF (f : Fl) (P : Prop) (K : Fl → Prop) : Prop := match f with
  | .nx => P
  | f => K f
section
variable {α β : Type} {Q : α → Prop} {E : XE} {ρ : Env}
theorem wX_ok (a : α) : wX (.ok a) Q E = Q a := rfl
theorem wX_exc (c : Nat) (fs : List D) (ρ : Env) : wX (.exc c fs ρ : R α) Q E = E c fs ρ := rfl
theorem wX_mono {r : R α} {Q' : α → Prop} {E' : XE} (h : wX r Q E) (i : ∀ a, Q a → Q' a) (j : ∀ c fs ρ, E c fs ρ → E' c fs ρ) : wX r Q' E' := by
  cases r with
  | ok a => exact i a h
  | exc c fs ρ => exact j c fs ρ h
  | stuck => exact h
theorem wX_imp {r : R α} {Q' : α → Prop} {E' : XE} (h : wX r Q E0) (i : ∀ a, Q a → Q' a) : wX r Q' E' := wX_mono h i fun _ _ _ h => h.elim
theorem wX_eq {r : R α} {a : α} (h : wX r (fun b => b = a) E0) : r = .ok a := by
  cases r with
  | ok b => exact congrArg _ h
  | exc c fs ρ => exact h.elim
  | stuck => exact h.elim
theorem wX_get {r : R α} (h : wX r Q E0) : ∃ a, r = .ok a ∧ Q a := by
  cases r with
  | ok b => exact ⟨b, rfl, h⟩
  | exc c fs ρ => exact h.elim
  | stuck => exact h.elim
theorem wX_bind (r : R α) (k : α → R β) (Q : β → Prop) : wX (r.bind k) Q E = wX r (fun a => wX (k a) Q E) E := by cases r <;> rfl
theorem wX_sbind (r : R α) (k : α → R β) (Q : β → Prop) : wX (r.sbind k) Q E = wX r (fun a => wX (k a) Q E) E0 := by cases r <;> rfl
theorem wO_some (a : α) : wO (some a) Q = Q a := rfl
theorem wO_map (o : Option β) (g : β → α) : wO (o.map g) Q = wO o (fun b => Q (g b)) := by cases o <;> rfl
theorem wO_bind (o : Option β) (g : β → Option α) : wO (o.bind g) Q = wO o (fun b => wO (g b) Q) := by cases o <;> rfl
theorem wO_ite (c : Prop) [Decidable c] (a : α) : wO (if c then some a else none) Q = (c ∧ Q a) := by
  by_cases h : c
  · rw [if_pos h]; exact propext ⟨fun q => ⟨h, q⟩, fun q => q.2⟩
  · rw [if_neg h]; exact propext ⟨fun q => q.elim, fun q => h q.1⟩
theorem wX_of (o : Option α) : wX (R.of o) Q E = wO o Q := by cases o <;> rfl
theorem wIf_true (P Q : Prop) : wIf true P Q = P := rfl
theorem wIf_false (P Q : Prop) : wIf false P Q = Q := by simp [wIf]
theorem wIf_not (b : Bool) (P Q : Prop) : wIf (!b) P Q = wIf b Q P := by cases b <;> simp [wIf]
theorem wIf_in {b : Bool} {P Q : Prop} (h1 : b = true → P) (h2 : b = false → Q) : wIf b P Q := by
  cases b
  · rw [wIf_false]; exact h2 rfl
  · rw [wIf_true]; exact h1 rfl
theorem wIf_dec {c : Prop} [Decidable c] {P Q : Prop} (h1 : c → P) (h2 : ¬ c → Q) : wIf (decide c) P Q := wIf_in (fun h => h1 (of_decide_eq_true h)) (fun h => h2 (of_decide_eq_false h))
theorem wF_nx (P : Prop) (K : Fl → Prop) : wF .nx P K = P := rfl
theorem wF_rt (d : D) (P : Prop) (K : Fl → Prop) : wF (.rt d) P K = K (.rt d) := rfl
theorem wF_bk (P : Prop) (K : Fl → Prop) : wF .bk P K = K .bk := rfl
theorem wF_ct (P : Prop) (K : Fl → Prop) : wF .ct P K = K .ct := rfl
end
/-! ### the combinators -/
section
variable {α β : Type} {E : XE} {ρ : Env} {m ma mb mc : M D} {ml : M (List D)} {t : M Bool}
theorem w_pure {Q : α → Env → Prop} (a : α) : wM (M.pure a) ρ Q E = Q a ρ := rfl
theorem w_bind {Q : β → Env → Prop} (m : M α) (f : α → M β) : wM (m.bind f) ρ Q E = wM m ρ (fun a ρ1 => wM (f a) ρ1 Q E) E := by
  unfold wM M.bind; rw [wX_bind]
theorem w_of {Q : α → Env → Prop} (o : Option α) : wM (M.of o) ρ Q E = wO o (fun a => Q a ρ) := by cases o <;> rfl
theorem wM_mono {m : M α} {Q Q' : α → Env → Prop} {E E' : XE} (h : wM m ρ Q E) (i : ∀ a ρ, Q a ρ → Q' a ρ) (j : ∀ c fs ρ, E c fs ρ → E' c fs ρ) : wM m ρ Q' E' := wX_mono h (fun p hp => i p.1 p.2 hp) j
theorem wM_imp {m : M α} {Q Q' : α → Env → Prop} {E' : XE} (h : wM m ρ Q E0) (i : ∀ a ρ, Q a ρ → Q' a ρ) : wM m ρ Q' E' := wM_mono h i fun _ _ _ h => h.elim
theorem wO_none {Q : α → Prop} : wO (none : Option α) Q = False := rfl
theorem wO_get {Q : α → Prop} {o : Option α} (h : wO o Q) : ∃ a, o = some a ∧ Q a := by
  cases o with
  | none => exact h.elim
  | some a => exact ⟨a, rfl, h⟩
theorem w_m1 {Q : D → Env → Prop} (g : D → Option D) : wM (m1 g m) ρ Q E = wM m ρ (fun x ρ1 => wO (g x) fun d => Q d ρ1) E := by unfold m1; simp only [w_bind, w_of]
theorem w_m2 {Q : D → Env → Prop} (g : D → D → Option D) : wM (m2 g ma mb) ρ Q E = wM ma ρ (fun x ρ1 => wM mb ρ1 (fun y ρ2 => wO (g x y) fun d => Q d ρ2) E) E := by unfold m2; simp only [w_bind, w_of]
theorem w_var {Q : D → Env → Prop} (i : Nat) : wM (mVar i) ρ Q E = wO (ρ[i]?) fun o => wO o fun d => Q d ρ := by
  unfold wM mVar
  cases ρ[i]? with
  | none => rfl
  | some o => cases o <;> rfl
theorem w_c {Q : D → Env → Prop} (d : D) : wM (mC d) ρ Q E = Q d ρ := rfl
theorem w_truth {Q : Bool → Env → Prop} : wM (mTruth m) ρ Q E = wM m ρ (fun d ρ1 => wO (dTruth d) fun b => Q b ρ1) E := by unfold mTruth; simp only [w_bind, w_of]
theorem w_ite {Q : α → Env → Prop} (b : Bool) (m m' : M α) : wM (if b = true then m else m') ρ Q E = wIf b (wM m ρ Q E) (wM m' ρ Q E) := by cases b <;> simp [wIf]
theorem w_and {Q : Bool → Env → Prop} (a b : M Bool) : wM (mAnd a b) ρ Q E = wM a ρ (fun x ρ1 => wIf x (wM b ρ1 Q E) (Q false ρ1)) E := by unfold mAnd; simp only [w_bind, w_ite, w_pure]
theorem w_or {Q : Bool → Env → Prop} (a b : M Bool) : wM (mOr a b) ρ Q E = wM a ρ (fun x ρ1 => wIf x (Q true ρ1) (wM b ρ1 Q E)) E := by unfold mOr; simp only [w_bind, w_ite, w_pure]
theorem w_not {Q : Bool → Env → Prop} (a : M Bool) : wM (mNot a) ρ Q E = wM a ρ (fun x ρ1 => Q (!x) ρ1) E := by unfold mNot; simp only [w_bind, w_pure]
theorem w_andV {Q : D → Env → Prop} : wM (mAndV ma mb) ρ Q E = wM ma ρ (fun x ρ1 => wO (dTruth x) fun c => wIf c (wM mb ρ1 Q E) (Q x ρ1)) E := by unfold mAndV; simp only [w_bind, w_ite, w_pure, w_of]
theorem w_orV {Q : D → Env → Prop} : wM (mOrV ma mb) ρ Q E = wM ma ρ (fun x ρ1 => wO (dTruth x) fun c => wIf c (Q x ρ1) (wM mb ρ1 Q E)) E := by unfold mOrV; simp only [w_bind, w_ite, w_pure, w_of]
theorem w_notV {Q : D → Env → Prop} : wM (mNotV m) ρ Q E = wM m ρ (fun x ρ1 => wO (dTruth x) fun c => Q (.bool (!c)) ρ1) E := by unfold mNotV; simp only [w_bind, w_pure, w_of]
theorem w_if {Q : D → Env → Prop} (c : M Bool) : wM (mIf c ma mb) ρ Q E = wM c ρ (fun x ρ1 => wIf x (wM ma ρ1 Q E) (wM mb ρ1 Q E)) E := by unfold mIf; simp only [w_bind, w_ite]
theorem w_nil {Q : List D → Env → Prop} : wM mNil ρ Q E = Q [] ρ := rfl
theorem w_cons {Q : List D → Env → Prop} : wM (mCons m ml) ρ Q E = wM m ρ (fun x ρ1 => wM ml ρ1 (fun xs ρ2 => Q (x :: xs) ρ2) E) E := by unfold mCons; simp only [w_bind, w_pure]
theorem w_tup {Q : D → Env → Prop} : wM (mTup ml) ρ Q E = wM ml ρ (fun ds ρ1 => Q (.tuple ds) ρ1) E := by unfold mTup; simp only [w_bind, w_pure]
theorem w_lst {Q : D → Env → Prop} : wM (mLst ml) ρ Q E = wM ml ρ (fun ds ρ1 => Q (.list ds) ρ1) E := by unfold mLst; simp only [w_bind, w_pure]
theorem w_call {Q : D → Env → Prop} (g : List D → Option D) : wM (mCall g ml) ρ Q E = wM ml ρ (fun ds ρ1 => wO (g ds) fun d => Q d ρ1) E := by unfold mCall; simp only [w_bind, w_of]
theorem w_nx {Q : Fl → Env → Prop} : wM mNx ρ Q E = Q .nx ρ := rfl
theorem w_seq {Q : Fl → Env → Prop} (a b : M Fl) : wM (mSeq a b) ρ Q E = wM a ρ (fun f ρ1 => wF f (wM b ρ1 Q E) fun f => Q f ρ1) E := by
  unfold mSeq
  rw [w_bind]
  congr 1
  funext f ρ1
  cases f <;> rfl
theorem w_drop {Q : Fl → Env → Prop} : wM (mDrop m) ρ Q E = wM m ρ (fun _ ρ1 => Q .nx ρ1) E := by unfold mDrop; simp only [w_bind, w_pure]
theorem w_ret {Q : Fl → Env → Prop} : wM (mRet m) ρ Q E = wM m ρ (fun d ρ1 => Q (.rt d) ρ1) E := by unfold mRet; simp only [w_bind, w_pure]
theorem w_set {Q : Fl → Env → Prop} (i : Nat) : wM (mSet i m) ρ Q E = wM m ρ (fun d ρ1 => Q .nx (ρ1.set i (some d))) E := by unfold mSet; rw [w_bind]; rfl
theorem w_ifS {Q : Fl → Env → Prop} (a b : M Fl) : wM (mIfS t a b) ρ Q E = wM t ρ (fun x ρ1 => wIf x (wM a ρ1 Q E) (wM b ρ1 Q E)) E := by unfold mIfS; simp only [w_bind, w_ite]
theorem w_slot {Q : List D → Env → Prop} (i : Nat) : wM (mSlot i ml) ρ Q E = wO (ρ[i]?) fun o => wO o fun _ => wM ml ρ Q E := by
  unfold wM mSlot
  cases ρ[i]? with
  | none => rfl
  | some o => cases o <;> rfl
theorem w_callF {Q : D → Env → Prop} (f : Fn) (sl : List Sl) : wM (mCallF f sl ml) ρ Q E = wM ml ρ (fun ds ρ1 => wO (fill sl ds ρ1) fun full => wX (f full) (fun q => wO (put sl q.2 ρ1) fun ρ' => Q q.1 ρ') fun c fs _ => sl.all (fun s => !s.m) = true ∧ E c fs ρ1) E := by
  unfold wM mCallF
  rw [wX_bind]
  congr 1
  funext p
  try dsimp only
  cases fill sl p.1 p.2 with
  | none => rfl
  | some full =>
    simp only [wO_some]
    cases f full with
    | stuck => rfl
    | ok q =>
      simp only [wX_ok]
      cases put sl q.2 p.2 <;> rfl
    | exc c fs ρ' =>
      simp only [wX_exc]
      by_cases h : sl.all (fun s => !s.m) = true
      · simp only [if_pos h, wX_exc]; exact propext ⟨fun q => ⟨h, q⟩, fun q => q.2⟩
      · simp only [if_neg h]; exact propext ⟨fun q => q.elim, fun q => h q.1⟩
theorem w_callK {Q : D → Env → Prop} (f : Fn) (ix : List Nat) : wM (mCallK f ix ml) ρ Q E = wM ml ρ (fun ds ρ1 => wX (f (pick ix ds)) (fun q => q.2 = [] ∧ Q q.1 ρ1) fun c fs _ => E c fs ρ1) E := by
  unfold wM mCallK
  rw [wX_bind]
  congr 1
  funext p
  try dsimp only
  cases f (pick ix p.1) with
  | stuck => rfl
  | ok q =>
    obtain ⟨d, l⟩ := q
    cases l with
    | nil => simp only [wX_ok, if_true, true_and]
    | cons x l => simp only [wX_ok, reduceCtorEq, if_false, false_and]; rfl
  | exc c fs ρ' => rfl
theorem w_app2 {Q : List D → Env → Prop} (mk : M (List D)) : wM (mApp2 ml mk) ρ Q E = wM ml ρ (fun xs ρ1 => wM mk ρ1 (fun ys ρ2 => Q (xs ++ ys) ρ2) E) E := by unfold mApp2; simp only [w_bind, w_pure]
theorem w_part {Q : Option Int → Env → Prop} : wM (mPart m) ρ Q E = wM m ρ (fun d ρ1 => wO (match d with | .int i => some i | _ => none) fun i => Q (some i) ρ1) E := by
  unfold mPart
  rw [w_bind]
  congr 1
  funext d ρ1
  cases d <;> rfl
theorem w_noPart {Q : Option Int → Env → Prop} : wM mNoPart ρ Q E = Q none ρ := rfl
theorem w_sl {Q : D → Env → Prop} (g : D → Option Int → Option Int → Option D) (l h : M (Option Int)) : wM (mSl g m l h) ρ Q E = wM m ρ (fun x ρ1 => wM l ρ1 (fun l ρ2 => wM h ρ2 (fun h ρ3 => wO (g x l h) fun d => Q d ρ3) E) E) E := by unfold mSl; simp only [w_bind, w_of]
theorem w_seqOf {Q : List D → Env → Prop} : wM (mSeqOf m) ρ Q E = wM m ρ (fun d ρ1 => wO (dSeq d) fun ds => Q ds ρ1) E := by unfold mSeqOf; simp only [w_bind, w_of]
theorem w_rng {Q : List D → Env → Prop} (g : List D → Option (List D)) : wM (mRng g ml) ρ Q E = wM ml ρ (fun ds ρ1 => wO (g ds) fun xs => Q xs ρ1) E := by unfold mRng; simp only [w_bind, w_of]
theorem w_for {Q : Fl → Env → Prop} (tg : Tg) (mb : M Fl) : wM (mFor tg ml mb) ρ Q E = wM ml ρ (fun ds ρ1 => wM (forL tg mb ds) ρ1 Q E) E := by unfold mFor; rw [w_bind]
theorem w_forL_nil {Q : Fl → Env → Prop} (tg : Tg) (mb : M Fl) : wM (forL tg mb []) ρ Q E = Q .nx ρ := rfl
theorem w_forL_cons {Q : Fl → Env → Prop} (tg : Tg) (mb : M Fl) (d : D) (ds : List D) : wM (forL tg mb (d :: ds)) ρ Q E = wO (bindT tg d ρ) fun ρ1 => wM mb ρ1 (fun f ρ2 => match f with
    | .nx => wM (forL tg mb ds) ρ2 Q E
    | .ct => wM (forL tg mb ds) ρ2 Q E
    | .bk => Q .nx ρ2
    | .rt d => Q (.rt d) ρ2) E := by
  have e : forL tg mb (d :: ds) ρ = match bindT tg d ρ with
    | none => .stuck
    | some ρ1 => (mb ρ1).bind fun p => match p.1 with
      | .nx => forL tg mb ds p.2
      | .ct => forL tg mb ds p.2
      | .bk => .ok (.nx, p.2)
      | .rt d => .ok (.rt d, p.2) := rfl
  show wX (forL tg mb (d :: ds) ρ) _ _ = _
  rw [e]
  cases bindT tg d ρ with
  | none => rfl
  | some ρ1 =>
    simp only [wO_some]
    rw [wX_bind]
    show _ = wX (mb ρ1) _ E
    congr 1
    funext p
    obtain ⟨f, ρ2⟩ := p
    cases f <;> rfl
theorem w_lc {Q : D → Env → Prop} (tg : Tg) (own : List Nat) (mt : M Bool) : wM (mLc tg own ml mt m) ρ Q E = wM ml ρ (fun ds ρ1 => ds.length ≤ sizeLine ∧ wM (lcL tg own mt m ds []) (wipeE ρ1 own) (fun ys ρ2 => Q (.list ys) (backE ρ1 own ρ2)) E0) E := by
  unfold wM mLc
  rw [wX_bind]
  congr 1
  funext p
  try dsimp only
  by_cases h : p.1.length ≤ sizeLine
  · simp only [h, if_true, true_and]
    rw [wX_sbind]
    rfl
  · simp only [h, if_false, false_and]; rfl
theorem w_lcL_nil {Q : List D → Env → Prop} (tg : Tg) (own : List Nat) (mt : M Bool) (acc : List D) : wM (lcL tg own mt m [] acc) ρ Q E = Q acc ρ := rfl
theorem w_lcL_cons {Q : List D → Env → Prop} (tg : Tg) (own : List Nat) (mt : M Bool) (d : D) (ds acc : List D) : wM (lcL tg own mt m (d :: ds) acc) ρ Q E = wO (bindT tg d ρ) fun ρ1 => wM mt ρ1 (fun b ρ2 => wIf b (wM m ρ2 (fun x ρ3 => wM (lcL tg own mt m ds (acc ++ [x])) (wipeE ρ3 own) Q E) E0) (wM (lcL tg own mt m ds acc) (wipeE ρ2 own) Q E)) E0 := by
  have e : lcL tg own mt m (d :: ds) acc ρ = match bindT tg d ρ with
    | none => .stuck
    | some ρ1 => (mt ρ1).sbind fun q => if q.1 = true then (m q.2).sbind fun p => lcL tg own mt m ds (acc ++ [p.1]) (wipeE p.2 own) else lcL tg own mt m ds acc (wipeE q.2 own) := rfl
  show wX (lcL tg own mt m (d :: ds) acc ρ) _ _ = _
  rw [e]
  cases bindT tg d ρ with
  | none => rfl
  | some ρ1 =>
    simp only [wO_some]
    rw [wX_sbind]
    show _ = wX (mt ρ1) _ E0
    congr 1
    funext p
    obtain ⟨b, ρ2⟩ := p
    cases b with
    | false => simp only [wIf_false, Bool.false_eq_true, if_false]; rfl
    | true => simp only [wIf_true, if_true]; rw [wX_sbind]; rfl
theorem w_app {Q : D → Env → Prop} (i : Nat) : wM (mApp i m) ρ Q E = wO (lstAt ρ i) fun _ => wM m ρ (fun d ρ1 => wO (lstAt ρ1 i) fun ds => ds.length < sizeLine ∧ Q .none (ρ1.set i (some (.list (ds ++ [d]))))) E := by
  unfold wM mApp
  cases lstAt ρ i with
  | none => rfl
  | some _ =>
    simp only [wO_some]
    rw [wX_bind]
    congr 1
    funext p
    try dsimp only
    cases lstAt p.2 i with
    | none => rfl
    | some ds =>
      simp only [wO_some]
      by_cases h : ds.length < sizeLine
      · simp only [h, if_true, true_and]; rfl
      · simp only [h, if_false, false_and]; rfl
theorem w_ixO {Q : D → Env → Prop} (i : Nat) : wM (mIxO i m) ρ Q E = wO (lstAt ρ i) fun _ => wM m ρ (fun d ρ1 => wO (lstAt ρ1 i) fun ds => wO (gIx (.list ds) d) fun d => Q d ρ1) E := by
  unfold wM mIxO
  cases lstAt ρ i with
  | none => rfl
  | some _ =>
    simp only [wO_some]
    rw [wX_bind]
    congr 1
    funext p
    obtain ⟨d, ρ1⟩ := p
    try dsimp only
    cases h : lstAt ρ1 i with
    | none => cases d <;> simp only [h] <;> rfl
    | some ds =>
      cases d <;> simp only [h, wO_some] <;> try rfl
      next k => simp only [gIx]; cases atI ds k <;> rfl
theorem w_lenO {Q : D → Env → Prop} (i : Nat) : wM (mLenO i) ρ Q E = wO (lstAt ρ i) fun ds => Q (.int ds.length) ρ := by
  unfold wM mLenO
  cases lstAt ρ i <;> rfl
theorem w_popAt {Q : D → Env → Prop} (i : Nat) : wM (mPopAt i m) ρ Q E = wO (lstAt ρ i) fun _ => wM m ρ (fun d ρ1 => wO (lstAt ρ1 i) fun ds => wO (popI ds d) fun p => Q p.1 (ρ1.set i (some (.list p.2)))) E := by
  unfold wM mPopAt
  cases lstAt ρ i with
  | none => rfl
  | some _ =>
    simp only [wO_some]
    rw [wX_bind]
    congr 1
    funext p
    obtain ⟨d, ρ1⟩ := p
    try dsimp only
    cases h : lstAt ρ1 i with
    | none => cases d <;> simp only [h] <;> rfl
    | some ds =>
      cases d <;> simp only [h, wO_some] <;> try rfl
      next k =>
        unfold popI
        by_cases c : -(2 ^ 63) ≤ k ∧ k < 2 ^ 63
        · simp only [if_pos c]
          cases seqIndex? k ds.length with
          | none => rfl
          | some j => simp only [Option.bind_some]; cases ds[j]? <;> rfl
        · simp only [if_neg c]; rfl
theorem w_setIx {Q : Fl → Env → Prop} (i : Nat) : wM (mSetIx i ma mb) ρ Q E = wM ma ρ (fun d ρ1 => wO (lstAt ρ1 i) fun _ => wM mb ρ1 (fun k ρ2 => wO (lstAt ρ2 i) fun ds => wO (setI ds d k) fun l => Q .nx (ρ2.set i (some (.list l)))) E) E := by
  unfold wM mSetIx
  rw [wX_bind]
  congr 1
  funext p
  try dsimp only
  cases lstAt p.2 i with
  | none => rfl
  | some _ =>
    simp only [wO_some]
    rw [wX_bind]
    congr 1
    funext q
    obtain ⟨d, ρ1⟩ := q
    try dsimp only
    cases h : lstAt ρ1 i with
    | none => cases d <;> simp only [h] <;> rfl
    | some ds =>
      cases d <;> simp only [h, wO_some] <;> try rfl
      next k => simp only [setI]; cases ixN ds.length k <;> rfl
theorem w_aug {Q : Fl → Env → Prop} (g : Int → Int → Int) (i : Nat) : wM (mAug g i m) ρ Q E = wO (ρ[i]?) fun o => wO o fun k => wO (match k with | .int k => some k | _ => none) fun k => wM m ρ (fun d ρ1 => wO (match d with | .int j => some j | _ => none) fun j => Q .nx (ρ1.set i (some (.int (g k j))))) E := by
  unfold wM mAug
  cases ρ[i]? with
  | none => rfl
  | some o =>
    cases o with
    | none => rfl
    | some k =>
      cases k <;> try rfl
      simp only [wO_some]
      rw [wX_bind]
      congr 1
      funext q
      obtain ⟨d, ρ1⟩ := q
      cases d <;> rfl
theorem w_par2 {Q : Fl → Env → Prop} (i j : Nat) : wM (mPar [i, j] (mCons ma (mCons mb mNil))) ρ Q E = wM ma ρ (fun x ρ1 => wM mb ρ1 (fun y ρ2 => Q .nx ((ρ2.set i (some x)).set j (some y))) E) E := by unfold mPar; simp only [w_bind, w_cons, w_nil]; rfl
theorem w_par3 {Q : Fl → Env → Prop} (i j k : Nat) : wM (mPar [i, j, k] (mCons ma (mCons mb (mCons mc mNil)))) ρ Q E = wM ma ρ (fun x ρ1 => wM mb ρ1 (fun y ρ2 => wM mc ρ2 (fun z ρ3 => Q .nx (((ρ3.set i (some x)).set j (some y)).set k (some z))) E) E) E := by unfold mPar; simp only [w_bind, w_cons, w_nil]; rfl
theorem w_mbind {Q : Fl → Env → Prop} (tg : Tg) : wM (mBind tg m) ρ Q E = wM m ρ (fun d ρ1 => wO (bindT tg d ρ1) fun ρ2 => Q .nx ρ2) E := by
  unfold mBind
  rw [w_bind]
  congr 1
  funext d ρ1
  unfold wM
  try dsimp only
  cases bindT tg d ρ1 <;> rfl
theorem w_chain {Q : D → Env → Prop} (g g' : D → D → Option D) : wM (mChain g g' ma mb mc) ρ Q E = wM ma ρ (fun x ρ1 => wM mb ρ1 (fun y ρ2 => wO (g x y) fun k => wO (match k with | .bool b => some b | _ => none) fun b => wIf b (wM mc ρ2 (fun z ρ3 => wO (g' y z) fun d => Q d ρ3) E) (Q (.bool false) ρ2)) E) E := by
  unfold mChain
  simp only [w_bind, w_of]
  congr 1
  funext x ρ1
  congr 1
  funext y ρ2
  congr 1
  funext k
  cases k with
  | bool b =>
    cases b
    · simp only [wO_some, wIf_false, w_pure]
    · simp only [wO_some, wIf_true, w_bind, w_of]
  | _ => rfl
theorem wX_runF {ro : Bool} {n : Nat} {Ps : List Nat} {m : M Fl} {ds : List D} {Q : D × List D → Prop} : wX (runF ro n Ps m ds) Q E = wM m (startE n ds) (fun f ρ => match f with
    | .rt d => wO (outs Ps ρ) fun es => Q (d, es)
    | .nx => ro = false ∧ wO (outs Ps ρ) fun es => Q (.none, es)
    | _ => False) (fun c fs _ => Ps = [] ∧ E c fs []) := by
  unfold runF wM
  cases m (startE n ds) with
  | stuck => rfl
  | exc c fs ρ =>
    by_cases h : Ps = []
    · simp only [h, if_true, wX_exc, true_and]
    · simp only [h, if_false, false_and]; rfl
  | ok p =>
    obtain ⟨f, ρ⟩ := p
    simp only [wX_ok]
    cases f with
    | rt d => cases h : outs Ps ρ <;> simp only [h] <;> rfl
    | nx =>
      cases ro with
      | true => simp only [if_true, Bool.true_eq_false, false_and]; rfl
      | false => cases h : outs Ps ρ <;> simp [h, wO, wX]
    | bk => rfl
    | ct => rfl
end
end P0
end VL
end

section
set_option Elab.async false
set_option linter.all false
set_option maxRecDepth 100000
set_option maxHeartbeats 4000000
namespace VL
open PySem PySem.Spec PyProof.Rows L2
set_option autoImplicit false
/-- holds an argument fast: what a type hangs on is not gone into -/
inductive Hd {α : Sort _} {β : Sort _} {γ : Sort _} (a : α) (b : β) (c : γ) : Type
  | mk
@[irreducible] def wX {α : Type} (r : R α) (Q : α → Prop) (E : XE) (_ : Hd () Q E := .mk) : Prop := P0.wX r Q E
@[irreducible] def wM {α : Type} (m : M α) (ρ : Env) (Q : α → Env → Prop) (E : XE) (_ : Hd m Q E := .mk) : Prop := P0.wM m ρ Q E
@[irreducible] def wO {α : Type} (o : Option α) (Q : α → Prop) (_ : Hd () () Q := .mk) : Prop := P0.wO o Q
@[irreducible] def wIf (b : Bool) (P Q : Prop) (_ : Hd () P Q := .mk) : Prop := P0.wIf b P Q
@[irreducible] def wF (f : Fl) (P : Prop) (K : Fl → Prop) (_ : Hd () P K := .mk) : Prop := P0.wF f P K
section
variable {α β : Type} {Q : α → Prop} {E : XE} {ρ : Env}
theorem wX_ok (a : α) : wX (.ok a) Q E = Q a := by with_unfolding_all first | exact P0.wX_ok | exact P0.wX_ok .. | (apply P0.wX_ok <;> assumption)
theorem wX_exc (c : Nat) (fs : List D) (ρ : Env) : wX (.exc c fs ρ : R α) Q E = E c fs ρ := by with_unfolding_all first | exact P0.wX_exc | exact P0.wX_exc .. | (apply P0.wX_exc <;> assumption)
theorem wX_mono {r : R α} {Q' : α → Prop} {E' : XE} (h : wX r Q E) (i : ∀ a, Q a → Q' a) (j : ∀ c fs ρ, E c fs ρ → E' c fs ρ) : wX r Q' E' := by with_unfolding_all first | exact P0.wX_mono | exact P0.wX_mono .. | (apply P0.wX_mono <;> assumption)
theorem wX_imp {r : R α} {Q' : α → Prop} {E' : XE} (h : wX r Q E0) (i : ∀ a, Q a → Q' a) : wX r Q' E' := by with_unfolding_all first | exact P0.wX_imp | exact P0.wX_imp .. | (apply P0.wX_imp <;> assumption)
theorem wX_eq {r : R α} {a : α} (h : wX r (fun b => b = a) E0) : r = .ok a := by with_unfolding_all first | exact P0.wX_eq | exact P0.wX_eq .. | (apply P0.wX_eq <;> assumption)
theorem wX_get {r : R α} (h : wX r Q E0) : ∃ a, r = .ok a ∧ Q a := by with_unfolding_all first | exact P0.wX_get | exact P0.wX_get .. | (apply P0.wX_get <;> assumption)
theorem wX_bind (r : R α) (k : α → R β) (Q : β → Prop) : wX (r.bind k) Q E = wX r (fun a => wX (k a) Q E) E := by with_unfolding_all first | exact P0.wX_bind | exact P0.wX_bind .. | (apply P0.wX_bind <;> assumption)
theorem wX_sbind (r : R α) (k : α → R β) (Q : β → Prop) : wX (r.sbind k) Q E = wX r (fun a => wX (k a) Q E) E0 := by with_unfolding_all first | exact P0.wX_sbind | exact P0.wX_sbind .. | (apply P0.wX_sbind <;> assumption)
theorem wO_some (a : α) : wO (some a) Q = Q a := by with_unfolding_all first | exact P0.wO_some | exact P0.wO_some .. | (apply P0.wO_some <;> assumption)
theorem wO_map (o : Option β) (g : β → α) : wO (o.map g) Q = wO o (fun b => Q (g b)) := by with_unfolding_all first | exact P0.wO_map | exact P0.wO_map .. | (apply P0.wO_map <;> assumption)
theorem wO_bind (o : Option β) (g : β → Option α) : wO (o.bind g) Q = wO o (fun b => wO (g b) Q) := by with_unfolding_all first | exact P0.wO_bind | exact P0.wO_bind .. | (apply P0.wO_bind <;> assumption)
theorem wO_ite (c : Prop) [Decidable c] (a : α) : wO (if c then some a else none) Q = (c ∧ Q a) := by with_unfolding_all first | exact P0.wO_ite | exact P0.wO_ite .. | (apply P0.wO_ite <;> assumption)
theorem wX_of (o : Option α) : wX (R.of o) Q E = wO o Q := by with_unfolding_all first | exact P0.wX_of | exact P0.wX_of .. | (apply P0.wX_of <;> assumption)
theorem wIf_true (P Q : Prop) : wIf true P Q = P := by with_unfolding_all first | exact P0.wIf_true | exact P0.wIf_true .. | (apply P0.wIf_true <;> assumption)
theorem wIf_false (P Q : Prop) : wIf false P Q = Q := by with_unfolding_all first | exact P0.wIf_false | exact P0.wIf_false .. | (apply P0.wIf_false <;> assumption)
theorem wIf_not (b : Bool) (P Q : Prop) : wIf (!b) P Q = wIf b Q P := by with_unfolding_all first | exact P0.wIf_not | exact P0.wIf_not .. | (apply P0.wIf_not <;> assumption)
theorem wIf_in {b : Bool} {P Q : Prop} (h1 : b = true → P) (h2 : b = false → Q) : wIf b P Q := by with_unfolding_all first | exact P0.wIf_in | exact P0.wIf_in .. | (apply P0.wIf_in <;> assumption)
theorem wIf_dec {c : Prop} [Decidable c] {P Q : Prop} (h1 : c → P) (h2 : ¬ c → Q) : wIf (decide c) P Q := by with_unfolding_all first | exact P0.wIf_dec | exact P0.wIf_dec .. | (apply P0.wIf_dec <;> assumption)
theorem wF_nx (P : Prop) (K : Fl → Prop) : wF .nx P K = P := by with_unfolding_all first | exact P0.wF_nx | exact P0.wF_nx .. | (apply P0.wF_nx <;> assumption)
theorem wF_rt (d : D) (P : Prop) (K : Fl → Prop) : wF (.rt d) P K = K (.rt d) := by with_unfolding_all first | exact P0.wF_rt | exact P0.wF_rt .. | (apply P0.wF_rt <;> assumption)
theorem wF_bk (P : Prop) (K : Fl → Prop) : wF .bk P K = K .bk := by with_unfolding_all first | exact P0.wF_bk | exact P0.wF_bk .. | (apply P0.wF_bk <;> assumption)
theorem wF_ct (P : Prop) (K : Fl → Prop) : wF .ct P K = K .ct := by with_unfolding_all first | exact P0.wF_ct | exact P0.wF_ct .. | (apply P0.wF_ct <;> assumption)
end
/-! ### the combinators -/
section
variable {α β : Type} {E : XE} {ρ : Env} {m ma mb mc : M D} {ml : M (List D)} {t : M Bool}
theorem w_pure {Q : α → Env → Prop} (a : α) : wM (M.pure a) ρ Q E = Q a ρ := by with_unfolding_all first | exact P0.w_pure | exact P0.w_pure .. | (apply P0.w_pure <;> assumption)
theorem w_bind {Q : β → Env → Prop} (m : M α) (f : α → M β) : wM (m.bind f) ρ Q E = wM m ρ (fun a ρ1 => wM (f a) ρ1 Q E) E := by with_unfolding_all first | exact P0.w_bind | exact P0.w_bind .. | (apply P0.w_bind <;> assumption)
theorem w_of {Q : α → Env → Prop} (o : Option α) : wM (M.of o) ρ Q E = wO o (fun a => Q a ρ) := by with_unfolding_all first | exact P0.w_of | exact P0.w_of .. | (apply P0.w_of <;> assumption)
theorem wM_mono {m : M α} {Q Q' : α → Env → Prop} {E E' : XE} (h : wM m ρ Q E) (i : ∀ a ρ, Q a ρ → Q' a ρ) (j : ∀ c fs ρ, E c fs ρ → E' c fs ρ) : wM m ρ Q' E' := by with_unfolding_all first | exact P0.wM_mono | exact P0.wM_mono .. | (apply P0.wM_mono <;> assumption)
theorem wM_imp {m : M α} {Q Q' : α → Env → Prop} {E' : XE} (h : wM m ρ Q E0) (i : ∀ a ρ, Q a ρ → Q' a ρ) : wM m ρ Q' E' := by with_unfolding_all first | exact P0.wM_imp | exact P0.wM_imp .. | (apply P0.wM_imp <;> assumption)
theorem wO_none {Q : α → Prop} : wO (none : Option α) Q = False := by with_unfolding_all first | exact P0.wO_none | exact P0.wO_none .. | (apply P0.wO_none <;> assumption)
theorem wO_get {Q : α → Prop} {o : Option α} (h : wO o Q) : ∃ a, o = some a ∧ Q a := by with_unfolding_all first | exact P0.wO_get | exact P0.wO_get .. | (apply P0.wO_get <;> assumption)
theorem w_m1 {Q : D → Env → Prop} (g : D → Option D) : wM (m1 g m) ρ Q E = wM m ρ (fun x ρ1 => wO (g x) fun d => Q d ρ1) E := by with_unfolding_all first | exact P0.w_m1 | exact P0.w_m1 .. | (apply P0.w_m1 <;> assumption)
theorem w_m2 {Q : D → Env → Prop} (g : D → D → Option D) : wM (m2 g ma mb) ρ Q E = wM ma ρ (fun x ρ1 => wM mb ρ1 (fun y ρ2 => wO (g x y) fun d => Q d ρ2) E) E := by with_unfolding_all first | exact P0.w_m2 | exact P0.w_m2 .. | (apply P0.w_m2 <;> assumption)
theorem w_var {Q : D → Env → Prop} (i : Nat) : wM (mVar i) ρ Q E = wO (ρ[i]?) fun o => wO o fun d => Q d ρ := by with_unfolding_all first | exact P0.w_var | exact P0.w_var .. | (apply P0.w_var <;> assumption)
theorem w_c {Q : D → Env → Prop} (d : D) : wM (mC d) ρ Q E = Q d ρ := by with_unfolding_all first | exact P0.w_c | exact P0.w_c .. | (apply P0.w_c <;> assumption)
theorem w_truth {Q : Bool → Env → Prop} : wM (mTruth m) ρ Q E = wM m ρ (fun d ρ1 => wO (dTruth d) fun b => Q b ρ1) E := by with_unfolding_all first | exact P0.w_truth | exact P0.w_truth .. | (apply P0.w_truth <;> assumption)
theorem w_ite {Q : α → Env → Prop} (b : Bool) (m m' : M α) : wM (if b = true then m else m') ρ Q E = wIf b (wM m ρ Q E) (wM m' ρ Q E) := by with_unfolding_all first | exact P0.w_ite | exact P0.w_ite .. | (apply P0.w_ite <;> assumption)
theorem w_and {Q : Bool → Env → Prop} (a b : M Bool) : wM (mAnd a b) ρ Q E = wM a ρ (fun x ρ1 => wIf x (wM b ρ1 Q E) (Q false ρ1)) E := by with_unfolding_all first | exact P0.w_and | exact P0.w_and .. | (apply P0.w_and <;> assumption)
theorem w_or {Q : Bool → Env → Prop} (a b : M Bool) : wM (mOr a b) ρ Q E = wM a ρ (fun x ρ1 => wIf x (Q true ρ1) (wM b ρ1 Q E)) E := by with_unfolding_all first | exact P0.w_or | exact P0.w_or .. | (apply P0.w_or <;> assumption)
theorem w_not {Q : Bool → Env → Prop} (a : M Bool) : wM (mNot a) ρ Q E = wM a ρ (fun x ρ1 => Q (!x) ρ1) E := by with_unfolding_all first | exact P0.w_not | exact P0.w_not .. | (apply P0.w_not <;> assumption)
theorem w_andV {Q : D → Env → Prop} : wM (mAndV ma mb) ρ Q E = wM ma ρ (fun x ρ1 => wO (dTruth x) fun c => wIf c (wM mb ρ1 Q E) (Q x ρ1)) E := by with_unfolding_all first | exact P0.w_andV | exact P0.w_andV .. | (apply P0.w_andV <;> assumption)
theorem w_orV {Q : D → Env → Prop} : wM (mOrV ma mb) ρ Q E = wM ma ρ (fun x ρ1 => wO (dTruth x) fun c => wIf c (Q x ρ1) (wM mb ρ1 Q E)) E := by with_unfolding_all first | exact P0.w_orV | exact P0.w_orV .. | (apply P0.w_orV <;> assumption)
theorem w_notV {Q : D → Env → Prop} : wM (mNotV m) ρ Q E = wM m ρ (fun x ρ1 => wO (dTruth x) fun c => Q (.bool (!c)) ρ1) E := by with_unfolding_all first | exact P0.w_notV | exact P0.w_notV .. | (apply P0.w_notV <;> assumption)
theorem w_if {Q : D → Env → Prop} (c : M Bool) : wM (mIf c ma mb) ρ Q E = wM c ρ (fun x ρ1 => wIf x (wM ma ρ1 Q E) (wM mb ρ1 Q E)) E := by with_unfolding_all first | exact P0.w_if | exact P0.w_if .. | (apply P0.w_if <;> assumption)
theorem w_nil {Q : List D → Env → Prop} : wM mNil ρ Q E = Q [] ρ := by with_unfolding_all first | exact P0.w_nil | exact P0.w_nil .. | (apply P0.w_nil <;> assumption)
theorem w_cons {Q : List D → Env → Prop} : wM (mCons m ml) ρ Q E = wM m ρ (fun x ρ1 => wM ml ρ1 (fun xs ρ2 => Q (x :: xs) ρ2) E) E := by with_unfolding_all first | exact P0.w_cons | exact P0.w_cons .. | (apply P0.w_cons <;> assumption)
theorem w_tup {Q : D → Env → Prop} : wM (mTup ml) ρ Q E = wM ml ρ (fun ds ρ1 => Q (.tuple ds) ρ1) E := by with_unfolding_all first | exact P0.w_tup | exact P0.w_tup .. | (apply P0.w_tup <;> assumption)
theorem w_lst {Q : D → Env → Prop} : wM (mLst ml) ρ Q E = wM ml ρ (fun ds ρ1 => Q (.list ds) ρ1) E := by with_unfolding_all first | exact P0.w_lst | exact P0.w_lst .. | (apply P0.w_lst <;> assumption)
theorem w_call {Q : D → Env → Prop} (g : List D → Option D) : wM (mCall g ml) ρ Q E = wM ml ρ (fun ds ρ1 => wO (g ds) fun d => Q d ρ1) E := by with_unfolding_all first | exact P0.w_call | exact P0.w_call .. | (apply P0.w_call <;> assumption)
theorem w_nx {Q : Fl → Env → Prop} : wM mNx ρ Q E = Q .nx ρ := by with_unfolding_all first | exact P0.w_nx | exact P0.w_nx .. | (apply P0.w_nx <;> assumption)
theorem w_seq {Q : Fl → Env → Prop} (a b : M Fl) : wM (mSeq a b) ρ Q E = wM a ρ (fun f ρ1 => wF f (wM b ρ1 Q E) fun f => Q f ρ1) E := by with_unfolding_all first | exact P0.w_seq | exact P0.w_seq .. | (apply P0.w_seq <;> assumption)
theorem w_drop {Q : Fl → Env → Prop} : wM (mDrop m) ρ Q E = wM m ρ (fun _ ρ1 => Q .nx ρ1) E := by with_unfolding_all first | exact P0.w_drop | exact P0.w_drop .. | (apply P0.w_drop <;> assumption)
theorem w_ret {Q : Fl → Env → Prop} : wM (mRet m) ρ Q E = wM m ρ (fun d ρ1 => Q (.rt d) ρ1) E := by with_unfolding_all first | exact P0.w_ret | exact P0.w_ret .. | (apply P0.w_ret <;> assumption)
theorem w_set {Q : Fl → Env → Prop} (i : Nat) : wM (mSet i m) ρ Q E = wM m ρ (fun d ρ1 => Q .nx (ρ1.set i (some d))) E := by with_unfolding_all first | exact P0.w_set | exact P0.w_set .. | (apply P0.w_set <;> assumption)
theorem w_ifS {Q : Fl → Env → Prop} (a b : M Fl) : wM (mIfS t a b) ρ Q E = wM t ρ (fun x ρ1 => wIf x (wM a ρ1 Q E) (wM b ρ1 Q E)) E := by with_unfolding_all first | exact P0.w_ifS | exact P0.w_ifS .. | (apply P0.w_ifS <;> assumption)
theorem w_slot {Q : List D → Env → Prop} (i : Nat) : wM (mSlot i ml) ρ Q E = wO (ρ[i]?) fun o => wO o fun _ => wM ml ρ Q E := by with_unfolding_all first | exact P0.w_slot | exact P0.w_slot .. | (apply P0.w_slot <;> assumption)
theorem w_callF {Q : D → Env → Prop} (f : Fn) (sl : List Sl) : wM (mCallF f sl ml) ρ Q E = wM ml ρ (fun ds ρ1 => wO (fill sl ds ρ1) fun full => wX (f full) (fun q => wO (put sl q.2 ρ1) fun ρ' => Q q.1 ρ') fun c fs _ => sl.all (fun s => !s.m) = true ∧ E c fs ρ1) E := by with_unfolding_all first | exact P0.w_callF | exact P0.w_callF .. | (apply P0.w_callF <;> assumption)
theorem w_callK {Q : D → Env → Prop} (f : Fn) (ix : List Nat) : wM (mCallK f ix ml) ρ Q E = wM ml ρ (fun ds ρ1 => wX (f (pick ix ds)) (fun q => q.2 = [] ∧ Q q.1 ρ1) fun c fs _ => E c fs ρ1) E := by with_unfolding_all first | exact P0.w_callK | exact P0.w_callK .. | (apply P0.w_callK <;> assumption)
theorem w_app2 {Q : List D → Env → Prop} (mk : M (List D)) : wM (mApp2 ml mk) ρ Q E = wM ml ρ (fun xs ρ1 => wM mk ρ1 (fun ys ρ2 => Q (xs ++ ys) ρ2) E) E := by with_unfolding_all first | exact P0.w_app2 | exact P0.w_app2 .. | (apply P0.w_app2 <;> assumption)
theorem w_part {Q : Option Int → Env → Prop} : wM (mPart m) ρ Q E = wM m ρ (fun d ρ1 => wO (match d with | .int i => some i | _ => none) fun i => Q (some i) ρ1) E := by with_unfolding_all first | exact P0.w_part | exact P0.w_part .. | (apply P0.w_part <;> assumption)
theorem w_noPart {Q : Option Int → Env → Prop} : wM mNoPart ρ Q E = Q none ρ := by with_unfolding_all first | exact P0.w_noPart | exact P0.w_noPart .. | (apply P0.w_noPart <;> assumption)
theorem w_sl {Q : D → Env → Prop} (g : D → Option Int → Option Int → Option D) (l h : M (Option Int)) : wM (mSl g m l h) ρ Q E = wM m ρ (fun x ρ1 => wM l ρ1 (fun l ρ2 => wM h ρ2 (fun h ρ3 => wO (g x l h) fun d => Q d ρ3) E) E) E := by with_unfolding_all first | exact P0.w_sl | exact P0.w_sl .. | (apply P0.w_sl <;> assumption)
theorem w_seqOf {Q : List D → Env → Prop} : wM (mSeqOf m) ρ Q E = wM m ρ (fun d ρ1 => wO (dSeq d) fun ds => Q ds ρ1) E := by with_unfolding_all first | exact P0.w_seqOf | exact P0.w_seqOf .. | (apply P0.w_seqOf <;> assumption)
theorem w_rng {Q : List D → Env → Prop} (g : List D → Option (List D)) : wM (mRng g ml) ρ Q E = wM ml ρ (fun ds ρ1 => wO (g ds) fun xs => Q xs ρ1) E := by with_unfolding_all first | exact P0.w_rng | exact P0.w_rng .. | (apply P0.w_rng <;> assumption)
theorem w_for {Q : Fl → Env → Prop} (tg : Tg) (mb : M Fl) : wM (mFor tg ml mb) ρ Q E = wM ml ρ (fun ds ρ1 => wM (forL tg mb ds) ρ1 Q E) E := by with_unfolding_all first | exact P0.w_for | exact P0.w_for .. | (apply P0.w_for <;> assumption)
theorem w_forL_nil {Q : Fl → Env → Prop} (tg : Tg) (mb : M Fl) : wM (forL tg mb []) ρ Q E = Q .nx ρ := by with_unfolding_all first | exact P0.w_forL_nil | exact P0.w_forL_nil .. | (apply P0.w_forL_nil <;> assumption)
theorem w_forL_cons {Q : Fl → Env → Prop} (tg : Tg) (mb : M Fl) (d : D) (ds : List D) : wM (forL tg mb (d :: ds)) ρ Q E = wO (bindT tg d ρ) fun ρ1 => wM mb ρ1 (fun f ρ2 => match f with
    | .nx => wM (forL tg mb ds) ρ2 Q E
    | .ct => wM (forL tg mb ds) ρ2 Q E
    | .bk => Q .nx ρ2
    | .rt d => Q (.rt d) ρ2) E := by with_unfolding_all first | exact P0.w_forL_cons | exact P0.w_forL_cons .. | (apply P0.w_forL_cons <;> assumption)
theorem w_lc {Q : D → Env → Prop} (tg : Tg) (own : List Nat) (mt : M Bool) : wM (mLc tg own ml mt m) ρ Q E = wM ml ρ (fun ds ρ1 => ds.length ≤ sizeLine ∧ wM (lcL tg own mt m ds []) (wipeE ρ1 own) (fun ys ρ2 => Q (.list ys) (backE ρ1 own ρ2)) E0) E := by with_unfolding_all first | exact P0.w_lc | exact P0.w_lc .. | (apply P0.w_lc <;> assumption)
theorem w_lcL_nil {Q : List D → Env → Prop} (tg : Tg) (own : List Nat) (mt : M Bool) (acc : List D) : wM (lcL tg own mt m [] acc) ρ Q E = Q acc ρ := by with_unfolding_all first | exact P0.w_lcL_nil | exact P0.w_lcL_nil .. | (apply P0.w_lcL_nil <;> assumption)
theorem w_lcL_cons {Q : List D → Env → Prop} (tg : Tg) (own : List Nat) (mt : M Bool) (d : D) (ds acc : List D) : wM (lcL tg own mt m (d :: ds) acc) ρ Q E = wO (bindT tg d ρ) fun ρ1 => wM mt ρ1 (fun b ρ2 => wIf b (wM m ρ2 (fun x ρ3 => wM (lcL tg own mt m ds (acc ++ [x])) (wipeE ρ3 own) Q E) E0) (wM (lcL tg own mt m ds acc) (wipeE ρ2 own) Q E)) E0 := by with_unfolding_all first | exact P0.w_lcL_cons | exact P0.w_lcL_cons .. | (apply P0.w_lcL_cons <;> assumption)
theorem w_app {Q : D → Env → Prop} (i : Nat) : wM (mApp i m) ρ Q E = wO (lstAt ρ i) fun _ => wM m ρ (fun d ρ1 => wO (lstAt ρ1 i) fun ds => ds.length < sizeLine ∧ Q .none (ρ1.set i (some (.list (ds ++ [d]))))) E := by with_unfolding_all first | exact P0.w_app | exact P0.w_app .. | (apply P0.w_app <;> assumption)
theorem w_ixO {Q : D → Env → Prop} (i : Nat) : wM (mIxO i m) ρ Q E = wO (lstAt ρ i) fun _ => wM m ρ (fun d ρ1 => wO (lstAt ρ1 i) fun ds => wO (gIx (.list ds) d) fun d => Q d ρ1) E := by with_unfolding_all first | exact P0.w_ixO | exact P0.w_ixO .. | (apply P0.w_ixO <;> assumption)
theorem w_lenO {Q : D → Env → Prop} (i : Nat) : wM (mLenO i) ρ Q E = wO (lstAt ρ i) fun ds => Q (.int ds.length) ρ := by with_unfolding_all first | exact P0.w_lenO | exact P0.w_lenO .. | (apply P0.w_lenO <;> assumption)
theorem w_popAt {Q : D → Env → Prop} (i : Nat) : wM (mPopAt i m) ρ Q E = wO (lstAt ρ i) fun _ => wM m ρ (fun d ρ1 => wO (lstAt ρ1 i) fun ds => wO (popI ds d) fun p => Q p.1 (ρ1.set i (some (.list p.2)))) E := by with_unfolding_all first | exact P0.w_popAt | exact P0.w_popAt .. | (apply P0.w_popAt <;> assumption)
theorem w_setIx {Q : Fl → Env → Prop} (i : Nat) : wM (mSetIx i ma mb) ρ Q E = wM ma ρ (fun d ρ1 => wO (lstAt ρ1 i) fun _ => wM mb ρ1 (fun k ρ2 => wO (lstAt ρ2 i) fun ds => wO (setI ds d k) fun l => Q .nx (ρ2.set i (some (.list l)))) E) E := by with_unfolding_all first | exact P0.w_setIx | exact P0.w_setIx .. | (apply P0.w_setIx <;> assumption)
theorem w_aug {Q : Fl → Env → Prop} (g : Int → Int → Int) (i : Nat) : wM (mAug g i m) ρ Q E = wO (ρ[i]?) fun o => wO o fun k => wO (match k with | .int k => some k | _ => none) fun k => wM m ρ (fun d ρ1 => wO (match d with | .int j => some j | _ => none) fun j => Q .nx (ρ1.set i (some (.int (g k j))))) E := by with_unfolding_all first | exact P0.w_aug | exact P0.w_aug .. | (apply P0.w_aug <;> assumption)
theorem w_par2 {Q : Fl → Env → Prop} (i j : Nat) : wM (mPar [i, j] (mCons ma (mCons mb mNil))) ρ Q E = wM ma ρ (fun x ρ1 => wM mb ρ1 (fun y ρ2 => Q .nx ((ρ2.set i (some x)).set j (some y))) E) E := by with_unfolding_all first | exact P0.w_par2 | exact P0.w_par2 .. | (apply P0.w_par2 <;> assumption)
theorem w_par3 {Q : Fl → Env → Prop} (i j k : Nat) : wM (mPar [i, j, k] (mCons ma (mCons mb (mCons mc mNil)))) ρ Q E = wM ma ρ (fun x ρ1 => wM mb ρ1 (fun y ρ2 => wM mc ρ2 (fun z ρ3 => Q .nx (((ρ3.set i (some x)).set j (some y)).set k (some z))) E) E) E := by with_unfolding_all first | exact P0.w_par3 | exact P0.w_par3 .. | (apply P0.w_par3 <;> assumption)
theorem w_mbind {Q : Fl → Env → Prop} (tg : Tg) : wM (mBind tg m) ρ Q E = wM m ρ (fun d ρ1 => wO (bindT tg d ρ1) fun ρ2 => Q .nx ρ2) E := by with_unfolding_all first | exact P0.w_mbind | exact P0.w_mbind .. | (apply P0.w_mbind <;> assumption)
theorem w_chain {Q : D → Env → Prop} (g g' : D → D → Option D) : wM (mChain g g' ma mb mc) ρ Q E = wM ma ρ (fun x ρ1 => wM mb ρ1 (fun y ρ2 => wO (g x y) fun k => wO (match k with | .bool b => some b | _ => none) fun b => wIf b (wM mc ρ2 (fun z ρ3 => wO (g' y z) fun d => Q d ρ3) E) (Q (.bool false) ρ2)) E) E := by with_unfolding_all first | exact P0.w_chain | exact P0.w_chain .. | (apply P0.w_chain <;> assumption)
theorem wX_runF {ro : Bool} {n : Nat} {Ps : List Nat} {m : M Fl} {ds : List D} {Q : D × List D → Prop} : wX (runF ro n Ps m ds) Q E = wM m (startE n ds) (fun f ρ => match f with
    | .rt d => wO (outs Ps ρ) fun es => Q (d, es)
    | .nx => ro = false ∧ wO (outs Ps ρ) fun es => Q (.none, es)
    | _ => False) (fun c fs _ => Ps = [] ∧ E c fs []) := by with_unfolding_all first | exact P0.wX_runF | exact P0.wX_runF .. | (apply P0.wX_runF <;> assumption)
end
end VL
end

section
set_option Elab.async false
set_option linter.all false
set_option maxRecDepth 100000
set_option maxHeartbeats 4000000
namespace VL
open PySem PySem.Spec PyProof.Rows L2
set_option autoImplicit false
section
variable {xs ys : List D} {ρ : Env} {i j : Int} {b : Bool} {s : Str} {d : D} {n : Nat}
theorem lstAt_0 : lstAt (some (.list xs) :: ρ) 0 = some xs := rfl
theorem lstAt_s {o : Option D} : lstAt (o :: ρ) (n + 1) = lstAt ρ n := rfl
theorem cLst_l : cLst [.list xs] = some (.list xs) := rfl
theorem cLst_t : cLst [.tuple xs] = some (.list xs) := rfl
theorem cTup_l : cTup [.list xs] = some (.tuple xs) := rfl
theorem cTup_t : cTup [.tuple xs] = some (.tuple xs) := rfl
theorem cLen_l : cLen [.list xs] = some (.int xs.length) := rfl
theorem cLen_t : cLen [.tuple xs] = some (.int xs.length) := rfl
theorem cInt_i : cInt [.int i] = some (.int i) := rfl
theorem cInt_b : cInt [.bool b] = some (.int (if b then 1 else 0)) := rfl
theorem cAbs_i : cAbs [.int i] = some (.int (if i < 0 then -i else i)) := rfl
theorem cMin2_i : cMin2 [.int i, .int j] = some (.int (if j < i then j else i)) := rfl
theorem cMax2_i : cMax2 [.int i, .int j] = some (.int (if j > i then j else i)) := rfl
theorem gNeg_i : gNeg (.int i) = some (.int (-i)) := rfl
theorem gIx_l : gIx (.list xs) (.int i) = atI xs i := rfl
theorem gIx_t : gIx (.tuple xs) (.int i) = atI xs i := rfl
theorem setI_i : setI xs d (.int i) = (ixN xs.length i).map fun j => xs.set j d := rfl
theorem popI_i (h : -(2 ^ 63) ≤ i ∧ i < 2 ^ 63) : popI xs (.int i) = (seqIndex? i xs.length).bind fun j => (xs[j]?).map fun d => (d, xs.eraseIdx j) := if_pos h
theorem dSeq_l : dSeq (.list xs) = some xs := rfl
theorem dSeq_t : dSeq (.tuple xs) = some xs := rfl
theorem dSeq_s : dSeq (.str s) = some (s.cps.toList.map fun c => .str ⟨#[c]⟩) := rfl
theorem cEnum_t : cEnum [.tuple xs] = some (enumL 0 xs) := rfl
theorem cEnum_l : cEnum [.list xs] = some (enumL 0 xs) := rfl
theorem cZip_l : cZip [.list xs, .list ys] = some (zipL xs ys) := rfl
theorem cZip_t : cZip [.tuple xs, .tuple ys] = some (zipL xs ys) := rfl
theorem tr_b : dTruth (.bool b) = some b := rfl
theorem tr_i : dTruth (.int i) = some (i != 0) := rfl
theorem tr_l : dTruth (.list xs) = some (!xs.isEmpty) := rfl
theorem tr_t : dTruth (.tuple xs) = some (!xs.isEmpty) := rfl
theorem tr_n : dTruth .none = some false := rfl
theorem gIs_n : gIs d .none = some (.bool (isN d)) := rfl
theorem gIsn_n : gIsn d .none = some (.bool (!isN d)) := rfl
theorem gSl_l {lo hi : Option Int} : gSl (.list xs) lo hi = some (.list (cutD xs lo hi)) := rfl
theorem gSl_t {lo hi : Option Int} : gSl (.tuple xs) lo hi = some (.tuple (cutD xs lo hi)) := rfl
theorem gSl_scr {lo hi : Option Int} : gSl (scr xs) lo hi = some (.list (cutD xs lo hi)) := rfl
theorem sizeLine_ge : 100000 ≤ sizeLine := by rw [PySem.sizeLine_eq]; omega
theorem gAdd_l (h : xs.length + ys.length ≤ 100000) : gAdd (.list xs) (.list ys) = some (.list (xs ++ ys)) := if_pos (Nat.le_trans h sizeLine_ge)
theorem gAdd_t (h : xs.length + ys.length ≤ 100000) : gAdd (.tuple xs) (.tuple ys) = some (.tuple (xs ++ ys)) := if_pos (Nat.le_trans h sizeLine_ge)
theorem le_size (h : n ≤ 100000) : n ≤ sizeLine := Nat.le_trans h sizeLine_ge
theorem le_sizeP (h : n ≤ 100000) : (n ≤ sizeLine) = True := eq_true (le_size h)
theorem lt_sizeP (h : n < 100000) : (n < sizeLine) = True := eq_true (Nat.lt_of_lt_of_le h sizeLine_ge)
theorem gPow_i (h : 0 ≤ j ∧ j ≤ 1000000 ∧ i.natAbs < 2 ^ 64) : gPow (.int i) (.int j) = some (.int (i ^ j.toNat)) := if_pos h
/-! isinstance -/
end
end VL
end

section
set_option Elab.async false
set_option linter.all false
namespace VL
open PySem
section
variable {b : Bool} {i : Int} {s : Str} {xs : List D}
theorem isi_int_non : gIsi "int" .none = some (.bool false) := rfl
theorem isi_int_bl : gIsi "int" (.bool b) = some (.bool true) := rfl
theorem isi_int_int : gIsi "int" (.int i) = some (.bool true) := rfl
theorem isi_int_str : gIsi "int" (.str s) = some (.bool false) := rfl
theorem isi_int_lst : gIsi "int" (.list xs) = some (.bool false) := rfl
theorem isi_int_tup : gIsi "int" (.tuple xs) = some (.bool false) := rfl
theorem isi_str_non : gIsi "str" .none = some (.bool false) := rfl
theorem isi_str_bl : gIsi "str" (.bool b) = some (.bool false) := rfl
theorem isi_str_int : gIsi "str" (.int i) = some (.bool false) := rfl
theorem isi_str_str : gIsi "str" (.str s) = some (.bool true) := rfl
theorem isi_str_lst : gIsi "str" (.list xs) = some (.bool false) := rfl
theorem isi_str_tup : gIsi "str" (.tuple xs) = some (.bool false) := rfl
theorem isi_bool_non : gIsi "bool" .none = some (.bool false) := rfl
theorem isi_bool_bl : gIsi "bool" (.bool b) = some (.bool true) := rfl
theorem isi_bool_int : gIsi "bool" (.int i) = some (.bool false) := rfl
theorem isi_bool_str : gIsi "bool" (.str s) = some (.bool false) := rfl
theorem isi_bool_lst : gIsi "bool" (.list xs) = some (.bool false) := rfl
theorem isi_bool_tup : gIsi "bool" (.tuple xs) = some (.bool false) := rfl
theorem isi_list_non : gIsi "list" .none = some (.bool false) := rfl
theorem isi_list_bl : gIsi "list" (.bool b) = some (.bool false) := rfl
theorem isi_list_int : gIsi "list" (.int i) = some (.bool false) := rfl
theorem isi_list_str : gIsi "list" (.str s) = some (.bool false) := rfl
theorem isi_list_lst : gIsi "list" (.list xs) = some (.bool true) := rfl
theorem isi_list_tup : gIsi "list" (.tuple xs) = some (.bool false) := rfl
theorem isi_tuple_non : gIsi "tuple" .none = some (.bool false) := rfl
theorem isi_tuple_bl : gIsi "tuple" (.bool b) = some (.bool false) := rfl
theorem isi_tuple_int : gIsi "tuple" (.int i) = some (.bool false) := rfl
theorem isi_tuple_str : gIsi "tuple" (.str s) = some (.bool false) := rfl
theorem isi_tuple_lst : gIsi "tuple" (.list xs) = some (.bool false) := rfl
theorem isi_tuple_tup : gIsi "tuple" (.tuple xs) = some (.bool true) := rfl
theorem isi_dict_non : gIsi "dict" .none = some (.bool false) := rfl
theorem isi_dict_bl : gIsi "dict" (.bool b) = some (.bool false) := rfl
theorem isi_dict_int : gIsi "dict" (.int i) = some (.bool false) := rfl
theorem isi_dict_str : gIsi "dict" (.str s) = some (.bool false) := rfl
theorem isi_dict_lst : gIsi "dict" (.list xs) = some (.bool false) := rfl
theorem isi_dict_tup : gIsi "dict" (.tuple xs) = some (.bool false) := rfl
theorem isi_list_tuple_non : gIsi2 "list" "tuple" .none = some (.bool false) := rfl
theorem isi_list_tuple_bl : gIsi2 "list" "tuple" (.bool b) = some (.bool false) := rfl
theorem isi_list_tuple_int : gIsi2 "list" "tuple" (.int i) = some (.bool false) := rfl
theorem isi_list_tuple_str : gIsi2 "list" "tuple" (.str s) = some (.bool false) := rfl
theorem isi_list_tuple_lst : gIsi2 "list" "tuple" (.list xs) = some (.bool true) := rfl
theorem isi_list_tuple_tup : gIsi2 "list" "tuple" (.tuple xs) = some (.bool true) := rfl
theorem isi_bool_str_non : gIsi2 "bool" "str" .none = some (.bool false) := rfl
theorem isi_bool_str_bl : gIsi2 "bool" "str" (.bool b) = some (.bool true) := rfl
theorem isi_bool_str_int : gIsi2 "bool" "str" (.int i) = some (.bool false) := rfl
theorem isi_bool_str_str : gIsi2 "bool" "str" (.str s) = some (.bool true) := rfl
theorem isi_bool_str_lst : gIsi2 "bool" "str" (.list xs) = some (.bool false) := rfl
theorem isi_bool_str_tup : gIsi2 "bool" "str" (.tuple xs) = some (.bool false) := rfl
end
end VL
end

section
set_option Elab.async false
set_option linter.all false
set_option maxRecDepth 100000
set_option maxHeartbeats 4000000
namespace VL
open PySem PySem.Spec PyProof.Rows L2
set_option autoImplicit false
namespace P0
section
variable {α β : Type} {E : XE} {ρ : Env} {m ma mb mc : M D} {ml : M (List D)} {t : M Bool}
theorem w_star {Q : List D → Env → Prop} : wM (mStar m ml) ρ Q E = wM m ρ (fun x ρ1 => wO (dItems x) fun xs => wM ml ρ1 (fun ys ρ2 => Q (xs ++ ys) ρ2) E) E := by unfold mStar; simp only [w_bind, w_of, w_pure]
theorem w_tupS {Q : D → Env → Prop} : wM (mTupS ml) ρ Q E = wM ml ρ (fun ds ρ1 => ds.length ≤ sizeLine ∧ Q (.tuple ds) ρ1) E := by unfold mTupS; simp only [w_bind, w_of, w_pure, wO_ite]
theorem w_lstS {Q : D → Env → Prop} : wM (mLstS ml) ρ Q E = wM ml ρ (fun ds ρ1 => ds.length ≤ sizeLine ∧ Q (.list ds) ρ1) E := by unfold mLstS; simp only [w_bind, w_of, w_pure, wO_ite]
theorem w_star2 {Q : Fl → Env → Prop} (i j : Tg) : wM (mStar2 i j m) ρ Q E = wM m ρ (fun d ρ1 => wO (starT i j d ρ1) fun ρ2 => Q .nx ρ2) E := by
  unfold mStar2
  rw [w_bind]
  congr 1
  funext d ρ1
  unfold wM
  try dsimp only
  cases starT i j d ρ1 <;> rfl
end
end P0
end VL
end

section
set_option Elab.async false
set_option linter.all false
set_option maxRecDepth 100000
set_option maxHeartbeats 4000000
namespace VL
open PySem PySem.Spec PyProof.Rows L2
set_option autoImplicit false
namespace P0
section
variable {α β : Type} {E : XE} {ρ : Env} {m ma mb mc : M D} {ml : M (List D)} {t : M Bool}
theorem w_pkL {Q : D → Env → Prop} (g : D → D → Option D) (i : Nat) : wM (mPkL g i m) ρ Q E = wO (slotAt ρ i) fun _ => wM m ρ (fun y ρ1 => wO (slotAt ρ1 i) fun d => wO (g d y) fun c => wO (boolOf c) fun c => Q c ρ1) E := by
  unfold wM mPkL
  cases slotAt ρ i with
  | none => rfl
  | some _ =>
    simp only [wO_some]
    rw [wX_bind]
    congr 1
    funext p
    obtain ⟨y, ρ1⟩ := p
    try dsimp only
    cases h : slotAt ρ1 i with
    | none => rfl
    | some d =>
      simp only [wO_some]
      cases g d y with
      | none => rfl
      | some c => cases c <;> rfl
theorem w_pkR {Q : D → Env → Prop} (g : D → D → Option D) (i : Nat) : wM (mPkR g m i) ρ Q E = wM m ρ (fun y ρ1 => wO (slotAt ρ1 i) fun d => wO (g y d) fun c => wO (boolOf c) fun c => Q c ρ1) E := by
  unfold wM mPkR
  rw [wX_bind]
  congr 1
  funext p
  obtain ⟨y, ρ1⟩ := p
  try dsimp only
  cases h : slotAt ρ1 i with
  | none => rfl
  | some d =>
    simp only [wO_some]
    cases g y d with
    | none => rfl
    | some c => cases c <;> rfl
theorem w_lc2 {Q : D → Env → Prop} (tg : Tg) (own : List Nat) (mt : M Bool) (mi1 : M (List D)) (t1 : Tg) (vs1 : List Nat) (mt1 : M Bool) : wM (mLc2 tg own ml mt mi1 t1 vs1 mt1 m) ρ Q E = wM ml ρ (fun ds ρ1 => wM (lcL2 tg own mt mi1 t1 vs1 mt1 m ds []) (wipeE ρ1 own) (fun ys ρ2 => Q (.list ys) (backE ρ1 own ρ2)) E0) E := by
  unfold wM mLc2
  rw [wX_bind]
  congr 1
  funext p
  try dsimp only
  rw [wX_sbind]
  rfl
theorem w_lcB_nil {Q : List D → Env → Prop} (tg : Tg) (own : List Nat) (mt : M Bool) (acc : List D) : wM (lcB tg own mt m [] acc) ρ Q E = Q acc ρ := rfl
theorem w_lcL2_nil {Q : List D → Env → Prop} (tg : Tg) (own : List Nat) (mt : M Bool) (mi1 : M (List D)) (t1 : Tg) (vs1 : List Nat) (mt1 : M Bool) (acc : List D) : wM (lcL2 tg own mt mi1 t1 vs1 mt1 m [] acc) ρ Q E = Q acc ρ := rfl
theorem w_lcB_cons {Q : List D → Env → Prop} (tg : Tg) (own : List Nat) (mt : M Bool) (d : D) (ds acc : List D) : wM (lcB tg own mt m (d :: ds) acc) ρ Q E = wO (bindT tg d ρ) fun ρ1 => wM mt ρ1 (fun b ρ2 => wIf b (wM m ρ2 (fun x ρ3 => acc.length < sizeLine ∧ wM (lcB tg own mt m ds (acc ++ [x])) (wipeE ρ3 own) Q E) E0) (wM (lcB tg own mt m ds acc) (wipeE ρ2 own) Q E)) E0 := by
  have e : lcB tg own mt m (d :: ds) acc ρ = match bindT tg d ρ with
    | none => .stuck
    | some ρ1 => (mt ρ1).sbind fun q => if q.1 = true then (m q.2).sbind fun p => if acc.length < sizeLine then lcB tg own mt m ds (acc ++ [p.1]) (wipeE p.2 own) else .stuck else lcB tg own mt m ds acc (wipeE q.2 own) := rfl
  show wX (lcB tg own mt m (d :: ds) acc ρ) _ _ = _
  rw [e]
  cases bindT tg d ρ with
  | none => rfl
  | some ρ1 =>
    simp only [wO_some]
    rw [wX_sbind]
    show _ = wX (mt ρ1) _ E0
    congr 1
    funext p
    obtain ⟨b, ρ2⟩ := p
    cases b with
    | false => simp only [wIf_false, Bool.false_eq_true, if_false]; rfl
    | true =>
      simp only [wIf_true, if_true]; rw [wX_sbind]
      show _ = wX (m ρ2) _ E0
      congr 1
      funext p
      by_cases h : acc.length < sizeLine
      · simp only [h, if_true, true_and]; rfl
      · simp only [h, if_false, false_and]; rfl
theorem w_lcL2_cons {Q : List D → Env → Prop} (tg : Tg) (own : List Nat) (mt : M Bool) (mi1 : M (List D)) (t1 : Tg) (vs1 : List Nat) (mt1 : M Bool) (d : D) (ds acc : List D) : wM (lcL2 tg own mt mi1 t1 vs1 mt1 m (d :: ds) acc) ρ Q E = wO (bindT tg d ρ) fun ρ1 => wM mt ρ1 (fun b ρ2 => wIf b (wM mi1 ρ2 (fun es ρ3 => wM (lcB t1 vs1 mt1 m es acc) (wipeE ρ3 vs1) (fun ys ρ4 => wM (lcL2 tg own mt mi1 t1 vs1 mt1 m ds ys) (wipeE ρ4 own) Q E) E0) E0) (wM (lcL2 tg own mt mi1 t1 vs1 mt1 m ds acc) (wipeE ρ2 own) Q E)) E0 := by
  have e : lcL2 tg own mt mi1 t1 vs1 mt1 m (d :: ds) acc ρ = match bindT tg d ρ with
    | none => .stuck
    | some ρ1 => (mt ρ1).sbind fun q => if q.1 = true then (mi1 q.2).sbind fun p => (lcB t1 vs1 mt1 m p.1 acc (wipeE p.2 vs1)).sbind fun r => lcL2 tg own mt mi1 t1 vs1 mt1 m ds r.1 (wipeE r.2 own) else lcL2 tg own mt mi1 t1 vs1 mt1 m ds acc (wipeE q.2 own) := rfl
  show wX (lcL2 tg own mt mi1 t1 vs1 mt1 m (d :: ds) acc ρ) _ _ = _
  rw [e]
  cases bindT tg d ρ with
  | none => rfl
  | some ρ1 =>
    simp only [wO_some]
    rw [wX_sbind]
    show _ = wX (mt ρ1) _ E0
    congr 1
    funext p
    obtain ⟨b, ρ2⟩ := p
    cases b with
    | false => simp only [wIf_false, Bool.false_eq_true, if_false]; rfl
    | true =>
      simp only [wIf_true, if_true]; rw [wX_sbind]
      show _ = wX (mi1 ρ2) _ E0
      congr 1
      funext p
      rw [wX_sbind]
      rfl
end
end P0
end VL
end

section
set_option Elab.async false
set_option linter.all false
set_option maxRecDepth 100000
set_option maxHeartbeats 4000000
namespace VL
open PySem PySem.Spec PyProof.Rows L2
set_option autoImplicit false
namespace P0
section
variable {α β : Type} {E : XE} {ρ : Env} {m ma mb mc mk mv : M D} {ml : M (List D)} {t : M Bool}
theorem w_keysOf {Q : List D → Env → Prop} : wM (mKeysOf m) ρ Q E = wM m ρ (fun x ρ1 => wO (dKeys x) fun ds => Q ds ρ1) E := by
  unfold wM mKeysOf M.bind
  rw [wX_bind]
  congr 1
  funext p
  cases h : dKeys p.1 with
  | none => simp only [M.of, h, R.of, R.bind]; rfl
  | some d => simp only [M.of, h, R.of, R.bind]; rfl
theorem w_itmsOf {Q : List D → Env → Prop} : wM (mItmsOf m) ρ Q E = wM m ρ (fun x ρ1 => wO (dItms x) fun ds => Q ds ρ1) E := by
  unfold wM mItmsOf M.bind
  rw [wX_bind]
  congr 1
  funext p
  cases h : dItms p.1 with
  | none => simp only [M.of, h, R.of, R.bind]; rfl
  | some d => simp only [M.of, h, R.of, R.bind]; rfl
theorem w_get1 {Q : D → Env → Prop} : wM (mGet1 ma mb) ρ Q E = wM ma ρ (fun x ρ1 => wIf (dParse x).isSome (wM mb ρ1 (fun y ρ2 => wO (dGet x y) fun o => Q (o.getD .none) ρ2) E) False) E := by
  unfold wM mGet1 M.bind
  rw [wX_bind]
  congr 1
  funext p
  cases hp : (dParse p.1).isSome with
  | false => simp only [hp, Bool.false_eq_true, if_false, wIf_false]; rfl
  | true =>
    simp only [hp, if_true, wIf_true]
    rw [wX_bind]
    congr 1
    funext q
    cases h : dGet p.1 q.1 with
    | none => simp only [M.of, Option.map_none, R.of, R.bind]; rfl
    | some d => simp only [M.of, Option.map_some, R.of, R.bind]; rfl
theorem w_get2 {Q : D → Env → Prop} : wM (mGet2 ma mb mc) ρ Q E = wM ma ρ (fun x ρ1 => wIf (dParse x).isSome (wM mb ρ1 (fun y ρ2 => wM mc ρ2 (fun z ρ3 => wO (dGet x y) fun o => Q (o.getD z) ρ3) E) E) False) E := by
  unfold wM mGet2 M.bind
  rw [wX_bind]
  congr 1
  funext p
  cases hp : (dParse p.1).isSome with
  | false => simp only [hp, Bool.false_eq_true, if_false, wIf_false]; rfl
  | true =>
    simp only [hp, if_true, wIf_true]
    rw [wX_bind]
    congr 1
    funext q
    rw [wX_bind]
    congr 1
    funext z
    cases h : dGet p.1 q.1 with
    | none => simp only [M.of, Option.map_none, R.of, R.bind]; rfl
    | some d => simp only [M.of, Option.map_some, R.of, R.bind]; rfl
theorem w_dgetO {Q : D → Env → Prop} (i : Nat) : wM (mDGetO i mb) ρ Q E = wO (dicAt ρ i) fun _ => wM mb ρ (fun y ρ1 => wO (dicAt ρ1 i) fun d => wO (dGet d y) fun o => wO o fun z => Q z ρ1) E := by
  unfold wM mDGetO
  cases dicAt ρ i with
  | none => rfl
  | some _ =>
    simp only [wO_some]
    rw [wX_bind]
    congr 1
    funext p
    obtain ⟨y, ρ1⟩ := p
    try dsimp only
    cases h : dicAt ρ1 i with
    | none => rfl
    | some d =>
      simp only [wO_some]
      cases dGet d y with
      | none => rfl
      | some o => cases o <;> rfl
theorem w_dinO {Q : D → Env → Prop} (neg : Bool) (i : Nat) : wM (mDInO neg ma i) ρ Q E = wM ma ρ (fun y ρ1 => wO (dicAt ρ1 i) fun d => wO (dGet d y) fun o => Q (.bool (o.isSome != neg)) ρ1) E := by
  unfold wM mDInO
  rw [wX_bind]
  congr 1
  funext p
  obtain ⟨y, ρ1⟩ := p
  try dsimp only
  cases h : dicAt ρ1 i with
  | none => rfl
  | some d =>
    simp only [wO_some]
    cases dGet d y with
    | none => rfl
    | some o => rfl
theorem w_get1O {Q : D → Env → Prop} (i : Nat) : wM (mGet1O i mb) ρ Q E = wO (dicAt ρ i) fun d0 => wIf (dParse d0).isSome (wM mb ρ (fun y ρ1 => wO (dicAt ρ1 i) fun d => wO (dGet d y) fun o => Q (o.getD .none) ρ1) E) False := by
  unfold wM mGet1O
  cases dicAt ρ i with
  | none => rfl
  | some d0 =>
    simp only [wO_some]
    cases hp : (dParse d0).isSome with
    | false => simp only [Bool.false_eq_true, if_false]; rfl
    | true =>
      simp only [if_true, wIf_true]
      rw [wX_bind]
      congr 1
      funext p
      obtain ⟨y, ρ1⟩ := p
      try dsimp only
      cases h : dicAt ρ1 i with
      | none => rfl
      | some d =>
        simp only [wO_some]
        cases dGet d y with
        | none => rfl
        | some o => rfl
theorem w_get2O {Q : D → Env → Prop} (i : Nat) : wM (mGet2O i mb mc) ρ Q E = wO (dicAt ρ i) fun d0 => wIf (dParse d0).isSome (wM mb ρ (fun y ρ1 => wM mc ρ1 (fun z ρ2 => wO (dicAt ρ2 i) fun d => wO (dGet d y) fun o => Q (o.getD z) ρ2) E) E) False := by
  unfold wM mGet2O
  cases dicAt ρ i with
  | none => rfl
  | some d0 =>
    simp only [wO_some]
    cases hp : (dParse d0).isSome with
    | false => simp only [Bool.false_eq_true, if_false]; rfl
    | true =>
      simp only [if_true, wIf_true]
      rw [wX_bind]
      congr 1
      funext p
      obtain ⟨y, ρ1⟩ := p
      try dsimp only
      rw [wX_bind]
      congr 1
      funext q
      obtain ⟨z, ρ2⟩ := q
      try dsimp only
      cases h : dicAt ρ2 i with
      | none => rfl
      | some d =>
        simp only [wO_some]
        cases dGet d y with
        | none => rfl
        | some o => rfl
theorem w_dput {Q : Fl → Env → Prop} (i : Nat) : wM (mDPut i ma mb) ρ Q E = wM ma ρ (fun v ρ1 => wO (dicAt ρ1 i) fun _ => wM mb ρ1 (fun k ρ2 => wO (dicAt ρ2 i) fun d => wO (dPut d k v) fun d' => Q .nx (ρ2.set i (some d'))) E) E := by
  unfold wM mDPut
  rw [wX_bind]
  congr 1
  funext p
  obtain ⟨v, ρ1⟩ := p
  try dsimp only
  cases h : dicAt ρ1 i with
  | none => rfl
  | some _ =>
    simp only [wO_some]
    rw [wX_bind]
    congr 1
    funext q
    obtain ⟨k, ρ2⟩ := q
    try dsimp only
    cases h : dicAt ρ2 i with
    | none => rfl
    | some d =>
      simp only [wO_some]
      cases dPut d k v with
      | none => rfl
      | some d' => rfl
theorem w_callD {Q : D → Env → Prop} (fn : Fn) : wM (mCallD fn ml) ρ Q E = wM ml ρ (fun ds ρ1 => wX (fn (ds ++ [.tuple []])) (fun p => p.2 = [] ∧ Q p.1 ρ1) (fun c fs _ => E c fs ρ1)) E := by
  unfold wM mCallD
  rw [wX_bind]
  congr 1
  funext p
  obtain ⟨ds, ρ1⟩ := p
  try dsimp only
  cases fn (ds ++ [.tuple []]) with
  | stuck => rfl
  | exc c fs ρ' => rfl
  | ok q =>
    by_cases h : q.2 = []
    · simp only [if_pos h]
      show Q q.1 ρ1 = (q.2 = [] ∧ Q q.1 ρ1)
      simp [h]
    · simp only [if_neg h]
      show False = (q.2 = [] ∧ Q q.1 ρ1)
      simp [h]
theorem w_dc {Q : D → Env → Prop} (d0 : D) (tg : Tg) (own : List Nat) (mt : M Bool) : wM (mDc d0 tg own ml mt mk mv) ρ Q E = wM ml ρ (fun ds ρ1 => wM (dcL tg own mt mk mv ds d0) (wipeE ρ1 own) (fun ys ρ2 => Q ys (backE ρ1 own ρ2)) E0) E := by
  unfold wM mDc
  rw [wX_bind]
  congr 1
  funext p
  try dsimp only
  rw [wX_sbind]
  rfl
theorem w_dc2 {Q : D → Env → Prop} (d0 : D) (tg : Tg) (own : List Nat) (mt : M Bool) (mi1 : M (List D)) (t1 : Tg) (vs1 : List Nat) (mt1 : M Bool) : wM (mDc2 d0 tg own ml mt mi1 t1 vs1 mt1 mk mv) ρ Q E = wM ml ρ (fun ds ρ1 => wM (dcL2 tg own mt mi1 t1 vs1 mt1 mk mv ds d0) (wipeE ρ1 own) (fun ys ρ2 => Q ys (backE ρ1 own ρ2)) E0) E := by
  unfold wM mDc2
  rw [wX_bind]
  congr 1
  funext p
  try dsimp only
  rw [wX_sbind]
  rfl
theorem w_dcL_nil {Q : D → Env → Prop} (tg : Tg) (own : List Nat) (mt : M Bool) (acc : D) : wM (dcL tg own mt mk mv [] acc) ρ Q E = Q acc ρ := rfl
theorem w_dcL2_nil {Q : D → Env → Prop} (tg : Tg) (own : List Nat) (mt : M Bool) (mi1 : M (List D)) (t1 : Tg) (vs1 : List Nat) (mt1 : M Bool) (acc : D) : wM (dcL2 tg own mt mi1 t1 vs1 mt1 mk mv [] acc) ρ Q E = Q acc ρ := rfl
theorem w_dcL_cons {Q : D → Env → Prop} (tg : Tg) (own : List Nat) (mt : M Bool) (d : D) (ds : List D) (acc : D) : wM (dcL tg own mt mk mv (d :: ds) acc) ρ Q E = wO (bindT tg d ρ) fun ρ1 => wM mt ρ1 (fun b ρ2 => wIf b (wM mk ρ2 (fun k ρ3 => wM mv ρ3 (fun v ρ4 => wO (dPut acc k v) fun acc' => wM (dcL tg own mt mk mv ds acc') (wipeE ρ4 own) Q E) E0) E0) (wM (dcL tg own mt mk mv ds acc) (wipeE ρ2 own) Q E)) E0 := by
  have e : dcL tg own mt mk mv (d :: ds) acc ρ = match bindT tg d ρ with
    | none => .stuck
    | some ρ1 => (mt ρ1).sbind fun q => if q.1 = true then (mk q.2).sbind fun k => (mv k.2).sbind fun v => match dPut acc k.1 v.1 with
      | some acc' => dcL tg own mt mk mv ds acc' (wipeE v.2 own)
      | none => .stuck else dcL tg own mt mk mv ds acc (wipeE q.2 own) := rfl
  show wX (dcL tg own mt mk mv (d :: ds) acc ρ) _ _ = _
  rw [e]
  cases bindT tg d ρ with
  | none => rfl
  | some ρ1 =>
    simp only [wO_some]
    rw [wX_sbind]
    show _ = wX (mt ρ1) _ E0
    congr 1
    funext p
    obtain ⟨b, ρ2⟩ := p
    cases b with
    | false => simp only [wIf_false, Bool.false_eq_true, if_false]; rfl
    | true =>
      simp only [wIf_true, if_true]; rw [wX_sbind]
      show _ = wX (mk ρ2) _ E0
      congr 1
      funext p
      rw [wX_sbind]
      show _ = wX (mv p.2) _ E0
      congr 1
      funext q
      obtain ⟨k, ρ3⟩ := p
      obtain ⟨v, ρ4⟩ := q
      dsimp only
      cases dPut acc k v with
      | none => rfl
      | some a => rfl
theorem w_dcL2_cons {Q : D → Env → Prop} (tg : Tg) (own : List Nat) (mt : M Bool) (mi1 : M (List D)) (t1 : Tg) (vs1 : List Nat) (mt1 : M Bool) (d : D) (ds : List D) (acc : D) : wM (dcL2 tg own mt mi1 t1 vs1 mt1 mk mv (d :: ds) acc) ρ Q E = wO (bindT tg d ρ) fun ρ1 => wM mt ρ1 (fun b ρ2 => wIf b (wM mi1 ρ2 (fun es ρ3 => wM (dcL t1 vs1 mt1 mk mv es acc) (wipeE ρ3 vs1) (fun ys ρ4 => wM (dcL2 tg own mt mi1 t1 vs1 mt1 mk mv ds ys) (wipeE ρ4 own) Q E) E0) E0) (wM (dcL2 tg own mt mi1 t1 vs1 mt1 mk mv ds acc) (wipeE ρ2 own) Q E)) E0 := by
  have e : dcL2 tg own mt mi1 t1 vs1 mt1 mk mv (d :: ds) acc ρ = match bindT tg d ρ with
    | none => .stuck
    | some ρ1 => (mt ρ1).sbind fun q => if q.1 = true then (mi1 q.2).sbind fun p => (dcL t1 vs1 mt1 mk mv p.1 acc (wipeE p.2 vs1)).sbind fun r => dcL2 tg own mt mi1 t1 vs1 mt1 mk mv ds r.1 (wipeE r.2 own) else dcL2 tg own mt mi1 t1 vs1 mt1 mk mv ds acc (wipeE q.2 own) := rfl
  show wX (dcL2 tg own mt mi1 t1 vs1 mt1 mk mv (d :: ds) acc ρ) _ _ = _
  rw [e]
  cases bindT tg d ρ with
  | none => rfl
  | some ρ1 =>
    simp only [wO_some]
    rw [wX_sbind]
    show _ = wX (mt ρ1) _ E0
    congr 1
    funext p
    obtain ⟨b, ρ2⟩ := p
    cases b with
    | false => simp only [wIf_false, Bool.false_eq_true, if_false]; rfl
    | true =>
      simp only [wIf_true, if_true]; rw [wX_sbind]
      show _ = wX (mi1 ρ2) _ E0
      congr 1
      funext p
      rw [wX_sbind]
      rfl
end
end P0
end VL
end

section
set_option Elab.async false
set_option linter.all false
set_option maxRecDepth 100000
set_option maxHeartbeats 4000000
namespace VL
open PySem PySem.Spec PyProof.Rows L2
set_option autoImplicit false
namespace P0
section
variable {E : XE} {ρ : Env} {ma mb mc md : M D}
theorem w_setV {Q : Fl → Env → Prop} (i : Nat) (d : D) : wM (mSetV i mb d) ρ Q E = wO (lstAt ρ i) fun _ => wM mb ρ (fun k ρ2 => wO (lstAt ρ2 i) fun ds => wO (setI ds d k) fun l => Q .nx (ρ2.set i (some (.list l)))) E := by
  unfold wM mSetV
  cases lstAt ρ i with
  | none => rfl
  | some _ =>
    simp only [wO_some]
    rw [wX_bind]
    congr 1
    funext q
    obtain ⟨d, ρ1⟩ := q
    try dsimp only
    cases h : lstAt ρ1 i with
    | none => cases d <;> simp only [h] <;> rfl
    | some ds =>
      cases d <;> simp only [h, wO_some] <;> try rfl
      next k => simp only [setI]; cases ixN ds.length k <;> rfl
theorem w_parIx {Q : Fl → Env → Prop} (i j : Nat) : wM (mParIx i mc j md (mCons ma (mCons mb mNil))) ρ Q E = wM ma ρ (fun x ρ1 => wM mb ρ1 (fun y ρ2 => wM (mSetV i mc x) ρ2 (fun _ ρ3 => wM (mSetV j md y) ρ3 Q E) E) E) E := by
  unfold mParIx
  simp only [w_bind, w_cons, w_nil]
  congr 1
  funext x ρ1
  congr 1
  funext y ρ2
  unfold wM
  rw [wX_bind]
end
end P0
end VL
end

section
set_option Elab.async false
set_option linter.all false
set_option maxRecDepth 100000
set_option maxHeartbeats 4000000
namespace VL
open PySem PySem.Spec PyProof.Rows L2
set_option autoImplicit false
namespace P0
section
variable {E : XE} {ρ : Env} {me : M D} {mf : M Fl}
theorem w_raise1 {Q : Fl → Env → Prop} (c : Nat) : wM (mRaise1 c me) ρ Q E = wM me ρ (fun d ρ1 => E c [d] ρ1) E := by
  unfold wM mRaise1 M.bind
  rw [wX_bind]
  rfl
theorem w_raise0 {Q : Fl → Env → Prop} (c : Nat) : wM (mRaise0 c) ρ Q E = E c [] ρ := rfl
theorem w_try {Q : Fl → Env → Prop} (l : List ClM) : wM (mTry mf l) ρ Q E = wM mf ρ Q (fun c fs ρ1 => wM (runCl l c fs) ρ1 Q E) := by
  unfold wM mTry
  cases mf ρ <;> rfl
theorem w_cl0 {Q : Fl → Env → Prop} (c : Nat) (fs : List D) : wM (runCl [] c fs) ρ Q E = E c fs ρ := rfl
theorem w_clN {Q : Fl → Env → Prop} (c : Nat) (fs : List D) (t : Nat → Option Bool) (i : Nat) (m : M Fl) (r : List ClM) (h : t c = some false) : wM (runCl ((t, i, m) :: r) c fs) ρ Q E = wM (runCl r c fs) ρ Q E := by
  unfold wM
  show wX (match t c with
    | none => .stuck
    | some false => runCl r c fs ρ
    | some true => match xD c fs with
      | none => .stuck
      | some d => match m (ρ.set i (some d)) with
        | .ok p => .ok (p.1, p.2.set i none)
        | _ => .stuck) _ _ = _
  rw [h]
theorem w_clY {Q : Fl → Env → Prop} (c : Nat) (fs : List D) (t : Nat → Option Bool) (i : Nat) (m : M Fl) (r : List ClM) (h : t c = some true) : wM (runCl ((t, i, m) :: r) c fs) ρ Q E = wO (xD c fs) fun d => wM m (ρ.set i (some d)) (fun f ρ1 => Q f (ρ1.set i none)) E0 := by
  unfold wM
  show wX (match t c with
    | none => .stuck
    | some false => runCl r c fs ρ
    | some true => match xD c fs with
      | none => .stuck
      | some d => match m (ρ.set i (some d)) with
        | .ok p => .ok (p.1, p.2.set i none)
        | _ => .stuck) _ _ = _
  rw [h]
  cases xD c fs with
  | none => rfl
  | some d =>
    simp only [wO_some]
    cases m (ρ.set i (some d)) <;> rfl
theorem wX_exc_eq {α : Type} {r : R α} {c : Nat} {fs : List D} {ρ : Env} (h : wX r (fun _ => False) (fun c' fs' ρ' => c' = c ∧ fs' = fs ∧ ρ' = ρ)) : r = .exc c fs ρ := by
  cases r with
  | ok b => exact h.elim
  | exc c fs ρ =>
    obtain ⟨rfl, rfl, rfl⟩ := h
    rfl
  | stuck => exact h.elim
end
end P0
theorem xD_0 (d : D) : xD 0 [d] = some (excD "NoName" [(.str "name", d)]) := rfl
theorem xD_1 (d : D) : xD 1 [d] = some (excD "NoPlace" [(.str "place", d)]) := rfl
theorem xD_2 (d : D) : xD 2 [d] = some (excD "NoNumber" [(.str "number", d)]) := rfl
theorem xD_3 : xD 3 [] = some (excD "NothingDone" []) := rfl
theorem xD_4 : xD 4 [] = some (excD "NoValues" []) := rfl
theorem xD_5 : xD 5 [] = some (excD "StartKnown" []) := rfl
theorem xD_6 (d : D) : xD 6 [d] = some (excD "Twice" [(.str "name", d)]) := rfl
theorem gIs_x (nm : Str) (ps : List (D × D)) : gIs (excD nm ps) .none = some (.bool false) := rfl
theorem gIsn_x (nm : Str) (ps : List (D × D)) : gIsn (excD nm ps) .none = some (.bool true) := rfl
theorem slA1 : (([Sl.dat].all fun s => !s.m) = true) = True := by simp [Sl.m]
theorem slA2 : (([Sl.dat, Sl.dat].all fun s => !s.m) = true) = True := by simp [Sl.m]
theorem slA3 : (([Sl.dat, Sl.dat, Sl.dat].all fun s => !s.m) = true) = True := by simp [Sl.m]
theorem slA4 : (([Sl.dat, Sl.dat, Sl.dat, Sl.dat].all fun s => !s.m) = true) = True := by simp [Sl.m]
theorem gFld_x {nms : List Str} {nm f : Str} {d : D} (h : nms.contains nm = true) : gFld nms f (excD nm [(.str f, d)]) = some d := by
  show (if nms.contains nm = true then (if f = f then some d else none) else none) = _
  rw [if_pos h, if_pos rfl]
theorem gIsx_x {tab : Str → Option Bool} {nb : Option Bool} (nm : Str) (ps : List (D × D)) : gIsx tab nb (excD nm ps) = (tab nm).map .bool := rfl
end VL
end

section
set_option Elab.async false
set_option linter.all false
set_option maxRecDepth 100000
set_option maxHeartbeats 4000000
namespace VL
open PySem PySem.Spec PyProof.Rows L2
set_option autoImplicit false
namespace P0
section
variable {E : XE} {ρ : Env} {me : M D}
theorem w_mk1 {Q : D → Env → Prop} (c : Nat) : wM (mMk1 c me) ρ Q E = wM me ρ (fun d ρ1 => wO (xD c [d]) fun x => Q x ρ1) E := by
  unfold wM mMk1 M.bind
  rw [wX_bind]
  congr 1
  funext p
  show wX (match xD c [p.1] with
    | some x => .ok (x, p.2)
    | none => .stuck) _ E = wO (xD c [p.1]) _
  cases xD c [p.1] <;> rfl
theorem w_mk0 {Q : D → Env → Prop} (c : Nat) : wM (mMk0 c) ρ Q E = wO (xD c []) fun x => Q x ρ := by
  unfold wM mMk0
  cases xD c [] <;> rfl
end
end P0
end VL
end

section
set_option Elab.async false
set_option linter.all false
set_option maxRecDepth 100000
set_option maxHeartbeats 4000000
namespace VL
open PySem PySem.Spec PyProof.Rows L2
set_option autoImplicit false
section
variable {α β : Type} {E : XE} {ρ : Env} {m ma mb mc : M D} {ml : M (List D)} {t : M Bool}
theorem w_star {Q : List D → Env → Prop} : wM (mStar m ml) ρ Q E = wM m ρ (fun x ρ1 => wO (dItems x) fun xs => wM ml ρ1 (fun ys ρ2 => Q (xs ++ ys) ρ2) E) E := by with_unfolding_all first | exact P0.w_star | exact P0.w_star .. | (apply P0.w_star <;> assumption)
theorem w_tupS {Q : D → Env → Prop} : wM (mTupS ml) ρ Q E = wM ml ρ (fun ds ρ1 => ds.length ≤ sizeLine ∧ Q (.tuple ds) ρ1) E := by with_unfolding_all first | exact P0.w_tupS | exact P0.w_tupS .. | (apply P0.w_tupS <;> assumption)
theorem w_lstS {Q : D → Env → Prop} : wM (mLstS ml) ρ Q E = wM ml ρ (fun ds ρ1 => ds.length ≤ sizeLine ∧ Q (.list ds) ρ1) E := by with_unfolding_all first | exact P0.w_lstS | exact P0.w_lstS .. | (apply P0.w_lstS <;> assumption)
theorem w_star2 {Q : Fl → Env → Prop} (i j : Tg) : wM (mStar2 i j m) ρ Q E = wM m ρ (fun d ρ1 => wO (starT i j d ρ1) fun ρ2 => Q .nx ρ2) E := by with_unfolding_all first | exact P0.w_star2 | exact P0.w_star2 .. | (apply P0.w_star2 <;> assumption)
end
end VL
namespace VL
open PySem
section
variable {xs ys : List D} {i j : Int} {ρ : Env} {x : D}
theorem dItems_l : dItems (.list xs) = some xs := rfl
theorem dItems_t : dItems (.tuple xs) = some xs := rfl
theorem gCat_l (h : xs.length + ys.length ≤ 100000) : gCat (.list xs) (.list ys) = some (.list (xs ++ ys)) := if_pos (Nat.le_trans h sizeLine_ge)
theorem starT_c {a b : Tg} : starT a b (.tuple (x :: xs)) ρ = (bindT a x ρ).bind (bindT b (.list xs)) := rfl
theorem gRev_ll : gRevA (.list xs) = some (.list xs.reverse) := rfl
theorem gRev_tt : gRevA (.tuple xs) = some (.tuple xs.reverse) := rfl
theorem bindT_nm (i : Nat) (d : D) : bindT (.nm i) d ρ = some (List.set ρ i (some d)) := rfl
theorem bindT_tt (ts : List Tg) (ds : List D) : bindT (.tp ts) (.tuple ds) ρ = bindTs ts ds ρ := rfl
theorem bindT_tl (ts : List Tg) (ds : List D) : bindT (.tp ts) (.list ds) ρ = bindTs ts ds ρ := rfl
theorem bindTs_n : bindTs [] [] ρ = some ρ := rfl
theorem bindTs_c (t : Tg) (ts : List Tg) (d : D) (ds : List D) : bindTs (t :: ts) (d :: ds) ρ = (bindT t d ρ).bind fun ρ1 => bindTs ts ds ρ1 := rfl
end
end VL
end

section
set_option Elab.async false
set_option linter.all false
set_option maxRecDepth 100000
set_option maxHeartbeats 4000000
namespace VL
open PySem PySem.Spec PyProof.Rows L2
set_option autoImplicit false
section
variable {α β : Type} {E : XE} {ρ : Env} {m ma mb mc : M D} {ml : M (List D)} {t : M Bool}
theorem w_pkL {Q : D → Env → Prop} (g : D → D → Option D) (i : Nat) : wM (mPkL g i m) ρ Q E = wO (slotAt ρ i) fun _ => wM m ρ (fun y ρ1 => wO (slotAt ρ1 i) fun d => wO (g d y) fun c => wO (boolOf c) fun c => Q c ρ1) E := by with_unfolding_all first | exact P0.w_pkL | exact P0.w_pkL .. | (apply P0.w_pkL <;> assumption)
theorem w_pkR {Q : D → Env → Prop} (g : D → D → Option D) (i : Nat) : wM (mPkR g m i) ρ Q E = wM m ρ (fun y ρ1 => wO (slotAt ρ1 i) fun d => wO (g y d) fun c => wO (boolOf c) fun c => Q c ρ1) E := by with_unfolding_all first | exact P0.w_pkR | exact P0.w_pkR .. | (apply P0.w_pkR <;> assumption)
theorem w_lc2 {Q : D → Env → Prop} (tg : Tg) (own : List Nat) (mt : M Bool) (mi1 : M (List D)) (t1 : Tg) (vs1 : List Nat) (mt1 : M Bool) : wM (mLc2 tg own ml mt mi1 t1 vs1 mt1 m) ρ Q E = wM ml ρ (fun ds ρ1 => wM (lcL2 tg own mt mi1 t1 vs1 mt1 m ds []) (wipeE ρ1 own) (fun ys ρ2 => Q (.list ys) (backE ρ1 own ρ2)) E0) E := by with_unfolding_all first | exact P0.w_lc2 | exact P0.w_lc2 .. | (apply P0.w_lc2 <;> assumption)
theorem w_lcB_nil {Q : List D → Env → Prop} (tg : Tg) (own : List Nat) (mt : M Bool) (acc : List D) : wM (lcB tg own mt m [] acc) ρ Q E = Q acc ρ := by with_unfolding_all first | exact P0.w_lcB_nil | exact P0.w_lcB_nil .. | (apply P0.w_lcB_nil <;> assumption)
theorem w_lcL2_nil {Q : List D → Env → Prop} (tg : Tg) (own : List Nat) (mt : M Bool) (mi1 : M (List D)) (t1 : Tg) (vs1 : List Nat) (mt1 : M Bool) (acc : List D) : wM (lcL2 tg own mt mi1 t1 vs1 mt1 m [] acc) ρ Q E = Q acc ρ := by with_unfolding_all first | exact P0.w_lcL2_nil | exact P0.w_lcL2_nil .. | (apply P0.w_lcL2_nil <;> assumption)
theorem w_lcB_cons {Q : List D → Env → Prop} (tg : Tg) (own : List Nat) (mt : M Bool) (d : D) (ds acc : List D) : wM (lcB tg own mt m (d :: ds) acc) ρ Q E = wO (bindT tg d ρ) fun ρ1 => wM mt ρ1 (fun b ρ2 => wIf b (wM m ρ2 (fun x ρ3 => acc.length < sizeLine ∧ wM (lcB tg own mt m ds (acc ++ [x])) (wipeE ρ3 own) Q E) E0) (wM (lcB tg own mt m ds acc) (wipeE ρ2 own) Q E)) E0 := by with_unfolding_all first | exact P0.w_lcB_cons | exact P0.w_lcB_cons .. | (apply P0.w_lcB_cons <;> assumption)
theorem w_lcL2_cons {Q : List D → Env → Prop} (tg : Tg) (own : List Nat) (mt : M Bool) (mi1 : M (List D)) (t1 : Tg) (vs1 : List Nat) (mt1 : M Bool) (d : D) (ds acc : List D) : wM (lcL2 tg own mt mi1 t1 vs1 mt1 m (d :: ds) acc) ρ Q E = wO (bindT tg d ρ) fun ρ1 => wM mt ρ1 (fun b ρ2 => wIf b (wM mi1 ρ2 (fun es ρ3 => wM (lcB t1 vs1 mt1 m es acc) (wipeE ρ3 vs1) (fun ys ρ4 => wM (lcL2 tg own mt mi1 t1 vs1 mt1 m ds ys) (wipeE ρ4 own) Q E) E0) E0) (wM (lcL2 tg own mt mi1 t1 vs1 mt1 m ds acc) (wipeE ρ2 own) Q E)) E0 := by with_unfolding_all first | exact P0.w_lcL2_cons | exact P0.w_lcL2_cons .. | (apply P0.w_lcL2_cons <;> assumption)
end
section
variable {ρ : Env} {i : Nat} {d : D} {o : Option D} {b : Bool}
theorem slotAt_0 {ds : List D} : slotAt (some (.list ds) :: ρ) 0 = some (.list ds) := rfl
theorem slotAt_s : slotAt (o :: ρ) (i + 1) = slotAt ρ i := rfl
theorem boolOf_b : boolOf (.bool b) = some (.bool b) := rfl
end
end VL
end

section
set_option Elab.async false
set_option linter.all false
set_option maxRecDepth 100000
set_option maxHeartbeats 4000000
namespace VL
open PySem PySem.Spec PyProof.Rows L2
set_option autoImplicit false
section
variable {α β : Type} {E : XE} {ρ : Env} {m ma mb mc mk mv : M D} {ml : M (List D)} {t : M Bool}
theorem w_keysOf {Q : List D → Env → Prop} : wM (mKeysOf m) ρ Q E = wM m ρ (fun x ρ1 => wO (dKeys x) fun ds => Q ds ρ1) E := by with_unfolding_all first | exact P0.w_keysOf | exact P0.w_keysOf .. | (apply P0.w_keysOf <;> assumption)
theorem w_itmsOf {Q : List D → Env → Prop} : wM (mItmsOf m) ρ Q E = wM m ρ (fun x ρ1 => wO (dItms x) fun ds => Q ds ρ1) E := by with_unfolding_all first | exact P0.w_itmsOf | exact P0.w_itmsOf .. | (apply P0.w_itmsOf <;> assumption)
theorem w_get1 {Q : D → Env → Prop} : wM (mGet1 ma mb) ρ Q E = wM ma ρ (fun x ρ1 => wIf (dParse x).isSome (wM mb ρ1 (fun y ρ2 => wO (dGet x y) fun o => Q (o.getD .none) ρ2) E) False) E := by with_unfolding_all first | exact P0.w_get1 | exact P0.w_get1 .. | (apply P0.w_get1 <;> assumption)
theorem w_get2 {Q : D → Env → Prop} : wM (mGet2 ma mb mc) ρ Q E = wM ma ρ (fun x ρ1 => wIf (dParse x).isSome (wM mb ρ1 (fun y ρ2 => wM mc ρ2 (fun z ρ3 => wO (dGet x y) fun o => Q (o.getD z) ρ3) E) E) False) E := by with_unfolding_all first | exact P0.w_get2 | exact P0.w_get2 .. | (apply P0.w_get2 <;> assumption)
theorem w_dgetO {Q : D → Env → Prop} (i : Nat) : wM (mDGetO i mb) ρ Q E = wO (dicAt ρ i) fun _ => wM mb ρ (fun y ρ1 => wO (dicAt ρ1 i) fun d => wO (dGet d y) fun o => wO o fun z => Q z ρ1) E := by with_unfolding_all first | exact P0.w_dgetO | exact P0.w_dgetO .. | (apply P0.w_dgetO <;> assumption)
theorem w_dinO {Q : D → Env → Prop} (neg : Bool) (i : Nat) : wM (mDInO neg ma i) ρ Q E = wM ma ρ (fun y ρ1 => wO (dicAt ρ1 i) fun d => wO (dGet d y) fun o => Q (.bool (o.isSome != neg)) ρ1) E := by with_unfolding_all first | exact P0.w_dinO | exact P0.w_dinO .. | (apply P0.w_dinO <;> assumption)
theorem w_get1O {Q : D → Env → Prop} (i : Nat) : wM (mGet1O i mb) ρ Q E = wO (dicAt ρ i) fun d0 => wIf (dParse d0).isSome (wM mb ρ (fun y ρ1 => wO (dicAt ρ1 i) fun d => wO (dGet d y) fun o => Q (o.getD .none) ρ1) E) False := by with_unfolding_all first | exact P0.w_get1O | exact P0.w_get1O .. | (apply P0.w_get1O <;> assumption)
theorem w_get2O {Q : D → Env → Prop} (i : Nat) : wM (mGet2O i mb mc) ρ Q E = wO (dicAt ρ i) fun d0 => wIf (dParse d0).isSome (wM mb ρ (fun y ρ1 => wM mc ρ1 (fun z ρ2 => wO (dicAt ρ2 i) fun d => wO (dGet d y) fun o => Q (o.getD z) ρ2) E) E) False := by with_unfolding_all first | exact P0.w_get2O | exact P0.w_get2O .. | (apply P0.w_get2O <;> assumption)
theorem w_dput {Q : Fl → Env → Prop} (i : Nat) : wM (mDPut i ma mb) ρ Q E = wM ma ρ (fun v ρ1 => wO (dicAt ρ1 i) fun _ => wM mb ρ1 (fun k ρ2 => wO (dicAt ρ2 i) fun d => wO (dPut d k v) fun d' => Q .nx (ρ2.set i (some d'))) E) E := by with_unfolding_all first | exact P0.w_dput | exact P0.w_dput .. | (apply P0.w_dput <;> assumption)
theorem w_callD {Q : D → Env → Prop} (fn : Fn) : wM (mCallD fn ml) ρ Q E = wM ml ρ (fun ds ρ1 => wX (fn (ds ++ [.tuple []])) (fun p => p.2 = [] ∧ Q p.1 ρ1) (fun c fs _ => E c fs ρ1)) E := by with_unfolding_all first | exact P0.w_callD | exact P0.w_callD .. | (apply P0.w_callD <;> assumption)
theorem w_dc {Q : D → Env → Prop} (d0 : D) (tg : Tg) (own : List Nat) (mt : M Bool) : wM (mDc d0 tg own ml mt mk mv) ρ Q E = wM ml ρ (fun ds ρ1 => wM (dcL tg own mt mk mv ds d0) (wipeE ρ1 own) (fun ys ρ2 => Q ys (backE ρ1 own ρ2)) E0) E := by with_unfolding_all first | exact P0.w_dc | exact P0.w_dc .. | (apply P0.w_dc <;> assumption)
theorem w_dc2 {Q : D → Env → Prop} (d0 : D) (tg : Tg) (own : List Nat) (mt : M Bool) (mi1 : M (List D)) (t1 : Tg) (vs1 : List Nat) (mt1 : M Bool) : wM (mDc2 d0 tg own ml mt mi1 t1 vs1 mt1 mk mv) ρ Q E = wM ml ρ (fun ds ρ1 => wM (dcL2 tg own mt mi1 t1 vs1 mt1 mk mv ds d0) (wipeE ρ1 own) (fun ys ρ2 => Q ys (backE ρ1 own ρ2)) E0) E := by with_unfolding_all first | exact P0.w_dc2 | exact P0.w_dc2 .. | (apply P0.w_dc2 <;> assumption)
theorem w_dcL_nil {Q : D → Env → Prop} (tg : Tg) (own : List Nat) (mt : M Bool) (acc : D) : wM (dcL tg own mt mk mv [] acc) ρ Q E = Q acc ρ := by with_unfolding_all first | exact P0.w_dcL_nil | exact P0.w_dcL_nil .. | (apply P0.w_dcL_nil <;> assumption)
theorem w_dcL2_nil {Q : D → Env → Prop} (tg : Tg) (own : List Nat) (mt : M Bool) (mi1 : M (List D)) (t1 : Tg) (vs1 : List Nat) (mt1 : M Bool) (acc : D) : wM (dcL2 tg own mt mi1 t1 vs1 mt1 mk mv [] acc) ρ Q E = Q acc ρ := by with_unfolding_all first | exact P0.w_dcL2_nil | exact P0.w_dcL2_nil .. | (apply P0.w_dcL2_nil <;> assumption)
theorem w_dcL_cons {Q : D → Env → Prop} (tg : Tg) (own : List Nat) (mt : M Bool) (d : D) (ds : List D) (acc : D) : wM (dcL tg own mt mk mv (d :: ds) acc) ρ Q E = wO (bindT tg d ρ) fun ρ1 => wM mt ρ1 (fun b ρ2 => wIf b (wM mk ρ2 (fun k ρ3 => wM mv ρ3 (fun v ρ4 => wO (dPut acc k v) fun acc' => wM (dcL tg own mt mk mv ds acc') (wipeE ρ4 own) Q E) E0) E0) (wM (dcL tg own mt mk mv ds acc) (wipeE ρ2 own) Q E)) E0 := by with_unfolding_all first | exact P0.w_dcL_cons | exact P0.w_dcL_cons .. | (apply P0.w_dcL_cons <;> assumption)
theorem w_dcL2_cons {Q : D → Env → Prop} (tg : Tg) (own : List Nat) (mt : M Bool) (mi1 : M (List D)) (t1 : Tg) (vs1 : List Nat) (mt1 : M Bool) (d : D) (ds : List D) (acc : D) : wM (dcL2 tg own mt mi1 t1 vs1 mt1 mk mv (d :: ds) acc) ρ Q E = wO (bindT tg d ρ) fun ρ1 => wM mt ρ1 (fun b ρ2 => wIf b (wM mi1 ρ2 (fun es ρ3 => wM (dcL t1 vs1 mt1 mk mv es acc) (wipeE ρ3 vs1) (fun ys ρ4 => wM (dcL2 tg own mt mi1 t1 vs1 mt1 mk mv ds ys) (wipeE ρ4 own) Q E) E0) E0) (wM (dcL2 tg own mt mi1 t1 vs1 mt1 mk mv ds acc) (wipeE ρ2 own) Q E)) E0 := by with_unfolding_all first | exact P0.w_dcL2_cons | exact P0.w_dcL2_cons .. | (apply P0.w_dcL2_cons <;> assumption)
end
section
variable {ρ : Env} {i : Nat} {d : D} {o : Option D} {b : Bool} {ds : List (D × D)}
theorem dicAt_0 : dicAt (some (.dict ds) :: ρ) 0 = some (.dict ds) := rfl
theorem dicAt_s : dicAt (o :: ρ) (i + 1) = dicAt ρ i := rfl
theorem dicAt_K {l : List (Key × D)} : dicAt (some (dK l) :: ρ) 0 = some (dK l) := rfl
theorem dicAt_T {l : List (List Key × D)} : dicAt (some (dT l) :: ρ) 0 = some (dT l) := rfl
theorem dGet_K {l : List (Key × D)} {y : D} {k : Key} (h : keyK y = some k) : dGet (dK l) y = some (valD l k) := by
  unfold dGet
  rw [dParse_K]
  simp only [h, Option.map_some]
theorem dGet_T {l : List (List Key × D)} {y : D} {k : List Key} (h : keyT1 y = some k) : dGet (dT l) y = some (valD l k) := by
  unfold dGet
  rw [dParse_T]
  simp only [h, Option.map_some]
theorem dPut_K {l : List (Key × D)} {y z : D} {k : Key} (h : keyK y = some k) (hl : l.length < 100000) : dPut (dK l) y z = some (dK (putD l k z)) := by
  unfold dPut
  rw [dParse_K]
  simp only [h, Option.map_some, if_pos (show l.length < sizeLine by rw [PySem.sizeLine_eq]; omega)]
theorem dPut_T {l : List (List Key × D)} {y z : D} {k : List Key} (h : keyT1 y = some k) (hl : l.length < 100000) : dPut (dT l) y z = some (dT (putD l k z)) := by
  unfold dPut
  rw [dParse_T]
  simp only [h, Option.map_some, if_pos (show l.length < sizeLine by rw [PySem.sizeLine_eq]; omega)]
theorem gIxD_K {l : List (Key × D)} {y : D} {k : Key} (h : keyK y = some k) : gIxD (dK l) y = valD l k := by
  unfold gIxD
  rw [dParse_K, dGet_K h]
  rfl
theorem gIxD_T {l : List (List Key × D)} {y : D} {k : List Key} (h : keyT1 y = some k) : gIxD (dT l) y = valD l k := by
  unfold gIxD
  rw [dParse_T, dGet_T h]
  rfl
theorem dPs_K {l : List (Key × D)} : (dParse (dK l)).isSome = true := by rw [dParse_K]; rfl
theorem dPs_T {l : List (List Key × D)} : (dParse (dT l)).isSome = true := by rw [dParse_T]; rfl
theorem dGet_T2 {l : List (List Key × D)} (a b : Str) : dGet (dT l) (.tuple [.str a, .str b]) = some (valD l [.inr a, .inr b]) := dGet_T rfl
theorem dGet_Ks {l : List (Key × D)} (a : Str) : dGet (dK l) (.str a) = some (valD l (.inr a)) := dGet_K rfl
theorem gIxD_T2 {l : List (List Key × D)} (a b : Str) : gIxD (dT l) (.tuple [.str a, .str b]) = valD l [.inr a, .inr b] := gIxD_T rfl
theorem gIxD_Ks {l : List (Key × D)} (a : Str) : gIxD (dK l) (.str a) = valD l (.inr a) := gIxD_K rfl
theorem dPut_T2 {l : List (List Key × D)} (a b : Str) (z : D) (hl : l.length < 100000) : dPut (dT l) (.tuple [.str a, .str b]) z = some (dT (putD l [.inr a, .inr b] z)) := dPut_T rfl hl
theorem dPut_Ks {l : List (Key × D)} (a : Str) (z : D) (hl : l.length < 100000) : dPut (dK l) (.str a) z = some (dK (putD l (.inr a) z)) := dPut_K rfl hl
end
end VL
end

section
set_option Elab.async false
set_option linter.all false
set_option maxRecDepth 100000
set_option maxHeartbeats 4000000
namespace VL
open PySem PySem.Spec PyProof.Rows L2
set_option autoImplicit false
section
variable {E : XE} {ρ : Env} {ma mb mc md : M D}
theorem w_setV {Q : Fl → Env → Prop} (i : Nat) (d : D) : wM (mSetV i mb d) ρ Q E = wO (lstAt ρ i) fun _ => wM mb ρ (fun k ρ2 => wO (lstAt ρ2 i) fun ds => wO (setI ds d k) fun l => Q .nx (ρ2.set i (some (.list l)))) E := by with_unfolding_all first | exact P0.w_setV | exact P0.w_setV .. | (apply P0.w_setV <;> assumption)
theorem w_parIx {Q : Fl → Env → Prop} (i j : Nat) : wM (mParIx i mc j md (mCons ma (mCons mb mNil))) ρ Q E = wM ma ρ (fun x ρ1 => wM mb ρ1 (fun y ρ2 => wM (mSetV i mc x) ρ2 (fun _ ρ3 => wM (mSetV j md y) ρ3 Q E) E) E) E := by with_unfolding_all first | exact P0.w_parIx | exact P0.w_parIx .. | (apply P0.w_parIx <;> assumption)
end
end VL
end

section
set_option Elab.async false
set_option linter.all false
set_option maxRecDepth 100000
set_option maxHeartbeats 4000000
namespace VL
open PySem PySem.Spec PyProof.Rows L2
set_option autoImplicit false
section
variable {E : XE} {ρ : Env} {me : M D} {mf : M Fl}
theorem w_raise1 {Q : Fl → Env → Prop} (c : Nat) : wM (mRaise1 c me) ρ Q E = wM me ρ (fun d ρ1 => E c [d] ρ1) E := by with_unfolding_all first | exact P0.w_raise1 | exact P0.w_raise1 .. | (apply P0.w_raise1 <;> assumption)
theorem w_raise0 {Q : Fl → Env → Prop} (c : Nat) : wM (mRaise0 c) ρ Q E = E c [] ρ := by with_unfolding_all first | exact P0.w_raise0 | exact P0.w_raise0 .. | (apply P0.w_raise0 <;> assumption)
theorem w_try {Q : Fl → Env → Prop} (l : List ClM) : wM (mTry mf l) ρ Q E = wM mf ρ Q (fun c fs ρ1 => wM (runCl l c fs) ρ1 Q E) := by with_unfolding_all first | exact P0.w_try | exact P0.w_try .. | (apply P0.w_try <;> assumption)
theorem w_cl0 {Q : Fl → Env → Prop} (c : Nat) (fs : List D) : wM (runCl [] c fs) ρ Q E = E c fs ρ := by with_unfolding_all first | exact P0.w_cl0 | exact P0.w_cl0 .. | (apply P0.w_cl0 <;> assumption)
theorem w_clN {Q : Fl → Env → Prop} (c : Nat) (fs : List D) (t : Nat → Option Bool) (i : Nat) (m : M Fl) (r : List ClM) (h : t c = some false) : wM (runCl ((t, i, m) :: r) c fs) ρ Q E = wM (runCl r c fs) ρ Q E := by with_unfolding_all first | exact P0.w_clN | exact P0.w_clN .. | (apply P0.w_clN <;> assumption)
theorem w_clY {Q : Fl → Env → Prop} (c : Nat) (fs : List D) (t : Nat → Option Bool) (i : Nat) (m : M Fl) (r : List ClM) (h : t c = some true) : wM (runCl ((t, i, m) :: r) c fs) ρ Q E = wO (xD c fs) fun d => wM m (ρ.set i (some d)) (fun f ρ1 => Q f (ρ1.set i none)) E0 := by with_unfolding_all first | exact P0.w_clY | exact P0.w_clY .. | (apply P0.w_clY <;> assumption)
theorem wX_exc_eq {α : Type} {r : R α} {c : Nat} {fs : List D} {ρ : Env} (h : wX r (fun _ => False) (fun c' fs' ρ' => c' = c ∧ fs' = fs ∧ ρ' = ρ)) : r = .exc c fs ρ := by with_unfolding_all first | exact P0.wX_exc_eq | exact P0.wX_exc_eq .. | (apply P0.wX_exc_eq <;> assumption)
end
end VL
end

section
set_option Elab.async false
set_option linter.all false
set_option maxRecDepth 100000
set_option maxHeartbeats 4000000
namespace VL
open PySem PySem.Spec PyProof.Rows L2
set_option autoImplicit false
section
variable {E : XE} {ρ : Env} {me : M D}
theorem w_mk1 {Q : D → Env → Prop} (c : Nat) : wM (mMk1 c me) ρ Q E = wM me ρ (fun d ρ1 => wO (xD c [d]) fun x => Q x ρ1) E := by with_unfolding_all first | exact P0.w_mk1 | exact P0.w_mk1 .. | (apply P0.w_mk1 <;> assumption)
theorem w_mk0 {Q : D → Env → Prop} (c : Nat) : wM (mMk0 c) ρ Q E = wO (xD c []) fun x => Q x ρ := by with_unfolding_all first | exact P0.w_mk0 | exact P0.w_mk0 .. | (apply P0.w_mk0 <;> assumption)
end
end VL
end

section
set_option Elab.async false
set_option linter.all false
set_option maxRecDepth 100000
set_option maxHeartbeats 4000000
namespace VL
open PySem PySem.Spec PyProof.Rows L2
set_option autoImplicit false
/-! ### defs handed on, and called by a local name -/
/-- the def of that name stands in the module -/
def FnK (K : PySem.W.Frag) (mg : Str → Option Value) (nm : Str) : Prop := ClsN K nm (He.ga K nm) ∧ mg nm = some (.ref (He.ga K nm))
/-- what the local name may hold, and what is called then -/
def fnAt : Option (Option D) → List (Str × Fn) → Option Fn
  | some (some (.dict [(.none, .tuple [.str nm])])), tab => tab.lookup nm
  | _, _ => none
def mCallL (tab : List (Str × Fn)) (i n : Nat) (m : M (List D)) : M D := fun ρ => match fnAt ρ[i]? tab with
  | some fn => mCallF fn (List.replicate n .dat) m ρ
  | none => .stuck
inductive TabF (P : Program) (w : World) (K : PySem.W.Frag) (mg : Str → Option Value) (base : Heap) (B : Eb) (k n : Nat) : List (Str × Fn) → Prop
  | nil : TabF P w K mg base B k n []
  | cons {k' : Nat} {nm : Str} {st : Stmt} {ps : List Str} {fn : Fn} {tab : List (Str × Fn)} : Cal P w K mg base B k' nm st ps (List.replicate n false) false fn → FnK K mg nm → k' ≤ k → TabF P w K mg base B k n tab → TabF P w K mg base B k n ((nm, fn) :: tab)
theorem TabF.get {P : Program} {w : World} {K : PySem.W.Frag} {mg : Str → Option Value} {base : Heap} {B : Eb} {k n : Nat} : ∀ {tab : List (Str × Fn)}, TabF P w K mg base B k n tab → ∀ {nm : Str} {fn : Fn}, tab.lookup nm = some fn →
    ∃ st ps, Cal P w K mg base B k nm st ps (List.replicate n false) false fn ∧ FnK K mg nm
  | _, .nil, _, _, h => by cases h
  | _, @TabF.cons _ _ _ _ _ _ _ _ k' nm' st ps fn' tab c f hk r, nm, fn, h => by
    by_cases e : (nm == nm') = true
    · have e' := eq_of_beq e
      subst e'
      rw [List.lookup_cons, e] at h
      cases h
      exact ⟨st, ps, c.mono hk, f⟩
    · rw [List.lookup_cons, Bool.not_eq_true _ |>.mp e] at h
      exact r.get h
section
variable {X : Cx} {B : Eb} {G : Gd} {Γ : Gm} {E : Wish} {Ps O : List Nat} {Ek : XK} {k n : Nat} {x : Str} {p pos : Pos} {e : Expr} {es : List Expr} {m : M (List D)} {tab : List (Str × Fn)}
end
end VL
end

section
set_option Elab.async false
set_option linter.all false
set_option maxRecDepth 100000
set_option maxHeartbeats 4000000
namespace VL
open PySem PySem.Spec PyProof.Rows L2
set_option autoImplicit false
/-! ### a call of what an expression gives: a def out of a display of defs -/
def mCallE (tab : List (Str × Fn)) (n : Nat) (mf : M D) (m : M (List D)) : M D := mf.bind fun d => match fnAt (some (some d)) tab with
  | some fn => mCallF fn (List.replicate n .dat) m
  | none => fun _ => .stuck
section
variable {X : Cx} {CX : CXT} {k : Nat} {E : XK} {pos : Pos} {ce e : Expr} {es : List Expr} {t : TA} {tc : TE}
end
section
variable {X : Cx} {B : Eb} {G : Gd} {Ps O : List Nat} {Ek : XK} {k n : Nat} {pos : Pos} {ce e : Expr} {es : List Expr} {mf : M D} {m : M (List D)} {tab : List (Str × Fn)}
end
/-! ### d[k], f[l] = x, y of one's own -/
def mDPutV (i : Nat) (mi : M D) (d : D) : M Fl := fun ρ => match dicAt ρ i with
  | none => .stuck
  | some _ => (mi ρ).bind fun q => match dicAt q.2 i with
    | none => .stuck
    | some ds => match dPut ds q.1 d with
      | some ds' => .ok (.nx, q.2.set i (some ds'))
      | none => .stuck
def mParD (i : Nat) (mi : M D) (j : Nat) (mj : M D) (m : M (List D)) : M Fl := m.bind fun ds => match ds with
  | [d1, d2] => fun ρ => (mDPutV i mi d1 ρ).bind fun p => mDPutV j mj d2 p.2
  | _ => fun _ => .stuck
section
variable {X : Cx} {B : Eb} {G : Gd} {Ps O Ol : List Nat} {E : Wish} {ro : Bool} {a b ix jx : Expr} {m : M (List D)} {mi mj : M D} {pos : Pos}
end
/-! ### sorted(d) of one's own dict with tuple keys, which stays one's own -/
section
variable {X : Cx} {pins : List (Addr × Obj)} {σ : St} {H : Hp} {s : Shared}
end
section
variable {X : Cx} {B : Eb} {Γ : Gm} {E : Wish} {e : Expr} {pos p px : Pos}
def isT (x : D) : Bool := match dParse x with
  | some (.inr _) => true
  | _ => false
def mSortO (i : Nat) : M D := fun ρ => match dicAt ρ i with
  | some x => if isT x = true then match cSortD [x] with
    | some d => .ok (d, ρ)
    | none => .stuck
    else .stuck
  | none => .stuck
end
/-! ### isinstance of None -/
end VL
end

section
set_option Elab.async false
set_option linter.all false
set_option maxRecDepth 100000
set_option maxHeartbeats 4000000
namespace VL
open PySem PySem.Spec PyProof.Rows L2
set_option autoImplicit false
/-! ### lists in a list that grow at their end: the loop of `blocks` -/
section
variable {X : Cx} {i j : Nat} {x y : Str} {E : Wish}
theorem atI_last (us : List V) (v : V) : L2.atI (us ++ [v]) (-1) = some v := by
  unfold L2.atI ixN
  rw [List.length_append, List.length_singleton, if_neg (by omega), if_pos (by omega)]
  have e : ((-1 : Int) + ((us.length + 1 : Nat) : Int)).toNat = us.length := by omega
  show (us ++ [v])[((-1 : Int) + ((us.length + 1 : Nat) : Int)).toNat]? = some v
  rw [e]
  simp
end
end VL
end

section
set_option Elab.async false
set_option linter.all false
set_option maxRecDepth 100000
set_option maxHeartbeats 4000000
namespace VL
open PySem PySem.Spec PyProof.Rows L2
set_option autoImplicit false
/-! ### the loop of `blocks`, by value -/
def keyB : D → Option Str
  | .tuple (.str k :: _) => some k
  | _ => none
def blkS (L : List (List D)) (d : D) : Option (List (List D)) := match keyB d with
  | none => none
  | some k => match L.getLast? with
    | none => some [[d]]
    | some [] => none
    | some (d0 :: r) => match keyB d0 with
      | none => none
      | some k1 => if k1 = k then some (L.dropLast ++ [d0 :: r ++ [d]]) else some (L ++ [[d]])
def blkL : List D → List (List D) → Option (List (List D))
  | [], L => some L
  | d :: ds, L => (blkS L d).bind (blkL ds)
def envB (ρ : Env) (j : Nat) (ds : List D) : Env := match ds.getLast? with
  | some d => ρ.set j (some d)
  | none => ρ
def mBlk (i j : Nat) (mi : M (List D)) : M Fl := mi.bind fun ds => fun ρ => match lstAt ρ i with
  | some [] => if ds.length < sizeLine ∧ j < ρ.length then match blkL ds [] with
      | some L => .ok (.nx, (envB ρ j ds).set i (some (.list (L.map .list))))
      | none => .stuck
    else .stuck
  | _ => .stuck
section
variable {K : PySem.W.Frag} {F : Fz} {H : Hp}
theorem rel_mut0 {G : Gd} {ρ : Env} {σ : St} {c : Addr} {xs ys : List V} (r : Rel K (G.w [] []) F ρ σ H) (nf : ¬ F c) (h0 : G.H0 c = none) (hc : H c = some (.lst xs)) :
    Rel K (G.w [] []) F ρ σ (upd H c (.lst ys)) ∧ Grow F H F (upd H c (.lst ys)) := by
  have g : Grow F H F (upd H c (.lst ys)) := .upd nf hc trivial
  refine ⟨⟨r.len, fun b hb => ?_, fun i d h n => ?_, fun i d h n => (List.not_mem_nil n).elim, fun i j a d e hi => (List.not_mem_nil hi).elim, fun i a h => (List.not_mem_nil h).elim, fun b o h hp => ?_, r.fro, r.frm, fun j hj => (List.not_mem_nil hj).elim⟩, g⟩
  · obtain ⟨o, ho⟩ := r.trk b hb
    exact ⟨o, by rw [upd_ne (show b ≠ c from fun z => nf (z ▸ hb))]; exact ho⟩
  · obtain ⟨v, h1, h2⟩ := r.val i d h n
    exact ⟨v, h1, h2.grow g⟩
  · rw [upd_ne (fun z => by rw [z] at h; rw [show (G.w [] []).H0 c = G.H0 c from rfl, h0] at h; cases h)]
    exact r.ext b o h hp
end
/-- the blocks so far: the list at a holds the lists at bs, which nothing else holds -/
structure Blk (K : PySem.W.Frag) (G : Gd) (i : Nat) (F1 : Fz) (H1 : Hp) (F : Fz) (ρ : Env) (σ : St) (H : Hp) (a : Addr) (bs : List Addr) (L : List (List D)) (m : Nat) : Prop where
  rel : Rel K (G.w [] []) F (ρ.set i none) σ H
  grow : Grow F1 H1 F H
  sl : σ[i]? = some (some (.ref a))
  ha : H a = some (.lst (bs.map V.ref))
  nfa : ¬ F a
  h0a : G.H0 a = none
  nd : (a :: bs).Nodup
  nfb : ∀ b ∈ bs, ¬ F b ∧ G.H0 b = none
  len : bs.length = L.length
  at' : ∀ (k : Nat) (b : Addr) (l : List D), bs[k]? = some b → L[k]? = some l → ∃ xs, H b = some (.lst xs) ∧ DqAll K F H xs l
  le : L.length ≤ m
  les : ∀ l ∈ L, l.length ≤ m
section
variable {K : PySem.W.Frag} {G : Gd} {i j : Nat} {F1 : Fz} {H1 : Hp}
theorem Blk.ext {F F2 : Fz} {ρ : Env} {σ : St} {H H2 : Hp} {a : Addr} {bs : List Addr} {L : List (List D)} {m : Nat} (h : Blk K G i F1 H1 F ρ σ H a bs L m) (e : Ext F H F2 H2) : Blk K G i F1 H1 F2 ρ σ H2 a bs L m where
  rel := h.rel.to e
  grow := h.grow.trans (e.grow h.rel.trk)
  sl := h.sl
  ha := e.same _ _ h.ha
  nfa := fun z => by
    rcases e.new _ z with z | z
    · exact h.nfa z
    · rw [h.ha] at z; cases z
  h0a := h.h0a
  nd := h.nd
  nfb := fun b hb => by
    refine ⟨fun z => ?_, (h.nfb b hb).2⟩
    rcases e.new _ z with z | z
    · exact (h.nfb b hb).1 z
    · obtain ⟨k, hk⟩ := List.getElem?_of_mem hb
      have hk' : k < L.length := by rw [← h.len]; exact (List.getElem?_eq_some_iff.mp hk).1
      obtain ⟨xs, h1, _⟩ := h.at' k b _ hk (List.getElem?_eq_getElem hk')
      rw [h1] at z; cases z
  len := h.len
  at' := fun k b l h1 h2 => by
    obtain ⟨xs, q1, q2⟩ := h.at' k b l h1 h2
    exact ⟨xs, e.same _ _ q1, q2.grow (e.grow h.rel.trk)⟩
  le := h.le
  les := h.les
theorem Blk.set {F : Fz} {ρ : Env} {σ : St} {H : Hp} {a : Addr} {bs : List Addr} {L : List (List D)} {m : Nat} {v : V} {d : D} (h : Blk K G i F1 H1 F ρ σ H a bs L m) (hij : i ≠ j) (q : Dq K F H v d) : Blk K G i F1 H1 F (ρ.set j (some d)) (σ.set j (some v)) H a bs L m where
  rel := by
    have := h.rel.setD (i := j) q (fun a z => (List.not_mem_nil z).elim)
    rw [List.set_comm _ _ hij] at this
    exact this
  grow := h.grow
  sl := by rw [List.getElem?_set_ne hij.symm]; exact h.sl
  ha := h.ha
  nfa := h.nfa
  h0a := h.h0a
  nd := h.nd
  nfb := h.nfb
  len := h.len
  at' := h.at'
  le := h.le
  les := h.les
/-- a new block -/
theorem Blk.new {F : Fz} {ρ : Env} {σ : St} {H : Hp} {a p : Addr} {bs : List Addr} {L : List (List D)} {m : Nat} {v : V} {d : D} (h : Blk K G i F1 H1 F ρ σ H a bs L m) (np : H p = none) (q : Dq K F H v d) :
    Blk K G i F1 H1 F ρ σ (upd (upd H p (.lst [v])) a (.lst (bs.map V.ref ++ [.ref p]))) a (bs ++ [p]) (L ++ [[d]]) (m + 1) := by
  have ex := Ext.laid (o := .lst [v]) h.rel.trk np
  have h' := h.ext ex
  have hpa : p ≠ a := fun z => by rw [z, h.ha] at np; cases np
  have h0p : G.H0 p = none := h.rel.h0 np
  have hpb : ∀ b ∈ bs, b ≠ p := fun b hb z => by
    obtain ⟨k, hk⟩ := List.getElem?_of_mem hb
    have hk' : k < L.length := by rw [← h.len]; exact (List.getElem?_eq_some_iff.mp hk).1
    obtain ⟨xs, h1, _⟩ := h.at' k b _ hk (List.getElem?_eq_getElem hk')
    rw [z, np] at h1; cases h1
  obtain ⟨r2, g2⟩ := rel_mut0 (ys := bs.map V.ref ++ [.ref p]) h'.rel h'.nfa h'.h0a h'.ha
  have hba : ∀ b ∈ bs, b ≠ a := fun b hb z => by
    have := h.nd
    rw [List.nodup_cons] at this
    exact this.1 (z ▸ hb)
  have hp : (upd (upd H p (.lst [v])) a (.lst (bs.map V.ref ++ [.ref p]))) p = some (.lst [v]) := by rw [upd_ne hpa]; exact upd_same
  refine ⟨r2, h'.grow.trans g2, h.sl, by rw [List.map_append]; exact upd_same, h'.nfa, h.h0a, ?_, fun b hb => ?_, by simp [h.len], fun k c l h1 h2 => ?_, by have := h.le; rw [List.length_append, List.length_singleton]; omega, fun l hl => ?_⟩
  · have := h.nd
    rw [List.nodup_cons] at this ⊢
    refine ⟨fun z => ?_, ?_⟩
    · rcases List.mem_append.mp z with z | z
      · exact this.1 z
      · exact hpa (List.mem_singleton.mp z).symm
    · rw [List.nodup_append]
      exact ⟨this.2, by simp, fun b hb c hc z => hpb b hb (z.trans (List.mem_singleton.mp hc))⟩
  · rcases List.mem_append.mp hb with hb | hb
    · exact h'.nfb b hb
    · rw [List.mem_singleton.mp hb]
      refine ⟨fun z => ?_, h0p⟩
      obtain ⟨o, ho⟩ := h.rel.trk p z
      rw [np] at ho
      cases ho
  · by_cases c1 : k < bs.length
    · rw [List.getElem?_append_left c1] at h1
      have c2 : k < L.length := by rw [← h.len]; exact c1
      rw [List.getElem?_append_left c2] at h2
      obtain ⟨ys, q1, q2⟩ := h'.at' k c l h1 h2
      exact ⟨ys, by rw [upd_ne (hba c (List.mem_of_getElem? h1))]; exact q1, q2.grow g2⟩
    · have hk : k = bs.length := by
        have := (List.getElem?_eq_some_iff.mp h1).1
        rw [List.length_append, List.length_singleton] at this
        omega
      subst hk
      rw [List.getElem?_append_right (Nat.le_refl _), Nat.sub_self] at h1
      rw [h.len, List.getElem?_append_right (Nat.le_refl _), Nat.sub_self] at h2
      cases h1
      cases h2
      exact ⟨_, hp, .cons ((q.grow (ex.grow h.rel.trk)).grow g2) .nil⟩
  · rcases List.mem_append.mp hl with h1 | h1
    · have := h.les l h1; omega
    · rw [List.mem_singleton.mp h1, List.length_singleton]; omega
/-- the end: all is frozen -/
theorem Blk.fin {F : Fz} {ρ : Env} {σ : St} {H : Hp} {a : Addr} {bs : List Addr} {L : List (List D)} {m : Nat} (h : Blk K G i F1 H1 F ρ σ H a bs L m) : ∃ F', Rel K (G.w [] []) F' (ρ.set i (some (.list (L.map .list)))) σ H ∧ Grow F1 H1 F' H := by
  have g : Grow F H (fun b => F b ∨ b = a ∨ b ∈ bs) H := ⟨fun b hb => ⟨.inl hb, rfl⟩, fun _ _ z => z⟩
  have hil : i < ρ.length := by
    have := h.rel.len
    rw [List.length_set] at this
    have h2 := (List.getElem?_eq_some_iff.mp h.sl).1
    omega
  have hin : ∀ b ∈ bs, ∃ xs l, H b = some (.lst xs) ∧ DqAll K F H xs l := fun b hb => by
    obtain ⟨k, hk⟩ := List.getElem?_of_mem hb
    have hk' : k < L.length := by rw [← h.len]; exact (List.getElem?_eq_some_iff.mp hk).1
    obtain ⟨xs, h1, h2⟩ := h.at' k b _ hk (List.getElem?_eq_getElem hk')
    exact ⟨xs, _, h1, h2⟩
  have hall : ∀ (bs' : List Addr) (L' : List (List D)), bs'.length = L'.length → (∀ k b l, bs'[k]? = some b → L'[k]? = some l → b ∈ bs ∧ ∃ xs, H b = some (.lst xs) ∧ DqAll K F H xs l) → DqAll K (fun b => F b ∨ b = a ∨ b ∈ bs) H (bs'.map V.ref) (L'.map .list) := fun bs' => by
    induction bs' with
    | nil => intro L' hl _; rw [List.length_eq_zero_iff.mp hl.symm]; exact .nil
    | cons b bs' ih =>
      intro L' hl hh
      cases L' with
      | nil => cases hl
      | cons l L' =>
        obtain ⟨hm, xs, h1, h2⟩ := hh 0 b l rfl rfl
        exact .cons (.lst (.inr (.inr hm)) h1 (h2.grow g)) (ih L' (by simpa using hl) fun k c l' q1 q2 => hh (k + 1) c l' (by simpa using q1) (by simpa using q2))
  have qa := hall bs L h.len fun k b l h1 h2 => ⟨List.mem_of_getElem? h1, h.at' k b l h1 h2⟩
  refine ⟨fun b => F b ∨ b = a ∨ b ∈ bs, ⟨by have := h.rel.len; rw [List.length_set] at this ⊢; exact this, fun b hb => ?_, fun k d hk n => ?_, fun k d hk n => (List.not_mem_nil n).elim, fun i j a d e hi => (List.not_mem_nil hi).elim, fun i a h => (List.not_mem_nil h).elim, h.rel.ext, fun b hb => ?_, fun b hb => .inl (h.rel.frm b hb), fun j hj => (List.not_mem_nil hj).elim⟩, h.grow.trans g⟩
  · rcases hb with hb | rfl | hb
    · exact h.rel.trk b hb
    · exact ⟨_, h.ha⟩
    · obtain ⟨xs, _, h1, _⟩ := hin b hb
      exact ⟨_, h1⟩
  · by_cases c : k = i
    · subst c
      rw [List.getElem?_set_self hil] at hk
      cases hk
      exact ⟨.ref a, h.sl, .lst (.inr (.inl rfl)) h.ha qa⟩
    · rw [List.getElem?_set_ne (fun z => c z.symm)] at hk
      obtain ⟨v, h1, h2⟩ := h.rel.val k d (by rw [List.getElem?_set_ne (fun z => c z.symm)]; exact hk) n
      exact ⟨v, h1, h2.grow g⟩
  · rcases hb with hb | rfl | hb
    · exact h.rel.fro b hb
    · exact .inr h.h0a
    · exact .inr (h.nfb b hb).2
end
theorem envB_len (ρ : Env) (j : Nat) (ds : List D) : (envB ρ j ds).length = ρ.length := by
  unfold envB
  cases ds.getLast? with
  | none => rfl
  | some d => exact List.length_set ..
theorem envB_set (ρ : Env) (j : Nat) {ds : List D} {m : Nat} (h : m < ds.length) : (envB ρ j (ds.take m)).set j (some ds[m]) = envB ρ j (ds.take (m + 1)) := by
  have e : ds.take (m + 1) = ds.take m ++ [ds[m]] := by rw [List.take_succ, List.getElem?_eq_getElem h]; rfl
  have e2 : (ds.take m ++ [ds[m]]).getLast? = some ds[m] := List.getLast?_concat ..
  rw [e]
  unfold envB
  rw [e2]
  cases (ds.take m).getLast? with
  | none => rfl
  | some d => exact List.set_set ..
section
variable {X : Cx} {B : Eb} {G : Gd} {E : Wish} {ro : Bool} {Ol : List Nat} {i j : Nat} {y : Str} {py q pos : Pos} {iter test : Expr} {b1 b2 : List Stmt} {mi : M (List D)}
end
end VL
end

section
set_option Elab.async false
set_option linter.all false
set_option maxRecDepth 100000
set_option maxHeartbeats 4000000
namespace VL
open PySem PySem.Spec PyProof.Rows L2
set_option autoImplicit false
/-! ### name *= e, ints -/
def mAugM (i : Nat) (me : M D) : M Fl := fun ρ => match ρ[i]? with
  | some (some (.int k)) => (me ρ).bind fun p => match p.1 with
    | .int j => if (-(2 ^ 64) < k ∧ k < 2 ^ 64) ∨ (-(2 ^ 64) < j ∧ j < 2 ^ 64) then .ok (.nx, p.2.set i (some (.int (k * j)))) else .stuck
    | _ => .stuck
  | _ => .stuck
section
variable {X : Cx} {B : Eb} {G : Gd} {Ps O Ol O1 : List Nat} {E : Wish} {ro : Bool} {e : Expr} {me : M D} {pos px : Pos}
end
/-! ### e[lo:hi:-1] of a list -/
theorem Vals.at {vs : List V} {us : List Value} (h : Vals vs us) : ∀ (k : Nat) (x : V) (y : Value), vs[k]? = some x → us[k]? = some y → RelV x y := by
  induction h with
  | nil => intro k x y z; simp at z
  | cons r t ih =>
    intro k x y z w
    cases k with
    | zero => simp at z w; subst z; subst w; exact r
    | succ k => exact ih k x y (by simpa using z) (by simpa using w)
theorem DqAll.at2 {K : PySem.W.Frag} {F : Fz} {H : Hp} {vs : List V} {ds : List D} (h : DqAll K F H vs ds) (k : Nat) (x : V) (y : D) (e1 : vs[k]? = some x) (e2 : ds[k]? = some y) : Dq K F H x y := by
  obtain ⟨v, h1, h2⟩ := h.get e2
  rw [e1] at h1
  cases h1
  exact h2
section
variable {X : Cx} {B : Eb} {Γ : Gm} {E : Wish} {e : Expr} {lo hi : Option Expr} {ma : M D} {ml mh : M (Option Int)} {te : TE} {tl th : TO}
end
end VL
end

section
set_option Elab.async false
set_option linter.all false
set_option maxRecDepth 100000
set_option maxHeartbeats 4000000
namespace VL
open PySem PySem.Spec PyProof.Rows L2
set_option autoImplicit false
namespace P0
section
variable {E : XE} {ρ : Env} {ml : M (List D)}
theorem w_callL {Q : D → Env → Prop} (tab : List (Str × Fn)) (i n : Nat) : wM (mCallL tab i n ml) ρ Q E = wO (fnAt ρ[i]? tab) fun fn => wM (mCallF fn (List.replicate n .dat) ml) ρ Q E := by
  unfold wM mCallL
  cases fnAt ρ[i]? tab <;> rfl
end
end P0
end VL
end

section
set_option Elab.async false
set_option linter.all false
set_option maxRecDepth 100000
set_option maxHeartbeats 4000000
namespace VL
open PySem PySem.Spec PyProof.Rows L2
set_option autoImplicit false
section
variable {E : XE} {ρ : Env} {ml : M (List D)}
theorem w_callL {Q : D → Env → Prop} (tab : List (Str × Fn)) (i n : Nat) : wM (mCallL tab i n ml) ρ Q E = wO (fnAt ρ[i]? tab) fun fn => wM (mCallF fn (List.replicate n .dat) ml) ρ Q E := by with_unfolding_all first | exact P0.w_callL | exact P0.w_callL .. | (apply P0.w_callL <;> assumption)
end
end VL
end

section
set_option Elab.async false
set_option linter.all false
set_option maxRecDepth 100000
set_option maxHeartbeats 4000000
namespace VL
open PySem PySem.Spec PyProof.Rows L2
set_option autoImplicit false
namespace P0
section
variable {E : XE} {ρ : Env} {ma mb mc md mf : M D} {ml : M (List D)}
theorem w_callE {Q : D → Env → Prop} (tab : List (Str × Fn)) (n : Nat) : wM (mCallE tab n mf ml) ρ Q E = wM mf ρ (fun d ρ1 => wO (fnAt (some (some d)) tab) fun fn => wM (mCallF fn (List.replicate n .dat) ml) ρ1 Q E) E := by
  unfold mCallE
  simp only [w_bind]
  congr 1
  funext d ρ1
  cases fnAt (some (some d)) tab <;> rfl
theorem w_dputV {Q : Fl → Env → Prop} (i : Nat) (d : D) : wM (mDPutV i mb d) ρ Q E = wO (dicAt ρ i) fun _ => wM mb ρ (fun k ρ2 => wO (dicAt ρ2 i) fun ds => wO (dPut ds k d) fun l => Q .nx (ρ2.set i (some l))) E := by
  unfold wM mDPutV
  cases dicAt ρ i with
  | none => rfl
  | some _ =>
    simp only [wO_some]
    rw [wX_bind]
    congr 1
    funext q
    obtain ⟨k, ρ1⟩ := q
    try dsimp only
    cases h : dicAt ρ1 i with
    | none => rfl
    | some ds =>
      simp only [wO_some]
      cases dPut ds k d with
      | none => rfl
      | some d' => rfl
theorem w_parD {Q : Fl → Env → Prop} (i j : Nat) : wM (mParD i mc j md (mCons ma (mCons mb mNil))) ρ Q E = wM ma ρ (fun x ρ1 => wM mb ρ1 (fun y ρ2 => wM (mDPutV i mc x) ρ2 (fun _ ρ3 => wM (mDPutV j md y) ρ3 Q E) E) E) E := by
  unfold mParD
  simp only [w_bind, w_cons, w_nil]
  congr 1
  funext x ρ1
  congr 1
  funext y ρ2
  unfold wM
  rw [wX_bind]
theorem w_sortO {Q : D → Env → Prop} (i : Nat) : wM (mSortO i) ρ Q E = wO (dicAt ρ i) fun x => wIf (isT x) (wO (cSortD [x]) fun d => Q d ρ) False := by
  unfold wM mSortO
  cases dicAt ρ i with
  | none => rfl
  | some x =>
    simp only [wO_some]
    cases isT x with
    | false => rfl
    | true =>
      simp only [if_true, wIf_true]
      cases cSortD [x] <;> rfl
end
end P0
end VL
end

section
set_option Elab.async false
set_option linter.all false
set_option maxRecDepth 100000
set_option maxHeartbeats 4000000
namespace VL
open PySem PySem.Spec PyProof.Rows L2
set_option autoImplicit false
section
variable {E : XE} {ρ : Env} {ma mb mc md mf : M D} {ml : M (List D)}
theorem w_callE {Q : D → Env → Prop} (tab : List (Str × Fn)) (n : Nat) : wM (mCallE tab n mf ml) ρ Q E = wM mf ρ (fun d ρ1 => wO (fnAt (some (some d)) tab) fun fn => wM (mCallF fn (List.replicate n .dat) ml) ρ1 Q E) E := by with_unfolding_all first | exact P0.w_callE | exact P0.w_callE .. | (apply P0.w_callE <;> assumption)
theorem w_dputV {Q : Fl → Env → Prop} (i : Nat) (d : D) : wM (mDPutV i mb d) ρ Q E = wO (dicAt ρ i) fun _ => wM mb ρ (fun k ρ2 => wO (dicAt ρ2 i) fun ds => wO (dPut ds k d) fun l => Q .nx (ρ2.set i (some l))) E := by with_unfolding_all first | exact P0.w_dputV | exact P0.w_dputV .. | (apply P0.w_dputV <;> assumption)
theorem w_parD {Q : Fl → Env → Prop} (i j : Nat) : wM (mParD i mc j md (mCons ma (mCons mb mNil))) ρ Q E = wM ma ρ (fun x ρ1 => wM mb ρ1 (fun y ρ2 => wM (mDPutV i mc x) ρ2 (fun _ ρ3 => wM (mDPutV j md y) ρ3 Q E) E) E) E := by with_unfolding_all first | exact P0.w_parD | exact P0.w_parD .. | (apply P0.w_parD <;> assumption)
theorem w_sortO {Q : D → Env → Prop} (i : Nat) : wM (mSortO i) ρ Q E = wO (dicAt ρ i) fun x => wIf (isT x) (wO (cSortD [x]) fun d => Q d ρ) False := by with_unfolding_all first | exact P0.w_sortO | exact P0.w_sortO .. | (apply P0.w_sortO <;> assumption)
end
end VL
end

section
set_option Elab.async false
set_option linter.all false
set_option maxRecDepth 100000
set_option maxHeartbeats 4000000
namespace VL
open PySem PySem.Spec PyProof.Rows L2
set_option autoImplicit false
def intAt (ρ : Env) (i : Nat) : Option Int := match ρ[i]? with
  | some (some (.int k)) => some k
  | _ => none
def blkAt (ρ : Env) (i j : Nat) (ds : List D) : Option (List (List D)) := match lstAt ρ i with
  | some [] => if ds.length < sizeLine ∧ j < ρ.length then blkL ds [] else none
  | _ => none
namespace P0
section
variable {E : XE} {ρ : Env} {me : M D} {mi : M (List D)}
theorem w_augM {Q : Fl → Env → Prop} (i : Nat) : wM (mAugM i me) ρ Q E = wO (intAt ρ i) fun k => wM me ρ (fun d ρ1 => wO (gMul (.int k) d) fun x => Q .nx (ρ1.set i (some x))) E := by
  unfold wM mAugM intAt
  cases ρ[i]? with
  | none => rfl
  | some o =>
    cases o with
    | none => rfl
    | some d =>
      cases d with
      | int k =>
        simp only [wO_some]
        rw [wX_bind]
        congr 1
        funext p
        obtain ⟨x, ρ1⟩ := p
        cases x with
        | int j =>
          simp only [gMul]
          by_cases c : (-(2 ^ 64) < k ∧ k < 2 ^ 64) ∨ (-(2 ^ 64) < j ∧ j < 2 ^ 64)
          · rw [if_pos c, if_pos c]; rfl
          · rw [if_neg c, if_neg c]; rfl
        | _ => rfl
      | _ => rfl
theorem w_blk {Q : Fl → Env → Prop} (i j : Nat) : wM (mBlk i j mi) ρ Q E = wM mi ρ (fun ds ρ1 => wO (blkAt ρ1 i j ds) fun L => Q .nx ((envB ρ1 j ds).set i (some (.list (L.map .list))))) E := by
  unfold mBlk
  rw [w_bind]
  congr 1
  funext ds ρ1
  unfold wM blkAt
  dsimp only
  cases lstAt ρ1 i with
  | none => rfl
  | some l =>
    cases l with
    | cons x l => rfl
    | nil =>
      dsimp only
      by_cases c : ds.length < sizeLine ∧ j < ρ1.length
      · rw [if_pos c, if_pos c]
        cases blkL ds [] <;> rfl
      · rw [if_neg c, if_neg c]; rfl
end
end P0
end VL
end

section
set_option Elab.async false
set_option linter.all false
set_option maxRecDepth 100000
set_option maxHeartbeats 4000000
namespace VL
open PySem PySem.Spec PyProof.Rows L2
set_option autoImplicit false
section
variable {E : XE} {ρ : Env} {me : M D} {mi : M (List D)}
theorem w_augM {Q : Fl → Env → Prop} (i : Nat) : wM (mAugM i me) ρ Q E = wO (intAt ρ i) fun k => wM me ρ (fun d ρ1 => wO (gMul (.int k) d) fun x => Q .nx (ρ1.set i (some x))) E := by with_unfolding_all first | exact P0.w_augM | exact P0.w_augM .. | (apply P0.w_augM <;> assumption)
theorem w_blk {Q : Fl → Env → Prop} (i j : Nat) : wM (mBlk i j mi) ρ Q E = wM mi ρ (fun ds ρ1 => wO (blkAt ρ1 i j ds) fun L => Q .nx ((envB ρ1 j ds).set i (some (.list (L.map .list))))) E := by with_unfolding_all first | exact P0.w_blk | exact P0.w_blk .. | (apply P0.w_blk <;> assumption)
end
end VL
end

section
set_option Elab.async false
set_option linter.all false
set_option maxRecDepth 100000
set_option maxHeartbeats 4000000
namespace VL
open PySem PySem.Spec PyProof.Rows L2
set_option autoImplicit false
/-! ### while -/
def whL (mt : M Bool) (mb : M Fl) : Nat → M Fl
  | 0 => fun _ => .stuck
  | k + 1 => mt.bind fun b => if b = true then fun ρ => (mb ρ).bind fun p => match p.1 with
      | .nx => whL mt mb k p.2
      | .ct => whL mt mb k p.2
      | .bk => .ok (.nx, p.2)
      | .rt d => .ok (.rt d, p.2)
    else mNx
def mWhile (mt : M Bool) (mb : M Fl) : M Fl := whL mt mb 1000
section
variable {X : Cx} {B : Eb} {G : Gd} {Ps O Ol : List Nat} {E : Wish} {ro : Bool} {c : Expr} {body : List Stmt} {mt : M Bool} {mb : M Fl} {pos : Pos}
theorem vs_while (hp : PassesOwn (model X.prog X.w) X.A X.env X.xe) (ht : VT X B (G.w Ps O) E c mt) (hb : VSs X B G Ps E ro O O O body mb) :
    VS X B G Ps E ro O O Ol (.While c body [] pos) (mWhile mt mb) :=
  PS.imp (ps_while hp ht hb) fun N σ H ⟨F, ρ, r, h⟩ => by
    refine ⟨fun n σ' H' => ∃ F' ρ', Rel X.K (G.w Ps O) F' ρ' σ' H' ∧ Grow F H F' H' ∧ Res (whL mt mb n ρ') (kS X.K G Ps ro O Ol F H N) (KexS X.K B G Ps E F H), ⟨1000, F, ρ, r, .refl, h⟩, ?_⟩
    rintro n σ' H' ⟨F', ρ', r', g', h'⟩
    cases n with
    | zero => exact h'.elim
    | succ n =>
      refine ⟨F', ρ', r', (Res.bind h').mono (fun x ρ1 h1 v H1 F1 r1 g1 q1 => ?_) (fun _ _ _ k => (k.grow g').ex r')⟩
      subst q1
      have g2 := g'.trans (g1.g r')
      cases v with
      | false =>
        exact h1 σ' H1 F1 r1 g2
      | true =>
        have h1 : Res ((mb ρ1).bind fun p => match p.1 with
          | .nx => whL mt mb n p.2
          | .ct => whL mt mb n p.2
          | .bk => .ok (.nx, p.2)
          | .rt d => .ok (.rt d, p.2)) (kS X.K G Ps ro O Ol F H N) (KexS X.K B G Ps E F H) := h1
        refine ⟨fun σ2 H2 => ∃ F2 ρ2, Rel X.K (G.w Ps O) F2 ρ2 σ2 H2 ∧ Grow F H F2 H2 ∧ Res (whL mt mb n ρ2) (kS X.K G Ps ro O Ol F H N) (KexS X.K B G Ps E F H), fun σ2 H2 hh => ⟨n, Nat.lt_succ_self n, hh⟩, F1, ρ1, r1, ?_⟩
        cases em : mb ρ1 with
        | stuck => rw [em] at h1; exact h1.elim
        | exc c fs ρ3 => rw [em] at h1; exact KexS.grow h1 g2
        | ok p =>
          obtain ⟨fl, ρ3⟩ := p
          rw [em] at h1
          cases fl with
          | nx => exact fun σ4 H4 F4 r4 g4 => ⟨F4, ρ3, r4, g2.trans g4, h1⟩
          | ct => exact fun σ4 H4 F4 r4 g4 => ⟨F4, ρ3, r4, g2.trans g4, h1⟩
          | bk => exact fun σ4 H4 F4 r4 g4 => h1 σ4 H4 F4 r4 (g2.trans g4)
          | rt d => exact fun O' v σ4 H4 F4 r4 g4 q4 => h1 O' v σ4 H4 F4 r4 (g2.trans g4) q4
end
end VL
end

section
set_option Elab.async false
set_option linter.all false
set_option maxRecDepth 100000
set_option maxHeartbeats 4000000
namespace VL
open PySem PySem.Spec PyProof.Rows L2
set_option autoImplicit false
/-! ### a list of new lists that stay one's own: `[list(steps) for steps in ..]` -/
/-- the list at a holds the new things at bs, which nothing else holds -/
structure Wv (K : PySem.W.Frag) (G : Gd) (F : Fz) (H : Hp) (a : Addr) (bs : List Addr) (L : List D) : Prop where
  ha : H a = some (.lst (bs.map V.ref))
  nfa : ¬ F a
  h0a : G.H0 a = none
  nd : (a :: bs).Nodup
  nfb : ∀ b ∈ bs, ¬ F b ∧ G.H0 b = none
  len : bs.length = L.length
  at' : ∀ (k : Nat) (b : Addr) (d : D), bs[k]? = some b → L[k]? = some d → OwnAt K F H b d
section
variable {K : PySem.W.Frag} {G : Gd}
theorem Wv.hav {F : Fz} {H : Hp} {a : Addr} {bs : List Addr} {L : List D} (h : Wv K G F H a bs L) : ∀ b ∈ bs, ∃ o, H b = some o := fun b hb => by
  obtain ⟨k, hk⟩ := List.getElem?_of_mem hb
  have hk' : k < L.length := by rw [← h.len]; exact (List.getElem?_eq_some_iff.mp hk).1
  exact (h.at' k b _ hk (List.getElem?_eq_getElem hk')).some
theorem Wv.to {F F2 : Fz} {H H2 : Hp} {a : Addr} {bs : List Addr} {L : List D} (h : Wv K G F H a bs L) (g : Grow F H F2 H2) (k : ∀ b o, H b = some o → ¬ F b → H2 b = some o ∧ ¬ F2 b) : Wv K G F2 H2 a bs L where
  ha := (k a _ h.ha h.nfa).1
  nfa := (k a _ h.ha h.nfa).2
  h0a := h.h0a
  nd := h.nd
  nfb := fun b hb => by
    obtain ⟨o, ho⟩ := h.hav b hb
    exact ⟨(k b o ho (h.nfb b hb).1).2, (h.nfb b hb).2⟩
  len := h.len
  at' := fun q b d h1 h2 => by
    obtain ⟨o, ho⟩ := h.hav b (List.mem_of_getElem? h1)
    exact (h.at' q b d h1 h2).grow g (by rw [ho]; exact (k b o ho (h.nfb b (List.mem_of_getElem? h1)).1).1)
theorem not_own0 {σ : St} {b : Addr} : ¬ Own [] σ b := fun ⟨j, hj, _⟩ => (List.not_mem_nil hj).elim
theorem Wv.kp {F F2 : Fz} {σ : St} {H H2 : Hp} {a : Addr} {bs : List Addr} {L : List D} (h : Wv K G F H a bs L) (g : Grow F H F2 H2) (k : Kp [] σ F H F2 H2) : Wv K G F2 H2 a bs L :=
  h.to g fun b o ho nf => ⟨(k.keep b o ho not_own0).1, fun z => nf ((k.keep b o ho not_own0).2 z)⟩
theorem Wv.ext {F F2 : Fz} {ρ : Env} {σ : St} {H H2 : Hp} {a : Addr} {bs : List Addr} {L : List D} (h : Wv K G F H a bs L) (r : Rel K (G.w [] []) F ρ σ H) (e : Ext F H F2 H2) : Wv K G F2 H2 a bs L :=
  h.to (e.grow r.trk) fun b o ho nf => ⟨e.same b o ho, fun z => by
    rcases e.new b z with z | z
    · exact nf z
    · rw [ho] at z; cases z⟩
theorem Wv.more {F : Fz} {H : Hp} {a p : Addr} {bs : List Addr} {L : List D} {d : D} (h : Wv K G F H a bs L) (op : OwnAt K F H p d) (np : ¬ F p) (h0 : G.H0 p = none) (hn : p ≠ a ∧ p ∉ bs) :
    Wv K G F (upd H a (.lst (bs.map V.ref ++ [.ref p]))) a (bs ++ [p]) (L ++ [d]) := by
  have g : Grow F H F (upd H a (.lst (bs.map V.ref ++ [.ref p]))) := .upd h.nfa h.ha trivial
  have hnd := h.nd
  rw [List.nodup_cons] at hnd
  have hba : ∀ b ∈ bs, b ≠ a := fun b hb z => hnd.1 (z ▸ hb)
  refine ⟨by rw [List.map_append]; exact upd_same, h.nfa, h.h0a, ?_, fun b hb => ?_, by simp [h.len], fun k c l h1 h2 => ?_⟩
  · rw [List.nodup_cons]
    refine ⟨fun z => ?_, ?_⟩
    · rcases List.mem_append.mp z with z | z
      · exact hnd.1 z
      · exact hn.1 (List.mem_singleton.mp z).symm
    · rw [List.nodup_append]
      exact ⟨hnd.2, by simp, fun b hb c hc z => hn.2 (by rw [← List.mem_singleton.mp hc, ← z]; exact hb)⟩
  · rcases List.mem_append.mp hb with hb | hb
    · exact h.nfb b hb
    · rw [List.mem_singleton.mp hb]; exact ⟨np, h0⟩
  · by_cases c1 : k < bs.length
    · rw [List.getElem?_append_left c1] at h1
      have c2 : k < L.length := by rw [← h.len]; exact c1
      rw [List.getElem?_append_left c2] at h2
      exact (h.at' k c l h1 h2).grow g (upd_ne (hba c (List.mem_of_getElem? h1)))
    · have hk : k = bs.length := by
        have := (List.getElem?_eq_some_iff.mp h1).1
        rw [List.length_append, List.length_singleton] at this
        omega
      subst hk
      rw [List.getElem?_append_right (Nat.le_refl _), Nat.sub_self] at h1
      rw [h.len, List.getElem?_append_right (Nat.le_refl _), Nat.sub_self] at h2
      cases h1
      cases h2
      exact op.grow g (upd_ne hn.1)
end
section
variable {X : Cx} {B : Eb} {G : Gd} {E : Wish} {tg iter elt : Expr} {t : Tg} {mi : M (List D)} {me : M D}
/-- the reading of such a comprehension -/
def tN (K : PySem.W.Frag) (B : Eb) (G : Gd) (E : Wish) (m : M D) : TE := fun σ H Q => ∃ F ρ, Rel K (G.w [] []) F ρ σ H ∧
  Res (m ρ) (fun d ρ' => ∀ a bs ys H' F', d = .list ys → Rel K (G.w [] []) F' ρ' σ H' → Kp [] σ F H F' H' → H a = none → Wv K G F' H' a bs ys → ys.length ≤ sizeLine → Q (.ref a) H') (Kex K B (G.w [] []) E σ F H)
theorem tlcN {w : Bool} {own : List (Str × Nat)} (ht : ∀ i ∈ t.slots, i ∈ own.map (·.2)) {σ : St} {H : Hp} {Q : VK} (h : tN X.K B G E (mLc t (own.map (·.2)) mi (M.pure true) me) σ H Q) :
    tLc (tI X.K w B (G.w [] []) E mi) (gT X.K w (G.w [] []) t) (tVt X.K B (G.w [] []) E0w (M.pure true)) (tO X.K B (G.w [] []) E0w me) (own.map (·.2)) σ H Q := by
  generalize own.map (·.2) = vs at ht h ⊢
  have hv : ∀ i ∈ vs, i ∉ (G.w [] []).O := fun i _ => List.not_mem_nil
  obtain ⟨F, ρ, r, h⟩ := h
  refine ⟨F, ρ, r, ?_⟩
  unfold mLc at h
  cases em : mi ρ with
  | stuck => rw [em] at h; exact h.elim
  | exc c fs ρ' => rw [em] at h; exact h
  | ok p =>
    obtain ⟨ds, ρ1⟩ := p
    rw [em] at h
    intro J H1 F1 r1 k1 it D hD
    simp only [R.bind] at h
    by_cases hz : ds.length ≤ sizeLine
    · rw [if_pos hz] at h
      have ovs : ∀ i ∈ t.slots, i ∉ (G.w [] []).O := fun i hi => hv i (ht i hi)
      have nD0 : G.H0 D = none := r1.h0 hD
      have nfD : ¬ F1 D := r1.nf hD
      refine ⟨fun i n H' => n = ds.length - i ∧ i ≤ ds.length ∧ ∃ F' ρ' acc bs, Rel X.K (G.w [] []) F' ρ' (L2.wipe σ vs) H' ∧ Kp [] σ F1 H1 F' H' ∧ Wv X.K G F' H' D bs acc ∧ acc.length ≤ i ∧
        Res (lcL t vs (M.pure true) me (ds.drop i) acc ρ') (fun ys ρ2 => ∀ a bs H2 F2, Rel X.K (G.w [] []) F2 (backE ρ1 vs ρ2) σ H2 → Kp [] σ F H F2 H2 → H a = none → Wv X.K G F2 H2 a bs ys → ys.length ≤ sizeLine → Q (.ref a) H2) (fun _ _ _ => False), ⟨ds.length, by simp, Nat.zero_le _, F1, wipeE ρ1 vs, [], [], ?_, (Ext.laid r1.trk hD).kp, ⟨upd_same, nfD, nD0, by simp, fun b hb => (List.not_mem_nil hb).elim, rfl, fun k b d z => (by cases z)⟩, Nat.le_refl _, ?_⟩, ?_⟩
      · exact (r1.wipe hv).foreign (fun xs z => by rw [hD] at z; cases z) nfD not_own0 nD0
      · rw [List.drop_zero]
        cases el : lcL t vs (M.pure true) me ds [] (wipeE ρ1 vs) with
        | stuck => rw [el] at h; exact h.elim
        | exc c fs ρ' => rw [el] at h; exact h.elim
        | ok q => rw [el] at h; exact fun a bs H2 F2 r2 k2 ha hw hl => h a bs q.1 H2 F2 rfl r2 k2 ha hw hl
      · rintro i n H' ⟨rfl, hi, F', ρ', acc, bs, r', k', hW, hacc, h'⟩
        have g' : Grow F1 H1 F' H' := k'.g (Γ := G.w [] []) r1
        by_cases hlt : i < ds.length
        · have hd : ds[i]? = some ds[i] := List.getElem?_eq_getElem hlt
          obtain ⟨hgo, hy⟩ := it.go i ds[i] F' H' g' r'.trk hd
          refine .inr ⟨hgo, fun H2 => ∃ F2 ρ2 acc2 bs2, Rel X.K (G.w [] []) F2 ρ2 (L2.wipe σ vs) H2 ∧ Kp [] σ F1 H1 F2 H2 ∧ Wv X.K G F2 H2 D bs2 acc2 ∧ acc2.length ≤ i + 1 ∧
            Res (lcL t vs (M.pure true) me (ds.drop (i + 1)) acc2 ρ2) (fun ys ρ2 => ∀ a bs H2 F2, Rel X.K (G.w [] []) F2 (backE ρ1 vs ρ2) σ H2 → Kp [] σ F H F2 H2 → H a = none → Wv X.K G F2 H2 a bs ys → ys.length ≤ sizeLine → Q (.ref a) H2) (fun _ _ _ => False), fun H2 hh => ?_, fun x H2 y => ?_⟩
          · obtain ⟨F2, ρ2, acc2, bs2, q⟩ := hh
            exact ⟨ds.length - (i + 1), by omega, rfl, hlt, F2, ρ2, acc2, bs2, q⟩
          · obtain ⟨F2, ex, q⟩ := hy x H2 y
            have r2 := r'.to ex
            have k2 : Kp [] σ F1 H1 F2 H2 := k'.trans ex.kp
            have W2 := hW.ext r' ex
            rw [List.drop_eq_getElem_cons hlt] at h'
            cases eb : bindT t ds[i] ρ' with
            | none => simp only [lcL, eb] at h'; exact h'.elim
            | some ρ2 =>
              simp only [lcL, eb] at h'
              refine ⟨F2, ρ', ds[i], ρ2, r2, q, eb, fun σ3 r3 sb => ?_⟩
              have w3 : L2.wipe σ3 vs = L2.wipe σ vs := (wipe_same sb ht).trans wipe_idem
              refine ⟨w3, F2, ρ2, r3, ?_⟩
              intro v H3 F3 r4 k3 ev
              have ev' : v = true := ev
              subst ev'
              have k3' : Kp [] σ F1 H1 F3 H3 := k2.trans ⟨k3.frz, fun b o hb nb => k3.keep b o hb not_own0⟩
              have W3 := W2.kp (k3.g r3) k3
              rw [if_pos rfl]
              refine ⟨F3, ρ2, r4, ?_⟩
              have h' : Res ((me ρ2).sbind fun p => lcL t vs (M.pure true) me (ds.drop (i + 1)) (acc ++ [p.1]) (wipeE p.2 vs)) (fun ys ρ2 => ∀ a bs H2 F2, Rel X.K (G.w [] []) F2 (backE ρ1 vs ρ2) σ H2 → Kp [] σ F H F2 H2 → H a = none → Wv X.K G F2 H2 a bs ys → ys.length ≤ sizeLine → Q (.ref a) H2) (fun _ _ _ => False) := h'
              cases ee : me ρ2 with
              | stuck => rw [ee] at h'; exact h'.elim
              | exc c fs ρ4 => rw [ee] at h'; exact h'.elim
              | ok p4 =>
                obtain ⟨d4, ρ4⟩ := p4
                rw [ee] at h'
                intro y4 H4 F4 r5 k4 q4
                obtain ⟨p, rfl, op, nfp, hp3⟩ := q4
                have W4 := W3.kp (k4.g r4) k4
                have k4' : Kp [] σ F1 H1 F4 H4 := k3'.trans ⟨k4.frz, fun b o hb nb => k4.keep b o hb not_own0⟩
                have hpD : p ≠ D := fun z => by rw [z, W3.ha] at hp3; cases hp3
                have hpb : p ∉ bs := fun z => by
                  obtain ⟨o, ho⟩ := W3.hav p z
                  rw [hp3] at ho; cases ho
                refine ⟨bs.map V.ref, W4.ha, by rw [List.length_map, W4.len]; omega, F4, wipeE ρ4 vs, acc ++ [d4], bs ++ [p], ?_, ?_, W4.more op nfp (r4.h0 hp3) ⟨hpD, hpb⟩, by rw [List.length_append]; exact Nat.succ_le_succ hacc, h'⟩
                · exact (w3 ▸ r5.wipe hv : Rel X.K (G.w [] []) F4 (wipeE ρ4 vs) (L2.wipe σ vs) H4).foreign (fun xs z => by rw [W4.ha] at z; cases z) W4.nfa not_own0 nD0
                · refine ⟨k4'.frz, fun b o hb nb => ?_⟩
                  obtain ⟨z1, z2⟩ := k4'.keep b o hb nb
                  exact ⟨by rw [upd_ne fun z => by rw [z, hD] at hb; cases hb]; exact z1, z2⟩
        · have e : i = ds.length := by omega
          subst e
          rw [List.drop_length] at h'
          refine .inl ⟨it.stop F' H' g' r'.trk, ?_⟩
          have kk : Kp [] σ F H F' H' := Kp.trans (O := []) ⟨k1.frz, fun b o hb nb => k1.keep b o hb not_own0⟩ k'
          exact h' D bs H' F' (r1.back hv r' g') kk (k1.none0 r1 hD) hW (Nat.le_trans hacc hz)
    · rw [if_neg hz] at h; exact h.elim
end
end VL
end

section
set_option Elab.async false
set_option linter.all false
set_option maxRecDepth 100000
set_option maxHeartbeats 4000000
namespace VL
open PySem PySem.Spec PyProof.Rows L2
set_option autoImplicit false
/-! ### found.append(left[place].pop(0)) -/
def sWov (i j k : Nat) : TS := fun D σ H => ∃ (c : Addr) (ys : List V) (a : Addr) (bs : List V) (n : Int) (b : Addr) (x : V) (xs : List V),
  σ[j]? = some (some (.ref c)) ∧ H c = some (.lst ys) ∧ ys.length < sizeLine ∧ σ[i]? = some (some (.ref a)) ∧ H a = some (.lst bs) ∧ σ[k]? = some (some (.int n)) ∧ L2.atI bs n = some (.ref b) ∧ H b = some (.lst (x :: xs)) ∧ b ≠ c ∧ D.nx σ (upd (upd H b (.lst xs)) c (.lst (ys ++ [x])))
section
variable {X : Cx} {i j k : Nat} {x y z : Str}
theorem pss_wov {q1 q2 q3 q4 q5 q6 apos cpos apos2 cpos2 : Pos} {k5 : Nat} (hN : X.N[i]? = some x := by rfl) (hM : X.N[j]? = some y := by rfl) (hL : X.N[k]? = some z := by rfl)
    (hv : Vis X.env.scope x := by first | exact Or.inl rfl | exact Or.inr (Or.inl rfl) | exact Or.inr (Or.inr rfl)) (hw : Vis X.env.scope y := by first | exact Or.inl rfl | exact Or.inr (Or.inl rfl) | exact Or.inr (Or.inr rfl)) (hu : Vis X.env.scope z := by first | exact Or.inl rfl | exact Or.inr (Or.inl rfl) | exact Or.inr (Or.inr rfl))
    (hd : (x == ("__debug__" : Str)) = false := by decide) (hcd : (x == ("__classdict__" : Str)) = false := by decide) (hd2 : (y == ("__debug__" : Str)) = false := by decide) (hcd2 : (y == ("__classdict__" : Str)) = false := by decide) (hd3 : (z == ("__debug__" : Str)) = false := by decide) (hcd3 : (z == ("__classdict__" : Str)) = false := by decide)
    (hbase : attributeBase (.Name y q1) "append" X.env (eval (.Name y q1) X.env) = eval (.Name y q1) X.env := by rfl)
    (hbase2 : attributeBase (.Subscript (.Name x q2) (.Name z q3) q4) "pop" X.env (eval (.Subscript (.Name x q2) (.Name z q3) q4) X.env) = eval (.Subscript (.Name x q2) (.Name z q3) q4) X.env := by rfl)
    (hfew2 : ((backTo cpos2 (starEach [.Constant (.int 0) k5 q5] X.env)).all (fun x => !x.1) && (backToKw cpos2 (keywordEach [] X.env)).all (fun x => x.1.isSome) && decide ([Expr.Constant (.int 0) k5 q5].length + ([] : List Keyword).length + (if ([] : List Keyword).isEmpty then 0 else 1) < 30)) = true := by rfl)
    (hfew : ((backTo cpos (starEach [.Call (.Attribute (.Subscript (.Name x q2) (.Name z q3) q4) "pop" apos2) [.Constant (.int 0) k5 q5] [] cpos2] X.env)).all (fun x => !x.1) && (backToKw cpos (keywordEach [] X.env)).all (fun x => x.1.isSome) && decide ([Expr.Call (.Attribute (.Subscript (.Name x q2) (.Name z q3) q4) "pop" apos2) [.Constant (.int 0) k5 q5] [] cpos2].length + ([] : List Keyword).length + (if ([] : List Keyword).isEmpty then 0 else 1) < 30)) = true := by rfl)
    (hline : (apos.endLine == cpos.line) = true := by rfl) (hline2 : (apos2.endLine == cpos2.line) = true := by rfl)
    (hs2 : starEach [.Constant (.int 0) k5 q5] X.env = (false, eval (.Constant (.int 0) k5 q5) X.env) :: starEach [] X.env := by rfl)
    (hs : starEach [.Call (.Attribute (.Subscript (.Name x q2) (.Name z q3) q4) "pop" apos2) [.Constant (.int 0) k5 q5] [] cpos2] X.env = (false, eval (.Call (.Attribute (.Subscript (.Name x q2) (.Name z q3) q4) "pop" apos2) [.Constant (.int 0) k5 q5] [] cpos2) X.env) :: starEach [] X.env := by rfl)
    (hplain2 : (backTo cpos2 (starEach [] X.env)).any (·.1) = false := by rfl) (hplain : (backTo cpos (starEach [] X.env)).any (·.1) = false := by rfl)
    (hsw : swapsWith (.Call (.Attribute (.Name y q1) "append" apos) [.Call (.Attribute (.Subscript (.Name x q2) (.Name z q3) q4) "pop" apos2) [.Constant (.int 0) k5 q5] [] cpos2] [] cpos) none q6.line X.env = pure false := by rfl) :
    PSs X [.Expr (.Call (.Attribute (.Name y q1) "append" apos) [.Call (.Attribute (.Subscript (.Name x q2) (.Name z q3) q4) "pop" apos2) [.Constant (.int 0) k5 q5] [] cpos2] [] cpos) q6] (sWov i j k) :=
  PSs.imp (pss_one (ps_expr (pe_bm PySem.F.plainAttrs_list PySem.F.slot_list_append PySem.F.type_list_append mt_append (pe_var hM hw hd2 hcd2)
    (pa_cons (pe_bm PySem.F.plainAttrs_list PySem.F.slot_list_pop PySem.F.type_list_pop mt_popAt (pe_ix ix_list (pe_var hN hv hd hcd) (pe_var hL hu hd3 hcd3) (fun _ _ => rfl)) (pa_cons pe_int pa_nil hs2) hbase2 hfew2 hline2 hs2 hplain2) pa_nil hs) hbase hfew hline hs hplain) hsw)) fun D σ H ⟨c, ys, a, bs, n, b, x0, xs, h1, h2, h3, h4, h5, h6, h7, h8, h9, hq⟩ => by
    refine ⟨_, h1, .inl ⟨rfl, ys, .inl (.inl h2)⟩, _, h4, _, h6, a, bs, n, .ref b, rfl, rfl, .inl (.inl h5), h7, .inl ⟨rfl, x0 :: xs, .inl (.inl h8)⟩, b, x0 :: xs, 0, 0, x0, rfl, rfl, h8, by decide, by decide, ?_, rfl, ?_⟩
    · unfold seqIndex?
      simp
    · refine ⟨c, ys, x0, rfl, rfl, by rw [upd_ne (Ne.symm h9)]; exact h2, h3, ?_⟩
      exact hq
end
end VL
end

section
set_option Elab.async false
set_option linter.all false
set_option maxRecDepth 100000
set_option maxHeartbeats 4000000
namespace VL
open PySem PySem.Spec PyProof.Rows L2
set_option autoImplicit false
/-! ### left, found = [list(..) for ..], []; for place in way: found.append(left[place].pop(0)) -/
def wovS (L : List D) : D → Option (D × List D)
  | .int n => match L2.ixN L.length n with
    | some q => match L[q]? with
      | some (.list (x :: xs)) => some (x, L.set q (.list xs))
      | _ => none
    | none => none
  | _ => none
def wovL : List D → List D → List D → Option (List D)
  | [], _, acc => some acc
  | p :: ps, L, acc => (wovS L p).bind fun r => wovL ps r.2 (acc ++ [r.1])
def hide (ρ : Env) (i j : Nat) : Env := (ρ.set i none).set j none
def mWov (i j k : Nat) (mc : M D) (mw : M (List D)) : M Fl := mc.bind fun d => fun ρ => match d with
  | .list ys => (mw (hide ρ i j)).bind fun q => if q.1.length < sizeLine ∧ i < q.2.length ∧ j < q.2.length ∧ k < q.2.length then match wovL q.1 ys [] with
      | some out => .ok (.nx, (envB q.2 k q.1).set j (some (.list out)))
      | none => .stuck
    else .stuck
  | _ => .stuck
section
variable {K : PySem.W.Frag} {G : Gd}
theorem Rel.hide1 {F : Fz} {ρ : Env} {σ : St} {H : Hp} (r : Rel K (G.w [] []) F ρ σ H) (i : Nat) (v : Option V) : Rel K (G.w [] []) F (ρ.set i none) (σ.set i v) H := by
  refine ⟨by rw [List.length_set, List.length_set]; exact r.len, r.trk, fun k d hk n => ?_, fun k d hk n => (List.not_mem_nil n).elim, fun i j a d e hi => (List.not_mem_nil hi).elim, fun i a h => (List.not_mem_nil h).elim, r.ext, r.fro, r.frm, fun j hj => (List.not_mem_nil hj).elim⟩
  by_cases c : k = i
  · subst c
    rw [List.getElem?_set] at hk
    simp at hk
  · rw [List.getElem?_set_ne (fun z => c z.symm)] at hk
    obtain ⟨w, h1, h2⟩ := r.val k d hk n
    exact ⟨w, by rw [List.getElem?_set_ne (fun z => c z.symm)]; exact h1, h2⟩
/-- a slot that was not looked at shows what it holds -/
theorem Rel.shew {F : Fz} {ρ : Env} {σ : St} {H : Hp} (r : Rel K (G.w [] []) F ρ σ H) {j : Nat} {v : V} {d : D} (hs : σ[j]? = some (some v)) (q : Dq K F H v d) : Rel K (G.w [] []) F (ρ.set j (some d)) σ H := by
  refine ⟨by rw [List.length_set]; exact r.len, r.trk, fun k e hk n => ?_, fun k d hk n => (List.not_mem_nil n).elim, fun i j a d e hi => (List.not_mem_nil hi).elim, fun i a h => (List.not_mem_nil h).elim, r.ext, r.fro, r.frm, fun j hj => (List.not_mem_nil hj).elim⟩
  by_cases c : k = j
  · subst c
    have hl : k < ρ.length := by
      have h2 := (List.getElem?_eq_some_iff.mp hs).1
      have := r.len
      omega
    rw [List.getElem?_set_self hl] at hk
    cases hk
    exact ⟨v, hs, q⟩
  · rw [List.getElem?_set_ne (fun z => c z.symm)] at hk
    exact r.val k e hk n
theorem Wv.off {F : Fz} {H : Hp} {a c : Addr} {bs : List Addr} {L : List D} {o o' : HO} (h : Wv K G F H a bs L) (nc : ¬ F c) (hc : H c = some o) (nt : ∀ xs, o ≠ .tup xs) (ha : c ≠ a) (hb : c ∉ bs) : Wv K G F (upd H c o') a bs L := by
  have g : Grow F H F (upd H c o') := ⟨fun b hb => ⟨hb, upd_ne fun z => nc (z ▸ hb)⟩, fun b xs h => by rw [upd_ne fun z => nt xs (by rw [z, hc] at h; cases h; rfl)]; exact h⟩
  refine ⟨by rw [upd_ne (Ne.symm ha)]; exact h.ha, h.nfa, h.h0a, h.nd, h.nfb, h.len, fun q b d h1 h2 => (h.at' q b d h1 h2).grow g (upd_ne fun z => hb (z ▸ List.mem_of_getElem? h1))⟩
theorem Wv.pop {F : Fz} {H : Hp} {a b : Addr} {bs : List Addr} {L : List D} {q : Nat} {x0 : V} {xs : List V} {l : List D} (h : Wv K G F H a bs L) (hb : bs[q]? = some b) (hH : H b = some (.lst (x0 :: xs))) (hx : DqAll K F H xs l) : Wv K G F (upd H b (.lst xs)) a bs (L.set q (.list l)) := by
  have nb := (h.nfb b (List.mem_of_getElem? hb)).1
  have g : Grow F H F (upd H b (.lst xs)) := .upd nb hH trivial
  have hnd := h.nd
  rw [List.nodup_cons] at hnd
  have hba : a ≠ b := fun z => hnd.1 (z ▸ List.mem_of_getElem? hb)
  refine ⟨by rw [upd_ne hba]; exact h.ha, h.nfa, h.h0a, h.nd, h.nfb, by rw [List.length_set]; exact h.len, fun p c d h1 h2 => ?_⟩
  by_cases e : p = q
  · subst e
    rw [hb] at h1
    cases h1
    have hl : p < L.length := by
      have := (List.getElem?_eq_some_iff.mp h2).1
      rwa [List.length_set] at this
    rw [List.getElem?_set_self hl] at h2
    cases h2
    exact .lst upd_same (hx.grow g)
  · rw [List.getElem?_set_ne (fun z => e z.symm)] at h2
    have hcb : c ≠ b := fun z => by
      subst z
      have h3 := (List.getElem?_eq_some_iff.mp h1)
      have h4 := (List.getElem?_eq_some_iff.mp hb)
      exact e ((List.getElem_inj hnd.2).mp (h3.2.trans h4.2.symm))
    exact (h.at' p c d h1 h2).grow g (upd_ne hcb)
end
section
variable {X : Cx} {B : Eb} {G : Gd} {E : Wish} {ro : Bool} {On Ol : List Nat} {i j k : Nat} {x y z : Str} {px py pz pt pt2 pos pos2 cpos q7 : Pos} {kt k2 : Nat} {tg iter elt witer : Expr} {t : Tg} {mi : M (List D)} {me : M D} {mw : M (List D)} {b1 rest : List Stmt} {mr : M Fl}
theorem vs_wov {scope : Scope} {own : List (Str × Nat)} (hp : PassesOwn (model X.prog X.w) X.A X.env X.xe) (hc : X.calm = true) (hN : X.N.Nodup) (hx : X.N[i]? = some x) (hy : X.N[j]? = some y) (hz : X.N[k]? = some z) (hij : i ≠ j) (hik : i ≠ k) (hjk : j ≠ k)
    (lx : X.env.scope.names.lookup x = some .local) (ly : X.env.scope.names.lookup y = some .local) (lz : Loc X.env.scope z)
    (hi : VI X B (G.w [] []) E tg iter mi) (ok : BlkOk X.N X.env.scope scope own)
    (hg : ∀ (s : Shared) (H : Hp) (C : Addr) (cl : List (Str × Addr)) (fp : List Addr), VG (X.blk s H scope (compEnvC scope cl C X.env) fp) (G.w [] []) tg t)
    (he : ∀ (s : Shared) (H : Hp) (C : Addr) (cl : List (Str × Addr)) (fp : List Addr), VO (X.blk s H scope (compEnvC scope cl C X.env) fp) B (G.w [] []) E0w elt me)
    (hw : VI X B (G.w [] []) E (.Name z pz) witer mw) (hb : PSs X b1 (sWov i j k)) (hr : VSs X B G [] E ro [] On Ol rest mr)
    (hts : ∀ i ∈ t.slots, i ∈ own.map (·.2) := by decide) (hs : ∀ x, foldedSetIterable iter X.env x = pure x := by intro _; rfl) (hs2 : ∀ x, foldedSetIterable witer X.env x = pure x := by intro _; rfl)
    (hsw : swappedStores [.Tuple [.Name x px, .Name y py] kt pt] (.Tuple [.ListComp elt [⟨tg, iter, [], 0⟩] scope cpos, .List [] q7] k2 pt2) X.env = pure (some [x, y]) := by rfl)
    (hso : swapsWithSole [.Tuple [.Name x px, .Name y py] kt pt] (.Tuple [.ListComp elt [⟨tg, iter, [], 0⟩] scope cpos, .List [] q7] k2 pt2) pos.line X.env = pure false := by rfl)
    (st1 : starEach [.ListComp elt [⟨tg, iter, [], 0⟩] scope cpos, .List [] q7] X.env = (false, eval (.ListComp elt [⟨tg, iter, [], 0⟩] scope cpos) X.env) :: starEach [.List [] q7] X.env := by rfl)
    (st2 : starEach [.List [] q7] X.env = (false, eval (.List [] q7) X.env) :: starEach [] X.env := by rfl)
    (hf : X.fn z = true ∨ X.env.scope.names.lookup z = some .local := by first | exact .inl rfl | exact .inr rfl) :
    VSs X B G [] E ro [] On Ol (.Assign [.Tuple [.Name x px, .Name y py] kt pt] (.Tuple [.ListComp elt [⟨tg, iter, [], 0⟩] scope cpos, .List [] q7] k2 pt2) pos :: .For (.Name z pz) witer b1 [] pos2 :: rest)
      (mSeq (mWov i j k (mLc t (own.map (·.2)) mi (M.pure true) me) mw) mr) :=
  PSs.imp (pss_cons (ps_par hc hN hx hy hij lx ly (pa_cons (pe_lc (g := gT X.K (isTup tg) (G.w [] []) t) (tt := tVt X.K B (G.w [] []) E0w (M.pure true)) (te := tO X.K B (G.w [] []) E0w me) hc hN hi ok hg (fun _ _ _ _ _ => vts_nil) he hs) (pa_cons (pe_lst pa_nil) pa_nil st2) st1) hsw hso)
    (pss_cons (ps_for hp hc hw (pg_name hN hz lz hf) hb hs2) hr)) fun N σ H ⟨F, ρ, r, h⟩ => by
    have h1 := Res.bind (Res.bind h)
    unfold tSeq tPar tCons
    dsimp only
    refine tlcN (E := E) hts ⟨F, ρ, r, h1.mono (fun d ρ1 h2 a bs ys H1 F1 ed r1 k1 ha hW hys => ?_) (fun _ _ _ q => q.ex r)⟩
    subst ed
    have h2 : Res ((mw (hide ρ1 i j)).bind fun q => if q.1.length < sizeLine ∧ i < q.2.length ∧ j < q.2.length ∧ k < q.2.length then match wovL q.1 ys [] with
      | some out => (.ok (Fl.nx, (envB q.2 k q.1).set j (some (.list out))) : R (Fl × Env))
      | none => .stuck
    else .stuck) (fun f ρ1 => Res ((match f with
      | .nx => mr
      | .rt d => M.pure (.rt d)
      | .bk => M.pure .bk
      | .ct => M.pure .ct : M Fl) ρ1) (kS X.K G [] ro On Ol F H N) (KexS X.K B G [] E F H)) (KexS X.K B G [] E F H) := h2
    refine ⟨by show 0 ≤ sizeLine; decide, fun c nc => ⟨_, _, rfl, ?_⟩⟩
    have ex := Ext.laid (o := .lst []) r1.trk nc
    have rA := ((r1.to ex).hide1 i (some (.ref a))).hide1 j (some (.ref c))
    have hW2 := hW.ext r1 ex
    have hca : c ≠ a := fun z => by rw [z, hW.ha] at nc; cases nc
    have hcb : c ∉ bs := fun z => by
      obtain ⟨o, ho⟩ := hW.hav c z
      rw [nc] at ho; cases ho
    have h0c : G.H0 c = none := r1.h0 nc
    have nfc : ¬ F1 c := r1.nf nc
    have gA : Grow F H F1 (upd H1 c (.lst [])) := (k1.g (Γ := G.w [] []) r).trans (ex.grow r1.trk)
    cases em : mw (hide ρ1 i j) with
    | stuck => rw [em] at h2; exact h2.elim
    | exc c' fs ρ' =>
      rw [em] at h2
      refine ⟨F1, hide ρ1 i j, rA, ?_⟩
      rw [em]
      exact (KexS.grow h2 gA).ex rA
    | ok p =>
      obtain ⟨ps, ρ3⟩ := p
      rw [em] at h2
      refine ⟨F1, hide ρ1 i j, rA, ?_⟩
      rw [em]
      intro J H2 F2 r2 k2 it
      simp only [R.bind] at h2
      by_cases cz : ps.length < sizeLine ∧ i < ρ3.length ∧ j < ρ3.length ∧ k < ρ3.length
      · rw [if_pos cz] at h2
        cases e2 : wovL ps ys [] with
        | none => rw [e2] at h2; exact h2.elim
        | some outF =>
          rw [e2] at h2
          have h2 : Res (mr ((envB ρ3 k ps).set j (some (.list outF)))) (kS X.K G [] ro On Ol F H N) (KexS X.K B G [] E F H) := h2
          have len2 : ρ3.length = ((σ.set i (some (V.ref a))).set j (some (V.ref c))).length := r2.len
          have k2' : Kp [] ((σ.set i (some (V.ref a))).set j (some (V.ref c))) F1 (upd H1 c (.lst [])) F2 H2 := k2
          have gk := k2.g rA
          have gB : Grow F H F2 H2 := gA.trans gk
          have hW3 := hW2.kp gk k2'
          have hc3 : H2 c = some (.lst []) ∧ ¬ F2 c := by
            obtain ⟨z1, z2⟩ := k2'.keep c (.lst []) upd_same not_own0
            exact ⟨z1, fun z => nfc (z2 z)⟩
          rw [List.length_set, List.length_set] at len2
          have si : ((σ.set i (some (V.ref a))).set j (some (V.ref c)))[i]? = some (some (.ref a)) := by
            rw [List.getElem?_set_ne (Ne.symm hij), List.getElem?_set_self (by omega)]
          have sj : ((σ.set i (some (V.ref a))).set j (some (V.ref c)))[j]? = some (some (.ref c)) := by
            rw [List.getElem?_set_self (by rw [List.length_set]; omega)]
          refine ⟨fun m n σ' H' => n = ps.length - m ∧ m ≤ ps.length ∧ ∃ F' L out vs, Rel X.K (G.w [] []) F' (envB ρ3 k (ps.take m)) σ' H' ∧ Grow F2 H2 F' H' ∧ Wv X.K G F' H' a bs L ∧ H' c = some (.lst vs) ∧ ¬ F' c ∧ DqAll X.K F' H' vs out ∧ σ'[i]? = some (some (.ref a)) ∧ σ'[j]? = some (some (.ref c)) ∧ out.length ≤ m ∧ wovL (ps.drop m) L out = some outF, ⟨ps.length, by simp, Nat.zero_le _, F2, ys, [], [], r2, .refl, hW3, hc3.1, hc3.2, .nil, si, sj, Nat.le_refl _, e2⟩, ?_⟩
          rintro m n σ' H' ⟨rfl, hm, F', L, out, vs, r', g', hW', hcH, ncF, qo, si', sj', hol, hL⟩
          by_cases hlt : m < ps.length
          · have hd : ps[m]? = some ps[m] := List.getElem?_eq_getElem hlt
            obtain ⟨hgo, hy⟩ := it.go m ps[m] F' H' g' r'.trk hd
            refine .inr ⟨hgo, fun σ2 H2' => ∃ F3 L out vs, Rel X.K (G.w [] []) F3 (envB ρ3 k (ps.take (m + 1))) σ2 H2' ∧ Grow F2 H2 F3 H2' ∧ Wv X.K G F3 H2' a bs L ∧ H2' c = some (.lst vs) ∧ ¬ F3 c ∧ DqAll X.K F3 H2' vs out ∧ σ2[i]? = some (some (.ref a)) ∧ σ2[j]? = some (some (.ref c)) ∧ out.length ≤ m + 1 ∧ wovL (ps.drop (m + 1)) L out = some outF, fun σ2 H2' hh => ?_, fun x0 H3 y => ?_⟩
            · obtain ⟨F3, Lq, out2, vs2, q⟩ := hh
              exact ⟨ps.length - (m + 1), by omega, rfl, hlt, F3, Lq, out2, vs2, q⟩
            · obtain ⟨F3, ex3, q⟩ := hy x0 H3 y
              have q : Dq X.K F3 H3 x0 ps[m] := q
              have r3 := r'.to ex3
              have W3 := hW'.ext r' ex3
              have gx := ex3.grow r'.trk
              have hc4 : H3 c = some (.lst vs) := ex3.same c _ hcH
              have nc4 : ¬ F3 c := fun z => by
                rcases ex3.new c z with z | z
                · exact ncF z
                · rw [hcH] at z; cases z
              have qo3 := qo.grow gx
              rw [List.drop_eq_getElem_cons hlt] at hL
              obtain ⟨⟨d0, Lq⟩, hS, hL2⟩ := Option.bind_eq_some_iff.mp (show (wovS L ps[m]).bind (fun r => wovL (ps.drop (m + 1)) r.2 (out ++ [r.1])) = some outF from hL)
              have hlen' := r'.len
              rw [envB_len] at hlen'
              cases hpm : ps[m] with
              | int n =>
                rw [hpm] at hS q
                have hx0 := dq_int q
                subst hx0
                cases hix : L2.ixN L.length n with
                | none => simp only [wovS, hix] at hS; cases hS
                | some w =>
                  simp only [wovS, hix] at hS
                  cases hLw : L[w]? with
                  | none => rw [hLw] at hS; cases hS
                  | some dw =>
                    rw [hLw] at hS
                    cases dw with
                    | list zs =>
                      cases zs with
                      | nil => cases hS
                      | cons z0 zs =>
                        cases hS
                        have hwl := (List.getElem?_eq_some_iff.mp hLw).1
                        have hbl : w < bs.length := by rw [W3.len]; exact hwl
                        have hbw : bs[w]? = some bs[w] := List.getElem?_eq_getElem hbl
                        have hbm : bs[w] ∈ bs := List.getElem_mem hbl
                        have hbc : bs[w] ≠ c := fun z => hcb (z ▸ hbm)
                        generalize bs[w] = b at hbw hbm hbc
                        have oa := W3.at' w b _ hbw hLw
                        cases oa with
                        | @lst us _ hH qu =>
                          cases qu with
                          | @cons u0 us' _ _ qu0 qus =>
                            have nb := W3.nfb b hbm
                            have hat : L2.atI (bs.map V.ref) n = some (.ref b) := by
                              unfold L2.atI
                              rw [List.length_map, W3.len, hix]
                              show (bs.map V.ref)[w]? = _
                              rw [List.getElem?_map, hbw]
                              rfl
                            have W4 := W3.pop hbw hH qus
                            obtain ⟨rb, gb⟩ := rel_mut0 (ys := us') r3 nb.1 nb.2 hH
                            have hc5 : (upd H3 b (.lst us')) c = some (.lst vs) := by rw [upd_ne (Ne.symm hbc)]; exact hc4
                            have W5 := W4.off (o' := .lst (vs ++ [u0])) nc4 hc5 (fun xs z => by cases z) hca hcb
                            obtain ⟨rc, gc⟩ := rel_mut0 (ys := vs ++ [u0]) rb nc4 h0c hc5
                            have rk := rc.setD (i := k) (v := .int n) (.int n) (fun a z => (List.not_mem_nil z).elim)
                            have hes : (envB ρ3 k (ps.take m)).set k (some (.int n)) = envB ρ3 k (ps.take (m + 1)) := by
                              rw [← hpm]
                              exact envB_set ρ3 k hlt
                            rw [hes] at rk
                            have hkl : k < σ'.length := by omega
                            refine ⟨c, vs, a, bs.map V.ref, n, b, u0, us', ?_, hc4, by rw [qo3.length]; omega, ?_, W3.ha, ?_, hat, hH, hbc, F3, L.set w (.list zs), out ++ [d0], vs ++ [u0], rk, ((g'.trans gx).trans gb).trans gc, W5, upd_same, nc4, ?_, ?_, ?_, by rw [List.length_append]; exact Nat.succ_le_succ hol, hL2⟩
                            · rw [List.getElem?_set_ne (Ne.symm hjk)]; exact sj'
                            · rw [List.getElem?_set_ne (Ne.symm hik)]; exact si'
                            · exact List.getElem?_set_self hkl
                            · exact (((qo3.grow gb).append (.cons (qu0.grow gb) .nil)).grow gc)
                            · rw [List.getElem?_set_ne (Ne.symm hik)]; exact si'
                            · rw [List.getElem?_set_ne (Ne.symm hjk)]; exact sj'
                    | _ => cases hS
              | _ => rw [hpm] at hS; cases hS
          · have e : m = ps.length := by omega
            subst e
            rw [List.drop_length] at hL
            cases hL
            rw [List.take_length] at r'
            refine .inl ⟨it.stop F' H' g' r'.trk, ?_⟩
            have g : Grow F' H' (fun b => F' b ∨ b = c) H' := ⟨fun b hb => ⟨.inl hb, rfl⟩, fun _ _ h => h⟩
            have r4 := r'.freeze hcH h0c not_own0
            have r5 := r4.shew sj' (.lst (.inr rfl) hcH (qo.grow g))
            exact ⟨_, _, r5, h2.mono (fun f ρ2 q => q.grow ((gB.trans g').trans g)) (fun _ _ _ q => q.grow ((gB.trans g').trans g))⟩
      · rw [if_neg cz] at h2; exact h2.elim
end
end VL
end

section
set_option Elab.async false
set_option linter.all false
set_option maxRecDepth 100000
set_option maxHeartbeats 4000000
namespace VL
open PySem PySem.Spec PyProof.Rows L2
set_option autoImplicit false
/-! ### list(range(e)) -/
def gLRg : D → Option D
  | .int n => if lim62 n = true ∧ n.toNat ≤ 2 ^ 24 then some (.list (rng 0 n.toNat)) else none
  | _ => none
section
variable {X : Cx} {B : Eb} {Γ : Gm} {E : Wish} {e : Expr} {me : M D}
theorem dq_rg {K : PySem.W.Frag} {F : Fz} {H : Hp} (n : Int) : DqAll K F H (rgV 0 n) (rng 0 n.toNat) := by
  unfold rgV rng
  rw [show (n - 0).toNat = n.toNat by rw [Int.sub_zero]]
  generalize List.range n.toNat = l
  induction l with
  | nil => exact .nil
  | cons k l ih => exact .cons (.int _) ih
theorem vo_lstRg {p p2 q pos : Pos} (hc : X.calm = true) (hg : Gl X "list") (hm : X.mg "list" = none) (hg2 : Gl X "range") (hm2 : X.mg "range" = none) (he : VE X B Γ E e me)
    (na : starEach [e] X.env = (false, eval e X.env) :: starEach [] X.env := by rfl)
    (na2 : starEach [.Call (.Name "range" p2) [e] [] q] X.env = (false, eval (.Call (.Name "range" p2) [e] [] q) X.env) :: starEach [] X.env := by rfl) :
    VO X B Γ E (.Call (.Name "list" p) [.Call (.Name "range" p2) [e] [] q] [] pos) (m1 gLRg me) :=
  PE.imp (pe_listRg hc hg hm (prg_1 hg2 hm2 he na) na2) fun σ H Q ⟨F, ρ, r, h⟩ => ⟨F, ρ, r, (Res.bind h).mono (fun d ρ1 h1 v H1 F1 r1 g1 q1 => by
    obtain ⟨d2, e1, h2⟩ := Res.of h1
    cases d with
    | int n =>
      cases dq_int q1
      have e1 : (if lim62 n = true ∧ n.toNat ≤ 2 ^ 24 then some (PyData.list (rng 0 n.toNat)) else none) = some d2 := e1
      by_cases c : lim62 n = true ∧ n.toNat ≤ 2 ^ 24
      · rw [if_pos c] at e1
        cases e1
        have hl := c.1
        unfold lim62 at hl
        simp only [Bool.and_eq_true, decide_eq_true_eq] at hl
        refine ⟨n, rfl, ⟨by decide, by decide, by omega, by omega, by rw [Int.sub_zero]; exact c.2⟩, fun p np => ?_⟩
        have ex := Ext.laid (o := .lst (rgV 0 n)) r1.trk np
        exact h2 (.ref p) _ _ (r1.to ex) (g1.trans ex.kp) ⟨p, rfl, .lst upd_same (dq_rg n), r1.nf np, g1.none0 r1 np⟩
      · rw [if_neg c] at e1; cases e1
    | _ => cases e1) (fun _ _ _ k => k)⟩
theorem gLRg_nat {n : Nat} (h : n < 100000) : gLRg (.int (n : Int)) = some (.list (rng 0 n)) := by
  unfold gLRg
  dsimp only
  have e : lim62 (n : Int) = true := by
    unfold lim62
    simp only [Bool.and_eq_true, decide_eq_true_eq]
    omega
  rw [if_pos ⟨e, by rw [Int.toNat_natCast]; omega⟩, Int.toNat_natCast]
end
end VL
end

section
set_option Elab.async false
set_option linter.all false
set_option maxRecDepth 100000
set_option maxHeartbeats 4000000
namespace VL
open PySem PySem.Spec PyProof.Rows L2
set_option autoImplicit false
def lstOf : D → Option (List D)
  | .list ys => some ys
  | _ => none
def wovAt (i j k : Nat) (ρ : Env) (ps ys : List D) : Option (List D) := if ps.length < sizeLine ∧ i < ρ.length ∧ j < ρ.length ∧ k < ρ.length then wovL ps ys [] else none
namespace P0
section
variable {E : XE} {ρ : Env} {mt : M Bool} {mb : M Fl} {mc : M D} {mw : M (List D)}
theorem w_whS {Q : Fl → Env → Prop} (k : Nat) : wM (whL mt mb (k + 1)) ρ Q E = wM mt ρ (fun b ρ1 => wIf b (wM mb ρ1 (fun f ρ2 => match f with
    | .nx => wM (whL mt mb k) ρ2 Q E
    | .ct => wM (whL mt mb k) ρ2 Q E
    | .bk => Q .nx ρ2
    | .rt d => Q (.rt d) ρ2) E) (Q .nx ρ1)) E := by
  show wX ((mt ρ).bind fun p => _) _ _ = _
  rw [wX_bind]
  show wX (mt ρ) _ E = wX (mt ρ) _ E
  congr 1
  funext p
  obtain ⟨b, ρ1⟩ := p
  cases b with
  | false => rfl
  | true =>
    show wX ((mb ρ1).bind fun p => _) _ _ = _
    rw [wX_bind]
    show _ = wX (mb ρ1) _ E
    congr 1
    funext p
    obtain ⟨f, ρ2⟩ := p
    cases f <;> rfl
theorem w_wh {Q : Fl → Env → Prop} : wM (mWhile mt mb) ρ Q E = wM (whL mt mb 1000) ρ Q E := rfl
theorem w_wov {Q : Fl → Env → Prop} (i j k : Nat) : wM (mWov i j k mc mw) ρ Q E = wM mc ρ (fun d ρ1 => wO (lstOf d) fun ys => wM mw (hide ρ1 i j) (fun ps ρ2 => wO (wovAt i j k ρ2 ps ys) fun out => Q .nx ((envB ρ2 k ps).set j (some (.list out)))) E) E := by
  unfold mWov
  rw [w_bind]
  congr 1
  funext d ρ1
  cases d with
  | list ys =>
    show wX ((mw (hide ρ1 i j)).bind fun q => _) _ _ = _
    rw [wX_bind]
    show _ = wX (mw (hide ρ1 i j)) _ E
    congr 1
    funext p
    obtain ⟨ps, ρ2⟩ := p
    unfold wovAt
    dsimp only
    by_cases c : ps.length < sizeLine ∧ i < ρ2.length ∧ j < ρ2.length ∧ k < ρ2.length
    · rw [if_pos c, if_pos c]
      cases wovL ps ys [] <;> rfl
    · rw [if_neg c, if_neg c]; rfl
  | _ => rfl
end
end P0
end VL
end

section
set_option Elab.async false
set_option linter.all false
set_option maxRecDepth 100000
set_option maxHeartbeats 4000000
namespace VL
open PySem PySem.Spec PyProof.Rows L2
set_option autoImplicit false
section
variable {E : XE} {ρ : Env} {mt : M Bool} {mb : M Fl} {mc : M D} {mw : M (List D)}
theorem w_whS {Q : Fl → Env → Prop} (k : Nat) : wM (whL mt mb (k + 1)) ρ Q E = wM mt ρ (fun b ρ1 => wIf b (wM mb ρ1 (fun f ρ2 => match f with
    | .nx => wM (whL mt mb k) ρ2 Q E
    | .ct => wM (whL mt mb k) ρ2 Q E
    | .bk => Q .nx ρ2
    | .rt d => Q (.rt d) ρ2) E) (Q .nx ρ1)) E := by with_unfolding_all first | exact P0.w_whS | exact P0.w_whS .. | (apply P0.w_whS <;> assumption)
theorem w_wh {Q : Fl → Env → Prop} : wM (mWhile mt mb) ρ Q E = wM (whL mt mb 1000) ρ Q E := by with_unfolding_all first | exact P0.w_wh | exact P0.w_wh .. | (apply P0.w_wh <;> assumption)
theorem w_wov {Q : Fl → Env → Prop} (i j k : Nat) : wM (mWov i j k mc mw) ρ Q E = wM mc ρ (fun d ρ1 => wO (lstOf d) fun ys => wM mw (hide ρ1 i j) (fun ps ρ2 => wO (wovAt i j k ρ2 ps ys) fun out => Q .nx ((envB ρ2 k ps).set j (some (.list out)))) E) E := by with_unfolding_all first | exact P0.w_wov | exact P0.w_wov .. | (apply P0.w_wov <;> assumption)
end
end VL
end

section
set_option Elab.async false
set_option linter.all false
set_option maxRecDepth 100000
namespace LL
open PySem VL
def f_ways_of : Fn := runF false 5 [] ((mSeq (mPar [1, 2] (mCons (mC (.int 1)) (mCons (mC (.int 0)) mNil)))
  (mSeq (mFor (.nm 3) (mSeqOf (mVar 0))
  (mFor (.nm 4) (mRng rng2 (mCons (mC (.int 1)) (mCons (m2 gAdd (mVar 3) (mC (.int 1))) mNil)))
  (mSeq (mAug (fun i j => i + j) 2 (mC (.int 1)))
  (mSet 1 (m2 gFdv (m2 gMul (mVar 1) (mVar 2)) (mVar 4))))))
  (mRet (mVar 1)))))
def f_how_many_ways : Fn := runF false 2 [] ((mRet (mCallF f_ways_of [.dat] (mCons (mLc (.nm 1) [1] (mSeqOf (mVar 0)) (M.pure true) (mCall cLen (mCons (mVar 1) mNil))) mNil))))
def f_one_less : Fn := runF false 4 [] ((mRet (mLc (.tp [(.nm 2), (.nm 3)]) [2, 3] (mRng cEnum (mCons (mVar 0) mNil)) (M.pure true) (m2 gSub (mVar 3) (mCall cInt (mCons (m2 gEq (mVar 2) (mVar 1)) mNil))))))
def f_nth_way : Fn := runF false 9 [] ((mSeq (mPar [2, 3, 4] (mCons (mLc (.nm 8) [8] (mSeqOf (mVar 0)) (M.pure true) (mCall cLen (mCons (mVar 8) mNil))) (mCons (mVar 1) (mCons (mLst mNil) mNil))))
  (mSeq (mIfS (mNot (mTruth (mChain gLe gLt (mC (.int 0)) (mVar 1) (mCallF f_ways_of [.dat] (mCons (mVar 2) mNil)))))
  (mRaise1 2 (mVar 1))
  mNx)
  (mSeq (mWhile (mTruth (m2 gGt (mCall cSum (mCons (mVar 2) mNil)) (mC (.int 0))))
  (mSeq (mFor (.tp [(.nm 5), (.nm 6)]) (mRng cEnum (mCons (mVar 2) mNil))
  (mSeq (mSet 7 (mIf (mTruth (m2 gGt (mVar 6) (mC (.int 0)))) (mCallF f_ways_of [.dat] (mCons (mCallF f_one_less [.dat, .dat] (mCons (mVar 2) (mCons (mVar 5) mNil))) mNil)) (mC (.int 0))))
  (mSeq (mIfS (mTruth (m2 gLt (mVar 3) (mVar 7)))
  (M.pure .bk)
  mNx)
  (mAug (fun i j => i - j) 3 (mVar 7)))))
  (mSeq (mSet 2 (mCallF f_one_less [.dat, .dat] (mCons (mVar 2) (mCons (mVar 5) mNil))))
  (mDrop (mApp 4 (mVar 5))))))
  (mRet (mCall cTup (mCons (mVar 4) mNil)))))))
def f_number_of_way : Fn := runF false 7 [] ((mSeq (mPar [2, 3] (mCons (mLc (.nm 5) [5] (mSeqOf (mVar 0)) (M.pure true) (mCall cLen (mCons (mVar 5) mNil))) (mCons (mC (.int 0)) mNil)))
  (mSeq (mFor (.nm 4) (mSeqOf (mVar 1))
  (mSeq (mAug (fun i j => i + j) 3 (mCall cSum (mCons (mLc (.nm 6) [6] (mRng rng1 (mCons (mVar 4) mNil)) (mTruth (m2 gGt (m2 gIx (mVar 2) (mVar 6)) (mC (.int 0)))) (mCallF f_ways_of [.dat] (mCons (mCallF f_one_less [.dat, .dat] (mCons (mVar 2) (mCons (mVar 6) mNil))) mNil))) mNil)))
  (mSet 2 (mCallF f_one_less [.dat, .dat] (mCons (mVar 2) (mCons (mVar 4) mNil))))))
  (mRet (mVar 3)))))
def f_woven : Fn := runF false 6 [] ((mSeq (mWov 2 3 4 (mLc (.nm 5) [5] (mSeqOf (mCallF (f_tupled 16) [.dat] (mCons (mVar 0) mNil))) (M.pure true) (mCall cLst (mCons (mVar 5) mNil))) (mSeqOf (mVar 1)))
  (mRet (mCall cTup (mCons (mVar 3) mNil)))))
def f__law_box_v58 : Fn := runF true 3 [] ((mSeq (mSet 2 (mIf (mTruth (m2 gLt (mVar 1) (mCall cLen (mCons (mVar 0) mNil)))) (m2 gIx (mVar 0) (mVar 1)) (mC (.int 0))))
  (mRet (mLst (mCons (m2 gMul (mCall cAbs (mCons (mVar 2) mNil)) (mCall cInt (mCons (m2 gGe (mCall cAbs (mCons (mVar 2) mNil)) (m2 gPow (mC (.int 10)) (mC (.int 18)))) mNil))) (mCons (m2 gAdd (m2 gAdd (m2 gMod (mCall cInt (mCons (mVar 2) mNil)) (mC (.int 2305843009213693951))) (m2 gMul (mC (.int 39373)) (mVar 1))) (mC (.int 2142))) (mCons (mC (.int 0)) mNil)))))))
def f__law_limits : Fn := runF false 7 [0] ((mSeq (mSet 4 (mLst mNil))
  (mSeq (mFor (.nm 5) (mRng rng1 (mCons (mCallF f__law_take [.slot 0, .dat] (mSlot 0 (mCons (m2 gAdd (mVar 2) (mC (.int 1))) mNil))) mNil))
  (mSeq (mSet 6 (mCallF f__law_of [.slot 0, .dat] (mSlot 0 (mCons (mLst (mCons (mC (.str "most")) (mCons (mC (.str "least")) mNil))) mNil))))
  (mDrop (mApp 4 (mTup (mCons (mVar 6) (mCons (mCallF f__law_of [.slot 0, .dat] (mSlot 0 (mCons (mVar 1) mNil))) (mCons (m2 gSub (mCallF f__law_take [.slot 0, .dat] (mSlot 0 (mCons (m2 gAdd (m2 gMul (mC (.int 2)) (mVar 3)) (mC (.int 1))) mNil))) (mVar 3)) mNil))))))))
  (mRet (mCall cTup (mCons (mVar 4) mNil))))))
def f__law_ways : Fn := runF false 8 [] ((mSeq (mSet 1 (mLst (mCons (mTup (mCons (mTup mNil) (mCons (mCall cTup (mCons (mVar 0) mNil)) mNil))) mNil)))
  (mSeq (mFor (.nm 2) (mRng rng1 (mCons (mCall cSum (mCons (mVar 0) mNil)) mNil))
  (mSeq (mSet 3 (mLst mNil))
  (mSeq (mFor (.tp [(.nm 4), (.nm 5)]) (mSeqOf (mVar 1))
  (mFor (.nm 6) (mSeqOf (mLc (.nm 6) [6] (mRng rng1 (mCons (mCall cLen (mCons (mVar 5) mNil)) mNil)) (mTruth (m2 gGt (m2 gIx (mVar 5) (mVar 6)) (mC (.int 0)))) (mVar 6)))
  (mDrop (mApp 3 (mTup (mCons (m2 gAdd (mVar 4) (mTup (mCons (mVar 6) mNil))) (mCons (m2 gAdd (m2 gAdd (mSl gSl (mVar 5) mNoPart (mPart (mVar 6))) (mTup (mCons (m2 gSub (m2 gIx (mVar 5) (mVar 6)) (mC (.int 1))) mNil))) (mSl gSl (mVar 5) (mPart (m2 gAdd (mVar 6) (mC (.int 1)))) mNoPart)) mNil)))))))
  (mSet 1 (mVar 3)))))
  (mRet (mLc (.nm 7) [7] (mSeqOf (mVar 1)) (M.pure true) (m2 gIx (mVar 7) (mC (.int 0))))))))
def f__law_woven : Fn := runF false 5 [] ((mSeq (mPar [2, 3] (mCons (m2 gRep (mLst (mCons (mC (.int 0)) mNil)) (mCall cLen (mCons (mVar 0) mNil))) (mCons (mLst mNil) mNil)))
  (mSeq (mFor (.nm 4) (mSeqOf (mVar 1))
  (mSeq (mDrop (mApp 3 (m2 gIx (m2 gIx (mVar 0) (mVar 4)) (mIxO 2 (mVar 4)))))
  (mSetIx 2 (m2 gAdd (mIxO 2 (mVar 4)) (mC (.int 1))) (mVar 4))))
  (mRet (mCall cTup (mCons (mVar 3) mNil))))))
def f__law_heard_v15 : Fn := runF false 4 [] ((mSeq (mSet 2 (mC .none))
  (mSeq (mTry (mDrop (mCallF f_nth_way [.dat, .dat] (mCons (mVar 0) (mCons (mVar 1) mNil)))) [(fun c => List.lookup c ([(2, true)] : List (Nat × Bool)), 3, (mSet 2 (mVar 3)))])
  (mRet (mIf (mTruth (m2 gIs (mVar 2) (mC .none))) (mC .none) (mLst (mCons (m1 (gFld ["NoNumber"] "number") (mVar 2)) (mCons (m1 (gIsx (fun nm => List.lookup nm ([("NoNumber", true)] : List (Str × Bool))) none) (mVar 2)) mNil))))))))
def f__law_by_hand_right_v25 : Fn := runF false 10 [] ((mSeq (mPar [0, 1] (mCons (mTup (mCons (mTup (mCons (mC (.str "most")) (mCons (mC (.str "cap")) (mCons (mC (.int 0)) mNil)))) mNil)) (mCons (mTup (mCons (mTup (mCons (mC (.str "least")) (mCons (mC (.str "floor")) (mCons (mC (.int 0)) mNil)))) mNil)) mNil)))
  (mSeq (mSet 2 (mLst (mCons (mTup (mCons (mVar 0) (mCons (mVar 1) mNil))) (mCons (mTup (mCons (m2 gMul (mVar 0) (mC (.int 3))) (mCons (m2 gMul (mVar 1) (mC (.int 2))) (mCons (mVar 0) mNil)))) (mCons (mTup (mCons (mTup mNil) mNil)) (mCons (mTup (mCons (mTup mNil) (mCons (mTup mNil) (mCons (mTup mNil) mNil)))) (mCons (mTup (mCons (m2 gMul (mVar 0) (mC (.int 24))) mNil)) (mCons (mTup (mCons (mVar 0) (mCons (mVar 0) (mCons (mVar 0) (mCons (mVar 0) mNil))))) mNil))))))))
  (mSeq (mSet 3 (mLc (.nm 9) [9] (mSeqOf (mVar 2)) (M.pure true) (mCallF f_how_many_ways [.dat] (mCons (mVar 9) mNil))))
  (mSeq (mSet 4 (mLst (mCons (mC (.int 2)) (mCons (mC (.int 60)) (mCons (mC (.int 1)) (mCons (mC (.int 1)) (mCons (mC (.int 1)) (mCons (mC (.int 24)) mNil))))))))
  (mSeq (mBind (.tp [(.nm 5), (.nm 6), (.nm 7)]) (mTup (mCons (mC (.int 2308743493056)) (mCons (mTup (mCons (m2 gMul (mVar 0) (mC (.int 6))) (mCons (m2 gMul (mVar 1) (mC (.int 6))) (mCons (m2 gMul (mVar 0) (mC (.int 6))) (mCons (m2 gMul (mVar 1) (mC (.int 6))) mNil))))) (mCons (mTup (mCons (m2 gMul (mVar 0) (mC (.int 12))) (mCons (m2 gMul (mVar 1) (mC (.int 12))) mNil))) mNil)))))
  (mSeq (mSet 3 (m2 gCat (mVar 3) (mLst (mCons (mCallF f_how_many_ways [.dat] (mCons (mVar 6) mNil)) (mCons (mCallF f_nth_way [.dat, .dat] (mCons (mVar 6) (mCons (m2 gSub (mVar 5) (mC (.int 1))) mNil))) (mCons (mCallF f_nth_way [.dat, .dat] (mCons (mVar 6) (mCons (mC (.int 0)) mNil))) (mCons (mCallF f_how_many_ways [.dat] (mCons (mVar 7) mNil)) mNil)))))))
  (mSeq (mSet 8 (m2 gAdd (m2 gAdd (m2 gAdd (m2 gMul (mTup (mCons (mC (.int 3)) mNil)) (mC (.int 6))) (m2 gMul (mTup (mCons (mC (.int 2)) mNil)) (mC (.int 6)))) (m2 gMul (mTup (mCons (mC (.int 1)) mNil)) (mC (.int 6)))) (m2 gMul (mTup (mCons (mC (.int 0)) mNil)) (mC (.int 6)))))
  (mSeq (mSet 4 (m2 gAdd (mVar 4) (mLst (mCons (mVar 5) (mCons (mVar 8) (mCons (m1 gRevA (mVar 8)) (mCons (mC (.int 2704156)) mNil)))))))
  (mSeq (mSet 3 (m2 gCat (mVar 3) (mLst (mCons (mCallF f_number_of_way [.dat, .dat] (mCons (mVar 6) (mCons (mVar 8) mNil))) (mCons (mCallF f_number_of_way [.dat, .dat] (mCons (mVar 6) (mCons (m2 gAdd (m2 gAdd (mTup (mCons (mC (.int 1)) mNil)) (mSl gSl (m1 gRevA (mVar 8)) mNoPart (mPart (mC (.int 6))))) (mSl gSl (m1 gRevA (mVar 8)) (mPart (mC (.int 7))) mNoPart)) mNil))) mNil)))))
  (mSeq (mSet 4 (m2 gAdd (mVar 4) (mLst (mCons (m2 gSub (mVar 5) (mC (.int 1))) (mCons (m2 gFdv (mVar 5) (mC (.int 4))) mNil)))))
  (mSeq (mSet 3 (m2 gCat (mVar 3) (mLst (mCons (mCallF f_nth_way [.dat, .dat] (mCons (mVar 7) (mCons (mC (.int 1)) mNil))) (mCons (mCallF f_nth_way [.dat, .dat] (mCons (mVar 7) (mCons (m2 gFdv (mC (.int 2704156)) (mC (.int 2))) mNil))) (mCons (mCallF f_nth_way [.dat, .dat] (mCons (mVar 7) (mCons (mC (.int 2704154)) mNil))) mNil))))))
  (mSeq (mSet 4 (m2 gAdd (mVar 4) (mLst (mCons (m2 gAdd (m2 gAdd (m2 gMul (mTup (mCons (mC (.int 0)) mNil)) (mC (.int 11))) (mTup (mCons (mC (.int 1)) (mCons (mC (.int 0)) mNil)))) (m2 gMul (mTup (mCons (mC (.int 1)) mNil)) (mC (.int 11)))) (mCons (m2 gAdd (m2 gAdd (mTup (mCons (mC (.int 1)) mNil)) (m2 gMul (mTup (mCons (mC (.int 0)) mNil)) (mC (.int 12)))) (m2 gMul (mTup (mCons (mC (.int 1)) mNil)) (mC (.int 11)))) (mCons (m2 gAdd (m2 gAdd (m2 gMul (mTup (mCons (mC (.int 1)) mNil)) (mC (.int 11))) (mTup (mCons (mC (.int 0)) (mCons (mC (.int 1)) mNil)))) (m2 gMul (mTup (mCons (mC (.int 0)) mNil)) (mC (.int 11)))) mNil))))))
  (mSeq (mSet 3 (m2 gCat (mVar 3) (mLc (.nm 9) [9] (mSeqOf (mTup (mCons (mC (.int 2704156)) (mCons (m1 gNeg (mC (.int 1))) (mCons (m2 gPow (mC (.int 10)) (mC (.int 40))) (mCons (mC (.int 0)) mNil)))))) (M.pure true) (mCallF f__law_heard_v15 [.dat, .dat] (mCons (mVar 7) (mCons (mVar 9) mNil))))))
  (mSeq (mSet 4 (m2 gAdd (mVar 4) (mLst (mCons (mLst (mCons (mC (.int 2704156)) (mCons (mC (.bool true)) mNil))) (mCons (mLst (mCons (m1 gNeg (mC (.int 1))) (mCons (mC (.bool true)) mNil))) (mCons (mLst (mCons (m2 gPow (mC (.int 10)) (mC (.int 40))) (mCons (mC (.bool true)) mNil))) (mCons (mC .none) mNil)))))))
  (mSeq (mSet 3 (m2 gCat (mVar 3) (mLst (mCons (mCallF f_woven [.dat, .dat] (mCons (mTup (mCons (mVar 0) (mCons (mVar 1) mNil))) (mCons (mTup (mCons (mC (.int 1)) (mCons (mC (.int 0)) mNil))) mNil))) (mCons (mCallK f_woven [1, 0] (mCons (mLst (mCons (mC (.int 0)) (mCons (mC (.int 1)) mNil))) (mCons (mCallF (f__law_lists 16) [.dat] (mCons (mTup (mCons (mVar 0) (mCons (mVar 1) mNil))) mNil)) mNil))) (mCons (mCallF f_woven [.dat, .dat] (mCons (mTup (mCons (mTup mNil) mNil)) (mCons (mTup mNil) mNil))) mNil))))))
  (mSeq (mSet 4 (m2 gAdd (mVar 4) (mLst (mCons (m2 gAdd (mVar 1) (mVar 0)) (mCons (m2 gAdd (mVar 0) (mVar 1)) (mCons (mTup mNil) mNil))))))
  (mSeq (mDrop (mApp 3 (mCallK f_nth_way [1, 0] (mCons (mC (.int 1)) (mCons (mCallF (f__law_lists 16) [.dat] (mCons (mTup (mCons (mVar 0) (mCons (mVar 1) mNil))) mNil)) mNil)))))
  (mSeq (mDrop (mApp 3 (mCallK f_number_of_way [1, 0] (mCons (mLst (mCons (mC (.int 1)) (mCons (mC (.int 0)) mNil))) (mCons (mLst (mCons (mCall cLst (mCons (mVar 0) mNil)) (mCons (mCall cLst (mCons (mVar 1) mNil)) mNil))) mNil)))))
  (mRet (mCallF (f__law_same 16) [.dat, .dat] (mCons (mVar 3) (mCons (m2 gAdd (mVar 4) (mLst (mCons (mTup (mCons (mC (.int 1)) (mCons (mC (.int 0)) mNil))) (mCons (mC (.int 1)) mNil)))) mNil)))))))))))))))))))))))
def f__law_right_v58 : Fn := runF false 13 [0] ((mSeq (mFor (.nm 1) (mRng rng1 (mCons (mC (.int 6)) mNil))
  (mSeq (mPar [2, 3, 4] (mCons (mCallF f__law_tags [.slot 0, .dat] (mSlot 0 (mCons (mC (.int 3)) mNil))) (mCons (mLst mNil) (mCons (mC (.int 6)) mNil))))
  (mSeq (mFor (.nm 5) (mRng rng1 (mCons (m2 gAdd (mC (.int 1)) (mCallF f__law_take [.slot 0, .dat] (mSlot 0 (mCons (mC (.int 4)) mNil)))) mNil))
  (mSeq (mDrop (mApp 3 (mCallF f__law_limits [.slot 0, .dat, .dat, .dat] (mSlot 0 (mCons (mVar 2) (mCons (mCall cMin2 (mCons (mVar 4) (mCons (mC (.int 3)) mNil))) (mCons (mC (.int 9)) mNil)))))))
  (mSet 4 (m2 gSub (mVar 4) (mCall cLen (mCons (mIxO 3 (m1 gNeg (mC (.int 1)))) mNil))))))
  (mSeq (mSet 3 (mCall cTup (mCons (mVar 3) mNil)))
  (mSeq (mPar [6, 7] (mCons (mCallF f__law_ways [.dat] (mCons (mLc (.nm 12) [12] (mSeqOf (mVar 3)) (M.pure true) (mCall cLen (mCons (mVar 12) mNil))) mNil)) (mCons (mCallF (f__law_lists 16) [.dat] (mCons (mVar 3) mNil)) mNil)))
  (mSeq (mSet 8 (mLst (mCons (mCallF f_how_many_ways [.dat] (mCons (mVar 3) mNil)) (mCons (mCallK f_how_many_ways [0] (mCons (mVar 7) mNil)) (mCons (mLc (.nm 10) [10] (mRng rng1 (mCons (mCall cLen (mCons (mVar 6) mNil)) mNil)) (M.pure true) (mCallF f_nth_way [.dat, .dat] (mCons (mVar 3) (mCons (mVar 10) mNil)))) mNil)))))
  (mSeq (mSet 8 (m2 gAdd (mVar 8) (mLst (mCons (mLc (.nm 11) [11] (mSeqOf (mVar 6)) (M.pure true) (mCallF f_number_of_way [.dat, .dat] (mCons (mVar 3) (mCons (mVar 11) mNil)))) (mCons (mLc (.nm 11) [11] (mSeqOf (mVar 6)) (M.pure true) (mCallF f_woven [.dat, .dat] (mCons (mVar 7) (mCons (mCall cLst (mCons (mVar 11) mNil)) mNil)))) mNil)))))
  (mSeq (mSet 9 (mLst (mCons (mCall cLen (mCons (mVar 6) mNil)) (mCons (mCall cLen (mCons (mVar 6) mNil)) (mCons (mVar 6) (mCons (m1 gLRg (mCall cLen (mCons (mVar 6) mNil))) mNil))))))
  (mSeq (mDrop (mApp 9 (mLc (.nm 11) [11] (mSeqOf (mVar 6)) (M.pure true) (mCallF f__law_woven [.dat, .dat] (mCons (mVar 3) (mCons (mVar 11) mNil))))))
  (mSeq (mSet 8 (m2 gAdd (mVar 8) (mLst (mCons (mCallF f__law_heard_v15 [.dat, .dat] (mCons (mVar 3) (mCons (mCall cLen (mCons (mVar 6) mNil)) mNil))) (mCons (mCallF f__law_heard_v15 [.dat, .dat] (mCons (mVar 7) (mCons (m1 gNeg (mC (.int 1))) mNil))) (mCons (mVar 7) mNil))))))
  (mIfS (mNot (mTruth (mCallF (f__law_same 16) [.dat, .dat] (mCons (mVar 8) (mCons (m2 gAdd (mVar 9) (mLst (mCons (mLst (mCons (mCall cLen (mCons (mVar 6) mNil)) (mCons (mC (.bool true)) mNil))) (mCons (mLst (mCons (m1 gNeg (mC (.int 1))) (mCons (mC (.bool true)) mNil))) (mCons (mCallF (f__law_lists 16) [.dat] (mCons (mVar 3) mNil)) mNil))))) mNil)))))
  (mRet (mC (.bool false)))
  mNx)))))))))))
  (mRet (mC (.bool true)))))
def f_law_v58 : Fn := runF false 3 [] ((mSeq (mIfS (mNot (mTruth (mCallF f__law_by_hand_right_v25 [] mNil)))
  (mRet (mC (.bool false)))
  mNx)
  (mSeq (mSet 1 (mCallF f__law_cells [.dat, .dat] (mCons (mVar 0) (mCons (mC (.int 3)) mNil))))
  (mRet (mCall cAll (mCons (mLc (.nm 2) [2] (mRng rng1 (mCons (mCall cLen (mCons (mVar 1) mNil)) mNil)) (M.pure true) (mCallF f__law_right_v58 [.tmp] (mCons (mCallF f__law_box_v58 [.dat, .dat] (mCons (mVar 1) (mCons (mVar 2) mNil))) mNil))) mNil))))))
end LL
end

section
set_option Elab.async false
set_option linter.all false
set_option maxRecDepth 100000
set_option maxHeartbeats 4000000
/-! three fors in one list comprehension: each level by itself -/
namespace L3
open PySem PySem.Spec PyProof.Rows L2
section
variable {prog : Program} {w : World} {A : Around} {R : Result → Shared → Prop} {s : Shared} {tg nx elt : Expr} {gens : List Comprehension} {ifs : List Expr} {scope : Scope} {pos p0 : Pos} {it acc : Value} {env : Env} {k k' : Nat}
end
end L3
end

section
set_option Elab.async false
set_option linter.all false
set_option maxRecDepth 100000
set_option maxHeartbeats 4000000
namespace L3
open PySem PySem.Spec PyProof.Rows L2
abbrev Sl0 := L2.St
section
variable {Y : Cx} {pins : List (Addr × Obj)} {tg nx elt : Expr} {gens : List Comprehension} {ifs : List Expr} {scope : Scope} {pos p0 : Pos} {k k' : Nat} {g : TG} {tt : TT} {te : TE} {vs vn : List Nat} {σ : Sl0} {H : Hp} {s : Shared} {J : It} {fp : List Addr} {it D : Addr} {tn : Nat → Heap → Prop} {Nx : Hp → Prop} {body : Sl0 → Hp → (Hp → Prop) → Prop} {R : Result → Shared → Prop}
end
end L3
end

section
set_option Elab.async false
set_option linter.all false
set_option maxRecDepth 100000
set_option maxHeartbeats 4000000
namespace L3
open PySem PySem.Spec PyProof.Rows L2
section
variable {X : Cx} {elt tg iter tg1 iter1 tg2 iter2 : Expr} {ifs ifs1 ifs2 : List Expr} {scope : Scope} {own : List (Str × Nat)} {vs1 vs2 : List Nat} {pos : Pos} {wi wi1 wi2 : TI} {g g1 g2 : TG} {tt tt1 tt2 : TT} {te : TE}
end
end L3
end

section
set_option Elab.async false
set_option linter.all false
set_option maxRecDepth 100000
set_option maxHeartbeats 4000000
namespace VL
open PySem PySem.Spec PyProof.Rows L2
set_option autoImplicit false
/-! ### [e for x in xs if .. for y in ys if .. for z in zs if ..] -/
section
variable {X : Cx} {B : Eb} {Γ : Gm} {E : Wish} {t t1 t2 : Tg} {mi mi1 mi2 : M (List D)} {mt mt1 mt2 : M Bool} {me : M D}
end
section
variable {X : Cx} {B : Eb} {E : Wish} {tg iter tg1 iter1 tg2 iter2 elt : Expr} {ifs ifs1 ifs2 : List Expr} {t t1 t2 : Tg} {mi mi1 mi2 : M (List D)} {mt mt1 mt2 : M Bool} {me : M D} {pos : Pos}
end
end VL
end

section
set_option Elab.async false
set_option linter.all false
set_option maxRecDepth 100000
set_option maxHeartbeats 4000000
namespace L3
open PySem PySem.Spec PyProof.Rows L2
section
variable {X : Cx} {elt tg iter tg1 iter1 tg2 iter2 : Expr} {ifs ifs1 ifs2 : List Expr} {scope : Scope} {own : List (Str × Nat)} {vs1 vs2 : List Nat} {pos : Pos} {wi wi1 wi2 : TI} {g g1 g2 : TG} {tt tt1 tt2 : TT} {te : TE}
end
end L3
namespace VL
open PySem PySem.Spec PyProof.Rows L2
set_option autoImplicit false
section
variable {X : Cx} {B : Eb} {E : Wish} {tg iter tg1 iter1 tg2 iter2 elt : Expr} {ifs ifs1 ifs2 : List Expr} {t t1 t2 : Tg} {mi mi1 mi2 : M (List D)} {mt mt1 mt2 : M Bool} {me : M D} {pos : Pos}
end
end VL
end

section
set_option Elab.async false
set_option linter.all false
set_option maxRecDepth 100000
set_option maxHeartbeats 4000000
namespace VL
open PySem PySem.Spec PyProof.Rows L2
set_option autoImplicit false
/-! ### len(set(xs)) of texts or of ints -/
section
variable {X : Cx}
end
section
variable {X : Cx} {B : Eb} {Γ : Gm} {E : Wish} {a : Expr} {ma : M D} {p p2 q pos : Pos}
end
section
variable {X : Cx} {B : Eb} {G : Gd} {Ps O Ol O1 O2 O3 : List Nat} {E : Wish} {ro : Bool} {a b c : Expr} {m : M (List D)} {pos : Pos}
/-- x, y, z = constants -/
theorem vs_parC3 {i j l : Nat} {x y z : Str} {px py pz pt pt2 : Pos} {kt k2 : Nat} {s1 s2 s3 : Sl} (hO1 : newO s1 i O = O1) (hO2 : newO s2 j O1 = O2) (hO3 : newO s3 l O2 = O3) (hc : X.calm = true) (hN : X.N.Nodup) (hi : X.N[i]? = some x) (hj : X.N[j]? = some y) (hl : X.N[l]? = some z) (hx : Loc X.env.scope x) (hy : Loc X.env.scope y) (hz : Loc X.env.scope z)
    (ha : VM X B (G.w Ps O) E [a, b, c] [s1, s2, s3] m) (hw : swappedStores [.Tuple [.Name x px, .Name y py, .Name z pz] kt pt] (.Tuple [a, b, c] k2 pt2) X.env = pure none := by rfl)
    (hs : swapsWithSole [.Tuple [.Name x px, .Name y py, .Name z pz] kt pt] (.Tuple [a, b, c] k2 pt2) pos.line X.env = pure false := by rfl) (n1 : ∀ j, s1 ≠ .slot j := by intro _ z; cases z) (n2 : ∀ j, s2 ≠ .slot j := by intro _ z; cases z) (n3 : ∀ j, s3 ≠ .slot j := by intro _ z; cases z) (hp1 : i ∉ Ps := by decide) (hp2 : j ∉ Ps := by decide) (hp3 : l ∉ Ps := by decide)
    (hf : X.fn x = true ∨ X.env.scope.names.lookup x = some .local := by first | exact .inl rfl | exact .inr rfl) (hf2 : X.fn y = true ∨ X.env.scope.names.lookup y = some .local := by first | exact .inl rfl | exact .inr rfl) (hf3 : X.fn z = true ∨ X.env.scope.names.lookup z = some .local := by first | exact .inl rfl | exact .inr rfl)
    (hae : (assignEach [.Name x px, .Name y py, .Name z pz] X.env).map (·.2) = assign (.Name x px) X.env :: (assignEach [.Name y py, .Name z pz] X.env).map (·.2) := by rfl) (hae2 : (assignEach [.Name y py, .Name z pz] X.env).map (·.2) = assign (.Name y py) X.env :: (assignEach [.Name z pz] X.env).map (·.2) := by rfl) (hae3 : (assignEach [.Name z pz] X.env).map (·.2) = assign (.Name z pz) X.env :: (assignEach [] X.env).map (·.2) := by rfl)
    (hal : (assignEach [.Name x px, .Name y py, .Name z pz] X.env).length = 3 := by rfl) (hst : (assignEach [.Name x px, .Name y py, .Name z pz] X.env).findIdx? (·.1) = none := by rfl) (h1 : (assignEach [.Tuple [.Name x px, .Name y py, .Name z pz] kt pt] X.env).map (·.2) = [assign (.Tuple [.Name x px, .Name y py, .Name z pz] kt pt) X.env] := by rfl) :
    VS X B G Ps E ro O O3 Ol (.Assign [.Tuple [.Name x px, .Name y py, .Name z pz] kt pt] (.Tuple [a, b, c] k2 pt2) pos) (mPar [i, j, l] m) :=
  PS.imp (ps_asg (pe_tup ha) (pg_tup hc (pgs_cons (pg_name hN hi hx hf) (pgs_cons (pg_name hN hj hy hf2) (pgs_cons (pg_name hN hl hz hf3) pgs_nil hae3) hae2) hae) hal hst) hs hw h1) fun N σ H ⟨F, ρ, r, h⟩ => ⟨F, ρ, r, (Res.bind h).mono (fun ds ρ1 h1 vs H1 F1 r1 k1 hh => by
    obtain ⟨u, v, w, d1, d2, d3, rfl, rfl, q1, q2, q3, e12, e13, e23⟩ := held3 n1 n2 n3 hh
    refine ⟨by show 3 ≤ sizeLine; decide, fun p np => ?_⟩
    have ex := Ext.laid (o := .tup [u, v, w]) r1.trk np
    have r1' := r1.to ex
    have h0 : ∀ a, H a = none → G.H0 a = none := fun a z => r.h0 z
    have ra := (q1.ext r1.trk ex).set r1' h0 (fun _ a _ z => r.nownN z) hp1
    have rb := (q2.ext r1.trk ex).set ra h0 (fun t2 b e z => own_set (r.nownN z) fun t1 e2 => e12 t1 t2 (e2.trans e.symm)) hp2
    have rc := (q3.ext r1.trk ex).set rb h0 (fun t3 b e z => own_set (own_set (r.nownN z) fun t1 e2 => e13 t1 t3 (e2.trans e.symm)) fun t2 e2 => e23 t2 t3 (e2.trans e.symm)) hp3
    rw [hO1, hO2, hO3] at rc
    exact ⟨p, [u, v, w], rfl, .inl (.inl upd_same), rfl, u, [v, w], rfl, v, [w], rfl, w, [], rfl, rfl, h1 _ _ F1 rc ((k1.trans ex.kp).g r)⟩) (fun _ _ _ k => k.ex r)⟩
end
end VL
end

section
set_option Elab.async false
set_option linter.all false
set_option maxRecDepth 100000
set_option maxHeartbeats 4000000
namespace K57
open PySem PySem.Spec PyProof.Rows L2 VL LL
structure Txt (K : PySem.W.Frag) (w : World) (mg : Str → Option Value) : Prop where
  b_LookupError : mg "LookupError" = none
  b_abs : mg "abs" = none
  b_all : mg "all" = none
  b_bool : mg "bool" = none
  b_dict : mg "dict" = none
  b_enumerate : mg "enumerate" = none
  b_int : mg "int" = none
  b_isinstance : mg "isinstance" = none
  b_len : mg "len" = none
  b_list : mg "list" = none
  b_min : mg "min" = none
  b_range : mg "range" = none
  b_sorted : mg "sorted" = none
  b_str : mg "str" = none
  b_sum : mg "sum" = none
  b_super : mg "super" = none
  b_tuple : mg "tuple" = none
  b_zip : mg "zip" = none
  x_NoNumber : ExcK PW K mg "NoNumber" "number" .le
  t_NoNumber : ∀ c b, List.lookup c ([(2, true)] : List (Nat × Bool)) = some b → PySem.W.exmOne K (.ref ((eb K).cls c)) (.ref (He.ga K "NoNumber")) = some b ∧ (eb K).fld c = xF c ∧ ClsN K (xN c) ((eb K).cls c)
  f_number : ∀ nm ∈ (["NoNumber"] : List Str), ∀ C, ClsN K nm C → XfC K C ∧ PySem.W.findIn K (.ref C) "number" = some none
  i_LookupError : ∀ (nm : Str) b, List.lookup nm ([("NoNumber", true)] : List (Str × Bool)) = some b → ∀ C, ClsN K nm C → ExcC K C ∧ PySem.W.kitOne K (.ref C) (.type "LookupError") = some b
abbrev N_tupled : List Str := ["thing", "part"]
theorem sc_tupled : FnScope N_tupled ["thing"] (defScope s_tupled) := ⟨rfl, rfl, rfl, by decide +kernel, rfl, by decide +kernel, by decide +kernel⟩
theorem ok_tupled {w : World} {K : PySem.W.Frag} {mg : Str → Option Value} {base : Heap} (T : Txt K w mg)  {a_tupled : Addr} {fd_tupled : FuncData} (F_tupled : FunD K "tupled" "tupled" (defArgs s_tupled) (defBody s_tupled) (defScope s_tupled) [] [] a_tupled fd_tupled) (hm_tupled : mg "tupled" = some (.ref a_tupled)) : ∀ n, Cal PW w K mg base (eb K) (1 + n) "tupled" s_tupled ["thing"] [false] false (f_tupled n)
  | 0 => cal_stk F_tupled hm_tupled rfl (fun _ _ _ _ _ _ us hl => match us, hl with | [_], _ => rfl)
  | n + 1 => by
    obtain c_tupled := ok_tupled (w := w) (base := base) T  F_tupled hm_tupled n
    exact cal_ok (On := []) (N := N_tupled) (ms := [false]) (n := 2) (Ps := []) rfl rfl rfl F_tupled hm_tupled sc_tupled rfl (fun _ _ _ _ _ _ us hl => match us, hl with | [_], _ => rfl) (fun cdv A outer s H E G hr => (vss_one (vs_ret (ve_if (vt_of (ve_isi2 (T := "list") (U := "tuple") (vv 0) rfl T.b_isinstance rfl T.b_list (by decide +kernel) rfl T.b_tuple (by decide +kernel))) (ve_callTy call_tupV rfl T.b_tuple (by decide +kernel) (va_cons (vo_e (vo_lc (own := [("part", 1)]) rfl sc_tupled.nd (vi_seq (vv 0)) (blkOk_by (own := [("part", 1)]) (N := N_tupled) (sc := defScope s_tupled) (by decide +kernel)) (fun _ _ _ _ _ => (vg_nm (i := 1) rfl sc_tupled.nd rfl (by first | exact Or.inl rfl | exact Or.inr rfl))) (fun _ _ _ _ _ => vts_nil) (fun _ _ _ _ _ => (ve_do c_tupled hr passL (vm_cons (vv 1) vm_nil))))) va_nil)) (vv 0)))))
abbrev N_ways_of : List Str := ["sizes", "found", "total", "size", "number"]
theorem sc_ways_of : FnScope N_ways_of ["sizes"] (defScope s_ways_of) := ⟨rfl, rfl, rfl, by decide +kernel, rfl, by decide +kernel, by decide +kernel⟩
theorem ok_ways_of {w : World} {K : PySem.W.Frag} {mg : Str → Option Value} {base : Heap} (T : Txt K w mg)  {a_ways_of : Addr} {fd_ways_of : FuncData} (F_ways_of : FunD K "ways_of" "ways_of" (defArgs s_ways_of) (defBody s_ways_of) (defScope s_ways_of) [] [] a_ways_of fd_ways_of) (hm_ways_of : mg "ways_of" = some (.ref a_ways_of)) : Cal PW w K mg base (eb K) 1 "ways_of" s_ways_of ["sizes"] [false] false f_ways_of :=
  cal_ok (On := []) (N := N_ways_of) (ms := [false]) (n := 5) (Ps := []) rfl rfl rfl F_ways_of hm_ways_of sc_ways_of rfl (fun _ _ _ _ _ _ us hl => match us, hl with | [_], _ => rfl) (fun cdv A outer s H E G hr => (vss_cons (vs_parC2 (i := 1) (j := 2) (O1 := []) (O2 := []) (s1 := .dat) (s2 := .dat) rfl rfl rfl sc_ways_of.nd rfl rfl (Or.inl rfl) (Or.inl rfl) (vm_cons ve_int (vm_cons ve_int vm_nil)))
  (vss_cons (vs_for letsOwn rfl (vi_seq (vv 0)) (vg_nm (i := 3) rfl sc_ways_of.nd rfl (Or.inl rfl))
  (vss_one (vs_for letsOwn rfl (vi_range2 rfl T.b_range (va_cons ve_int (va_cons (ve_op op_addV (vv 3) ve_int) va_nil))) (vg_nm (i := 4) rfl sc_ways_of.nd rfl (Or.inl rfl))
  (vss_cons (vs_aug (i := 2) rfl sc_ways_of.nd rfl (Or.inl rfl) ve_int ip_add)
  (vss_one (vs_set (i := 1) (O1 := []) rfl sc_ways_of.nd rfl (Or.inl rfl) (ve_op op_fdvV (ve_op op_mulV (vv 1) (vv 2)) (vv 4))))))))
  (vss_one (vs_ret (vv 1))))))
abbrev N_how_many_ways : List Str := ["lists", "steps"]
theorem sc_how_many_ways : FnScope N_how_many_ways ["lists"] (defScope s_how_many_ways) := ⟨rfl, rfl, rfl, by decide +kernel, rfl, by decide +kernel, by decide +kernel⟩
theorem ok_how_many_ways {w : World} {K : PySem.W.Frag} {mg : Str → Option Value} {base : Heap} (T : Txt K w mg) (c_ways_of : Cal PW w K mg base (eb K) 1 "ways_of" s_ways_of ["sizes"] [false] false f_ways_of) {a_how_many_ways : Addr} {fd_how_many_ways : FuncData} (F_how_many_ways : FunD K "how_many_ways" "how_many_ways" (defArgs s_how_many_ways) (defBody s_how_many_ways) (defScope s_how_many_ways) [] [] a_how_many_ways fd_how_many_ways) (hm_how_many_ways : mg "how_many_ways" = some (.ref a_how_many_ways)) : Cal PW w K mg base (eb K) 2 "how_many_ways" s_how_many_ways ["lists"] [false] false f_how_many_ways :=
  cal_ok (On := []) (N := N_how_many_ways) (ms := [false]) (n := 2) (Ps := []) rfl rfl rfl F_how_many_ways hm_how_many_ways sc_how_many_ways rfl (fun _ _ _ _ _ _ us hl => match us, hl with | [_], _ => rfl) (fun cdv A outer s H E G hr => (vss_one (vs_ret (ve_do c_ways_of (hr.mono (by decide)) lets (vm_cons (vo_e (vo_lc (own := [("steps", 1)]) rfl sc_how_many_ways.nd (vi_seq (vv 0)) (blkOk_by (own := [("steps", 1)]) (N := N_how_many_ways) (sc := defScope s_how_many_ways) (by decide +kernel)) (fun _ _ _ _ _ => (vg_nm (i := 1) rfl sc_how_many_ways.nd rfl (by first | exact Or.inl rfl | exact Or.inr rfl))) (fun _ _ _ _ _ => vts_nil) (fun _ _ _ _ _ => (ve_callB call_lenV rfl T.b_len PySem.boot_len (va_cons (vv 1) va_nil))))) vm_nil)))))
abbrev N_one_less : List Str := ["sizes", "place", "own", "size"]
theorem sc_one_less : FnScope N_one_less ["sizes", "place"] (defScope s_one_less) := ⟨rfl, rfl, rfl, by decide +kernel, rfl, by decide +kernel, by decide +kernel⟩
theorem ok_one_less {w : World} {K : PySem.W.Frag} {mg : Str → Option Value} {base : Heap} (T : Txt K w mg)  {a_one_less : Addr} {fd_one_less : FuncData} (F_one_less : FunD K "one_less" "one_less" (defArgs s_one_less) (defBody s_one_less) (defScope s_one_less) [] [] a_one_less fd_one_less) (hm_one_less : mg "one_less" = some (.ref a_one_less)) : Cal PW w K mg base (eb K) 1 "one_less" s_one_less ["sizes", "place"] [false, false] false f_one_less :=
  cal_ok (On := []) (N := N_one_less) (ms := [false, false]) (n := 4) (Ps := []) rfl rfl rfl F_one_less hm_one_less sc_one_less rfl (fun _ _ _ _ _ _ us hl => match us, hl with | [_, _], _ => rfl) (fun cdv A outer s H E G hr => (vss_one (vs_ret (vo_e (vo_lc (own := [("own", 2), ("size", 3)]) rfl sc_one_less.nd (vi_enum rfl T.b_enumerate (va_cons (vv 0) va_nil)) (blkOk_by (own := [("own", 2), ("size", 3)]) (N := N_one_less) (sc := defScope s_one_less) (by decide +kernel)) (fun _ _ _ _ _ => (vg_tup rfl (vgs_cons (vg_nm (i := 2) rfl sc_one_less.nd rfl (by first | exact Or.inl rfl | exact Or.inr rfl)) (vgs_cons (vg_nm (i := 3) rfl sc_one_less.nd rfl (by first | exact Or.inl rfl | exact Or.inr rfl)) vgs_nil)))) (fun _ _ _ _ _ => vts_nil) (fun _ _ _ _ _ => (ve_op op_subV (vv 3) (ve_callTy call_intV rfl T.b_int PyProof.Rows.boot_int (va_cons (ve_cmp (op_eqV (huR hr)) (vv 2) (vv 1) (nomark _)) va_nil)))))))))
abbrev N_nth_way : List Str := ["lists", "number", "sizes", "rest", "found", "place", "size", "many", "steps"]
theorem sc_nth_way : FnScope N_nth_way ["lists", "number"] (defScope s_nth_way) := ⟨rfl, rfl, rfl, by decide +kernel, rfl, by decide +kernel, by decide +kernel⟩
theorem ok_nth_way {w : World} {K : PySem.W.Frag} {mg : Str → Option Value} {base : Heap} (T : Txt K w mg) (c_one_less : Cal PW w K mg base (eb K) 1 "one_less" s_one_less ["sizes", "place"] [false, false] false f_one_less) (c_ways_of : Cal PW w K mg base (eb K) 1 "ways_of" s_ways_of ["sizes"] [false] false f_ways_of) {a_nth_way : Addr} {fd_nth_way : FuncData} (F_nth_way : FunD K "nth_way" "nth_way" (defArgs s_nth_way) (defBody s_nth_way) (defScope s_nth_way) [] [] a_nth_way fd_nth_way) (hm_nth_way : mg "nth_way" = some (.ref a_nth_way)) : Cal PW w K mg base (eb K) 2 "nth_way" s_nth_way ["lists", "number"] [false, false] false f_nth_way :=
  cal_ok (On := []) (N := N_nth_way) (ms := [false, false]) (n := 9) (Ps := []) rfl rfl rfl F_nth_way hm_nth_way sc_nth_way rfl (fun _ _ _ _ _ _ us hl => match us, hl with | [_, _], _ => rfl) (fun cdv A outer s H E G hr => (vss_cons (vs_par3 (i := 2) (j := 3) (l := 4) (O1 := []) (O2 := []) (O3 := [4]) (s1 := .dat) (s2 := .dat) (s3 := .tmp) rfl rfl rfl rfl sc_nth_way.nd rfl rfl rfl (by decide) (by decide) (by decide) rfl rfl rfl (vm_cons (vo_e (vo_lc (own := [("steps", 8)]) rfl sc_nth_way.nd (vi_seq (vv 0)) (blkOk_by (own := [("steps", 8)]) (N := N_nth_way) (sc := defScope s_nth_way) (by decide +kernel)) (fun _ _ _ _ _ => (vg_nm (i := 8) rfl sc_nth_way.nd rfl (by first | exact Or.inl rfl | exact Or.inr rfl))) (fun _ _ _ _ _ => vts_nil) (fun _ _ _ _ _ => (ve_callB call_lenV rfl T.b_len PySem.boot_len (va_cons (vv 8) va_nil))))) (vm_cons (vv 1) (vmt (vo_lst va_nil) vm_nil))))
  (vss_cons (vs_if (On := [4]) (vt_not (vt_chain (op_leV (huR hr)) (op_ltV (huR hr)) ve_int (vv 1) (ve_do c_ways_of (hr.mono (by decide)) lets (vm_cons (vv 2) vm_nil)) gLt_b))
  (vss_one (vs_raiseC (c := 2) (k := 0) T.x_NoNumber T.b_super (hr.mono (by decide)) (takes_of rfl rfl rfl rfl) (vv 1)))
  vss_nil)
  (vss_cons (vs_while letsOwn (vt_cmp (op_gtV (huR hr)) gGt_b (ve_callB (call_sumV rfl) rfl T.b_sum (by decide +kernel) (va_cons (vv 2) va_nil)) ve_int (nomark _))
  (vss_cons (vs_for letsOwn rfl (vi_enum rfl T.b_enumerate (va_cons (vv 2) va_nil)) (vg_tup rfl (vgs_cons (vg_nm (i := 5) rfl sc_nth_way.nd rfl (Or.inl rfl)) (vgs_cons (vg_nm (i := 6) rfl sc_nth_way.nd rfl (Or.inl rfl)) vgs_nil)))
  (vss_cons (vs_set (i := 7) (O1 := [4]) rfl sc_nth_way.nd rfl (Or.inl rfl) (ve_if (vt_cmp (op_gtV (huR hr)) gGt_b (vv 6) ve_int (nomark _)) (ve_do c_ways_of (hr.mono (by decide)) lets (vm_cons (ve_do c_one_less (hr.mono (by decide)) lets (vm_cons (vv 2) (vm_cons (vv 5) vm_nil))) vm_nil)) ve_int))
  (vss_cons (vs_if (On := [4]) (vt_cmp (op_ltV (huR hr)) gLt_b (vv 3) (vv 7) (nomark _))
  (vss_one vs_break)
  vss_nil)
  (vss_one (vs_aug (i := 3) rfl sc_nth_way.nd rfl (Or.inl rfl) (vv 7) ip_sub)))))
  (vss_cons (vs_set (i := 2) (O1 := [4]) rfl sc_nth_way.nd rfl (Or.inl rfl) (ve_do c_one_less (hr.mono (by decide)) lets (vm_cons (vv 2) (vm_cons (vv 5) vm_nil))))
  (vss_one (vs_expr (ve_append (i := 4) (vv 5)))))))
  (vss_one (vs_frz (O1 := []) (vs_ret (ve_callTy call_tupV rfl T.b_tuple (by decide +kernel) (va_cons (vv 4) va_nil)))))))))
abbrev N_number_of_way : List Str := ["lists", "way", "sizes", "found", "own", "steps", "place"]
theorem sc_number_of_way : FnScope N_number_of_way ["lists", "way"] (defScope s_number_of_way) := ⟨rfl, rfl, rfl, by decide +kernel, rfl, by decide +kernel, by decide +kernel⟩
theorem ok_number_of_way {w : World} {K : PySem.W.Frag} {mg : Str → Option Value} {base : Heap} (T : Txt K w mg) (c_one_less : Cal PW w K mg base (eb K) 1 "one_less" s_one_less ["sizes", "place"] [false, false] false f_one_less) (c_ways_of : Cal PW w K mg base (eb K) 1 "ways_of" s_ways_of ["sizes"] [false] false f_ways_of) {a_number_of_way : Addr} {fd_number_of_way : FuncData} (F_number_of_way : FunD K "number_of_way" "number_of_way" (defArgs s_number_of_way) (defBody s_number_of_way) (defScope s_number_of_way) [] [] a_number_of_way fd_number_of_way) (hm_number_of_way : mg "number_of_way" = some (.ref a_number_of_way)) : Cal PW w K mg base (eb K) 2 "number_of_way" s_number_of_way ["lists", "way"] [false, false] false f_number_of_way :=
  cal_ok (On := []) (N := N_number_of_way) (ms := [false, false]) (n := 7) (Ps := []) rfl rfl rfl F_number_of_way hm_number_of_way sc_number_of_way rfl (fun _ _ _ _ _ _ us hl => match us, hl with | [_, _], _ => rfl) (fun cdv A outer s H E G hr => (vss_cons (vs_parC2 (i := 2) (j := 3) (O1 := []) (O2 := []) (s1 := .dat) (s2 := .dat) rfl rfl rfl sc_number_of_way.nd rfl rfl (Or.inr rfl) (Or.inl rfl) (vm_cons (vo_e (vo_lc (own := [("steps", 5)]) rfl sc_number_of_way.nd (vi_seq (vv 0)) (blkOk_by (own := [("steps", 5)]) (N := N_number_of_way) (sc := defScope s_number_of_way) (by decide +kernel)) (fun _ _ _ _ _ => (vg_nm (i := 5) rfl sc_number_of_way.nd rfl (by first | exact Or.inl rfl | exact Or.inr rfl))) (fun _ _ _ _ _ => vts_nil) (fun _ _ _ _ _ => (ve_callB call_lenV rfl T.b_len PySem.boot_len (va_cons (vv 5) va_nil))))) (vm_cons ve_int vm_nil)))
  (vss_cons (vs_for letsOwn rfl (vi_seq (vv 1)) (vg_nm (i := 4) rfl sc_number_of_way.nd rfl (Or.inl rfl))
  (vss_cons (vs_aug (i := 3) rfl sc_number_of_way.nd rfl (Or.inl rfl) (ve_callB (call_sumV rfl) rfl T.b_sum (by decide +kernel) (va_cons (vo_e (vo_lc (own := [("place", 6)]) rfl sc_number_of_way.nd (vi_range1 rfl T.b_range (va_cons (vv 4) va_nil)) (blkOk_by (own := [("place", 6)]) (N := N_number_of_way) (sc := defScope s_number_of_way) (by decide +kernel)) (fun _ _ _ _ _ => (vg_nm (i := 6) rfl sc_number_of_way.nd rfl (by first | exact Or.inl rfl | exact Or.inr rfl))) (fun _ _ _ _ _ => (vts_one (vt_cmp (op_gtV (huR hr)) gGt_b (ve_ix ix_V (vv 2) (vv 6) (fun _ _ => rfl)) ve_int (nomark _)))) (fun _ _ _ _ _ => (ve_do c_ways_of (hr.mono (by decide)) passL (vm_cons (ve_do c_one_less (hr.mono (by decide)) passL (vm_cons (vv 2) (vm_cons (vv 6) vm_nil))) vm_nil))))) va_nil)) ip_add)
  (vss_one (vs_set (i := 2) (O1 := []) rfl sc_number_of_way.nd rfl (Or.inr rfl) (ve_do c_one_less (hr.mono (by decide)) lets (vm_cons (vv 2) (vm_cons (vv 4) vm_nil)))))))
  (vss_one (vs_ret (vv 3))))))
abbrev N_woven : List Str := ["lists", "way", "left", "found", "place", "steps"]
theorem sc_woven : FnScope N_woven ["lists", "way"] (defScope s_woven) := ⟨rfl, rfl, rfl, by decide +kernel, rfl, by decide +kernel, by decide +kernel⟩
theorem ok_woven {w : World} {K : PySem.W.Frag} {mg : Str → Option Value} {base : Heap} (T : Txt K w mg) (c_tupled : Cal PW w K mg base (eb K) 17 "tupled" s_tupled ["thing"] [false] false (f_tupled 16)) {a_woven : Addr} {fd_woven : FuncData} (F_woven : FunD K "woven" "woven" (defArgs s_woven) (defBody s_woven) (defScope s_woven) [] [] a_woven fd_woven) (hm_woven : mg "woven" = some (.ref a_woven)) : Cal PW w K mg base (eb K) 18 "woven" s_woven ["lists", "way"] [false, false] false f_woven :=
  cal_ok (On := []) (N := N_woven) (ms := [false, false]) (n := 6) (Ps := []) rfl rfl rfl F_woven hm_woven sc_woven rfl (fun _ _ _ _ _ _ us hl => match us, hl with | [_, _], _ => rfl) (fun cdv A outer s H E G hr => (vs_wov (i := 2) (j := 3) (k := 4) (own := [("steps", 5)]) letsOwn rfl sc_woven.nd rfl rfl rfl (by decide) (by decide) (by decide) rfl rfl (Or.inl rfl) (vi_seq (ve_do c_tupled (hr.mono (by decide)) lets (vm_cons (vv 0) vm_nil))) (blkOk_by (own := [("steps", 5)]) (N := N_woven) (sc := defScope s_woven) (by decide +kernel)) (fun _ _ _ _ _ => (vg_nm (i := 5) rfl sc_woven.nd rfl (by first | exact Or.inl rfl | exact Or.inr rfl))) (fun _ _ _ _ _ => (vo_list rfl T.b_list (va_cons (vv 5) va_nil))) (vi_seq (vv 1)) pss_wov (vss_one (vs_ret (ve_callTy call_tupV rfl T.b_tuple (by decide +kernel) (va_cons (vv 3) va_nil))))))
abbrev N__law_box : List Str := ["_law_script", "_law_k", "_law_great_so"]
theorem sc__law_box : FnScope N__law_box ["_law_script", "_law_k"] (defScope s__law_box) := ⟨rfl, rfl, rfl, by decide +kernel, rfl, by decide +kernel, by decide +kernel⟩
theorem ok__law_box {w : World} {K : PySem.W.Frag} {mg : Str → Option Value} {base : Heap} (T : Txt K w mg)  {a__law_box : Addr} {fd__law_box : FuncData} (F__law_box : FunD K "_law_box" "_law_box" (defArgs s__law_box) (defBody s__law_box) (defScope s__law_box) [] [] a__law_box fd__law_box) (hm__law_box : mg "_law_box" = some (.ref a__law_box)) : Cal PW w K mg base (eb K) 1 "_law_box" s__law_box ["_law_script", "_law_k"] [false, false] true f__law_box_v58 :=
  cal_ok (On := []) (N := N__law_box) (ms := [false, false]) (n := 3) (Ps := []) rfl rfl rfl F__law_box hm__law_box sc__law_box rfl (fun _ _ _ _ _ _ us hl => match us, hl with | [_, _], _ => rfl) (fun cdv A outer s H E G hr => (vss_cons (vs_set (i := 2) (O1 := []) rfl sc__law_box.nd rfl (Or.inl rfl) (ve_if (vt_cmp (op_ltV (huR hr)) gLt_b (vv 1) (ve_callB call_lenV rfl T.b_len PySem.boot_len (va_cons (vv 0) va_nil)) (nomark _)) (ve_ix ix_V (vv 0) (vv 1) (fun _ _ => rfl)) ve_int))
  (vss_one (vs_retO (vo_lst (va_cons (ve_op op_mulV (ve_callB call_absV rfl T.b_abs (by decide +kernel) (va_cons (vv 2) va_nil)) (ve_callTy call_intV rfl T.b_int PyProof.Rows.boot_int (va_cons (ve_cmp (op_geV (huR hr)) (ve_callB call_absV rfl T.b_abs (by decide +kernel) (va_cons (vv 2) va_nil)) (ve_op op_powV ve_int ve_int) (nomark _)) va_nil))) (va_cons (ve_op op_addV (ve_op op_addV (ve_op op_modV (ve_callTy call_intV rfl T.b_int PyProof.Rows.boot_int (va_cons (vv 2) va_nil)) ve_int) (ve_op op_mulV ve_int (vv 1))) ve_int) (va_cons ve_int va_nil))))))))
abbrev N__law_take : List Str := ["_law_box_here", "_law_top_so", "_law_digit_so", "_law_once", "_law_far", "_law_twice"]
theorem sc__law_take : FnScope N__law_take ["_law_box_here", "_law_top_so"] (defScope s__law_take) := ⟨rfl, rfl, rfl, by decide +kernel, rfl, by decide +kernel, by decide +kernel⟩
theorem ok__law_take {w : World} {K : PySem.W.Frag} {mg : Str → Option Value} {base : Heap} (T : Txt K w mg)  {a__law_take : Addr} {fd__law_take : FuncData} (F__law_take : FunD K "_law_take" "_law_take" (defArgs s__law_take) (defBody s__law_take) (defScope s__law_take) [] [] a__law_take fd__law_take) (hm__law_take : mg "_law_take" = some (.ref a__law_take)) : Cal PW w K mg base (eb K) 1 "_law_take" s__law_take ["_law_box_here", "_law_top_so"] [true, false] false f__law_take :=
  cal_ok (On := []) (N := N__law_take) (ms := [true, false]) (n := 6) (Ps := [0]) rfl rfl rfl F__law_take hm__law_take sc__law_take rfl (fun _ _ _ _ _ _ us hl => match us, hl with | [_, _], _ => rfl) (fun cdv A outer s H E G hr => (vss_cons (vs_if (On := [0]) (vt_cmp (op_gtV (huR hr)) gGt_b (ve_ixO (i := 0) ve_int (fun _ _ => rfl)) ve_int (nomark _))
  (vss_cons (vs_set (i := 2) (O1 := [0]) rfl sc__law_take.nd rfl (Or.inl rfl) (ve_op op_modV (ve_callTy call_intV rfl T.b_int PyProof.Rows.boot_int (va_cons (ve_ixO (i := 0) ve_int (fun _ _ => rfl)) va_nil)) (vv 1)))
  (vss_cons (vs_setIx (i := 0) (ve_op op_fdvV (ve_ixO (i := 0) ve_int (fun _ _ => rfl)) (vv 1)) ve_int)
  (vss_one (vs_ret (vv 2)))))
  vss_nil)
  (vss_cons (vs_setIx (i := 0) (ve_op op_addV (ve_ixO (i := 0) ve_int (fun _ _ => rfl)) ve_int) ve_int)
  (vss_cons (vs_set (i := 3) (O1 := [0]) rfl sc__law_take.nd rfl (Or.inl rfl) (ve_op op_modV (ve_callTy call_intV rfl T.b_int PyProof.Rows.boot_int (va_cons (ve_op op_mulV (ve_op op_addV (ve_ixO (i := 0) ve_int (fun _ _ => rfl)) (ve_op op_mulV ve_int (ve_ixO (i := 0) ve_int (fun _ _ => rfl)))) (ve_op op_addV ve_int (ve_ixO (i := 0) ve_int (fun _ _ => rfl)))) va_nil)) ve_int))
  (vss_cons (vs_set (i := 4) (O1 := [0]) rfl sc__law_take.nd rfl (Or.inl rfl) (ve_op op_addV (ve_op op_modV (ve_callTy call_intV rfl T.b_int PyProof.Rows.boot_int (va_cons (vv 3) va_nil)) ve_int) ve_int))
  (vss_cons (vs_set (i := 5) (O1 := [0]) rfl sc__law_take.nd rfl (Or.inl rfl) (ve_op op_modV (ve_callTy call_intV rfl T.b_int PyProof.Rows.boot_int (va_cons (ve_op op_mulV (ve_op op_addV (ve_op op_addV (vv 3) (ve_ixO (i := 0) ve_int (fun _ _ => rfl))) (ve_op op_fdvV (ve_ixO (i := 0) ve_int (fun _ _ => rfl)) ve_int)) (vv 4)) va_nil)) ve_int))
  (vss_one (vs_ret (ve_op op_modV (ve_callTy call_intV rfl T.b_int PyProof.Rows.boot_int (va_cons (ve_op op_fdvV (ve_op op_modV (ve_callTy call_intV rfl T.b_int PyProof.Rows.boot_int (va_cons (ve_op op_addV (ve_op op_mulV (vv 5) ve_int) (vv 3)) va_nil)) ve_int) ve_int) va_nil)) (vv 1))))))))))
abbrev N__law_cells : List Str := ["_law_script", "_law_most", "_law_cells_here", "_law_k", "_law_great_so", "_law_at_so"]
theorem sc__law_cells : FnScope N__law_cells ["_law_script", "_law_most"] (defScope s__law_cells) := ⟨rfl, rfl, rfl, by decide +kernel, rfl, by decide +kernel, by decide +kernel⟩
theorem ok__law_cells {w : World} {K : PySem.W.Frag} {mg : Str → Option Value} {base : Heap} (T : Txt K w mg)  {a__law_cells : Addr} {fd__law_cells : FuncData} (F__law_cells : FunD K "_law_cells" "_law_cells" (defArgs s__law_cells) (defBody s__law_cells) (defScope s__law_cells) [] [] a__law_cells fd__law_cells) (hm__law_cells : mg "_law_cells" = some (.ref a__law_cells)) : Cal PW w K mg base (eb K) 1 "_law_cells" s__law_cells ["_law_script", "_law_most"] [false, false] false f__law_cells :=
  cal_ok (On := []) (N := N__law_cells) (ms := [false, false]) (n := 6) (Ps := []) rfl rfl rfl F__law_cells hm__law_cells sc__law_cells rfl (fun _ _ _ _ _ _ us hl => match us, hl with | [_, _], _ => rfl) (fun cdv A outer s H E G hr => (vss_cons (vs_setO (i := 2) sc__law_cells.nd rfl (Or.inl rfl) (vo_or (vo_list rfl T.b_list (va_cons (ve_slice (vv 0) vp_none (vp_some (vv 1))) va_nil)) (vo_one (vo_lst (va_cons ve_int va_nil)))))
  (vss_cons (vs_for letsOwn rfl (vi_enum rfl T.b_enumerate (va_cons (ve_slice (vv 0) (vp_some (vv 1)) (vp_some ve_int)) va_nil)) (vg_tup rfl (vgs_cons (vg_nm (i := 3) rfl sc__law_cells.nd rfl (Or.inl rfl)) (vgs_cons (vg_nm (i := 4) rfl sc__law_cells.nd rfl (Or.inl rfl)) vgs_nil)))
  (vss_cons (vs_set (i := 5) (O1 := [2]) rfl sc__law_cells.nd rfl (Or.inl rfl) (ve_op op_modV (ve_callTy call_intV rfl T.b_int PyProof.Rows.boot_int (va_cons (vv 3) va_nil)) (vv 1)))
  (vss_one (vs_setIx (i := 2) (ve_op op_addV (ve_ixO (i := 2) (vv 5) (fun _ _ => rfl)) (ve_op op_mulV (vv 4) (ve_op op_addV (vv 3) ve_int))) (vv 5)))))
  (vss_one (vs_frz (O1 := []) (vs_ret (vv 2)))))))
abbrev N__law_of : List Str := ["_law_box_here", "_law_some"]
theorem sc__law_of : FnScope N__law_of ["_law_box_here", "_law_some"] (defScope s__law_of) := ⟨rfl, rfl, rfl, by decide +kernel, rfl, by decide +kernel, by decide +kernel⟩
theorem ok__law_of {w : World} {K : PySem.W.Frag} {mg : Str → Option Value} {base : Heap} (T : Txt K w mg) (c__law_take : Cal PW w K mg base (eb K) 1 "_law_take" s__law_take ["_law_box_here", "_law_top_so"] [true, false] false f__law_take) {a__law_of : Addr} {fd__law_of : FuncData} (F__law_of : FunD K "_law_of" "_law_of" (defArgs s__law_of) (defBody s__law_of) (defScope s__law_of) [] [] a__law_of fd__law_of) (hm__law_of : mg "_law_of" = some (.ref a__law_of)) : Cal PW w K mg base (eb K) 2 "_law_of" s__law_of ["_law_box_here", "_law_some"] [true, false] false f__law_of :=
  cal_ok (On := []) (N := N__law_of) (ms := [true, false]) (n := 2) (Ps := [0]) rfl rfl rfl F__law_of hm__law_of sc__law_of rfl (fun _ _ _ _ _ _ us hl => match us, hl with | [_, _], _ => rfl) (fun cdv A outer s H E G hr => (vss_one (vs_ret (ve_ix ix_V (vv 1) (ve_do c__law_take (hr.mono (by decide)) lets (vm_slot (i := 0) (vm_cons (ve_callB call_lenV rfl T.b_len PySem.boot_len (va_cons (vv 1) va_nil)) vm_nil))) (fun _ _ => rfl)))))
abbrev N__law_pick : List Str := ["_law_box_here", "_law_pool", "_law_size_so", "_law_rest", "_law_some", "_law_turn"]
theorem sc__law_pick : FnScope N__law_pick ["_law_box_here", "_law_pool", "_law_size_so"] (defScope s__law_pick) := ⟨rfl, rfl, rfl, by decide +kernel, rfl, by decide +kernel, by decide +kernel⟩
theorem ok__law_pick {w : World} {K : PySem.W.Frag} {mg : Str → Option Value} {base : Heap} (T : Txt K w mg) (c__law_take : Cal PW w K mg base (eb K) 1 "_law_take" s__law_take ["_law_box_here", "_law_top_so"] [true, false] false f__law_take) {a__law_pick : Addr} {fd__law_pick : FuncData} (F__law_pick : FunD K "_law_pick" "_law_pick" (defArgs s__law_pick) (defBody s__law_pick) (defScope s__law_pick) [] [] a__law_pick fd__law_pick) (hm__law_pick : mg "_law_pick" = some (.ref a__law_pick)) : Cal PW w K mg base (eb K) 2 "_law_pick" s__law_pick ["_law_box_here", "_law_pool", "_law_size_so"] [true, false, false] false f__law_pick :=
  cal_ok (On := []) (N := N__law_pick) (ms := [true, false, false]) (n := 6) (Ps := [0]) rfl rfl rfl F__law_pick hm__law_pick sc__law_pick rfl (fun _ _ _ _ _ _ us hl => match us, hl with | [_, _, _], _ => rfl) (fun cdv A outer s H E G hr => (vss_cons (vs_par2 (i := 3) (j := 4) (O1 := [3, 0]) (O2 := [4, 3, 0]) (s1 := .tmp) (s2 := .tmp) rfl rfl rfl sc__law_pick.nd rfl rfl (by decide) rfl rfl (vmt (vo_list rfl T.b_list (va_cons (vv 1) va_nil)) (vmt (vo_lst va_nil) vm_nil)))
  (vss_cons (vs_for letsOwn rfl (vi_range1 rfl T.b_range (va_cons (ve_callB (call_min2V rfl) rfl T.b_min (by decide +kernel) (va_cons (vv 2) (va_cons (ve_lenO (i := 3) rfl T.b_len) va_nil))) va_nil)) (vg_nm (i := 5) rfl sc__law_pick.nd rfl (Or.inl rfl))
  (vss_one (vs_expr (ve_append (i := 4) (ve_popAt (i := 3) (ve_do c__law_take (hr.mono (by decide)) lets (vm_slot (i := 0) (vm_cons (ve_lenO (i := 3) rfl T.b_len) vm_nil))))))))
  (vss_one (vs_frz (O1 := [3, 0]) (vs_ret (vv 4)))))))
abbrev N__law_lists : List Str := ["_law_matter", "_law_bit"]
theorem sc__law_lists : FnScope N__law_lists ["_law_matter"] (defScope s__law_lists) := ⟨rfl, rfl, rfl, by decide +kernel, rfl, by decide +kernel, by decide +kernel⟩
theorem ok__law_lists {w : World} {K : PySem.W.Frag} {mg : Str → Option Value} {base : Heap} (T : Txt K w mg)  {a__law_lists : Addr} {fd__law_lists : FuncData} (F__law_lists : FunD K "_law_lists" "_law_lists" (defArgs s__law_lists) (defBody s__law_lists) (defScope s__law_lists) [] [] a__law_lists fd__law_lists) (hm__law_lists : mg "_law_lists" = some (.ref a__law_lists)) : ∀ n, Cal PW w K mg base (eb K) (1 + n) "_law_lists" s__law_lists ["_law_matter"] [false] false (f__law_lists n)
  | 0 => cal_stk F__law_lists hm__law_lists rfl (fun _ _ _ _ _ _ us hl => match us, hl with | [_], _ => rfl)
  | n + 1 => by
    obtain c__law_lists := ok__law_lists (w := w) (base := base) T  F__law_lists hm__law_lists n
    exact cal_ok (On := []) (N := N__law_lists) (ms := [false]) (n := 2) (Ps := []) rfl rfl rfl F__law_lists hm__law_lists sc__law_lists rfl (fun _ _ _ _ _ _ us hl => match us, hl with | [_], _ => rfl) (fun cdv A outer s H E G hr => (vss_one (vs_ret (ve_if (vt_of (ve_isi2 (T := "list") (U := "tuple") (vv 0) rfl T.b_isinstance rfl T.b_list (by decide +kernel) rfl T.b_tuple (by decide +kernel))) (vo_e (vo_lc (own := [("_law_bit", 1)]) rfl sc__law_lists.nd (vi_seq (vv 0)) (blkOk_by (own := [("_law_bit", 1)]) (N := N__law_lists) (sc := defScope s__law_lists) (by decide +kernel)) (fun _ _ _ _ _ => (vg_nm (i := 1) rfl sc__law_lists.nd rfl (by first | exact Or.inl rfl | exact Or.inr rfl))) (fun _ _ _ _ _ => vts_nil) (fun _ _ _ _ _ => (ve_do c__law_lists hr passL (vm_cons (vv 1) vm_nil))))) (vv 0)))))
abbrev N__law_same : List Str := ["_law_got", "_law_due", "_law_own", "_law_mine", "_law_its"]
theorem sc__law_same : FnScope N__law_same ["_law_got", "_law_due"] (defScope s__law_same) := ⟨rfl, rfl, rfl, by decide +kernel, rfl, by decide +kernel, by decide +kernel⟩
theorem ok__law_same {w : World} {K : PySem.W.Frag} {mg : Str → Option Value} {base : Heap} (T : Txt K w mg)  {a__law_same : Addr} {fd__law_same : FuncData} (F__law_same : FunD K "_law_same" "_law_same" (defArgs s__law_same) (defBody s__law_same) (defScope s__law_same) [] [] a__law_same fd__law_same) (hm__law_same : mg "_law_same" = some (.ref a__law_same)) : ∀ n, Cal PW w K mg base (eb K) (1 + n) "_law_same" s__law_same ["_law_got", "_law_due"] [false, false] false (f__law_same n)
  | 0 => cal_stk F__law_same hm__law_same rfl (fun _ _ _ _ _ _ us hl => match us, hl with | [_, _], _ => rfl)
  | n + 1 => by
    obtain c__law_same := ok__law_same (w := w) (base := base) T  F__law_same hm__law_same n
    exact cal_ok (On := []) (N := N__law_same) (ms := [false, false]) (n := 5) (Ps := []) rfl rfl rfl F__law_same hm__law_same sc__law_same rfl (fun _ _ _ _ _ _ us hl => match us, hl with | [_, _], _ => rfl) (fun cdv A outer s H E G hr => (vss_cons (vs_if (On := []) (vt_of (ve_isi2 (T := "list") (U := "tuple") (vv 1) rfl T.b_isinstance rfl T.b_list (by decide +kernel) rfl T.b_tuple (by decide +kernel)))
  (vss_cons (vs_if (On := []) (VW.t (vw_or (vt_cmp (op_neV (huR hr)) gNe_b (ve_isi (T := "list") (vv 0) rfl T.b_isinstance rfl T.b_list (by decide +kernel)) (ve_isi (T := "list") (vv 1) rfl T.b_isinstance rfl T.b_list (by decide +kernel)) (nomark _)) (vw_or1 (vt_cmp (op_neV (huR hr)) gNe_b (ve_isi (T := "tuple") (vv 0) rfl T.b_isinstance rfl T.b_tuple (by decide +kernel)) (ve_isi (T := "tuple") (vv 1) rfl T.b_isinstance rfl T.b_tuple (by decide +kernel)) (nomark _)))))
  (vss_one (vs_ret ve_bl))
  vss_nil)
  (vss_one (vs_ret (ve_and (ve_cmp (op_eqV (huR hr)) (ve_callB call_lenV rfl T.b_len PySem.boot_len (va_cons (vv 0) va_nil)) (ve_callB call_lenV rfl T.b_len PySem.boot_len (va_cons (vv 1) va_nil)) (nomark _)) (ve_one (ve_callB (call_allV rfl) rfl T.b_all (by decide +kernel) (va_cons (vo_e (vo_lc (own := [("_law_mine", 3), ("_law_its", 4)]) rfl sc__law_same.nd (vi_zip rfl T.b_zip (va_cons (vv 0) (va_cons (vv 1) va_nil))) (blkOk_by (own := [("_law_mine", 3), ("_law_its", 4)]) (N := N__law_same) (sc := defScope s__law_same) (by decide +kernel)) (fun _ _ _ _ _ => (vg_tup rfl (vgs_cons (vg_nm (i := 3) rfl sc__law_same.nd rfl (by first | exact Or.inl rfl | exact Or.inr rfl)) (vgs_cons (vg_nm (i := 4) rfl sc__law_same.nd rfl (by first | exact Or.inl rfl | exact Or.inr rfl)) vgs_nil)))) (fun _ _ _ _ _ => vts_nil) (fun _ _ _ _ _ => (ve_do c__law_same hr passL (vm_cons (vv 3) (vm_cons (vv 4) vm_nil)))))) va_nil)))))))
  vss_nil)
  (vss_cons (vs_if (On := []) (vt_of (ve_isi (T := "dict") (vv 1) rfl T.b_isinstance rfl T.b_dict (by decide +kernel)))
  (vss_cons (vs_if (On := []) (VW.t (vw_or (vt_not (vt_of (ve_isi (T := "dict") (vv 0) rfl T.b_isinstance rfl T.b_dict (by decide +kernel)))) (vw_or1 (vt_cmp (op_neV (huR hr)) gNe_b (vo_e (vo_sorted (huR hr) rfl T.b_sorted (va_cons (vv 0) va_nil))) (vo_e (vo_sorted (huR hr) rfl T.b_sorted (va_cons (vv 1) va_nil))) (nomark _)))))
  (vss_one (vs_ret ve_bl))
  vss_nil)
  (vss_one (vs_ret (ve_callB (call_allV rfl) rfl T.b_all (by decide +kernel) (va_cons (vo_e (vo_lc (own := [("_law_own", 2)]) rfl sc__law_same.nd (vi_seq (vv 1)) (blkOk_by (own := [("_law_own", 2)]) (N := N__law_same) (sc := defScope s__law_same) (by decide +kernel)) (fun _ _ _ _ _ => (vg_nm (i := 2) rfl sc__law_same.nd rfl (by first | exact Or.inl rfl | exact Or.inr rfl))) (fun _ _ _ _ _ => vts_nil) (fun _ _ _ _ _ => (ve_do c__law_same hr passL (vm_cons (ve_ix ix_V (vv 0) (vv 2) (fun _ _ => rfl)) (vm_cons (ve_ix ix_V (vv 1) (vv 2) (fun _ _ => rfl)) vm_nil)))))) va_nil)))))
  vss_nil)
  (vss_cons (vs_if (On := []) (VW.t (vw_or (vt_cmp op_isV gIs_b (vv 1) ve_non (nomark _)) (vw_or1 (vt_of (ve_isi2 (T := "bool") (U := "str") (vv 1) rfl T.b_isinstance rfl T.b_bool (by decide +kernel) rfl T.b_str (by decide +kernel))))))
  (vss_one (vs_ret (ve_and (ve_cmp (op_eqV (huR hr)) (vv 0) (vv 1) (nomark _)) (ve_and (ve_cmp (op_eqV (huR hr)) (ve_isi (T := "bool") (vv 0) rfl T.b_isinstance rfl T.b_bool (by decide +kernel)) (ve_isi (T := "bool") (vv 1) rfl T.b_isinstance rfl T.b_bool (by decide +kernel)) (nomark _)) (ve_one (ve_cmp (op_eqV (huR hr)) (ve_cmp op_isV (vv 0) ve_non (nomark _)) (ve_cmp op_isV (vv 1) ve_non (nomark _)) (nomark _)))))))
  vss_nil)
  (vss_one (vs_ret (ve_and (ve_isi (T := "int") (vv 0) rfl T.b_isinstance rfl T.b_int (by decide +kernel)) (ve_and (ve_not (ve_isi (T := "bool") (vv 0) rfl T.b_isinstance rfl T.b_bool (by decide +kernel))) (ve_one (ve_cmp (op_eqV (huR hr)) (vv 0) (vv 1) (nomark _)))))))))))
abbrev N__law_tags : List Str := ["_law_box_here", "_law_many_so", "_law_pool"]
theorem sc__law_tags : FnScope N__law_tags ["_law_box_here", "_law_many_so"] (defScope s__law_tags) := ⟨rfl, rfl, rfl, by decide +kernel, rfl, by decide +kernel, by decide +kernel⟩
theorem ok__law_tags {w : World} {K : PySem.W.Frag} {mg : Str → Option Value} {base : Heap} (T : Txt K w mg) (c__law_pick : Cal PW w K mg base (eb K) 2 "_law_pick" s__law_pick ["_law_box_here", "_law_pool", "_law_size_so"] [true, false, false] false f__law_pick) {a__law_tags : Addr} {fd__law_tags : FuncData} (F__law_tags : FunD K "_law_tags" "_law_tags" (defArgs s__law_tags) (defBody s__law_tags) (defScope s__law_tags) [] [] a__law_tags fd__law_tags) (hm__law_tags : mg "_law_tags" = some (.ref a__law_tags)) : Cal PW w K mg base (eb K) 3 "_law_tags" s__law_tags ["_law_box_here", "_law_many_so"] [true, false] false f__law_tags :=
  cal_ok (On := []) (N := N__law_tags) (ms := [true, false]) (n := 3) (Ps := [0]) rfl rfl rfl F__law_tags hm__law_tags sc__law_tags rfl (fun _ _ _ _ _ _ us hl => match us, hl with | [_, _], _ => rfl) (fun cdv A outer s H E G hr => (vss_cons (vs_set (i := 2) (O1 := [0]) rfl sc__law_tags.nd rfl (Or.inl rfl) (vo_e (vo_lst (va_cons ve_str (va_cons ve_str (va_cons ve_str (va_cons ve_str (va_cons ve_str (va_cons ve_str (va_cons ve_str (va_cons ve_str (va_cons ve_str va_nil))))))))))))
  (vss_one (vs_ret (ve_callTy call_tupV rfl T.b_tuple (by decide +kernel) (va_cons (vo_e (vo_sorted (huR hr) rfl T.b_sorted (va_cons (ve_do c__law_pick (hr.mono (by decide)) lets (vm_slot (i := 0) (vm_cons (vv 2) (vm_cons (vv 1) vm_nil)))) va_nil))) va_nil))))))
abbrev N__law_limits : List Str := ["_law_box_here", "_law_tags_here", "_law_most", "_law_wide_so", "_law_some", "_law_turn", "_law_kind"]
theorem sc__law_limits : FnScope N__law_limits ["_law_box_here", "_law_tags_here", "_law_most", "_law_wide_so"] (defScope s__law_limits) := ⟨rfl, rfl, rfl, by decide +kernel, rfl, by decide +kernel, by decide +kernel⟩
theorem ok__law_limits {w : World} {K : PySem.W.Frag} {mg : Str → Option Value} {base : Heap} (T : Txt K w mg) (c__law_of : Cal PW w K mg base (eb K) 2 "_law_of" s__law_of ["_law_box_here", "_law_some"] [true, false] false f__law_of) (c__law_take : Cal PW w K mg base (eb K) 1 "_law_take" s__law_take ["_law_box_here", "_law_top_so"] [true, false] false f__law_take) {a__law_limits : Addr} {fd__law_limits : FuncData} (F__law_limits : FunD K "_law_limits" "_law_limits" (defArgs s__law_limits) (defBody s__law_limits) (defScope s__law_limits) [] [] a__law_limits fd__law_limits) (hm__law_limits : mg "_law_limits" = some (.ref a__law_limits)) : Cal PW w K mg base (eb K) 3 "_law_limits" s__law_limits ["_law_box_here", "_law_tags_here", "_law_most", "_law_wide_so"] [true, false, false, false] false f__law_limits :=
  cal_ok (On := []) (N := N__law_limits) (ms := [true, false, false, false]) (n := 7) (Ps := [0]) rfl rfl rfl F__law_limits hm__law_limits sc__law_limits rfl (fun _ _ _ _ _ _ us hl => match us, hl with | [_, _, _, _], _ => rfl) (fun cdv A outer s H E G hr => (vss_cons (vs_setO (i := 4) sc__law_limits.nd rfl (Or.inl rfl) (vo_lst va_nil))
  (vss_cons (vs_for letsOwn rfl (vi_range1 rfl T.b_range (va_cons (ve_do c__law_take (hr.mono (by decide)) lets (vm_slot (i := 0) (vm_cons (ve_op op_addV (vv 2) ve_int) vm_nil))) va_nil)) (vg_nm (i := 5) rfl sc__law_limits.nd rfl (Or.inl rfl))
  (vss_cons (vs_set (i := 6) (O1 := [4, 0]) rfl sc__law_limits.nd rfl (Or.inl rfl) (ve_do c__law_of (hr.mono (by decide)) lets (vm_slot (i := 0) (vm_cons (vo_e (vo_lst (va_cons ve_str (va_cons ve_str va_nil)))) vm_nil))))
  (vss_one (vs_expr (ve_append (i := 4) (ve_tup (va_cons (vv 6) (va_cons (ve_do c__law_of (hr.mono (by decide)) lets (vm_slot (i := 0) (vm_cons (vv 1) vm_nil))) (va_cons (ve_op op_subV (ve_do c__law_take (hr.mono (by decide)) lets (vm_slot (i := 0) (vm_cons (ve_op op_addV (ve_op op_mulV ve_int (vv 3)) ve_int) vm_nil))) (vv 3)) va_nil)))))))))
  (vss_one (vs_frz (O1 := [0]) (vs_ret (ve_callTy call_tupV rfl T.b_tuple (by decide +kernel) (va_cons (vv 4) va_nil))))))))
abbrev N__law_ways : List Str := ["_law_sizes_so", "_law_found", "_law_turn", "_law_longer", "_law_way_so", "_law_left_so", "_law_k", "_law_own"]
theorem sc__law_ways : FnScope N__law_ways ["_law_sizes_so"] (defScope s__law_ways) := ⟨rfl, rfl, rfl, by decide +kernel, rfl, by decide +kernel, by decide +kernel⟩
theorem ok__law_ways {w : World} {K : PySem.W.Frag} {mg : Str → Option Value} {base : Heap} (T : Txt K w mg)  {a__law_ways : Addr} {fd__law_ways : FuncData} (F__law_ways : FunD K "_law_ways" "_law_ways" (defArgs s__law_ways) (defBody s__law_ways) (defScope s__law_ways) [] [] a__law_ways fd__law_ways) (hm__law_ways : mg "_law_ways" = some (.ref a__law_ways)) : Cal PW w K mg base (eb K) 1 "_law_ways" s__law_ways ["_law_sizes_so"] [false] false f__law_ways :=
  cal_ok (On := []) (N := N__law_ways) (ms := [false]) (n := 8) (Ps := []) rfl rfl rfl F__law_ways hm__law_ways sc__law_ways rfl (fun _ _ _ _ _ _ us hl => match us, hl with | [_], _ => rfl) (fun cdv A outer s H E G hr => (vss_cons (vs_set (i := 1) (O1 := []) rfl sc__law_ways.nd rfl (Or.inl rfl) (vo_e (vo_lst (va_cons (ve_tup (va_cons (ve_tup va_nil) (va_cons (ve_callTy call_tupV rfl T.b_tuple (by decide +kernel) (va_cons (vv 0) va_nil)) va_nil))) va_nil))))
  (vss_cons (vs_for letsOwn rfl (vi_range1 rfl T.b_range (va_cons (ve_callB (call_sumV rfl) rfl T.b_sum (by decide +kernel) (va_cons (vv 0) va_nil)) va_nil)) (vg_nm (i := 2) rfl sc__law_ways.nd rfl (Or.inl rfl))
  (vss_cons (vs_setO (i := 3) sc__law_ways.nd rfl (Or.inl rfl) (vo_lst va_nil))
  (vss_cons (vs_for letsOwn rfl (vi_seq (vv 1)) (vg_tup rfl (vgs_cons (vg_nm (i := 4) rfl sc__law_ways.nd rfl (Or.inl rfl)) (vgs_cons (vg_nm (i := 5) rfl sc__law_ways.nd rfl (Or.inr rfl)) vgs_nil)))
  (vss_one (vs_for letsOwn rfl (vi_seq (vo_e (vo_lc (own := [("_law_k", 6)]) rfl sc__law_ways.nd (vi_range1 rfl T.b_range (va_cons (ve_callB call_lenV rfl T.b_len PySem.boot_len (va_cons (vv 5) va_nil)) va_nil)) (blkOk_by (own := [("_law_k", 6)]) (N := N__law_ways) (sc := defScope s__law_ways) (by decide +kernel)) (fun _ _ _ _ _ => (vg_nm (i := 6) rfl sc__law_ways.nd rfl (by first | exact Or.inl rfl | exact Or.inr rfl))) (fun _ _ _ _ _ => (vts_one (vt_cmp (op_gtV (huR hr)) gGt_b (ve_ix ix_V (vv 5) (vv 6) (fun _ _ => rfl)) ve_int (nomark _)))) (fun _ _ _ _ _ => (vv 6))))) (vg_nm (i := 6) rfl sc__law_ways.nd rfl (Or.inl rfl))
  (vss_one (vs_expr (ve_append (i := 3) (ve_tup (va_cons (ve_op op_addV (vv 4) (ve_tup (va_cons (vv 6) va_nil))) (va_cons (ve_op op_addV (ve_op op_addV (ve_slice (vv 5) vp_none (vp_some (vv 6))) (ve_tup (va_cons (ve_op op_subV (ve_ix ix_V (vv 5) (vv 6) (fun _ _ => rfl)) ve_int) va_nil))) (ve_slice (vv 5) (vp_some (ve_op op_addV (vv 6) ve_int)) vp_none)) va_nil)))))))))
  (vss_one (vs_frz (O1 := []) (vs_set (i := 1) (O1 := []) rfl sc__law_ways.nd rfl (Or.inl rfl) (vv 3)))))))
  (vss_one (vs_ret (vo_e (vo_lc (own := [("_law_own", 7)]) rfl sc__law_ways.nd (vi_seq (vv 1)) (blkOk_by (own := [("_law_own", 7)]) (N := N__law_ways) (sc := defScope s__law_ways) (by decide +kernel)) (fun _ _ _ _ _ => (vg_nm (i := 7) rfl sc__law_ways.nd rfl (by first | exact Or.inl rfl | exact Or.inr rfl))) (fun _ _ _ _ _ => vts_nil) (fun _ _ _ _ _ => (ve_ix ix_V (vv 7) ve_int (fun _ _ => rfl))))))))))
abbrev N__law_woven : List Str := ["_law_rows_so", "_law_way_so", "_law_at_so", "_law_found", "_law_k"]
theorem sc__law_woven : FnScope N__law_woven ["_law_rows_so", "_law_way_so"] (defScope s__law_woven) := ⟨rfl, rfl, rfl, by decide +kernel, rfl, by decide +kernel, by decide +kernel⟩
theorem ok__law_woven {w : World} {K : PySem.W.Frag} {mg : Str → Option Value} {base : Heap} (T : Txt K w mg)  {a__law_woven : Addr} {fd__law_woven : FuncData} (F__law_woven : FunD K "_law_woven" "_law_woven" (defArgs s__law_woven) (defBody s__law_woven) (defScope s__law_woven) [] [] a__law_woven fd__law_woven) (hm__law_woven : mg "_law_woven" = some (.ref a__law_woven)) : Cal PW w K mg base (eb K) 1 "_law_woven" s__law_woven ["_law_rows_so", "_law_way_so"] [false, false] false f__law_woven :=
  cal_ok (On := []) (N := N__law_woven) (ms := [false, false]) (n := 5) (Ps := []) rfl rfl rfl F__law_woven hm__law_woven sc__law_woven rfl (fun _ _ _ _ _ _ us hl => match us, hl with | [_, _], _ => rfl) (fun cdv A outer s H E G hr => (vss_cons (vs_par2 (i := 2) (j := 3) (O1 := [2]) (O2 := [3, 2]) (s1 := .tmp) (s2 := .tmp) rfl rfl rfl sc__law_woven.nd rfl rfl (by decide) rfl rfl (vmt (vo_rep (vo_e (vo_lst (va_cons ve_int va_nil))) (ve_callB call_lenV rfl T.b_len PySem.boot_len (va_cons (vv 0) va_nil))) (vmt (vo_lst va_nil) vm_nil)))
  (vss_cons (vs_for letsOwn rfl (vi_seq (vv 1)) (vg_nm (i := 4) rfl sc__law_woven.nd rfl (Or.inl rfl))
  (vss_cons (vs_expr (ve_append (i := 3) (ve_ix ix_V (ve_ix ix_V (vv 0) (vv 4) (fun _ _ => rfl)) (ve_ixO (i := 2) (vv 4) (fun _ _ => rfl)) (fun _ _ => rfl))))
  (vss_one (vs_setIx (i := 2) (ve_op op_addV (ve_ixO (i := 2) (vv 4) (fun _ _ => rfl)) ve_int) (vv 4)))))
  (vss_one (vs_frz (O1 := [2]) (vs_ret (ve_callTy call_tupV rfl T.b_tuple (by decide +kernel) (va_cons (vv 3) va_nil))))))))
abbrev N__law_heard : List Str := ["_law_rows_so", "_law_much", "_law_caught", "error"]
theorem sc__law_heard : FnScope N__law_heard ["_law_rows_so", "_law_much"] (defScope s__law_heard) := ⟨rfl, rfl, rfl, by decide +kernel, rfl, by decide +kernel, by decide +kernel⟩
theorem ok__law_heard {w : World} {K : PySem.W.Frag} {mg : Str → Option Value} {base : Heap} (T : Txt K w mg) (c_nth_way : Cal PW w K mg base (eb K) 2 "nth_way" s_nth_way ["lists", "number"] [false, false] false f_nth_way) {a__law_heard : Addr} {fd__law_heard : FuncData} (F__law_heard : FunD K "_law_heard" "_law_heard" (defArgs s__law_heard) (defBody s__law_heard) (defScope s__law_heard) [] [] a__law_heard fd__law_heard) (hm__law_heard : mg "_law_heard" = some (.ref a__law_heard)) : Cal PW w K mg base (eb K) 3 "_law_heard" s__law_heard ["_law_rows_so", "_law_much"] [false, false] false f__law_heard_v15 :=
  cal_ok (On := []) (N := N__law_heard) (ms := [false, false]) (n := 4) (Ps := []) rfl rfl rfl F__law_heard hm__law_heard sc__law_heard rfl (fun _ _ _ _ _ _ us hl => match us, hl with | [_, _], _ => rfl) (fun cdv A outer s H E G hr => (vss_cons (vs_set (i := 2) (O1 := []) rfl sc__law_heard.nd rfl (Or.inl rfl) ve_non)
  (vss_cons (vs_try rfl rfl rfl sc__law_heard.nd (takes_of rfl rfl rfl rfl) (fun W pn xe tk own => (vss_one (vs_expr (ve_doT (fun σ => passAt tk σ) c_nth_way (hr.mono (by decide)) (vm_cons (vv 0) (vm_cons (vv 1) vm_nil)))))) (ClV.cons (cv := .ref (He.ga K "NoNumber")) (i := 3) (t := fun c => List.lookup c ([(2, true)] : List (Nat × Bool))) ⟨rfl, by decide, .inl T.x_NoNumber.glo⟩ rfl rfl T.t_NoNumber (fun a pn => (vss_one (vs_set (i := 2) (O1 := []) rfl sc__law_heard.nd rfl (Or.inl rfl) (vv 3)))) ClV.nil))
  (vss_one (vs_ret (ve_if (vt_cmp op_isV gIs_b (vv 2) ve_non (nomark _)) ve_non (vo_e (vo_lst (va_cons (ve_fld T.f_number (vv 2)) (va_cons (ve_isx (tab := fun nm => List.lookup nm ([("NoNumber", true)] : List (Str × Bool))) (nb := none) (cV := .ty "LookupError") T.i_LookupError (fun _ z => by cases z) (fun _ z => z) (pe_bltn (v := .ty "LookupError") rfl T.b_LookupError (by decide +kernel) rfl) (vv 2) rfl T.b_isinstance) va_nil))))))))))
abbrev N__law_by_hand_right : List Str := ["_law_caps", "_law_floors", "_law_some", "_law_got", "_law_due", "_law_many_so", "_law_four_so", "_law_two", "_law_last", "_law_own"]
theorem sc__law_by_hand_right : FnScope N__law_by_hand_right [] (defScope s__law_by_hand_right) := ⟨rfl, rfl, rfl, by decide +kernel, rfl, by decide +kernel, by decide +kernel⟩
theorem ok__law_by_hand_right {w : World} {K : PySem.W.Frag} {mg : Str → Option Value} {base : Heap} (T : Txt K w mg) (c__law_heard : Cal PW w K mg base (eb K) 3 "_law_heard" s__law_heard ["_law_rows_so", "_law_much"] [false, false] false f__law_heard_v15) (c__law_lists : Cal PW w K mg base (eb K) 17 "_law_lists" s__law_lists ["_law_matter"] [false] false (f__law_lists 16)) (c__law_same : Cal PW w K mg base (eb K) 17 "_law_same" s__law_same ["_law_got", "_law_due"] [false, false] false (f__law_same 16)) (c_how_many_ways : Cal PW w K mg base (eb K) 2 "how_many_ways" s_how_many_ways ["lists"] [false] false f_how_many_ways) (c_nth_way : Cal PW w K mg base (eb K) 2 "nth_way" s_nth_way ["lists", "number"] [false, false] false f_nth_way) (c_number_of_way : Cal PW w K mg base (eb K) 2 "number_of_way" s_number_of_way ["lists", "way"] [false, false] false f_number_of_way) (c_woven : Cal PW w K mg base (eb K) 18 "woven" s_woven ["lists", "way"] [false, false] false f_woven) {a__law_by_hand_right : Addr} {fd__law_by_hand_right : FuncData} (F__law_by_hand_right : FunD K "_law_by_hand_right" "_law_by_hand_right" (defArgs s__law_by_hand_right) (defBody s__law_by_hand_right) (defScope s__law_by_hand_right) [] [] a__law_by_hand_right fd__law_by_hand_right) (hm__law_by_hand_right : mg "_law_by_hand_right" = some (.ref a__law_by_hand_right)) : Cal PW w K mg base (eb K) 19 "_law_by_hand_right" s__law_by_hand_right [] [] false f__law_by_hand_right_v25 :=
  cal_ok (On := []) (N := N__law_by_hand_right) (ms := []) (n := 10) (Ps := []) rfl rfl rfl F__law_by_hand_right hm__law_by_hand_right sc__law_by_hand_right rfl (fun _ _ _ _ _ _ us hl => match us, hl with | [], _ => rfl) (fun cdv A outer s H E G hr => (vss_cons (vs_parC2 (i := 0) (j := 1) (O1 := []) (O2 := []) (s1 := .dat) (s2 := .dat) rfl rfl rfl sc__law_by_hand_right.nd rfl rfl (Or.inl rfl) (Or.inl rfl) (vm_cons (ve_tup (va_cons (ve_tup (va_cons ve_str (va_cons ve_str (va_cons ve_int va_nil)))) va_nil)) (vm_cons (ve_tup (va_cons (ve_tup (va_cons ve_str (va_cons ve_str (va_cons ve_int va_nil)))) va_nil)) vm_nil)))
  (vss_cons (vs_set (i := 2) (O1 := []) rfl sc__law_by_hand_right.nd rfl (Or.inl rfl) (vo_e (vo_lst (va_cons (ve_tup (va_cons (vv 0) (va_cons (vv 1) va_nil))) (va_cons (ve_tup (va_cons (ve_op op_mulV (vv 0) ve_int) (va_cons (ve_op op_mulV (vv 1) ve_int) (va_cons (vv 0) va_nil)))) (va_cons (ve_tup (va_cons (ve_tup va_nil) va_nil)) (va_cons (ve_tup (va_cons (ve_tup va_nil) (va_cons (ve_tup va_nil) (va_cons (ve_tup va_nil) va_nil)))) (va_cons (ve_tup (va_cons (ve_op op_mulV (vv 0) ve_int) va_nil)) (va_cons (ve_tup (va_cons (vv 0) (va_cons (vv 0) (va_cons (vv 0) (va_cons (vv 0) va_nil))))) va_nil)))))))))
  (vss_cons (vs_setLcO (i := 3) (own := [("_law_own", 9)]) rfl sc__law_by_hand_right.nd rfl rfl (sw_true rfl rfl rfl (by decide +kernel)) (vi_seq (vv 2)) (blkOk_by (own := [("_law_own", 9)]) (N := N__law_by_hand_right) (sc := defScope s__law_by_hand_right) (by decide +kernel)) (fun _ _ _ _ _ => (vg_nm (i := 9) rfl sc__law_by_hand_right.nd rfl (by first | exact Or.inl rfl | exact Or.inr rfl))) (fun _ _ _ _ _ => vts_nil) (fun _ _ _ _ _ => (ve_do c_how_many_ways (hr.mono (by decide)) passL (vm_cons (vv 9) vm_nil))))
  (vss_cons (vs_set (i := 4) (O1 := [3]) rfl sc__law_by_hand_right.nd rfl (Or.inl rfl) (vo_e (vo_lst (va_cons ve_int (va_cons ve_int (va_cons ve_int (va_cons ve_int (va_cons ve_int (va_cons ve_int va_nil)))))))))
  (vss_cons (vs_asg (ve_tup (va_cons ve_int (va_cons (ve_tup (va_cons (ve_op op_mulV (vv 0) ve_int) (va_cons (ve_op op_mulV (vv 1) ve_int) (va_cons (ve_op op_mulV (vv 0) ve_int) (va_cons (ve_op op_mulV (vv 1) ve_int) va_nil))))) (va_cons (ve_tup (va_cons (ve_op op_mulV (vv 0) ve_int) (va_cons (ve_op op_mulV (vv 1) ve_int) va_nil))) va_nil)))) (vg_tup rfl (vgs_cons (vg_nm (i := 5) rfl sc__law_by_hand_right.nd rfl (Or.inl rfl)) (vgs_cons (vg_nm (i := 6) rfl sc__law_by_hand_right.nd rfl (Or.inl rfl)) (vgs_cons (vg_nm (i := 7) rfl sc__law_by_hand_right.nd rfl (Or.inr rfl)) vgs_nil)))))
  (vss_cons (vs_frz (O1 := []) (vs_setO (i := 3) sc__law_by_hand_right.nd rfl (Or.inl rfl) (vo_cat (vv 3) (vo_e (vo_lst (va_cons (ve_do c_how_many_ways (hr.mono (by decide)) lets (vm_cons (vv 6) vm_nil)) (va_cons (ve_do c_nth_way (hr.mono (by decide)) lets (vm_cons (vv 6) (vm_cons (ve_op op_subV (vv 5) ve_int) vm_nil))) (va_cons (ve_do c_nth_way (hr.mono (by decide)) lets (vm_cons (vv 6) (vm_cons ve_int vm_nil))) (va_cons (ve_do c_how_many_ways (hr.mono (by decide)) lets (vm_cons (vv 7) vm_nil)) va_nil)))))))))
  (vss_cons (vs_set (i := 8) (O1 := [3]) rfl sc__law_by_hand_right.nd rfl (Or.inl rfl) (ve_op op_addV (ve_op op_addV (ve_op op_addV (ve_op op_mulV (ve_tup (va_cons ve_int va_nil)) ve_int) (ve_op op_mulV (ve_tup (va_cons ve_int va_nil)) ve_int)) (ve_op op_mulV (ve_tup (va_cons ve_int va_nil)) ve_int)) (ve_op op_mulV (ve_tup (va_cons ve_int va_nil)) ve_int)))
  (vss_cons (vs_set (i := 4) (O1 := [3]) rfl sc__law_by_hand_right.nd rfl (Or.inl rfl) (ve_op op_addV (vv 4) (vo_e (vo_lst (va_cons (vv 5) (va_cons (vv 8) (va_cons (ve_revA (vv 8)) (va_cons ve_int va_nil))))))))
  (vss_cons (vs_frz (O1 := []) (vs_setO (i := 3) sc__law_by_hand_right.nd rfl (Or.inl rfl) (vo_cat (vv 3) (vo_e (vo_lst (va_cons (ve_do c_number_of_way (hr.mono (by decide)) lets (vm_cons (vv 6) (vm_cons (vv 8) vm_nil))) (va_cons (ve_do c_number_of_way (hr.mono (by decide)) lets (vm_cons (vv 6) (vm_cons (ve_op op_addV (ve_op op_addV (ve_tup (va_cons ve_int va_nil)) (ve_slice (ve_revA (vv 8)) vp_none (vp_some ve_int))) (ve_slice (ve_revA (vv 8)) (vp_some ve_int) vp_none)) vm_nil))) va_nil)))))))
  (vss_cons (vs_set (i := 4) (O1 := [3]) rfl sc__law_by_hand_right.nd rfl (Or.inl rfl) (ve_op op_addV (vv 4) (vo_e (vo_lst (va_cons (ve_op op_subV (vv 5) ve_int) (va_cons (ve_op op_fdvV (vv 5) ve_int) va_nil))))))
  (vss_cons (vs_frz (O1 := []) (vs_setO (i := 3) sc__law_by_hand_right.nd rfl (Or.inl rfl) (vo_cat (vv 3) (vo_e (vo_lst (va_cons (ve_do c_nth_way (hr.mono (by decide)) lets (vm_cons (vv 7) (vm_cons ve_int vm_nil))) (va_cons (ve_do c_nth_way (hr.mono (by decide)) lets (vm_cons (vv 7) (vm_cons (ve_op op_fdvV ve_int ve_int) vm_nil))) (va_cons (ve_do c_nth_way (hr.mono (by decide)) lets (vm_cons (vv 7) (vm_cons ve_int vm_nil))) va_nil))))))))
  (vss_cons (vs_set (i := 4) (O1 := [3]) rfl sc__law_by_hand_right.nd rfl (Or.inl rfl) (ve_op op_addV (vv 4) (vo_e (vo_lst (va_cons (ve_op op_addV (ve_op op_addV (ve_op op_mulV (ve_tup (va_cons ve_int va_nil)) ve_int) (ve_tup (va_cons ve_int (va_cons ve_int va_nil)))) (ve_op op_mulV (ve_tup (va_cons ve_int va_nil)) ve_int)) (va_cons (ve_op op_addV (ve_op op_addV (ve_tup (va_cons ve_int va_nil)) (ve_op op_mulV (ve_tup (va_cons ve_int va_nil)) ve_int)) (ve_op op_mulV (ve_tup (va_cons ve_int va_nil)) ve_int)) (va_cons (ve_op op_addV (ve_op op_addV (ve_op op_mulV (ve_tup (va_cons ve_int va_nil)) ve_int) (ve_tup (va_cons ve_int (va_cons ve_int va_nil)))) (ve_op op_mulV (ve_tup (va_cons ve_int va_nil)) ve_int)) va_nil)))))))
  (vss_cons (vs_frz (O1 := []) (vs_setO (i := 3) sc__law_by_hand_right.nd rfl (Or.inl rfl) (vo_cat (vv 3) (vo_e (vo_lc (own := [("_law_own", 9)]) rfl sc__law_by_hand_right.nd (vi_seq (ve_tup (va_cons ve_int (va_cons (ve_neg ve_int) (va_cons (ve_op op_powV ve_int ve_int) (va_cons ve_int va_nil)))))) (blkOk_by (own := [("_law_own", 9)]) (N := N__law_by_hand_right) (sc := defScope s__law_by_hand_right) (by decide +kernel)) (fun _ _ _ _ _ => (vg_nm (i := 9) rfl sc__law_by_hand_right.nd rfl (by first | exact Or.inl rfl | exact Or.inr rfl))) (fun _ _ _ _ _ => vts_nil) (fun _ _ _ _ _ => (ve_do c__law_heard (hr.mono (by decide)) passL (vm_cons (vv 7) (vm_cons (vv 9) vm_nil)))))))))
  (vss_cons (vs_set (i := 4) (O1 := [3]) rfl sc__law_by_hand_right.nd rfl (Or.inl rfl) (ve_op op_addV (vv 4) (vo_e (vo_lst (va_cons (vo_e (vo_lst (va_cons ve_int (va_cons ve_bl va_nil)))) (va_cons (vo_e (vo_lst (va_cons (ve_neg ve_int) (va_cons ve_bl va_nil)))) (va_cons (vo_e (vo_lst (va_cons (ve_op op_powV ve_int ve_int) (va_cons ve_bl va_nil)))) (va_cons ve_non va_nil))))))))
  (vss_cons (vs_frz (O1 := []) (vs_setO (i := 3) sc__law_by_hand_right.nd rfl (Or.inl rfl) (vo_cat (vv 3) (vo_e (vo_lst (va_cons (ve_do c_woven (hr.mono (by decide)) lets (vm_cons (ve_tup (va_cons (vv 0) (va_cons (vv 1) va_nil))) (vm_cons (ve_tup (va_cons ve_int (va_cons ve_int va_nil))) vm_nil))) (va_cons (ve_doK0 (n := 2) (ix := [1, 0]) (ks := ["way", "lists"]) c_woven (hr.mono (by decide)) lets (vk_cons (vo_e (vo_lst (va_cons ve_int (va_cons ve_int va_nil)))) (vk_cons (ve_do c__law_lists (hr.mono (by decide)) lets (vm_cons (ve_tup (va_cons (vv 0) (va_cons (vv 1) va_nil))) vm_nil)) vk_nil)) rfl rfl (fun _ _ _ _ _ _ ws hl => match ws, hl with | [_, _], _ => rfl)) (va_cons (ve_do c_woven (hr.mono (by decide)) lets (vm_cons (ve_tup (va_cons (ve_tup va_nil) va_nil)) (vm_cons (ve_tup va_nil) vm_nil))) va_nil))))))))
  (vss_cons (vs_set (i := 4) (O1 := [3]) rfl sc__law_by_hand_right.nd rfl (Or.inl rfl) (ve_op op_addV (vv 4) (vo_e (vo_lst (va_cons (ve_op op_addV (vv 1) (vv 0)) (va_cons (ve_op op_addV (vv 0) (vv 1)) (va_cons (ve_tup va_nil) va_nil)))))))
  (vss_cons (vs_expr (ve_append (i := 3) (ve_doK0 (n := 2) (ix := [1, 0]) (ks := ["number", "lists"]) c_nth_way (hr.mono (by decide)) lets (vk_cons ve_int (vk_cons (ve_do c__law_lists (hr.mono (by decide)) lets (vm_cons (ve_tup (va_cons (vv 0) (va_cons (vv 1) va_nil))) vm_nil)) vk_nil)) rfl rfl (fun _ _ _ _ _ _ ws hl => match ws, hl with | [_, _], _ => rfl))))
  (vss_cons (vs_expr (ve_append (i := 3) (ve_doK0 (n := 2) (ix := [1, 0]) (ks := ["way", "lists"]) c_number_of_way (hr.mono (by decide)) lets (vk_cons (vo_e (vo_lst (va_cons ve_int (va_cons ve_int va_nil)))) (vk_cons (vo_e (vo_lst (va_cons (vo_e (vo_list rfl T.b_list (va_cons (vv 0) va_nil))) (va_cons (vo_e (vo_list rfl T.b_list (va_cons (vv 1) va_nil))) va_nil)))) vk_nil)) rfl rfl (fun _ _ _ _ _ _ ws hl => match ws, hl with | [_, _], _ => rfl))))
  (vss_one (vs_frz (O1 := []) (vs_ret (ve_do c__law_same (hr.mono (by decide)) lets (vm_cons (vv 3) (vm_cons (ve_op op_addV (vv 4) (vo_e (vo_lst (va_cons (ve_tup (va_cons ve_int (va_cons ve_int va_nil))) (va_cons ve_int va_nil))))) vm_nil)))))))))))))))))))))))))
abbrev N__law_right : List Str := ["_law_box_here", "_law_turn", "_law_tags_here", "_law_rows_so", "_law_left_so", "_law_lap", "_law_ways_so", "_law_soft", "_law_got", "_law_due", "_law_k", "_law_own", "_law_row"]
theorem sc__law_right : FnScope N__law_right ["_law_box_here"] (defScope s__law_right) := ⟨rfl, rfl, rfl, by decide +kernel, rfl, by decide +kernel, by decide +kernel⟩
theorem ok__law_right {w : World} {K : PySem.W.Frag} {mg : Str → Option Value} {base : Heap} (T : Txt K w mg) (c__law_heard : Cal PW w K mg base (eb K) 3 "_law_heard" s__law_heard ["_law_rows_so", "_law_much"] [false, false] false f__law_heard_v15) (c__law_limits : Cal PW w K mg base (eb K) 3 "_law_limits" s__law_limits ["_law_box_here", "_law_tags_here", "_law_most", "_law_wide_so"] [true, false, false, false] false f__law_limits) (c__law_lists : Cal PW w K mg base (eb K) 17 "_law_lists" s__law_lists ["_law_matter"] [false] false (f__law_lists 16)) (c__law_same : Cal PW w K mg base (eb K) 17 "_law_same" s__law_same ["_law_got", "_law_due"] [false, false] false (f__law_same 16)) (c__law_tags : Cal PW w K mg base (eb K) 3 "_law_tags" s__law_tags ["_law_box_here", "_law_many_so"] [true, false] false f__law_tags) (c__law_take : Cal PW w K mg base (eb K) 1 "_law_take" s__law_take ["_law_box_here", "_law_top_so"] [true, false] false f__law_take) (c__law_ways : Cal PW w K mg base (eb K) 1 "_law_ways" s__law_ways ["_law_sizes_so"] [false] false f__law_ways) (c__law_woven : Cal PW w K mg base (eb K) 1 "_law_woven" s__law_woven ["_law_rows_so", "_law_way_so"] [false, false] false f__law_woven) (c_how_many_ways : Cal PW w K mg base (eb K) 2 "how_many_ways" s_how_many_ways ["lists"] [false] false f_how_many_ways) (c_nth_way : Cal PW w K mg base (eb K) 2 "nth_way" s_nth_way ["lists", "number"] [false, false] false f_nth_way) (c_number_of_way : Cal PW w K mg base (eb K) 2 "number_of_way" s_number_of_way ["lists", "way"] [false, false] false f_number_of_way) (c_woven : Cal PW w K mg base (eb K) 18 "woven" s_woven ["lists", "way"] [false, false] false f_woven) {a__law_right : Addr} {fd__law_right : FuncData} (F__law_right : FunD K "_law_right" "_law_right" (defArgs s__law_right) (defBody s__law_right) (defScope s__law_right) [] [] a__law_right fd__law_right) (hm__law_right : mg "_law_right" = some (.ref a__law_right)) : Cal PW w K mg base (eb K) 19 "_law_right" s__law_right ["_law_box_here"] [true] false f__law_right_v58 :=
  cal_ok (On := []) (N := N__law_right) (ms := [true]) (n := 13) (Ps := [0]) rfl rfl rfl F__law_right hm__law_right sc__law_right rfl (fun _ _ _ _ _ _ us hl => match us, hl with | [_], _ => rfl) (fun cdv A outer s H E G hr => (vss_cons (vs_for letsOwn rfl (vi_range1 rfl T.b_range (va_cons ve_int va_nil)) (vg_nm (i := 1) rfl sc__law_right.nd rfl (Or.inl rfl))
  (vss_cons (vs_parC3 (i := 2) (j := 3) (l := 4) (O1 := [0]) (O2 := [3, 0]) (O3 := [3, 0]) (s1 := .dat) (s2 := .tmp) (s3 := .dat) rfl rfl rfl rfl sc__law_right.nd rfl rfl rfl (Or.inl rfl) (Or.inr rfl) (Or.inl rfl) (vm_cons (ve_do c__law_tags (hr.mono (by decide)) lets (vm_slot (i := 0) (vm_cons ve_int vm_nil))) (vmt (vo_lst va_nil) (vm_cons ve_int vm_nil))))
  (vss_cons (vs_for letsOwn rfl (vi_range1 rfl T.b_range (va_cons (ve_op op_addV ve_int (ve_do c__law_take (hr.mono (by decide)) lets (vm_slot (i := 0) (vm_cons ve_int vm_nil)))) va_nil)) (vg_nm (i := 5) rfl sc__law_right.nd rfl (Or.inl rfl))
  (vss_cons (vs_expr (ve_append (i := 3) (ve_do c__law_limits (hr.mono (by decide)) lets (vm_slot (i := 0) (vm_cons (vv 2) (vm_cons (ve_callB (call_min2V rfl) rfl T.b_min (by decide +kernel) (va_cons (vv 4) (va_cons ve_int va_nil))) (vm_cons ve_int vm_nil)))))))
  (vss_one (vs_set (i := 4) (O1 := [3, 0]) rfl sc__law_right.nd rfl (Or.inl rfl) (ve_op op_subV (vv 4) (ve_callB call_lenV rfl T.b_len PySem.boot_len (va_cons (ve_ixO (i := 3) (ve_neg ve_int) (fun _ _ => rfl)) va_nil)))))))
  (vss_cons (vs_frz (O1 := [0]) (vs_set (i := 3) (O1 := [0]) rfl sc__law_right.nd rfl (Or.inr rfl) (ve_callTy call_tupV rfl T.b_tuple (by decide +kernel) (va_cons (vv 3) va_nil))))
  (vss_cons (vs_parC2 (i := 6) (j := 7) (O1 := [0]) (O2 := [0]) (s1 := .dat) (s2 := .dat) rfl rfl rfl sc__law_right.nd rfl rfl (Or.inl rfl) (Or.inr rfl) (vm_cons (ve_do c__law_ways (hr.mono (by decide)) lets (vm_cons (vo_e (vo_lc (own := [("_law_row", 12)]) rfl sc__law_right.nd (vi_seq (vv 3)) (blkOk_by (own := [("_law_row", 12)]) (N := N__law_right) (sc := defScope s__law_right) (by decide +kernel)) (fun _ _ _ _ _ => (vg_nm (i := 12) rfl sc__law_right.nd rfl (by first | exact Or.inl rfl | exact Or.inr rfl))) (fun _ _ _ _ _ => vts_nil) (fun _ _ _ _ _ => (ve_callB call_lenV rfl T.b_len PySem.boot_len (va_cons (vv 12) va_nil))))) vm_nil)) (vm_cons (ve_do c__law_lists (hr.mono (by decide)) lets (vm_cons (vv 3) vm_nil)) vm_nil)))
  (vss_cons (vs_set (i := 8) (O1 := [0]) rfl sc__law_right.nd rfl (Or.inl rfl) (vo_e (vo_lst (va_cons (ve_do c_how_many_ways (hr.mono (by decide)) lets (vm_cons (vv 3) vm_nil)) (va_cons (ve_doK0 (n := 1) (ix := [0]) (ks := ["lists"]) c_how_many_ways (hr.mono (by decide)) lets (vk_cons (vv 7) vk_nil) rfl rfl (fun _ _ _ _ _ _ ws hl => match ws, hl with | [_], _ => rfl)) (va_cons (vo_e (vo_lc (own := [("_law_k", 10)]) rfl sc__law_right.nd (vi_range1 rfl T.b_range (va_cons (ve_callB call_lenV rfl T.b_len PySem.boot_len (va_cons (vv 6) va_nil)) va_nil)) (blkOk_by (own := [("_law_k", 10)]) (N := N__law_right) (sc := defScope s__law_right) (by decide +kernel)) (fun _ _ _ _ _ => (vg_nm (i := 10) rfl sc__law_right.nd rfl (by first | exact Or.inl rfl | exact Or.inr rfl))) (fun _ _ _ _ _ => vts_nil) (fun _ _ _ _ _ => (ve_do c_nth_way (hr.mono (by decide)) passL (vm_cons (vv 3) (vm_cons (vv 10) vm_nil)))))) va_nil))))))
  (vss_cons (vs_set (i := 8) (O1 := [0]) rfl sc__law_right.nd rfl (Or.inl rfl) (ve_op op_addV (vv 8) (vo_e (vo_lst (va_cons (vo_e (vo_lc (own := [("_law_own", 11)]) rfl sc__law_right.nd (vi_seq (vv 6)) (blkOk_by (own := [("_law_own", 11)]) (N := N__law_right) (sc := defScope s__law_right) (by decide +kernel)) (fun _ _ _ _ _ => (vg_nm (i := 11) rfl sc__law_right.nd rfl (by first | exact Or.inl rfl | exact Or.inr rfl))) (fun _ _ _ _ _ => vts_nil) (fun _ _ _ _ _ => (ve_do c_number_of_way (hr.mono (by decide)) passL (vm_cons (vv 3) (vm_cons (vv 11) vm_nil)))))) (va_cons (vo_e (vo_lc (own := [("_law_own", 11)]) rfl sc__law_right.nd (vi_seq (vv 6)) (blkOk_by (own := [("_law_own", 11)]) (N := N__law_right) (sc := defScope s__law_right) (by decide +kernel)) (fun _ _ _ _ _ => (vg_nm (i := 11) rfl sc__law_right.nd rfl (by first | exact Or.inl rfl | exact Or.inr rfl))) (fun _ _ _ _ _ => vts_nil) (fun _ _ _ _ _ => (ve_do c_woven (hr.mono (by decide)) passL (vm_cons (vv 7) (vm_cons (vo_e (vo_list rfl T.b_list (va_cons (vv 11) va_nil))) vm_nil)))))) va_nil))))))
  (vss_cons (vs_setO (i := 9) sc__law_right.nd rfl (Or.inl rfl) (vo_lst (va_cons (ve_callB call_lenV rfl T.b_len PySem.boot_len (va_cons (vv 6) va_nil)) (va_cons (ve_callB call_lenV rfl T.b_len PySem.boot_len (va_cons (vv 6) va_nil)) (va_cons (vv 6) (va_cons (vo_e (vo_lstRg rfl rfl T.b_list rfl T.b_range (ve_callB call_lenV rfl T.b_len PySem.boot_len (va_cons (vv 6) va_nil)))) va_nil))))))
  (vss_cons (vs_expr (ve_append (i := 9) (vo_e (vo_lc (own := [("_law_own", 11)]) rfl sc__law_right.nd (vi_seq (vv 6)) (blkOk_by (own := [("_law_own", 11)]) (N := N__law_right) (sc := defScope s__law_right) (by decide +kernel)) (fun _ _ _ _ _ => (vg_nm (i := 11) rfl sc__law_right.nd rfl (by first | exact Or.inl rfl | exact Or.inr rfl))) (fun _ _ _ _ _ => vts_nil) (fun _ _ _ _ _ => (ve_do c__law_woven (hr.mono (by decide)) passL (vm_cons (vv 3) (vm_cons (vv 11) vm_nil))))))))
  (vss_cons (vs_set (i := 8) (O1 := [9, 0]) rfl sc__law_right.nd rfl (Or.inl rfl) (ve_op op_addV (vv 8) (vo_e (vo_lst (va_cons (ve_do c__law_heard (hr.mono (by decide)) lets (vm_cons (vv 3) (vm_cons (ve_callB call_lenV rfl T.b_len PySem.boot_len (va_cons (vv 6) va_nil)) vm_nil))) (va_cons (ve_do c__law_heard (hr.mono (by decide)) lets (vm_cons (vv 7) (vm_cons (ve_neg ve_int) vm_nil))) (va_cons (vv 7) va_nil)))))))
  (vss_one (vs_frz (O1 := [0]) (vs_if (On := [0]) (vt_not (vt_of (ve_do c__law_same (hr.mono (by decide)) lets (vm_cons (vv 8) (vm_cons (ve_op op_addV (vv 9) (vo_e (vo_lst (va_cons (vo_e (vo_lst (va_cons (ve_callB call_lenV rfl T.b_len PySem.boot_len (va_cons (vv 6) va_nil)) (va_cons ve_bl va_nil)))) (va_cons (vo_e (vo_lst (va_cons (ve_neg ve_int) (va_cons ve_bl va_nil)))) (va_cons (ve_do c__law_lists (hr.mono (by decide)) lets (vm_cons (vv 3) vm_nil)) va_nil)))))) vm_nil)))))
  (vss_one (vs_ret ve_bl))
  vss_nil)))))))))))))
  (vss_one (vs_ret ve_bl))))
abbrev N_law : List Str := ["_law_script", "_law_cells_here", "_law_k"]
theorem sc_law : FnScope N_law ["_law_script"] (defScope s_law) := ⟨rfl, rfl, rfl, by decide +kernel, rfl, by decide +kernel, by decide +kernel⟩
theorem ok_law {w : World} {K : PySem.W.Frag} {mg : Str → Option Value} {base : Heap} (T : Txt K w mg) (c__law_box : Cal PW w K mg base (eb K) 1 "_law_box" s__law_box ["_law_script", "_law_k"] [false, false] true f__law_box_v58) (c__law_by_hand_right : Cal PW w K mg base (eb K) 19 "_law_by_hand_right" s__law_by_hand_right [] [] false f__law_by_hand_right_v25) (c__law_cells : Cal PW w K mg base (eb K) 1 "_law_cells" s__law_cells ["_law_script", "_law_most"] [false, false] false f__law_cells) (c__law_right : Cal PW w K mg base (eb K) 19 "_law_right" s__law_right ["_law_box_here"] [true] false f__law_right_v58) {a_law : Addr} {fd_law : FuncData} (F_law : FunD K "law" "law" (defArgs s_law) (defBody s_law) (defScope s_law) [] [] a_law fd_law) (hm_law : mg "law" = some (.ref a_law)) : Cal PW w K mg base (eb K) 20 "law" s_law ["_law_script"] [false] false f_law_v58 :=
  cal_ok (On := []) (N := N_law) (ms := [false]) (n := 3) (Ps := []) rfl rfl rfl F_law hm_law sc_law rfl (fun _ _ _ _ _ _ us hl => match us, hl with | [_], _ => rfl) (fun cdv A outer s H E G hr => (vss_cons (vs_if (On := []) (vt_not (vt_of (ve_do0 c__law_by_hand_right (hr.mono (by decide)) lets)))
  (vss_one (vs_ret ve_bl))
  vss_nil)
  (vss_cons (vs_set (i := 1) (O1 := []) rfl sc_law.nd rfl (Or.inr rfl) (ve_do c__law_cells (hr.mono (by decide)) lets (vm_cons (vv 0) (vm_cons ve_int vm_nil))))
  (vss_one (vs_ret (ve_callB (call_allV rfl) rfl T.b_all (by decide +kernel) (va_cons (vo_e (vo_lc (own := [("_law_k", 2)]) rfl sc_law.nd (vi_range1 rfl T.b_range (va_cons (ve_callB call_lenV rfl T.b_len PySem.boot_len (va_cons (vv 1) va_nil)) va_nil)) (blkOk_by (own := [("_law_k", 2)]) (N := N_law) (sc := defScope s_law) (by decide +kernel)) (fun _ _ _ _ _ => (vg_nm (i := 2) rfl sc_law.nd rfl (by first | exact Or.inl rfl | exact Or.inr rfl))) (fun _ _ _ _ _ => vts_nil) (fun _ _ _ _ _ => (ve_do c__law_right (hr.mono (by decide)) passL (vmt (vo_do c__law_box (hr.mono (by decide)) passL (vm_cons (vv 1) (vm_cons (vv 2) vm_nil))) vm_nil))))) va_nil)))))))
end K57
end

section
set_option Elab.async false
set_option linter.all false
set_option maxRecDepth 100000
set_option maxHeartbeats 0
namespace K57
open PySem PySem.Spec PyProof.Rows L2 VL LL
theorem txt {K : PySem.W.Frag} {w : World} {h : Heap} {mg : Str → Option Value} (X : K.In h) (G : h.Ns mainGlobals mg) (c : VL.SaysY hfa hfn hts hex w K) : Txt K w mg where
  b_LookupError := He.free_ok X G (c.t.d.fact 22 (f := .free "LookupError") rfl)
  b_abs := He.free_ok X G (c.t.d.fact 23 (f := .free "abs") rfl)
  b_all := He.free_ok X G (c.t.d.fact 24 (f := .free "all") rfl)
  b_bool := He.free_ok X G (c.t.d.fact 25 (f := .free "bool") rfl)
  b_dict := He.free_ok X G (c.t.d.fact 26 (f := .free "dict") rfl)
  b_enumerate := He.free_ok X G (c.t.d.fact 27 (f := .free "enumerate") rfl)
  b_int := He.free_ok X G (c.t.d.fact 28 (f := .free "int") rfl)
  b_isinstance := He.free_ok X G (c.t.d.fact 29 (f := .free "isinstance") rfl)
  b_len := He.free_ok X G (c.t.d.fact 30 (f := .free "len") rfl)
  b_list := He.free_ok X G (c.t.d.fact 31 (f := .free "list") rfl)
  b_min := He.free_ok X G (c.t.d.fact 32 (f := .free "min") rfl)
  b_range := He.free_ok X G (c.t.d.fact 33 (f := .free "range") rfl)
  b_sorted := He.free_ok X G (c.t.d.fact 34 (f := .free "sorted") rfl)
  b_str := He.free_ok X G (c.t.d.fact 35 (f := .free "str") rfl)
  b_sum := He.free_ok X G (c.t.d.fact 36 (f := .free "sum") rfl)
  b_super := He.free_ok X G (c.t.d.fact 37 (f := .free "super") rfl)
  b_tuple := He.free_ok X G (c.t.d.fact 38 (f := .free "tuple") rfl)
  b_zip := He.free_ok X G (c.t.d.fact 39 (f := .free "zip") rfl)
  x_NoNumber := VL.clsB_ok X G (by
    have m := c.more
    unfold hex at m
    try simp only [Bool.and_eq_true] at m
    exact m.1.1.1)
  t_NoNumber := VL.takB_ok (by
    have m := c.more
    unfold hex at m
    try simp only [Bool.and_eq_true] at m
    exact m.1.1.2)
  f_number := VL.fldB_ok (by
    have m := c.more
    unfold hex at m
    try simp only [Bool.and_eq_true] at m
    exact m.1.2)
  i_LookupError := VL.isxB_ok (by
    have m := c.more
    unfold hex at m
    try simp only [Bool.and_eq_true] at m
    exact m.2)
theorem facts {w : World} {K : PySem.W.Frag} {h : Heap} {mg : Str → Option Value} (X : K.In h) (G : h.Ns mainGlobals mg) (c : VL.SaysY hfa hfn hts hex w K) (base : Heap) : Cal PySem.Challenge.pw_lastlimit_k57_ways_to_weave w K mg base (eb K) 20 "law" s_law ["_law_script"] [false] false f_law_v58 := by
  have T := txt X G c
  obtain ⟨fd_tupled, F_tupled⟩ := c.t.d.def_ 0 (d := d_tupled) rfl
  have m_tupled := He.glo_ok X G (c.t.d.fact 0 (f := .glo "tupled") rfl)
  obtain ⟨fd_ways_of, F_ways_of⟩ := c.t.d.def_ 1 (d := d_ways_of) rfl
  have m_ways_of := He.glo_ok X G (c.t.d.fact 1 (f := .glo "ways_of") rfl)
  obtain ⟨fd_how_many_ways, F_how_many_ways⟩ := c.t.d.def_ 2 (d := d_how_many_ways) rfl
  have m_how_many_ways := He.glo_ok X G (c.t.d.fact 2 (f := .glo "how_many_ways") rfl)
  obtain ⟨fd_one_less, F_one_less⟩ := c.t.d.def_ 3 (d := d_one_less) rfl
  have m_one_less := He.glo_ok X G (c.t.d.fact 3 (f := .glo "one_less") rfl)
  obtain ⟨fd_nth_way, F_nth_way⟩ := c.t.d.def_ 4 (d := d_nth_way) rfl
  have m_nth_way := He.glo_ok X G (c.t.d.fact 4 (f := .glo "nth_way") rfl)
  obtain ⟨fd_number_of_way, F_number_of_way⟩ := c.t.d.def_ 5 (d := d_number_of_way) rfl
  have m_number_of_way := He.glo_ok X G (c.t.d.fact 5 (f := .glo "number_of_way") rfl)
  obtain ⟨fd_woven, F_woven⟩ := c.t.d.def_ 6 (d := d_woven) rfl
  have m_woven := He.glo_ok X G (c.t.d.fact 6 (f := .glo "woven") rfl)
  obtain ⟨fd__law_box, F__law_box⟩ := c.t.d.def_ 7 (d := d__law_box) rfl
  have m__law_box := He.glo_ok X G (c.t.d.fact 7 (f := .glo "_law_box") rfl)
  obtain ⟨fd__law_take, F__law_take⟩ := c.t.d.def_ 8 (d := d__law_take) rfl
  have m__law_take := He.glo_ok X G (c.t.d.fact 8 (f := .glo "_law_take") rfl)
  obtain ⟨fd__law_cells, F__law_cells⟩ := c.t.d.def_ 9 (d := d__law_cells) rfl
  have m__law_cells := He.glo_ok X G (c.t.d.fact 9 (f := .glo "_law_cells") rfl)
  obtain ⟨fd__law_of, F__law_of⟩ := c.t.d.def_ 10 (d := d__law_of) rfl
  have m__law_of := He.glo_ok X G (c.t.d.fact 10 (f := .glo "_law_of") rfl)
  obtain ⟨fd__law_pick, F__law_pick⟩ := c.t.d.def_ 11 (d := d__law_pick) rfl
  have m__law_pick := He.glo_ok X G (c.t.d.fact 11 (f := .glo "_law_pick") rfl)
  obtain ⟨fd__law_lists, F__law_lists⟩ := c.t.d.def_ 12 (d := d__law_lists) rfl
  have m__law_lists := He.glo_ok X G (c.t.d.fact 12 (f := .glo "_law_lists") rfl)
  obtain ⟨fd__law_same, F__law_same⟩ := c.t.d.def_ 13 (d := d__law_same) rfl
  have m__law_same := He.glo_ok X G (c.t.d.fact 13 (f := .glo "_law_same") rfl)
  obtain ⟨fd__law_tags, F__law_tags⟩ := c.t.d.def_ 14 (d := d__law_tags) rfl
  have m__law_tags := He.glo_ok X G (c.t.d.fact 14 (f := .glo "_law_tags") rfl)
  obtain ⟨fd__law_limits, F__law_limits⟩ := c.t.d.def_ 15 (d := d__law_limits) rfl
  have m__law_limits := He.glo_ok X G (c.t.d.fact 15 (f := .glo "_law_limits") rfl)
  obtain ⟨fd__law_ways, F__law_ways⟩ := c.t.d.def_ 16 (d := d__law_ways) rfl
  have m__law_ways := He.glo_ok X G (c.t.d.fact 16 (f := .glo "_law_ways") rfl)
  obtain ⟨fd__law_woven, F__law_woven⟩ := c.t.d.def_ 17 (d := d__law_woven) rfl
  have m__law_woven := He.glo_ok X G (c.t.d.fact 17 (f := .glo "_law_woven") rfl)
  obtain ⟨fd__law_heard, F__law_heard⟩ := c.t.d.def_ 18 (d := d__law_heard) rfl
  have m__law_heard := He.glo_ok X G (c.t.d.fact 18 (f := .glo "_law_heard") rfl)
  obtain ⟨fd__law_by_hand_right, F__law_by_hand_right⟩ := c.t.d.def_ 19 (d := d__law_by_hand_right) rfl
  have m__law_by_hand_right := He.glo_ok X G (c.t.d.fact 19 (f := .glo "_law_by_hand_right") rfl)
  obtain ⟨fd__law_right, F__law_right⟩ := c.t.d.def_ 20 (d := d__law_right) rfl
  have m__law_right := He.glo_ok X G (c.t.d.fact 20 (f := .glo "_law_right") rfl)
  obtain ⟨fd_law, F_law⟩ := c.t.d.def_ 21 (d := d_law) rfl
  have m_law := He.glo_ok X G (c.t.d.fact 21 (f := .glo "law") rfl)
  obtain c_tupled := ok_tupled (w := w) (base := base) T  F_tupled m_tupled 16
  obtain c_ways_of := ok_ways_of (w := w) (base := base) T  F_ways_of m_ways_of
  obtain c_how_many_ways := ok_how_many_ways (w := w) (base := base) T c_ways_of F_how_many_ways m_how_many_ways
  obtain c_one_less := ok_one_less (w := w) (base := base) T  F_one_less m_one_less
  obtain c_nth_way := ok_nth_way (w := w) (base := base) T c_one_less c_ways_of F_nth_way m_nth_way
  obtain c_number_of_way := ok_number_of_way (w := w) (base := base) T c_one_less c_ways_of F_number_of_way m_number_of_way
  obtain c_woven := ok_woven (w := w) (base := base) T c_tupled F_woven m_woven
  obtain c__law_box := ok__law_box (w := w) (base := base) T  F__law_box m__law_box
  obtain c__law_take := ok__law_take (w := w) (base := base) T  F__law_take m__law_take
  obtain c__law_cells := ok__law_cells (w := w) (base := base) T  F__law_cells m__law_cells
  obtain c__law_of := ok__law_of (w := w) (base := base) T c__law_take F__law_of m__law_of
  obtain c__law_pick := ok__law_pick (w := w) (base := base) T c__law_take F__law_pick m__law_pick
  obtain c__law_lists := ok__law_lists (w := w) (base := base) T  F__law_lists m__law_lists 16
  obtain c__law_same := ok__law_same (w := w) (base := base) T  F__law_same m__law_same 16
  obtain c__law_tags := ok__law_tags (w := w) (base := base) T c__law_pick F__law_tags m__law_tags
  obtain c__law_limits := ok__law_limits (w := w) (base := base) T c__law_of c__law_take F__law_limits m__law_limits
  obtain c__law_ways := ok__law_ways (w := w) (base := base) T  F__law_ways m__law_ways
  obtain c__law_woven := ok__law_woven (w := w) (base := base) T  F__law_woven m__law_woven
  obtain c__law_heard := ok__law_heard (w := w) (base := base) T c_nth_way F__law_heard m__law_heard
  obtain c__law_by_hand_right := ok__law_by_hand_right (w := w) (base := base) T c__law_heard c__law_lists c__law_same c_how_many_ways c_nth_way c_number_of_way c_woven F__law_by_hand_right m__law_by_hand_right
  obtain c__law_right := ok__law_right (w := w) (base := base) T c__law_heard c__law_limits c__law_lists c__law_same c__law_tags c__law_take c__law_ways c__law_woven c_how_many_ways c_nth_way c_number_of_way c_woven F__law_right m__law_right
  obtain c_law := ok_law (w := w) (base := base) T c__law_box c__law_by_hand_right c__law_cells c__law_right F_law m_law
  exact c_law
end K57
end

section
set_option Elab.async false
set_option linter.all false
set_option maxRecDepth 100000
set_option maxHeartbeats 1000000
namespace VL
open PySem
/-! ### loops -/
theorem w_forI {tg : Tg} {mb : M Fl} {E : XE} (I : Nat → Env → Prop) {Q : Fl → Env → Prop} : ∀ {ds : List D} {k : Nat} {ρ : Env}, I k ρ →
    (∀ j d ρ, ds[j]? = some d → I (k + j) ρ → wO (bindT tg d ρ) fun ρ1 => wM mb ρ1 (fun f ρ2 => match f with
      | .nx => I (k + j + 1) ρ2
      | .ct => I (k + j + 1) ρ2
      | .bk => Q .nx ρ2
      | .rt d => Q (.rt d) ρ2) E) → (∀ ρ', I (k + ds.length) ρ' → Q .nx ρ') → wM (forL tg mb ds) ρ Q E
  | [], k, ρ, h0, hs, hq => by rw [w_forL_nil]; exact hq ρ h0
  | d :: ds, k, ρ, h0, hs, hq => by
    rw [w_forL_cons]
    obtain ⟨ρ1, e1, h1⟩ := wO_get (hs 0 d ρ rfl h0)
    rw [e1, wO_some]
    have go : ∀ ρ2, I (k + 1) ρ2 → wM (forL tg mb ds) ρ2 Q E := fun ρ2 h2 => w_forI (k := k + 1) I h2 (fun j d' ρ' hj hi => by
      have := hs (j + 1) d' ρ' (by simpa using hj) (by rw [show k + (j + 1) = k + 1 + j by omega]; exact hi)
      rw [show k + (j + 1) = k + 1 + j by omega] at this
      exact this) fun ρ' h' => hq ρ' (by rw [List.length_cons, show k + (ds.length + 1) = k + 1 + ds.length by omega]; exact h')
    refine wM_mono h1 (fun f ρ2 hp => ?_) fun _ _ _ h => h
    cases f with
    | nx => exact go ρ2 hp
    | ct => exact go ρ2 hp
    | bk => exact hp
    | rt d => exact hp
/-- a comprehension, by what holds of what is gathered -/
theorem w_lcI {tg : Tg} {own : List Nat} {mt : M Bool} {me : M D} {E : XE} (I : Nat → List D → Env → Prop) {Q : List D → Env → Prop} : ∀ {ds acc : List D} {k : Nat} {ρ : Env}, I k acc ρ →
    (∀ j d acc ρ, ds[j]? = some d → I (k + j) acc ρ → wO (bindT tg d ρ) fun ρ1 => wM mt ρ1 (fun b ρ2 => wIf b (wM me ρ2 (fun x ρ3 => I (k + j + 1) (acc ++ [x]) (wipeE ρ3 own)) E0) (I (k + j + 1) acc (wipeE ρ2 own))) E0) →
    (∀ acc' ρ', I (k + ds.length) acc' ρ' → Q acc' ρ') → wM (lcL tg own mt me ds acc) ρ Q E
  | [], acc, k, ρ, h0, hs, hq => by rw [w_lcL_nil]; exact hq acc ρ h0
  | d :: ds, acc, k, ρ, h0, hs, hq => by
    rw [w_lcL_cons]
    obtain ⟨ρ1, e1, h1⟩ := wO_get (hs 0 d acc ρ rfl h0)
    rw [e1, wO_some]
    have go : ∀ acc2 ρ2, I (k + 1) acc2 ρ2 → wM (lcL tg own mt me ds acc2) ρ2 Q E := fun acc2 ρ2 h2 => w_lcI (k := k + 1) I h2 (fun j d' acc' ρ' hj hi => by
      have := hs (j + 1) d' acc' ρ' (by simpa using hj) (by rw [show k + (j + 1) = k + 1 + j by omega]; exact hi)
      rw [show k + (j + 1) = k + 1 + j by omega] at this
      exact this) fun acc' ρ' h' => hq acc' ρ' (by rw [List.length_cons, show k + (ds.length + 1) = k + 1 + ds.length by omega]; exact h')
    refine wM_imp h1 fun b ρ2 hp => ?_
    cases b with
    | false => rw [wIf_false] at hp ⊢; exact go _ _ hp
    | true =>
      rw [wIf_true] at hp ⊢
      exact wM_imp hp fun x ρ3 hq => go _ _ hq
/-- a comprehension that reads -/
theorem w_lcP {tg : Tg} {own : List Nat} {mt : M Bool} {me : M D} {E : XE} (c : D → Bool) (g : D → D) {Q : List D → Env → Prop} {ds acc : List D} {ρ : Env}
    (hs : ∀ d ∈ ds, wO (bindT tg d ρ) fun ρ1 => wM mt ρ1 (fun b ρ2 => b = c d ∧ wIf b (wM me ρ2 (fun x ρ3 => x = g d ∧ wipeE ρ3 own = ρ) E0) (wipeE ρ2 own = ρ)) E0)
    (hq : Q (acc ++ (ds.filter c).map g) ρ) : wM (lcL tg own mt me ds acc) ρ Q E := by
  refine w_lcI (k := 0) (fun j a ρ' => ρ' = ρ ∧ a = acc ++ ((ds.take j).filter c).map g) ⟨rfl, by simp⟩ ?_ ?_
  · rintro j d a ρ' hj ⟨rfl, rfl⟩
    have hm : d ∈ ds := List.mem_of_getElem? hj
    have ht : ds.take (j + 1) = ds.take j ++ [d] := by rw [List.take_add_one, hj]; rfl
    rw [Nat.zero_add, ht]
    obtain ⟨ρ1, e1, h⟩ := wO_get (hs d hm)
    rw [e1, wO_some]
    refine wM_imp h fun b ρ2 hp => ?_
    obtain ⟨e, hp⟩ := hp
    have e' : b = c d := e
    cases b with
    | false =>
      rw [wIf_false] at hp ⊢
      exact ⟨hp, by rw [List.filter_append, List.filter_cons_of_neg (by rw [← e']; decide)]; simp⟩
    | true =>
      rw [wIf_true] at hp ⊢
      refine wM_imp hp fun x ρ3 hq => ⟨hq.2, ?_⟩
      rw [List.filter_append, List.filter_cons_of_pos (by rw [← e']), hq.1]
      simp
  · rintro a ρ' ⟨rfl, rfl⟩
    rw [Nat.zero_add, List.take_length]
    exact hq
/-- the same without a test -/
theorem w_lcM {tg : Tg} {own : List Nat} {me : M D} {E : XE} (g : D → D) {Q : List D → Env → Prop} {ds acc : List D} {ρ : Env}
    (hs : ∀ d ∈ ds, wO (bindT tg d ρ) fun ρ1 => wM me ρ1 (fun x ρ3 => x = g d ∧ wipeE ρ3 own = ρ) E0)
    (hq : Q (acc ++ ds.map g) ρ) : wM (lcL tg own (M.pure true) me ds acc) ρ Q E := by
  refine w_lcP (fun _ => true) g (fun d hd => ?_) (by rw [List.filter_eq_self.mpr fun _ _ => rfl]; exact hq)
  obtain ⟨ρ1, e1, h⟩ := wO_get (hs d hd)
  rw [e1, wO_some, w_pure]
  exact ⟨rfl, by rw [wIf_true]; exact h⟩
theorem bools_map : ∀ (l : List Bool), bools (l.map PyData.bool) = some l
  | [] => rfl
  | b :: l => by rw [List.map_cons, bools, bools_map l]; rfl
theorem cAll_map (l : List Bool) : cAll [.list (l.map PyData.bool)] = some (.bool (l.all id)) := by
  show (bools _).map _ = _
  rw [bools_map]; rfl
theorem cAny_map (l : List Bool) : cAny [.list (l.map PyData.bool)] = some (.bool (l.any id)) := by
  show (bools _).map _ = _
  rw [bools_map]; rfl
theorem cAll_mb (ds : List D) (c : D → Bool) : cAll [.list (ds.map fun d => .bool (c d))] = some (.bool (ds.all c)) := by
  rw [show ds.map (fun d => PyData.bool (c d)) = (ds.map c).map PyData.bool by rw [List.map_map]; rfl, cAll_map, List.all_map]; rfl
theorem cAny_mb (ds : List D) (c : D → Bool) : cAny [.list (ds.map fun d => .bool (c d))] = some (.bool (ds.any c)) := by
  rw [show ds.map (fun d => PyData.bool (c d)) = (ds.map c).map PyData.bool by rw [List.map_map]; rfl, cAny_map, List.any_map]; rfl
/-- [e for x in xs] -/
theorem w_map {tg : Tg} {own : List Nat} {ml : M (List D)} {me : M D} {ρ : Env} {Q : D → Env → Prop} {E : XE} (g : D → D)
    (h : wM ml ρ (fun ds ρ1 => ds.length ≤ sizeLine ∧ (∀ d ∈ ds, wO (bindT tg d (wipeE ρ1 own)) fun ρ2 => wM me ρ2 (fun x ρ4 => x = g d ∧ wipeE ρ4 own = wipeE ρ1 own) E0) ∧ Q (.list (ds.map g)) (backE ρ1 own (wipeE ρ1 own))) E) :
    wM (mLc tg own ml (M.pure true) me) ρ Q E := by
  rw [w_lc]
  refine wM_mono h (fun ds ρ1 hp => ?_) fun _ _ _ h => h
  obtain ⟨h1, h2, h3⟩ := hp
  exact ⟨h1, w_lcM g h2 (by rw [List.nil_append]; exact h3)⟩
/-! ### the box of draws -/
def Bx (n : Nat) (d : D) : Prop := ∃ a b c : Int, d = .list [.int a, .int b, .int c] ∧ 0 ≤ a ∧ 0 ≤ b ∧ b < 2 ^ 62 ∧ 0 ≤ c ∧ c ≤ n
theorem Bx.mono {n n' : Nat} {d : D} (h : Bx n d) (l : n ≤ n') : Bx n' d := by
  obtain ⟨a, b, c, h1, h2, h3, h4, h5, h6⟩ := h
  exact ⟨a, b, c, h1, h2, h3, h4, h5, by omega⟩
theorem atI0 (a b c : D) : L2.atI [a, b, c] 0 = some a := rfl
theorem atI1 (a b c : D) : L2.atI [a, b, c] 1 = some b := rfl
theorem atI2 (a b c : D) : L2.atI [a, b, c] 2 = some c := rfl
theorem ixN0 : L2.ixN 3 0 = some 0 := rfl
theorem ixN2 : L2.ixN 3 2 = some 2 := rfl
theorem atI_nat {α : Type} {xs : List α} {i : Nat} {x : α} (h : xs[i]? = some x) : L2.atI xs (i : Int) = some x := by
  have hl : i < xs.length := (List.getElem?_eq_some_iff.mp h).1
  unfold L2.atI L2.ixN
  have e := (List.getElem?_eq_some_iff.mp h).2
  simp [hl, e]
theorem perm_erase {α : Type} : ∀ {l : List α} {i : Nat} (h : i < l.length), (l[i] :: l.eraseIdx i).Perm l
  | x :: l, 0, h => List.Perm.refl _
  | x :: l, i + 1, h => by
    have hi : i < l.length := by simpa using h
    exact (List.Perm.swap x l[i] _).trans ((perm_erase hi).cons x)
theorem seqIndex_nat {i n : Nat} (h : i < n) : seqIndex? (i : Int) n = some i := by
  unfold seqIndex?
  have e : ¬ ((i : Int) < 0) := by omega
  simp only [e, if_false]
  simp
  omega
end VL
namespace LL
open PySem VL
theorem take_spL {n : Nat} {d : D} {t : Int} (h : Bx n d) (hn : n < 2 ^ 60) (h0 : 0 < t) (h1 : t < 1606938044258990275541962092341162602522202993782792835301376) :
    wX (f__law_take [d, .int t]) (fun p => ∃ i : Nat, p.1 = .int i ∧ (i : Int) < t ∧ ∃ d', p.2 = [d'] ∧ Bx (n + 1) d') E0 := by
  obtain ⟨a, b, c, rfl, ha, hb, hb2, hc, hc2⟩ := h
  unfold f__law_take
  (simp (disch := first | omega | (simp only [List.length_cons, List.length_nil, List.length_append, List.length_map, List.length_take, List.length_drop, List.length_reverse, List.length_set]; omega) | decide) only [atI0, atI1, atI2, ixN0, ixN2, wX_ok, wX_exc, wO_some, wO_ite, wIf_true, wIf_false, wIf_not, wF_nx, wF_rt, wF_bk, wF_ct, w_pure, w_bind, w_of, w_m1, w_m2, w_var, w_c, w_truth, w_ite, w_and, w_or, w_not, w_andV, w_orV, w_notV, w_if, w_nil, w_cons, w_tup, w_lst, w_call, w_nx, w_seq, w_drop, w_ret, w_set, w_ifS, w_slot, w_callF, w_callK, w_app2, w_part, w_noPart, w_sl, w_seqOf, w_rng, w_for, w_forL_nil, w_app, w_ixO, w_lenO, w_popAt, w_setIx, w_setV, w_parIx, w_aug, w_par2, w_par3, w_mbind, w_chain, wX_runF, VL.fill, VL.put, outs, startE, wipeE, backE, bindT_nm, bindT_tt, bindT_tl, bindTs_n, bindTs_c, VL.pick, List.filterMap_cons, List.filterMap_nil, List.map_cons, List.map_nil, List.length_cons, List.length_nil, List.replicate, List.cons_append, List.nil_append, List.getElem?_cons_zero, List.getElem?_cons_succ, List.set_cons_zero, List.set_cons_succ, Option.map_some, Option.bind_some, Option.getD_some, Nat.reduceSub, Nat.reduceAdd, Int.cast_ofNat_Int, Int.reduceLT, Int.reduceLE, Int.reduceNeg, Int.reduceEq, gEq_int, gNe_int, gLt_int, gGt_int, gLe_int, gGe_int, gAdd_int, gSub_int, gMul_l, gMul_r, gMod_int, gFdv_int, gNeg_i, cInt_i, cInt_b, cAbs_i, cLen_l, cLen_t, cTup_l, cTup_t, cLst_l, cLst_t, gIx_l, gIx_t, setI_i, popI_i, gSl_l, gSl_t, gSl_scr, dSeq_l, dSeq_t, dSeq_s, cMin2_i, cMax2_i, cEnum_l, cEnum_t, cZip_l, cZip_t, tr_b, tr_i, tr_l, tr_t, tr_n, gIs_n, gIsn_n, isN, lstAt_0, lstAt_s, gAdd_l, gAdd_t, le_sizeP, lt_sizeP, gPow_i, cAll_mb, cAny_mb, w_star, w_tupS, w_lstS, w_star2, w_pkL, w_pkR, slotAt_0, slotAt_s, boolOf_b, w_keysOf, w_itmsOf, w_get1, w_get2, w_dgetO, w_dinO, w_get1O, w_get2O, w_dput, w_callD, dicAt_0, dicAt_s, dicAt_K, dicAt_T, dPs_K, dPs_T, dGet_T2, dGet_Ks, gIxD_T2, gIxD_Ks, dPut_T2, dPut_Ks, Option.isSome_some, Option.isSome_none, dItems_l, dItems_t, gCat_l, starT_c, gRev_ll, gRev_tt, w_raise1, w_raise0, w_try, w_cl0, w_clN, w_clY, xD_0, xD_1, xD_2, xD_3, xD_4, xD_5, xD_6, ↓gIs_x, ↓gIsn_x, slA1, slA2, slA3, slA4, gFld_x, gIsx_x, true_and, and_true, Bool.not_true, Bool.not_false, decide_true, decide_false])
  refine wIf_dec (fun h => ?_) fun h => ?_
  · (simp (disch := first | omega | (simp only [List.length_cons, List.length_nil, List.length_append, List.length_map, List.length_take, List.length_drop, List.length_reverse, List.length_set]; omega) | decide) only [atI0, atI1, atI2, ixN0, ixN2, wX_ok, wX_exc, wO_some, wO_ite, wIf_true, wIf_false, wIf_not, wF_nx, wF_rt, wF_bk, wF_ct, w_pure, w_bind, w_of, w_m1, w_m2, w_var, w_c, w_truth, w_ite, w_and, w_or, w_not, w_andV, w_orV, w_notV, w_if, w_nil, w_cons, w_tup, w_lst, w_call, w_nx, w_seq, w_drop, w_ret, w_set, w_ifS, w_slot, w_callF, w_callK, w_app2, w_part, w_noPart, w_sl, w_seqOf, w_rng, w_for, w_forL_nil, w_app, w_ixO, w_lenO, w_popAt, w_setIx, w_setV, w_parIx, w_aug, w_par2, w_par3, w_mbind, w_chain, wX_runF, VL.fill, VL.put, outs, startE, wipeE, backE, bindT_nm, bindT_tt, bindT_tl, bindTs_n, bindTs_c, VL.pick, List.filterMap_cons, List.filterMap_nil, List.map_cons, List.map_nil, List.length_cons, List.length_nil, List.replicate, List.cons_append, List.nil_append, List.getElem?_cons_zero, List.getElem?_cons_succ, List.set_cons_zero, List.set_cons_succ, Option.map_some, Option.bind_some, Option.getD_some, Nat.reduceSub, Nat.reduceAdd, Int.cast_ofNat_Int, Int.reduceLT, Int.reduceLE, Int.reduceNeg, Int.reduceEq, gEq_int, gNe_int, gLt_int, gGt_int, gLe_int, gGe_int, gAdd_int, gSub_int, gMul_l, gMul_r, gMod_int, gFdv_int, gNeg_i, cInt_i, cInt_b, cAbs_i, cLen_l, cLen_t, cTup_l, cTup_t, cLst_l, cLst_t, gIx_l, gIx_t, setI_i, popI_i, gSl_l, gSl_t, gSl_scr, dSeq_l, dSeq_t, dSeq_s, cMin2_i, cMax2_i, cEnum_l, cEnum_t, cZip_l, cZip_t, tr_b, tr_i, tr_l, tr_t, tr_n, gIs_n, gIsn_n, isN, lstAt_0, lstAt_s, gAdd_l, gAdd_t, le_sizeP, lt_sizeP, gPow_i, cAll_mb, cAny_mb, w_star, w_tupS, w_lstS, w_star2, w_pkL, w_pkR, slotAt_0, slotAt_s, boolOf_b, w_keysOf, w_itmsOf, w_get1, w_get2, w_dgetO, w_dinO, w_get1O, w_get2O, w_dput, w_callD, dicAt_0, dicAt_s, dicAt_K, dicAt_T, dPs_K, dPs_T, dGet_T2, dGet_Ks, gIxD_T2, gIxD_Ks, dPut_T2, dPut_Ks, Option.isSome_some, Option.isSome_none, dItems_l, dItems_t, gCat_l, starT_c, gRev_ll, gRev_tt, w_raise1, w_raise0, w_try, w_cl0, w_clN, w_clY, xD_0, xD_1, xD_2, xD_3, xD_4, xD_5, xD_6, ↓gIs_x, ↓gIsn_x, slA1, slA2, slA3, slA4, gFld_x, gIsx_x, true_and, and_true, Bool.not_true, Bool.not_false, decide_true, decide_false])
    have p1 := Int.emod_nonneg a (Int.ne_of_gt h0)
    have p2 := Int.emod_lt_of_pos a h0
    exact ⟨(a % t).toNat, by rw [Int.toNat_of_nonneg p1], by omega, _, rfl, a / t, b, c, rfl, Int.ediv_nonneg ha (Int.le_of_lt h0), hb, hb2, hc, by omega⟩
  · (simp (disch := first | omega | (simp only [List.length_cons, List.length_nil, List.length_append, List.length_map, List.length_take, List.length_drop, List.length_reverse, List.length_set]; omega) | decide) only [atI0, atI1, atI2, ixN0, ixN2, wX_ok, wX_exc, wO_some, wO_ite, wIf_true, wIf_false, wIf_not, wF_nx, wF_rt, wF_bk, wF_ct, w_pure, w_bind, w_of, w_m1, w_m2, w_var, w_c, w_truth, w_ite, w_and, w_or, w_not, w_andV, w_orV, w_notV, w_if, w_nil, w_cons, w_tup, w_lst, w_call, w_nx, w_seq, w_drop, w_ret, w_set, w_ifS, w_slot, w_callF, w_callK, w_app2, w_part, w_noPart, w_sl, w_seqOf, w_rng, w_for, w_forL_nil, w_app, w_ixO, w_lenO, w_popAt, w_setIx, w_setV, w_parIx, w_aug, w_par2, w_par3, w_mbind, w_chain, wX_runF, VL.fill, VL.put, outs, startE, wipeE, backE, bindT_nm, bindT_tt, bindT_tl, bindTs_n, bindTs_c, VL.pick, List.filterMap_cons, List.filterMap_nil, List.map_cons, List.map_nil, List.length_cons, List.length_nil, List.replicate, List.cons_append, List.nil_append, List.getElem?_cons_zero, List.getElem?_cons_succ, List.set_cons_zero, List.set_cons_succ, Option.map_some, Option.bind_some, Option.getD_some, Nat.reduceSub, Nat.reduceAdd, Int.cast_ofNat_Int, Int.reduceLT, Int.reduceLE, Int.reduceNeg, Int.reduceEq, gEq_int, gNe_int, gLt_int, gGt_int, gLe_int, gGe_int, gAdd_int, gSub_int, gMul_l, gMul_r, gMod_int, gFdv_int, gNeg_i, cInt_i, cInt_b, cAbs_i, cLen_l, cLen_t, cTup_l, cTup_t, cLst_l, cLst_t, gIx_l, gIx_t, setI_i, popI_i, gSl_l, gSl_t, gSl_scr, dSeq_l, dSeq_t, dSeq_s, cMin2_i, cMax2_i, cEnum_l, cEnum_t, cZip_l, cZip_t, tr_b, tr_i, tr_l, tr_t, tr_n, gIs_n, gIsn_n, isN, lstAt_0, lstAt_s, gAdd_l, gAdd_t, le_sizeP, lt_sizeP, gPow_i, cAll_mb, cAny_mb, w_star, w_tupS, w_lstS, w_star2, w_pkL, w_pkR, slotAt_0, slotAt_s, boolOf_b, w_keysOf, w_itmsOf, w_get1, w_get2, w_dgetO, w_dinO, w_get1O, w_get2O, w_dput, w_callD, dicAt_0, dicAt_s, dicAt_K, dicAt_T, dPs_K, dPs_T, dGet_T2, dGet_Ks, gIxD_T2, gIxD_Ks, dPut_T2, dPut_Ks, Option.isSome_some, Option.isSome_none, dItems_l, dItems_t, gCat_l, starT_c, gRev_ll, gRev_tt, w_raise1, w_raise0, w_try, w_cl0, w_clN, w_clY, xD_0, xD_1, xD_2, xD_3, xD_4, xD_5, xD_6, ↓gIs_x, ↓gIsn_x, slA1, slA2, slA3, slA4, gFld_x, gIsx_x, true_and, and_true, Bool.not_true, Bool.not_false, decide_true, decide_false])
    generalize (_ : Int) / 64 = z
    have p1 := Int.emod_nonneg z (Int.ne_of_gt h0)
    have p2 := Int.emod_lt_of_pos z h0
    exact ⟨(z % t).toNat, by rw [Int.toNat_of_nonneg p1], by omega, _, rfl, a, b, c + 1, rfl, ha, hb, hb2, by omega, by omega⟩
theorem take_sp {n : Nat} {d : D} {t : Int} (h : Bx n d) (hn : n < 2 ^ 60) (h0 : 0 < t) (h1 : t < 1073741824) :
    wX (f__law_take [d, .int t]) (fun p => ∃ i : Nat, p.1 = .int i ∧ (i : Int) < t ∧ ∃ d', p.2 = [d'] ∧ Bx (n + 1) d') E0 := take_spL h hn h0 (by omega)
theorem of_sp {n : Nat} {d pool : D} {xs : List D} (hx : pool = .list xs ∨ pool = .tuple xs) (h : Bx n d) (hn : n < 2 ^ 60) (h0 : xs ≠ []) (h1 : xs.length < 1073741824) :
    wX (f__law_of [d, pool]) (fun p => p.1 ∈ xs ∧ ∃ d', p.2 = [d'] ∧ Bx (n + 1) d') E0 := by
  unfold f__law_of
  have hp : 0 < xs.length := List.length_pos_iff.mpr h0
  have hc : cLen [pool] = some (.int xs.length) := by rcases hx with rfl | rfl <;> rfl
  have hg : ∀ i : Int, gIx pool (.int i) = L2.atI xs i := by rcases hx with rfl | rfl <;> exact fun _ => rfl
  (simp (disch := first | omega | (simp only [List.length_cons, List.length_nil, List.length_append, List.length_map, List.length_take, List.length_drop, List.length_reverse, List.length_set]; omega) | decide) only [hc, wX_ok, wX_exc, wO_some, wO_ite, wIf_true, wIf_false, wIf_not, wF_nx, wF_rt, wF_bk, wF_ct, w_pure, w_bind, w_of, w_m1, w_m2, w_var, w_c, w_truth, w_ite, w_and, w_or, w_not, w_andV, w_orV, w_notV, w_if, w_nil, w_cons, w_tup, w_lst, w_call, w_nx, w_seq, w_drop, w_ret, w_set, w_ifS, w_slot, w_callF, w_callK, w_app2, w_part, w_noPart, w_sl, w_seqOf, w_rng, w_for, w_forL_nil, w_app, w_ixO, w_lenO, w_popAt, w_setIx, w_setV, w_parIx, w_aug, w_par2, w_par3, w_mbind, w_chain, wX_runF, VL.fill, VL.put, outs, startE, wipeE, backE, bindT_nm, bindT_tt, bindT_tl, bindTs_n, bindTs_c, VL.pick, List.filterMap_cons, List.filterMap_nil, List.map_cons, List.map_nil, List.length_cons, List.length_nil, List.replicate, List.cons_append, List.nil_append, List.getElem?_cons_zero, List.getElem?_cons_succ, List.set_cons_zero, List.set_cons_succ, Option.map_some, Option.bind_some, Option.getD_some, Nat.reduceSub, Nat.reduceAdd, Int.cast_ofNat_Int, Int.reduceLT, Int.reduceLE, Int.reduceNeg, Int.reduceEq, gEq_int, gNe_int, gLt_int, gGt_int, gLe_int, gGe_int, gAdd_int, gSub_int, gMul_l, gMul_r, gMod_int, gFdv_int, gNeg_i, cInt_i, cInt_b, cAbs_i, cLen_l, cLen_t, cTup_l, cTup_t, cLst_l, cLst_t, gIx_l, gIx_t, setI_i, popI_i, gSl_l, gSl_t, gSl_scr, dSeq_l, dSeq_t, dSeq_s, cMin2_i, cMax2_i, cEnum_l, cEnum_t, cZip_l, cZip_t, tr_b, tr_i, tr_l, tr_t, tr_n, gIs_n, gIsn_n, isN, lstAt_0, lstAt_s, gAdd_l, gAdd_t, le_sizeP, lt_sizeP, gPow_i, cAll_mb, cAny_mb, w_star, w_tupS, w_lstS, w_star2, w_pkL, w_pkR, slotAt_0, slotAt_s, boolOf_b, w_keysOf, w_itmsOf, w_get1, w_get2, w_dgetO, w_dinO, w_get1O, w_get2O, w_dput, w_callD, dicAt_0, dicAt_s, dicAt_K, dicAt_T, dPs_K, dPs_T, dGet_T2, dGet_Ks, gIxD_T2, gIxD_Ks, dPut_T2, dPut_Ks, Option.isSome_some, Option.isSome_none, dItems_l, dItems_t, gCat_l, starT_c, gRev_ll, gRev_tt, w_raise1, w_raise0, w_try, w_cl0, w_clN, w_clY, xD_0, xD_1, xD_2, xD_3, xD_4, xD_5, xD_6, ↓gIs_x, ↓gIsn_x, slA1, slA2, slA3, slA4, gFld_x, gIsx_x, true_and, and_true, Bool.not_true, Bool.not_false, decide_true, decide_false])
  refine wX_imp (take_sp h hn (by omega) (by omega)) ?_
  rintro ⟨_, _⟩ ⟨i, rfl, hi, d', rfl, hb⟩
  have hi' : i < xs.length := by omega
  (simp (disch := first | omega | (simp only [List.length_cons, List.length_nil, List.length_append, List.length_map, List.length_take, List.length_drop, List.length_reverse, List.length_set]; omega) | decide) only [hg, atI_nat (List.getElem?_eq_getElem hi'), wX_ok, wX_exc, wO_some, wO_ite, wIf_true, wIf_false, wIf_not, wF_nx, wF_rt, wF_bk, wF_ct, w_pure, w_bind, w_of, w_m1, w_m2, w_var, w_c, w_truth, w_ite, w_and, w_or, w_not, w_andV, w_orV, w_notV, w_if, w_nil, w_cons, w_tup, w_lst, w_call, w_nx, w_seq, w_drop, w_ret, w_set, w_ifS, w_slot, w_callF, w_callK, w_app2, w_part, w_noPart, w_sl, w_seqOf, w_rng, w_for, w_forL_nil, w_app, w_ixO, w_lenO, w_popAt, w_setIx, w_setV, w_parIx, w_aug, w_par2, w_par3, w_mbind, w_chain, wX_runF, VL.fill, VL.put, outs, startE, wipeE, backE, bindT_nm, bindT_tt, bindT_tl, bindTs_n, bindTs_c, VL.pick, List.filterMap_cons, List.filterMap_nil, List.map_cons, List.map_nil, List.length_cons, List.length_nil, List.replicate, List.cons_append, List.nil_append, List.getElem?_cons_zero, List.getElem?_cons_succ, List.set_cons_zero, List.set_cons_succ, Option.map_some, Option.bind_some, Option.getD_some, Nat.reduceSub, Nat.reduceAdd, Int.cast_ofNat_Int, Int.reduceLT, Int.reduceLE, Int.reduceNeg, Int.reduceEq, gEq_int, gNe_int, gLt_int, gGt_int, gLe_int, gGe_int, gAdd_int, gSub_int, gMul_l, gMul_r, gMod_int, gFdv_int, gNeg_i, cInt_i, cInt_b, cAbs_i, cLen_l, cLen_t, cTup_l, cTup_t, cLst_l, cLst_t, gIx_l, gIx_t, setI_i, popI_i, gSl_l, gSl_t, gSl_scr, dSeq_l, dSeq_t, dSeq_s, cMin2_i, cMax2_i, cEnum_l, cEnum_t, cZip_l, cZip_t, tr_b, tr_i, tr_l, tr_t, tr_n, gIs_n, gIsn_n, isN, lstAt_0, lstAt_s, gAdd_l, gAdd_t, le_sizeP, lt_sizeP, gPow_i, cAll_mb, cAny_mb, w_star, w_tupS, w_lstS, w_star2, w_pkL, w_pkR, slotAt_0, slotAt_s, boolOf_b, w_keysOf, w_itmsOf, w_get1, w_get2, w_dgetO, w_dinO, w_get1O, w_get2O, w_dput, w_callD, dicAt_0, dicAt_s, dicAt_K, dicAt_T, dPs_K, dPs_T, dGet_T2, dGet_Ks, gIxD_T2, gIxD_Ks, dPut_T2, dPut_Ks, Option.isSome_some, Option.isSome_none, dItems_l, dItems_t, gCat_l, starT_c, gRev_ll, gRev_tt, w_raise1, w_raise0, w_try, w_cl0, w_clN, w_clY, xD_0, xD_1, xD_2, xD_3, xD_4, xD_5, xD_6, ↓gIs_x, ↓gIsn_x, slA1, slA2, slA3, slA4, gFld_x, gIsx_x, true_and, and_true, Bool.not_true, Bool.not_false, decide_true, decide_false])
  exact ⟨List.getElem_mem hi', d', rfl, hb⟩
theorem pick_sp {n : Nat} {d pool : D} {xs : List D} {m : Int} (hx : pool = .list xs ∨ pool = .tuple xs) (h : Bx n d) (hn : n + xs.length < 2 ^ 60) (h1 : xs.length < 1000000) (hm : 0 ≤ m) :
    wX (f__law_pick [d, pool, .int m]) (fun p => ∃ ys zs, p.1 = .list ys ∧ (ys ++ zs).Perm xs ∧ ys.length = min m.toNat xs.length ∧ ∃ d', p.2 = [d'] ∧ Bx (n + xs.length) d') E0 := by
  unfold f__law_pick
  have hc : cLst [pool] = some (.list xs) := by rcases hx with rfl | rfl <;> rfl
  (simp (disch := first | omega | (simp only [List.length_cons, List.length_nil, List.length_append, List.length_map, List.length_take, List.length_drop, List.length_reverse, List.length_set]; omega) | decide) only [hc, wX_ok, wX_exc, wO_some, wO_ite, wIf_true, wIf_false, wIf_not, wF_nx, wF_rt, wF_bk, wF_ct, w_pure, w_bind, w_of, w_m1, w_m2, w_var, w_c, w_truth, w_ite, w_and, w_or, w_not, w_andV, w_orV, w_notV, w_if, w_nil, w_cons, w_tup, w_lst, w_call, w_nx, w_seq, w_drop, w_ret, w_set, w_ifS, w_slot, w_callF, w_callK, w_app2, w_part, w_noPart, w_sl, w_seqOf, w_rng, w_for, w_forL_nil, w_app, w_ixO, w_lenO, w_popAt, w_setIx, w_setV, w_parIx, w_aug, w_par2, w_par3, w_mbind, w_chain, wX_runF, VL.fill, VL.put, outs, startE, wipeE, backE, bindT_nm, bindT_tt, bindT_tl, bindTs_n, bindTs_c, VL.pick, List.filterMap_cons, List.filterMap_nil, List.map_cons, List.map_nil, List.length_cons, List.length_nil, List.replicate, List.cons_append, List.nil_append, List.getElem?_cons_zero, List.getElem?_cons_succ, List.set_cons_zero, List.set_cons_succ, Option.map_some, Option.bind_some, Option.getD_some, Nat.reduceSub, Nat.reduceAdd, Int.cast_ofNat_Int, Int.reduceLT, Int.reduceLE, Int.reduceNeg, Int.reduceEq, gEq_int, gNe_int, gLt_int, gGt_int, gLe_int, gGe_int, gAdd_int, gSub_int, gMul_l, gMul_r, gMod_int, gFdv_int, gNeg_i, cInt_i, cInt_b, cAbs_i, cLen_l, cLen_t, cTup_l, cTup_t, cLst_l, cLst_t, gIx_l, gIx_t, setI_i, popI_i, gSl_l, gSl_t, gSl_scr, dSeq_l, dSeq_t, dSeq_s, cMin2_i, cMax2_i, cEnum_l, cEnum_t, cZip_l, cZip_t, tr_b, tr_i, tr_l, tr_t, tr_n, gIs_n, gIsn_n, isN, lstAt_0, lstAt_s, gAdd_l, gAdd_t, le_sizeP, lt_sizeP, gPow_i, cAll_mb, cAny_mb, w_star, w_tupS, w_lstS, w_star2, w_pkL, w_pkR, slotAt_0, slotAt_s, boolOf_b, w_keysOf, w_itmsOf, w_get1, w_get2, w_dgetO, w_dinO, w_get1O, w_get2O, w_dput, w_callD, dicAt_0, dicAt_s, dicAt_K, dicAt_T, dPs_K, dPs_T, dGet_T2, dGet_Ks, gIxD_T2, gIxD_Ks, dPut_T2, dPut_Ks, Option.isSome_some, Option.isSome_none, dItems_l, dItems_t, gCat_l, starT_c, gRev_ll, gRev_tt, w_raise1, w_raise0, w_try, w_cl0, w_clN, w_clY, xD_0, xD_1, xD_2, xD_3, xD_4, xD_5, xD_6, ↓gIs_x, ↓gIsn_x, slA1, slA2, slA3, slA4, gFld_x, gIsx_x, true_and, and_true, Bool.not_true, Bool.not_false, decide_true, decide_false])
  have hr : rng1 [.int (if (xs.length : Int) < m then (xs.length : Int) else m)] = some (rng 0 (min m.toNat xs.length)) := by
    unfold rng1
    have e : lim62 (if (xs.length : Int) < m then (xs.length : Int) else m) = true := by
      unfold lim62
      simp only [Bool.and_eq_true, decide_eq_true_eq]
      split <;> omega
    simp only [e, if_true]
    congr 2
    split <;> omega
  (simp (disch := first | omega | (simp only [List.length_cons, List.length_nil, List.length_append, List.length_map, List.length_take, List.length_drop, List.length_reverse, List.length_set]; omega) | decide) only [hr, wX_ok, wX_exc, wO_some, wO_ite, wIf_true, wIf_false, wIf_not, wF_nx, wF_rt, wF_bk, wF_ct, w_pure, w_bind, w_of, w_m1, w_m2, w_var, w_c, w_truth, w_ite, w_and, w_or, w_not, w_andV, w_orV, w_notV, w_if, w_nil, w_cons, w_tup, w_lst, w_call, w_nx, w_seq, w_drop, w_ret, w_set, w_ifS, w_slot, w_callF, w_callK, w_app2, w_part, w_noPart, w_sl, w_seqOf, w_rng, w_for, w_forL_nil, w_app, w_ixO, w_lenO, w_popAt, w_setIx, w_setV, w_parIx, w_aug, w_par2, w_par3, w_mbind, w_chain, wX_runF, VL.fill, VL.put, outs, startE, wipeE, backE, bindT_nm, bindT_tt, bindT_tl, bindTs_n, bindTs_c, VL.pick, List.filterMap_cons, List.filterMap_nil, List.map_cons, List.map_nil, List.length_cons, List.length_nil, List.replicate, List.cons_append, List.nil_append, List.getElem?_cons_zero, List.getElem?_cons_succ, List.set_cons_zero, List.set_cons_succ, Option.map_some, Option.bind_some, Option.getD_some, Nat.reduceSub, Nat.reduceAdd, Int.cast_ofNat_Int, Int.reduceLT, Int.reduceLE, Int.reduceNeg, Int.reduceEq, gEq_int, gNe_int, gLt_int, gGt_int, gLe_int, gGe_int, gAdd_int, gSub_int, gMul_l, gMul_r, gMod_int, gFdv_int, gNeg_i, cInt_i, cInt_b, cAbs_i, cLen_l, cLen_t, cTup_l, cTup_t, cLst_l, cLst_t, gIx_l, gIx_t, setI_i, popI_i, gSl_l, gSl_t, gSl_scr, dSeq_l, dSeq_t, dSeq_s, cMin2_i, cMax2_i, cEnum_l, cEnum_t, cZip_l, cZip_t, tr_b, tr_i, tr_l, tr_t, tr_n, gIs_n, gIsn_n, isN, lstAt_0, lstAt_s, gAdd_l, gAdd_t, le_sizeP, lt_sizeP, gPow_i, cAll_mb, cAny_mb, w_star, w_tupS, w_lstS, w_star2, w_pkL, w_pkR, slotAt_0, slotAt_s, boolOf_b, w_keysOf, w_itmsOf, w_get1, w_get2, w_dgetO, w_dinO, w_get1O, w_get2O, w_dput, w_callD, dicAt_0, dicAt_s, dicAt_K, dicAt_T, dPs_K, dPs_T, dGet_T2, dGet_Ks, gIxD_T2, gIxD_Ks, dPut_T2, dPut_Ks, Option.isSome_some, Option.isSome_none, dItems_l, dItems_t, gCat_l, starT_c, gRev_ll, gRev_tt, w_raise1, w_raise0, w_try, w_cl0, w_clN, w_clY, xD_0, xD_1, xD_2, xD_3, xD_4, xD_5, xD_6, ↓gIs_x, ↓gIsn_x, slA1, slA2, slA3, slA4, gFld_x, gIsx_x, true_and, and_true, Bool.not_true, Bool.not_false, decide_true, decide_false])
  have hlen : (rng 0 (min m.toNat xs.length)).length = min m.toNat xs.length := by unfold rng; simp
  refine w_forI (k := 0) (fun k ρ => ∃ d' rest some' t, ρ = [some d', some pool, some (.int m), some (.list rest), some (.list some'), t] ∧ Bx (n + k) d' ∧ (some' ++ rest).Perm xs ∧ some'.length = k) ⟨d, xs, [], none, rfl, h, List.Perm.refl _, rfl⟩ ?_ ?_
  · rintro j e ρ hj ⟨d', rest, some', t, rfl, hb, hp, hk⟩
    have hjl : j < min m.toNat xs.length := by rw [← hlen]; exact (List.getElem?_eq_some_iff.mp hj).1
    have hl := hp.length_eq
    rw [List.length_append] at hl
    rw [Nat.zero_add] at hk hb
    (simp (disch := first | omega | (simp only [List.length_cons, List.length_nil, List.length_append, List.length_map, List.length_take, List.length_drop, List.length_reverse, List.length_set]; omega) | decide) only [wX_ok, wX_exc, wO_some, wO_ite, wIf_true, wIf_false, wIf_not, wF_nx, wF_rt, wF_bk, wF_ct, w_pure, w_bind, w_of, w_m1, w_m2, w_var, w_c, w_truth, w_ite, w_and, w_or, w_not, w_andV, w_orV, w_notV, w_if, w_nil, w_cons, w_tup, w_lst, w_call, w_nx, w_seq, w_drop, w_ret, w_set, w_ifS, w_slot, w_callF, w_callK, w_app2, w_part, w_noPart, w_sl, w_seqOf, w_rng, w_for, w_forL_nil, w_app, w_ixO, w_lenO, w_popAt, w_setIx, w_setV, w_parIx, w_aug, w_par2, w_par3, w_mbind, w_chain, wX_runF, VL.fill, VL.put, outs, startE, wipeE, backE, bindT_nm, bindT_tt, bindT_tl, bindTs_n, bindTs_c, VL.pick, List.filterMap_cons, List.filterMap_nil, List.map_cons, List.map_nil, List.length_cons, List.length_nil, List.replicate, List.cons_append, List.nil_append, List.getElem?_cons_zero, List.getElem?_cons_succ, List.set_cons_zero, List.set_cons_succ, Option.map_some, Option.bind_some, Option.getD_some, Nat.reduceSub, Nat.reduceAdd, Int.cast_ofNat_Int, Int.reduceLT, Int.reduceLE, Int.reduceNeg, Int.reduceEq, gEq_int, gNe_int, gLt_int, gGt_int, gLe_int, gGe_int, gAdd_int, gSub_int, gMul_l, gMul_r, gMod_int, gFdv_int, gNeg_i, cInt_i, cInt_b, cAbs_i, cLen_l, cLen_t, cTup_l, cTup_t, cLst_l, cLst_t, gIx_l, gIx_t, setI_i, popI_i, gSl_l, gSl_t, gSl_scr, dSeq_l, dSeq_t, dSeq_s, cMin2_i, cMax2_i, cEnum_l, cEnum_t, cZip_l, cZip_t, tr_b, tr_i, tr_l, tr_t, tr_n, gIs_n, gIsn_n, isN, lstAt_0, lstAt_s, gAdd_l, gAdd_t, le_sizeP, lt_sizeP, gPow_i, cAll_mb, cAny_mb, w_star, w_tupS, w_lstS, w_star2, w_pkL, w_pkR, slotAt_0, slotAt_s, boolOf_b, w_keysOf, w_itmsOf, w_get1, w_get2, w_dgetO, w_dinO, w_get1O, w_get2O, w_dput, w_callD, dicAt_0, dicAt_s, dicAt_K, dicAt_T, dPs_K, dPs_T, dGet_T2, dGet_Ks, gIxD_T2, gIxD_Ks, dPut_T2, dPut_Ks, Option.isSome_some, Option.isSome_none, dItems_l, dItems_t, gCat_l, starT_c, gRev_ll, gRev_tt, w_raise1, w_raise0, w_try, w_cl0, w_clN, w_clY, xD_0, xD_1, xD_2, xD_3, xD_4, xD_5, xD_6, ↓gIs_x, ↓gIsn_x, slA1, slA2, slA3, slA4, gFld_x, gIsx_x, true_and, and_true, Bool.not_true, Bool.not_false, decide_true, decide_false])
    refine wX_imp (take_sp (t := rest.length) hb (by omega) (by omega) (by omega)) ?_
    rintro ⟨_, _⟩ ⟨i, rfl, hi, d2, rfl, hb2⟩
    have hi' : i < rest.length := by omega
    have c : -(2 ^ 63) ≤ (i : Int) ∧ (i : Int) < 2 ^ 63 := by omega
    (simp (disch := first | omega | (simp only [List.length_cons, List.length_nil, List.length_append, List.length_map, List.length_take, List.length_drop, List.length_reverse, List.length_set]; omega) | decide) only [if_pos c, seqIndex_nat hi', List.getElem?_eq_getElem hi', wX_ok, wX_exc, wO_some, wO_ite, wIf_true, wIf_false, wIf_not, wF_nx, wF_rt, wF_bk, wF_ct, w_pure, w_bind, w_of, w_m1, w_m2, w_var, w_c, w_truth, w_ite, w_and, w_or, w_not, w_andV, w_orV, w_notV, w_if, w_nil, w_cons, w_tup, w_lst, w_call, w_nx, w_seq, w_drop, w_ret, w_set, w_ifS, w_slot, w_callF, w_callK, w_app2, w_part, w_noPart, w_sl, w_seqOf, w_rng, w_for, w_forL_nil, w_app, w_ixO, w_lenO, w_popAt, w_setIx, w_setV, w_parIx, w_aug, w_par2, w_par3, w_mbind, w_chain, wX_runF, VL.fill, VL.put, outs, startE, wipeE, backE, bindT_nm, bindT_tt, bindT_tl, bindTs_n, bindTs_c, VL.pick, List.filterMap_cons, List.filterMap_nil, List.map_cons, List.map_nil, List.length_cons, List.length_nil, List.replicate, List.cons_append, List.nil_append, List.getElem?_cons_zero, List.getElem?_cons_succ, List.set_cons_zero, List.set_cons_succ, Option.map_some, Option.bind_some, Option.getD_some, Nat.reduceSub, Nat.reduceAdd, Int.cast_ofNat_Int, Int.reduceLT, Int.reduceLE, Int.reduceNeg, Int.reduceEq, gEq_int, gNe_int, gLt_int, gGt_int, gLe_int, gGe_int, gAdd_int, gSub_int, gMul_l, gMul_r, gMod_int, gFdv_int, gNeg_i, cInt_i, cInt_b, cAbs_i, cLen_l, cLen_t, cTup_l, cTup_t, cLst_l, cLst_t, gIx_l, gIx_t, setI_i, popI_i, gSl_l, gSl_t, gSl_scr, dSeq_l, dSeq_t, dSeq_s, cMin2_i, cMax2_i, cEnum_l, cEnum_t, cZip_l, cZip_t, tr_b, tr_i, tr_l, tr_t, tr_n, gIs_n, gIsn_n, isN, lstAt_0, lstAt_s, gAdd_l, gAdd_t, le_sizeP, lt_sizeP, gPow_i, cAll_mb, cAny_mb, w_star, w_tupS, w_lstS, w_star2, w_pkL, w_pkR, slotAt_0, slotAt_s, boolOf_b, w_keysOf, w_itmsOf, w_get1, w_get2, w_dgetO, w_dinO, w_get1O, w_get2O, w_dput, w_callD, dicAt_0, dicAt_s, dicAt_K, dicAt_T, dPs_K, dPs_T, dGet_T2, dGet_Ks, gIxD_T2, gIxD_Ks, dPut_T2, dPut_Ks, Option.isSome_some, Option.isSome_none, dItems_l, dItems_t, gCat_l, starT_c, gRev_ll, gRev_tt, w_raise1, w_raise0, w_try, w_cl0, w_clN, w_clY, xD_0, xD_1, xD_2, xD_3, xD_4, xD_5, xD_6, ↓gIs_x, ↓gIsn_x, slA1, slA2, slA3, slA4, gFld_x, gIsx_x, true_and, and_true, Bool.not_true, Bool.not_false, decide_true, decide_false])
    refine ⟨by rw [PySem.sizeLine_eq]; omega, d2, _, _, _, rfl, ?_, ?_, ?_⟩
    · rw [Nat.zero_add]; exact hb2
    · refine List.Perm.trans ?_ hp
      rw [List.append_assoc]
      exact List.Perm.append_left _ (perm_erase hi')
    · rw [List.length_append, hk]; simp
  · rintro ρ' ⟨d', rest, some', t, rfl, hb, hp, hk⟩
    rw [Nat.zero_add, hlen] at hk hb
    (simp (disch := first | omega | (simp only [List.length_cons, List.length_nil, List.length_append, List.length_map, List.length_take, List.length_drop, List.length_reverse, List.length_set]; omega) | decide) only [wX_ok, wX_exc, wO_some, wO_ite, wIf_true, wIf_false, wIf_not, wF_nx, wF_rt, wF_bk, wF_ct, w_pure, w_bind, w_of, w_m1, w_m2, w_var, w_c, w_truth, w_ite, w_and, w_or, w_not, w_andV, w_orV, w_notV, w_if, w_nil, w_cons, w_tup, w_lst, w_call, w_nx, w_seq, w_drop, w_ret, w_set, w_ifS, w_slot, w_callF, w_callK, w_app2, w_part, w_noPart, w_sl, w_seqOf, w_rng, w_for, w_forL_nil, w_app, w_ixO, w_lenO, w_popAt, w_setIx, w_setV, w_parIx, w_aug, w_par2, w_par3, w_mbind, w_chain, wX_runF, VL.fill, VL.put, outs, startE, wipeE, backE, bindT_nm, bindT_tt, bindT_tl, bindTs_n, bindTs_c, VL.pick, List.filterMap_cons, List.filterMap_nil, List.map_cons, List.map_nil, List.length_cons, List.length_nil, List.replicate, List.cons_append, List.nil_append, List.getElem?_cons_zero, List.getElem?_cons_succ, List.set_cons_zero, List.set_cons_succ, Option.map_some, Option.bind_some, Option.getD_some, Nat.reduceSub, Nat.reduceAdd, Int.cast_ofNat_Int, Int.reduceLT, Int.reduceLE, Int.reduceNeg, Int.reduceEq, gEq_int, gNe_int, gLt_int, gGt_int, gLe_int, gGe_int, gAdd_int, gSub_int, gMul_l, gMul_r, gMod_int, gFdv_int, gNeg_i, cInt_i, cInt_b, cAbs_i, cLen_l, cLen_t, cTup_l, cTup_t, cLst_l, cLst_t, gIx_l, gIx_t, setI_i, popI_i, gSl_l, gSl_t, gSl_scr, dSeq_l, dSeq_t, dSeq_s, cMin2_i, cMax2_i, cEnum_l, cEnum_t, cZip_l, cZip_t, tr_b, tr_i, tr_l, tr_t, tr_n, gIs_n, gIsn_n, isN, lstAt_0, lstAt_s, gAdd_l, gAdd_t, le_sizeP, lt_sizeP, gPow_i, cAll_mb, cAny_mb, w_star, w_tupS, w_lstS, w_star2, w_pkL, w_pkR, slotAt_0, slotAt_s, boolOf_b, w_keysOf, w_itmsOf, w_get1, w_get2, w_dgetO, w_dinO, w_get1O, w_get2O, w_dput, w_callD, dicAt_0, dicAt_s, dicAt_K, dicAt_T, dPs_K, dPs_T, dGet_T2, dGet_Ks, gIxD_T2, gIxD_Ks, dPut_T2, dPut_Ks, Option.isSome_some, Option.isSome_none, dItems_l, dItems_t, gCat_l, starT_c, gRev_ll, gRev_tt, w_raise1, w_raise0, w_try, w_cl0, w_clN, w_clY, xD_0, xD_1, xD_2, xD_3, xD_4, xD_5, xD_6, ↓gIs_x, ↓gIsn_x, slA1, slA2, slA3, slA4, gFld_x, gIsx_x, true_and, and_true, Bool.not_true, Bool.not_false, decide_true, decide_false])
    exact ⟨some', rest, rfl, hp, hk, d', rfl, hb.mono (by omega)⟩
/-! the numbers of the script -/
theorem cut_to {α : Type} (xs : List α) (k : Nat) : cutD xs none (some (k : Int)) = xs.take k := by
  unfold cutD
  rw [HT.sIx_nat, HT.sIx_none, List.drop_zero, Nat.sub_zero]
  rw [List.take_eq_take_iff]; omega
theorem cut_from {α : Type} (xs : List α) (k : Nat) : cutD xs (some (k : Int)) none = xs.drop k := by
  unfold cutD
  rw [HT.sIx_nat, HT.sIx_none]
  by_cases h : k ≤ xs.length
  · rw [Nat.min_eq_left h, List.take_of_length_le (by rw [List.length_drop]; omega)]
  · rw [Nat.min_eq_right (by omega), List.drop_of_length_le (by omega), List.drop_of_length_le (by omega)]; simp
theorem cut_mid {α : Type} (xs : List α) (a b : Nat) : cutD xs (some (a : Int)) (some (b : Int)) = (xs.drop a).take (b - a) := by
  unfold cutD
  rw [HT.sIx_nat, HT.sIx_nat]
  by_cases h : a ≤ xs.length
  · rw [Nat.min_eq_left h, List.take_eq_take_iff, List.length_drop]; omega
  · rw [Nat.min_eq_right (by omega : xs.length ≤ a), List.drop_of_length_le (by omega), List.drop_of_length_le (by omega)]; simp
theorem cut_mid63 {α : Type} (xs : List α) (a : Nat) : cutD xs (some (a : Int)) (some 63) = (xs.drop a).take (63 - a) := cut_mid xs a 63
theorem ixN_nat {i n : Nat} (h : i < n) : L2.ixN n (i : Int) = some i := by
  unfold L2.ixN
  rw [if_pos (by omega), if_pos (by omega)]
  simp
theorem cells_loop {ns ms : List Int} {m : Nat} {Q : Fl → VL.Env → Prop} {E : XE} (hl : ns.length ≤ 63) (hm : 0 < m ∧ m < 10) (h2 : ms.length ≤ m) (h3 : ms.length < m → ns.drop m = []) (hq : ∀ ms' : List Int, ∀ x y z, ms'.length = ms.length → Q .nx [some (scr (ns.map .int)), some (.int m), some (.list (ms'.map .int)), x, y, z]) :
    wM (forL (.tp [(.nm 3), (.nm 4)]) (mSeq (mSet 5 (m2 gMod (mCall cInt (mCons (mVar 3) mNil)) (mVar 1)))
  (mSetIx 2 (m2 gAdd (mIxO 2 (mVar 5)) (m2 gMul (mVar 4) (m2 gAdd (mVar 3) (mC (.int 2))))) (mVar 5))) (enumL 0 (((ns.map .int).drop m).take (63 - m)))) [some (scr (ns.map .int)), some (.int m), some (.list (ms.map .int)), none, none, none] Q E := by
    refine w_forI (k := 0) (fun k ρ => ∃ ms' : List Int, ∃ x y z, ρ = [some (scr (ns.map .int)), some (.int m), some (.list (ms'.map .int)), x, y, z] ∧ ms'.length = ms.length) ⟨ms, _, _, _, rfl, rfl⟩ ?_ ?_
    · rintro j d ρ hj ⟨ms', x, y, z, rfl, hlen⟩
      obtain ⟨e, he, rfl⟩ := enumL_get hj
      rw [Nat.zero_add]
      have hj63 : j < 63 := by
        have := (List.getElem?_eq_some_iff.mp he).1
        rw [List.length_take, List.length_drop, List.length_map] at this
        omega
      obtain ⟨i, rfl⟩ : ∃ i, e = .int i := by
        have hmem := List.mem_of_getElem? he
        have := List.mem_of_mem_drop (List.mem_of_mem_take hmem)
        obtain ⟨i, _, rfl⟩ := List.mem_map.mp this
        exact ⟨i, rfl⟩
      have hmm : ms.length = m := by
        rcases Nat.lt_or_ge ms.length m with c | c
        · have hd := h3 c
          rw [← List.map_drop, hd] at he
          simp at he
        · omega
      have hjm : j % m < ms'.length := by rw [hlen, hmm]; exact Nat.mod_lt _ hm.1
      have em : (j : Int) % (m : Int) = ((j % m : Nat) : Int) := by omega
      have hg : (ms'.map PyData.int)[j % m]? = some (.int ms'[j % m]) := by rw [List.getElem?_map, List.getElem?_eq_getElem hjm]; rfl
      have hix : L2.ixN (ms'.map PyData.int).length ((j % m : Nat) : Int) = some (j % m) := ixN_nat (by rw [List.length_map]; exact hjm)
      (simp (disch := first | omega | (simp only [List.length_cons, List.length_nil, List.length_append, List.length_map, List.length_take, List.length_drop, List.length_reverse, List.length_set]; omega) | decide) only [em, atI_nat hg, hix, wX_ok, wX_exc, wO_some, wO_ite, wIf_true, wIf_false, wIf_not, wF_nx, wF_rt, wF_bk, wF_ct, w_pure, w_bind, w_of, w_m1, w_m2, w_var, w_c, w_truth, w_ite, w_and, w_or, w_not, w_andV, w_orV, w_notV, w_if, w_nil, w_cons, w_tup, w_lst, w_call, w_nx, w_seq, w_drop, w_ret, w_set, w_ifS, w_slot, w_callF, w_callK, w_app2, w_part, w_noPart, w_sl, w_seqOf, w_rng, w_for, w_forL_nil, w_app, w_ixO, w_lenO, w_popAt, w_setIx, w_setV, w_parIx, w_aug, w_par2, w_par3, w_mbind, w_chain, wX_runF, VL.fill, VL.put, outs, startE, wipeE, backE, bindT_nm, bindT_tt, bindT_tl, bindTs_n, bindTs_c, VL.pick, List.filterMap_cons, List.filterMap_nil, List.map_cons, List.map_nil, List.length_cons, List.length_nil, List.replicate, List.cons_append, List.nil_append, List.getElem?_cons_zero, List.getElem?_cons_succ, List.set_cons_zero, List.set_cons_succ, Option.map_some, Option.bind_some, Option.getD_some, Nat.reduceSub, Nat.reduceAdd, Int.cast_ofNat_Int, Int.reduceLT, Int.reduceLE, Int.reduceNeg, Int.reduceEq, gEq_int, gNe_int, gLt_int, gGt_int, gLe_int, gGe_int, gAdd_int, gSub_int, gMul_l, gMul_r, gMod_int, gFdv_int, gNeg_i, cInt_i, cInt_b, cAbs_i, cLen_l, cLen_t, cTup_l, cTup_t, cLst_l, cLst_t, gIx_l, gIx_t, setI_i, popI_i, gSl_l, gSl_t, gSl_scr, dSeq_l, dSeq_t, dSeq_s, cMin2_i, cMax2_i, cEnum_l, cEnum_t, cZip_l, cZip_t, tr_b, tr_i, tr_l, tr_t, tr_n, gIs_n, gIsn_n, isN, lstAt_0, lstAt_s, gAdd_l, gAdd_t, le_sizeP, lt_sizeP, gPow_i, cAll_mb, cAny_mb, w_star, w_tupS, w_lstS, w_star2, w_pkL, w_pkR, slotAt_0, slotAt_s, boolOf_b, w_keysOf, w_itmsOf, w_get1, w_get2, w_dgetO, w_dinO, w_get1O, w_get2O, w_dput, w_callD, dicAt_0, dicAt_s, dicAt_K, dicAt_T, dPs_K, dPs_T, dGet_T2, dGet_Ks, gIxD_T2, gIxD_Ks, dPut_T2, dPut_Ks, Option.isSome_some, Option.isSome_none, dItems_l, dItems_t, gCat_l, starT_c, gRev_ll, gRev_tt, w_raise1, w_raise0, w_try, w_cl0, w_clN, w_clY, xD_0, xD_1, xD_2, xD_3, xD_4, xD_5, xD_6, ↓gIs_x, ↓gIsn_x, slA1, slA2, slA3, slA4, gFld_x, gIsx_x, true_and, and_true, Bool.not_true, Bool.not_false, decide_true, decide_false])
      exact ⟨ms'.set (j % m) (ms'[j % m] + i * ((j : Int) + 2)), some (.int j), some (.int i), some (.int ((j % m : Nat) : Int)), by rw [List.map_set], by rw [List.length_set]; exact hlen⟩
    · rintro ρ' ⟨ms', x, y, z, rfl, hlen⟩
      exact hq ms' x y z hlen
theorem cells_sp {ns : List Int} (hl : ns.length ≤ 63) {m : Nat} (hm : 0 < m ∧ m < 10) : wX (f__law_cells [scr (ns.map .int), .int m]) (fun p => p.2 = [] ∧ ∃ ms : List Int, p.1 = .list (ms.map .int) ∧ ms ≠ [] ∧ ms.length ≤ m) E0 := by
  unfold f__law_cells
  (simp (disch := first | omega | (simp only [List.length_cons, List.length_nil, List.length_append, List.length_map, List.length_take, List.length_drop, List.length_reverse, List.length_set]; omega) | decide) only [cut_to, wX_ok, wX_exc, wO_some, wO_ite, wIf_true, wIf_false, wIf_not, wF_nx, wF_rt, wF_bk, wF_ct, w_pure, w_bind, w_of, w_m1, w_m2, w_var, w_c, w_truth, w_ite, w_and, w_or, w_not, w_andV, w_orV, w_notV, w_if, w_nil, w_cons, w_tup, w_lst, w_call, w_nx, w_seq, w_drop, w_ret, w_set, w_ifS, w_slot, w_callF, w_callK, w_app2, w_part, w_noPart, w_sl, w_seqOf, w_rng, w_for, w_forL_nil, w_app, w_ixO, w_lenO, w_popAt, w_setIx, w_setV, w_parIx, w_aug, w_par2, w_par3, w_mbind, w_chain, wX_runF, VL.fill, VL.put, outs, startE, wipeE, backE, bindT_nm, bindT_tt, bindT_tl, bindTs_n, bindTs_c, VL.pick, List.filterMap_cons, List.filterMap_nil, List.map_cons, List.map_nil, List.length_cons, List.length_nil, List.replicate, List.cons_append, List.nil_append, List.getElem?_cons_zero, List.getElem?_cons_succ, List.set_cons_zero, List.set_cons_succ, Option.map_some, Option.bind_some, Option.getD_some, Nat.reduceSub, Nat.reduceAdd, Int.cast_ofNat_Int, Int.reduceLT, Int.reduceLE, Int.reduceNeg, Int.reduceEq, gEq_int, gNe_int, gLt_int, gGt_int, gLe_int, gGe_int, gAdd_int, gSub_int, gMul_l, gMul_r, gMod_int, gFdv_int, gNeg_i, cInt_i, cInt_b, cAbs_i, cLen_l, cLen_t, cTup_l, cTup_t, cLst_l, cLst_t, gIx_l, gIx_t, setI_i, popI_i, gSl_l, gSl_t, gSl_scr, dSeq_l, dSeq_t, dSeq_s, cMin2_i, cMax2_i, cEnum_l, cEnum_t, cZip_l, cZip_t, tr_b, tr_i, tr_l, tr_t, tr_n, gIs_n, gIsn_n, isN, lstAt_0, lstAt_s, gAdd_l, gAdd_t, le_sizeP, lt_sizeP, gPow_i, cAll_mb, cAny_mb, w_star, w_tupS, w_lstS, w_star2, w_pkL, w_pkR, slotAt_0, slotAt_s, boolOf_b, w_keysOf, w_itmsOf, w_get1, w_get2, w_dgetO, w_dinO, w_get1O, w_get2O, w_dput, w_callD, dicAt_0, dicAt_s, dicAt_K, dicAt_T, dPs_K, dPs_T, dGet_T2, dGet_Ks, gIxD_T2, gIxD_Ks, dPut_T2, dPut_Ks, Option.isSome_some, Option.isSome_none, dItems_l, dItems_t, gCat_l, starT_c, gRev_ll, gRev_tt, w_raise1, w_raise0, w_try, w_cl0, w_clN, w_clY, xD_0, xD_1, xD_2, xD_3, xD_4, xD_5, xD_6, ↓gIs_x, ↓gIsn_x, slA1, slA2, slA3, slA4, gFld_x, gIsx_x, true_and, and_true, Bool.not_true, Bool.not_false, decide_true, decide_false])
  cases ns with
  | nil =>
    have e0 : (List.map PyData.int ([] : List Int)).take m = [] := by simp
    rw [e0, List.isEmpty_nil]
    generalize hL : ([] : List Int) = L at hl ⊢
    (simp (disch := first | omega | (simp only [List.length_cons, List.length_nil, List.length_append, List.length_map, List.length_take, List.length_drop, List.length_reverse, List.length_set]; omega) | decide) only [cut_mid63, wX_ok, wX_exc, wO_some, wO_ite, wIf_true, wIf_false, wIf_not, wF_nx, wF_rt, wF_bk, wF_ct, w_pure, w_bind, w_of, w_m1, w_m2, w_var, w_c, w_truth, w_ite, w_and, w_or, w_not, w_andV, w_orV, w_notV, w_if, w_nil, w_cons, w_tup, w_lst, w_call, w_nx, w_seq, w_drop, w_ret, w_set, w_ifS, w_slot, w_callF, w_callK, w_app2, w_part, w_noPart, w_sl, w_seqOf, w_rng, w_for, w_forL_nil, w_app, w_ixO, w_lenO, w_popAt, w_setIx, w_setV, w_parIx, w_aug, w_par2, w_par3, w_mbind, w_chain, wX_runF, VL.fill, VL.put, outs, startE, wipeE, backE, bindT_nm, bindT_tt, bindT_tl, bindTs_n, bindTs_c, VL.pick, List.filterMap_cons, List.filterMap_nil, List.map_cons, List.map_nil, List.length_cons, List.length_nil, List.replicate, List.cons_append, List.nil_append, List.getElem?_cons_zero, List.getElem?_cons_succ, List.set_cons_zero, List.set_cons_succ, Option.map_some, Option.bind_some, Option.getD_some, Nat.reduceSub, Nat.reduceAdd, Int.cast_ofNat_Int, Int.reduceLT, Int.reduceLE, Int.reduceNeg, Int.reduceEq, gEq_int, gNe_int, gLt_int, gGt_int, gLe_int, gGe_int, gAdd_int, gSub_int, gMul_l, gMul_r, gMod_int, gFdv_int, gNeg_i, cInt_i, cInt_b, cAbs_i, cLen_l, cLen_t, cTup_l, cTup_t, cLst_l, cLst_t, gIx_l, gIx_t, setI_i, popI_i, gSl_l, gSl_t, gSl_scr, dSeq_l, dSeq_t, dSeq_s, cMin2_i, cMax2_i, cEnum_l, cEnum_t, cZip_l, cZip_t, tr_b, tr_i, tr_l, tr_t, tr_n, gIs_n, gIsn_n, isN, lstAt_0, lstAt_s, gAdd_l, gAdd_t, le_sizeP, lt_sizeP, gPow_i, cAll_mb, cAny_mb, w_star, w_tupS, w_lstS, w_star2, w_pkL, w_pkR, slotAt_0, slotAt_s, boolOf_b, w_keysOf, w_itmsOf, w_get1, w_get2, w_dgetO, w_dinO, w_get1O, w_get2O, w_dput, w_callD, dicAt_0, dicAt_s, dicAt_K, dicAt_T, dPs_K, dPs_T, dGet_T2, dGet_Ks, gIxD_T2, gIxD_Ks, dPut_T2, dPut_Ks, Option.isSome_some, Option.isSome_none, dItems_l, dItems_t, gCat_l, starT_c, gRev_ll, gRev_tt, w_raise1, w_raise0, w_try, w_cl0, w_clN, w_clY, xD_0, xD_1, xD_2, xD_3, xD_4, xD_5, xD_6, ↓gIs_x, ↓gIsn_x, slA1, slA2, slA3, slA4, gFld_x, gIsx_x, true_and, and_true, Bool.not_true, Bool.not_false, decide_true, decide_false])
    refine cells_loop (ms := [0]) hl hm (by simp; omega) (fun _ => by rw [← hL]; simp) fun ms' x y z hlen => ?_
    (simp (disch := first | omega | (simp only [List.length_cons, List.length_nil, List.length_append, List.length_map, List.length_take, List.length_drop, List.length_reverse, List.length_set]; omega) | decide) only [wX_ok, wX_exc, wO_some, wO_ite, wIf_true, wIf_false, wIf_not, wF_nx, wF_rt, wF_bk, wF_ct, w_pure, w_bind, w_of, w_m1, w_m2, w_var, w_c, w_truth, w_ite, w_and, w_or, w_not, w_andV, w_orV, w_notV, w_if, w_nil, w_cons, w_tup, w_lst, w_call, w_nx, w_seq, w_drop, w_ret, w_set, w_ifS, w_slot, w_callF, w_callK, w_app2, w_part, w_noPart, w_sl, w_seqOf, w_rng, w_for, w_forL_nil, w_app, w_ixO, w_lenO, w_popAt, w_setIx, w_setV, w_parIx, w_aug, w_par2, w_par3, w_mbind, w_chain, wX_runF, VL.fill, VL.put, outs, startE, wipeE, backE, bindT_nm, bindT_tt, bindT_tl, bindTs_n, bindTs_c, VL.pick, List.filterMap_cons, List.filterMap_nil, List.map_cons, List.map_nil, List.length_cons, List.length_nil, List.replicate, List.cons_append, List.nil_append, List.getElem?_cons_zero, List.getElem?_cons_succ, List.set_cons_zero, List.set_cons_succ, Option.map_some, Option.bind_some, Option.getD_some, Nat.reduceSub, Nat.reduceAdd, Int.cast_ofNat_Int, Int.reduceLT, Int.reduceLE, Int.reduceNeg, Int.reduceEq, gEq_int, gNe_int, gLt_int, gGt_int, gLe_int, gGe_int, gAdd_int, gSub_int, gMul_l, gMul_r, gMod_int, gFdv_int, gNeg_i, cInt_i, cInt_b, cAbs_i, cLen_l, cLen_t, cTup_l, cTup_t, cLst_l, cLst_t, gIx_l, gIx_t, setI_i, popI_i, gSl_l, gSl_t, gSl_scr, dSeq_l, dSeq_t, dSeq_s, cMin2_i, cMax2_i, cEnum_l, cEnum_t, cZip_l, cZip_t, tr_b, tr_i, tr_l, tr_t, tr_n, gIs_n, gIsn_n, isN, lstAt_0, lstAt_s, gAdd_l, gAdd_t, le_sizeP, lt_sizeP, gPow_i, cAll_mb, cAny_mb, w_star, w_tupS, w_lstS, w_star2, w_pkL, w_pkR, slotAt_0, slotAt_s, boolOf_b, w_keysOf, w_itmsOf, w_get1, w_get2, w_dgetO, w_dinO, w_get1O, w_get2O, w_dput, w_callD, dicAt_0, dicAt_s, dicAt_K, dicAt_T, dPs_K, dPs_T, dGet_T2, dGet_Ks, gIxD_T2, gIxD_Ks, dPut_T2, dPut_Ks, Option.isSome_some, Option.isSome_none, dItems_l, dItems_t, gCat_l, starT_c, gRev_ll, gRev_tt, w_raise1, w_raise0, w_try, w_cl0, w_clN, w_clY, xD_0, xD_1, xD_2, xD_3, xD_4, xD_5, xD_6, ↓gIs_x, ↓gIsn_x, slA1, slA2, slA3, slA4, gFld_x, gIsx_x, true_and, and_true, Bool.not_true, Bool.not_false, decide_true, decide_false])
    simp only [List.length_cons, List.length_nil] at hlen
    exact ⟨ms', rfl, fun h => by rw [h, ← hL] at hlen; simp at hlen, by omega⟩
  | cons a ns =>
    obtain ⟨m', rfl⟩ : ∃ m', m = m' + 1 := ⟨m - 1, by omega⟩
    have e2 : ((a :: ns).map PyData.int).take (m' + 1) = (((a :: ns).take (m' + 1)).map .int) := by rw [List.map_take]
    rw [e2]
    have e3 : (((a :: ns).take (m' + 1)).map PyData.int).isEmpty = false := by simp
    rw [e3]
    generalize hL : a :: ns = L at *
    (simp (disch := first | omega | (simp only [List.length_cons, List.length_nil, List.length_append, List.length_map, List.length_take, List.length_drop, List.length_reverse, List.length_set]; omega) | decide) only [cut_mid63, wX_ok, wX_exc, wO_some, wO_ite, wIf_true, wIf_false, wIf_not, wF_nx, wF_rt, wF_bk, wF_ct, w_pure, w_bind, w_of, w_m1, w_m2, w_var, w_c, w_truth, w_ite, w_and, w_or, w_not, w_andV, w_orV, w_notV, w_if, w_nil, w_cons, w_tup, w_lst, w_call, w_nx, w_seq, w_drop, w_ret, w_set, w_ifS, w_slot, w_callF, w_callK, w_app2, w_part, w_noPart, w_sl, w_seqOf, w_rng, w_for, w_forL_nil, w_app, w_ixO, w_lenO, w_popAt, w_setIx, w_setV, w_parIx, w_aug, w_par2, w_par3, w_mbind, w_chain, wX_runF, VL.fill, VL.put, outs, startE, wipeE, backE, bindT_nm, bindT_tt, bindT_tl, bindTs_n, bindTs_c, VL.pick, List.filterMap_cons, List.filterMap_nil, List.map_cons, List.map_nil, List.length_cons, List.length_nil, List.replicate, List.cons_append, List.nil_append, List.getElem?_cons_zero, List.getElem?_cons_succ, List.set_cons_zero, List.set_cons_succ, Option.map_some, Option.bind_some, Option.getD_some, Nat.reduceSub, Nat.reduceAdd, Int.cast_ofNat_Int, Int.reduceLT, Int.reduceLE, Int.reduceNeg, Int.reduceEq, gEq_int, gNe_int, gLt_int, gGt_int, gLe_int, gGe_int, gAdd_int, gSub_int, gMul_l, gMul_r, gMod_int, gFdv_int, gNeg_i, cInt_i, cInt_b, cAbs_i, cLen_l, cLen_t, cTup_l, cTup_t, cLst_l, cLst_t, gIx_l, gIx_t, setI_i, popI_i, gSl_l, gSl_t, gSl_scr, dSeq_l, dSeq_t, dSeq_s, cMin2_i, cMax2_i, cEnum_l, cEnum_t, cZip_l, cZip_t, tr_b, tr_i, tr_l, tr_t, tr_n, gIs_n, gIsn_n, isN, lstAt_0, lstAt_s, gAdd_l, gAdd_t, le_sizeP, lt_sizeP, gPow_i, cAll_mb, cAny_mb, w_star, w_tupS, w_lstS, w_star2, w_pkL, w_pkR, slotAt_0, slotAt_s, boolOf_b, w_keysOf, w_itmsOf, w_get1, w_get2, w_dgetO, w_dinO, w_get1O, w_get2O, w_dput, w_callD, dicAt_0, dicAt_s, dicAt_K, dicAt_T, dPs_K, dPs_T, dGet_T2, dGet_Ks, gIxD_T2, gIxD_Ks, dPut_T2, dPut_Ks, Option.isSome_some, Option.isSome_none, dItems_l, dItems_t, gCat_l, starT_c, gRev_ll, gRev_tt, w_raise1, w_raise0, w_try, w_cl0, w_clN, w_clY, xD_0, xD_1, xD_2, xD_3, xD_4, xD_5, xD_6, ↓gIs_x, ↓gIsn_x, slA1, slA2, slA3, slA4, gFld_x, gIsx_x, true_and, and_true, Bool.not_true, Bool.not_false, decide_true, decide_false])
    refine cells_loop (ms := L.take (m' + 1)) hl hm (by rw [List.length_take]; omega) (fun h => by rw [List.length_take] at h; rw [List.drop_eq_nil_iff]; omega) fun ms' x y z hlen => ?_
    (simp (disch := first | omega | (simp only [List.length_cons, List.length_nil, List.length_append, List.length_map, List.length_take, List.length_drop, List.length_reverse, List.length_set]; omega) | decide) only [wX_ok, wX_exc, wO_some, wO_ite, wIf_true, wIf_false, wIf_not, wF_nx, wF_rt, wF_bk, wF_ct, w_pure, w_bind, w_of, w_m1, w_m2, w_var, w_c, w_truth, w_ite, w_and, w_or, w_not, w_andV, w_orV, w_notV, w_if, w_nil, w_cons, w_tup, w_lst, w_call, w_nx, w_seq, w_drop, w_ret, w_set, w_ifS, w_slot, w_callF, w_callK, w_app2, w_part, w_noPart, w_sl, w_seqOf, w_rng, w_for, w_forL_nil, w_app, w_ixO, w_lenO, w_popAt, w_setIx, w_setV, w_parIx, w_aug, w_par2, w_par3, w_mbind, w_chain, wX_runF, VL.fill, VL.put, outs, startE, wipeE, backE, bindT_nm, bindT_tt, bindT_tl, bindTs_n, bindTs_c, VL.pick, List.filterMap_cons, List.filterMap_nil, List.map_cons, List.map_nil, List.length_cons, List.length_nil, List.replicate, List.cons_append, List.nil_append, List.getElem?_cons_zero, List.getElem?_cons_succ, List.set_cons_zero, List.set_cons_succ, Option.map_some, Option.bind_some, Option.getD_some, Nat.reduceSub, Nat.reduceAdd, Int.cast_ofNat_Int, Int.reduceLT, Int.reduceLE, Int.reduceNeg, Int.reduceEq, gEq_int, gNe_int, gLt_int, gGt_int, gLe_int, gGe_int, gAdd_int, gSub_int, gMul_l, gMul_r, gMod_int, gFdv_int, gNeg_i, cInt_i, cInt_b, cAbs_i, cLen_l, cLen_t, cTup_l, cTup_t, cLst_l, cLst_t, gIx_l, gIx_t, setI_i, popI_i, gSl_l, gSl_t, gSl_scr, dSeq_l, dSeq_t, dSeq_s, cMin2_i, cMax2_i, cEnum_l, cEnum_t, cZip_l, cZip_t, tr_b, tr_i, tr_l, tr_t, tr_n, gIs_n, gIsn_n, isN, lstAt_0, lstAt_s, gAdd_l, gAdd_t, le_sizeP, lt_sizeP, gPow_i, cAll_mb, cAny_mb, w_star, w_tupS, w_lstS, w_star2, w_pkL, w_pkR, slotAt_0, slotAt_s, boolOf_b, w_keysOf, w_itmsOf, w_get1, w_get2, w_dgetO, w_dinO, w_get1O, w_get2O, w_dput, w_callD, dicAt_0, dicAt_s, dicAt_K, dicAt_T, dPs_K, dPs_T, dGet_T2, dGet_Ks, gIxD_T2, gIxD_Ks, dPut_T2, dPut_Ks, Option.isSome_some, Option.isSome_none, dItems_l, dItems_t, gCat_l, starT_c, gRev_ll, gRev_tt, w_raise1, w_raise0, w_try, w_cl0, w_clN, w_clY, xD_0, xD_1, xD_2, xD_3, xD_4, xD_5, xD_6, ↓gIs_x, ↓gIsn_x, slA1, slA2, slA3, slA4, gFld_x, gIsx_x, true_and, and_true, Bool.not_true, Bool.not_false, decide_true, decide_false])
    rw [List.length_take] at hlen
    refine ⟨ms', rfl, fun h => ?_, by omega⟩
    subst h
    rw [← hL] at hlen
    simp at hlen
/-! ### NAMEs, STEPs, LISTs that are drawn -/
theorem map_of {α β : Type} {f : α → β} : ∀ {ys : List β}, (∀ y ∈ ys, ∃ x, y = f x) → ∃ xs : List α, ys = xs.map f
  | [], _ => ⟨[], rfl⟩
  | y :: ys, h => by
    obtain ⟨x, rfl⟩ := h y (List.mem_cons_self ..)
    obtain ⟨xs, rfl⟩ := map_of fun z hz => h z (List.mem_cons_of_mem _ hz)
    exact ⟨x :: xs, rfl⟩
theorem insL_map {α β : Type} (f : α → β) (le : β → β → Bool) (x : α) : ∀ l : List α, insL le (f x) (l.map f) = (insL (fun a b => le (f a) (f b)) x l).map f
  | [] => rfl
  | y :: l => by
    rw [List.map_cons]
    unfold insL
    by_cases h : le (f x) (f y) = true
    · rw [if_pos h, if_pos h]; rfl
    · rw [if_neg h, if_neg h, insL_map f le x l]; rfl
theorem isort_map {α β : Type} (f : α → β) (le : β → β → Bool) : ∀ l : List α, isort le (l.map f) = (isort (fun a b => le (f a) (f b)) l).map f
  | [] => rfl
  | x :: l => by rw [List.map_cons]; unfold isort; rw [isort_map f le l, insL_map]
theorem insL_perm {α : Type} (le : α → α → Bool) (x : α) : ∀ l : List α, (insL le x l).Perm (x :: l)
  | [] => List.Perm.refl _
  | y :: l => by
    unfold insL
    by_cases h : le x y = true
    · rw [if_pos h]
    · rw [if_neg h]
      exact ((insL_perm le x l).cons y).trans (List.Perm.swap x y l)
theorem isort_perm {α : Type} (le : α → α → Bool) : ∀ l : List α, (isort le l).Perm l
  | [] => List.Perm.refl _
  | x :: l => (insL_perm le x _).trans ((isort_perm le l).cons x)
def leS (a b : Str) : Bool := dle (.str a) (.str b)
def sortS (l : List Str) : List Str := isort leS l
theorem sortD_strs (l : List Str) : sortD (l.map .str) = (sortS l).map .str := isort_map PyData.str dle l
theorem sortOk_strs (l : List Str) : sortOk (l.map .str) = true := by
  refine sortOk_1 ?_
  unfold sortOk1
  have h1 : PyData.plainAll (l.map PyData.str) = true := by
    induction l with
    | nil => rfl
    | cons x l ih => rw [List.map_cons, PyData.plainAll, ih]; rfl
  have h2 : allAlike (l.map PyData.str) = true := by
    unfold allAlike
    rw [List.all_eq_true]
    intro x hx
    obtain ⟨a, _, rfl⟩ := List.mem_map.mp hx
    rw [List.all_eq_true]
    intro y hy
    obtain ⟨b, _, rfl⟩ := List.mem_map.mp hy
    rfl
  have h3 : (l.map PyData.str).all isOth = true := by
    rw [List.all_eq_true]
    intro x hx
    obtain ⟨a, _, rfl⟩ := List.mem_map.mp hx
    rfl
  have h4 : ((l.map PyData.str).all fun x => decide (x.depth ≤ 100)) = true := by
    rw [List.all_eq_true]
    intro x hx
    obtain ⟨a, _, rfl⟩ := List.mem_map.mp hx
    rfl
  rw [h1, h2, h3, h4]
  simp
theorem cSort_strs (l : List Str) : cSort [.list (l.map .str)] = some (.list ((sortS l).map .str)) := by
  show (if sortOk (l.map .str) = true then some (PyData.list (sortD (l.map .str))) else none) = _
  rw [if_pos (sortOk_strs l), sortD_strs]
def strOf : D → Str
  | .str s => s
  | _ => ""
def poolS : List Str := ["a", "b", "cap", "floor", "start", "nought", "x", "yy", "abcdefgh"]
theorem tags_sp {n : Nat} {d : D} {m : Int} (h : Bx n d) (hn : n + 9 < 2 ^ 60) (hm : 0 ≤ m) :
    wX (f__law_tags [d, .int m]) (fun p => ∃ ts rest : List Str, p.1 = .tuple ((sortS ts).map .str) ∧ (ts ++ rest).Perm poolS ∧ ts.length = min m.toNat 9 ∧ ∃ d', p.2 = [d'] ∧ Bx (n + 9) d') E0 := by
  unfold f__law_tags
  (simp (disch := first | omega | (simp only [List.length_cons, List.length_nil, List.length_append, List.length_map, List.length_take, List.length_drop, List.length_reverse, List.length_set]; omega) | decide) only [wX_ok, wX_exc, wO_some, wO_ite, wIf_true, wIf_false, wIf_not, wF_nx, wF_rt, wF_bk, wF_ct, w_pure, w_bind, w_of, w_m1, w_m2, w_var, w_c, w_truth, w_ite, w_and, w_or, w_not, w_andV, w_orV, w_notV, w_if, w_nil, w_cons, w_tup, w_lst, w_call, w_nx, w_seq, w_drop, w_ret, w_set, w_ifS, w_slot, w_callF, w_callK, w_app2, w_part, w_noPart, w_sl, w_seqOf, w_rng, w_for, w_forL_nil, w_app, w_ixO, w_lenO, w_popAt, w_setIx, w_setV, w_parIx, w_aug, w_par2, w_par3, w_mbind, w_chain, wX_runF, VL.fill, VL.put, outs, startE, wipeE, backE, bindT_nm, bindT_tt, bindT_tl, bindTs_n, bindTs_c, VL.pick, List.filterMap_cons, List.filterMap_nil, List.map_cons, List.map_nil, List.length_cons, List.length_nil, List.replicate, List.cons_append, List.nil_append, List.getElem?_cons_zero, List.getElem?_cons_succ, List.set_cons_zero, List.set_cons_succ, Option.map_some, Option.bind_some, Option.getD_some, Nat.reduceSub, Nat.reduceAdd, Int.cast_ofNat_Int, Int.reduceLT, Int.reduceLE, Int.reduceNeg, Int.reduceEq, gEq_int, gNe_int, gLt_int, gGt_int, gLe_int, gGe_int, gAdd_int, gSub_int, gMul_l, gMul_r, gMod_int, gFdv_int, gNeg_i, cInt_i, cInt_b, cAbs_i, cLen_l, cLen_t, cTup_l, cTup_t, cLst_l, cLst_t, gIx_l, gIx_t, setI_i, popI_i, gSl_l, gSl_t, gSl_scr, dSeq_l, dSeq_t, dSeq_s, cMin2_i, cMax2_i, cEnum_l, cEnum_t, cZip_l, cZip_t, tr_b, tr_i, tr_l, tr_t, tr_n, gIs_n, gIsn_n, isN, lstAt_0, lstAt_s, gAdd_l, gAdd_t, le_sizeP, lt_sizeP, gPow_i, cAll_mb, cAny_mb, w_star, w_tupS, w_lstS, w_star2, w_pkL, w_pkR, slotAt_0, slotAt_s, boolOf_b, w_keysOf, w_itmsOf, w_get1, w_get2, w_dgetO, w_dinO, w_get1O, w_get2O, w_dput, w_callD, dicAt_0, dicAt_s, dicAt_K, dicAt_T, dPs_K, dPs_T, dGet_T2, dGet_Ks, gIxD_T2, gIxD_Ks, dPut_T2, dPut_Ks, Option.isSome_some, Option.isSome_none, dItems_l, dItems_t, gCat_l, starT_c, gRev_ll, gRev_tt, w_raise1, w_raise0, w_try, w_cl0, w_clN, w_clY, xD_0, xD_1, xD_2, xD_3, xD_4, xD_5, xD_6, ↓gIs_x, ↓gIsn_x, slA1, slA2, slA3, slA4, gFld_x, gIsx_x, true_and, and_true, Bool.not_true, Bool.not_false, decide_true, decide_false])
  have hpool : [PyData.str "a", .str "b", .str "cap", .str "floor", .str "start", .str "nought", .str "x", .str "yy", .str "abcdefgh"] = poolS.map .str := rfl
  refine wX_imp (pick_sp (.inl rfl) h (by simpa using hn) (by simp) hm) ?_
  rintro ⟨_, _⟩ ⟨ys, zs, rfl, hp, hlen, d', rfl, hb⟩
  have hall : ∀ y ∈ ys ++ zs, ∃ x : Str, y = PyData.str x := fun y hy => by
    have := hp.mem_iff.mp hy
    rw [hpool] at this
    obtain ⟨x, _, rfl⟩ := List.mem_map.mp this
    exact ⟨x, rfl⟩
  obtain ⟨ts, rfl⟩ := map_of fun y hy => hall y (List.mem_append_left _ hy)
  obtain ⟨rest, rfl⟩ := map_of fun y hy => hall y (List.mem_append_right _ hy)
  (simp (disch := first | omega | (simp only [List.length_cons, List.length_nil, List.length_append, List.length_map, List.length_take, List.length_drop, List.length_reverse, List.length_set]; omega) | decide) only [cSort_strs, wX_ok, wX_exc, wO_some, wO_ite, wIf_true, wIf_false, wIf_not, wF_nx, wF_rt, wF_bk, wF_ct, w_pure, w_bind, w_of, w_m1, w_m2, w_var, w_c, w_truth, w_ite, w_and, w_or, w_not, w_andV, w_orV, w_notV, w_if, w_nil, w_cons, w_tup, w_lst, w_call, w_nx, w_seq, w_drop, w_ret, w_set, w_ifS, w_slot, w_callF, w_callK, w_app2, w_part, w_noPart, w_sl, w_seqOf, w_rng, w_for, w_forL_nil, w_app, w_ixO, w_lenO, w_popAt, w_setIx, w_setV, w_parIx, w_aug, w_par2, w_par3, w_mbind, w_chain, wX_runF, VL.fill, VL.put, outs, startE, wipeE, backE, bindT_nm, bindT_tt, bindT_tl, bindTs_n, bindTs_c, VL.pick, List.filterMap_cons, List.filterMap_nil, List.map_cons, List.map_nil, List.length_cons, List.length_nil, List.replicate, List.cons_append, List.nil_append, List.getElem?_cons_zero, List.getElem?_cons_succ, List.set_cons_zero, List.set_cons_succ, Option.map_some, Option.bind_some, Option.getD_some, Nat.reduceSub, Nat.reduceAdd, Int.cast_ofNat_Int, Int.reduceLT, Int.reduceLE, Int.reduceNeg, Int.reduceEq, gEq_int, gNe_int, gLt_int, gGt_int, gLe_int, gGe_int, gAdd_int, gSub_int, gMul_l, gMul_r, gMod_int, gFdv_int, gNeg_i, cInt_i, cInt_b, cAbs_i, cLen_l, cLen_t, cTup_l, cTup_t, cLst_l, cLst_t, gIx_l, gIx_t, setI_i, popI_i, gSl_l, gSl_t, gSl_scr, dSeq_l, dSeq_t, dSeq_s, cMin2_i, cMax2_i, cEnum_l, cEnum_t, cZip_l, cZip_t, tr_b, tr_i, tr_l, tr_t, tr_n, gIs_n, gIsn_n, isN, lstAt_0, lstAt_s, gAdd_l, gAdd_t, le_sizeP, lt_sizeP, gPow_i, cAll_mb, cAny_mb, w_star, w_tupS, w_lstS, w_star2, w_pkL, w_pkR, slotAt_0, slotAt_s, boolOf_b, w_keysOf, w_itmsOf, w_get1, w_get2, w_dgetO, w_dinO, w_get1O, w_get2O, w_dput, w_callD, dicAt_0, dicAt_s, dicAt_K, dicAt_T, dPs_K, dPs_T, dGet_T2, dGet_Ks, gIxD_T2, gIxD_Ks, dPut_T2, dPut_Ks, Option.isSome_some, Option.isSome_none, dItems_l, dItems_t, gCat_l, starT_c, gRev_ll, gRev_tt, w_raise1, w_raise0, w_try, w_cl0, w_clN, w_clY, xD_0, xD_1, xD_2, xD_3, xD_4, xD_5, xD_6, ↓gIs_x, ↓gIsn_x, slA1, slA2, slA3, slA4, gFld_x, gIsx_x, true_and, and_true, Bool.not_true, Bool.not_false, decide_true, decide_false])
  refine ⟨ts, rest, rfl, ?_, ?_, d', rfl, hb⟩
  · rw [hpool, ← List.map_append] at hp
    have inj : ∀ (l l' : List Str), (l.map PyData.str).Perm (l'.map PyData.str) → l.Perm l' := fun l l' hh => by
      have := hh.map strOf
      rw [List.map_map, List.map_map, show strOf ∘ PyData.str = id from rfl, List.map_id, List.map_id] at this
      exact this
    exact inj _ _ hp
  · rw [List.length_map] at hlen
    exact hlen
inductive Stp where
  | up (n : Int)
  | most (x : Str) (n : Int)
  | least (x : Str) (n : Int)
def Stp.num : Stp → Int
  | .up n => n
  | .most _ n => n
  | .least _ n => n
theorem rng1_nat {k : Nat} (h : k < 2 ^ 60) : rng1 [.int (k : Int)] = some (rng 0 k) := by
  unfold rng1
  have e : lim62 (k : Int) = true := by
    unfold lim62
    simp only [Bool.and_eq_true, decide_eq_true_eq]
    omega
  simp only [e, if_true, Int.toNat_natCast]
theorem rng_len (i : Int) (k : Nat) : (rng i k).length = k := by unfold rng; simp
theorem rng_get {i : Int} {k j : Nat} {d : D} (h : (rng i k)[j]? = some d) : j < k ∧ d = .int (i + (j : Nat)) := by
  have hl : j < k := by
    have := (List.getElem?_eq_some_iff.mp h).1
    rw [rng_len] at this; exact this
  refine ⟨hl, ?_⟩
  unfold rng at h
  rw [List.getElem?_map, List.getElem?_range hl] at h
  exact (Option.some.inj h).symm
end LL
end

set_option maxRecDepth 100000
open PySem VL PyProof.Rows L2 in
local macro_rules
  | `(tactic| simp! only [$as,*]) => `(tactic| simp (disch := first | omega | (simp only [List.length_cons, List.length_nil, List.length_append, List.length_map, List.length_take, List.length_drop, List.length_reverse, List.length_set]; omega) | decide) only [$as,*, wX_ok, wX_exc, wO_some, wO_ite, wIf_true, wIf_false, wIf_not, wF_nx, wF_rt, wF_bk, wF_ct, w_pure, w_bind, w_of, w_m1, w_m2, w_var, w_c, w_truth, w_ite, w_and, w_or, w_not, w_andV, w_orV, w_notV, w_if, w_nil, w_cons, w_tup, w_lst, w_call, w_nx, w_seq, w_drop, w_ret, w_set, w_ifS, w_slot, w_callF, w_callK, w_app2, w_part, w_noPart, w_sl, w_seqOf, w_rng, w_for, w_forL_nil, w_app, w_ixO, w_lenO, w_popAt, w_setIx, w_setV, w_parIx, w_aug, w_par2, w_par3, w_mbind, w_chain, wX_runF, VL.fill, VL.put, outs, startE, wipeE, backE, bindT_nm, bindT_tt, bindT_tl, bindTs_n, bindTs_c, VL.pick, List.filterMap_cons, List.filterMap_nil, List.map_cons, List.map_nil, List.length_cons, List.length_nil, List.replicate, List.cons_append, List.nil_append, List.getElem?_cons_zero, List.getElem?_cons_succ, List.set_cons_zero, List.set_cons_succ, Option.map_some, Option.bind_some, Option.getD_some, Nat.reduceSub, Nat.reduceAdd, Int.cast_ofNat_Int, Int.reduceLT, Int.reduceLE, Int.reduceNeg, Int.reduceEq, gEq_int, gNe_int, gLt_int, gGt_int, gLe_int, gGe_int, gAdd_int, gSub_int, gMul_l, gMul_r, gMod_int, gFdv_int, gNeg_i, cInt_i, cInt_b, cAbs_i, cLen_l, cLen_t, cTup_l, cTup_t, cLst_l, cLst_t, gIx_l, gIx_t, setI_i, popI_i, gSl_l, gSl_t, gSl_scr, dSeq_l, dSeq_t, dSeq_s, cMin2_i, cMax2_i, cEnum_l, cEnum_t, cZip_l, cZip_t, tr_b, tr_i, tr_l, tr_t, tr_n, gIs_n, gIsn_n, isN, lstAt_0, lstAt_s, gAdd_l, gAdd_t, le_sizeP, lt_sizeP, gPow_i, cAll_mb, cAny_mb, w_star, w_tupS, w_lstS, w_star2, w_pkL, w_pkR, slotAt_0, slotAt_s, boolOf_b, w_keysOf, w_itmsOf, w_get1, w_get2, w_dgetO, w_dinO, w_get1O, w_get2O, w_dput, w_callD, dicAt_0, dicAt_s, dicAt_K, dicAt_T, dPs_K, dPs_T, dGet_T2, dGet_Ks, gIxD_T2, gIxD_Ks, dPut_T2, dPut_Ks, Option.isSome_some, Option.isSome_none, dItems_l, dItems_t, gCat_l, starT_c, gRev_ll, gRev_tt, w_raise1, w_raise0, w_try, w_cl0, w_clN, w_clY, xD_0, xD_1, xD_2, xD_3, xD_4, xD_5, xD_6, ↓gIs_x, ↓gIsn_x, slA1, slA2, slA3, slA4, gFld_x, gIsx_x, true_and, and_true, Bool.not_true, Bool.not_false, decide_true, decide_false])
  | `(tactic| simp! only) => `(tactic| simp (disch := first | omega | (simp only [List.length_cons, List.length_nil, List.length_append, List.length_map, List.length_take, List.length_drop, List.length_reverse, List.length_set]; omega) | decide) only [wX_ok, wX_exc, wO_some, wO_ite, wIf_true, wIf_false, wIf_not, wF_nx, wF_rt, wF_bk, wF_ct, w_pure, w_bind, w_of, w_m1, w_m2, w_var, w_c, w_truth, w_ite, w_and, w_or, w_not, w_andV, w_orV, w_notV, w_if, w_nil, w_cons, w_tup, w_lst, w_call, w_nx, w_seq, w_drop, w_ret, w_set, w_ifS, w_slot, w_callF, w_callK, w_app2, w_part, w_noPart, w_sl, w_seqOf, w_rng, w_for, w_forL_nil, w_app, w_ixO, w_lenO, w_popAt, w_setIx, w_setV, w_parIx, w_aug, w_par2, w_par3, w_mbind, w_chain, wX_runF, VL.fill, VL.put, outs, startE, wipeE, backE, bindT_nm, bindT_tt, bindT_tl, bindTs_n, bindTs_c, VL.pick, List.filterMap_cons, List.filterMap_nil, List.map_cons, List.map_nil, List.length_cons, List.length_nil, List.replicate, List.cons_append, List.nil_append, List.getElem?_cons_zero, List.getElem?_cons_succ, List.set_cons_zero, List.set_cons_succ, Option.map_some, Option.bind_some, Option.getD_some, Nat.reduceSub, Nat.reduceAdd, Int.cast_ofNat_Int, Int.reduceLT, Int.reduceLE, Int.reduceNeg, Int.reduceEq, gEq_int, gNe_int, gLt_int, gGt_int, gLe_int, gGe_int, gAdd_int, gSub_int, gMul_l, gMul_r, gMod_int, gFdv_int, gNeg_i, cInt_i, cInt_b, cAbs_i, cLen_l, cLen_t, cTup_l, cTup_t, cLst_l, cLst_t, gIx_l, gIx_t, setI_i, popI_i, gSl_l, gSl_t, gSl_scr, dSeq_l, dSeq_t, dSeq_s, cMin2_i, cMax2_i, cEnum_l, cEnum_t, cZip_l, cZip_t, tr_b, tr_i, tr_l, tr_t, tr_n, gIs_n, gIsn_n, isN, lstAt_0, lstAt_s, gAdd_l, gAdd_t, le_sizeP, lt_sizeP, gPow_i, cAll_mb, cAny_mb, w_star, w_tupS, w_lstS, w_star2, w_pkL, w_pkR, slotAt_0, slotAt_s, boolOf_b, w_keysOf, w_itmsOf, w_get1, w_get2, w_dgetO, w_dinO, w_get1O, w_get2O, w_dput, w_callD, dicAt_0, dicAt_s, dicAt_K, dicAt_T, dPs_K, dPs_T, dGet_T2, dGet_Ks, gIxD_T2, gIxD_Ks, dPut_T2, dPut_Ks, Option.isSome_some, Option.isSome_none, dItems_l, dItems_t, gCat_l, starT_c, gRev_ll, gRev_tt, w_raise1, w_raise0, w_try, w_cl0, w_clN, w_clY, xD_0, xD_1, xD_2, xD_3, xD_4, xD_5, xD_6, ↓gIs_x, ↓gIsn_x, slA1, slA2, slA3, slA4, gFld_x, gIsx_x, true_and, and_true, Bool.not_true, Bool.not_false, decide_true, decide_false])
  | `(tactic| dsimp! only [$as,*]) => `(tactic| simp (disch := first | omega | (simp only [List.length_cons, List.length_nil, List.length_append, List.length_map, List.length_take, List.length_drop, List.length_reverse, List.length_set]; omega) | decide) only [$as,*, wX_ok, wX_exc, wO_some, wO_ite, wIf_true, wIf_false, wIf_not, wF_nx, wF_rt, wF_bk, wF_ct, w_pure, w_bind, w_of, w_m1, w_m2, w_var, w_c, w_truth, w_ite, w_and, w_or, w_not, w_andV, w_orV, w_notV, w_if, w_nil, w_cons, w_tup, w_lst, w_call, w_nx, w_drop, w_ret, w_set, w_ifS, w_slot, w_callF, w_callK, w_app2, w_part, w_noPart, w_sl, w_seqOf, w_rng, w_for, w_forL_nil, w_app, w_ixO, w_lenO, w_popAt, w_setIx, w_setV, w_parIx, w_aug, w_par2, w_par3, w_mbind, w_chain, wX_runF, VL.fill, VL.put, outs, startE, wipeE, backE, bindT_nm, bindT_tt, bindT_tl, bindTs_n, bindTs_c, VL.pick, List.filterMap_cons, List.filterMap_nil, List.map_cons, List.map_nil, List.length_cons, List.length_nil, List.replicate, List.cons_append, List.nil_append, List.getElem?_cons_zero, List.getElem?_cons_succ, List.set_cons_zero, List.set_cons_succ, Option.map_some, Option.bind_some, Option.getD_some, Nat.reduceSub, Nat.reduceAdd, Int.cast_ofNat_Int, Int.reduceLT, Int.reduceLE, Int.reduceNeg, Int.reduceEq, gEq_int, gNe_int, gLt_int, gGt_int, gLe_int, gGe_int, gAdd_int, gSub_int, gMul_l, gMul_r, gMod_int, gFdv_int, gNeg_i, cInt_i, cInt_b, cAbs_i, cLen_l, cLen_t, cTup_l, cTup_t, cLst_l, cLst_t, gIx_l, gIx_t, setI_i, popI_i, gSl_l, gSl_t, gSl_scr, dSeq_l, dSeq_t, dSeq_s, cMin2_i, cMax2_i, cEnum_l, cEnum_t, cZip_l, cZip_t, tr_b, tr_i, tr_l, tr_t, tr_n, gIs_n, gIsn_n, isN, lstAt_0, lstAt_s, gAdd_l, gAdd_t, le_sizeP, lt_sizeP, gPow_i, cAll_mb, cAny_mb, w_star, w_tupS, w_lstS, w_star2, w_pkL, w_pkR, slotAt_0, slotAt_s, boolOf_b, w_keysOf, w_itmsOf, w_get1, w_get2, w_dgetO, w_dinO, w_get1O, w_get2O, w_dput, w_callD, dicAt_0, dicAt_s, dicAt_K, dicAt_T, dPs_K, dPs_T, dGet_T2, dGet_Ks, gIxD_T2, gIxD_Ks, dPut_T2, dPut_Ks, Option.isSome_some, Option.isSome_none, dItems_l, dItems_t, gCat_l, starT_c, gRev_ll, gRev_tt, w_raise1, w_raise0, w_try, w_cl0, w_clN, w_clY, xD_0, xD_1, xD_2, xD_3, xD_4, xD_5, xD_6, ↓gIs_x, ↓gIsn_x, slA1, slA2, slA3, slA4, gFld_x, gIsx_x, true_and, and_true, Bool.not_true, Bool.not_false, decide_true, decide_false])
  | `(tactic| dsimp! only) => `(tactic| simp (disch := first | omega | (simp only [List.length_cons, List.length_nil, List.length_append, List.length_map, List.length_take, List.length_drop, List.length_reverse, List.length_set]; omega) | decide) only [wX_ok, wX_exc, wO_some, wO_ite, wIf_true, wIf_false, wIf_not, wF_nx, wF_rt, wF_bk, wF_ct, w_pure, w_bind, w_of, w_m1, w_m2, w_var, w_c, w_truth, w_ite, w_and, w_or, w_not, w_andV, w_orV, w_notV, w_if, w_nil, w_cons, w_tup, w_lst, w_call, w_nx, w_drop, w_ret, w_set, w_ifS, w_slot, w_callF, w_callK, w_app2, w_part, w_noPart, w_sl, w_seqOf, w_rng, w_for, w_forL_nil, w_app, w_ixO, w_lenO, w_popAt, w_setIx, w_setV, w_parIx, w_aug, w_par2, w_par3, w_mbind, w_chain, wX_runF, VL.fill, VL.put, outs, startE, wipeE, backE, bindT_nm, bindT_tt, bindT_tl, bindTs_n, bindTs_c, VL.pick, List.filterMap_cons, List.filterMap_nil, List.map_cons, List.map_nil, List.length_cons, List.length_nil, List.replicate, List.cons_append, List.nil_append, List.getElem?_cons_zero, List.getElem?_cons_succ, List.set_cons_zero, List.set_cons_succ, Option.map_some, Option.bind_some, Option.getD_some, Nat.reduceSub, Nat.reduceAdd, Int.cast_ofNat_Int, Int.reduceLT, Int.reduceLE, Int.reduceNeg, Int.reduceEq, gEq_int, gNe_int, gLt_int, gGt_int, gLe_int, gGe_int, gAdd_int, gSub_int, gMul_l, gMul_r, gMod_int, gFdv_int, gNeg_i, cInt_i, cInt_b, cAbs_i, cLen_l, cLen_t, cTup_l, cTup_t, cLst_l, cLst_t, gIx_l, gIx_t, setI_i, popI_i, gSl_l, gSl_t, gSl_scr, dSeq_l, dSeq_t, dSeq_s, cMin2_i, cMax2_i, cEnum_l, cEnum_t, cZip_l, cZip_t, tr_b, tr_i, tr_l, tr_t, tr_n, gIs_n, gIsn_n, isN, lstAt_0, lstAt_s, gAdd_l, gAdd_t, le_sizeP, lt_sizeP, gPow_i, cAll_mb, cAny_mb, w_star, w_tupS, w_lstS, w_star2, w_pkL, w_pkR, slotAt_0, slotAt_s, boolOf_b, w_keysOf, w_itmsOf, w_get1, w_get2, w_dgetO, w_dinO, w_get1O, w_get2O, w_dput, w_callD, dicAt_0, dicAt_s, dicAt_K, dicAt_T, dPs_K, dPs_T, dGet_T2, dGet_Ks, gIxD_T2, gIxD_Ks, dPut_T2, dPut_Ks, Option.isSome_some, Option.isSome_none, dItems_l, dItems_t, gCat_l, starT_c, gRev_ll, gRev_tt, w_raise1, w_raise0, w_try, w_cl0, w_clN, w_clY, xD_0, xD_1, xD_2, xD_3, xD_4, xD_5, xD_6, ↓gIs_x, ↓gIsn_x, slA1, slA2, slA3, slA4, gFld_x, gIsx_x, true_and, and_true, Bool.not_true, Bool.not_false, decide_true, decide_false])
  | `(tactic| simp_all! only [$as,*]) => `(tactic| simp (disch := first | omega | (simp only [List.length_cons, List.length_nil, List.length_append, List.length_map, List.length_take, List.length_drop, List.length_reverse, List.length_set]; omega) | decide) only [$as,*, wX_ok, wX_exc, wO_some, wO_ite, wIf_true, wIf_false, wIf_not, wF_nx, wF_rt, wF_bk, wF_ct, w_pure, w_bind, w_of, w_m1, w_m2, w_var, w_c, w_truth, w_ite, w_and, w_or, w_not, w_andV, w_orV, w_notV, w_if, w_nil, w_cons, w_tup, w_lst, w_call, w_nx, w_seq, w_drop, w_ret, w_set, w_ifS, w_slot, w_callF, w_callK, w_app2, w_part, w_noPart, w_sl, w_seqOf, w_rng, w_for, w_forL_nil, w_app, w_ixO, w_lenO, w_popAt, w_setIx, w_setV, w_parIx, w_aug, w_par2, w_par3, w_mbind, w_chain, wX_runF, VL.fill, VL.put, outs, startE, wipeE, backE, bindT_nm, bindT_tt, bindT_tl, bindTs_n, bindTs_c, VL.pick, List.filterMap_cons, List.filterMap_nil, List.map_cons, List.map_nil, List.length_cons, List.length_nil, List.replicate, List.cons_append, List.nil_append, List.getElem?_cons_zero, List.getElem?_cons_succ, List.set_cons_zero, List.set_cons_succ, Option.map_some, Option.bind_some, Option.getD_some, Nat.reduceSub, Nat.reduceAdd, Int.cast_ofNat_Int, Int.reduceLT, Int.reduceLE, Int.reduceNeg, Int.reduceEq, gEq_int, gNe_int, gLt_int, gGt_int, gLe_int, gGe_int, gAdd_int, gSub_int, gMul_l, gMul_r, gMod_int, gFdv_int, gNeg_i, cInt_i, cInt_b, cAbs_i, cLen_l, cLen_t, cTup_l, cTup_t, cLst_l, cLst_t, gIx_l, gIx_t, setI_i, popI_i, gSl_l, gSl_t, gSl_scr, dSeq_l, dSeq_t, dSeq_s, cMin2_i, cMax2_i, cEnum_l, cEnum_t, cZip_l, cZip_t, tr_b, tr_i, tr_l, tr_t, tr_n, gIs_n, gIsn_n, isN, lstAt_0, lstAt_s, gAdd_l, gAdd_t, le_sizeP, lt_sizeP, gPow_i, cAll_mb, cAny_mb, w_star, w_tupS, w_lstS, w_star2, w_pkL, w_pkR, slotAt_0, slotAt_s, boolOf_b, w_keysOf, w_itmsOf, w_get1, w_get2, w_dgetO, w_dinO, w_get1O, w_get2O, w_dput, w_callD, dicAt_0, dicAt_s, dicAt_K, dicAt_T, dPs_K, dPs_T, dGet_T2, dGet_Ks, gIxD_T2, gIxD_Ks, dPut_T2, dPut_Ks, Option.isSome_some, Option.isSome_none, dItems_l, dItems_t, gCat_l, starT_c, gRev_ll, gRev_tt, w_raise1, w_raise0, w_try, w_cl0, w_clN, w_clY, xD_0, xD_1, xD_2, xD_3, xD_4, xD_5, xD_6, ↓gIs_x, ↓gIsn_x, slA1, slA2, slA3, slA4, gFld_x, gIsx_x, true_and, and_true, Bool.not_true, Bool.not_false, decide_true, decide_false, isi_int_non, isi_int_bl, isi_int_int, isi_int_str, isi_int_lst, isi_int_tup, isi_str_non, isi_str_bl, isi_str_int, isi_str_str, isi_str_lst, isi_str_tup, isi_bool_non, isi_bool_bl, isi_bool_int, isi_bool_str, isi_bool_lst, isi_bool_tup, isi_list_non, isi_list_bl, isi_list_int, isi_list_str, isi_list_lst, isi_list_tup, isi_tuple_non, isi_tuple_bl, isi_tuple_int, isi_tuple_str, isi_tuple_lst, isi_tuple_tup, isi_dict_non, isi_dict_bl, isi_dict_int, isi_dict_str, isi_dict_lst, isi_dict_tup, isi_list_tuple_non, isi_list_tuple_bl, isi_list_tuple_int, isi_list_tuple_str, isi_list_tuple_lst, isi_list_tuple_tup, isi_bool_str_non, isi_bool_str_bl, isi_bool_str_int, isi_bool_str_str, isi_bool_str_lst, isi_bool_str_tup])
  | `(tactic| simp_all! only) => `(tactic| simp (disch := first | omega | (simp only [List.length_cons, List.length_nil, List.length_append, List.length_map, List.length_take, List.length_drop, List.length_reverse, List.length_set]; omega) | decide) only [wX_ok, wX_exc, wO_some, wO_ite, wIf_true, wIf_false, wIf_not, wF_nx, wF_rt, wF_bk, wF_ct, w_pure, w_bind, w_of, w_m1, w_m2, w_var, w_c, w_truth, w_ite, w_and, w_or, w_not, w_andV, w_orV, w_notV, w_if, w_nil, w_cons, w_tup, w_lst, w_call, w_nx, w_seq, w_drop, w_ret, w_set, w_ifS, w_slot, w_callF, w_callK, w_app2, w_part, w_noPart, w_sl, w_seqOf, w_rng, w_for, w_forL_nil, w_app, w_ixO, w_lenO, w_popAt, w_setIx, w_setV, w_parIx, w_aug, w_par2, w_par3, w_mbind, w_chain, wX_runF, VL.fill, VL.put, outs, startE, wipeE, backE, bindT_nm, bindT_tt, bindT_tl, bindTs_n, bindTs_c, VL.pick, List.filterMap_cons, List.filterMap_nil, List.map_cons, List.map_nil, List.length_cons, List.length_nil, List.replicate, List.cons_append, List.nil_append, List.getElem?_cons_zero, List.getElem?_cons_succ, List.set_cons_zero, List.set_cons_succ, Option.map_some, Option.bind_some, Option.getD_some, Nat.reduceSub, Nat.reduceAdd, Int.cast_ofNat_Int, Int.reduceLT, Int.reduceLE, Int.reduceNeg, Int.reduceEq, gEq_int, gNe_int, gLt_int, gGt_int, gLe_int, gGe_int, gAdd_int, gSub_int, gMul_l, gMul_r, gMod_int, gFdv_int, gNeg_i, cInt_i, cInt_b, cAbs_i, cLen_l, cLen_t, cTup_l, cTup_t, cLst_l, cLst_t, gIx_l, gIx_t, setI_i, popI_i, gSl_l, gSl_t, gSl_scr, dSeq_l, dSeq_t, dSeq_s, cMin2_i, cMax2_i, cEnum_l, cEnum_t, cZip_l, cZip_t, tr_b, tr_i, tr_l, tr_t, tr_n, gIs_n, gIsn_n, isN, lstAt_0, lstAt_s, gAdd_l, gAdd_t, le_sizeP, lt_sizeP, gPow_i, cAll_mb, cAny_mb, w_star, w_tupS, w_lstS, w_star2, w_pkL, w_pkR, slotAt_0, slotAt_s, boolOf_b, w_keysOf, w_itmsOf, w_get1, w_get2, w_dgetO, w_dinO, w_get1O, w_get2O, w_dput, w_callD, dicAt_0, dicAt_s, dicAt_K, dicAt_T, dPs_K, dPs_T, dGet_T2, dGet_Ks, gIxD_T2, gIxD_Ks, dPut_T2, dPut_Ks, Option.isSome_some, Option.isSome_none, dItems_l, dItems_t, gCat_l, starT_c, gRev_ll, gRev_tt, w_raise1, w_raise0, w_try, w_cl0, w_clN, w_clY, xD_0, xD_1, xD_2, xD_3, xD_4, xD_5, xD_6, ↓gIs_x, ↓gIsn_x, slA1, slA2, slA3, slA4, gFld_x, gIsx_x, true_and, and_true, Bool.not_true, Bool.not_false, decide_true, decide_false, isi_int_non, isi_int_bl, isi_int_int, isi_int_str, isi_int_lst, isi_int_tup, isi_str_non, isi_str_bl, isi_str_int, isi_str_str, isi_str_lst, isi_str_tup, isi_bool_non, isi_bool_bl, isi_bool_int, isi_bool_str, isi_bool_lst, isi_bool_tup, isi_list_non, isi_list_bl, isi_list_int, isi_list_str, isi_list_lst, isi_list_tup, isi_tuple_non, isi_tuple_bl, isi_tuple_int, isi_tuple_str, isi_tuple_lst, isi_tuple_tup, isi_dict_non, isi_dict_bl, isi_dict_int, isi_dict_str, isi_dict_lst, isi_dict_tup, isi_list_tuple_non, isi_list_tuple_bl, isi_list_tuple_int, isi_list_tuple_str, isi_list_tuple_lst, isi_list_tuple_tup, isi_bool_str_non, isi_bool_str_bl, isi_bool_str_int, isi_bool_str_str, isi_bool_str_lst, isi_bool_str_tup])
  | `(tactic| simp_all_arith! only [$as,*]) => `(tactic| simp (disch := first | omega | (simp only [List.length_cons, List.length_nil, List.length_append, List.length_map, List.length_take, List.length_drop, List.length_reverse, List.length_set]; omega) | decide) only [$as,*, wX_ok, wX_exc, wO_some, wO_ite, wIf_true, wIf_false, wIf_not, wF_nx, wF_rt, wF_bk, wF_ct, w_pure, w_bind, w_of, w_m1, w_m2, w_var, w_c, w_truth, w_ite, w_and, w_or, w_not, w_andV, w_orV, w_notV, w_if, w_nil, w_cons, w_tup, w_lst, w_call, w_nx, w_drop, w_ret, w_set, w_ifS, w_slot, w_callF, w_callK, w_app2, w_part, w_noPart, w_sl, w_seqOf, w_rng, w_for, w_forL_nil, w_app, w_ixO, w_lenO, w_popAt, w_setIx, w_setV, w_parIx, w_aug, w_par2, w_par3, w_mbind, w_chain, wX_runF, VL.fill, VL.put, outs, startE, wipeE, backE, bindT_nm, bindT_tt, bindT_tl, bindTs_n, bindTs_c, VL.pick, List.filterMap_cons, List.filterMap_nil, List.map_cons, List.map_nil, List.length_cons, List.length_nil, List.replicate, List.cons_append, List.nil_append, List.getElem?_cons_zero, List.getElem?_cons_succ, List.set_cons_zero, List.set_cons_succ, Option.map_some, Option.bind_some, Option.getD_some, Nat.reduceSub, Nat.reduceAdd, Int.cast_ofNat_Int, Int.reduceLT, Int.reduceLE, Int.reduceNeg, Int.reduceEq, gEq_int, gNe_int, gLt_int, gGt_int, gLe_int, gGe_int, gAdd_int, gSub_int, gMul_l, gMul_r, gMod_int, gFdv_int, gNeg_i, cInt_i, cInt_b, cAbs_i, cLen_l, cLen_t, cTup_l, cTup_t, cLst_l, cLst_t, gIx_l, gIx_t, setI_i, popI_i, gSl_l, gSl_t, gSl_scr, dSeq_l, dSeq_t, dSeq_s, cMin2_i, cMax2_i, cEnum_l, cEnum_t, cZip_l, cZip_t, tr_b, tr_i, tr_l, tr_t, tr_n, gIs_n, gIsn_n, isN, lstAt_0, lstAt_s, gAdd_l, gAdd_t, le_sizeP, lt_sizeP, gPow_i, cAll_mb, cAny_mb, w_star, w_tupS, w_lstS, w_star2, w_pkL, w_pkR, slotAt_0, slotAt_s, boolOf_b, w_keysOf, w_itmsOf, w_get1, w_get2, w_dgetO, w_dinO, w_get1O, w_get2O, w_dput, w_callD, dicAt_0, dicAt_s, dicAt_K, dicAt_T, dPs_K, dPs_T, dGet_T2, dGet_Ks, gIxD_T2, gIxD_Ks, dPut_T2, dPut_Ks, Option.isSome_some, Option.isSome_none, dItems_l, dItems_t, gCat_l, starT_c, gRev_ll, gRev_tt, w_raise1, w_raise0, w_try, w_cl0, w_clN, w_clY, xD_0, xD_1, xD_2, xD_3, xD_4, xD_5, xD_6, ↓gIs_x, ↓gIsn_x, slA1, slA2, slA3, slA4, gFld_x, gIsx_x, true_and, and_true, Bool.not_true, Bool.not_false, decide_true, decide_false, isi_int_non, isi_int_bl, isi_int_int, isi_int_str, isi_int_lst, isi_int_tup, isi_str_non, isi_str_bl, isi_str_int, isi_str_str, isi_str_lst, isi_str_tup, isi_bool_non, isi_bool_bl, isi_bool_int, isi_bool_str, isi_bool_lst, isi_bool_tup, isi_list_non, isi_list_bl, isi_list_int, isi_list_str, isi_list_lst, isi_list_tup, isi_tuple_non, isi_tuple_bl, isi_tuple_int, isi_tuple_str, isi_tuple_lst, isi_tuple_tup, isi_dict_non, isi_dict_bl, isi_dict_int, isi_dict_str, isi_dict_lst, isi_dict_tup, isi_list_tuple_non, isi_list_tuple_bl, isi_list_tuple_int, isi_list_tuple_str, isi_list_tuple_lst, isi_list_tuple_tup, isi_bool_str_non, isi_bool_str_bl, isi_bool_str_int, isi_bool_str_str, isi_bool_str_lst, isi_bool_str_tup])
  | `(tactic| simp_all_arith! only) => `(tactic| simp (disch := first | omega | (simp only [List.length_cons, List.length_nil, List.length_append, List.length_map, List.length_take, List.length_drop, List.length_reverse, List.length_set]; omega) | decide) only [wX_ok, wX_exc, wO_some, wO_ite, wIf_true, wIf_false, wIf_not, wF_nx, wF_rt, wF_bk, wF_ct, w_pure, w_bind, w_of, w_m1, w_m2, w_var, w_c, w_truth, w_ite, w_and, w_or, w_not, w_andV, w_orV, w_notV, w_if, w_nil, w_cons, w_tup, w_lst, w_call, w_nx, w_drop, w_ret, w_set, w_ifS, w_slot, w_callF, w_callK, w_app2, w_part, w_noPart, w_sl, w_seqOf, w_rng, w_for, w_forL_nil, w_app, w_ixO, w_lenO, w_popAt, w_setIx, w_setV, w_parIx, w_aug, w_par2, w_par3, w_mbind, w_chain, wX_runF, VL.fill, VL.put, outs, startE, wipeE, backE, bindT_nm, bindT_tt, bindT_tl, bindTs_n, bindTs_c, VL.pick, List.filterMap_cons, List.filterMap_nil, List.map_cons, List.map_nil, List.length_cons, List.length_nil, List.replicate, List.cons_append, List.nil_append, List.getElem?_cons_zero, List.getElem?_cons_succ, List.set_cons_zero, List.set_cons_succ, Option.map_some, Option.bind_some, Option.getD_some, Nat.reduceSub, Nat.reduceAdd, Int.cast_ofNat_Int, Int.reduceLT, Int.reduceLE, Int.reduceNeg, Int.reduceEq, gEq_int, gNe_int, gLt_int, gGt_int, gLe_int, gGe_int, gAdd_int, gSub_int, gMul_l, gMul_r, gMod_int, gFdv_int, gNeg_i, cInt_i, cInt_b, cAbs_i, cLen_l, cLen_t, cTup_l, cTup_t, cLst_l, cLst_t, gIx_l, gIx_t, setI_i, popI_i, gSl_l, gSl_t, gSl_scr, dSeq_l, dSeq_t, dSeq_s, cMin2_i, cMax2_i, cEnum_l, cEnum_t, cZip_l, cZip_t, tr_b, tr_i, tr_l, tr_t, tr_n, gIs_n, gIsn_n, isN, lstAt_0, lstAt_s, gAdd_l, gAdd_t, le_sizeP, lt_sizeP, gPow_i, cAll_mb, cAny_mb, w_star, w_tupS, w_lstS, w_star2, w_pkL, w_pkR, slotAt_0, slotAt_s, boolOf_b, w_keysOf, w_itmsOf, w_get1, w_get2, w_dgetO, w_dinO, w_get1O, w_get2O, w_dput, w_callD, dicAt_0, dicAt_s, dicAt_K, dicAt_T, dPs_K, dPs_T, dGet_T2, dGet_Ks, gIxD_T2, gIxD_Ks, dPut_T2, dPut_Ks, Option.isSome_some, Option.isSome_none, dItems_l, dItems_t, gCat_l, starT_c, gRev_ll, gRev_tt, w_raise1, w_raise0, w_try, w_cl0, w_clN, w_clY, xD_0, xD_1, xD_2, xD_3, xD_4, xD_5, xD_6, ↓gIs_x, ↓gIsn_x, slA1, slA2, slA3, slA4, gFld_x, gIsx_x, true_and, and_true, Bool.not_true, Bool.not_false, decide_true, decide_false, isi_int_non, isi_int_bl, isi_int_int, isi_int_str, isi_int_lst, isi_int_tup, isi_str_non, isi_str_bl, isi_str_int, isi_str_str, isi_str_lst, isi_str_tup, isi_bool_non, isi_bool_bl, isi_bool_int, isi_bool_str, isi_bool_lst, isi_bool_tup, isi_list_non, isi_list_bl, isi_list_int, isi_list_str, isi_list_lst, isi_list_tup, isi_tuple_non, isi_tuple_bl, isi_tuple_int, isi_tuple_str, isi_tuple_lst, isi_tuple_tup, isi_dict_non, isi_dict_bl, isi_dict_int, isi_dict_str, isi_dict_lst, isi_dict_tup, isi_list_tuple_non, isi_list_tuple_bl, isi_list_tuple_int, isi_list_tuple_str, isi_list_tuple_lst, isi_list_tuple_tup, isi_bool_str_non, isi_bool_str_bl, isi_bool_str_int, isi_bool_str_str, isi_bool_str_lst, isi_bool_str_tup])
  | `(tactic| simp?! only [$as,*]) => `(tactic| try simp (disch := first | omega | (simp only [List.length_cons, List.length_nil, List.length_append, List.length_map, List.length_take, List.length_drop, List.length_reverse, List.length_set]; omega) | decide) only [$as,*, wX_ok, wX_exc, wO_some, wO_ite, wIf_true, wIf_false, wIf_not, wF_nx, wF_rt, wF_bk, wF_ct, w_pure, w_bind, w_of, w_m1, w_m2, w_var, w_c, w_truth, w_ite, w_and, w_or, w_not, w_andV, w_orV, w_notV, w_if, w_nil, w_cons, w_tup, w_lst, w_call, w_nx, w_seq, w_drop, w_ret, w_set, w_ifS, w_slot, w_callF, w_callK, w_app2, w_part, w_noPart, w_sl, w_seqOf, w_rng, w_for, w_forL_nil, w_app, w_ixO, w_lenO, w_popAt, w_setIx, w_setV, w_parIx, w_aug, w_par2, w_par3, w_mbind, w_chain, wX_runF, VL.fill, VL.put, outs, startE, wipeE, backE, bindT_nm, bindT_tt, bindT_tl, bindTs_n, bindTs_c, VL.pick, List.filterMap_cons, List.filterMap_nil, List.map_cons, List.map_nil, List.length_cons, List.length_nil, List.replicate, List.cons_append, List.nil_append, List.getElem?_cons_zero, List.getElem?_cons_succ, List.set_cons_zero, List.set_cons_succ, Option.map_some, Option.bind_some, Option.getD_some, Nat.reduceSub, Nat.reduceAdd, Int.cast_ofNat_Int, Int.reduceLT, Int.reduceLE, Int.reduceNeg, Int.reduceEq, gEq_int, gNe_int, gLt_int, gGt_int, gLe_int, gGe_int, gAdd_int, gSub_int, gMul_l, gMul_r, gMod_int, gFdv_int, gNeg_i, cInt_i, cInt_b, cAbs_i, cLen_l, cLen_t, cTup_l, cTup_t, cLst_l, cLst_t, gIx_l, gIx_t, setI_i, popI_i, gSl_l, gSl_t, gSl_scr, dSeq_l, dSeq_t, dSeq_s, cMin2_i, cMax2_i, cEnum_l, cEnum_t, cZip_l, cZip_t, tr_b, tr_i, tr_l, tr_t, tr_n, gIs_n, gIsn_n, isN, lstAt_0, lstAt_s, gAdd_l, gAdd_t, le_sizeP, lt_sizeP, gPow_i, cAll_mb, cAny_mb, w_star, w_tupS, w_lstS, w_star2, w_pkL, w_pkR, slotAt_0, slotAt_s, boolOf_b, w_keysOf, w_itmsOf, w_get1, w_get2, w_dgetO, w_dinO, w_get1O, w_get2O, w_dput, w_callD, dicAt_0, dicAt_s, dicAt_K, dicAt_T, dPs_K, dPs_T, dGet_T2, dGet_Ks, gIxD_T2, gIxD_Ks, dPut_T2, dPut_Ks, Option.isSome_some, Option.isSome_none, dItems_l, dItems_t, gCat_l, starT_c, gRev_ll, gRev_tt, w_raise1, w_raise0, w_try, w_cl0, w_clN, w_clY, xD_0, xD_1, xD_2, xD_3, xD_4, xD_5, xD_6, ↓gIs_x, ↓gIsn_x, slA1, slA2, slA3, slA4, gFld_x, gIsx_x, true_and, and_true, Bool.not_true, Bool.not_false, decide_true, decide_false])
  | `(tactic| simp?! only) => `(tactic| try simp (disch := first | omega | (simp only [List.length_cons, List.length_nil, List.length_append, List.length_map, List.length_take, List.length_drop, List.length_reverse, List.length_set]; omega) | decide) only [wX_ok, wX_exc, wO_some, wO_ite, wIf_true, wIf_false, wIf_not, wF_nx, wF_rt, wF_bk, wF_ct, w_pure, w_bind, w_of, w_m1, w_m2, w_var, w_c, w_truth, w_ite, w_and, w_or, w_not, w_andV, w_orV, w_notV, w_if, w_nil, w_cons, w_tup, w_lst, w_call, w_nx, w_seq, w_drop, w_ret, w_set, w_ifS, w_slot, w_callF, w_callK, w_app2, w_part, w_noPart, w_sl, w_seqOf, w_rng, w_for, w_forL_nil, w_app, w_ixO, w_lenO, w_popAt, w_setIx, w_setV, w_parIx, w_aug, w_par2, w_par3, w_mbind, w_chain, wX_runF, VL.fill, VL.put, outs, startE, wipeE, backE, bindT_nm, bindT_tt, bindT_tl, bindTs_n, bindTs_c, VL.pick, List.filterMap_cons, List.filterMap_nil, List.map_cons, List.map_nil, List.length_cons, List.length_nil, List.replicate, List.cons_append, List.nil_append, List.getElem?_cons_zero, List.getElem?_cons_succ, List.set_cons_zero, List.set_cons_succ, Option.map_some, Option.bind_some, Option.getD_some, Nat.reduceSub, Nat.reduceAdd, Int.cast_ofNat_Int, Int.reduceLT, Int.reduceLE, Int.reduceNeg, Int.reduceEq, gEq_int, gNe_int, gLt_int, gGt_int, gLe_int, gGe_int, gAdd_int, gSub_int, gMul_l, gMul_r, gMod_int, gFdv_int, gNeg_i, cInt_i, cInt_b, cAbs_i, cLen_l, cLen_t, cTup_l, cTup_t, cLst_l, cLst_t, gIx_l, gIx_t, setI_i, popI_i, gSl_l, gSl_t, gSl_scr, dSeq_l, dSeq_t, dSeq_s, cMin2_i, cMax2_i, cEnum_l, cEnum_t, cZip_l, cZip_t, tr_b, tr_i, tr_l, tr_t, tr_n, gIs_n, gIsn_n, isN, lstAt_0, lstAt_s, gAdd_l, gAdd_t, le_sizeP, lt_sizeP, gPow_i, cAll_mb, cAny_mb, w_star, w_tupS, w_lstS, w_star2, w_pkL, w_pkR, slotAt_0, slotAt_s, boolOf_b, w_keysOf, w_itmsOf, w_get1, w_get2, w_dgetO, w_dinO, w_get1O, w_get2O, w_dput, w_callD, dicAt_0, dicAt_s, dicAt_K, dicAt_T, dPs_K, dPs_T, dGet_T2, dGet_Ks, gIxD_T2, gIxD_Ks, dPut_T2, dPut_Ks, Option.isSome_some, Option.isSome_none, dItems_l, dItems_t, gCat_l, starT_c, gRev_ll, gRev_tt, w_raise1, w_raise0, w_try, w_cl0, w_clN, w_clY, xD_0, xD_1, xD_2, xD_3, xD_4, xD_5, xD_6, ↓gIs_x, ↓gIsn_x, slA1, slA2, slA3, slA4, gFld_x, gIsx_x, true_and, and_true, Bool.not_true, Bool.not_false, decide_true, decide_false])
  | `(tactic| dsimp?! only [$as,*]) => `(tactic| try simp (disch := first | omega | (simp only [List.length_cons, List.length_nil, List.length_append, List.length_map, List.length_take, List.length_drop, List.length_reverse, List.length_set]; omega) | decide) only [$as,*, wX_ok, wX_exc, wO_some, wO_ite, wIf_true, wIf_false, wIf_not, wF_nx, wF_rt, wF_bk, wF_ct, w_pure, w_bind, w_of, w_m1, w_m2, w_var, w_c, w_truth, w_ite, w_and, w_or, w_not, w_andV, w_orV, w_notV, w_if, w_nil, w_cons, w_tup, w_lst, w_call, w_nx, w_drop, w_ret, w_set, w_ifS, w_slot, w_callF, w_callK, w_app2, w_part, w_noPart, w_sl, w_seqOf, w_rng, w_for, w_forL_nil, w_app, w_ixO, w_lenO, w_popAt, w_setIx, w_setV, w_parIx, w_aug, w_par2, w_par3, w_mbind, w_chain, wX_runF, VL.fill, VL.put, outs, startE, wipeE, backE, bindT_nm, bindT_tt, bindT_tl, bindTs_n, bindTs_c, VL.pick, List.filterMap_cons, List.filterMap_nil, List.map_cons, List.map_nil, List.length_cons, List.length_nil, List.replicate, List.cons_append, List.nil_append, List.getElem?_cons_zero, List.getElem?_cons_succ, List.set_cons_zero, List.set_cons_succ, Option.map_some, Option.bind_some, Option.getD_some, Nat.reduceSub, Nat.reduceAdd, Int.cast_ofNat_Int, Int.reduceLT, Int.reduceLE, Int.reduceNeg, Int.reduceEq, gEq_int, gNe_int, gLt_int, gGt_int, gLe_int, gGe_int, gAdd_int, gSub_int, gMul_l, gMul_r, gMod_int, gFdv_int, gNeg_i, cInt_i, cInt_b, cAbs_i, cLen_l, cLen_t, cTup_l, cTup_t, cLst_l, cLst_t, gIx_l, gIx_t, setI_i, popI_i, gSl_l, gSl_t, gSl_scr, dSeq_l, dSeq_t, dSeq_s, cMin2_i, cMax2_i, cEnum_l, cEnum_t, cZip_l, cZip_t, tr_b, tr_i, tr_l, tr_t, tr_n, gIs_n, gIsn_n, isN, lstAt_0, lstAt_s, gAdd_l, gAdd_t, le_sizeP, lt_sizeP, gPow_i, cAll_mb, cAny_mb, w_star, w_tupS, w_lstS, w_star2, w_pkL, w_pkR, slotAt_0, slotAt_s, boolOf_b, w_keysOf, w_itmsOf, w_get1, w_get2, w_dgetO, w_dinO, w_get1O, w_get2O, w_dput, w_callD, dicAt_0, dicAt_s, dicAt_K, dicAt_T, dPs_K, dPs_T, dGet_T2, dGet_Ks, gIxD_T2, gIxD_Ks, dPut_T2, dPut_Ks, Option.isSome_some, Option.isSome_none, dItems_l, dItems_t, gCat_l, starT_c, gRev_ll, gRev_tt, w_raise1, w_raise0, w_try, w_cl0, w_clN, w_clY, xD_0, xD_1, xD_2, xD_3, xD_4, xD_5, xD_6, ↓gIs_x, ↓gIsn_x, slA1, slA2, slA3, slA4, gFld_x, gIsx_x, true_and, and_true, Bool.not_true, Bool.not_false, decide_true, decide_false])
  | `(tactic| dsimp?! only) => `(tactic| try simp (disch := first | omega | (simp only [List.length_cons, List.length_nil, List.length_append, List.length_map, List.length_take, List.length_drop, List.length_reverse, List.length_set]; omega) | decide) only [wX_ok, wX_exc, wO_some, wO_ite, wIf_true, wIf_false, wIf_not, wF_nx, wF_rt, wF_bk, wF_ct, w_pure, w_bind, w_of, w_m1, w_m2, w_var, w_c, w_truth, w_ite, w_and, w_or, w_not, w_andV, w_orV, w_notV, w_if, w_nil, w_cons, w_tup, w_lst, w_call, w_nx, w_drop, w_ret, w_set, w_ifS, w_slot, w_callF, w_callK, w_app2, w_part, w_noPart, w_sl, w_seqOf, w_rng, w_for, w_forL_nil, w_app, w_ixO, w_lenO, w_popAt, w_setIx, w_setV, w_parIx, w_aug, w_par2, w_par3, w_mbind, w_chain, wX_runF, VL.fill, VL.put, outs, startE, wipeE, backE, bindT_nm, bindT_tt, bindT_tl, bindTs_n, bindTs_c, VL.pick, List.filterMap_cons, List.filterMap_nil, List.map_cons, List.map_nil, List.length_cons, List.length_nil, List.replicate, List.cons_append, List.nil_append, List.getElem?_cons_zero, List.getElem?_cons_succ, List.set_cons_zero, List.set_cons_succ, Option.map_some, Option.bind_some, Option.getD_some, Nat.reduceSub, Nat.reduceAdd, Int.cast_ofNat_Int, Int.reduceLT, Int.reduceLE, Int.reduceNeg, Int.reduceEq, gEq_int, gNe_int, gLt_int, gGt_int, gLe_int, gGe_int, gAdd_int, gSub_int, gMul_l, gMul_r, gMod_int, gFdv_int, gNeg_i, cInt_i, cInt_b, cAbs_i, cLen_l, cLen_t, cTup_l, cTup_t, cLst_l, cLst_t, gIx_l, gIx_t, setI_i, popI_i, gSl_l, gSl_t, gSl_scr, dSeq_l, dSeq_t, dSeq_s, cMin2_i, cMax2_i, cEnum_l, cEnum_t, cZip_l, cZip_t, tr_b, tr_i, tr_l, tr_t, tr_n, gIs_n, gIsn_n, isN, lstAt_0, lstAt_s, gAdd_l, gAdd_t, le_sizeP, lt_sizeP, gPow_i, cAll_mb, cAny_mb, w_star, w_tupS, w_lstS, w_star2, w_pkL, w_pkR, slotAt_0, slotAt_s, boolOf_b, w_keysOf, w_itmsOf, w_get1, w_get2, w_dgetO, w_dinO, w_get1O, w_get2O, w_dput, w_callD, dicAt_0, dicAt_s, dicAt_K, dicAt_T, dPs_K, dPs_T, dGet_T2, dGet_Ks, gIxD_T2, gIxD_Ks, dPut_T2, dPut_Ks, Option.isSome_some, Option.isSome_none, dItems_l, dItems_t, gCat_l, starT_c, gRev_ll, gRev_tt, w_raise1, w_raise0, w_try, w_cl0, w_clN, w_clY, xD_0, xD_1, xD_2, xD_3, xD_4, xD_5, xD_6, ↓gIs_x, ↓gIsn_x, slA1, slA2, slA3, slA4, gFld_x, gIsx_x, true_and, and_true, Bool.not_true, Bool.not_false, decide_true, decide_false])
  | `(tactic| simp_all?! only [$as,*]) => `(tactic| try simp (disch := first | omega | (simp only [List.length_cons, List.length_nil, List.length_append, List.length_map, List.length_take, List.length_drop, List.length_reverse, List.length_set]; omega) | decide) only [$as,*, wX_ok, wX_exc, wO_some, wO_ite, wIf_true, wIf_false, wIf_not, wF_nx, wF_rt, wF_bk, wF_ct, w_pure, w_bind, w_of, w_m1, w_m2, w_var, w_c, w_truth, w_ite, w_and, w_or, w_not, w_andV, w_orV, w_notV, w_if, w_nil, w_cons, w_tup, w_lst, w_call, w_nx, w_seq, w_drop, w_ret, w_set, w_ifS, w_slot, w_callF, w_callK, w_app2, w_part, w_noPart, w_sl, w_seqOf, w_rng, w_for, w_forL_nil, w_app, w_ixO, w_lenO, w_popAt, w_setIx, w_setV, w_parIx, w_aug, w_par2, w_par3, w_mbind, w_chain, wX_runF, VL.fill, VL.put, outs, startE, wipeE, backE, bindT_nm, bindT_tt, bindT_tl, bindTs_n, bindTs_c, VL.pick, List.filterMap_cons, List.filterMap_nil, List.map_cons, List.map_nil, List.length_cons, List.length_nil, List.replicate, List.cons_append, List.nil_append, List.getElem?_cons_zero, List.getElem?_cons_succ, List.set_cons_zero, List.set_cons_succ, Option.map_some, Option.bind_some, Option.getD_some, Nat.reduceSub, Nat.reduceAdd, Int.cast_ofNat_Int, Int.reduceLT, Int.reduceLE, Int.reduceNeg, Int.reduceEq, gEq_int, gNe_int, gLt_int, gGt_int, gLe_int, gGe_int, gAdd_int, gSub_int, gMul_l, gMul_r, gMod_int, gFdv_int, gNeg_i, cInt_i, cInt_b, cAbs_i, cLen_l, cLen_t, cTup_l, cTup_t, cLst_l, cLst_t, gIx_l, gIx_t, setI_i, popI_i, gSl_l, gSl_t, gSl_scr, dSeq_l, dSeq_t, dSeq_s, cMin2_i, cMax2_i, cEnum_l, cEnum_t, cZip_l, cZip_t, tr_b, tr_i, tr_l, tr_t, tr_n, gIs_n, gIsn_n, isN, lstAt_0, lstAt_s, gAdd_l, gAdd_t, le_sizeP, lt_sizeP, gPow_i, cAll_mb, cAny_mb, w_star, w_tupS, w_lstS, w_star2, w_pkL, w_pkR, slotAt_0, slotAt_s, boolOf_b, w_keysOf, w_itmsOf, w_get1, w_get2, w_dgetO, w_dinO, w_get1O, w_get2O, w_dput, w_callD, dicAt_0, dicAt_s, dicAt_K, dicAt_T, dPs_K, dPs_T, dGet_T2, dGet_Ks, gIxD_T2, gIxD_Ks, dPut_T2, dPut_Ks, Option.isSome_some, Option.isSome_none, dItems_l, dItems_t, gCat_l, starT_c, gRev_ll, gRev_tt, w_raise1, w_raise0, w_try, w_cl0, w_clN, w_clY, xD_0, xD_1, xD_2, xD_3, xD_4, xD_5, xD_6, ↓gIs_x, ↓gIsn_x, slA1, slA2, slA3, slA4, gFld_x, gIsx_x, true_and, and_true, Bool.not_true, Bool.not_false, decide_true, decide_false, isi_int_non, isi_int_bl, isi_int_int, isi_int_str, isi_int_lst, isi_int_tup, isi_str_non, isi_str_bl, isi_str_int, isi_str_str, isi_str_lst, isi_str_tup, isi_bool_non, isi_bool_bl, isi_bool_int, isi_bool_str, isi_bool_lst, isi_bool_tup, isi_list_non, isi_list_bl, isi_list_int, isi_list_str, isi_list_lst, isi_list_tup, isi_tuple_non, isi_tuple_bl, isi_tuple_int, isi_tuple_str, isi_tuple_lst, isi_tuple_tup, isi_dict_non, isi_dict_bl, isi_dict_int, isi_dict_str, isi_dict_lst, isi_dict_tup, isi_list_tuple_non, isi_list_tuple_bl, isi_list_tuple_int, isi_list_tuple_str, isi_list_tuple_lst, isi_list_tuple_tup, isi_bool_str_non, isi_bool_str_bl, isi_bool_str_int, isi_bool_str_str, isi_bool_str_lst, isi_bool_str_tup])
  | `(tactic| simp_all?! only) => `(tactic| try simp (disch := first | omega | (simp only [List.length_cons, List.length_nil, List.length_append, List.length_map, List.length_take, List.length_drop, List.length_reverse, List.length_set]; omega) | decide) only [wX_ok, wX_exc, wO_some, wO_ite, wIf_true, wIf_false, wIf_not, wF_nx, wF_rt, wF_bk, wF_ct, w_pure, w_bind, w_of, w_m1, w_m2, w_var, w_c, w_truth, w_ite, w_and, w_or, w_not, w_andV, w_orV, w_notV, w_if, w_nil, w_cons, w_tup, w_lst, w_call, w_nx, w_seq, w_drop, w_ret, w_set, w_ifS, w_slot, w_callF, w_callK, w_app2, w_part, w_noPart, w_sl, w_seqOf, w_rng, w_for, w_forL_nil, w_app, w_ixO, w_lenO, w_popAt, w_setIx, w_setV, w_parIx, w_aug, w_par2, w_par3, w_mbind, w_chain, wX_runF, VL.fill, VL.put, outs, startE, wipeE, backE, bindT_nm, bindT_tt, bindT_tl, bindTs_n, bindTs_c, VL.pick, List.filterMap_cons, List.filterMap_nil, List.map_cons, List.map_nil, List.length_cons, List.length_nil, List.replicate, List.cons_append, List.nil_append, List.getElem?_cons_zero, List.getElem?_cons_succ, List.set_cons_zero, List.set_cons_succ, Option.map_some, Option.bind_some, Option.getD_some, Nat.reduceSub, Nat.reduceAdd, Int.cast_ofNat_Int, Int.reduceLT, Int.reduceLE, Int.reduceNeg, Int.reduceEq, gEq_int, gNe_int, gLt_int, gGt_int, gLe_int, gGe_int, gAdd_int, gSub_int, gMul_l, gMul_r, gMod_int, gFdv_int, gNeg_i, cInt_i, cInt_b, cAbs_i, cLen_l, cLen_t, cTup_l, cTup_t, cLst_l, cLst_t, gIx_l, gIx_t, setI_i, popI_i, gSl_l, gSl_t, gSl_scr, dSeq_l, dSeq_t, dSeq_s, cMin2_i, cMax2_i, cEnum_l, cEnum_t, cZip_l, cZip_t, tr_b, tr_i, tr_l, tr_t, tr_n, gIs_n, gIsn_n, isN, lstAt_0, lstAt_s, gAdd_l, gAdd_t, le_sizeP, lt_sizeP, gPow_i, cAll_mb, cAny_mb, w_star, w_tupS, w_lstS, w_star2, w_pkL, w_pkR, slotAt_0, slotAt_s, boolOf_b, w_keysOf, w_itmsOf, w_get1, w_get2, w_dgetO, w_dinO, w_get1O, w_get2O, w_dput, w_callD, dicAt_0, dicAt_s, dicAt_K, dicAt_T, dPs_K, dPs_T, dGet_T2, dGet_Ks, gIxD_T2, gIxD_Ks, dPut_T2, dPut_Ks, Option.isSome_some, Option.isSome_none, dItems_l, dItems_t, gCat_l, starT_c, gRev_ll, gRev_tt, w_raise1, w_raise0, w_try, w_cl0, w_clN, w_clY, xD_0, xD_1, xD_2, xD_3, xD_4, xD_5, xD_6, ↓gIs_x, ↓gIsn_x, slA1, slA2, slA3, slA4, gFld_x, gIsx_x, true_and, and_true, Bool.not_true, Bool.not_false, decide_true, decide_false, isi_int_non, isi_int_bl, isi_int_int, isi_int_str, isi_int_lst, isi_int_tup, isi_str_non, isi_str_bl, isi_str_int, isi_str_str, isi_str_lst, isi_str_tup, isi_bool_non, isi_bool_bl, isi_bool_int, isi_bool_str, isi_bool_lst, isi_bool_tup, isi_list_non, isi_list_bl, isi_list_int, isi_list_str, isi_list_lst, isi_list_tup, isi_tuple_non, isi_tuple_bl, isi_tuple_int, isi_tuple_str, isi_tuple_lst, isi_tuple_tup, isi_dict_non, isi_dict_bl, isi_dict_int, isi_dict_str, isi_dict_lst, isi_dict_tup, isi_list_tuple_non, isi_list_tuple_bl, isi_list_tuple_int, isi_list_tuple_str, isi_list_tuple_lst, isi_list_tuple_tup, isi_bool_str_non, isi_bool_str_bl, isi_bool_str_int, isi_bool_str_str, isi_bool_str_lst, isi_bool_str_tup])
  | `(tactic| simp_arith! only [$as,*]) => `(tactic| try simp (disch := first | omega | (simp only [List.length_cons, List.length_nil, List.length_append, List.length_map, List.length_take, List.length_drop, List.length_reverse, List.length_set]; omega) | decide) only [$as,*, wX_ok, wX_exc, wO_some, wO_ite, wIf_true, wIf_false, wIf_not, wF_nx, wF_rt, wF_bk, wF_ct, w_pure, w_bind, w_of, w_m1, w_m2, w_var, w_c, w_truth, w_ite, w_and, w_or, w_not, w_andV, w_orV, w_notV, w_if, w_nil, w_cons, w_tup, w_lst, w_call, w_nx, w_drop, w_ret, w_set, w_ifS, w_slot, w_callF, w_callK, w_app2, w_part, w_noPart, w_sl, w_seqOf, w_rng, w_for, w_forL_nil, w_app, w_ixO, w_lenO, w_popAt, w_setIx, w_setV, w_parIx, w_aug, w_par2, w_par3, w_mbind, w_chain, wX_runF, VL.fill, VL.put, outs, startE, wipeE, backE, bindT_nm, bindT_tt, bindT_tl, bindTs_n, bindTs_c, VL.pick, List.filterMap_cons, List.filterMap_nil, List.map_cons, List.map_nil, List.length_cons, List.length_nil, List.replicate, List.cons_append, List.nil_append, List.getElem?_cons_zero, List.getElem?_cons_succ, List.set_cons_zero, List.set_cons_succ, Option.map_some, Option.bind_some, Option.getD_some, Nat.reduceSub, Nat.reduceAdd, Int.cast_ofNat_Int, Int.reduceLT, Int.reduceLE, Int.reduceNeg, Int.reduceEq, gEq_int, gNe_int, gLt_int, gGt_int, gLe_int, gGe_int, gAdd_int, gSub_int, gMul_l, gMul_r, gMod_int, gFdv_int, gNeg_i, cInt_i, cInt_b, cAbs_i, cLen_l, cLen_t, cTup_l, cTup_t, cLst_l, cLst_t, gIx_l, gIx_t, setI_i, popI_i, gSl_l, gSl_t, gSl_scr, dSeq_l, dSeq_t, dSeq_s, cMin2_i, cMax2_i, cEnum_l, cEnum_t, cZip_l, cZip_t, tr_b, tr_i, tr_l, tr_t, tr_n, gIs_n, gIsn_n, isN, lstAt_0, lstAt_s, gAdd_l, gAdd_t, le_sizeP, lt_sizeP, gPow_i, cAll_mb, cAny_mb, w_star, w_tupS, w_lstS, w_star2, w_pkL, w_pkR, slotAt_0, slotAt_s, boolOf_b, w_keysOf, w_itmsOf, w_get1, w_get2, w_dgetO, w_dinO, w_get1O, w_get2O, w_dput, w_callD, dicAt_0, dicAt_s, dicAt_K, dicAt_T, dPs_K, dPs_T, dGet_T2, dGet_Ks, gIxD_T2, gIxD_Ks, dPut_T2, dPut_Ks, Option.isSome_some, Option.isSome_none, dItems_l, dItems_t, gCat_l, starT_c, gRev_ll, gRev_tt, w_raise1, w_raise0, w_try, w_cl0, w_clN, w_clY, xD_0, xD_1, xD_2, xD_3, xD_4, xD_5, xD_6, ↓gIs_x, ↓gIsn_x, slA1, slA2, slA3, slA4, gFld_x, gIsx_x, true_and, and_true, Bool.not_true, Bool.not_false, decide_true, decide_false, isi_int_non, isi_int_bl, isi_int_int, isi_int_str, isi_int_lst, isi_int_tup, isi_str_non, isi_str_bl, isi_str_int, isi_str_str, isi_str_lst, isi_str_tup, isi_bool_non, isi_bool_bl, isi_bool_int, isi_bool_str, isi_bool_lst, isi_bool_tup, isi_list_non, isi_list_bl, isi_list_int, isi_list_str, isi_list_lst, isi_list_tup, isi_tuple_non, isi_tuple_bl, isi_tuple_int, isi_tuple_str, isi_tuple_lst, isi_tuple_tup, isi_dict_non, isi_dict_bl, isi_dict_int, isi_dict_str, isi_dict_lst, isi_dict_tup, isi_list_tuple_non, isi_list_tuple_bl, isi_list_tuple_int, isi_list_tuple_str, isi_list_tuple_lst, isi_list_tuple_tup, isi_bool_str_non, isi_bool_str_bl, isi_bool_str_int, isi_bool_str_str, isi_bool_str_lst, isi_bool_str_tup])
  | `(tactic| simp_arith! only) => `(tactic| try simp (disch := first | omega | (simp only [List.length_cons, List.length_nil, List.length_append, List.length_map, List.length_take, List.length_drop, List.length_reverse, List.length_set]; omega) | decide) only [wX_ok, wX_exc, wO_some, wO_ite, wIf_true, wIf_false, wIf_not, wF_nx, wF_rt, wF_bk, wF_ct, w_pure, w_bind, w_of, w_m1, w_m2, w_var, w_c, w_truth, w_ite, w_and, w_or, w_not, w_andV, w_orV, w_notV, w_if, w_nil, w_cons, w_tup, w_lst, w_call, w_nx, w_drop, w_ret, w_set, w_ifS, w_slot, w_callF, w_callK, w_app2, w_part, w_noPart, w_sl, w_seqOf, w_rng, w_for, w_forL_nil, w_app, w_ixO, w_lenO, w_popAt, w_setIx, w_setV, w_parIx, w_aug, w_par2, w_par3, w_mbind, w_chain, wX_runF, VL.fill, VL.put, outs, startE, wipeE, backE, bindT_nm, bindT_tt, bindT_tl, bindTs_n, bindTs_c, VL.pick, List.filterMap_cons, List.filterMap_nil, List.map_cons, List.map_nil, List.length_cons, List.length_nil, List.replicate, List.cons_append, List.nil_append, List.getElem?_cons_zero, List.getElem?_cons_succ, List.set_cons_zero, List.set_cons_succ, Option.map_some, Option.bind_some, Option.getD_some, Nat.reduceSub, Nat.reduceAdd, Int.cast_ofNat_Int, Int.reduceLT, Int.reduceLE, Int.reduceNeg, Int.reduceEq, gEq_int, gNe_int, gLt_int, gGt_int, gLe_int, gGe_int, gAdd_int, gSub_int, gMul_l, gMul_r, gMod_int, gFdv_int, gNeg_i, cInt_i, cInt_b, cAbs_i, cLen_l, cLen_t, cTup_l, cTup_t, cLst_l, cLst_t, gIx_l, gIx_t, setI_i, popI_i, gSl_l, gSl_t, gSl_scr, dSeq_l, dSeq_t, dSeq_s, cMin2_i, cMax2_i, cEnum_l, cEnum_t, cZip_l, cZip_t, tr_b, tr_i, tr_l, tr_t, tr_n, gIs_n, gIsn_n, isN, lstAt_0, lstAt_s, gAdd_l, gAdd_t, le_sizeP, lt_sizeP, gPow_i, cAll_mb, cAny_mb, w_star, w_tupS, w_lstS, w_star2, w_pkL, w_pkR, slotAt_0, slotAt_s, boolOf_b, w_keysOf, w_itmsOf, w_get1, w_get2, w_dgetO, w_dinO, w_get1O, w_get2O, w_dput, w_callD, dicAt_0, dicAt_s, dicAt_K, dicAt_T, dPs_K, dPs_T, dGet_T2, dGet_Ks, gIxD_T2, gIxD_Ks, dPut_T2, dPut_Ks, Option.isSome_some, Option.isSome_none, dItems_l, dItems_t, gCat_l, starT_c, gRev_ll, gRev_tt, w_raise1, w_raise0, w_try, w_cl0, w_clN, w_clY, xD_0, xD_1, xD_2, xD_3, xD_4, xD_5, xD_6, ↓gIs_x, ↓gIsn_x, slA1, slA2, slA3, slA4, gFld_x, gIsx_x, true_and, and_true, Bool.not_true, Bool.not_false, decide_true, decide_false, isi_int_non, isi_int_bl, isi_int_int, isi_int_str, isi_int_lst, isi_int_tup, isi_str_non, isi_str_bl, isi_str_int, isi_str_str, isi_str_lst, isi_str_tup, isi_bool_non, isi_bool_bl, isi_bool_int, isi_bool_str, isi_bool_lst, isi_bool_tup, isi_list_non, isi_list_bl, isi_list_int, isi_list_str, isi_list_lst, isi_list_tup, isi_tuple_non, isi_tuple_bl, isi_tuple_int, isi_tuple_str, isi_tuple_lst, isi_tuple_tup, isi_dict_non, isi_dict_bl, isi_dict_int, isi_dict_str, isi_dict_lst, isi_dict_tup, isi_list_tuple_non, isi_list_tuple_bl, isi_list_tuple_int, isi_list_tuple_str, isi_list_tuple_lst, isi_list_tuple_tup, isi_bool_str_non, isi_bool_str_bl, isi_bool_str_int, isi_bool_str_str, isi_bool_str_lst, isi_bool_str_tup])

section
set_option Elab.async false
set_option linter.all false
set_option maxRecDepth 100000
set_option maxHeartbeats 1000000
-- isi
namespace LL
open PySem VL
/-! ### things of all kinds -/
inductive Sz (n : Nat) : D → Prop
  | non : Sz n .none
  | bl (b : Bool) : Sz n (.bool b)
  | int (i : Int) : Sz n (.int i)
  | str {s : Str} (h : s.length ≤ 100) : Sz n (.str s)
  | lst {xs : List D} (h : xs.length ≤ n) (a : ∀ x ∈ xs, Sz n x) : Sz n (.list xs)
  | tup {xs : List D} (h : xs.length ≤ n) (a : ∀ x ∈ xs, Sz n x) : Sz n (.tuple xs)
theorem plainAll_of : ∀ {xs : List D}, (∀ x ∈ xs, x.plain = true) → PyData.plainAll xs = true
  | [], _ => rfl
  | x :: xs, h => by rw [PyData.plainAll, h x (List.mem_cons_self ..), plainAll_of fun y hy => h y (List.mem_cons_of_mem _ hy)]; rfl
theorem Sz.plain {n : Nat} : ∀ {d : D}, Sz n d → d.plain = true
  | _, .non => rfl
  | _, .bl _ => rfl
  | _, .int _ => rfl
  | _, .str _ => rfl
  | _, .lst _ a => plainAll_of fun x hx => (a x hx).plain
  | _, .tup _ a => plainAll_of fun x hx => (a x hx).plain
theorem Sz.mono {n m : Nat} (l : n ≤ m) : ∀ {d : D}, Sz n d → Sz m d
  | _, .non => .non
  | _, .bl b => .bl b
  | _, .int i => .int i
  | _, .str h => .str h
  | _, .lst h a => .lst (Nat.le_trans h l) fun x hx => (a x hx).mono l
  | _, .tup h a => .tup (Nat.le_trans h l) fun x hx => (a x hx).mono l
theorem gEq_str (a b : Str) : gEq (.str a) (.str b) = some (.bool (a == b)) := rfl
theorem at2 {α : Type} (a b c : α) (l : List α) : L2.atI (a :: b :: c :: l) 2 = some c := atI_nat (xs := a :: b :: c :: l) (i := 2) (x := c) rfl
theorem e23 : (2 == (3 : Int)) = false := rfl
/-! ### the law's own look -/
/-! ### things spoilt -/
mutual
def szB (n : Nat) : D → Bool
  | .none => true
  | .bool _ => true
  | .int _ => true
  | .str s => decide (s.length ≤ 100)
  | .list xs => decide (xs.length ≤ n) && szAll n xs
  | .tuple xs => decide (xs.length ≤ n) && szAll n xs
  | .dict _ => false
def szAll (n : Nat) : List D → Bool
  | [] => true
  | x :: xs => szB n x && szAll n xs
end
mutual
theorem szB_ok {n : Nat} : ∀ {d : D}, szB n d = true → Sz n d
  | .none, _ => .non
  | .bool b, _ => .bl b
  | .int i, _ => .int i
  | .str s, h => .str (by simpa [szB] using h)
  | .list xs, h => by
    rw [szB, Bool.and_eq_true] at h
    exact .lst (of_decide_eq_true h.1) (szAll_ok h.2)
  | .tuple xs, h => by
    rw [szB, Bool.and_eq_true] at h
    exact .tup (of_decide_eq_true h.1) (szAll_ok h.2)
theorem szAll_ok {n : Nat} : ∀ {ds : List D}, szAll n ds = true → ∀ x ∈ ds, Sz n x
  | [], _, x, hx => by cases hx
  | d :: ds, h, x, hx => by
    rw [szAll, Bool.and_eq_true] at h
    rcases List.mem_cons.mp hx with e | hx
    · rw [e]; exact szB_ok h.1
    · exact szAll_ok h.2 x hx
end
theorem Sz.items {n : Nat} {xs : List D} : Sz n (.list xs) ∨ Sz n (.tuple xs) → xs.length ≤ n ∧ ∀ x ∈ xs, Sz n x
  | .inl (.lst h a) => ⟨h, a⟩
  | .inr (.tup h a) => ⟨h, a⟩
theorem bools_true : ∀ n, bools (List.replicate n (.bool true)) = some (List.replicate n true)
  | 0 => rfl
  | n + 1 => by rw [List.replicate_succ, bools, bools_true n]; rfl
theorem cAll_true (n : Nat) : cAll [.list (List.replicate n (.bool true))] = some (.bool true) := by
  show (bools _).map _ = _
  rw [bools_true]
  show some (PyData.bool ((List.replicate n true).all id)) = _
  rw [show (List.replicate n true).all id = true by rw [List.all_eq_true]; intro x hx; exact List.eq_of_mem_replicate hx]
end LL
end

section
set_option Elab.async false
set_option linter.all false
set_option maxRecDepth 100000
set_option maxHeartbeats 1000000
-- isi
namespace LL
open PySem VL
/-! ### the same of the same -/
inductive Dp : Nat → D → Prop
  | non {k : Nat} : Dp k .none
  | bl {k : Nat} (b : Bool) : Dp k (.bool b)
  | int {k : Nat} (i : Int) : Dp k (.int i)
  | str {k : Nat} (s : Str) : Dp k (.str s)
  | lst {k : Nat} {xs : List D} (h : xs.length ≤ 1000) (a : ∀ x ∈ xs, Dp k x) : Dp (k + 1) (.list xs)
  | tup {k : Nat} {xs : List D} (h : xs.length ≤ 1000) (a : ∀ x ∈ xs, Dp k x) : Dp (k + 1) (.tuple xs)
theorem Dp.mono {k k' : Nat} {d : D} (h : Dp k d) (l : k ≤ k') : Dp k' d := by
  induction h generalizing k' with
  | non => exact .non
  | bl b => exact .bl b
  | int i => exact .int i
  | str s => exact .str s
  | lst h _ ih =>
    obtain ⟨j, rfl⟩ : ∃ j, k' = j + 1 := ⟨k' - 1, by omega⟩
    exact .lst h fun x hx => ih x hx (by omega)
  | tup h _ ih =>
    obtain ⟨j, rfl⟩ : ∃ j, k' = j + 1 := ⟨k' - 1, by omega⟩
    exact .tup h fun x hx => ih x hx (by omega)
theorem zip_len : ∀ xs : List D, (zipL xs xs).length = xs.length
  | [] => rfl
  | x :: xs => congrArg (· + 1) (zip_len xs)
theorem zip_mem : ∀ {xs : List D} {d : D}, d ∈ zipL xs xs → ∃ x ∈ xs, d = .tuple [x, x]
  | x :: xs, d, h => by
    rcases List.mem_cons.mp h with rfl | h
    · exact ⟨x, List.mem_cons_self .., rfl⟩
    · obtain ⟨y, hy, e⟩ := zip_mem h
      exact ⟨y, List.mem_cons_of_mem _ hy, e⟩
def allT : D → Bool := fun _ => true
theorem all_allT (l : List D) : l.all allT = true := by induction l <;> simp_all [allT]
theorem gNe_tt : gNe (.bool true) (.bool true) = some (.bool false) := rfl
theorem gNe_ff : gNe (.bool false) (.bool false) = some (.bool false) := rfl
theorem gEq_tt : gEq (.bool true) (.bool true) = some (.bool true) := rfl
theorem gEq_ff : gEq (.bool false) (.bool false) = some (.bool true) := rfl
theorem str_self (s : Str) : (s == s) = true := by simp
theorem same_refl {k : Nat} {d : D} (h : Dp k d) : ∀ m, k < m → f__law_same m [d, d] = .ok (.bool true, []) := by
  induction h with
  | non => rintro (_ | m) hm <;> first | omega | rfl
  | bl b => rintro (_ | m) hm <;> first | omega | (cases b <;> rfl)
  | int i =>
    rintro (_ | m) hm
    · omega
    apply wX_eq
    unfold f__law_same
    (simp_all! only)
  | str s =>
    rintro (_ | m) hm
    · omega
    apply wX_eq
    unfold f__law_same
    (simp_all! only [gEq_str, str_self, gEq_tt, gEq_ff])
  | @lst k xs h a ih0 =>
    rintro (_ | m) hm
    · omega
    have ih := fun x hx => ih0 x hx m (by omega)
    apply wX_eq
    unfold f__law_same
    (simp_all! only [gNe_tt, gNe_ff])
    refine w_map (fun d => .bool (allT d)) ?_
    have hz := zip_len xs
    (simp_all! only [cZip_l])
    refine ⟨fun y hy => ?_, ?_⟩
    · obtain ⟨x, hx, rfl⟩ := zip_mem hy
      (simp_all! only [ih x hx])
      rfl
    · (simp_all! only [cAll_mb, all_allT])
  | @tup k xs h a ih0 =>
    rintro (_ | m) hm
    · omega
    have ih := fun x hx => ih0 x hx m (by omega)
    apply wX_eq
    unfold f__law_same
    (simp_all! only [gNe_tt, gNe_ff])
    refine w_map (fun d => .bool (allT d)) ?_
    have hz := zip_len xs
    (simp_all! only [cZip_t])
    refine ⟨fun y hy => ?_, ?_⟩
    · obtain ⟨x, hx, rfl⟩ := zip_mem hy
      (simp_all! only [ih x hx])
      rfl
    · (simp_all! only [cAll_mb, all_allT])
/-! ### rows as lists and as tuples -/
end LL
end

section
set_option autoImplicit false
set_option linter.all false
/-! WAYs: plain mathematics -/
namespace Way
def aw0 (s : List Nat) (k : Nat) : Nat := s.getD k 0
def dec (s : List Nat) (k : Nat) : List Nat := s.set k (aw0 s k - 1)
def W : Nat → List Nat → List (List Nat)
  | 0, _ => [[]]
  | n + 1, s => (List.range s.length).flatMap fun k => if 0 < aw0 s k then (W n (dec s k)).map (k :: ·) else []
def woS (p : Nat × Nat) (i : Nat) : Nat × Nat := (p.1 * (p.2 + 1) / i, p.2 + 1)
def woR (p : Nat × Nat) (n : Nat) : Nat × Nat := (List.range n).foldl (fun p i => woS p (i + 1)) p
def wo (s : List Nat) : Nat := (s.foldl woR (1, 0)).1
def lists : Nat → List (List Nat)
  | 0 => [[]]
  | n + 1 => [0, 1, 2, 3].flatMap fun x => (lists n).map (x :: ·)
def allS : List (List Nat) := ((lists 0 ++ lists 1 ++ lists 2 ++ lists 3 ++ lists 4).filter fun s => decide (s.sum ≤ 6))
structure Ok (s : List Nat) : Prop where
  len : s.length ≤ 4
  le : ∀ x ∈ s, x ≤ 3
  sum : s.sum ≤ 6
theorem lists_mem : ∀ {n : Nat} {s : List Nat}, s.length = n → (∀ x ∈ s, x ≤ 3) → s ∈ lists n
  | 0, s, h, _ => by
    rw [List.length_eq_zero_iff.mp h]
    exact List.mem_singleton.mpr rfl
  | n + 1, [], h, _ => by cases h
  | n + 1, x :: s, h, hx => by
    unfold lists
    refine List.mem_flatMap.mpr ⟨x, ?_, List.mem_map.mpr ⟨s, lists_mem (by simpa using h) fun y hy => hx y (List.mem_cons_of_mem _ hy), rfl⟩⟩
    have := hx x List.mem_cons_self
    simp only [List.mem_cons, List.not_mem_nil, or_false]
    omega
theorem Ok.all {s : List Nat} (h : Ok s) : s ∈ allS := by
  unfold allS
  refine List.mem_filter.mpr ⟨?_, decide_eq_true h.sum⟩
  have hm := lists_mem (s := s) rfl h.le
  have hl := h.len
  simp only [List.mem_append]
  match e : s.length, hl, hm with
  | 0, _, hm => exact .inl (.inl (.inl (.inl hm)))
  | 1, _, hm => exact .inl (.inl (.inl (.inr hm)))
  | 2, _, hm => exact .inl (.inl (.inr hm))
  | 3, _, hm => exact .inl (.inr hm)
  | 4, _, hm => exact .inr hm
  | n + 5, hl, _ => omega
def good (s : List Nat) : Bool := wo s == (W s.sum s).length && decide (wo s ≤ 180) && (W s.sum s).all fun w => decide (w.length = s.sum)
theorem all_good : (allS.all good) = true := by decide +kernel
theorem Ok.wo {s : List Nat} (h : Ok s) : Way.wo s = (W s.sum s).length ∧ Way.wo s ≤ 180 := by
  have := List.all_eq_true.mp all_good s h.all
  unfold good at this
  simp only [Bool.and_eq_true, beq_iff_eq, decide_eq_true_eq] at this
  exact ⟨this.1.1, this.1.2⟩
theorem W_len : ∀ {n : Nat} {s w : List Nat}, w ∈ W n s → w.length = n
  | 0, s, w, h => by
    unfold W at h
    rw [List.mem_singleton.mp h]
    rfl
  | n + 1, s, w, h => by
    unfold W at h
    obtain ⟨k, hk, h⟩ := List.mem_flatMap.mp h
    split at h
    · obtain ⟨v, hv, rfl⟩ := List.mem_map.mp h
      rw [List.length_cons, W_len hv]
    · cases h
theorem dec_len (s : List Nat) (k : Nat) : (dec s k).length = s.length := List.length_set
theorem aw0_lt {s : List Nat} {k : Nat} (h : 0 < aw0 s k) : k < s.length := by
  unfold aw0 at h
  rcases Nat.lt_or_ge k s.length with c | c
  · exact c
  · rw [List.getD_eq_getElem?_getD, List.getElem?_eq_none c] at h
    exact absurd h (by decide)
theorem aw0_get {s : List Nat} {k : Nat} (h : k < s.length) : s[k]? = some (aw0 s k) := by
  unfold aw0
  rw [List.getD_eq_getElem?_getD, List.getElem?_eq_getElem h]
  rfl
theorem sum_set : ∀ {s : List Nat} {k x : Nat}, k < s.length → (s.set k x).sum + aw0 s k = s.sum + x
  | [], _, _, h => by cases h
  | y :: s, 0, x, _ => by
    show x + s.sum + y = y + s.sum + x
    omega
  | y :: s, k + 1, x, h => by
    have := sum_set (s := s) (k := k) (x := x) (by simpa using h)
    show y + (s.set k x).sum + aw0 s k = y + s.sum + x
    omega
theorem dec_sum {s : List Nat} {k : Nat} (h : 0 < aw0 s k) : (dec s k).sum + 1 = s.sum := by
  have := sum_set (x := aw0 s k - 1) (aw0_lt h)
  unfold dec
  omega
theorem Ok.dec {s : List Nat} (h : Ok s) {k : Nat} (hk : 0 < aw0 s k) : Ok (dec s k) := by
  refine ⟨by rw [dec_len]; exact h.len, fun x hx => ?_, by have := dec_sum hk; have := h.sum; omega⟩
  rcases List.mem_or_eq_of_mem_set hx with hx | rfl
  · exact h.le x hx
  · have := h.le (aw0 s k) (List.mem_of_getElem? (aw0_get (aw0_lt hk)))
    omega
/-- the ways that begin at a place -/
def B (n : Nat) (s : List Nat) (k : Nat) : List (List Nat) := if 0 < aw0 s k then (W n (dec s k)).map (k :: ·) else []
theorem W_succ (n : Nat) (s : List Nat) : W (n + 1) s = (List.range s.length).flatMap (B n s) := rfl
/-- how many begin at places ahead of one -/
def pre (n : Nat) (s : List Nat) (k : Nat) : Nat := ((List.range k).map fun j => (B n s j).length).sum
theorem pre_succ (n : Nat) (s : List Nat) (k : Nat) : pre n s (k + 1) = pre n s k + (B n s k).length := by
  unfold pre
  rw [List.range_succ, List.map_append, List.sum_append]
  simp
theorem pre_all (n : Nat) (s : List Nat) : pre n s s.length = (W (n + 1) s).length := by
  rw [W_succ, List.length_flatMap]
  rfl
theorem flat_at {n : Nat} {s : List Nat} : ∀ (m k r : Nat), k < m → r < (B n s k).length → ((List.range m).flatMap (B n s))[pre n s k + r]? = (B n s k)[r]?
  | 0, k, r, h, _ => by cases h
  | m + 1, k, r, h, hr => by
    have hl : ∀ m, ((List.range m).flatMap (B n s)).length = pre n s m := fun m => by rw [List.length_flatMap]; rfl
    rw [List.range_succ, List.flatMap_append]
    by_cases c : k = m
    · subst c
      rw [List.getElem?_append_right (by rw [hl]; omega), hl, Nat.add_sub_cancel_left]
      simp
    · have hk : k < m := by omega
      have h2 : pre n s k + r < pre n s m := by
        have mono : ∀ j, k < j → pre n s k + (B n s k).length ≤ pre n s j := by
          intro j hj
          induction j with
          | zero => omega
          | succ j ih =>
            rw [pre_succ]
            by_cases e : k = j
            · subst e; omega
            · have := ih (by omega); omega
        have := mono m hk
        omega
      rw [List.getElem?_append_left (by rw [hl]; exact h2)]
      exact flat_at m k r hk hr
theorem B_get {n : Nat} {s : List Nat} {k r : Nat} (h : r < (B n s k).length) : 0 < aw0 s k ∧ ∃ w, (W n (dec s k))[r]? = some w ∧ (B n s k)[r]? = some (k :: w) := by
  unfold B at h ⊢
  by_cases c : 0 < aw0 s k
  · rw [if_pos c] at h ⊢
    rw [List.length_map] at h
    exact ⟨c, _, List.getElem?_eq_getElem h, by rw [List.getElem?_map, List.getElem?_eq_getElem h]; rfl⟩
  · rw [if_neg c] at h
    cases h
theorem W_at {n : Nat} {s : List Nat} {k r : Nat} (hk : k < s.length) (h : r < (B n s k).length) : 0 < aw0 s k ∧ ∃ w, (W n (dec s k))[r]? = some w ∧ (W (n + 1) s)[pre n s k + r]? = some (k :: w) := by
  obtain ⟨h1, w, h2, h3⟩ := B_get h
  exact ⟨h1, w, h2, by rw [W_succ, flat_at _ _ _ hk h, h3]⟩
/-- how many begin at a place, as the program counts -/
theorem B_len {n : Nat} {s : List Nat} (ok : Ok s) (hn : s.sum = n + 1) (k : Nat) : (B n s k).length = if 0 < aw0 s k then wo (dec s k) else 0 := by
  unfold B
  by_cases c : 0 < aw0 s k
  · rw [if_pos c, if_pos c, List.length_map, (ok.dec c).wo.1]
    have := dec_sum c
    rw [show (dec s k).sum = n by omega]
  · rw [if_neg c, if_neg c]
    rfl
/-- each way lies where its places tell -/
theorem W_split {n : Nat} {s : List Nat} {r : Nat} {v : List Nat} (h : (W (n + 1) s)[r]? = some v) : ∃ k r' w, k < s.length ∧ v = k :: w ∧ 0 < aw0 s k ∧ r = pre n s k + r' ∧ (W n (dec s k))[r']? = some w := by
  have hr := (List.getElem?_eq_some_iff.mp h).1
  rw [← pre_all] at hr
  have go : ∀ m, m ≤ s.length → r < pre n s m → ∃ k, k < m ∧ pre n s k ≤ r ∧ r < pre n s k + (B n s k).length := by
    intro m
    induction m with
    | zero => intro _ z; simp [pre] at z
    | succ m ih =>
      intro hm hr
      rw [pre_succ] at hr
      by_cases c : r < pre n s m
      · obtain ⟨k, h1, h2⟩ := ih (by omega) c
        exact ⟨k, by omega, h2⟩
      · exact ⟨m, by omega, by omega, by omega⟩
  obtain ⟨k, hk, h1, h2⟩ := go _ (Nat.le_refl _) hr
  obtain ⟨r', rfl⟩ : ∃ r', r = pre n s k + r' := ⟨r - pre n s k, by omega⟩
  obtain ⟨h3, w, h4, h5⟩ := W_at hk (show r' < (B n s k).length by omega)
  rw [h5] at h
  cases h
  exact ⟨k, r', w, hk, rfl, h3, rfl, h4⟩
/-- one more turn of the law's going through -/
def places (l : List Nat) : List Nat := (List.range l.length).filter fun k => decide (0 < aw0 l k)
def nxt (f : List (List Nat × List Nat)) : List (List Nat × List Nat) := f.flatMap fun q => (places q.2).map fun k => (q.1 ++ [k], dec q.2 k)
def fnd (s : List Nat) : Nat → List (List Nat × List Nat)
  | 0 => [([], s)]
  | t + 1 => nxt (fnd s t)
theorem W_places (n : Nat) (s : List Nat) : W (n + 1) s = (places s).flatMap fun k => (W n (dec s k)).map (k :: ·) := by
  rw [W_succ]
  unfold places
  have go : ∀ l : List Nat, l.flatMap (B n s) = (l.filter fun k => decide (0 < aw0 s k)).flatMap fun k => (W n (dec s k)).map (k :: ·) := by
    intro l
    induction l with
    | nil => rfl
    | cons k l ih =>
      rw [List.flatMap_cons, ih]
      by_cases c : 0 < aw0 s k
      · rw [List.filter_cons_of_pos (by simpa using c), List.flatMap_cons]
        unfold B
        rw [if_pos c]
      · rw [List.filter_cons_of_neg (by simpa using c)]
        unfold B
        rw [if_neg c]
        rfl
  exact go _
theorem fnd_inv (s : List Nat) : ∀ (t m : Nat), ((fnd s t).flatMap fun q => (W m q.2).map (q.1 ++ ·)) = W (t + m) s
  | 0, m => by
    show ([([], s)] : List (List Nat × List Nat)).flatMap _ = _
    simp
  | t + 1, m => by
    have ih := fnd_inv s t (m + 1)
    rw [show t + 1 + m = t + (m + 1) by omega, ← ih]
    show (nxt (fnd s t)).flatMap _ = _
    unfold nxt
    rw [List.flatMap_assoc]
    congr 1
    funext q
    rw [W_places, List.map_flatMap, List.flatMap_map]
    congr 1
    funext k
    rw [List.map_map]
    congr 1
    funext w
    simp
theorem fnd_end (s : List Nat) (n : Nat) : (fnd s n).map (·.1) = W n s := by
  have := fnd_inv s n 0
  rw [Nat.add_zero] at this
  rw [← this]
  unfold W
  simp only [List.map_cons, List.map_nil, List.append_nil]
  induction fnd s n with
  | nil => rfl
  | cons q l ih => rw [List.map_cons, List.flatMap_cons, ih]; rfl
/-! ### woven -/
section
variable {α : Type}
/-- what a way weaves: each time the first one left of a row -/
def wv : List (List α) → List Nat → Option (List α)
  | _, [] => some []
  | R, k :: w => match R[k]? with
    | some (x :: xs) => (wv (R.set k xs) w).map (x :: ·)
    | _ => none
theorem wv_ok : ∀ {n : Nat} {R : List (List α)} {w : List Nat}, w ∈ W n (R.map List.length) → ∃ o, wv R w = some o ∧ o.length = n
  | 0, R, w, h => by
    unfold W at h
    rw [List.mem_singleton.mp h]
    exact ⟨[], rfl, rfl⟩
  | n + 1, R, w, h => by
    rw [W_places] at h
    obtain ⟨k, hk, h⟩ := List.mem_flatMap.mp h
    obtain ⟨v, hv, rfl⟩ := List.mem_map.mp h
    have hk := of_decide_eq_true (List.mem_filter.mp hk).2
    have hl := aw0_lt hk
    rw [List.length_map] at hl
    have e : aw0 (R.map List.length) k = R[k].length := by
      unfold aw0
      rw [List.getD_eq_getElem?_getD, List.getElem?_map, List.getElem?_eq_getElem hl]
      rfl
    rw [e] at hk
    unfold wv
    rw [List.getElem?_eq_getElem hl]
    cases hr : R[k] with
    | nil => rw [hr] at hk; cases hk
    | cons x xs =>
      have ed : dec (R.map List.length) k = (R.set k xs).map List.length := by
        unfold dec
        rw [e, hr, List.map_set]
        rfl
      rw [ed] at hv
      obtain ⟨o, h1, h2⟩ := wv_ok hv
      exact ⟨x :: o, by show (wv (R.set k xs) v).map (x :: ·) = _; rw [h1]; rfl, by rw [List.length_cons, h2]⟩
end
end Way
end

section
set_option Elab.async false
set_option linter.all false
set_option maxRecDepth 100000
set_option maxHeartbeats 1000000
-- isi
namespace LL
open PySem VL
/-! ### tuples in the place of lists, lists in the place of tuples -/
mutual
def tupD : D → D
  | .none => .none
  | .bool b => .bool b
  | .int i => .int i
  | .str s => .str s
  | .list xs => .tuple (tupDs xs)
  | .tuple xs => .tuple (tupDs xs)
  | .dict kvs => .dict kvs
def tupDs : List D → List D
  | [] => []
  | x :: xs => tupD x :: tupDs xs
end
mutual
def lisD : D → D
  | .none => .none
  | .bool b => .bool b
  | .int i => .int i
  | .str s => .str s
  | .list xs => .list (lisDs xs)
  | .tuple xs => .list (lisDs xs)
  | .dict kvs => .dict kvs
def lisDs : List D → List D
  | [] => []
  | x :: xs => lisD x :: lisDs xs
end
theorem tupDs_map : ∀ xs : List D, tupDs xs = xs.map tupD
  | [] => by rw [tupDs, List.map_nil]
  | x :: xs => by rw [tupDs, List.map_cons, tupDs_map xs]
theorem lisDs_map : ∀ xs : List D, lisDs xs = xs.map lisD
  | [] => by rw [lisDs, List.map_nil]
  | x :: xs => by rw [lisDs, List.map_cons, lisDs_map xs]
mutual
theorem tupD_lisD : ∀ d : D, tupD (lisD d) = tupD d
  | .none => rfl
  | .bool _ => rfl
  | .int _ => rfl
  | .str _ => rfl
  | .list xs => by rw [lisD, tupD, tupD, tupDs_lisDs xs]
  | .tuple xs => by rw [lisD, tupD, tupD, tupDs_lisDs xs]
  | .dict _ => by rw [lisD]
theorem tupDs_lisDs : ∀ xs : List D, tupDs (lisDs xs) = tupDs xs
  | [] => rfl
  | x :: xs => by rw [lisDs, tupDs, tupDs, tupD_lisD x, tupDs_lisDs xs]
end
theorem Dp.lis {k : Nat} {d : D} (h : Dp k d) : Dp k (lisD d) := by
  induction h with
  | non => exact .non
  | bl b => exact .bl b
  | int i => exact .int i
  | str s => exact .str s
  | lst h _ ih => rw [lisD, lisDs_map]; exact .lst (by rw [List.length_map]; exact h) fun x hx => by obtain ⟨y, hy, rfl⟩ := List.mem_map.mp hx; exact ih y hy
  | tup h _ ih => rw [lisD, lisDs_map]; exact .lst (by rw [List.length_map]; exact h) fun x hx => by obtain ⟨y, hy, rfl⟩ := List.mem_map.mp hx; exact ih y hy
theorem tupled_eq {k : Nat} {d : D} (h : Dp k d) : ∀ m, k < m → f_tupled m [d] = .ok (tupD d, []) := by
  induction h with
  | non => rintro (_ | m) hm <;> first | omega | rfl
  | bl b => rintro (_ | m) hm <;> first | omega | rfl
  | int i => rintro (_ | m) hm <;> first | omega | rfl
  | str s => rintro (_ | m) hm <;> first | omega | rfl
  | @lst k xs h a ih0 =>
    rintro (_ | m) hm
    · omega
    have ih := fun x hx => ih0 x hx m (by omega)
    apply wX_eq
    unfold f_tupled
    (simp_all! only)
    refine w_map tupD ?_
    (simp_all! only)
    refine ⟨fun y hy => ?_, ?_⟩
    · (simp_all! only [ih y hy])
    · rw [tupD, tupDs_map]
  | @tup k xs h a ih0 =>
    rintro (_ | m) hm
    · omega
    have ih := fun x hx => ih0 x hx m (by omega)
    apply wX_eq
    unfold f_tupled
    (simp_all! only)
    refine w_map tupD ?_
    (simp_all! only)
    refine ⟨fun y hy => ?_, ?_⟩
    · (simp_all! only [ih y hy])
    · rw [tupD, tupDs_map]
theorem lists_eq {k : Nat} {d : D} (h : Dp k d) : ∀ m, k < m → f__law_lists m [d] = .ok (lisD d, []) := by
  induction h with
  | non => rintro (_ | m) hm <;> first | omega | rfl
  | bl b => rintro (_ | m) hm <;> first | omega | rfl
  | int i => rintro (_ | m) hm <;> first | omega | rfl
  | str s => rintro (_ | m) hm <;> first | omega | rfl
  | @lst k xs h a ih0 =>
    rintro (_ | m) hm
    · omega
    have ih := fun x hx => ih0 x hx m (by omega)
    apply wX_eq
    unfold f__law_lists
    (simp_all! only)
    refine w_map lisD ?_
    (simp_all! only)
    refine ⟨fun y hy => ?_, ?_⟩
    · (simp_all! only [ih y hy])
    · rw [lisD, lisDs_map]
  | @tup k xs h a ih0 =>
    rintro (_ | m) hm
    · omega
    have ih := fun x hx => ih0 x hx m (by omega)
    apply wX_eq
    unfold f__law_lists
    (simp_all! only)
    refine w_map lisD ?_
    (simp_all! only)
    refine ⟨fun y hy => ?_, ?_⟩
    · (simp_all! only [ih y hy])
    · rw [lisD, lisDs_map]
end LL
end

section
set_option Elab.async false
set_option linter.all false
set_option maxRecDepth 100000
set_option maxHeartbeats 1000000
-- isi
namespace LL
open PySem VL PyProof.Rows L2 Way
set_option autoImplicit false
/-! ### comprehensions over encoded things -/
theorem takeS {α : Type} {l : List α} {j : Nat} {x : α} (h : l[j]? = some x) : l.take (j + 1) = l.take j ++ [x] := by
  rw [List.take_add_one, h]
  rfl
theorem getM {α β : Type} {f : α → β} {l : List α} {j : Nat} {d : β} (h : (l.map f)[j]? = some d) : ∃ a, l[j]? = some a ∧ f a = d := by
  rw [List.getElem?_map] at h
  exact Option.map_eq_some_iff.mp h
theorem w_lcW {α : Type} {tg : Tg} {own : List Nat} {mt : M Bool} {me : M D} {E : XE} (l : List α) (enc res : α → D) (c : α → Bool) {Q : List D → VL.Env → Prop} {ρ : VL.Env}
    (hs : ∀ a ∈ l, wO (bindT tg (enc a) ρ) fun ρ1 => wM mt ρ1 (fun b ρ2 => b = c a ∧ wIf b (wM me ρ2 (fun x ρ3 => x = res a ∧ wipeE ρ3 own = ρ) VL.E0) (wipeE ρ2 own = ρ)) VL.E0)
    (hq : Q ((l.filter c).map res) ρ) : wM (lcL tg own mt me (l.map enc) []) ρ Q E := by
  refine w_lcI (k := 0) (fun j a ρ' => ρ' = ρ ∧ a = ((l.take j).filter c).map res) ⟨rfl, by simp⟩ ?_ ?_
  · rintro j d a ρ' hj ⟨rfl, rfl⟩
    obtain ⟨x, hx, rfl⟩ := getM hj
    rw [Nat.zero_add, takeS hx]
    obtain ⟨ρ1, e1, h⟩ := wO_get (hs x (List.mem_of_getElem? hx))
    rw [e1, wO_some]
    refine wM_imp h fun b ρ2 hp => ?_
    obtain ⟨e, hp⟩ := hp
    cases b with
    | false =>
      rw [wIf_false] at hp ⊢
      exact ⟨hp, by rw [List.filter_append, List.filter_cons_of_neg (by rw [← e]; decide)]; simp⟩
    | true =>
      rw [wIf_true] at hp ⊢
      refine wM_imp hp fun y ρ3 hq => ⟨hq.2, ?_⟩
      rw [List.filter_append, List.filter_cons_of_pos (by rw [← e]), hq.1]
      simp
  · rintro a ρ' ⟨rfl, rfl⟩
    rw [List.length_map, Nat.zero_add, List.take_length]
    exact hq
theorem w_lcWm {α : Type} {tg : Tg} {own : List Nat} {me : M D} {E : XE} (l : List α) (enc res : α → D) {Q : List D → VL.Env → Prop} {ρ : VL.Env}
    (hs : ∀ a ∈ l, wO (bindT tg (enc a) ρ) fun ρ1 => wM me ρ1 (fun x ρ3 => x = res a ∧ wipeE ρ3 own = ρ) VL.E0)
    (hq : Q (l.map res) ρ) : wM (lcL tg own (M.pure true) me (l.map enc) []) ρ Q E := by
  refine w_lcW l enc res (fun _ => true) (fun a ha => ?_) (by rw [List.filter_eq_self.mpr fun _ _ => rfl]; exact hq)
  obtain ⟨ρ1, e1, h⟩ := wO_get (hs a ha)
  rw [e1, wO_some, w_pure]
  refine ⟨rfl, ?_⟩
  rw [wIf_true]
  exact h
/-! ### sizes -/
abbrev nD (n : Nat) : D := .int (n : Int)
abbrev sz (s : List Nat) : List D := s.map nD
theorem intsW : ∀ s : List Nat, intsD (sz s) = some (s.map fun (n : Nat) => (n : Int))
  | [] => rfl
  | n :: s => by
    have := intsW s
    simp only [sz, List.map_cons, intsD, this]
    rfl
theorem sumW : ∀ s : List Nat, (s.map fun (n : Nat) => (n : Int)).sum = (s.sum : Int)
  | [] => rfl
  | n :: s => by
    rw [List.map_cons, List.sum_cons, List.sum_cons, sumW s]
    omega
theorem cSumW (s : List Nat) : cSum [.list (sz s)] = some (nD s.sum) := by
  show (intsD (sz s)).map (fun is => PyData.int is.sum) = _
  rw [intsW, Option.map_some, sumW]
theorem rng2W {n : Nat} (h : n < 2 ^ 60) : rng2 [.int 1, .int ((n : Int) + 1)] = some (rng 1 n) := by
  unfold rng2
  have e : (lim62 1 && lim62 ((n : Int) + 1)) = true := by
    unfold lim62
    simp only [Bool.and_eq_true, decide_eq_true_eq]
    omega
  have e2 : ((n : Int) + 1 - 1).toNat = n := by omega
  simp only [e, if_true, e2]
theorem woR_2 (p : Nat × Nat) : ∀ n, (woR p n).2 = p.2 + n
  | 0 => rfl
  | n + 1 => by
    unfold woR
    rw [List.range_succ, List.foldl_append]
    show ((List.range n).foldl (fun p i => woS p (i + 1)) p).2 + 1 = _
    have := woR_2 p n
    unfold woR at this
    rw [this]
    omega
theorem woF_2 : ∀ (s : List Nat) (p : Nat × Nat), (s.foldl woR p).2 = p.2 + s.sum
  | [], p => by simp
  | n :: s, p => by
    rw [List.foldl_cons, woF_2 s, woR_2, List.sum_cons]
    omega
theorem foldl_take {α β : Type} (f : β → α → β) (b : β) {l : List α} {j : Nat} {x : α} (h : l[j]? = some x) : (l.take (j + 1)).foldl f b = f ((l.take j).foldl f b) x := by
  rw [takeS h, List.foldl_append]
  rfl
theorem woR_succ (p : Nat × Nat) (n : Nat) : woR p (n + 1) = woS (woR p n) (n + 1) := by
  unfold woR
  rw [List.range_succ, List.foldl_append]
  rfl
theorem ways_of_eqn {s : List Nat} (hs : s.sum ≤ 1000) : f_ways_of [.list (sz s)] = .ok (nD (wo s), []) := by
  apply wX_eq
  unfold f_ways_of
  (simp_all! only)
  refine w_forI (k := 0) (fun j ρ => ∃ e3 e4 : Option D, ρ = [some (.list (sz s)), some (nD ((s.take j).foldl woR (1, 0)).1), some (nD ((s.take j).foldl woR (1, 0)).2), e3, e4]) ⟨_, _, rfl⟩ ?_ ?_
  · rintro j x ρ hj ⟨e3, e4, rfl⟩
    obtain ⟨n, hn, rfl⟩ := getM hj
    rw [Nat.zero_add, foldl_take woR _ hn]
    have hsum : (s.take j).sum + n ≤ s.sum := by
      have e1 : s.sum = (s.take j).sum + (s.drop j).sum := by rw [← List.sum_append, List.take_append_drop]
      have e2 : s.drop j = n :: s.drop (j + 1) := by
        have hl := (List.getElem?_eq_some_iff.mp hn).1
        rw [List.drop_eq_getElem_cons hl]
        congr 1
        exact (List.getElem?_eq_some_iff.mp hn).2
      rw [e1, e2, List.sum_cons]
      omega
    have ht := woF_2 (s.take j) (1, 0)
    generalize (s.take j).foldl woR (1, 0) = p at *
    have hp2 : p.2 + n ≤ 1000 := by
      have : p.2 = 0 + (s.take j).sum := ht
      omega
    (simp_all! only [rng2W (n := n) (by omega)])
    refine w_forI (k := 0) (fun i ρ => ∃ e3 e4 : Option D, ρ = [some (.list (sz s)), some (nD (woR p i).1), some (nD (woR p i).2), e3, e4]) ⟨_, _, rfl⟩ ?_ ?_
    · rintro i x ρ hi ⟨e3, e4, rfl⟩
      obtain ⟨hin, rfl⟩ := rng_get hi
      rw [Nat.zero_add, woR_succ]
      have hq := woR_2 p i
      generalize woR p i = q at *
      have e1 : ((woS q (i + 1)).1 : Int) = (q.1 : Int) * ((q.2 : Int) + 1) / (1 + (i : Int)) := by
        show ((q.1 * (q.2 + 1) / (i + 1) : Nat) : Int) = _
        rw [Int.natCast_ediv, Int.natCast_mul]
        congr 1
        omega
      have e2 : ((woS q (i + 1)).2 : Int) = (q.2 : Int) + 1 := by
        show ((q.2 + 1 : Nat) : Int) = _
        omega
      unfold nD
      rw [e1, e2]
      have g1 : gMul (.int (q.1 : Int)) (.int ((q.2 : Int) + 1)) = some (.int ((q.1 : Int) * ((q.2 : Int) + 1))) := gMul_r _ _ (by omega)
      have g2 := gFdv_int ((q.1 : Int) * ((q.2 : Int) + 1)) (1 + (i : Int)) (by omega)
      generalize (q.1 : Int) * ((q.2 : Int) + 1) = A at *
      (simp_all! only [g1, g2])
      exact ⟨_, _, rfl⟩
    · rintro ρ ⟨e3, e4, rfl⟩
      rw [rng_len, Nat.zero_add]
      exact ⟨_, _, rfl⟩
  · rintro ρ ⟨e3, e4, rfl⟩
    rw [List.length_map, Nat.zero_add, List.take_length]
    (simp_all! only)
    rfl
/-- rows that are handed in: tuples or lists -/
structure Rw (x : D) (R : List (List D)) : Prop where
  seq : ∃ f : List D → D, dSeq x = some (R.map f) ∧ ∀ r, cLen [f r] = some (nD r.length)
theorem rw_t (R : List (List D)) : Rw (.tuple (R.map .tuple)) R := ⟨.tuple, rfl, fun _ => rfl⟩
theorem rw_l (R : List (List D)) : Rw (.list (R.map .list)) R := ⟨.list, rfl, fun _ => rfl⟩
theorem how_many_eqn {x : D} {R : List (List D)} (h : Rw x R) (hl : R.length ≤ 1000) (hs : (R.map List.length).sum ≤ 1000) : f_how_many_ways [x] = .ok (nD (wo (R.map List.length)), []) := by
  obtain ⟨f, h1, h2⟩ := h.seq
  apply wX_eq
  unfold f_how_many_ways
  (simp_all! only [w_lc, h1])
  refine w_lcWm R f (fun r => nD r.length) (fun r _ => ?_) ?_
  · (simp_all! only [h2])
  · have e : (R.map fun r => nD r.length) = sz (R.map List.length) := by
      unfold sz
      rw [List.map_map]
      rfl
    rw [e]
    (simp_all! only [ways_of_eqn hs])
theorem dec_get {s : List Nat} {k i : Nat} (hk : 0 < aw0 s k) (hi : i < s.length) : ((aw0 (dec s k) i : Nat) : Int) = (aw0 s i : Int) - (if i = k then 1 else 0) := by
  unfold dec aw0
  rw [List.getD_eq_getElem?_getD, List.getD_eq_getElem?_getD]
  by_cases c : i = k
  · subst c
    rw [List.getElem?_set_self hi, if_pos rfl, List.getElem?_eq_getElem hi]
    unfold aw0 at hk
    rw [List.getD_eq_getElem?_getD, List.getElem?_eq_getElem hi] at hk
    simp only [Option.getD_some] at hk ⊢
    rw [List.getD_eq_getElem?_getD, List.getElem?_eq_getElem hi, Option.getD_some]
    omega
  · rw [List.getElem?_set_ne (fun e => c e.symm), if_neg c, Int.sub_zero, List.getD_eq_getElem?_getD]
theorem enumW (s : List Nat) : enumL 0 (sz s) = (List.range s.length).map fun i => PyData.tuple [nD i, nD (aw0 s i)] := by
  apply List.ext_getElem?
  intro i
  rw [List.getElem?_map]
  by_cases c : i < s.length
  · rw [List.getElem?_range c, Option.map_some]
    have hl : i < (enumL 0 (sz s)).length := by rw [enumL_len, List.length_map]; exact c
    obtain ⟨e, h1, h2⟩ := enumL_get (List.getElem?_eq_getElem hl)
    rw [List.getElem?_eq_getElem hl, h2]
    obtain ⟨n, hn, rfl⟩ := getM h1
    rw [aw0_get c] at hn
    cases hn
    rw [Nat.zero_add]
  · rw [List.getElem?_eq_none (by rw [enumL_len, List.length_map]; omega), List.getElem?_eq_none (by rw [List.length_range]; omega)]
    rfl
theorem one_less_eqn {s : List Nat} {k : Nat} (hk : 0 < aw0 s k) (hl : s.length ≤ 1000) : f_one_less [.list (sz s), nD k] = .ok (.list (sz (dec s k)), []) := by
  apply wX_eq
  unfold f_one_less
  have he : cEnum [.list (sz s)] = some (enumL 0 (sz s)) := rfl
  have hln : (enumL 0 (sz s)).length ≤ 1000 := by rw [enumL_len, List.length_map]; exact hl
  (simp_all! only [w_lc, he])
  rw [enumW s]
  refine w_lcWm (List.range s.length) (fun i => PyData.tuple [nD i, nD (aw0 s i)]) (fun i => nD (aw0 (dec s k) i)) (fun i hi => ?_) ?_
  · have hd := dec_get hk (List.mem_range.mp hi)
    unfold nD
    rw [hd]
    by_cases c : i = k
    · subst c
      have g : gEq (.int (i : Int)) (.int (i : Int)) = some (.bool true) := by rw [gEq_int]; simp
      (simp_all! only [g])
      try simp
    · have g : gEq (.int (i : Int)) (.int (k : Int)) = some (.bool false) := by
        rw [gEq_int]
        have : ¬ ((i : Int) = (k : Int)) := by omega
        simp [this]
      (simp_all! only [g])
      try simp [c]
  · have e : ((List.range s.length).map fun i => nD (aw0 (dec s k) i)) = sz (dec s k) := by
      apply List.ext_getElem?
      intro i
      unfold sz
      rw [List.getElem?_map, List.getElem?_map]
      by_cases c : i < s.length
      · rw [List.getElem?_range c, aw0_get (by rw [dec_len]; exact c)]
        rfl
      · rw [List.getElem?_eq_none (by rw [List.length_range]; omega), List.getElem?_eq_none (by rw [dec_len]; omega)]
        rfl
    rw [e]
    (simp_all! only)
end LL
end

section
set_option Elab.async false
set_option linter.all false
set_option maxRecDepth 100000
set_option maxHeartbeats 1000000
-- isi
namespace LL
open PySem VL PyProof.Rows L2 Way
set_option autoImplicit false
/-! ### nth_way -/
abbrev nthT : M Bool := mTruth (m2 gGt (mCall cSum (mCons (mVar 2) mNil)) (mC (.int 0)))
abbrev nthF : M Fl := mSeq (mSet 7 (mIf (mTruth (m2 gGt (mVar 6) (mC (.int 0)))) (mCallF f_ways_of [.dat] (mCons (mCallF f_one_less [.dat, .dat] (mCons (mVar 2) (mCons (mVar 5) mNil))) mNil)) (mC (.int 0))))
  (mSeq (mIfS (mTruth (m2 gLt (mVar 3) (mVar 7)))
  (M.pure .bk)
  mNx)
  (mAug (fun i j => i - j) 3 (mVar 7)))
abbrev nthB : M Fl := mSeq (mFor (.tp [(.nm 5), (.nm 6)]) (mRng cEnum (mCons (mVar 2) mNil)) nthF)
  (mSeq (mSet 2 (mCallF f_one_less [.dat, .dat] (mCons (mVar 2) (mCons (mVar 5) mNil))))
  (mDrop (mApp 4 (mVar 5))))
theorem nth_for {n : Nat} {s : List Nat} (ok : Ok s) (hn : s.sum = n + 1) {r : Nat} (hr : r < pre n s s.length) {x0 x1 x4 x5 x6 x7 x8 : Option D} {E : XE} {Q : Fl → VL.Env → Prop}
    (hQ : ∀ k r' e6 e7, k < s.length → r = pre n s k + r' → r' < (B n s k).length → Q .nx [x0, x1, some (.list (sz s)), some (nD r'), x4, some (nD k), e6, e7, x8]) :
    wM (mFor (.tp [(.nm 5), (.nm 6)]) (mRng cEnum (mCons (mVar 2) mNil)) nthF) [x0, x1, some (.list (sz s)), some (nD r), x4, x5, x6, x7, x8] Q E := by
  have he : cEnum [.list (sz s)] = some (enumL 0 (sz s)) := rfl
  have hln : (enumL 0 (sz s)).length ≤ 1000 := by rw [enumL_len, List.length_map]; have := ok.len; omega
  (simp_all! only [he])
  rw [enumW s]
  refine w_forI (k := 0) (fun j ρ => pre n s j ≤ r ∧ ∃ e5 e6 e7 : Option D, ρ = [x0, x1, some (.list (sz s)), some (.int ((r : Int) - (pre n s j : Nat))), x4, e5, e6, e7, x8]) ⟨Nat.zero_le _, x5, x6, x7, by rw [show pre n s 0 = 0 from rfl]; simp [nD]⟩ ?_ ?_
  · rintro j x ρ hj ⟨hle, e5, e6, e7, rfl⟩
    obtain ⟨k, hk, rfl⟩ := getM hj
    rw [Nat.zero_add] at hle ⊢
    have hjl : j < s.length := by
      have := (List.getElem?_eq_some_iff.mp hk).1
      rwa [List.length_range] at this
    rw [List.getElem?_range hjl] at hk
    cases hk
    have hb := B_len ok hn j
    have ps := pre_succ n s j
    have lens := ok.len
    by_cases c : 0 < aw0 s j
    · rw [if_pos c] at hb
      have ho := one_less_eqn (k := j) c (by omega : s.length ≤ 1000)
      have hw := ways_of_eqn (s := dec s j) (by have := dec_sum c; have := ok.sum; omega)
      have gg : ((aw0 s j : Int) > 0) = True := eq_true (by omega)
      rw [← hb] at hw
      have hw : f_ways_of [.list (sz (dec s j))] = .ok (.int ((B n s j).length : Int), []) := hw
      have ho : f_one_less [.list (sz s), .int (j : Int)] = .ok (.list (sz (dec s j)), []) := ho
      (simp_all! only [gg, ho, hw])
      refine wIf_dec (fun hc => ?_) fun hc => ?_
      · (simp_all! only)
        have := hQ j (r - pre n s j) (some (nD (aw0 s j))) (some (.int ((B n s j).length : Int))) hjl (by omega) (by omega)
        have e : ((r - pre n s j : Nat) : Int) = (r : Int) - (pre n s j : Nat) := by omega
        unfold nD at this
        rw [e] at this
        exact this
      · (simp_all! only)
        have e : (r : Int) - (pre n s j : Nat) - ((B n s j).length : Nat) = (r : Int) - (pre n s (j + 1) : Nat) := by omega
        rw [e]
        exact ⟨by omega, _, _, _, rfl⟩
    · rw [if_neg c] at hb
      have gg : ((aw0 s j : Int) > 0) = False := eq_false (by omega)
      have g2 : ((r : Int) - (pre n s j : Nat) < 0) = False := eq_false (by omega)
      (simp_all! only [gg, g2])
      have e : (r : Int) - (pre n s j : Nat) - 0 = (r : Int) - (pre n s (j + 1) : Nat) := by omega
      rw [e]
      exact ⟨by omega, _, _, _, rfl⟩
  · rintro ρ ⟨hle, e5, e6, e7, rfl⟩
    rw [List.length_map, List.length_range, Nat.zero_add] at hle
    omega
theorem nth_loop {x0 x1 x8 : Option D} {E : XE} {Q : Fl → VL.Env → Prop} : ∀ {n : Nat} {s : List Nat} {r : Nat} {w acc : List Nat} {fuel : Nat} {x5 x6 x7 : Option D}, Ok s → s.sum = n → n < fuel → (W n s)[r]? = some w → acc.length + n ≤ 1000 →
    (∀ s' r' e5 e6 e7, Q .nx [x0, x1, s', r', some (.list (sz (acc ++ w))), e5, e6, e7, x8]) → wM (whL nthT nthB fuel) [x0, x1, some (.list (sz s)), some (nD r), some (.list (sz acc)), x5, x6, x7, x8] Q E
  | n, s, r, w, acc, 0, _, _, _, _, _, hf, _, _, _ => by omega
  | 0, s, r, w, acc, fuel + 1, x5, x6, x7, ok, hn, hf, hw, hl, hQ => by
    have hs := cSumW s
    rw [hn] at hs
    have hs : cSum [.list (sz s)] = some (.int 0) := hs
    have e : w = [] := by
      unfold W at hw
      cases r with
      | zero => simpa using hw.symm
      | succ r => simp at hw
    subst e
    rw [List.append_nil] at hQ
    rw [w_whS]
    (simp_all! only [hs])
    exact hQ _ _ _ _ _
  | n + 1, s, r, w, acc, fuel + 1, x5, x6, x7, ok, hn, hf, hw, hl, hQ => by
    have hs := cSumW s
    rw [hn] at hs
    have hs : cSum [.list (sz s)] = some (.int ((n + 1 : Nat) : Int)) := hs
    have gg : (((n + 1 : Nat) : Int) > 0) = True := eq_true (by omega)
    have hlen := (List.getElem?_eq_some_iff.mp hw).1
    rw [← pre_all] at hlen
    rw [w_whS]
    (simp_all_arith! only [hs, gg])
    rw [w_seq]
    refine nth_for ok hn hlen fun k r' e6 e7 hk hr hr' => ?_
    obtain ⟨hc, w', hw', hat⟩ := W_at hk hr'
    rw [← hr, hw] at hat
    obtain rfl := Option.some.inj hat
    have ho : f_one_less [.list (sz s), .int (k : Int)] = .ok (.list (sz (dec s k)), []) := one_less_eqn (k := k) hc (by have := ok.len; omega)
    have hsz : (sz acc).length ≤ 1000 := by rw [List.length_map]; omega
    (simp_all! only [ho])
    have ea : sz acc ++ [PyData.int (k : Int)] = sz (acc ++ [k]) := by
      unfold sz
      rw [List.map_append]
      rfl
    rw [ea]
    refine nth_loop (n := n) (s := dec s k) (w := w') (acc := acc ++ [k]) (fuel := fuel) (ok.dec hc) (by have := dec_sum hc; omega) (by omega) hw' ?_ fun s' r'' e5 e6 e7 => ?_
    · rw [List.length_append, List.length_singleton]
      omega
    · have := hQ s' r'' e5 e6 e7
      rwa [List.append_assoc]
theorem lensW {f : List D → D} {R : List (List D)} (h2 : ∀ r, cLen [f r] = some (nD r.length)) {own : List Nat} {i : Nat} {Q : List D → VL.Env → Prop} {E : XE} {ρ : VL.Env}
    (hw : ∀ d, wipeE (ρ.set i (some d)) own = ρ) (hi : ∀ d : D, (ρ.set i (some d))[i]? = some (some d)) (hq : Q (sz (R.map List.length)) ρ) : wM (lcL (.nm i) own (M.pure true) (mCall cLen (mCons (mVar i) mNil)) (R.map f) []) ρ Q E := by
  refine w_lcWm R f (fun r => nD r.length) (fun r _ => ?_) ?_
  · rw [bindT_nm, wO_some]
    (simp_all! only [hi, h2, hw])
  · have e : (R.map fun r => nD r.length) = sz (R.map List.length) := by
      unfold sz
      rw [List.map_map]
      rfl
    rw [e]
    exact hq
theorem nth_ok {x : D} {R : List (List D)} (h : Rw x R) (ok : Ok (R.map List.length)) {r : Nat} {w : List Nat} (hw : (W (R.map List.length).sum (R.map List.length))[r]? = some w) : f_nth_way [x, nD r] = .ok (.tuple (sz w), []) := by
  obtain ⟨f, h1, h2⟩ := h.seq
  have hlen := ok.len
  rw [List.length_map] at hlen
  have hwo := ways_of_eqn (s := R.map List.length) (by have := ok.sum; omega)
  have hr := (List.getElem?_eq_some_iff.mp hw).1
  rw [← ok.wo.1] at hr
  have hwo : f_ways_of [.list (sz (R.map List.length))] = .ok (.int (wo (R.map List.length) : Nat), []) := hwo
  have c1 : ((0 : Int) ≤ (r : Int)) = True := eq_true (by omega)
  have c2 : ((r : Int) < (wo (R.map List.length) : Nat)) = True := eq_true (by omega)
  apply wX_eq
  unfold f_nth_way
  (simp_all! only [w_lc, h1])
  refine lensW h2 (fun d => rfl) (fun d => rfl) ?_
  (simp_all! only [hwo, c1, c2, w_wh])
  refine nth_loop (acc := []) ok rfl (by have := ok.sum; omega) hw (by have := ok.sum; simp; omega) fun s' r' e5 e6 e7 => ?_
  (simp_all! only [List.nil_append])
theorem nth_no {x : D} {R : List (List D)} (h : Rw x R) (ok : Ok (R.map List.length)) {z : Int} (hz : ¬ (0 ≤ z ∧ z < (wo (R.map List.length) : Nat))) : f_nth_way [x, .int z] = .exc 2 [.int z] [] := by
  obtain ⟨f, h1, h2⟩ := h.seq
  have hlen := ok.len
  rw [List.length_map] at hlen
  have hwo : f_ways_of [.list (sz (R.map List.length))] = .ok (.int (wo (R.map List.length) : Nat), []) := ways_of_eqn (s := R.map List.length) (by have := ok.sum; omega)
  apply wX_exc_eq
  unfold f_nth_way
  (simp_all! only [w_lc, h1])
  refine lensW h2 (fun d => rfl) (fun d => rfl) ?_
  by_cases c : 0 ≤ z
  · have c1 : ((0 : Int) ≤ z) = True := eq_true c
    have c2 : (z < (wo (R.map List.length) : Nat)) = False := eq_false fun e => hz ⟨c, e⟩
    (simp_all! only [hwo, c1, c2])
  · have c1 : ((0 : Int) ≤ z) = False := eq_false c
    (simp_all! only [hwo, c1])
/-! ### number_of_way -/
abbrev numB : M Fl := mSeq (mAug (fun i j => i + j) 3 (mCall cSum (mCons (mLc (.nm 6) [6] (mRng rng1 (mCons (mVar 4) mNil)) (mTruth (m2 gGt (m2 gIx (mVar 2) (mVar 6)) (mC (.int 0)))) (mCallF f_ways_of [.dat] (mCons (mCallF f_one_less [.dat, .dat] (mCons (mVar 2) (mCons (mVar 6) mNil))) mNil))) mNil)))
  (mSet 2 (mCallF f_one_less [.dat, .dat] (mCons (mVar 2) (mCons (mVar 4) mNil))))
theorem pre_sum {n : Nat} {s : List Nat} (ok : Ok s) (hn : s.sum = n + 1) : ∀ k, ((((List.range k).filter fun p => decide (0 < aw0 s p)).map fun p => wo (dec s p))).sum = pre n s k
  | 0 => rfl
  | k + 1 => by
    rw [List.range_succ, List.filter_append, List.map_append, List.sum_append, pre_sum ok hn k, pre_succ]
    congr 1
    have hb := B_len ok hn k
    by_cases c : 0 < aw0 s k
    · rw [if_pos c] at hb
      rw [List.filter_cons_of_pos (by simpa using c), hb]
      simp
    · rw [if_neg c] at hb
      rw [List.filter_cons_of_neg (by simpa using c), hb]
      rfl
theorem sz_get {s : List Nat} {k : Nat} (h : k < s.length) : (sz s)[k]? = some (.int (aw0 s k : Nat)) := by
  unfold sz
  rw [List.getElem?_map, aw0_get h]
  rfl
theorem num_loop {x0 x1 : Option D} {E : XE} {Q : Fl → VL.Env → Prop} : ∀ {n : Nat} {s : List Nat} {r acc : Nat} {w : List Nat} {x4 x5 : Option D}, Ok s → s.sum = n → (W n s)[r]? = some w →
    (∀ s' e4, Q .nx [x0, x1, s', some (nD (acc + r)), e4, x5, none]) → wM (forL (.nm 4) numB (sz w)) [x0, x1, some (.list (sz s)), some (nD acc), x4, x5, none] Q E
  | 0, s, r, acc, w, x4, x5, ok, hn, hw, hQ => by
    unfold W at hw
    cases r with
    | zero =>
      obtain rfl : w = [] := by simpa using hw.symm
      show wM (forL (.nm 4) numB []) _ Q E
      rw [w_forL_nil]
      exact hQ _ _
    | succ r => simp at hw
  | n + 1, s, r, acc, w, x4, x5, ok, hn, hw, hQ => by
    obtain ⟨k, r', v, hk, rfl, hc, rfl, hv⟩ := W_split hw
    show wM (forL (.nm 4) numB (nD k :: sz v)) _ Q E
    have hl := ok.len
    have hg : gIx (.list (sz s)) (.int (k : Int)) = some (.int (aw0 s k : Nat)) := VL.atI_nat (sz_get hk)
    rw [w_forL_cons]
    (simp_all! only [w_lc, rng1_nat (k := k) (by omega), rng_len])
    have er : rng 0 k = (List.range k).map fun (p : Nat) => PyData.int ((0 : Int) + (p : Int)) := rfl
    rw [er]
    refine w_lcW (List.range k) (fun (p : Nat) => PyData.int ((0 : Int) + (p : Int))) (fun p => nD (wo (dec s p))) (fun p => decide (0 < aw0 s p)) (fun p hp => ?_) ?_
    · have hp := List.mem_range.mp hp
      have e0 : (0 : Int) + (p : Int) = (p : Int) := by omega
      have hgp : gIx (.list (sz s)) (.int (p : Int)) = some (.int (aw0 s p : Nat)) := VL.atI_nat (sz_get (by omega))
      have ed : decide ((aw0 s p : Int) > 0) = decide (0 < aw0 s p) := decide_eq_decide.mpr (by omega)
      (simp_all! only [e0, hgp, ed])
      refine wIf_dec (fun c => ?_) fun c => ?_
      · have ho : f_one_less [.list (sz s), .int (p : Int)] = .ok (.list (sz (dec s p)), []) := one_less_eqn (k := p) c (by omega)
        have hwo := ways_of_eqn (s := dec s p) (by have := dec_sum c; have := ok.sum; omega)
        (simp_all! only [ho, hwo])
      · rfl
    · have hsum : cSum [.list (((List.range k).filter fun p => decide (0 < aw0 s p)).map fun p => nD (wo (dec s p)))] = some (nD (pre n s k)) := by
        have := cSumW (((List.range k).filter fun p => decide (0 < aw0 s p)).map fun p => wo (dec s p))
        unfold sz at this
        rw [List.map_map, pre_sum ok hn k] at this
        exact this
      have hsum : cSum [.list (((List.range k).filter fun p => decide (0 < aw0 s p)).map fun p => nD (wo (dec s p)))] = some (.int (pre n s k : Nat)) := hsum
      have ho : f_one_less [.list (sz s), .int (k : Int)] = .ok (.list (sz (dec s k)), []) := one_less_eqn (k := k) hc (by omega)
      (simp_all! only [hsum, ho])
      have e : (acc : Int) + (pre n s k : Nat) = ((acc + pre n s k : Nat) : Int) := by omega
      rw [e]
      refine num_loop (n := n) (s := dec s k) (r := r') (acc := acc + pre n s k) (w := v) (ok.dec hc) (by have := dec_sum hc; omega) hv fun s' e4 => ?_
      have := hQ s' e4
      rw [Nat.add_assoc]
      exact this
theorem number_eqn {x y : D} {R : List (List D)} (h : Rw x R) (ok : Ok (R.map List.length)) {r : Nat} {w : List Nat} (hy : dSeq y = some (sz w)) (hw : (W (R.map List.length).sum (R.map List.length))[r]? = some w) : f_number_of_way [x, y] = .ok (nD r, []) := by
  obtain ⟨f, h1, h2⟩ := h.seq
  have hlen := ok.len
  rw [List.length_map] at hlen
  apply wX_eq
  unfold f_number_of_way
  (simp_all! only [w_lc, h1])
  refine lensW h2 (fun d => rfl) (fun d => rfl) ?_
  (simp_all! only [hy])
  refine num_loop (acc := 0) ok rfl hw fun s' e4 => ?_
  (simp_all! only [Nat.zero_add])
end LL
end

section
set_option Elab.async false
set_option linter.all false
set_option maxRecDepth 100000
set_option maxHeartbeats 1000000
-- isi
namespace LL
open PySem VL PyProof.Rows L2 Way
set_option autoImplicit false
/-! ### the law's own ways -/
def pqD (q : List Nat × List Nat) : D := .tuple [.tuple (sz q.1), .tuple (sz q.2)]
structure FOk (t n : Nat) (q : List Nat × List Nat) : Prop where
  ok : Ok q.2
  len : q.1.length = t
  sum : q.2.sum + t = n
theorem fnd_ok {s : List Nat} (ok : Ok s) : ∀ {t : Nat}, t ≤ s.sum → ∀ q ∈ fnd s t, FOk t s.sum q
  | 0, _, q, hq => by
    obtain rfl := List.mem_singleton.mp hq
    exact ⟨ok, rfl, rfl⟩
  | t + 1, ht, q, hq => by
    obtain ⟨p, hp, hq⟩ := List.mem_flatMap.mp hq
    obtain ⟨k, hk, rfl⟩ := List.mem_map.mp hq
    have hk := of_decide_eq_true (List.mem_filter.mp hk).2
    have ih := fnd_ok ok (t := t) (by omega) p hp
    have h1 := ih.len
    have h2 := ih.sum
    have h3 := dec_sum hk
    refine ⟨ih.ok.dec hk, by rw [List.length_append, h1]; rfl, ?_⟩
    show (Way.dec p.2 k).sum + (t + 1) = s.sum
    omega
theorem W_pos : ∀ {n : Nat} {s : List Nat}, s.sum = n → 0 < (W n s).length
  | 0, _, _ => by show 0 < 1; decide
  | n + 1, s, h => by
    obtain ⟨k, hk⟩ : ∃ k, 0 < aw0 s k := by
      have : ∃ x ∈ s, 0 < x := by
        apply Classical.byContradiction
        intro hn
        have hz : ∀ x ∈ s, x = 0 := fun x hx => by
          have : ¬ 0 < x := fun c => hn ⟨x, hx, c⟩
          omega
        have : s.sum = 0 := by
          clear h hn
          induction s with
          | nil => rfl
          | cons y s ih =>
            rw [List.sum_cons, hz y List.mem_cons_self, ih fun x hx => hz x (List.mem_cons_of_mem _ hx)]
        omega
      obtain ⟨x, hx, hp⟩ := this
      obtain ⟨k, hk⟩ := List.getElem?_of_mem hx
      refine ⟨k, ?_⟩
      unfold aw0
      rw [List.getD_eq_getElem?_getD, hk]
      exact hp
    have ih := W_pos (n := n) (s := Way.dec s k) (by have := dec_sum hk; omega)
    rw [W_places]
    have hm : k ∈ places s := List.mem_filter.mpr ⟨List.mem_range.mpr (aw0_lt hk), by simpa using hk⟩
    obtain ⟨w, hw⟩ := List.exists_mem_of_length_pos ih
    exact List.length_pos_of_mem (List.mem_flatMap.mpr ⟨k, hm, List.mem_map.mpr ⟨w, hw, rfl⟩⟩)
theorem fnd_len {s : List Nat} (ok : Ok s) {t : Nat} (ht : t ≤ s.sum) : (fnd s t).length ≤ 180 := by
  have h := fnd_inv s t (s.sum - t)
  rw [show t + (s.sum - t) = s.sum by omega] at h
  have h2 := ok.wo
  rw [h2.1, ← h, List.length_flatMap] at h2
  have h3 := fnd_ok ok ht
  have : ∀ l : List (List Nat × List Nat), (∀ q ∈ l, FOk t s.sum q) → l.length ≤ (l.map fun q => ((W (s.sum - t) q.2).map (q.1 ++ ·)).length).sum := by
    intro l
    induction l with
    | nil => intro _; exact Nat.le_refl _
    | cons q l ih =>
      intro hl
      rw [List.map_cons, List.sum_cons, List.length_cons, List.length_map]
      have h4 := ih fun p hp => hl p (List.mem_cons_of_mem _ hp)
      have h5 := W_pos (n := s.sum - t) (s := q.2) (by have := (hl q List.mem_cons_self).sum; omega)
      omega
  have := this _ h3
  omega
theorem cutW1 (s : List Nat) (k : Nat) : VL.cutD (sz s) none (some (k : Int)) = sz (s.take k) := by
  rw [cut_to]
  unfold sz
  rw [List.map_take]
theorem cutW2 (s : List Nat) (k : Nat) : VL.cutD (sz s) (some (k : Int)) none = sz (s.drop k) := by
  rw [cut_from]
  unfold sz
  rw [List.map_drop]
theorem dec_cut {s : List Nat} {k : Nat} (hk : 0 < aw0 s k) : sz (s.take k) ++ [PyData.int ((aw0 s k : Int) - 1)] ++ sz (s.drop (k + 1)) = sz (Way.dec s k) := by
  have hl := aw0_lt hk
  have e : Way.dec s k = s.take k ++ [aw0 s k - 1] ++ s.drop (k + 1) := by
    unfold Way.dec
    rw [List.set_eq_take_append_cons_drop, if_pos hl]
    simp
  rw [e]
  unfold sz
  rw [List.map_append, List.map_append]
  congr 2
  show _ = [nD (aw0 s k - 1)]
  congr 2
  omega
theorem law_ways_eqn {s : List Nat} (ok : Ok s) : f__law_ways [.list (sz s)] = .ok (.list ((W s.sum s).map fun w => .tuple (sz w)), []) := by
  have hs := cSumW s
  have hsum := ok.sum
  apply wX_eq
  unfold f__law_ways
  (simp_all! only [hs, rng1_nat (k := s.sum) (by omega)])
  refine w_forI (k := 0) (fun j ρ => j ≤ s.sum ∧ ∃ e2 e3 e4 e5 e6 : Option D, ρ = [some (.list (sz s)), some (.list ((fnd s j).map pqD)), e2, e3, e4, e5, e6, none]) ⟨Nat.zero_le _, _, _, _, _, _, rfl⟩ ?_ ?_
  · rintro j x ρ hj ⟨_, e2, e3, e4, e5, e6, rfl⟩
    obtain ⟨hjs, rfl⟩ := rng_get hj
    rw [Nat.zero_add]
    have hfl := fnd_len ok (t := j + 1) (by omega)
    have hfo := fnd_ok ok (t := j) (by omega)
    (simp_all! only)
    refine w_forI (k := 0) (fun i ρ => ∃ e2 e4 e5 e6 : Option D, ρ = [some (.list (sz s)), some (.list ((fnd s j).map pqD)), e2, some (.list ((nxt ((fnd s j).take i)).map pqD)), e4, e5, e6, none]) ⟨_, _, _, _, rfl⟩ ?_ ?_
    · rintro i x ρ hi ⟨e2, e4, e5, e6, rfl⟩
      obtain ⟨q, hq, rfl⟩ := getM hi
      rw [Nat.zero_add]
      have fo := hfo q (List.mem_of_getElem? hq)
      have fl := fo.ok.len
      have ft := fo.len
      have hle : (nxt ((fnd s j).take (i + 1))).length ≤ 180 := by
        refine Nat.le_trans ?_ hfl
        show _ ≤ (nxt (fnd s j)).length
        have e : nxt (fnd s j) = nxt ((fnd s j).take (i + 1)) ++ nxt ((fnd s j).drop (i + 1)) := by
          unfold nxt
          rw [← List.flatMap_append, List.take_append_drop]
        rw [e, List.length_append]
        omega
      have en : nxt ((fnd s j).take (i + 1)) = nxt ((fnd s j).take i) ++ (places q.2).map fun k => (q.1 ++ [k], Way.dec q.2 k) := by
        rw [takeS hq]
        unfold nxt
        rw [List.flatMap_append]
        simp
      rw [en] at hle ⊢
      generalize nxt ((fnd s j).take i) = L at *
      have hb : ∀ ρ : VL.Env, bindT (.tp [(.nm 4), (.nm 5)]) (pqD q) ρ = some ((ρ.set 4 (some (.tuple (sz q.1)))).set 5 (some (.tuple (sz q.2)))) := fun _ => rfl
      have hc : cLen [.tuple (sz q.2)] = some (.int (q.2.length : Int)) := by
        show some (PyData.int ((sz q.2).length : Int)) = _
        rw [List.length_map]
      rw [hb, wO_some]
      (simp_all! only [w_lc, hc, rng1_nat (k := q.2.length) (by omega), rng_len])
      have er : rng 0 q.2.length = (List.range q.2.length).map fun (p : Nat) => PyData.int ((0 : Int) + (p : Int)) := rfl
      rw [er]
      refine w_lcW (List.range q.2.length) (fun (p : Nat) => PyData.int ((0 : Int) + (p : Int))) (fun p => nD p) (fun p => decide (0 < aw0 q.2 p)) (fun p hp => ?_) ?_
      · have hp := List.mem_range.mp hp
        have e0 : (0 : Int) + (p : Int) = (p : Int) := by omega
        have hgp : gIx (.tuple (sz q.2)) (.int (p : Int)) = some (.int (aw0 q.2 p : Nat)) := VL.atI_nat (sz_get hp)
        have ed : decide ((aw0 q.2 p : Int) > 0) = decide (0 < aw0 q.2 p) := decide_eq_decide.mpr (by omega)
        (simp_all! only [e0, hgp, ed])
        exact wIf_in (fun _ => by first | rfl | (simp_all! only)) fun _ => by first | rfl | (simp_all! only)
      · have epl : (List.filter (fun p => decide (0 < aw0 q.2 p)) (List.range q.2.length)) = places q.2 := rfl
        rw [epl] 
        have hpos : ∀ k ∈ places q.2, 0 < aw0 q.2 k := fun k hk => of_decide_eq_true (List.mem_filter.mp hk).2
        rw [List.length_append, List.length_map] at hle
        generalize places q.2 = ks at *
        (simp_all! only)
        refine w_forI (k := 0) (fun c ρ => ∃ e2 e6 : Option D, ρ = [some (.list (sz s)), some (.list ((fnd s j).map pqD)), e2, some (.list ((L ++ (ks.take c).map fun k => (q.1 ++ [k], Way.dec q.2 k)).map pqD)), some (.tuple (sz q.1)), some (.tuple (sz q.2)), e6, none]) ⟨_, _, by rw [List.take_zero, List.map_nil, List.append_nil]⟩ ?_ ?_
        · rintro c x ρ hx ⟨e2, e6, rfl⟩
          obtain ⟨k, hk, rfl⟩ := getM hx
          have hkp := hpos k (List.mem_of_getElem? hk)
          have hkl := aw0_lt hkp
          have hcl : c < ks.length := (List.getElem?_eq_some_iff.mp hk).1
          rw [Nat.zero_add, takeS hk]
          have hg : gIx (.tuple (sz q.2)) (.int (k : Int)) = some (.int (aw0 q.2 k : Nat)) := VL.atI_nat (sz_get hkl)
          have s1 := cutW1 q.2 k
          have s2 : VL.cutD (sz q.2) (some ((k : Int) + 1)) none = sz (q.2.drop (k + 1)) := by
            rw [show ((k : Int) + 1) = ((k + 1 : Nat) : Int) by omega, cutW2]
          have t1 : (sz (q.2.take k)).length ≤ 4 := by rw [List.length_map, List.length_take]; omega
          have t2 : (sz (q.2.drop (k + 1))).length ≤ 4 := by rw [List.length_map, List.length_drop]; omega
          have t3 : (sz q.1).length ≤ 6 := by rw [List.length_map]; omega
          have a1 : gAdd (.tuple (sz (q.2.take k))) (.tuple [.int ((aw0 q.2 k : Int) - 1)]) = some (.tuple (sz (q.2.take k) ++ [.int ((aw0 q.2 k : Int) - 1)])) := gAdd_t (by simp only [List.length_cons, List.length_nil]; omega)
          have a2 : gAdd (.tuple (sz (q.2.take k) ++ [.int ((aw0 q.2 k : Int) - 1)])) (.tuple (sz (q.2.drop (k + 1)))) = some (.tuple (sz (Way.dec q.2 k))) := by
            rw [gAdd_t (by rw [List.length_append]; simp only [List.length_cons, List.length_nil]; omega), dec_cut hkp]
          have a3 : gAdd (.tuple (sz q.1)) (.tuple [.int (k : Int)]) = some (.tuple (sz (q.1 ++ [k]))) := by
            rw [gAdd_t (by simp only [List.length_cons, List.length_nil]; omega)]
            unfold sz
            rw [List.map_append]
            rfl
          have hsz : ((L ++ (ks.take c).map fun k => (q.1 ++ [k], Way.dec q.2 k)).map pqD).length < sizeLine := by
            rw [List.length_map, List.length_append, List.length_map, List.length_take, PySem.sizeLine_eq]
            omega
          have ef : (L ++ (ks.take c ++ [k]).map fun k => (q.1 ++ [k], Way.dec q.2 k)).map pqD = (L ++ (ks.take c).map fun k => (q.1 ++ [k], Way.dec q.2 k)).map pqD ++ [.tuple [.tuple (sz (q.1 ++ [k])), .tuple (sz (Way.dec q.2 k))]] := by
            have e9 : (ks.take c ++ [k]).map (fun k => (q.1 ++ [k], Way.dec q.2 k)) = (ks.take c).map (fun k => (q.1 ++ [k], Way.dec q.2 k)) ++ [(q.1 ++ [k], Way.dec q.2 k)] := by
              rw [List.map_append]
              rfl
            rw [e9, ← List.append_assoc, List.map_append]
            rfl
          rw [ef]
          generalize (L ++ (ks.take c).map fun k => (q.1 ++ [k], Way.dec q.2 k)).map pqD = M at *
          (simp_all! only [hg, s1, s2, a1, a2, a3, hsz])
          exact ⟨_, _, rfl⟩
        · rintro ρ ⟨e2, e6, rfl⟩
          rw [List.length_map, Nat.zero_add, List.take_length]
          exact ⟨_, _, _, _, rfl⟩
    · rintro ρ ⟨e2, e4, e5, e6, rfl⟩
      rw [List.length_map, Nat.zero_add, List.take_length]
      (simp_all! only)
      exact ⟨by omega, _, _, _, _, _, rfl⟩
  · rintro ρ ⟨_, e2, e3, e4, e5, e6, rfl⟩
    rw [rng_len, Nat.zero_add]
    have hfl := fnd_len ok (t := s.sum) (Nat.le_refl _)
    (simp_all! only [w_lc])
    refine w_lcWm (fnd s s.sum) pqD (fun q => .tuple (sz q.1)) (fun q _ => ?_) ?_
    · have hg : gIx (pqD q) (.int 0) = some (.tuple (sz q.1)) := rfl
      (simp_all! only [hg])
    · have e : ((fnd s s.sum).map fun q => PyData.tuple (sz q.1)) = (W s.sum s).map fun w => .tuple (sz w) := by
        rw [← fnd_end, List.map_map]
        rfl
      rw [e]
      (simp_all! only)
end LL
end

section
set_option Elab.async false
set_option linter.all false
set_option maxRecDepth 100000
set_option maxHeartbeats 1000000
-- isi
namespace LL
open PySem VL PyProof.Rows L2 Way
set_option autoImplicit false
/-! ### woven -/
theorem ixN_natW {n k : Nat} (h : k < n) : L2.ixN n (k : Int) = some k := by
  unfold L2.ixN
  rw [if_pos (by omega), if_pos (by omega)]
  simp
theorem wovL_wv : ∀ {w : List Nat} {R : List (List D)} {o acc : List D}, wv R w = some o → wovL (sz w) (R.map .list) acc = some (acc ++ o)
  | [], R, o, acc, h => by
    unfold wv at h
    cases h
    show some acc = _
    rw [List.append_nil]
  | k :: w, R, o, acc, h => by
    unfold wv at h
    cases hR : R[k]? with
    | none => rw [hR] at h; cases h
    | some r =>
      rw [hR] at h
      cases r with
      | nil => cases h
      | cons x xs =>
        obtain ⟨o', h1, rfl⟩ := Option.map_eq_some_iff.mp (show (wv (R.set k xs) w).map (x :: ·) = some o from h)
        have hk := (List.getElem?_eq_some_iff.mp hR).1
        have hs : wovS (R.map .list) (nD k) = some (x, (R.set k xs).map .list) := by
          show (match L2.ixN (R.map PyData.list).length (k : Int) with
            | some q => match (R.map PyData.list)[q]? with
              | some (.list (x :: xs)) => some (x, (R.map PyData.list).set q (.list xs))
              | _ => none
            | none => none) = _
          rw [ixN_natW (by rw [List.length_map]; exact hk)]
          show (match (R.map PyData.list)[k]? with
              | some (.list (x :: xs)) => some (x, (R.map PyData.list).set k (.list xs))
              | _ => none) = _
          rw [List.getElem?_map, hR, List.map_set]
          rfl
        show (wovS (R.map .list) (nD k)).bind (fun r => wovL (sz w) r.2 (acc ++ [r.1])) = _
        rw [hs]
        show wovL (sz w) ((R.set k xs).map .list) (acc ++ [x]) = _
        rw [wovL_wv h1]
        simp
theorem envB4 {a b c d e f : Option D} {w : List Nat} : ∃ e', envB [a, b, c, d, e, f] 4 (sz w) = [a, b, c, d, e', f] := by
  unfold envB
  cases (sz w).getLast? with
  | none => exact ⟨e, rfl⟩
  | some x => exact ⟨some x, rfl⟩
theorem woven_eqn {x y : D} {R : List (List D)} {w : List Nat} {o : List D} (hx : f_tupled 16 [x] = .ok (.tuple (R.map .tuple), [])) (hy : dSeq y = some (sz w)) (ho : wv R w = some o) (hR : R.length ≤ 100) (hw : w.length ≤ 100) :
    f_woven [x, y] = .ok (.tuple o, []) := by
  apply wX_eq
  unfold f_woven
  (simp_all! only [w_wov, w_lc, hx])
  refine w_lcWm R .tuple .list (fun r _ => ?_) ?_
  · (simp_all! only)
  · have hl : lstOf (.list (R.map .list)) = some (R.map .list) := rfl
    have hh : hide [some x, some y, none, none, none, none] 2 3 = [some x, some y, none, none, none, none] := rfl
    have hat : wovAt 2 3 4 [some x, some y, none, none, none, none] (sz w) (R.map .list) = some o := by
      unfold wovAt
      rw [if_pos ⟨by rw [List.length_map, PySem.sizeLine_eq]; omega, by simp, by simp, by simp⟩, wovL_wv (acc := []) ho]
      rfl
    (simp_all! only [hl, hh, hy, hat])
    obtain ⟨e', e⟩ := envB4 (a := some x) (b := some y) (c := none) (d := none) (e := none) (f := none) (w := w)
    rw [e]
    (simp_all! only)
theorem drop_cons {α : Type} {r : List α} {a : Nat} {x : α} {xs : List α} (h : r.drop a = x :: xs) : r[a]? = some x ∧ r.drop (a + 1) = xs := by
  have h1 : (r.drop a)[0]? = some x := by rw [h]; rfl
  rw [List.getElem?_drop, Nat.add_zero] at h1
  refine ⟨h1, ?_⟩
  rw [← List.drop_drop, h]
  rfl
/-- the rows as they are left -/
def left (R0 : List (List D)) (a : List Nat) : List (List D) := (R0.zip a).map fun p => p.1.drop p.2
theorem left_get {R0 : List (List D)} {a : List Nat} {k : Nat} {r : List D} (hl : a.length = R0.length) (h : (left R0 a)[k]? = some r) : ∃ r0, R0[k]? = some r0 ∧ k < a.length ∧ r = r0.drop (aw0 a k) := by
  unfold left at h
  rw [List.getElem?_map] at h
  obtain ⟨p, h1, rfl⟩ := Option.map_eq_some_iff.mp h
  obtain ⟨h2, h3⟩ := List.getElem?_zip_eq_some.mp h1
  have hk := (List.getElem?_eq_some_iff.mp h3).1
  refine ⟨p.1, h2, hk, ?_⟩
  rw [aw0_get hk] at h3
  rw [Option.some.inj h3]
theorem left_set {R0 : List (List D)} {a : List Nat} {k : Nat} {r0 : List D} (hl : a.length = R0.length) (h : R0[k]? = some r0) : (left R0 a).set k (r0.drop (aw0 a k + 1)) = left R0 (a.set k (aw0 a k + 1)) := by
  unfold left
  apply List.ext_getElem?
  intro i
  have hk := (List.getElem?_eq_some_iff.mp h).1
  by_cases c : i = k
  · subst c
    rw [List.getElem?_set_self (by rw [List.length_map, List.length_zip]; omega), List.getElem?_map]
    have : (R0.zip (a.set i (aw0 a i + 1)))[i]? = some (r0, aw0 a i + 1) := List.getElem?_zip_eq_some.mpr ⟨h, List.getElem?_set_self (by omega)⟩
    rw [this]
    rfl
  · rw [List.getElem?_set_ne (fun e => c e.symm), List.getElem?_map, List.getElem?_map]
    congr 1
    simp only [List.zip, List.getElem?_zipWith]
    rw [List.getElem?_set_ne (fun e => c e.symm)]
abbrev lwB : M Fl := mSeq (mDrop (mApp 3 (m2 gIx (m2 gIx (mVar 0) (mVar 4)) (mIxO 2 (mVar 4)))))
  (mSetIx 2 (m2 gAdd (mIxO 2 (mVar 4)) (mC (.int 1))) (mVar 4))
theorem law_woven_loop {R0 : List (List D)} {x1 : Option D} {E : XE} {Q : Fl → VL.Env → Prop} : ∀ {w a : List Nat} {o acc : List D} {x4 : Option D}, a.length = R0.length → wv (left R0 a) w = some o → acc.length + w.length ≤ 1000 →
    (∀ a' e4, Q .nx [some (.tuple (R0.map .tuple)), x1, a', some (.list (acc ++ o)), e4]) → wM (forL (.nm 4) lwB (sz w)) [some (.tuple (R0.map .tuple)), x1, some (.list (sz a)), some (.list acc), x4] Q E
  | [], a, o, acc, x4, hl, h, ha, hQ => by
    unfold wv at h
    cases h
    show wM (forL (.nm 4) lwB []) _ Q E
    rw [w_forL_nil]
    have := hQ (some (.list (sz a))) x4
    rwa [List.append_nil] at this
  | k :: w, a, o, acc, x4, hl, h, ha, hQ => by
    unfold wv at h
    cases hR : (left R0 a)[k]? with
    | none => rw [hR] at h; cases h
    | some r =>
      rw [hR] at h
      cases r with
      | nil => cases h
      | cons x xs =>
        obtain ⟨o', h1, rfl⟩ := Option.map_eq_some_iff.mp (show (wv ((left R0 a).set k xs) w).map (x :: ·) = some o from h)
        obtain ⟨r0, g0, hk, g1⟩ := left_get hl hR
        obtain ⟨g2, g3⟩ := drop_cons g1.symm
        rw [← g3, left_set hl g0] at h1
        show wM (forL (.nm 4) lwB (nD k :: sz w)) _ Q E
        have i1 : gIx (.tuple (R0.map .tuple)) (.int (k : Int)) = some (.tuple r0) := by
          refine VL.atI_nat ?_
          rw [List.getElem?_map, g0]
          rfl
        have i2 : gIx (.tuple r0) (.int (aw0 a k : Nat)) = some x := VL.atI_nat g2
        have i3 : L2.atI (sz a) (k : Int) = some (.int (aw0 a k : Nat)) := VL.atI_nat (sz_get hk)
        have i4 : L2.ixN (sz a).length (k : Int) = some k := ixN_natW (by rw [List.length_map]; exact hk)
        have es : (sz a).set k (.int ((aw0 a k : Nat) + 1)) = sz (a.set k (aw0 a k + 1)) := by
          unfold sz
          rw [List.map_set]
          congr 1
        have hsz : acc.length < sizeLine := by
          rw [List.length_cons] at ha
          rw [PySem.sizeLine_eq]
          omega
        rw [w_forL_cons]
        (simp_all! only [i1, i2, i3, i4, hsz, es])
        refine law_woven_loop (w := w) (a := a.set k (aw0 a k + 1)) (acc := acc ++ [x]) (by rw [List.length_set]; exact hl) h1 (by rw [List.length_append, List.length_singleton]; rw [List.length_cons] at ha; omega) fun a' e4 => ?_
        have := hQ a' e4
        rw [List.append_assoc]
        exact this
theorem left_0 (R : List (List D)) : left R (List.replicate R.length 0) = R := by
  unfold left
  apply List.ext_getElem?
  intro i
  rw [List.getElem?_map]
  by_cases c : i < R.length
  · have : (R.zip (List.replicate R.length 0))[i]? = some (R[i], 0) := List.getElem?_zip_eq_some.mpr ⟨List.getElem?_eq_getElem c, by rw [List.getElem?_replicate, if_pos c]⟩
    rw [this, List.getElem?_eq_getElem c]
    rfl
  · rw [List.getElem?_eq_none (by rw [List.length_zip]; omega), List.getElem?_eq_none (by omega)]
    rfl
theorem law_woven_eqn {R : List (List D)} {w : List Nat} {o : List D} (ho : wv R w = some o) (hR : R.length ≤ 100) (hw : w.length ≤ 100) : f__law_woven [.tuple (R.map .tuple), .tuple (sz w)] = .ok (.tuple o, []) := by
  apply wX_eq
  unfold f__law_woven
  have hc : cLen [.tuple (R.map .tuple)] = some (.int (R.length : Int)) := by
    show some (PyData.int ((R.map PyData.tuple).length : Int)) = _
    rw [List.length_map]
  have hg : gRep (.list [.int 0]) (.int (R.length : Int)) = some (.list (sz (List.replicate R.length 0))) := by
    unfold gRep
    dsimp only
    rw [if_pos ⟨by omega, by omega, by rw [Int.toNat_natCast, PySem.sizeLine_eq]; simp only [List.length_cons, List.length_nil]; omega⟩, Int.toNat_natCast]
    congr 2
    unfold sz
    rw [List.map_replicate]
    generalize R.length = n
    induction n with
    | zero => rfl
    | succ n ih => rw [List.replicate_succ, List.flatten_cons, ih]; rfl
  (simp_all! only [hc, hg])
  refine law_woven_loop (a := List.replicate R.length 0) (acc := []) (by rw [List.length_replicate]) (by rw [left_0]; exact ho) (by simp; omega) fun a' e4 => ?_
  (simp_all! only [List.nil_append])
/-! ### what is refused -/
theorem heard_no {x : D} {R : List (List D)} (h : Rw x R) (ok : Ok (R.map List.length)) {z : Int} (hz : ¬ (0 ≤ z ∧ z < (wo (R.map List.length) : Nat))) : f__law_heard_v15 [x, .int z] = .ok (.list [.int z, .bool true], []) := by
  apply wX_eq
  unfold f__law_heard_v15
  (simp_all! only [nth_no h ok hz, show List.lookup ("NoNumber" : Str) [(("NoNumber" : Str), true)] = some true from rfl])
end LL
end

section
set_option Elab.async false
set_option linter.all false
set_option maxRecDepth 100000
set_option maxHeartbeats 1000000
-- isi
namespace LL
open PySem VL
/-! ### rows of things that are told apart by == -/
def EqE {α : Type} [DecidableEq α] (enc : α → D) : Prop := ∀ a b, PyData.eqv (enc a) (enc b) = decide (a = b)
theorem eqvAll_map {α : Type} [DecidableEq α] {enc : α → D} (h : EqE enc) : ∀ as bs : List α, PyData.eqvAll (as.map enc) (bs.map enc) = decide (as = bs)
  | [], [] => rfl
  | [], b :: bs => by simp [PyData.eqvAll]
  | a :: as, [] => by simp [PyData.eqvAll]
  | a :: as, b :: bs => by
    rw [List.map_cons, List.map_cons, PyData.eqvAll, h a b, eqvAll_map h as bs]
    by_cases h1 : a = b <;> by_cases h2 : as = bs <;> simp [h1, h2]
def tupE {α : Type} (enc : α → D) (l : List α) : D := .tuple (l.map enc)
theorem EqE.tup {α : Type} [DecidableEq α] {enc : α → D} (h : EqE enc) : EqE (tupE enc) := fun a b => by
  unfold tupE
  rw [PyData.eqv]; exact eqvAll_map h a b
theorem EqE.inj {α : Type} [DecidableEq α] {enc : α → D} (h : EqE enc) {a b : α} (e : enc a = enc b) : a = b := by
  have h1 := h a b
  rw [e, h b b] at h1
  simpa using h1.symm
def PlE {α : Type} (k : Nat) (enc : α → D) : Prop := ∀ a, (enc a).plain = true ∧ (enc a).depth ≤ k
theorem plainAll_map {α : Type} {k : Nat} {enc : α → D} (h : PlE k enc) : ∀ l : List α, PyData.plainAll (l.map enc) = true
  | [] => rfl
  | a :: l => by rw [List.map_cons, PyData.plainAll, (h a).1, plainAll_map h l]; rfl
theorem depthAll_map {α : Type} {k : Nat} {enc : α → D} (h : PlE k enc) : ∀ l : List α, PyData.depthAll (l.map enc) ≤ k
  | [] => Nat.zero_le _
  | a :: l => by rw [List.map_cons, PyData.depthAll]; exact Nat.max_le.mpr ⟨(h a).2, depthAll_map h l⟩
theorem PlE.tup {α : Type} {k : Nat} {enc : α → D} (h : PlE k enc) : PlE (k + 1) (tupE enc) := fun l => by
  unfold tupE
  refine ⟨by rw [PyData.plain]; exact plainAll_map h l, ?_⟩
  rw [PyData.depth]
  have := depthAll_map h l
  omega
theorem any_map {α : Type} [DecidableEq α] {enc : α → D} (h : EqE enc) (a : α) : ∀ l : List α, ((l.map enc).any fun y => PyData.eqv y (enc a)) = decide (a ∈ l)
  | [] => rfl
  | b :: l => by
    rw [List.map_cons, List.any_cons, h b a, any_map h a l]
    by_cases h1 : b = a <;> by_cases h2 : a ∈ l <;> simp [h1, h2]
    · exact fun z => h1 z.symm
theorem atI_last {α : Type} (l : List α) (x : α) : L2.atI (l ++ [x]) (-1) = some x := by
  unfold L2.atI L2.ixN
  have e : (-1 + ((l.length : Int) + 1)).toNat = l.length := by omega
  have c : (1 : Int) ≤ (l.length : Int) + 1 := by omega
  simp [e, c]
/-! ### limits -/
structure Lim where
  most : Bool
  nm : Str
  num : Int
deriving DecidableEq
def Lim.stp (l : Lim) : Stp := if l.most then .most l.nm l.num else .least l.nm l.num
end LL
end

section
set_option Elab.async false
set_option linter.all false
set_option maxRecDepth 100000
set_option maxHeartbeats 1000000
-- isi
namespace LL
open PySem VL PyProof.Rows L2 Way
set_option autoImplicit false
/-! ### drawn rows -/
def LmD (x : D) : Prop := ∃ (w t : Str) (i : Int), x = .tuple [.str w, .str t, .int i]
theorem LmD.dp {x : D} (h : LmD x) : Dp 1 x := by
  obtain ⟨w, t, i, rfl⟩ := h
  refine .tup (by simp) fun y hy => ?_
  simp only [List.mem_cons, List.not_mem_nil, or_false] at hy
  rcases hy with rfl | rfl | rfl
  · exact .str _
  · exact .str _
  · exact .int _
theorem LmD.tup {x : D} (h : LmD x) : tupD x = x := by
  obtain ⟨w, t, i, rfl⟩ := h
  rfl
theorem limits_sp {n : Nat} {d : D} {ts : List Str} {m w : Int} (h : Bx n d) (hn : n + 100 < 2 ^ 60) (ht : ts ≠ []) (htl : ts.length ≤ 100) (hm : 0 ≤ m ∧ m ≤ 10) (hw : 0 ≤ w ∧ w < 1000) :
    wX (f__law_limits [d, .tuple (ts.map .str), .int m, .int w]) (fun p => ∃ ls : List D, p.1 = .tuple ls ∧ (ls.length : Int) ≤ m ∧ (∀ x ∈ ls, LmD x) ∧ ∃ d', p.2 = [d'] ∧ Bx (n + 50) d') E0 := by
  unfold f__law_limits
  (simp_all! only)
  refine wX_imp (take_sp h (by omega) (by omega) (by omega)) ?_
  rintro ⟨_, _⟩ ⟨k, rfl, hk, d1, rfl, hb1⟩
  (simp_all! only [rng1_nat (k := k) (by omega)])
  refine w_forI (k := 0) (fun j ρ => j ≤ k ∧ ∃ (d2 : D) (ls : List D) (e5 e6 : Option D), ρ = [some d2, some (.tuple (ts.map .str)), some (.int m), some (.int w), some (.list ls), e5, e6] ∧ Bx (n + 1 + 3 * j) d2 ∧ ls.length = j ∧ ∀ x ∈ ls, LmD x) ⟨Nat.zero_le _, d1, [], _, _, rfl, hb1, rfl, fun _ h => nomatch h⟩ ?_ ?_
  · rintro j x ρ hj ⟨_, d2, ls, e5, e6, rfl, hb2, hl, hx⟩
    obtain ⟨hjk, rfl⟩ := rng_get hj
    rw [Nat.zero_add] at *
    have hsz : ls.length < sizeLine := by rw [PySem.sizeLine_eq]; omega
    (simp_all! only)
    refine wX_imp (of_sp (xs := [.str "most", .str "least"]) (.inl rfl) hb2 (by omega) (by simp) (by simp)) ?_
    rintro ⟨q, _⟩ ⟨hq, d3, rfl, hb3⟩
    (simp_all! only)
    refine wX_imp (of_sp (xs := ts.map .str) (.inr rfl) hb3 (by omega) (by simpa using ht) (by rw [List.length_map]; omega)) ?_
    rintro ⟨t, _⟩ ⟨hq2, d4, rfl, hb4⟩
    (simp_all! only)
    refine wX_imp (take_sp hb4 (by omega) (by omega) (by omega)) ?_
    rintro ⟨_, _⟩ ⟨i, rfl, hi, d5, rfl, hb5⟩
    obtain ⟨t, _, rfl⟩ := List.mem_map.mp hq2
    obtain ⟨b, rfl⟩ : ∃ b : Str, q = .str b := by
      simp only [List.mem_cons, List.not_mem_nil, or_false] at hq
      rcases hq with rfl | rfl
      · exact ⟨_, rfl⟩
      · exact ⟨_, rfl⟩
    (simp_all! only [hsz])
    refine ⟨by omega, d5, ls ++ [.tuple [.str b, .str t, .int ((i : Int) - w)]], _, _, rfl, hb5.mono (by omega), by rw [List.length_append, hl]; rfl, fun x hx' => ?_⟩
    rcases List.mem_append.mp hx' with hx' | hx'
    · exact hx x hx'
    · rw [List.mem_singleton.mp hx']
      exact ⟨_, _, _, rfl⟩
  · rintro ρ ⟨_, d2, ls, e5, e6, rfl, hb2, hl, hx⟩
    rw [rng_len, Nat.zero_add] at hl
    rw [rng_len, Nat.zero_add] at hb2
    (simp_all! only)
    exact ⟨ls, rfl, by omega, hx, d2, rfl, hb2.mono (by omega)⟩
structure RowsOk (R : List (List D)) : Prop where
  len : R.length ≤ 4
  le : ∀ r ∈ R, r.length ≤ 3
  sum : (R.map List.length).sum ≤ 6
  lm : ∀ r ∈ R, ∀ x ∈ r, LmD x
theorem RowsOk.ok {R : List (List D)} (h : RowsOk R) : Ok (R.map List.length) := ⟨by rw [List.length_map]; exact h.len, fun x hx => by
  obtain ⟨r, hr, rfl⟩ := List.mem_map.mp hx
  exact h.le r hr, h.sum⟩
def softR (R : List (List D)) : List (List D) := R.map fun r => r.map lisD
theorem soft_len (R : List (List D)) : (softR R).map List.length = R.map List.length := by
  unfold softR
  rw [List.map_map]
  apply List.map_congr_left
  intro r _
  exact List.length_map ..
theorem rows_dp {R : List (List D)} (h : RowsOk R) : Dp 3 (.tuple (R.map .tuple)) := .tup (by rw [List.length_map]; have := h.len; omega) fun x hx => by
  obtain ⟨r, hr, rfl⟩ := List.mem_map.mp hx
  exact .tup (by have := h.le r hr; omega) fun y hy => (h.lm r hr y hy).dp
theorem rows_lis (R : List (List D)) : lisD (.tuple (R.map .tuple)) = .list ((softR R).map .list) := by
  rw [lisD, lisDs_map, List.map_map]
  unfold softR
  rw [List.map_map]
  congr 1
  apply List.map_congr_left
  intro r _
  show lisD (.tuple r) = _
  rw [lisD, lisDs_map]
  rfl
theorem rows_tup {R : List (List D)} (h : RowsOk R) : tupD (.tuple (R.map .tuple)) = .tuple (R.map .tuple) := by
  rw [tupD, tupDs_map, List.map_map]
  congr 1
  apply List.map_congr_left
  intro r hr
  show tupD (.tuple r) = _
  rw [tupD, tupDs_map]
  congr 1
  have : r.map tupD = r.map id := List.map_congr_left fun x hx => (h.lm r hr x hx).tup
  rw [this, List.map_id]
theorem soft_dp {R : List (List D)} (h : RowsOk R) : Dp 3 (.list ((softR R).map .list)) := by
  rw [← rows_lis]
  exact (rows_dp h).lis
theorem soft_tupled {R : List (List D)} (h : RowsOk R) : f_tupled 16 [.list ((softR R).map .list)] = .ok (.tuple (R.map .tuple), []) := by
  rw [tupled_eq (soft_dp h) 16 (by decide), ← rows_lis, tupD_lisD, rows_tup h]
/-- the k-th way -/
def wayK (s : List Nat) (k : Nat) : List Nat := (W s.sum s).getD k []
theorem wayK_get {s : List Nat} {k : Nat} (h : k < (W s.sum s).length) : (W s.sum s)[k]? = some (wayK s k) := by
  unfold wayK
  rw [List.getD_eq_getElem?_getD, List.getElem?_eq_getElem h]
  rfl
theorem ways_range (s : List Nat) : W s.sum s = (List.range (W s.sum s).length).map (wayK s) := by
  apply List.ext_getElem?
  intro k
  rw [List.getElem?_map]
  by_cases c : k < (W s.sum s).length
  · rw [wayK_get c, List.getElem?_range c]
    rfl
  · rw [List.getElem?_eq_none (by omega), List.getElem?_eq_none (by rw [List.length_range]; omega)]
    rfl
def wovK (R : List (List D)) (k : Nat) : List D := (wv R (wayK (R.map List.length) k)).getD []
theorem wovK_get {R : List (List D)} {k : Nat} (h : k < (W (R.map List.length).sum (R.map List.length)).length) : wv R (wayK (R.map List.length) k) = some (wovK R k) ∧ (wovK R k).length = (R.map List.length).sum ∧ (wayK (R.map List.length) k).length = (R.map List.length).sum := by
  have hm := List.mem_of_getElem? (wayK_get h)
  obtain ⟨o, h1, h2⟩ := wv_ok hm
  unfold wovK
  rw [h1]
  exact ⟨rfl, h2, W_len hm⟩
theorem wv_mem {α : Type} : ∀ {w : List Nat} {R : List (List α)} {o : List α}, wv R w = some o → ∀ x ∈ o, ∃ r ∈ R, x ∈ r
  | [], R, o, h, x, hx => by
    unfold wv at h
    cases h
    cases hx
  | k :: w, R, o, h, x, hx => by
    unfold wv at h
    cases hR : R[k]? with
    | none => rw [hR] at h; cases h
    | some r =>
      rw [hR] at h
      cases r with
      | nil => cases h
      | cons y ys =>
        obtain ⟨o', h1, rfl⟩ := Option.map_eq_some_iff.mp (show (wv (R.set k ys) w).map (y :: ·) = some o from h)
        have hm := List.mem_of_getElem? hR
        rcases List.mem_cons.mp hx with rfl | hx
        · exact ⟨_, hm, List.mem_cons_self⟩
        · obtain ⟨r, hr, hxr⟩ := wv_mem h1 x hx
          rcases List.mem_or_eq_of_mem_set hr with hr | rfl
          · exact ⟨r, hr, hxr⟩
          · exact ⟨_, hm, List.mem_cons_of_mem _ hxr⟩
end LL
end

section
set_option Elab.async false
set_option linter.all false
set_option maxRecDepth 100000
set_option maxHeartbeats 1000000
-- isi
namespace LL
open PySem VL PyProof.Rows L2 Way
set_option autoImplicit false
theorem box_sp57 {ms : List Int} {k : Nat} (hk : k < ms.length) (hk3 : k < 10) : wX (f__law_box_v58 [.list (ms.map .int), .int k]) (fun p => p.2 = [] ∧ Bx 0 p.1) E0 := by
  unfold f__law_box_v58
  have hlt : ((k : Int) < ((ms.map PyData.int).length : Int)) := by rw [List.length_map]; omega
  have hg : (ms.map PyData.int)[k]? = some (.int ms[k]) := by rw [List.getElem?_map, List.getElem?_eq_getElem hk]; rfl
  (simp_all! only [hlt, VL.atI_nat hg])
  generalize ms[k] = x
  have h1 := Int.emod_nonneg x (by decide : (2305843009213693951 : Int) ≠ 0)
  have h2 := Int.emod_lt_of_pos x (by decide : (0 : Int) < 2305843009213693951)
  refine ⟨_, _, _, rfl, ?_, by omega, by omega, by omega, by omega⟩
  split <;> split <;> omega
theorem sz_dp (s : List Nat) (h : s.length ≤ 1000) : Dp 1 (.tuple (sz s)) := .tup (by rw [List.length_map]; exact h) fun x hx => by
  obtain ⟨n, _, rfl⟩ := List.mem_map.mp hx
  exact .int _
theorem ways_data (s : List Nat) : ((W s.sum s).map fun w => PyData.tuple (sz w)) = (List.range (W s.sum s).length).map fun k => PyData.tuple (sz (wayK s k)) := by
  conv => lhs; rw [ways_range s]
  rw [List.map_map]
  rfl
theorem right57 {n : Nat} {d : D} (hb : Bx n d) (hn : n < 2 ^ 56) : wX (f__law_right_v58 [d]) (fun p => p.1 = .bool true ∧ ∃ d', p.2 = [d']) E0 := by
  unfold f__law_right_v58
  have e6 : rng1 [.int 6] = some (rng 0 6) := rfl
  (simp_all! only [e6])
  refine w_forI (k := 0) (fun j ρ => ∃ d' e1 e2 e3 e4 e5 e6 e7 e8 e9 : Option D, ∃ d1 : D, d' = some d1 ∧ ρ = [d', e1, e2, e3, e4, e5, e6, e7, e8, e9, none, none, none] ∧ Bx (n + 500 * j) d1) ⟨_, _, _, _, _, _, _, _, _, _, d, rfl, rfl, hb⟩ ?_ ?_
  · rintro j x ρ hj ⟨_, e1, e2, e3, e4, e5, e6, e7, e8, e9, d1, rfl, rfl, hb1⟩
    obtain ⟨hj6, rfl⟩ := rng_get hj
    rw [Nat.zero_add] at *
    (simp_all! only)
    refine wX_imp (tags_sp hb1 (by omega) (by decide)) ?_
    rintro ⟨_, _⟩ ⟨ts0, rest, rfl, _, htl, d2, rfl, hb2⟩
    have htl : ts0.length = 3 := htl
    have hts : (sortS ts0).length = 3 := by rw [show sortS ts0 = isort leS ts0 from rfl, (isort_perm leS ts0).length_eq]; exact htl
    generalize sortS ts0 = ts at *
    have htn : ts ≠ [] := fun e => by rw [e] at hts; cases hts
    (simp_all! only)
    refine wX_imp (take_sp hb2 (by omega) (by decide) (by decide)) ?_
    rintro ⟨_, _⟩ ⟨t, rfl, ht, d3, rfl, hb3⟩
    have er : rng1 [.int (1 + (t : Int))] = some (rng 0 (1 + t)) := by
      rw [show (1 + (t : Int)) = ((1 + t : Nat) : Int) by omega]
      exact rng1_nat (by omega)
    (simp_all! only [er])
    refine wM_mono (Q := fun f ρ => f = .nx ∧ ∃ (d4 : D) (R : List (List D)) (e4 e5 : Option D), ρ = [some d4, some (.int (0 + (j : Int))), some (.tuple (ts.map .str)), some (.list (R.map .tuple)), e4, e5, e6, e7, e8, e9, none, none, none] ∧ RowsOk R ∧ Bx (n + 500 * j + 300) d4) (E := E0) ?_ ?_ (fun _ _ _ h => h.elim)
    · refine w_forI (k := 0) (fun c ρ => c ≤ 1 + t ∧ ∃ (d4 : D) (R : List (List D)) (e1 e5 : Option D), ρ = [some d4, e1, some (.tuple (ts.map .str)), some (.list (R.map .tuple)), some (.int (6 - ((R.map List.length).sum : Nat))), e5, e6, e7, e8, e9, none, none, none] ∧ R.length = c ∧ RowsOk R ∧ e1 = some (.int (0 + (j : Int))) ∧ Bx (n + 500 * j + 20 + 50 * c) d4) ⟨Nat.zero_le _, d3, [], _, _, rfl, rfl, ⟨Nat.zero_le _, fun _ h => (nomatch h), Nat.zero_le _, fun _ h => (nomatch h)⟩, by simp, hb3.mono (by omega)⟩ ?_ ?_
      · rintro c x ρ hc ⟨_, d4, R, e1, e5, rfl, hR, ok, rfl, hb4⟩
        obtain ⟨hct, rfl⟩ := rng_get hc
        rw [Nat.zero_add] at *
        have hsum := ok.sum
        (simp_all! only)
        generalize hm : (if (3 : Int) < 6 - ((R.map List.length).sum : Nat) then (3 : Int) else 6 - ((R.map List.length).sum : Nat)) = m
        have hm0 : 0 ≤ m ∧ m ≤ 3 ∧ m ≤ 6 - ((R.map List.length).sum : Nat) := by
          rw [← hm]
          split <;> omega
        refine wX_imp (limits_sp hb4 (by omega) htn (by omega) (by omega) (by decide)) ?_
        rintro ⟨_, _⟩ ⟨ls, rfl, hll, hlm, d5, rfl, hb5⟩
        have hsz : (R.map PyData.tuple).length < sizeLine := by rw [List.length_map, PySem.sizeLine_eq]; omega
        have hl : L2.atI (R.map PyData.tuple ++ [.tuple ls]) (-1) = some (.tuple ls) := atI_last _ _
        have hc2 : cLen [.tuple ls] = some (.int (ls.length : Int)) := rfl
        (simp_all! only [hsz, hl, hc2])
        refine ⟨by omega, d5, R ++ [ls], some (.int (0 + (j : Int))), some (.int (0 + (c : Int))), ?_, by rw [List.length_append, hR]; rfl, ⟨by rw [List.length_append, List.length_singleton]; omega, fun r hr => ?_, ?_, fun r hr => ?_⟩, rfl, hb5.mono (by omega)⟩
        · rw [List.map_append, List.map_append, List.sum_append]
          have e : (6 : Int) - ((R.map List.length).sum : Nat) - (ls.length : Nat) = 6 - (((R.map List.length).sum + (List.map List.length [ls]).sum : Nat) : Int) := by
            simp only [List.map_cons, List.map_nil, List.sum_cons, List.sum_nil]
            omega
          rw [← e]
          rfl
        · rcases List.mem_append.mp hr with hr | hr
          · exact ok.le r hr
          · rw [List.mem_singleton.mp hr]
            omega
        · rw [List.map_append, List.sum_append]
          simp only [List.map_cons, List.map_nil, List.sum_cons, List.sum_nil]
          omega
        · rcases List.mem_append.mp hr with hr | hr
          · exact ok.lm r hr
          · rw [List.mem_singleton.mp hr]
            exact hlm
      · rintro ρ ⟨_, d4, R, e1, e5, rfl, hR, ok, rfl, hb4⟩
        rw [rng_len, Nat.zero_add] at hb4
        exact ⟨rfl, d4, R, _, _, rfl, ok, hb4.mono (by omega)⟩
    · rintro f ρ ⟨rfl, d4, R, e4, e5, rfl, ok, hb4⟩
      have okS := ok.ok
      have hlen := ok.len
      have hsum := ok.sum
      have hwo := okS.wo
      have hlis := lists_eq (rows_dp ok) 16 (by decide)
      rw [rows_lis] at hlis
      have hway := law_ways_eqn okS
      rw [ways_data] at hway
      have sl := soft_len R
      have okS2 : Ok ((softR R).map List.length) := by rw [sl]; exact okS
      have hslen : (softR R).length ≤ 4 := by
        have := congrArg List.length sl
        rw [List.length_map, List.length_map] at this
        omega
      have hm1 := how_many_eqn (rw_t R) (by omega) (by omega)
      have hm2 := how_many_eqn (rw_l (softR R)) (by omega) (by rw [sl]; omega)
      rw [sl] at hm2
      have hN : (W (R.map List.length).sum (R.map List.length)).length = wo (R.map List.length) := hwo.1.symm
      have hnth : ∀ k, k < (W (R.map List.length).sum (R.map List.length)).length → f_nth_way [.tuple (R.map .tuple), .int (k : Int)] = .ok (.tuple (sz (wayK (R.map List.length) k)), []) := fun k hk => nth_ok (rw_t R) okS (wayK_get hk)
      have hnum : ∀ k, k < (W (R.map List.length).sum (R.map List.length)).length → f_number_of_way [.tuple (R.map .tuple), .tuple (sz (wayK (R.map List.length) k))] = .ok (.int (k : Int), []) := fun k hk => number_eqn (rw_t R) okS rfl (wayK_get hk)
      have hwov : ∀ k, k < (W (R.map List.length).sum (R.map List.length)).length → f_woven [.list ((softR R).map .list), .list (sz (wayK (R.map List.length) k))] = .ok (.tuple (wovK R k), []) := fun k hk => woven_eqn (soft_tupled ok) rfl (wovK_get hk).1 (by omega) (by rw [(wovK_get hk).2.2]; omega)
      have hlwv : ∀ k, k < (W (R.map List.length).sum (R.map List.length)).length → f__law_woven [.tuple (R.map .tuple), .tuple (sz (wayK (R.map List.length) k))] = .ok (.tuple (wovK R k), []) := fun k hk => law_woven_eqn (wovK_get hk).1 (by omega) (by rw [(wovK_get hk).2.2]; omega)
      have hh1 : f__law_heard_v15 [.tuple (R.map .tuple), .int ((W (R.map List.length).sum (R.map List.length)).length : Nat)] = .ok (.list [.int ((W (R.map List.length).sum (R.map List.length)).length : Nat), .bool true], []) := heard_no (rw_t R) okS (by omega)
      have hh2 : f__law_heard_v15 [.list ((softR R).map .list), .int (-1)] = .ok (.list [.int (-1), .bool true], []) := heard_no (rw_l (softR R)) okS2 (by omega)
      have hd3 : ∀ k, k < (W (R.map List.length).sum (R.map List.length)).length → Dp 1 (.tuple (sz (wayK (R.map List.length) k))) := fun k hk => sz_dp _ (by rw [(wovK_get hk).2.2]; omega)
      have hd4 : ∀ k, k < (W (R.map List.length).sum (R.map List.length)).length → Dp 2 (.tuple (wovK R k)) := fun k hk => .tup (by rw [(wovK_get hk).2.1]; omega) fun x hx => by
        obtain ⟨r, hr, hxr⟩ := wv_mem (wovK_get hk).1 x hx
        exact (ok.lm r hr x hxr).dp
      have hdS := soft_dp ok
      rw [← hN] at hm1 hm2 hwo
      generalize hNN : (W (R.map List.length).sum (R.map List.length)).length = N at *
      have hm1 : f_how_many_ways [.tuple (R.map .tuple)] = .ok (.int (N : Int), []) := hm1
      have hm2 : f_how_many_ways [.list ((softR R).map .list)] = .ok (.int (N : Int), []) := hm2
      have hN180 : N ≤ 180 := hwo.2
      have hcl : cLen [.list ((List.range N).map fun k => PyData.tuple (sz (wayK (R.map List.length) k)))] = some (.int (N : Int)) := by
        show some (PyData.int (((List.range N).map fun k => PyData.tuple (sz (wayK (R.map List.length) k))).length : Int)) = _
        rw [List.length_map, List.length_range]
      have ern : rng 0 N = (List.range N).map fun (p : Nat) => PyData.int ((0 : Int) + (p : Int)) := rfl
      have hrl : (List.range N).length ≤ 180 := by rw [List.length_range]; exact hN180
      have hg1 : gLRg (.int (N : Int)) = some (.list ((List.range N).map fun (p : Nat) => PyData.int (p : Int))) := by
        have hg0 : N < 100000 := by omega
        have hg2 : rng 0 N = (List.range N).map fun (p : Nat) => PyData.int (p : Int) := by
          rw [ern]
          apply List.map_congr_left
          intro p _
          rw [show (0 : Int) + (p : Int) = (p : Int) by omega]
        have hg3 := gLRg_nat hg0
        rw [hg2] at hg3
        exact hg3
      (simp_all! only [w_lc])
      refine lensW (f := .tuple) (fun _ => rfl) (fun d => rfl) (fun d => rfl) ?_
      (simp_all! only [hway, hlis, hm1, hm2, w_lc, hcl, rng1_nat (k := N) (by omega), rng_len])
      rw [ern]
      refine w_lcWm (List.range N) (fun (p : Nat) => PyData.int ((0 : Int) + (p : Int))) (fun k => PyData.tuple (sz (wayK (R.map List.length) k))) (fun k hk => ?_) ?_
      · have hk := List.mem_range.mp hk
        have e0 : (0 : Int) + (k : Int) = (k : Int) := by omega
        (simp_all! only [e0, hnth k hk])
      (simp_all! only [w_lc])
      refine w_lcWm (List.range N) (fun k => PyData.tuple (sz (wayK (R.map List.length) k))) (fun (k : Nat) => PyData.int (k : Int)) (fun k hk => ?_) ?_
      · (simp_all! only [hnum k (List.mem_range.mp hk)])
      (simp_all! only [w_lc])
      refine w_lcWm (List.range N) (fun k => PyData.tuple (sz (wayK (R.map List.length) k))) (fun k => PyData.tuple (wovK R k)) (fun k hk => ?_) ?_
      · (simp_all! only [hwov k (List.mem_range.mp hk)])
      (simp_all! only [hcl, hg1, w_lc])
      refine w_lcWm (List.range N) (fun k => PyData.tuple (sz (wayK (R.map List.length) k))) (fun k => PyData.tuple (wovK R k)) (fun k hk => ?_) ?_
      · (simp_all! only [hlwv k (List.mem_range.mp hk)])
      have hmap : ∀ {f : Nat → D} {q : Nat}, (∀ k, k < N → Dp q (f k)) → Dp (q + 1) (.list ((List.range N).map f)) := fun {f q} hf => .lst (by rw [List.length_map, List.length_range]; omega) fun x hx => by
        obtain ⟨k, hk, rfl⟩ := List.mem_map.mp hx
        exact hf k (List.mem_range.mp hk)
      have hsame : f__law_same 16 [.list [.int (N : Int), .int (N : Int), .list ((List.range N).map fun k => PyData.tuple (sz (wayK (R.map List.length) k))), .list ((List.range N).map fun (k : Nat) => PyData.int (k : Int)), .list ((List.range N).map fun k => PyData.tuple (wovK R k)), .list [.int (N : Int), .bool true], .list [.int (-1), .bool true], .list ((softR R).map .list)],
        .list [.int (N : Int), .int (N : Int), .list ((List.range N).map fun k => PyData.tuple (sz (wayK (R.map List.length) k))), .list ((List.range N).map fun (k : Nat) => PyData.int (k : Int)), .list ((List.range N).map fun k => PyData.tuple (wovK R k)), .list [.int (N : Int), .bool true], .list [.int (-1), .bool true], .list ((softR R).map .list)]] = .ok (.bool true, []) := by
        refine same_refl (k := 5) (.lst (by simp) fun x hx => ?_) 16 (by decide)
        simp only [List.mem_cons, List.not_mem_nil, or_false] at hx
        rcases hx with rfl | rfl | rfl | rfl | rfl | rfl | rfl | rfl
        · exact .int _
        · exact .int _
        · exact (hmap fun k hk => hd3 k hk).mono (by decide)
        · exact (hmap (q := 0) fun k hk => .int _).mono (by decide)
        · exact (hmap fun k hk => hd4 k hk).mono (by decide)
        · refine .lst (by simp) fun y hy => ?_
          simp only [List.mem_cons, List.not_mem_nil, or_false] at hy
          rcases hy with rfl | rfl
          · exact .int _
          · exact .bl _
        · refine .lst (by simp) fun y hy => ?_
          simp only [List.mem_cons, List.not_mem_nil, or_false] at hy
          rcases hy with rfl | rfl
          · exact .int _
          · exact .bl _
        · exact hdS.mono (by decide)
      (simp_all! only [hcl, hh1, hh2, hlis, hsame])
      exact ⟨_, _, _, _, _, _, _, _, _, _, d4, rfl, rfl, hb4.mono (by omega)⟩
  · rintro ρ' ⟨_, e1, e2, e3, e4, e5, e6, e7, e8, e9, d1, rfl, rfl, hb1⟩
    (simp_all! only)
    exact ⟨_, rfl⟩
end LL
end

section
set_option Elab.async false
set_option linter.all false
set_option maxRecDepth 100000
set_option maxHeartbeats 0
namespace LL
open PySem VL PyProof.Rows L2
theorem h57_hand : f__law_by_hand_right_v25 [] = .ok (.bool true, []) := by kernel_rfl
end LL
end

section
set_option Elab.async false
set_option linter.all false
set_option maxRecDepth 100000
set_option maxHeartbeats 1000000
namespace LL
open PySem VL PyProof.Rows L2
set_option autoImplicit false
theorem law_true (ns : List Int) (hl : ns.length ≤ 63) : f_law_v58 [scr (ns.map .int)] = .ok (.bool true, []) := by
  apply wX_eq
  unfold f_law_v58
  (simp! only [h57_hand])
  refine wX_imp (cells_sp (m := 3) hl (by decide)) ?_
  rintro ⟨_, _⟩ ⟨rfl, ms, rfl, hne, hms⟩
  (simp! only [rng1_nat (k := (ms.map PyData.int).length) (by rw [List.length_map]; omega)])
  rw [w_lc]
  (simp! only [rng1_nat (k := (ms.map PyData.int).length) (by rw [List.length_map]; omega), rng_len])
  refine w_lcI (k := 0) (fun j acc ρ => ρ = [some (scr (ns.map .int)), some (.list (ms.map .int)), none] ∧ acc = List.replicate j (.bool true)) ⟨rfl, rfl⟩ ?_ ?_
  · rintro j d acc ρ hj ⟨rfl, rfl⟩
    obtain ⟨hjl, rfl⟩ := rng_get hj
    rw [List.length_map] at hjl
    have e0 : (0 : Int) + (j : Int) = (j : Int) := by omega
    (simp! only [e0])
    refine wX_imp (box_sp57 hjl (by omega)) ?_
    rintro ⟨b, _⟩ ⟨rfl, hb⟩
    (simp! only)
    refine wX_imp (right57 hb (by decide)) ?_
    rintro ⟨_, o⟩ ⟨rfl, d', rfl⟩
    (simp! only)
    rw [← List.replicate_succ', List.replicate_succ]
  · rintro acc ρ ⟨rfl, rfl⟩
    (simp! only [cAll_true])
end LL
end

set_option Elab.async false
set_option maxRecDepth 100000
set_option maxHeartbeats 0
open PySem PySem.W PySem.Calls PyProof.Rows
theorem PySem.Challenge.cw_lastlimit_k57_ways_to_weave_holds : PySem.Challenge.rw_lastlimit_k57_ways_to_weave.Holds := by
  w_on; o_law
  refine HandSHeadRun.head_any (r := OpenLaw.row PySem.Challenge.rw_lastlimit_k57_ways_to_weave) (q := view (OpenLaw.row PySem.Challenge.rw_lastlimit_k57_ways_to_weave).prog [26]) (H := K57.hk) (ob := K57.hob) (M := 2500) (loose := K57.hnames) (d := HandSHeadRun.topDef (OpenLaw.row PySem.Challenge.rw_lastlimit_k57_ways_to_weave).prog 26) (kwd := []) K57.hob_eq
    (by kernel_rfl) (fun s => by kernel_rfl) K57.hrun (by kernel_rfl) (by kernel_rfl) (by kernel_rfl) (by rfl) (by first | assumption | decide +kernel) (by decide +kernel) ⟨rfl, rfl, rfl, rfl, rfl, by decide +kernel⟩ ?hw ?hc
  case hw => w_witness2
  case hc =>
    refine VL.walk_V (l := PySem.Challenge.rw_lastlimit_k57_ways_to_weave) (n := 63) (k := 20) (x := "_law_script") rfl (by decide) (by kernel_rfl) ⟨rfl, by decide, by decide⟩ ?F
    intro w mg fa h Y G hmg0
    obtain ⟨K, KX, c⟩ := Y
    have hmg : mg ("law" : PySem.Str) = some (.ref fa) := by
      have e : (HandSHeadRun.topDef (OpenLaw.row PySem.Challenge.rw_lastlimit_k57_ways_to_weave).prog 26).name = ("law" : PySem.Str) := by kernel_rfl
      rw [← e]
      exact hmg0
    obtain ⟨a0, fd0, _, hm0, F0, _⟩ := (K57.facts KX G c h).ex
    have ea : fa = a0 := by
      rw [hmg] at hm0
      cases hm0
      rfl
    subst ea
    have b := L2.FunD.bindsA (ps := ["_law_script"]) F0 fun _ _ _ _ _ _ us hl => match us, hl with | [_], _ => rfl
    refine ⟨K, fd0, VL.spV K (VL.eb K) [false] false LL.f_law_v58, KX, fun s v => b s [v] rfl, fun H a ns hl _ hS => VL.law_sp (LL.law_true ns hl) hS, fun base hK hns => ?_⟩
    obtain ⟨a1, fd1, ok1, hm1, F1, _⟩ := (K57.facts KX G c base).ex
    have ea : fa = a1 := by
      rw [hmg] at hm1
      cases hm1
      rfl
    subst ea
    have ef : fd0 = fd1 := by
      obtain ⟨_, _, _, _, _, _, _, _, _, _, e0, l0, _⟩ := F0.ex
      obtain ⟨_, _, _, _, _, _, _, _, _, _, e1, l1, _⟩ := F1.ex
      rw [l0] at l1
      cases l1
      rfl
    subst ef
    exact ok1

