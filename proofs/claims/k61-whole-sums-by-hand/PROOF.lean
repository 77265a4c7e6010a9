import PyProof.Rows.All
import HandS.ForMost
import HandS.Exc
import HandS.ExcInit
import HandS.ExcSuper
import KE.KExcSuper
import HandS.TryOnly
import HandS.ExcField
import HandS.ExcIs
import HandS.IsInst
import KE.KExcIs
import PyProof.ReprRoads
import HandS.Lambda
import HandS.EndTab
import HandS.CallSlots
import HandS.Strs
import HandS.SetFor
import HandS.Zip
import KE.GoesEnum
import HandS.Evl
import HandS.Wide
import HandS.Walk
import HandS.Conv
import HandS.TupMul
import HandS.WordsExc
import HandS.WordsList
import HandS.TupAny
import HandS.HeadWalk
import KE.IntBitsLaws
import KE.RegKSuper
import KE.KNestM
import PySem.Challenge.RW_everylotofworlds_k61_whole_sums_by_hand
set_option Elab.async false
set_option linter.all false
set_option maxRecDepth 100000
section
set_option Elab.async false
set_option linter.all false
set_option maxRecDepth 100000
set_option maxHeartbeats 2000000
namespace Sy
open PySem PySem.Spec PyProof.Rows L2

abbrev envK (qual : Str) (scope : Scope) (L f : Addr) (cd : Value) (cc : Addr) : Env := PySem.W.ksEnv qual scope L f cd cc
/-- the context of a method that closes over __class__ -/
def cxK (P : Program) (w : World) (K : PySem.W.Frag) (mg : Str → Option Value) (base : Heap) (N : List Str) (qual : Str) (scope : Scope) (f : Addr) (cd : Value) (cc : Addr) (A : Around) (outer : List Env) (s : Shared) (H : Hp) : Cx where
  prog := P
  w := w
  K := K
  mg := mg
  base := base
  A := A.deeper (envK qual scope s.heap.objs.size f cd cc)
  N := N
  s_0 := s
  H_0 := H
  env := envK qual scope s.heap.objs.size f cd cc
  outer := outer
  stack := envK qual scope s.heap.objs.size f cd cc :: outer
  ex := []
  fn := fun _ => false
  calm := true
  pn := []
  xe := fun _ _ => False
section
variable {P : Program} {w : World} {K : PySem.W.Frag} {mg : Str → Option Value} {base : Heap} {A : Around} {outer : List Env} {s : Shared} {H : Hp} {qual : Str} {scope : Scope} {f cc : Addr} {cd : Value}
theorem inv_enter {h₁ : Heap} {tk : Nat} {a : Addr} {v : V} {u : Value} (e0 : Env0 P w K mg base A outer s H) (hk : scope.kind = .function) (hd : A.handled = none)
    (hfree : ∀ y ∈ scope.names, (y.2 = .cell ∨ y.2 = .free) → y.1 = "__class__") (hs : scope.names.lookup ("self" : Str) = some .local) (hv : scope.names.lookup ("value" : Str) = some .local)
    (hcc : ∃ o, base.get? cc = some o ∧ ∃ z, o.data = .cell z) (r : RelV v u)
    (hns : h₁.Ns s.heap.objs.size fun y => ([("self", Value.ref a), ("value", u)] : List (Str × Value)).reverse.lookup y) (kp : ∀ b o, s.heap.get? b = some o → h₁.get? b = some o) :
    Inv (cxK P w K mg base ["self", "value"] qual scope f cd cc A outer s H) [] [some (.ref a), some v] H { s with heap := h₁, toks := tk } := by
  obtain ⟨oc, hoc, z, hz⟩ := hcc
  have cl : ∀ {y : Str} {c : Addr}, ([("__class__", cc)] : List (Str × Addr)).lookup y = some c → y = "__class__" ∧ c = cc := fun {y c} e => by
    by_cases h : y = "__class__"
    · subst h
      refine ⟨rfl, ?_⟩
      have e' : some cc = some c := by rw [← e]; simp [List.lookup]
      exact (Option.some.inj e').symm
    · have hb : (y == ("__class__" : Str)) = false := by simpa using h
      simp [List.lookup, hb] at e
  have noA : ∀ b : Addr, b ∉ (cxK P w K mg base ["self", "value"] qual scope f cd cc A outer s H).ex := fun b z => absurd (show b ∈ ([] : List Addr) from z) (by simp)
  have hob := e0.bs _ _ hoc
  refine ⟨⟨e0.mod, hk, rfl, rfl, Nat.le_refl _, fun x y c e1 e2 => (cl e1).1.trans (cl e2).1.symm, fun x hx => ?_, fun x c q _ => ?_, fun _ => hd, Around.frames_deeper e0.frames, .inr ⟨rfl, rfl⟩, fun b z => absurd z (noA b), e0.bs, e0.bsz, fun b _ _ => noA b,
      fun b z => absurd z (noA b), e0.funs, e0.frf⟩,
    rfl, e0.bare, Un.kept kp, ⟨_, hns, fun i y x e1 e2 e3 => ?_⟩, fun y c e => ?_, e0.hok.fresh (Nat.le_refl _), fun y c e => ?_, fun q hq => absurd (show q ∈ ([] : List (Addr × Obj)) ++ [] from hq) (by simp), e0.hok.kept kp, rfl⟩
  · have hx' : scope.names.lookup x = some .cell ∨ scope.names.lookup x = some .free := hx
    have hm : x = "__class__" := by
      rcases hx' with q | q
      · exact hfree _ (PySem.mem_of_lookup q) (.inl rfl)
      · exact hfree _ (PySem.mem_of_lookup q) (.inr rfl)
    exact ⟨cc, by rw [hm]; show ([("__class__", cc)] : List (Str × Addr)).lookup ("__class__" : Str) = some cc; simp [List.lookup]⟩
  · have q : false = true := q
    cases q
  · match i, e1, e2 with
    | 0, e1, e2 =>
      obtain rfl : "self" = y := Option.some.inj e1
      obtain rfl : V.ref a = x := Option.some.inj (Option.some.inj e2)
      exact ⟨.ref a, rfl, .inl ⟨hs, rfl⟩⟩
    | 1, e1, e2 =>
      obtain rfl : "value" = y := Option.some.inj e1
      obtain rfl : v = x := Option.some.inj (Option.some.inj e2)
      exact ⟨u, r, .inl ⟨hv, rfl⟩⟩
    | i + 2, e1, e2 => simp at e2
  · obtain ⟨_, rfl⟩ := cl e
    exact ⟨z, ⟨oc, kp _ _ hob.1, hz⟩⟩
  · obtain ⟨_, rfl⟩ := cl e
    exact hob.2

/-- what the written part says of a class C below the class D whose __init__ says super().__init__(value); self.value = value -/
structure SayC (K : PySem.W.Frag) (D C : Addr) : Prop where
  oex : OexC K C
  sub : PySem.W.mroIn K C (.ref D) = some true
  sup : PySem.W.ks_superIn K C D "__init__" = some (some (.builtin "ValueError.__init__"))
  val : PySem.W.findIn K (.ref C) "value" = some none
  ve : PySem.W.subIn K (.ref C) (.type "ValueError") = some true
/-- the promise of that __init__ -/
def spInit (K : PySem.W.Frag) (D : Addr) : Sp := fun vs H Q _ => ∃ (a C : Addr) (v : V), vs = [.ref a, v] ∧ H a = some (exo a C none) ∧ SayC K D C ∧
  ∀ dx, H dx = none → dx ≠ a → Q .non (upd (upd H dx (exd dx [("value", v)])) a (exo a C (some dx)))

theorem bound_init {h : Heap} {g : Array GenState} {d : Drawn} {t : Nat} {os : OsState} {M : Model} {E : Value → Shared → Prop} {nm q : Str} {C N : Addr} {bs bm bmB : List Value} {hdct : Bool} {sn : List Str} {sub : List Value} {ab : Bool} {col : Option Bool} {dd : Option Addr} {k0 k1 k2 k3 k5 : Option Value} {B newId initId : String}
    (F : ExcBaseFacts B newId initId bmB) {e : Addr} {oe : Obj} {rest : List Value} {Q : Unit → Shared → Prop}
    (hC : h.get? C = some (excClassObj nm q C N bs bm hdct sn sub ab col dd k0 k1 k2 k3 k5 newId)) (he : h.get? e = some oe) (hcls : oe.cls = .ref C) (hq : Q () ⟨h, g, d, t, os⟩) :
    wpAny M A (checkBoundCall initId ⟨.ref e :: rest, []⟩) Q E ⟨h, g, d, t, os⟩ := PySem.ESX.check_bound F hC he hcls hq

/-- the bound wrapper called: the args are laid anew -/
theorem call_mw {X : Cx} {pins : List (Addr × Obj)} {σ : L2.St} {H : Hp} {s : Shared} {a C u : Addr} {E : Value → Shared → Prop} {B : Around} {us : List Value} {Q : Value → Shared → Prop} (T : OexC X.K C) (I : Inv X pins σ H s) (e : H a = some (exo a C none))
    (hu : s.heap.get? u = some (PySem.W.kxs_mw "ValueError.__init__" a)) (hl : us.length ≤ sizeLine) (h : ∀ s', Inv X pins σ H s' → Q .none s') :
    wpAny (model X.prog X.w) B (call (.ref u) us) Q E s := by
  obtain ⟨nm, q, N, bs, bm, sn, sub, ab, col, dd, k0, k1, k2, k3, k5, hC, hbm⟩ := T.cls
  obtain ⟨t1, ho⟩ := exo_at I.hok e
  obtain ⟨hp, g, d, t, os⟩ := s
  have hC' := I.kIn _ _ hC
  refine wpAny_call (codeAny_of_tree ?_)
  show wpAny _ B.in1 (callAny (.ref u) ⟨us, []⟩) _ _ _
  simp only [callAny]
  refine wpAny_bind (wpAny_load hu ?_)
  simp only [PySem.W.kxs_mw, show (Value.type "method-wrapper" == Value.type "method" || Value.type "method-wrapper" == Value.type "builtin_function_or_method" || Value.type "method-wrapper" == Value.type "method-wrapper") = true by decide, if_true]
  refine PySem.W.KFB.if_so (by decide) ?_
  refine wpAny_bind (bound_init F.excBase_ValueError hC' ho rfl ?_)
  refine wpAny_bind (wpAny_pure (wpAny_pure ?_))
  refine ⟨plainId_quiet F.excBase_ValueError.init.plain _, codeAny_builtin F.excBase_ValueError.initEntry ?_⟩
  refine PySem.W.exc_init_tree (cls := .ref C) (t0 := t1) (dv := none) (c2 := .none) (c3 := .none) (b4 := .bool false) ho hl fun h' k hx _ => ?_
  have J := I.write (t' := t) (x := a) (e := a) (o := exo a C none) (by rw [e]; exact True.intro) (.inl rfl) k ⟨_, hx⟩ (exo_ok hx)
  have eu : upd H a (exo a C none) = H := by
    funext b
    by_cases hb : b = a
    · rw [hb, upd_same, e]
    · rw [upd_ne hb]
  rw [eu] at J
  exact h _ J

/-- the text of that method -/
abbrev iScope : Scope := { kind := .function, names := [("self", .local), ("value", .local), ("__class__", .free), ("super", .globalImplicit)], isGenerator := false, isCoroutine := false }
abbrev iArgs : Arguments := { posonlyargs := [], args := [{ arg := "self", annotation := none, pos := ⟨4, 17, 4, 21⟩ }, { arg := "value", annotation := none, pos := ⟨4, 23, 4, 28⟩ }], vararg := none, kwonlyargs := [], kw_defaults := [], kwarg := none, defaults := [] }
abbrev iOne : Stmt := .Expr (.Call (.Attribute (.Call (.Name "super" ⟨5, 8, 5, 13⟩) [] [] ⟨5, 8, 5, 15⟩) "__init__" ⟨5, 8, 5, 24⟩) [.Name "value" ⟨5, 25, 5, 30⟩] [] ⟨5, 8, 5, 31⟩) ⟨5, 8, 5, 31⟩
abbrev iTwo : Stmt := .Assign [.Attribute (.Name "self" ⟨6, 8, 6, 12⟩) "value" ⟨6, 8, 6, 18⟩] (.Name "value" ⟨6, 21, 6, 26⟩) ⟨6, 8, 6, 26⟩
abbrev iQual : Str := "SayingError.__init__"
/-- super().__init__(value) in that method, at the activation -/
theorem super_line {s0 : Shared} {H0 : Hp} {a C D cda : Addr} {v : V} {body : List Stmt} {fd : FuncData} {ar : Arg} {vs : Array Value} {file : Str} {tf : Tok} {ofc occ ccl : Value} {ofd ofcd cdd : Option Addr} {ofs ccs csl : Array (Option Value)} {E : Value → Shared → Prop} {Q : Flow → Shared → Prop}
    (I : Inv (cxK P w K mg base ["self", "value"] iQual iScope f (.ref cda) cc A outer s0 H0) [] [some (.ref a), some v] H s) (e : H a = some (exo a C none)) (T : SayC K D C)
    (lf : K.lookup f = some ⟨ofc, ofd, .func fd, ofs⟩) (hp : (fd.params.posonlyargs ++ fd.params.args).head? = some ar) (har : ar.arg = "self") (hcode : K.lookup cda = some ⟨occ, cdd, .fields vs, ccs⟩) (hvs : vs[2]? = some (.str file tf))
    (hfile : ((P.main.file : Str) == file) = true) (htop : (P.main.scope.names.lookup ("super" : Str)).isSome = false) (hcell : K.lookup cc = some ⟨ccl, ofcd, .cell (some (.ref D)), csl⟩) (hD : (PySem.W.clsIn K D).isSome = true)
    (hsg : mg "super" = none) (hboot : bootBuiltins "super" = some (.type "super")) (hst : PySem.W.nsIn K PySem.cStatics "thirdparty.any" = some none)
    (h : ∀ s', Inv (cxK P w K mg base ["self", "value"] iQual iScope f (.ref cda) cc A outer s0 H0) [] [some (.ref a), some v] H s' → Q .next s') :
    PySem.wpAt (model P w) (A.deeper (envK iQual iScope s0.heap.objs.size f (.ref cda) cc)) (.func body (envK iQual iScope s0.heap.objs.size f (.ref cda) cc))
      (exec iOne (envK iQual iScope s0.heap.objs.size f (.ref cda) cc)) Q (fun _ _ => False) s := by
  obtain ⟨cdD, hcd⟩ := Option.isSome_iff_exists.mp hD
  obtain ⟨oD, hD1, hD2⟩ : ∃ oD, s.heap.get? D = some oD ∧ oD.data = .cls cdD := by
    unfold PySem.W.clsIn at hcd
    split at hcd
    · rename_i c d cd' sl ho
      cases hcd
      exact ⟨_, I.kIn _ _ ho, rfl⟩
    · cases hcd
  obtain ⟨t1, ho⟩ := exo_at I.hok e
  have hinst : PySem.W.InstAt s.heap a { cls := .ref C, dict := none, data := .fields #[.ref t1, .none, .none, .none, .bool false, .none] } C none := ⟨ho, rfl, rfl, trivial⟩
  refine ks_wpAt_Expr_any (ks_wpAt_MethodCall (ks_wpAt_super_base (env := envK iQual iScope s0.heap.objs.size f (.ref cda) cc) (ar := ar) rfl rfl (by decide) rfl (I.kIn _ _ lf) rfl hp rfl (I.kIn _ _ hcode) rfl hvs hfile htop ?_))
  -- the name super
  have hmod := I.mod
  obtain ⟨mb, hb1, hb2⟩ := hmod.blt
  refine PySem.W.ks_loadName_global rfl rfl (Calls.loadGlobal_builtin (env := envK iQual iScope s0.heap.objs.size f (.ref cda) cc) (hmod.glob.keeps I.bk) hsg (hb1.keeps I.bk) ((hb2 _ (by decide)).trans hboot) ⟨rfl, ?_⟩)
  refine wpAny_loadName_free rfl rfl rfl ⟨_, I.kIn _ _ hcell, rfl⟩ ?_
  -- self
  obtain ⟨m, hns, hloc⟩ := I.loc
  obtain ⟨u0, r0, l0⟩ := hloc 0 "self" (.ref a) rfl rfl (.inl rfl)
  obtain rfl : u0 = Value.ref a := r0
  have lself : m "self" = some (.ref a) := by
    rcases l0 with ⟨_, q⟩ | ⟨q, _⟩
    · exact q
    · exfalso
      have q' : iScope.names.lookup ("self" : Str) = some .cell ∨ iScope.names.lookup ("self" : Str) = some .free := q
      rcases q' with q' | q' <;> cases q'
  rw [har]
  refine wpAny_loadName_local rfl rfl hns lself ?_
  obtain ⟨hh, g, d, t, os⟩ := s
  refine ks_wpAny_isType_cls hD1 hD2 ⟨rfl, ?_⟩
  refine ks_wpAny_call_super hD1 hD2 ho rfl (fun c q => by cases q) (PySem.W.looks_mroIn I.kIn T.sub) (fun h' es k => ?_)
  have I1 : Inv (cxK P w K mg base ["self", "value"] iQual iScope f (.ref cda) cc A outer s0 H0) [] [some (.ref a), some v] H ⟨h', g, d, t, os⟩ := I.kept (h' := h') (t' := t) k
  -- the method
  have sup := T.sup
  cases hc : PySem.W.clsIn K C with
  | none =>
    unfold PySem.W.ks_superIn at sup
    rw [hc] at sup
    cases sup
  | some cdC =>
    unfold PySem.W.ks_superIn at sup
    rw [hc] at sup
    have ho1 := k _ _ ho
    have hinst1 : PySem.W.InstAt h' a { cls := .ref C, dict := none, data := .fields #[.ref t1, .none, .none, .none, .bool false, .none] } C none := ⟨ho1, rfl, rfl, trivial⟩
    refine PySem.W.kxs_getMethod PySem.W.kxs_ValueError es (PySem.W.looks_opaque I1.kIn hst) (l₀ := cdC.mro) ?_ rfl I1.kIn sup (hinst1.type.andThen (PySem.W.looks_subIn I1.kIn T.ve)) (PySem.W.ks_ne I1.kIn hinst1 hc) (by decide) ?_
    · exact fun A Q E s k q => wpAny_bind ((PySem.W.looks_clsIn I1.kIn hc) A _ E s k (wpAny_pure q))
    have k2 : ∀ b o, h'.get? b = some o → (h'.push (PySem.W.kxs_mw "ValueError.__init__" a)).get? b = some o := fun b o q => Heap.get?_push_of_some _ q
    have I2 : Inv (cxK P w K mg base ["self", "value"] iQual iScope f (.ref cda) cc A outer s0 H0) [] [some (.ref a), some v] H ⟨h'.push (PySem.W.kxs_mw "ValueError.__init__" a), g, d, t + 1, os⟩ := I1.kept (h' := h'.push (PySem.W.kxs_mw "ValueError.__init__" a)) (t' := t + 1) k2
    have hslots : Inv (cxK P w K mg base ["self", "value"] iQual iScope f (.ref cda) cc A outer s0 H0) [] [some (.ref a), some v] H ⟨h'.push (PySem.W.kxs_mw "ValueError.__init__" a), g, d, t + 1, os⟩ := I2
    have hmw : (h'.push (PySem.W.kxs_mw "ValueError.__init__" a)).get? h'.objs.size = some (PySem.W.kxs_mw "ValueError.__init__" a) := Heap.get?_push_at rfl rfl
    have pva : PA (cxK P w K mg base ["self", "value"] iQual iScope f (.ref cda) cc A outer s0 H0) [.Name "value" ⟨5, 25, 5, 30⟩] (tCons (tVar 1) tNil) := pa_cons (pv 1) pa_nil
    refine PySem.W.kxs_callWith (i := "ValueError.__init__") (x := a) rfl (Calls.evalArgs_plain ?_)
    have hu : ((h'.push (PySem.W.kxs_mw "ValueError.__init__" a)).get? h'.objs.size = some (PySem.W.kxs_mw "ValueError.__init__" a)) := hmw
    have hpin : Inv (cxK P w K mg base ["self", "value"] iQual iScope f (.ref cda) cc A outer s0 H0) [(h'.objs.size, PySem.W.kxs_mw "ValueError.__init__" a)] [some (.ref a), some v] H ⟨h'.push (PySem.W.kxs_mw "ValueError.__init__" a), g, d, t + 1, os⟩ := I2.pins_of fun p hp => by
      obtain rfl := List.mem_singleton.mp hp
      have hLt : s0.heap.objs.size < h'.objs.size := I1.lt
      refine ⟨hmw, I1.hok.fresh (Nat.le_refl _), ?_, I1.nofs (Nat.le_refl _), fun v q => by cases q⟩
      show h'.objs.size ≠ s0.heap.objs.size
      omega
    refine wpAny_mono (pva.run ⟨5, 8, 5, 31⟩ _ _ _ H (fun xs H1 => xs = [v] ∧ H1 = H) hpin ⟨v, rfl, rfl, rfl⟩) (fun us s1 hx => ?_) fun _ _ z => z
    obtain ⟨xs, H1, I3, r3, rfl, rfl⟩ := hx
    have hmw3 : s1.heap.get? h'.objs.size = some (PySem.W.kxs_mw "ValueError.__init__" a) := (I3.pin (h'.objs.size, _) (List.mem_append_right _ (List.mem_singleton.mpr rfl))).1
    refine ⟨hmw3, ?_⟩
    have hus : ([] ++ us : List Value).length ≤ sizeLine := by
      rw [List.nil_append, ← r3.length]
      show 1 ≤ sizeLine
      decide
    exact call_mw (X := cxK P w K mg base ["self", "value"] iQual iScope f (.ref cda) cc A outer s0 H0) T.oex (I3.pins_of (pins' := []) fun p hp => absurd hp (by simp)) e hmw3 hus fun s' J => h s' J

/-- what the written part says of that method and of the class D that has it -/
structure SayD (P : Program) (K : PySem.W.Frag) (mg : Str → Option Value) (D f cc cda : Addr) (fd : FuncData) : Prop where
  fn : ∃ (oc kV doc pm ct : Value) (an od : Option Addr) (osl : Array (Option Value)), fd = PySem.W.ksFn "__init__" iQual iArgs [iOne, iTwo] iScope .none kV doc pm an (.ref cda) ct cc ∧ K.lookup f = some ⟨oc, od, .func fd, osl⟩
  code : PySem.W.codeIn K (.ref cda) iQual = true
  file : ∃ (occ : Value) (cdd : Option Addr) (vs : Array Value) (ccs : Array (Option Value)) (fl : Str) (tf : Tok), K.lookup cda = some ⟨occ, cdd, .fields vs, ccs⟩ ∧ vs[2]? = some (.str fl tf) ∧ ((P.main.file : Str) == fl) = true
  top : (P.main.scope.names.lookup ("super" : Str)).isSome = false
  cell : ∃ (ccl : Value) (ofcd : Option Addr) (csl : Array (Option Value)), K.lookup cc = some ⟨ccl, ofcd, .cell (some (.ref D)), csl⟩
  cls : (PySem.W.clsIn K D).isSome = true
  sup : mg "super" = none
  st : PySem.W.nsIn K PySem.cStatics "thirdparty.any" = some none
theorem init_ok {CX : CXT} {D cda : Addr} {fd : FuncData} (F : SayD P K mg D f cc cda fd) : FnOk P w K mg base CX 1 f fd ["self", "value"] (spInit K D) := by
  refine ⟨fun vs H Q E h => ?_, fun A outer s H args us vs Q E hr e0 hb r hsp => ?_⟩
  · obtain ⟨a, C, v, rfl, _⟩ := h
    rfl
  obtain ⟨a, C, v, rfl, e, T, q⟩ := hsp
  obtain ⟨oc, kV, doc, pm, ct, an, od, osl, rfl, lk⟩ := F.fn
  obtain ⟨occ, cdd, fs, ccs, fl, tf, hcode, hvs, hfile⟩ := F.file
  obtain ⟨ccl, ofcd, csl, hcell⟩ := F.cell
  have KX : K.In s.heap := e0.mod.kin.keeps fun b o e => (e0.bs b o e).1
  have lim : s.heap.NoLimit := e0.mod.nolimit.keeps fun b o e => (e0.bs b o e).1
  cases r with
  | @cons _ u0 _ ur ra rr =>
    cases rr with
    | @cons _ u1 _ ur rv rr =>
      cases rr
      obtain rfl : u0 = Value.ref a := ra
      refine ks_codeAny_call_defAt hr.depth (KX _ _ lk) rfl lim (PySem.W.codeRec_of KX F.code) rfl hb (show ∀ x ∈ iScope.names, x.2 ≠ .cell by decide) (fun x hx => ?_) (fun h₀ hns hk => ?_)
      · have hx' : x ∈ ([("self", .ref a), ("value", u1)] : List (Str × Value)) := hx
        simp only [List.mem_cons, List.not_mem_nil, or_false] at hx'
        rcases hx' with rfl | rfl <;> rfl
      show PySem.wpAt (model P w) (A.deeper (envK iQual iScope s.heap.objs.size f (.ref cda) cc)) (.func [iOne, iTwo] (envK iQual iScope s.heap.objs.size f (.ref cda) cc)) (execs [iOne, iTwo] (envK iQual iScope s.heap.objs.size f (.ref cda) cc)) _ _ _
      have I0 : Inv (cxK P w K mg base ["self", "value"] iQual iScope f (.ref cda) cc A outer s H) [] [some (.ref a), some v] H { s with heap := h₀, toks := s.toks + ((["self", "value"] : List Str).zip [Value.ref a, u1]).length } :=
        inv_enter (scope := iScope) e0 rfl hr.hd (by decide) rfl rfl ⟨_, e0.mod.kin _ _ hcell, _, rfl⟩ rv hns hk
      refine ks_wpAt_execs_cons (PySem.ks_wpAt_mono (super_line (E := fun _ _ => False) (C := C) (D := D) I0 e T lk rfl rfl hcode hvs hfile F.top hcell F.cls F.sup (by decide +kernel) F.st (Q := fun fl s' => fl = .next ∧ Inv (cxK P w K mg base ["self", "value"] iQual iScope f (.ref cda) cc A outer s H) [] [some (.ref a), some v] H s') fun s' J => ⟨rfl, J⟩) (fun fl s' hq => ?_) fun _ _ z => z.elim)
      obtain ⟨rfl, J⟩ := hq
      refine PySem.wpAt_of_wpAny ?_
      have p2 : PSs (cxK P w K mg base ["self", "value"] iQual iScope f (.ref cda) cc A outer s H) [iTwo] _ := pss_one (ps_ost (pv 0) (pv 1))
      refine wpAny_mono (p2.run [] s' _ H { nx := fun _ H' => Q .non H', rt := Q } J ⟨v, rfl, .ref a, rfl, a, C, rfl, T.oex, T.val, .inl ⟨e, fun dx n ne => q dx n ne⟩⟩) (fun fl s2 hs => ?_) fun _ _ z => z.elim
      have fin : ∀ {σ' : L2.St} {H' : Hp} {x : V} {y : Value}, Inv (cxK P w K mg base ["self", "value"] iQual iScope f (.ref cda) cc A outer s H) [] σ' H' s2 → RelV x y → Q x H' → CE outer P w H s Q y s2 :=
        fun {σ' H' x y} J rv q => ⟨x, H', J.os, J.bare, J.base, J.hok, rv, q⟩
      cases fl with
      | ret u =>
        obtain ⟨x, σ', H', J, rv, q⟩ := hs
        exact fin J rv q
      | next =>
        obtain ⟨σ', H', J, q⟩ := hs
        exact fin (x := V.non) (y := Value.none) J rfl q
      | brk =>
        obtain ⟨_, _, _, q⟩ := hs
        exact False.elim q
      | cont =>
        obtain ⟨_, _, _, q⟩ := hs
        exact False.elim q
end
end Sy
end
section
set_option Elab.async false
set_option linter.all false
set_option maxRecDepth 100000
set_option maxHeartbeats 2000000
namespace Sy
open PySem PySem.Spec PyProof.Rows L2

/-- a reading, its wish weakened -/
def teM (te : TE) : TE := fun σ H Q => ∃ R : VK, te σ H R ∧ ∀ v H', R v H' → Q v H'
theorem pe_up {X : Cx} {e : Expr} {te : TE} (h : PE X e te) : PE X e (teM te) := ⟨fun pins s σ H Q I ⟨R, h1, h2⟩ =>
  thn (h.run pins s σ H R I h1) fun u s' ⟨v, H', J, r, q⟩ => ⟨v, H', J, r, h2 v H' q⟩⟩
/-- BadX(e), BadX a class below SayingError: its dict is new -/
def tSay (C : Addr) (te : TE) : L2.St → Hp → XK → Prop := fun σ H Q => te σ H fun x H1 => ∀ d, H1 d = none → Q (.ref C) (some d) (upd H1 d (.xd [("value", x)]))
theorem pmk_say {X : Cx} {x : Str} {C D fI cc cda : Addr} {k : Nat} {fd : FuncData} {e : Expr} {te : TE} {p pos : Pos} (T : SayC X.K D C) (F : SayD X.prog X.K X.mg D fI cc cda fd) (iC : PySem.W.findIn X.K (.ref C) "__init__" = some (some (.ref fI)))
    (tI : PySem.W.typeIn X.K (.ref fI) = some (.type "function")) (hr : Room 2 X.A) (hg : Gl X x) (hm : X.mg x = some (.ref C)) (he : PE X e te)
    (hs : starEach [e] X.env = (false, eval e X.env) :: starEach [] X.env := by rfl) (hdb : (x == ("__debug__" : Str)) = false := by decide) :
    PMk X (.Call (.Name x p) [e] [] pos) (tSay C te) := by
  have F1 : FnOk X.prog X.w X.K X.mg X.base CX0 1 fI fd ["self", "value"] (spInit X.K D) := init_ok F
  have hb : Binds X.K fd ["self", "value"] [] := by
    obtain ⟨oc, kV, doc, pm, ct, an, od, osl, rfl, lk⟩ := F.fn
    refine .all fun us hl => ?_
    match us, hl with
    | [_, _], _ => rfl
  have base := pmk_oex (p := p) (pos := pos) (dvs := []) T.oex iC tI F1 hr hb .nil (fun _ _ _ _ _ _ _ h => h.elim) hg hm (pa_cons (pe_up he) pa_nil hs) hdb hs
  intro pins s σ H Q I h
  refine base pins s σ H Q I ⟨_, h, fun x H1 hB => ⟨by show 1 ≤ 1000; decide, fun a na => ⟨a, C, x, rfl, upd_same, T, fun d nd ne => ⟨rfl, d, [("value", x)], upd_same, ?_, ?_, ?_⟩⟩⟩⟩
  · rw [upd_ne ne, upd_same]
  · rw [upd_ne ne] at nd
    exact nd
  · have nd' : H1 d = none := by
      rw [upd_ne ne] at nd
      exact nd
    have eH : upd (L2.del (upd (upd (upd H1 a (exo a C none)) d (exd d [("value", x)])) a (exo a C (some d))) a) d (.xd [("value", x)]) = upd H1 d (.xd [("value", x)]) := by
      funext b
      by_cases hb : b = d
      · rw [hb, upd_same, upd_same]
      · rw [upd_ne hb, upd_ne hb]
        by_cases ha : b = a
        · rw [ha, del_same, na]
        · rw [del_ne ha, upd_ne ha, upd_ne hb, upd_ne ha]
    rw [eH]
    exact hB d nd'

/-! ### an exception that is kept -/
/-- at a: an exception of the class cls, its dict at d -/
def exk (a : Addr) (cls : Value) (d : Option Addr) : HO := .ext fun h => ∃ (oe : Obj) (vs : Array Value), h.get? a = some oe ∧ Zc cls d oe ∧ oe.data = .fields vs
theorem exk_ok {P : Program} {w : World} {H : Hp} {h : Heap} {a : Addr} {cls : Value} {d : Option Addr} {oe : Obj} {vs : Array Value} (e : h.get? a = some oe) (z : Zc cls d oe) (hd : oe.data = .fields vs) : ObjOk P w H h a (exk a cls d) :=
  ⟨⟨oe, vs, e, z, hd⟩, ⟨oe, e⟩, fun _ _ ⟨o, v, q, r⟩ k => ⟨o, v, k o q, r⟩⟩
theorem exk_at {P : Program} {w : World} {H : Hp} {h : Heap} {a : Addr} {cls : Value} {d : Option Addr} (hok : HOk P w H h) (e : H a = some (exk a cls d)) : ∃ (oe : Obj) (vs : Array Value), h.get? a = some oe ∧ Zc cls d oe ∧ oe.data = .fields vs := by
  have x : ObjOk P w H h a (.ext fun h => ∃ (oe : Obj) (vs : Array Value), h.get? a = some oe ∧ Zc cls d oe ∧ oe.data = .fields vs) := hok a _ e
  exact x.1
section
variable {X : Cx} {pins : List (Addr × Obj)} {σ : L2.St} {H : Hp} {s : Shared}
/-- a pinned object is tracked from now on -/
theorem adopt {a : Addr} {oe : Obj} {o : HO} (I : Inv X ((a, oe) :: pins) σ H s) (hp : ∀ p ∈ X.pn ++ pins, p.1 ≠ a) (h0 : X.s_0.heap.get? a = none) (hex : X.ex = []) (new : ∀ H', ObjOk X.prog X.w H' s.heap a o) : Inv X pins σ (upd H a o) s := by
  obtain ⟨ga, na, nL, nF, nC⟩ := I.pin (a, oe) (List.mem_append_right _ List.mem_cons_self)
  have n0 : ∀ b ob, X.s_0.heap.get? b = some ob → b ≠ a := fun b ob e z => by
    rw [z, h0] at e
    cases e
  have ns : ∀ b u, H b = some u → b ≠ a := fun b u e z => by
    rw [z, na] at e
    cases e
  refine ⟨I.ok, I.os, I.bare, ⟨I.base.keep, I.base.slot, fun b ob e n hx => ?_, I.base.there, fun b xs e => ?_, fun b ob u e => ?_, fun b ps e => ?_⟩, I.loc, I.cell, ?_, fun x c e => ?_, fun p hq => ?_, fun b u e => ?_, I.len⟩
  · rw [upd_ne (n0 b ob e)]
    exact I.base.free b ob e n hx
  · have q := I.base.tups b xs e
    rw [upd_ne (ns b _ q)]
    exact q
  · have q := I.base.frzs b ob u e
    rw [upd_ne (ns b _ q)]
    exact q
  · obtain ⟨m, q⟩ := I.base.tbls b ps e
    exact ⟨m, by rw [upd_ne (ns b _ q)]; exact q⟩
  · rw [upd_ne (Ne.symm nL)]
    exact I.free
  · have hc : c ≠ a := fun z => by
      obtain ⟨v, oc, hoc, hd⟩ := I.cell x c e
      rw [z, ga] at hoc
      cases hoc
      exact nC _ hd
    rw [upd_ne hc]
    exact I.freeC x c e
  · have hq' : p ∈ X.pn ++ (a, oe) :: pins := by
      rcases List.mem_append.mp hq with z | z
      · exact List.mem_append_left _ z
      · exact List.mem_append_right _ (List.mem_cons_of_mem _ z)
    obtain ⟨e, n, ne, nf, d⟩ := I.pin p hq'
    exact ⟨e, by rw [upd_ne (hp p hq)]; exact n, ne, nf, d⟩
  · by_cases hb : b = a
    · subst hb
      rw [upd_same] at e
      cases e
      exact new _
    · rw [upd_ne hb] at e
      exact (I.hok b u e).stay (fun c v _ q => q) (fun c q => by rw [upd_ne (ns c _ q)]; exact q) fun c xs q => by rw [upd_ne (ns c _ q)]; exact q
end

/-- what 'except x as n: y = n' wishes of an exception of the body: slot i is n's, j is y's -/
def wKeep (K : PySem.W.Frag) (c : Value) (i j : Nat) (Wout : WX) (D : Ends) : WX := fun cls d σ H =>
  ∃ b, PySem.W.exmOne K cls c = some b ∧ (b = true → ∀ a, H a = none → D.nx (((σ.set i (some (.ref a))).set j (some (.ref a))).set i none) (upd H a (exk a cls d))) ∧ (b = false → Wout cls d σ H)
section
variable {X : Cx} {x n : Str} {c : Value} {i j : Nat} {body : List Stmt} {st : Stmt} {np pos pos' : Pos} {tb : WX → TS} {Wout : WX}
theorem ps_try_keep (hs : X.stack = X.env :: X.outer) (hf : X.env.frame = some X.env.locals) (hN : X.N.Nodup) (hi : X.N[i]? = some n) (hln : X.env.kindOf n = some .local) (hc : Names X x c) (hex : X.ex = []) (tk : Takes X Wout)
    (hb : ∀ (W : WX) (pn : List (Addr × Obj)) (xe : Value → Shared → Prop), Takes (X.tr pn xe) W → PassesOwn (model X.prog X.w) X.A X.env xe → PSs (X.tr pn xe) body (tb W))
    (hsu : ∀ (a : Addr) (oe : Obj) (pn : List (Addr × Obj)), PSs (X.suite a ((a, oe) :: pn)) [st] (tAsg (tVar i) (gName j))) :
    PS X (.Try body [.ExceptHandler (some (.Name x np)) (some n) [st] pos'] [] [] pos) (fun D σ H => tb (wKeep X.K c i j Wout D) D σ H) := by
  refine ⟨fun pins s σ H D I h => ?_⟩
  have ok := I.ok
  have hfr : X.A.frames = some (X.env :: X.outer) := by rw [ok.frames, hs]
  refine wpAny_Try_except ?_
  refine wpAny_mono ((hb (wKeep X.K c i j Wout D) (X.pn ++ pins) (fun e s₁ => wpAny (model X.prog X.w) X.A (noteFrame e X.env) (fun _ s₂ => wpAny (model X.prog X.w) X.A (setFlight e none) (fun _ s₃ =>
    wpAny (model X.prog X.w) X.A (handleBy e X.env [.ExceptHandler (some (.Name x np)) (some n) [st] pos']) (SP X pins D) X.xe s₃) X.xe s₂) X.xe s₁) (fun u s' xx => ?_) PassesOwn.looking).run [] s σ H D (I.toTry _) h) (fun f s1 hsp => ?_) (fun e s1 he => he)
  · obtain ⟨a, B, sI, pins', σ', H', cls, d, rfl, J', nb, up, sky, na, os, ag, b, hb1, hyes, hno⟩ := xx
    have J : Inv X pins σ' H' sI := J'.ofTry ok
    have sky' : Sky B (X.env :: X.outer) a (Zc cls d) X.env.locals s'.heap := by rw [← hs]; exact sky
    show wpAny (model X.prog X.w) X.A (noteFrame (.ref a) X.env) _ _ _
    refine Sky.land Zc.steady hfr hf sky' fun h3 fl3 up3 => ?_
    have J3 : Inv X pins σ' H' { s' with heap := h3 } := J.landed nb fl3.1 (up.trans up3) os ag
    obtain ⟨oe3, vs3, he3, hz3, hd3⟩ := fl3.there
    have bNone : B.get? a = none := fl3.2.1
    have inB : ∀ b o, sI.heap.get? b = some o → b ≠ X.env.locals → b ∉ X.fs → b ≠ a := fun b o e h1 h2 z => by
      have q := nb b o e fun hm => by
        rw [hs] at hm
        obtain ⟨ev, hev, q⟩ := List.mem_filterMap.mp hm
        rcases List.mem_cons.mp hev with y | y
        · rw [y, hf] at q
          exact h1 (Option.some.inj q).symm
        · exact h2 (List.mem_filterMap.mpr ⟨ev, y, q⟩)
      rw [z, bNone] at q
      cases q
    have nfr : a ∉ frs (X.env :: X.outer) := fun hm => by
      obtain ⟨_, o', e', hnf⟩ := fl3.2.2.1.mem hm
      rw [he3] at e'
      cases e'
      exact hnf _ hd3
    have nL : a ≠ X.env.locals := fun z => nfr (List.mem_filterMap.mpr ⟨X.env, List.mem_cons_self, by rw [hf, z]⟩)
    have nF : a ∉ X.fs := fun hm => by
      obtain ⟨e, he, q⟩ := List.mem_filterMap.mp hm
      exact nfr (List.mem_filterMap.mpr ⟨e, List.mem_cons_of_mem _ he, q⟩)
    have noEx : ∀ b, b ∉ X.ex := fun b z => by
      rw [hex] at z
      cases z
    have h0 : X.s_0.heap.get? a = none := by
      cases e : X.s_0.heap.get? a with
      | none => rfl
      | some o =>
        obtain ⟨o', q⟩ := J.base.there a o e (noEx a)
        exact absurd rfl (inB a o' q nL nF)
    have hpins : ∀ p ∈ X.pn ++ pins, p.1 ≠ a := fun p hp => by
      obtain ⟨e, _, n1, n2, _⟩ := J.pin p hp
      exact inB p.1 p.2 e n1 n2
    have S3 := J3.suite he3 hd3 na nL nF
    refine wpAny_handleBy_cons (codeAny_handlers_test ?_) (by intro q; cases q)
    have LT : PySem.W.Looks (model X.prog X.w) h3 (typeOf (.ref a)) cls := fun A Q E s k q => wpAny_typeOf_ref (k _ _ he3) (by rw [hz3.1]; exact q)
    have LM := PySem.W.exm_one (M := model X.prog X.w) (J3.kIn) LT hb1
    have test : ∀ {Q : Value → Shared → Prop} {E : Value → Shared → Prop}, Q c { s' with heap := h3 } → wpAny (model X.prog X.w) (X.A.mark (some (.ref a))) (eval (.Name x np) X.env) Q E { s' with heap := h3 } := fun {Q E} q => by
      obtain ⟨hg, hdbg, hm | ⟨hm, hv, hnn⟩⟩ := hc
      · exact ld_glob (X := X.suite a ((a, oe3) :: (X.pn ++ pins))) S3 hg hm q hdbg
      · exact ld_blt (X := X.suite a ((a, oe3) :: (X.pn ++ pins))) S3 hg hm hv q hnn hdbg
    refine test (LM.here ?_)
    cases b with
    | true =>
      refine codeAny_handlers_suite_as ?_
      refine HandSPX.lands_againZ fl3 fun h4 fl4 up4 => ?_
      have J4 : Inv X pins σ' H' { s' with heap := h4 } := J.landed nb fl4.1 ((up.trans up3).trans up4) os ag
      obtain ⟨oe4, vs4, he4, hz4, hd4⟩ := fl4.there
      have S4 := J4.suite he4 hd4 na nL nF
      refine store_ok (X := X.suite a ((a, oe4) :: (X.pn ++ pins))) (v := .ref a) S4 hN hi (.inl hln) rfl (fun s5 S5 => ?_) (.inr hln)
      have hlen : i < σ'.length := by
        rw [J4.len]
        exact (List.getElem?_eq_some_iff.mp hi).1
      refine wpAny_mono ((hsu a oe4 (X.pn ++ pins)).run [] s5 _ H' { nx := fun σ6 H6 => σ6 = (σ'.set i (some (.ref a))).set j (some (.ref a)) ∧ H6 = H', rt := fun _ _ => False } S5 ⟨.ref a, by rw [List.getElem?_set_self hlen], rfl, rfl⟩) (fun f s6 hsp => ?_) (fun _ _ z => False.elim z)
      cases f with
      | next =>
        obtain ⟨σ6, H6, S6, e1, e2⟩ := hsp
        rw [e1, e2] at S6
        have g6 := (S6.pin (a, oe4) (List.mem_append_left _ List.mem_cons_self))
        have U6 : Inv X ((a, oe4) :: pins) ((σ'.set i (some (.ref a))).set j (some (.ref a))) H' s6 := (S6.unsuite ok).pins_of (pins' := (a, oe4) :: pins) fun p hp => by
          rcases List.mem_cons.mp hp with e | e
          · rw [e]
            exact g6
          · exact (S6.unsuite ok).pin p (List.mem_append_right _ e)
        exact gone_ok U6 hN hi hln fun s7 J7 => by
          obtain ⟨e7, _⟩ := J7.pin (a, oe4) (List.mem_append_right _ List.mem_cons_self)
          exact ⟨_, _, adopt J7 hpins h0 hex (fun H'' => exk_ok e7 hz4 hd4), hyes rfl a na⟩
      | brk =>
        obtain ⟨σ6, H6, S6, q6⟩ := hsp
        exact q6.elim
      | cont =>
        obtain ⟨σ6, H6, S6, q6⟩ := hsp
        exact q6.elim
      | ret u =>
        obtain ⟨v6, σ6, H6, S6, r6, q6⟩ := hsp
        exact q6.elim
    | false =>
      show wpAny _ X.A (handleBy (.ref a) X.env []) _ _ _
      refine wpAny_handleBy_nil ?_
      obtain ⟨k1, k2, k3, oe, vs, T, oT, ts', he, hz, hd, h1, hr⟩ := id fl3
      unfold PySem.passOn
      refine wpAny_bind (wpAny_field he hd h1 ?_)
      rw [if_neg (show ¬ ((Value.ref T == Value.none) = true) from by simp)]
      have fin : wpAny (model X.prog X.w) X.A (setFlight (.ref a) X.env.frame) (fun _ s4 => wpAny (model X.prog X.w) X.A (throw (.ref a) : Sem Flow) (SP X pins D) X.xe s4) X.xe { s' with heap := h3 } := by
        rw [hf]
        refine HandSPX.setFlight_upZ fl3 fun h4 hh4 up4 => wpAny_throw (tk _ _ ?_)
        exact ⟨a, B, sI, pins, σ', H', cls, d, rfl, J, nb, (up.trans up3).trans up4, .inr (.inr (by rw [hs]; exact hh4)), na, os, ag, hno rfl⟩
      first
        | exact wpAny_bind (wpAny_pure (wpAny_bind fin))
        | exact wpAny_bind fin
  · cases f with
    | next =>
      obtain ⟨σ', H', J', q⟩ := hsp
      exact wpAny_execs_nil ⟨σ', H', J'.ofTry ok, q⟩
    | brk =>
      obtain ⟨σ', H', J', q⟩ := hsp
      exact ⟨σ', H', J'.ofTry ok, q⟩
    | cont =>
      obtain ⟨σ', H', J', q⟩ := hsp
      exact ⟨σ', H', J'.ofTry ok, q⟩
    | ret u =>
      obtain ⟨v, σ', H', J', r, q⟩ := hsp
      exact ⟨v, σ', H', J'.ofTry ok, r, q⟩
end
end Sy
end
section
set_option Elab.async false
set_option linter.all false
set_option maxRecDepth 100000
set_option maxHeartbeats 2000000
namespace Sy
open PySem PySem.Spec PyProof.Rows L2

/-- an exception that is kept: its class, the value that it keeps -/
def Kept (H : Hp) (x : V) (C : Addr) (v : V) : Prop := ∃ (a d : Addr), x = .ref a ∧ H a = some (exk a (.ref C) (some d)) ∧ H d = some (.xd [("value", v)])
/-- isinstance(x, c), x any value or an exception that is kept -/
def rIsx (K : PySem.W.Frag) : List V → Hp → VK → Prop := fun xs H Q => ∃ (x c : V) (t u : Value) (b : Bool), xs = [x, c] ∧ ClsV c u ∧ (TyX K H x t ∨ ∃ C v, t = .ref C ∧ Kept H x C v ∧ ExcC K C) ∧ PySem.W.kitOne K t u = some b ∧ Q (.bl b) H
section
variable {X : Cx} {pins : List (Addr × Obj)} {σ : L2.St} {H : Hp} {s : Shared}
theorem kept_inst (I : Inv X pins σ H s) {a d C : Addr} {v : V} (ea : H a = some (exk a (.ref C) (some d))) (ed : H d = some (.xd [("value", v)])) :
    ∃ oe od u, PySem.W.InstAt s.heap a oe C (some od) ∧ RelV v u ∧ PySem.W.lookIn "value" od = some (some u) := by
  obtain ⟨oe, vs, e1, z, hd⟩ := exk_at I.hok ea
  have hx : ObjOk X.prog X.w H s.heap d (.xd [("value", v)]) := I.hok d _ ed
  obtain ⟨mA, hns, hr⟩ := hx
  obtain ⟨od, ho, hl⟩ := lookIn_ns hns
  obtain ⟨u, hu, ru⟩ := RelO.some_of (v := v) (o := mA "value") (by simpa [List.lookup] using hr "value")
  exact ⟨oe, od, u, ⟨e1, z.1, by unfold PySem.W.notCls; rw [hd] <;> rfl, by rw [z.2]; exact ho⟩, ru, by rw [hl, hu]⟩
theorem call_isx : CallR X (.builtin "isinstance") (rIsx X.K) := by
  intro pins s σ H xs us Q I r h
  obtain ⟨x, c, t, u, b, rfl, k, ty, e, q⟩ := h
  rcases ty with ty | ⟨C, v, rfl, ⟨a, d, rfl, ea, ed⟩, EC⟩
  · exact call_isi pins s σ H _ us Q I r ⟨x, c, t, u, b, rfl, k, ty, e, q⟩
  · obtain ⟨u1, u2, rfl, r1, r2⟩ := vals2 r
    have e2 := k.eq r2
    subst e2
    obtain rfl : u1 = Value.ref a := r1
    obtain ⟨oe, od, _, J, _⟩ := kept_inst I ea ed
    obtain ⟨cd, hcd, _⟩ := PySem.W.any_some EC.hd
    exact PySem.W.kia_one (PySem.W.kitx_exc (x := a) (C := C) (ox := oe) (od := some od) (by rw [hcd]; rfl) EC.hg EC.hk EC.hs EC.ha EC.hn EC.ht EC.hm) I.kIn J e (fun z => nomatch z) fun tk => ⟨.bl b, H, I.tok tk, rfl, q⟩
/-- e.value, e an exception that is kept -/
def tVal (K : PySem.W.Frag) (te : TE) : TE := fun σ H Q => te σ H fun x H1 => ∃ C v, Kept H1 x C v ∧ XfC K C ∧ PySem.W.findIn K (.ref C) "value" = some none ∧ Q v H1
theorem pe_value {e : Expr} {te : TE} {pos : Pos} (he : PE X e te) (hb : attributeBase e "value" X.env (eval e X.env) = eval e X.env := by rfl) : PE X (.Attribute e "value" pos) (tVal X.K te) := by
  refine ⟨fun pins s σ H Q I h => ?_⟩
  refine attr_of hb (thn (he.run pins s σ H _ I h) fun u s1 hh => ?_)
  obtain ⟨x, H1, I1, rx, C, v, ⟨a, d, rfl, ea, ed⟩, T, hno, q⟩ := hh
  obtain rfl : u = Value.ref a := rx
  obtain ⟨oe, od, uv, J, ru, hl⟩ := kept_inst I1 ea ed
  exact HandSPX.exc_get I1.kIn J T.ga T.gg T.exC (PySem.W.findObj_own T.hdC hno rfl hl) (handed_of ru) ⟨v, H1, I1.tok _, ru, q⟩
end
end Sy
end
section
set_option Elab.async false
set_option linter.all false
set_option maxRecDepth 100000
set_option maxHeartbeats 2000000
namespace Sy
open PySem PySem.Spec PyProof.Rows L2

/-- repr(x), x data -/
def rRepr (K : PySem.W.Frag) : List V → Hp → VK → Prop := fun xs H Q => ∃ (x : V) (d : PyData), xs = [x] ∧ Dp K H x d ∧ SeqAt.shaped d = true ∧ d.showable = true ∧ d.shown.length ≤ sizeLine ∧ Q (.str d.shown) H
theorem call_repr {X : Cx} {k : Nat} (hr : Room k X.A) (hg : X.A.guards = some []) : CallR X (.builtin "repr") (rRepr X.K) := by
  intro pins s σ H xs us Q I r h
  obtain ⟨x, d, rfl, hd, hs, hw, hz, q⟩ := h
  obtain ⟨u, rfl, ru⟩ := vals1 r
  have hu := hr.un
  cases hd with
  | non => cases (show u = Value.none from ru); exact PySem.P.repr_of_none ⟨.str "None", H, I.tok _, ⟨_, rfl⟩, q⟩
  | bl b =>
    cases (show u = Value.bool b from ru)
    exact PySem.P.repr_of_bool ⟨.str (if b then "True" else "False"), H, I.tok _, ⟨_, rfl⟩, q⟩
  | int i =>
    obtain ⟨t, rfl⟩ := ru
    exact PySem.P.repr_of_int (by simpa [PyData.showable] using hw) ⟨.str (toString i), H, I.tok _, ⟨_, rfl⟩, q⟩
  | str y =>
    obtain ⟨t, rfl⟩ := ru
    exact PySem.P.repr_of_str (x := y) ⟨.str (reprText y), H, I.tok _, ⟨_, rfl⟩, q⟩ hz
  | @lst a xs ds h1 h2 =>
    cases (show u = Value.ref a from ru)
    obtain ⟨as, R⟩ := Dp.reads I _ _ _ (Dp.lst h1 h2) (rfl : RelV (.ref a) (.ref a))
    have hdp := SeqAt.depth_of_shaped hs
    exact repr_of_reads' (s := s) R hw (PyData.noDict_hsm (PyData.hasDict_of_canLay _ (SeqAt.canLay_of_shaped hs))) hg (by omega) (fun _ _ e => e) (fun h' u tk k => ⟨.str _, H, I.kept (t' := tk) k, ⟨_, rfl⟩, q⟩) hz
  | @tup a xs ds h1 h2 =>
    cases (show u = Value.ref a from ru)
    obtain ⟨as, R⟩ := Dp.reads I _ _ _ (Dp.tup h1 h2) (rfl : RelV (.ref a) (.ref a))
    have hdp := SeqAt.depth_of_shaped hs
    exact repr_of_reads' (s := s) R hw (PyData.noDict_hsm (PyData.hasDict_of_canLay _ (SeqAt.canLay_of_shaped hs))) hg (by omega) (fun _ _ e => e) (fun h' u tk k => ⟨.str _, H, I.kept (t' := tk) k, ⟨_, rfl⟩, q⟩) hz
end Sy
end
section
set_option Elab.async false
set_option linter.all false
set_option maxRecDepth 100000
set_option maxHeartbeats 2000000
namespace Sy
open PySem PySem.Spec PyProof.Rows L2

/-- a def's promise where no repr is under way -/
structure FnG (P : Program) (w : World) (K : PySem.W.Frag) (mg : Str → Option Value) (base : Heap) (CX : CXT) (k : Nat) (f : Addr) (fd : FuncData) (ps : List Str) (sp : Sp) : Prop where
  len : ∀ vs H Q E, sp vs H Q E → vs.length = ps.length
  run : ∀ (A : Around) (outer : List Env) (s : Shared) (H : Hp) (args : Args) (us : List Value) (vs : List V) (Q : VK) (E : XK), Room k A → A.guards = some [] → Env0 P w K mg base A outer s H → BindsTo s fd args (ps.zip us) → Vals vs us → sp vs H Q E →
    codeAny (model P w) A (.call (.ref f) args) (CR CX outer P w H s Q E) s
section
variable {P : Program} {w : World} {K : PySem.W.Frag} {mg : Str → Option Value} {base : Heap} {CX : CXT} {k : Nat} {f : Addr} {fd : FuncData} {ps : List Str} {sp : Sp}
theorem FnG.of (F : FnOk P w K mg base CX k f fd ps sp) : FnG P w K mg base CX k f fd ps sp := ⟨F.len, fun A outer s H args us vs Q E hr _ => F.run A outer s H args us vs Q E hr⟩
theorem FnG.mono {j : Nat} (F : FnG P w K mg base CX j f fd ps sp) (h : j ≤ k) : FnG P w K mg base CX k f fd ps sp := ⟨F.len, fun A outer s H args us vs Q E hr => F.run A outer s H args us vs Q E (hr.mono h)⟩
/-- a def, by its body -/
theorem okG {x qual : Str} {st : Stmt} {N : List Str} (F : Fun K x qual st f fd) (S : FnScope N ps (defScope st)) (len : ∀ vs H Q E, sp vs H Q E → vs.length = ps.length)
    (hbody : ∀ (cdv : Value) (A : Around) (outer : List Env) (s : Shared) (H : Hp) (vs : List V) (Q : VK) (E : XK), Room k (A.deeper (envOfC qual (defScope st) s.heap.objs.size f cdv)) → A.guards = some [] → PySem.W.codeIn K cdv qual = true → sp vs H Q E →
      ∃ t, PSs (cxOf CX P w K mg base N qual (defScope st) f cdv A outer s H E) (defBody st) t ∧ t { nx := fun _ H' => Q .non H', rt := Q } (L2.start N vs) H) : FnG P w K mg base CX (k + 1) f fd ps sp := by
  obtain ⟨oc, od, kV, doc, pm, an, cdv, ct, osl, rfl, lk, hcd⟩ := F.ex
  exact ⟨len, fun A outer s H args us vs Q E hr hg e0 hb r h => LamX.run_ofS lk hcd S hr e0 hb r (len _ _ _ _ h) fun hr' => hbody cdv A outer s H vs Q E hr' hg hcd h⟩
end
section
variable {X : Cx} {CX : CXT} {k : Nat} {f : Addr} {fd : FuncData} {ps : List Str} {sp : Sp} {dvs : List V} {ds : List Value} {E : XK} {x : Str} {p pos : Pos} {e : Expr} {es : List Expr} {t : TA}
theorem run_fnG {pins : List (Addr × Obj)} {σ : L2.St} {H : Hp} {s : Shared} {Q : VK} {us : List Value} {vs : List V} (F : FnG X.prog X.w X.K X.mg X.base CX k f fd ps sp) (hr : Room k X.A) (hgu : X.A.guards = some []) (hb : L2.Binds X.K fd ps ds) (hd : Vals dvs ds) (hx : Passes CX X E)
    (I : Inv X pins σ H s) (r : Vals vs us) (h : sp (vs ++ dvs) H Q E) : wpAny (model X.prog X.w) X.A (call (.ref f) us) (EP X pins σ Q) X.xe s := by
  have r2 : Vals (vs ++ dvs) (us ++ ds) := r.append hd
  have hl : (us ++ ds).length = ps.length := r2.length.symm.trans (F.len _ _ _ _ h)
  refine wpAny_call (codeAny_mono (F.run X.A X.stack s H ⟨us, []⟩ _ _ Q E hr hgu I.env0 (hb s us I.kIn hl) r2 h) fun res s' hq => ?_)
  match res, hq with
  | .error e, hq => exact hx pins σ H s e s' I hq
  | .ok (.ret u), hq => exact I.after hq
theorem pe_callG (F : FnG X.prog X.w X.K X.mg X.base CX k f fd ps sp) (hr : Room k X.A) (hgu : X.A.guards = some []) (hg : Gl X x) (hm : X.mg x = some (.ref f)) (hk : PySem.W.keepIn X.K (.ref f) = true) (hb : L2.Binds X.K fd ps ds) (hd : Vals dvs ds) (hx : Passes CX X E)
    (ha : PA X (e :: es) t) (hdb : (x == ("__debug__" : Str)) = false := by decide) (he : starEach (e :: es) X.env = (false, eval e X.env) :: starEach es X.env := by rfl) (hpl : (backTo pos (starEach es X.env)).any (·.1) = false := by rfl) :
    PE X (.Call (.Name x p) (e :: es) [] pos) (tCall sp dvs E t) :=
  ⟨fun pins s σ H Q I h => wpAny_Call_Name_kw (ld_glob I hg hm (PySem.W.callWith_K (h₀ := X.base) I.ok.mod.kin hk (thn (ha.run pos pins s σ H _ I h) fun us s1 ⟨vs, H1, I1, r, q⟩ => ⟨I1.kIn, run_fnG F hr hgu hb hd hx I1 r q⟩) he hpl) hdb)⟩
end
end Sy
end
section
set_option Elab.async false
set_option linter.all false
set_option maxRecDepth 100000
set_option maxHeartbeats 2000000
namespace Sy
open PySem PySem.Spec PyProof.Rows L2 LamX

section
variable {X : Cx} {pins : List (Addr × Obj)} {σ : L2.St} {H : Hp} {s : Shared}
/-- f(), f a local name that holds the lambda, within a try: what is raised is wished for at the caller's slots -/
theorem act_slots {CXg : CXT} {Eg : XK} {Ng : List Str} {qg : Str} {sg : Scope} {g f c' : Addr} {cdg pm ctv : Value} {params : Arguments} {body : Expr} {scope : Scope} {k i : Nat} {a : Str} {pn : List (Addr × Obj)} {xe : Value → Shared → Prop} {W : WX} {tb : XK → TE} {p1 p2 : Pos}
    (I : Inv X pins σ H s) (L : LamS X.env.scope scope) (hf : s.heap.get? f = some (PySem.W.kla_obj "<lambda>" (X.env.qual ++ "<lambda>") params body scope (cloFrom X.env.cells scope.names []) pm c' ctv)) (hfn : H f = none) (hfr : f ∉ frs X.stack)
    (hbind : bindArgs (PySem.W.kla_fn "<lambda>" (X.env.qual ++ "<lambda>") params body scope (cloFrom X.env.cells scope.names []) pm (.ref c') ctv) ⟨[], []⟩ = pure [])
    (tk : Takes ((cxOf CXg X.prog X.w X.K X.mg X.base Ng qg sg g cdg X.A X.stack s H Eg).tr pn xe) W) (hr : Room (k + 1) (X.A.deeper (envOfC qg sg s.heap.objs.size g cdg)))
    (hbody : ∀ (A : Around) (outer : List Env) (s : Shared) (H : Hp) (E : XK), Room k (A.deeper (lamEnv X scope s.heap.objs.size f c')) → PE (lamCx X A outer s H E scope f c') body (tb E))
    (hN : Ng[i]? = some a) (hv : Vis sg a) (hd : (a == ("__debug__" : Str)) = false := by decide) (hcd : (a == ("__classdict__" : Str)) = false := by decide) :
    PE ((cxOf CXg X.prog X.w X.K X.mg X.base Ng qg sg g cdg X.A X.stack s H Eg).tr pn xe) (.Call (.Name a p1) [] [] p2)
      (fun σZ HZ Q => ∃ E : XK, (∀ cls d H', E cls d H' → W cls d σZ H') ∧ σZ[i]? = some (some (.ref f)) ∧ HZ c' = some (CodeO c' (X.env.qual ++ "<lambda>")) ∧ tb E σ HZ Q) := by
  refine ⟨fun pinsZ sZ σZ HZ Q IZ ⟨E, hW, hs, hc, ht⟩ => wpAny_Call_Name_kw (thn ((pe_var (pos := p1) (i := i) hN hv hd hcd).run pinsZ sZ σZ HZ (fun v H1 => v = .ref f ∧ H1 = HZ) IZ ⟨.ref f, hs, rfl, rfl⟩) fun u s1 ⟨v, H1, I1, r1, e1, e2⟩ => ?_)⟩
  subst e1
  rw [e2] at I1
  obtain rfl : u = Value.ref f := r1
  have of1 := I1.base.keep f _ hf hfn hfr (fun z => nomatch (show f ∈ ([] : List Addr) from z))
  obtain ⟨⟨oc, vs, t, hoc, hdc, hvc⟩, _, _⟩ := I1.hok c' _ hc
  refine PySem.W.callWith_F0 ⟨_, _, _, _, of1⟩ ?_
  have rc : codeAny (model X.prog X.w) (X.A.deeper (envOfC qg sg s.heap.objs.size g cdg)) (.call (.ref f) ⟨[], []⟩) (CR (L2.CX X.prog X.w) (envOfC qg sg s.heap.objs.size g cdg :: X.stack) X.prog X.w HZ s1 Q E) s1 := by
    refine PySem.W.kla_callFunE hr.depth of1 rfl L.co L.gen rfl ⟨c', oc, vs, t, rfl, hoc, hdc, hvc⟩ ?_
    rw [hbind]
    refine wpAny_pure (wpAny_newFunctionEnv (fun y hy => (L.own y hy).2) (fun y hy => absurd hy (by simp)) (fun h₁ hns hsb => ⟨I1.nolimit.fresh _ hsb, ?_⟩) L.kind)
    have kp : ∀ b o, s1.heap.get? b = some o → h₁.get? b = some o := fun b o e => hsb.extBut b o (Nat.ne_of_lt (Heap.lt_size e)) (Heap.get?_push_of_some _ e)
    have J := lam_start2 (f := f) (c' := c') (E := E) (tk := s1.toks + ([] : List (Str × Value)).length) I L I1.env0 hr.hd (show Un (frs X.stack) [] H HZ s.heap s1.heap from I1.base) hns kp
    show codeAny _ _ (.expr body (lamEnv X scope s1.heap.objs.size f c')) _ _
    exact PySem.W.kla_codeExpr (wpAny_mono ((hbody _ _ s1 HZ E (hr.deeper _)).run [] _ _ HZ Q J ht) (fun v s' ⟨w', H', J', rv, q⟩ => ⟨w', H', J'.os, J'.bare, J'.base, J'.hok, rv, q⟩) fun e s' hq => hq)
  refine wpAny_call (codeAny_mono rc fun r s' hq => ?_)
  match r, hq with
  | .error e, hq => exact tk e s' (XE.of_call (W := W) (E := E) I1 (fun cls d H' h => hW cls d H' h) hq)
  | .ok (.ret u), hq => exact I1.after hq
/-- the def that calls what it got, within a try -/
def GivesS (X : Cx) (Ng : List Str) (x : Str) (sg : Scope) (g : Addr) (cdg : Value) (bg : List Stmt) (a : Str) (q : Str) (TT : (XK → Hp → VK → Prop) → Hp → VK → Prop) : Prop :=
  ∀ (f c' : Addr) (s : Shared) (H : Hp) (Q : VK) (tl : XK → Hp → VK → Prop),
    (∀ (W : WX) (pn : List (Addr × Obj)) (xe : Value → Shared → Prop) (p1 p2 : Pos), Takes ((cxOf CX0 X.prog X.w X.K X.mg X.base Ng x sg g cdg X.A X.stack s H E0).tr pn xe) W →
      PE ((cxOf CX0 X.prog X.w X.K X.mg X.base Ng x sg g cdg X.A X.stack s H E0).tr pn xe) (.Call (.Name a p1) [] [] p2) (fun σZ HZ Q => ∃ E : XK, (∀ cls d H', E cls d H' → W cls d σZ H') ∧ σZ[0]? = some (some (.ref f)) ∧ HZ c' = some (CodeO c' q) ∧ tl E HZ Q)) →
    H c' = some (CodeO c' q) → TT tl H Q →
    ∃ t, PSs (cxOf CX0 X.prog X.w X.K X.mg X.base Ng x sg g cdg X.A X.stack s H E0).nox bg t ∧ t { nx := fun _ H' => Q .non H', rt := Q } (L2.start Ng [.ref f]) H
/-- x(lambda: body), x such a def -/
theorem pe_lamS {T : List (Addr × Str)} {TT : (XK → Hp → VK → Prop) → Hp → VK → Prop} {x a : Str} {g c P : Addr} {k : Nat} {pg : Arguments} {bg : List Stmt} {sg : Scope} {dV kV doc pm cdv ct oc : Value} {an od : Option Addr} {osl : Array (Option Value)} {Ng : List Str}
    {params : Arguments} {body : Expr} {scope : Scope} {t : XK → TE} {p lpos pos : Pos} (hg : Gl X x) (hm : X.mg x = some (.ref g)) (hk : PySem.W.keepIn X.K (.ref g) = true)
    (lk : X.K.lookup g = some ⟨oc, od, .func (PySem.W.fnOf x x pg bg sg dV kV doc pm an cdv ct), osl⟩) (hcg : PySem.W.codeIn X.K cdv x = true) (hb : L2.Binds X.K (PySem.W.fnOf x x pg bg sg dV kV doc pm an cdv ct) [a] []) (Sg : FnScope Ng [a] sg) (hNg : Ng[0]? = some a) (hva : Vis sg a)
    (hG : GivesS X Ng x sg g cdv bg a (X.env.qual ++ "<lambda>") TT)
    (TB : TabB X.base X.mg c P) (hcode : X.env.code = .ref c) (hmT : (P, X.env.qual ++ "<lambda>") ∈ T) (hu : ∀ p ∈ T, p.1 = P → p.2 = X.env.qual ++ "<lambda>") (hr : Room (k + 2) X.A) (L : LamS X.env.scope scope) (hdef : defaultsOf params X.env = ([], []))
    (hbind : ∀ (q : Str) (cl : List (Str × Addr)) (pm cv ctv : Value), bindArgs (PySem.W.kla_fn "<lambda>" q params body scope cl pm cv ctv) ⟨[], []⟩ = pure [])
    (hbody : ∀ (A : Around) (outer : List Env) (s : Shared) (H : Hp) (E : XK) (f c' : Addr), Room k (A.deeper (lamEnv X scope s.heap.objs.size f c')) → PE (lamCx X A outer s H E scope f c') body (t E))
    (hdb : (x == ("__debug__" : Str)) = false := by decide) (hd : (a == ("__debug__" : Str)) = false := by decide) (hcd : (a == ("__classdict__" : Str)) = false := by decide) :
    PE X (.Call (.Name x p) [.Lambda params body scope lpos] [] pos) (tLam T TT t) := by
  refine ⟨fun pins s σ H Q I ⟨hT, h⟩ => wpAny_Call_Name_kw (ld_glob I hg hm (PySem.W.callWith_K (h₀ := X.base) I.ok.mod.kin hk ?_ (by rfl) (by rfl)) hdb)⟩
  refine Calls.spliced_cons (x := eval (.Lambda params body scope lpos) X.env) (lam_make2 I TB hcode hmT hu hT hdef (L.has I.ok) fun f c' pm' ctv H1 s' I1 eN T1 hf hfn hfr hco => Calls.spliced_nil ⟨I1.kIn, ?_⟩)
  have rc : codeAny (model X.prog X.w) X.A (.call (.ref g) ⟨[.ref f], []⟩) (CR CX0 X.stack X.prog X.w H1 s' Q E0) s' := by
    refine run_ofS (N := Ng) (ps := [a]) (us := [.ref f]) (vs := [.ref f]) lk hcg Sg hr I1.env0 (hb s' [.ref f] I1.kIn rfl) (.cons rfl .nil) rfl fun hr' => ?_
    obtain ⟨t', ht', hq'⟩ := hG f c' s' H1 Q (fun E H' Q' => t E σ H' Q') (fun W pn xe p1 p2 tk => act_slots (i := 0) I1 L hf hfn hfr (hbind _ _ _ _ _) tk hr' (fun A outer s H E hr2 => hbody A outer s H E f c' hr2) hNg hva hd hcd) hco (h H1 eN T1)
    exact ⟨t', ht'.nox, hq'⟩
  refine wpAny_call (codeAny_mono rc fun r s2 hq => ?_)
  match r, hq with
  | .ok (.ret u), hq => exact I1.after hq
/-- what _law_heard makes of the lambda's reading: (None, what it gives) or (the error, None) -/
def TTh (K : PySem.W.Frag) (CS : Addr) : (XK → Hp → VK → Prop) → Hp → VK → Prop := fun tl H Q =>
  tl (fun cls d H' => PySem.W.exmOne K cls (.ref CS) = some true ∧ ∀ a, H' a = none → ∀ p, upd H' a (exk a cls d) p = none → Q (.ref p) (upd (upd H' a (exk a cls d)) p (.tup [.ref a, .non]))) H
    (fun v H' => ∀ p, H' p = none → Q (.ref p) (upd H' p (.tup [.non, v])))
end
end Sy
end
section
set_option Elab.async false
set_option linter.all false
set_option maxRecDepth 100000
set_option maxHeartbeats 4000000
namespace Sy
open PySem PySem.Spec PyProof.Rows L2

section
variable {P : Program} {w : World} {A : Around} {E : Value → Shared → Prop} {s : Shared}
/-- set(xs), xs a list of ints, the table with its places known -/
theorem set_of_list {l : Addr} {items : Array Value} (ns : List Int) {Q : Value → Shared → Prop} (hh : A.handled = none) (hl : s.heap.IsList l items) (hit : IntsAre items.toList ns) (hb : ns.length + 1 < scanBound)
    (h : ∀ (h' : Heap) (tk c : Nat), SetR w h' s.heap.objs.size (fun j => decide (j ∈ ns)) c → c ≤ ns.length → (∀ b o, s.heap.get? b = some o → h'.get? b = some o) → Q (.ref s.heap.objs.size) { s with heap := h', toks := tk }) :
    wpAny (model P w) A (call (.type "set") [.ref l]) Q E s := by
  have hisz : items.size = ns.length := by simpa using IntsAre.length hit
  obtain ⟨c, tl, hmro⟩ := F.called_set.mro
  have hmade := F.called_set.made
  have hsub := F.called_set.sub
  have h1 := F.called_set.notType
  have h2 := F.called_set.canCreate
  have hct := F.typeCall_set_1 (.ref l)
  obtain ⟨ol, hol, hcl, nl, hdl⟩ := hl
  obtain ⟨ocls, odict, odata, oslots⟩ := ol
  simp only at hcl hdl
  subst hcl; subst hdl
  have hlS : l < s.heap.objs.size := Heap.lt_size hol
  obtain ⟨NS, eNS⟩ : ∃ o : Obj, o = { cls := .type "set", dict := none, data := .set #[] 0 (.fresh 0 0 (!w.params.followText "set-order")) } := ⟨_, rfl⟩
  refine wpAny_call (codeAny_of_tree ?_)
  show wpAny _ _ (callAny (.type "set") _) _ _ _
  refine wpAny_pure ⟨Code.quiet_builtin _ (by decide +kernel), codeAny_builtin F.entry_type_call ?_⟩
  rw [Around.under_plain (weight_type_call_type "set" [.ref l] []) rfl]
  repeat (any_goals (first | assumption | wp_step))
  refine codeAny_mono (code_set_led1 (.ref l) (E := E) (Q₁ := fun obj s₁ => obj = .ref s.heap.objs.size ∧ s₁ = { s with heap := s.heap.push NS }) ⟨rfl, by rw [eNS]⟩) fun r s₁ hr => ?_
  match r, hr with
  | .error e, hr => exact hr
  | .ok (.ret obj), ⟨hobj, hs₁⟩ =>
    subst hobj; subst hs₁
    have hS : (s.heap.push NS).get? s.heap.objs.size = some NS := Heap.get?_push_size _ (by rw [eNS]; rfl)
    have hT : Shared.TypeIs { s with heap := s.heap.push NS } (.ref s.heap.objs.size) "set" := ⟨_, hS, by rw [eNS]⟩
    have hli := F.called_set.init.lookup
    have hbi := F.called_set.init.bind (.ref s.heap.objs.size)
    repeat (any_goals (first | assumption | wp_step))
    refine codeAny_mono (codeAny_call_builtin (R := wants (fun r s₂ => r = .none ∧ ∃ h' tk c, s₂ = { s with heap := h', toks := tk } ∧ SetR w h' s.heap.objs.size (fun j => decide (j ∈ ns)) c ∧ c ≤ ns.length ∧
        (∀ b o, s.heap.get? b = some o → h'.get? b = some o)) E) F.called_set.init.plain F.entry_set_init (check_set_init_1 hT ?_)) fun r₂ s₂ hr₂ => ?_
    · have hl1 : (s.heap.push NS).IsList l items := ⟨_, Heap.get?_push_of_some _ hol, rfl, nl, rfl⟩
      have hol' : (s.heap.push NS).get? l = some { cls := .type "list", dict := odict, data := .seq items nl, slots := oslots } := Heap.get?_push_of_some _ hol
      have hsls := F.sub_list_set
      have hslf := F.sub_list_frozenset
      have hne : (Value.type "list" == Value.type "dict") = false := by decide
      subst eNS
      unfold Builtin.«set.__init__» noKeywords Builtin.Frozenset.updateFrom
      generalize hPI : pyIter = PI
      wp_walk
      subst hPI
      refine wpAny_pyIter_list hl1 ?_
      refine wpAny_bind (wpAny_runValue ?_)
      have hh3 : A.in1.in1.in1.handled = none := by simp [hh]
      have hz1 := Heap.size_push s.heap { cls := .type "set", dict := none, data := .set #[] 0 (.fresh 0 0 (!w.params.followText "set-order")) }
      have hneI : l ≠ (s.heap.push { cls := .type "set", dict := none, data := .set #[] 0 (.fresh 0 0 (!w.params.followText "set-order")) }).objs.size := by
        rw [Heap.size_push]
        exact Nat.ne_of_lt (Nat.lt_succ_of_lt hlS)
      have hSf : s.heap.objs.size ∉ [(s.heap.push { cls := .type "set", dict := none, data := .set #[] 0 (.fresh 0 0 (!w.params.followText "set-order")) }).objs.size, l] := by
        rw [Heap.size_push]
        simp only [List.mem_cons, List.not_mem_nil, or_false, not_or]
        exact ⟨Nat.ne_of_lt (Nat.lt_succ_self _), Nat.ne_of_gt hlS⟩
      have hval : ∀ (i : Nat) (v : Value), items[i]? = some v → ∃ k t, ns[i]? = some k ∧ v = .int k t := fun i v hv => by
        have hi : i < ns.length := by rw [← hisz]; exact (Array.getElem?_eq_some_iff.mp hv).1
        obtain ⟨t, e⟩ := PyProof.Rows.IntsAre.int_at hit i v (by rw [Array.getElem?_toList]; exact hv)
        exact ⟨ns[i], t, List.getElem?_eq_getElem hi, by rw [e, List.getD_eq_getElem?_getD, List.getElem?_eq_getElem hi] <;> rfl⟩
      refine set_update_ints ((Walks.list hh3 _ l hneI items).toS) s.heap.objs.size hSf ns hisz hb hval (items.size - 0) 0 _ (by omega) (Nat.zero_le _) ⟨⟨_, Heap.get?_push_size _ rfl, rfl, rfl⟩, hl1.push _⟩ ?_ ?_
      · exact ⟨0, Nat.le_refl 0, setR_new_at (Heap.get?_push_of_some _ hS)⟩
      · intro s' c' hm hc' hS'
        obtain ⟨h', g2, d', tk', os'⟩ := s'
        obtain rfl : g2 = s.gens := hm.gens
        obtain rfl : d' = s.drawn := hm.drawn
        obtain rfl : os' = s.os := hm.os
        show wpAny _ _ _ _ _ _
        refine wpAny_pure (show wpAny _ _ (ret Value.none) _ _ _ from wpAny_pure ⟨rfl, h', tk', c', rfl, hS', by omega, fun b o e => ?_⟩)
        have hb0 : b < s.heap.objs.size := Heap.lt_size e
        exact hm.heap b o (by rw [Heap.size_push]; simp only [List.mem_cons, List.not_mem_nil, or_false, not_or]; exact ⟨Nat.ne_of_lt hb0, Nat.ne_of_lt (Nat.lt_succ_of_lt hb0)⟩) (Heap.get?_push_of_some _ (Heap.get?_push_of_some _ e))
    · match r₂, hr₂ with
      | .error e, hr₂ => exact hr₂
      | .ok (.ret r), ⟨hr0, h', tk, c', hs2, hS', hc', hk'⟩ =>
        subst hr0; subst hs2
        repeat (any_goals (first | assumption | wp_step))
        exact h _ _ _ hS' hc' hk'
end
/-- set(xs), xs a list of ints -/
def rSetL (K : PySem.W.Frag) (w : World) : List V → Hp → VK → Prop := fun xs H Q => ∃ (l : Addr) (ns : List Int), xs = [.ref l] ∧ SqL K H l (ns.map V.int) ∧ ns.length < 1000 ∧ ∀ p n, H p = none → n ≤ ns.length → Q (.ref p) (upd H p (SetO w p (fun j => decide (j ∈ ns)) n))
theorem cr_setL {X : Cx} (hc : X.calm = true) : CallR X (.type "set") (rSetL X.K X.w) := by
  intro pins s σ H xs us Q I r h
  obtain ⟨l, ns, rfl, hl, hn, q⟩ := h
  obtain ⟨u, rfl, ru⟩ := vals1 r
  obtain rfl : u = Value.ref l := ru
  obtain ⟨its, rv, pl, hz⟩ := I.list hl
  have hf : H s.heap.objs.size = none := I.hok.fresh (Nat.le_refl _)
  refine set_of_list (P := X.prog) (w := X.w) ns (I.ok.hd hc) pl.isList (by simpa using RZ.intsAre_vals rv) (by unfold scanBound; omega) fun h' tk c R hcn k => ?_
  exact ⟨.ref s.heap.objs.size, upd H s.heap.objs.size (SetO X.w s.heap.objs.size (fun j => decide (j ∈ ns)) c), I.laid (t' := tk) k (Nat.le_refl _) (setO_new R), rfl, q _ c hf hcn⟩
end Sy
end
section
set_option Elab.async false
set_option linter.all false
set_option maxRecDepth 100000
set_option maxHeartbeats 2000000
namespace Sy
open PySem PySem.Spec PyProof.Rows L2

/-- enumerate(v) begins -/
theorem enum_new {v : Value} {o : Obj} {Hh : Heap → Prop} (B : Begins v o Hh) :
    Meets (Builtin.«enumerate.__new__» ⟨[.type "enumerate", v], []⟩) (fun _ R s => Hh s.heap ∧
      R (.ok (.ret (.ref (s.heap.push o).objs.size))) { s with heap := (s.heap.push o).push { cls := .type "enumerate", data := .fields #[.none, .bool false, .ref s.heap.objs.size, rawInt 0, .none, .none] } }) :=
  .of_wp fun prog w A R s h => by
    obtain ⟨hp, g, d, tk, os⟩ := s; obtain ⟨h1, h⟩ := h
    have hsub := sub_enumerate
    have q1 : ∀ {A' : Around} {E : Value → Shared → Prop} {Q : Value → Shared → Prop}, Q (.ref hp.objs.size) ⟨hp.push o, g, d, tk, os⟩ → wpAny (model prog w) A' (pyIter v) Q E ⟨hp, g, d, tk, os⟩ :=
      fun q => B.iter prog w _ _ ⟨hp, g, d, tk, os⟩ _ h1 q
    wp_walk using q1
    refine wpAny_stack_any fun st => wpAny_pure ?_
    split
    · rename_i c _ _ _ _ _
      cases (c == Value.type "enumerate") <;> wp_walk using q1 <;> exact ⟨_, rfl, h⟩
    · wp_walk using q1
      exact ⟨_, rfl, h⟩
section
variable {prog : Program} {w : World} {A : Around} {E : Value → Shared → Prop} {s : Shared}
theorem enum_call {v : Value} {o : Obj} {Hh : Heap → Prop} {Q : Value → Shared → Prop} (B : Begins v o Hh) (h1 : Hh s.heap)
    (h : ∀ h', IsEnum h' (s.heap.objs.size + 1) s.heap.objs.size 0 .none → h'.get? s.heap.objs.size = some o → h'.objs.size = s.heap.objs.size + 2 →
      (∀ b o, s.heap.get? b = some o → h'.get? b = some o) → Q (.ref (s.heap.objs.size + 1)) { s with heap := h' }) :
    wpAny (model prog w) A (call (.type "enumerate") [v]) Q E s := by
  refine callType_new F.called_enumerate (by decide) (F.typeCall_enumerate_1 _) (F.newCall_enumerate_1 _) (fun obj => F.args_object_init_2 obj _) F.entry_enumerate_new (enum_new B) ⟨h1, ?_⟩
  have hz : (s.heap.push o).objs.size = s.heap.objs.size + 1 := Heap.size_push ..
  show _ ∧ _
  rw [hz]
  have he : IsEnum ((s.heap.push o).push { cls := .type "enumerate", data := .fields #[.none, .bool false, .ref s.heap.objs.size, rawInt 0, .none, .none] }) (s.heap.objs.size + 1) s.heap.objs.size 0 .none := by
    have := Heap.get?_push_size (s.heap.push o) (o := { cls := .type "enumerate", data := .fields #[.none, .bool false, .ref s.heap.objs.size, rawInt 0, .none, .none] }) rfl
    rw [hz] at this; exact this
  exact ⟨⟨_, he, rfl⟩, h _ he (Heap.get?_push_of_some _ (Heap.get?_push_size _ B.free)) (by rw [Heap.size_push, hz]) fun b o x => Heap.get?_push_of_some _ (Heap.get?_push_of_some _ x)⟩
end
/-- the tuple at a as it stands, each item in a new pair with its number -/
def ItET (K : PySem.W.Frag) (a : Addr) : It :=
  ⟨fun i H => ∃ (xs : List V) (x : V), SqT K H a xs ∧ xs[i]? = some x, fun i H v H' => ∃ T x, v = .ref T ∧ H T = none ∧ H' = upd H T (.tup [.int (i : Nat), x]) ∧ ∀ xs, SqT K H a xs → xs[i]? = some x, fun i H => ∃ xs : List V, SqT K H a xs ∧ xs.length = i⟩
theorem turn_enumT {P : Program} {w : World} {K : PySem.W.Frag} {elts : List Expr} {kk : Nat} {tpos : Pos} (a e it : Addr) :
    Turn P w K (.Tuple elts kk tpos) (ItET K a) [e, it] e (fun i h => (∃ old, IsEnum h e it ((i : Nat) : Int) old) ∧ h.IsTupleIter it a i ∧ e ≠ it ∧ a ≠ it ∧ a ≠ e) where
  mem := by simp
  obj := fun i h st b hb => by
    obtain ⟨⟨old, he⟩, ⟨o, ho, hc, hd⟩, _⟩ := st
    have e' : b = e ∨ b = it := by simpa using hb
    rcases e' with z | z
    · rw [z]; exact ⟨_, he, fun v q => nomatch q⟩
    · rw [z]; exact ⟨o, ho, fun v q => by rw [hd] at q; cases q⟩
  keep := fun i h h' st k => let ⟨⟨old, he⟩, hi, hne⟩ := st; ⟨⟨old, k e (by simp) _ he⟩, hi.at fun o q => k it (by simp) o q, hne⟩
  item := by
    intro X hP hw hK hc i pins s σ H E I hf st hg
    subst hP hw hK
    obtain ⟨⟨old, he⟩, hit, hne, hai, hae⟩ := st
    obtain ⟨xs, x, hq, hx⟩ := hg
    obtain ⟨its, rv, p, hz⟩ := I.tuple hq
    obtain ⟨u, hu, ru⟩ := rv.get hx
    have hel : e < s.heap.objs.size := Heap.lt_size he
    have hil : it < s.heap.objs.size := by obtain ⟨_, q, _⟩ := hit; exact Heap.lt_size q
    have hi : i < its.toArray.size := by
      have := (List.getElem?_eq_some_iff.mp hu).1
      simpa using this
    have D := Draws.tuple (prog := X.prog) (w := X.w) (A := X.A.in1) (I.ok.hd hc) it a hai its.toArray
    refine wpAny_pyNext_enum_itemD D he ⟨hit, p⟩ hi hne (by simp; exact ⟨hne, Ne.symm hae⟩) fun y h' tk hy ho hst hT hsz hk => ?_
    obtain rfl : y = u := by
      have z : its[i]? = some y := by simpa using hy
      rw [hu] at z
      exact (Option.some.inj z).symm
    refine ⟨_, rfl, wpAny_letOwnedTupleGo_enum (s := { s with heap := h', toks := tk + 1 }) ho fun h'' he' sb => ?_⟩
    have hT2 : h''.get? s.heap.objs.size = some { cls := .type "tuple", data := .seq #[.int i tk, y] } := (sb.2 _ (Nat.ne_of_gt hel)).trans hT
    have new : ObjOk X.prog X.w (upd H s.heap.objs.size (.tup [.int (i : Nat), x])) h'' s.heap.objs.size (.tup [.int (i : Nat), x]) :=
      ⟨by show 2 ≤ sizeLine; decide, [.int i tk, y], .cons ⟨_, rfl⟩ (.cons ru .nil), ⟨_, hT2, rfl, _, rfl⟩⟩
    have I1 : Inv X pins σ (upd H s.heap.objs.size (.tup [.int (i : Nat), x])) { s with heap := h'', toks := tk + 1 } :=
      I.turnedNew (ch := [e, it]) (fun b ob hb q => (sb.2 b (fun z => hb (by simp [z]))).trans (hk b ob (fun z => hb (by simp [z])) (fun z => hb (by simp [z])) q)) hf (Nat.le_refl _) new
    refine ⟨.ref s.heap.objs.size, _, I1, rfl, ⟨_, x, rfl, I.hok.fresh (Nat.le_refl _), rfl, fun ys hy => by rw [I.tuple_inj hy hq]; exact hx⟩, ⟨⟨y, ?_⟩, hst.1.at fun o q => (sb.2 it (Ne.symm hne)).trans q, hne, hai, hae⟩, fun b hb => ?_⟩
    · have e1 : ((i + 1 : Nat) : Int) = (i : Int) + 1 := by omega
      rw [e1]; exact he'
    · have hb' : b < s.heap.objs.size := by
        have e' : b = e ∨ b = it := by simpa using hb
        rcases e' with z | z
        · rw [z]; exact hel
        · rw [z]; exact hil
      rw [upd_ne (Nat.ne_of_lt hb')]
      exact (hf b hb).1
  done := by
    intro X hP hw hK hc i pins s σ H E I hf st hg
    subst hP hw hK
    obtain ⟨⟨old, he⟩, hit, hne, hai, hae⟩ := st
    obtain ⟨xs, hq, hx⟩ := hg
    obtain ⟨its, rv, p, hz⟩ := I.tuple hq
    obtain ⟨f0, f1, f2, f3, f4, f5⟩ := hf it (by simp)
    have hl := rv.length
    obtain rfl : its.toArray.size = i := by
      rw [← hx, hl]
      simp
    have D := Draws.tuple (prog := X.prog) (w := X.w) (A := X.A.in1) (I.ok.hd hc) it a hai its.toArray
    exact wpAny_pyNext_enum_endD D he ⟨hit, p⟩ fun h' eb => ⟨rfl, I.turned (t' := s.toks) (fun b o hb q => eb b o hb q) f0 f1 f3 f4 f5⟩
  self := fun A i s Q E st h => let ⟨⟨_, he⟩, _⟩ := st; wpAny_pyIter_enum he h
def iEnumT (K : PySem.W.Frag) (ta : TA) : TI := fun σ H R => ta σ H fun vs H1 => ∃ a xs, vs = [.ref a] ∧ SqT K H1 a xs ∧ R (ItET K a) H1
/-- for i, x in enumerate(t), t a tuple -/
theorem pi_enumT {X : Cx} {e : Expr} {ta : TA} {p pos tpos : Pos} {elts : List Expr} {kk : Nat} (hg : Gl X "enumerate") (hm : X.mg "enumerate" = none) (ha : PA X [e] ta) (hs : starEach [e] X.env = [(false, eval e X.env)] := by rfl) :
    PI X (.Tuple elts kk tpos) (.Call (.Name "enumerate" p) [e] [] pos) (iEnumT X.K ta) := by
  refine ⟨fun pins s σ H R I h => ?_⟩
  refine Call_ (ld_blt I hg hm boot_enumerate (PyProof.Rows.callWith_type1 (thn (ha.run pos pins s σ H _ I h) fun us s1 ⟨vs, H1, I1, r1, a, xs, ex, hq, q⟩ => ?_) hs rfl))
  subst ex
  obtain ⟨u, rfl, ru⟩ := vals1 r1
  obtain rfl : u = Value.ref a := ru
  obtain ⟨its, rv, p', hz⟩ := I1.tuple hq
  have hal : a < s1.heap.objs.size := by
    obtain ⟨o, ho, _⟩ := p'
    exact Heap.lt_size ho
  refine enum_call (begins_tuple a its.toArray) p' fun h' he hit hsz hk => wpAny_pyIter_enum he ?_
  have I2 : Inv X pins σ H1 { s1 with heap := h' } := I1.kept (t' := s1.toks) hk
  refine ⟨s1.heap.objs.size + 1, [s1.heap.objs.size + 1, s1.heap.objs.size], _, _, H1, rfl, I2, turn_enumT a (s1.heap.objs.size + 1) s1.heap.objs.size, ⟨⟨.none, he⟩, ⟨_, hit, rfl, rfl⟩, Nat.succ_ne_self _, Nat.ne_of_lt hal, Nat.ne_of_lt (Nat.lt_succ_of_lt hal)⟩, fun b hb => ?_, q⟩
  have hle : s1.heap.objs.size ≤ b := by
    rcases (by simpa using hb : b = s1.heap.objs.size + 1 ∨ b = s1.heap.objs.size) with z | z
    · rw [z]; exact Nat.le_add_right _ _
    · rw [z]; exact Nat.le_refl _
  exact I1.fpOk hle (I1.hok.fresh hle)
end Sy
end
section
set_option Elab.async false
set_option linter.all false
set_option maxRecDepth 100000
set_option maxHeartbeats 2000000
namespace Sy
open PySem L2 Evl
abbrev D := PyData
section
variable {K : PySem.W.Frag} {H H' : Hp}
mutual
theorem dp_ex (e : Ex H H') : ∀ (d : D) (v : V), Dp K H v d → Dp K H' v d
  | .none, _, h => by cases h; exact .non
  | .bool b, _, h => by cases h; exact .bl b
  | .int i, _, h => by cases h; exact .int i
  | .str x, _, h => by cases h; exact .str x
  | .list ds, _, h => by
    cases h with
    | lst h1 h2 => exact .lst (ex_l e h1) (dpa_ex e ds _ h2)
  | .tuple ds, _, h => by
    cases h with
    | tup h1 h2 => exact .tup (ex_t e h1) (dpa_ex e ds _ h2)
  | .dict kvs, _, h => by cases h
theorem dpa_ex (e : Ex H H') : ∀ (ds : List D) (vs : List V), DpAll K H vs ds → DpAll K H' vs ds
  | [], _, h => by cases h; exact .nil
  | d :: ds, _, h => by
    cases h with
    | cons h1 h2 => exact .cons (dp_ex e d _ h1) (dpa_ex e ds _ h2)
end
theorem _root_.L2.Dp.ex {d : D} {v : V} (h : Dp K H v d) (e : Ex H H') : Dp K H' v d := dp_ex e d v h
theorem _root_.L2.DpAll.ex {ds : List D} {vs : List V} (h : DpAll K H vs ds) (e : Ex H H') : DpAll K H' vs ds := dpa_ex e ds vs h
theorem dpA_length : ∀ {vs : List V} {ds : List D}, DpAll K H vs ds → vs.length = ds.length
  | _, _, .nil => rfl
  | _, _, .cons _ t => by rw [List.length_cons, List.length_cons, dpA_length t]
theorem dpA_get : ∀ {vs : List V} {ds : List D} {i : Nat} {d : D}, DpAll K H vs ds → ds[i]? = some d → ∃ v, vs[i]? = some v ∧ Dp K H v d
  | _, _, _, _, .nil, e => by simp at e
  | _, _, 0, d, .cons h _, e => by simp at e; subst e; exact ⟨_, rfl, h⟩
  | _, _, i + 1, d, .cons _ t, e => by
    obtain ⟨v, h1, h2⟩ := dpA_get (i := i) t (by simpa using e)
    exact ⟨v, by simpa using h1, h2⟩
theorem dpA_get2 : ∀ {vs : List V} {ds : List D} {i : Nat} {v : V}, DpAll K H vs ds → vs[i]? = some v → ∃ d, ds[i]? = some d ∧ Dp K H v d
  | _, _, _, _, .nil, e => by simp at e
  | _, _, 0, v, .cons h _, e => by simp at e; subst e; exact ⟨_, rfl, h⟩
  | _, _, i + 1, v, .cons _ t, e => by
    obtain ⟨d, h1, h2⟩ := dpA_get2 (i := i) t (by simpa using e)
    exact ⟨d, by simpa using h1, h2⟩
theorem dpA_append : ∀ {vs ws : List V} {ds es : List D}, DpAll K H vs ds → DpAll K H ws es → DpAll K H (vs ++ ws) (ds ++ es)
  | _, _, _, _, .nil, h => h
  | _, _, _, _, .cons a t, h => .cons a (dpA_append t h)
theorem dpA_drop : ∀ {vs : List V} {ds : List D} (n : Nat), DpAll K H vs ds → DpAll K H (vs.drop n) (ds.drop n)
  | _, _, 0, h => h
  | _, _, n + 1, .nil => .nil
  | _, _, n + 1, .cons _ t => dpA_drop n t
theorem _root_.L2.DpAll.length {vs : List V} {ds : List D} (h : DpAll K H vs ds) : vs.length = ds.length := dpA_length h
theorem _root_.L2.DpAll.get {vs : List V} {ds : List D} {i : Nat} {d : D} (h : DpAll K H vs ds) (e : ds[i]? = some d) : ∃ v, vs[i]? = some v ∧ Dp K H v d := dpA_get h e
theorem _root_.L2.DpAll.get2 {vs : List V} {ds : List D} {i : Nat} {v : V} (h : DpAll K H vs ds) (e : vs[i]? = some v) : ∃ d, ds[i]? = some d ∧ Dp K H v d := dpA_get2 h e
theorem _root_.L2.DpAll.append {vs ws : List V} {ds es : List D} (h : DpAll K H vs ds) (h2 : DpAll K H ws es) : DpAll K H (vs ++ ws) (ds ++ es) := dpA_append h h2
theorem _root_.L2.DpAll.drop {vs : List V} {ds : List D} (n : Nat) (h : DpAll K H vs ds) : DpAll K H (vs.drop n) (ds.drop n) := dpA_drop n h
theorem dp_int {i : Int} {v : V} (h : Dp K H v (.int i)) : v = .int i := by cases h; rfl
theorem dp_bl {b : Bool} {v : V} (h : Dp K H v (.bool b)) : v = .bl b := by cases h; rfl
theorem dp_str {x : Str} {v : V} (h : Dp K H v (.str x)) : v = .str x := by cases h; rfl
theorem dp_non {v : V} (h : Dp K H v .none) : v = .non := by cases h; rfl
theorem dp_tup {ds : List D} {v : V} (h : Dp K H v (.tuple ds)) : ∃ a xs, v = .ref a ∧ SqT K H a xs ∧ DpAll K H xs ds := by
  cases h with
  | tup h1 h2 => exact ⟨_, _, rfl, h1, h2⟩
theorem dp_lst {ds : List D} {v : V} (h : Dp K H v (.list ds)) : ∃ a xs, v = .ref a ∧ SqL K H a xs ∧ DpAll K H xs ds := by
  cases h with
  | lst h1 h2 => exact ⟨_, _, rfl, h1, h2⟩
/-- ints as data -/
theorem dpa_ints : ∀ (ns : List Int), DpAll K H (ns.map V.int) (ns.map PyData.int)
  | [] => .nil
  | n :: ns => .cons (.int n) (dpa_ints ns)

/-! ### heaps with a part that stands still -/
/-- from the heap H with its still part G to H2 with G2: what is new may stand still, too -/
structure Gro (G H G2 H2 : Hp) : Prop where
  g : Ex G G2
  h : Ex H H2
  gh : Ex G2 H2
  old : ∀ b, H b ≠ none → G2 b = G b
theorem Gro.refl {G H : Hp} (e : Ex G H) : Gro G H G H := ⟨Ex.refl G, Ex.refl H, e, fun _ _ => rfl⟩
theorem Gro.trans {G H G1 H1 G2 H2 : Hp} (a : Gro G H G1 H1) (b : Gro G1 H1 G2 H2) : Gro G H G2 H2 := ⟨a.g.trans b.g, a.h.trans b.h, b.gh, fun c hc => by
  have h1 : H1 c ≠ none := fun z => by
    cases q : H c with
    | none => exact hc q
    | some o => rw [a.h c o q] at z; cases z
  rw [b.old c h1, a.old c hc]⟩
theorem ex_upd2 {G H : Hp} {p : Addr} {o : HO} (e : Ex G H) : Ex (upd G p o) (upd H p o) := fun b u hb => by
  by_cases h : b = p
  · rw [h, upd_same] at hb ⊢
    exact hb
  · rw [upd_ne h] at hb ⊢
    exact e b u hb
theorem gnone {G H : Hp} {p : Addr} (e : Ex G H) (h : H p = none) : G p = none := fresh_back e h
theorem Gro.new {G H : Hp} {p : Addr} {o : HO} (e : Ex G H) (h : H p = none) : Gro G H (upd G p o) (upd H p o) := ⟨Ex.new (gnone e h), Ex.new h, ex_upd2 e, fun b hb => upd_ne fun z => hb (by rw [z]; exact h)⟩
/-- something new that need not stand still -/
theorem Gro.drop {G H H2 : Hp} (e : Ex G H) (h : Ex H H2) : Gro G H G H2 := ⟨Ex.refl G, h, e.trans h, fun _ _ => rfl⟩
/-- an object outside the still part changes -/
theorem ex_mut {G H : Hp} {p : Addr} {o : HO} (e : Ex G H) (h : G p = none) : Ex G (upd H p o) := fun b u hb => by
  rw [upd_ne (ne_of_none hb h)]
  exact e b u hb
theorem Gro.none {G H G2 H2 : Hp} {p : Addr} (a : Gro G H G2 H2) (h : H p ≠ Option.none) (g : G p = Option.none) : G2 p = Option.none := (a.old p h).trans g

/-! ### what evaluates to which data -/
def EvD (K : PySem.W.Frag) (te : TE) (σ : L2.St) (G : Hp) (d : D) : Prop := ∀ G1 H1, Ex G G1 → Ex G1 H1 → ∀ Q : VK, (∀ v G2 H2, Gro G1 H1 G2 H2 → Dp K G2 v d → Q v H2) → te σ H1 Q
def EvDs (K : PySem.W.Frag) (ta : TA) (σ : L2.St) (G : Hp) (ds : List D) : Prop := ∀ G1 H1, Ex G G1 → Ex G1 H1 → ∀ Q : List V → Hp → Prop, (∀ vs G2 H2, Gro G1 H1 G2 H2 → DpAll K G2 vs ds → Q vs H2) → ta σ H1 Q
def EvB (tt : TT) (σ : L2.St) (G : Hp) (b : Bool) : Prop := ∀ H1, Ex G H1 → ∀ Q : Bool → Hp → Prop, (∀ H2, Ex H1 H2 → Q b H2) → tt σ H1 Q
/-- an operation on data -/
def RD (K : PySem.W.Frag) (r : R2) (x y z : D) : Prop := ∀ (G H : Hp) (v w : V) (Q : VK), Ex G H → Dp K G v x → Dp K G w y → (∀ u G2 H2, Gro G H G2 H2 → Dp K G2 u z → Q u H2) → r v w H Q
def RU1 (K : PySem.W.Frag) (r : V → Hp → VK → Prop) (x z : D) : Prop := ∀ (G H : Hp) (v : V) (Q : VK), Ex G H → Dp K G v x → (∀ u G2 H2, Gro G H G2 H2 → Dp K G2 u z → Q u H2) → r v H Q
def RCd (K : PySem.W.Frag) (r : List V → Hp → VK → Prop) (xs : List D) (z : D) : Prop := ∀ (G H : Hp) (vs : List V) (Q : VK), Ex G H → DpAll K G vs xs → (∀ u G2 H2, Gro G H G2 H2 → Dp K G2 u z → Q u H2) → r vs H Q
variable {G G' : Hp} {σ : L2.St} {ta tb tc te : TE} {tas : TA} {t u : TT} {x y z d : D} {r r' : R2}
theorem EvD.mono (e : Ex G G') (h : EvD K te σ G d) : EvD K te σ G' d := fun G1 H1 a b Q q => h G1 H1 (e.trans a) b Q q
theorem EvDs.mono {ds : List D} (e : Ex G G') (h : EvDs K tas σ G ds) : EvDs K tas σ G' ds := fun G1 H1 a b Q q => h G1 H1 (e.trans a) b Q q
theorem EvB.mono {b : Bool} (e : Ex G G') (h : EvB t σ G b) : EvB t σ G' b := fun H1 a Q q => h H1 (e.trans a) Q q
theorem d_var {i : Nat} {v : V} (h : σ[i]? = some (some v)) (hd : Dp K G v d) : EvD K (tVar i) σ G d := fun G1 H1 e f Q q => ⟨v, h, q v G1 H1 (.refl f) (hd.ex e)⟩
theorem d_int {i : Int} : EvD K (tC (.int i)) σ G (.int i) := fun G1 H1 _ f Q q => q _ G1 H1 (.refl f) (.int i)
theorem d_bl {b : Bool} : EvD K (tC (.bl b)) σ G (.bool b) := fun G1 H1 _ f Q q => q _ G1 H1 (.refl f) (.bl b)
theorem d_non : EvD K (tC .non) σ G .none := fun G1 H1 _ f Q q => q _ G1 H1 (.refl f) .non
theorem d_str {s : Str} : EvD K (tC (.str s)) σ G (.str s) := fun G1 H1 _ f Q q => q _ G1 H1 (.refl f) (.str s)
theorem ds_nil : EvDs K tNil σ G [] := fun G1 H1 _ f Q q => q [] G1 H1 (.refl f) .nil
theorem ds_cons {ds : List D} (h : EvD K te σ G d) (hr : EvDs K tas σ G ds) : EvDs K (tCons te tas) σ G (d :: ds) := fun G1 H1 e f Q q =>
  h G1 H1 e f _ fun v G2 H2 a hv => hr G2 H2 (e.trans a.g) a.gh _ fun vs G3 H3 b hvs => q _ G3 H3 (a.trans b) (.cons (hv.ex b.g) hvs)
theorem d_tup {ds : List D} (h : EvDs K tas σ G ds) (hl : ds.length ≤ 100000 := by simp) : EvD K (tTup tas) σ G (.tuple ds) := fun G1 H1 e f Q q =>
  h G1 H1 e f _ fun vs G2 H2 a hvs => ⟨by rw [hvs.length]; exact sz_of hl, fun p hp => q _ _ _ (a.trans (.new a.gh hp)) (.tup (.inl (.inl upd_same)) (hvs.ex (Ex.new (gnone a.gh hp))))⟩
theorem d_lst {ds : List D} (h : EvDs K tas σ G ds) (hl : ds.length ≤ 100000 := by simp) : EvD K (tLst tas) σ G (.list ds) := fun G1 H1 e f Q q =>
  h G1 H1 e f _ fun vs G2 H2 a hvs => ⟨by rw [hvs.length]; exact sz_of hl, fun p hp => q _ _ _ (a.trans (.new a.gh hp)) (.lst (.inl (.inl upd_same)) (hvs.ex (Ex.new (gnone a.gh hp))))⟩
theorem d_op (ha : EvD K ta σ G x) (hb : EvD K tb σ G y) (hr : RD K r x y z) : EvD K (tOp r ta tb) σ G z := fun G1 H1 e f Q q =>
  ha G1 H1 e f _ fun v G2 H2 a hv => hb G2 H2 (e.trans a.g) a.gh _ fun w G3 H3 b hw => hr G3 H3 v w Q b.gh (hv.ex b.g) hw fun u G4 H4 c hu => q u G4 H4 ((a.trans b).trans c) hu
theorem d_un {r : V → Hp → VK → Prop} (ha : EvD K ta σ G x) (hr : RU1 K r x z) : EvD K (tUn r ta) σ G z := fun G1 H1 e f Q q =>
  ha G1 H1 e f _ fun v G2 H2 a hv => hr G2 H2 v Q a.gh hv fun u G4 H4 c hu => q u G4 H4 (a.trans c) hu
theorem d_cb {r : List V → Hp → VK → Prop} {xs : List D} (ha : EvDs K tas σ G xs) (hr : RCd K r xs z) : EvD K (tCB r tas) σ G z := fun G1 H1 e f Q q =>
  ha G1 H1 e f _ fun vs G2 H2 a hv => hr G2 H2 vs Q a.gh hv fun u G4 H4 c hu => q u G4 H4 (a.trans c) hu
theorem d_if {b : Bool} (h : EvB t σ G b) (h1 : b = true → EvD K ta σ G d) (h2 : b = false → EvD K tb σ G d) : EvD K (tIf t ta tb) σ G d := fun G1 H1 e f Q q => h H1 (e.trans f) _ fun H2 a => by
  cases b with
  | true => exact h1 rfl G1 H2 e (f.trans a) Q fun v G3 H3 b hv => q v G3 H3 ((Gro.drop f a).trans b) hv
  | false => exact h2 rfl G1 H2 e (f.trans a) Q fun v G3 H3 b hv => q v G3 H3 ((Gro.drop f a).trans b) hv
theorem d_and {a b : Bool} (h1 : EvD K ta σ G (.bool a)) (h2 : a = true → EvD K tb σ G (.bool b)) : EvD K (tAndV ta tb) σ G (.bool (a && b)) := fun G1 H1 e f Q q => h1 G1 H1 e f _ fun v G2 H2 c hv => ⟨a, dp_bl hv, by
  cases a with
  | true => exact h2 rfl G2 H2 (e.trans c.g) c.gh Q fun v G3 H3 k hv => q v G3 H3 (c.trans k) hv
  | false => exact q _ G2 H2 c (.bl _)⟩
theorem d_or {a b : Bool} (h1 : EvD K ta σ G (.bool a)) (h2 : a = false → EvD K tb σ G (.bool b)) : EvD K (tOrV ta tb) σ G (.bool (a || b)) := fun G1 H1 e f Q q => h1 G1 H1 e f _ fun v G2 H2 c hv => ⟨a, dp_bl hv, by
  cases a with
  | true => exact q _ G2 H2 c (.bl _)
  | false => exact h2 rfl G2 H2 (e.trans c.g) c.gh Q fun v G3 H3 k hv => q v G3 H3 (c.trans k) hv⟩
theorem d_not {a : Bool} (h1 : EvD K ta σ G (.bool a)) : EvD K (tNotV ta) σ G (.bool (!a)) := fun G1 H1 e f Q q => h1 G1 H1 e f _ fun v G2 H2 c hv => ⟨a, dp_bl hv, q _ G2 H2 c (.bl _)⟩
theorem d_chain {a b : Bool} (ha : EvD K ta σ G x) (hb : EvD K tb σ G y) (h1 : RD K r x y (.bool a)) (hc : a = true → EvD K tc σ G z ∧ RD K r' y z (.bool b)) : EvD K (tChain r r' ta tb tc) σ G (.bool (a && b)) := fun G1 H1 e f Q q =>
  ha G1 H1 e f _ fun v G2 H2 g2 hv => hb G2 H2 (e.trans g2.g) g2.gh _ fun w G3 H3 g3 hw => h1 G3 H3 v w _ g3.gh (hv.ex g3.g) hw fun k G4 H4 g4 hk => ⟨a, dp_bl hk, by
    cases a with
    | true =>
      obtain ⟨c1, c2⟩ := hc rfl
      exact c1 G4 H4 (((e.trans g2.g).trans g3.g).trans g4.g) g4.gh _ fun s G5 H5 g5 hs => c2 G5 H5 w s Q g5.gh (hw.ex (g4.g.trans g5.g)) hs fun u G6 H6 g6 hu => q u G6 H6 ((((g2.trans g3).trans g4).trans g5).trans g6) hu
    | false => exact q _ G4 H4 ((g2.trans g3).trans g4) (.bl _)⟩
theorem t_test {b : Bool} (h : EvD K te σ G (.bool b)) : EvB (tTest te) σ G b := fun H1 e _ q => h G H1 (Ex.refl G) e _ fun v G2 H2 a hv => ⟨b, dp_bl hv, q H2 a.h⟩
theorem t_B {b : Bool} (h : EvD K te σ G (.bool b)) : EvB (tB te) σ G b := fun H1 e _ q => h G H1 (Ex.refl G) e _ fun v G2 H2 a hv => ⟨b, dp_bl hv, q H2 a.h⟩
theorem t_and {a b : Bool} (h1 : EvB t σ G a) (h2 : a = true → EvB u σ G b) : EvB (tAnd t u) σ G (a && b) := fun H1 e Q q => h1 H1 e _ fun H2 e2 => by
  cases a with
  | true => exact h2 rfl H2 (e.trans e2) Q fun H3 e3 => q H3 (e2.trans e3)
  | false => exact q H2 e2
theorem t_or {a b : Bool} (h1 : EvB t σ G a) (h2 : a = false → EvB u σ G b) : EvB (tOr t u) σ G (a || b) := fun H1 e Q q => h1 H1 e _ fun H2 e2 => by
  cases a with
  | true => exact q H2 e2
  | false => exact h2 rfl H2 (e.trans e2) Q fun H3 e3 => q H3 (e2.trans e3)
theorem t_not {a : Bool} (h1 : EvB t σ G a) : EvB (tNot t) σ G (!a) := fun H1 e _ q => h1 H1 e _ fun H2 e2 => q H2 e2
theorem t_is {a b : Bool} (h : EvB t σ G a) (e : a = b) : EvB t σ G b := e ▸ h
theorem d_is (h : EvD K te σ G x) (e : x = y) : EvD K te σ G y := e ▸ h

/-! ### operators -/
theorem rd_val (h : ∀ (G H : Hp) (v w : V) (Q : VK), Ex G H → Dp K G v x → Dp K G w y → (∀ u, Dp K G u z → Q u H) → r v w H Q) : RD K r x y z := fun G H v w Q e hv hw q => h G H v w Q e hv hw fun u hu => q u G H (.refl e) hu
theorem r_I0 {g : Int → Int → V} {i j : Int} (h : ∀ (H : Hp), Dp K H (g i j) z) : RD K (rI0 g) (.int i) (.int j) z := rd_val fun G H v w Q e hv hw q => ⟨i, j, dp_int hv, dp_int hw, q _ (h G)⟩
theorem r_add {i j : Int} : RD K (rI0 fun i j => .int (i + j)) (.int i) (.int j) (.int (i + j)) := r_I0 fun _ => .int _
theorem r_sub {i j : Int} : RD K (rI0 fun i j => .int (i - j)) (.int i) (.int j) (.int (i - j)) := r_I0 fun _ => .int _
theorem r_lt {i j : Int} : RD K (rI0 fun i j => .bl (decide (i < j))) (.int i) (.int j) (.bool (decide (i < j))) := r_I0 fun _ => .bl _
theorem r_le {i j : Int} : RD K (rI0 fun i j => .bl (decide (i ≤ j))) (.int i) (.int j) (.bool (decide (i ≤ j))) := r_I0 fun _ => .bl _
theorem r_gt {i j : Int} : RD K (rI0 fun i j => .bl (decide (j < i))) (.int i) (.int j) (.bool (decide (j < i))) := r_I0 fun _ => .bl _
theorem r_ge {i j : Int} : RD K (rI0 fun i j => .bl (decide (j ≤ i))) (.int i) (.int j) (.bool (decide (j ≤ i))) := r_I0 fun _ => .bl _
theorem r_I {C : Int → Int → Prop} {g : Int → Int → Int} {i j : Int} (hc : C i j) : RD K (rI C fun i j => .int (g i j)) (.int i) (.int j) (.int (g i j)) := rd_val fun G H v w Q e hv hw q => ⟨i, j, dp_int hv, dp_int hw, hc, q _ (.int _)⟩
theorem r_mul {i j : Int} (hc : CMulW i j) : RD K (rI CMulW fun i j => .int (i * j)) (.int i) (.int j) (.int (i * j)) := r_I (g := fun i j => i * j) hc
theorem r_fdiv {i j : Int} (hc : CDivW i j) : RD K (rI CDivW fun i j => .int (i / j)) (.int i) (.int j) (.int (i / j)) := r_I (g := fun i j => i / j) hc
theorem r_mod {i j : Int} (hc : j ≠ 0) : RD K (rI (fun _ j => j ≠ 0) fun i j => .int (i.fmod j)) (.int i) (.int j) (.int (i.fmod j)) := r_I (g := fun i j => i.fmod j) hc
theorem r_pow {i j : Int} (hc : CPow i j) : RD K (rI CPow fun i j => .int (i ^ j.toNat)) (.int i) (.int j) (.int (i ^ j.toNat)) := r_I (g := fun i j => i ^ j.toNat) hc
theorem dec_inj {α : Type} {f : α → V} [DecidableEq α] (hf : ∀ a b, f a = f b → a = b) (a b : α) : decide (f a = f b) = decide (a = b) := decide_eq_decide.mpr ⟨hf a b, fun e => by rw [e]⟩
theorem r_eqI {i j : Int} : RD K rEq (.int i) (.int j) (.bool (decide (i = j))) := rd_val fun G H v w Q e hv hw q => by
  rw [dp_int hv, dp_int hw]
  exact ⟨rfl, by rw [dec_inj fun _ _ => V.int.inj]; exact q _ (.bl _)⟩
theorem r_neI {i j : Int} : RD K rNe (.int i) (.int j) (.bool (!decide (i = j))) := rd_val fun G H v w Q e hv hw q => by
  rw [dp_int hv, dp_int hw]
  exact ⟨rfl, by rw [dec_inj fun _ _ => V.int.inj]; exact q _ (.bl _)⟩
theorem r_eqB {i j : Bool} : RD K rEq (.bool i) (.bool j) (.bool (decide (i = j))) := rd_val fun G H v w Q e hv hw q => by
  rw [dp_bl hv, dp_bl hw]
  exact ⟨rfl, by rw [dec_inj fun _ _ => V.bl.inj]; exact q _ (.bl _)⟩
theorem r_eqS {i j : Str} : RD K rEq (.str i) (.str j) (.bool (decide (i = j))) := rd_val fun G H v w Q e hv hw q => by
  rw [dp_str hv, dp_str hw]
  exact ⟨rfl, by rw [dec_inj fun _ _ => V.str.inj]; exact q _ (.bl _)⟩
theorem r_neS {i j : Str} : RD K rNe (.str i) (.str j) (.bool (!decide (i = j))) := rd_val fun G H v w Q e hv hw q => by
  rw [dp_str hv, dp_str hw]
  exact ⟨rfl, by rw [dec_inj fun _ _ => V.str.inj]; exact q _ (.bl _)⟩
theorem r_eqD (h1 : SeqAt.shaped x = true) (h2 : SeqAt.shaped y = true) : RD K (rEqD K) x y (.bool (PyData.eqv x y)) := rd_val fun G H v w Q e hv hw q => ⟨x, y, hv.ex e, hw.ex e, h1, h2, q _ (.bl _)⟩
theorem r_neD (h1 : SeqAt.shaped x = true) (h2 : SeqAt.shaped y = true) : RD K (rNeD K) x y (.bool (!PyData.eqv x y)) := rd_val fun G H v w Q e hv hw q => ⟨x, y, hv.ex e, hw.ex e, h1, h2, q _ (.bl _)⟩
/-- the item at i of data -/
def atD (ds : List D) (i : Int) : Option D := (ixN ds.length i).bind fun j => ds[j]?
theorem atD_nat {ds : List D} {j : Nat} {d : D} (h : ds[j]? = some d) : atD ds (j : Int) = some d := by
  unfold atD
  rw [ixN_nat (List.getElem?_eq_some_iff.mp h).1]
  exact h
theorem _root_.L2.DpAll.atI {vs : List V} {ds : List D} {i : Int} {d : D} (h : DpAll K H vs ds) (e : atD ds i = some d) : ∃ v, L2.atI vs i = some v ∧ Dp K H v d := by
  unfold atD at e
  rw [← h.length] at e
  cases hx : ixN vs.length i with
  | none => rw [hx] at e; cases e
  | some j =>
    rw [hx] at e
    obtain ⟨v, h1, h2⟩ := h.get e
    exact ⟨v, by unfold L2.atI; rw [hx]; exact h1, h2⟩
theorem r_ixT {ds : List D} {i : Int} (h : atD ds i = some z) : RD K (rIxT K) (.tuple ds) (.int i) z := rd_val fun G H v w Q e hv hw q => by
  obtain ⟨a, xs, rfl, h1, h2⟩ := dp_tup hv
  obtain ⟨u, e2, hu⟩ := h2.atI h
  exact ⟨a, xs, i, u, rfl, dp_int hw, ex_t e h1, e2, q u hu⟩
theorem r_ixL {ds : List D} {i : Int} (h : atD ds i = some z) : RD K (rIxL K) (.list ds) (.int i) z := rd_val fun G H v w Q e hv hw q => by
  obtain ⟨a, xs, rfl, h1, h2⟩ := dp_lst hv
  obtain ⟨u, e2, hu⟩ := h2.atI h
  exact ⟨a, xs, i, u, rfl, dp_int hw, ex_l e h1, e2, q u hu⟩
theorem r_addS {a b : Str} (h : a.length + b.length ≤ sizeLine) : RD K (fun x y H Q => ∃ i j, x = .str i ∧ y = .str j ∧ i.length + j.length ≤ sizeLine ∧ Q (.str (i ++ j)) H) (.str a) (.str b) (.str (a ++ b)) := rd_val fun G H v w Q e hv hw q => ⟨a, b, dp_str hv, dp_str hw, h, q _ (.str _)⟩
theorem r_neg {i : Int} : RU1 K (rU fun i => .int (-i)) (.int i) (.int (-i)) := fun G H v Q e hv q => ⟨i, dp_int hv, q _ G H (.refl e) (.int _)⟩
/-! ### calls of built-ins -/
theorem dpa1 {vs : List V} (h : DpAll K G vs [x]) : ∃ v, vs = [v] ∧ Dp K G v x := by
  cases h with
  | cons h t => cases t; exact ⟨_, rfl, h⟩
theorem dpa2 {vs : List V} (h : DpAll K G vs [x, y]) : ∃ v w, vs = [v, w] ∧ Dp K G v x ∧ Dp K G w y := by
  cases h with
  | cons h t =>
    obtain ⟨w, rfl, h2⟩ := dpa1 t
    exact ⟨_, w, rfl, h, h2⟩
theorem rc1 {r : List V → Hp → VK → Prop} (h : ∀ (G H : Hp) (v : V) (Q : VK), Ex G H → Dp K G v x → (∀ u, Dp K G u z → Q u H) → r [v] H Q) : RCd K r [x] z := fun G H vs Q e hv q => by
  obtain ⟨v, rfl, h1⟩ := dpa1 hv
  exact h G H v Q e h1 fun u hu => q u G H (.refl e) hu
def rLen (K : PySem.W.Frag) : List V → Hp → VK → Prop := fun xs H Q => ∃ p ys, xs = [.ref p] ∧ (SqL K H p ys ∨ SqT K H p ys) ∧ Q (.int ys.length) H
theorem c_lenT {ds : List D} : RCd K (fun xs H Q => ∃ p ys, xs = [.ref p] ∧ (SqL K H p ys ∨ SqT K H p ys) ∧ Q (.int ys.length) H) [.tuple ds] (.int ds.length) := rc1 fun G H v Q e h q => by
  obtain ⟨a, xs, rfl, h1, h2⟩ := dp_tup h
  exact ⟨a, xs, rfl, .inr (ex_t e h1), by rw [h2.length]; exact q _ (.int _)⟩
theorem c_lenL {ds : List D} : RCd K (fun xs H Q => ∃ p ys, xs = [.ref p] ∧ (SqL K H p ys ∨ SqT K H p ys) ∧ Q (.int ys.length) H) [.list ds] (.int ds.length) := rc1 fun G H v Q e h q => by
  obtain ⟨a, xs, rfl, h1, h2⟩ := dp_lst h
  exact ⟨a, xs, rfl, .inl (ex_l e h1), by rw [h2.length]; exact q _ (.int _)⟩
theorem c_abs {i : Int} : RCd K (fun xs H Q => ∃ i, xs = [.int i] ∧ Q (.int (if i < 0 then -i else i)) H) [.int i] (.int (if i < 0 then -i else i)) := rc1 fun G H v Q e h q => ⟨i, by rw [dp_int h], q _ (.int _)⟩
theorem c_int {i : Int} : RCd K (fun xs H Q => (∃ i, xs = [.int i] ∧ Q (.int i) H) ∨ ∃ k, xs = [.bl k] ∧ Q (.int (if k then 1 else 0)) H) [.int i] (.int i) := rc1 fun G H v Q e h q => .inl ⟨i, by rw [dp_int h], q _ (.int _)⟩
theorem c_intB {b : Bool} : RCd K (fun xs H Q => (∃ i, xs = [.int i] ∧ Q (.int i) H) ∨ ∃ k, xs = [.bl k] ∧ Q (.int (if k then 1 else 0)) H) [.bool b] (.int (if b then 1 else 0)) := rc1 fun G H v Q e h q => .inr ⟨b, by rw [dp_bl h], q _ (.int _)⟩
theorem c_str {i : Int} (hs : i.natAbs.log2 < 1920) : RCd K (fun xs H Q => ∃ i, xs = [.int i] ∧ i.natAbs.log2 < 1920 ∧ Q (.str (toString i)) H) [.int i] (.str (toString i)) := rc1 fun G H v Q e h q => ⟨i, by rw [dp_int h], hs, q _ (.str _)⟩
theorem bools_of : ∀ {vs : List V} {bs : List Bool}, DpAll K H vs (bs.map PyData.bool) → vs = bs.map V.bl
  | _, [], h => by cases h; rfl
  | _, b :: bs, h => by
    cases h with
    | cons h t => rw [dp_bl h, bools_of t]; rfl
theorem ints_of : ∀ {vs : List V} {ns : List Int}, DpAll K H vs (ns.map PyData.int) → vs = ns.map V.int
  | _, [], h => by cases h; rfl
  | _, b :: bs, h => by
    cases h with
    | cons h t => rw [dp_int h, ints_of t]; rfl
theorem strs_of : ∀ {vs : List V} {ns : List Str}, DpAll K H vs (ns.map PyData.str) → vs = ns.map V.str
  | _, [], h => by cases h; rfl
  | _, b :: bs, h => by
    cases h with
    | cons h t => rw [dp_str h, strs_of t]; rfl
theorem c_all {bs : List Bool} : RCd K (rAll K) [.list (bs.map PyData.bool)] (.bool (bs.all id)) := rc1 fun G H v Q e h q => by
  obtain ⟨a, xs, rfl, h1, h2⟩ := dp_lst h
  rw [bools_of h2] at h1
  exact ⟨a, bs, rfl, ex_l e h1, q _ (.bl _)⟩
theorem c_sum {ns : List Int} : RCd K (rSum K) [.list (ns.map PyData.int)] (.int ns.sum) := rc1 fun G H v Q e h q => by
  obtain ⟨a, xs, rfl, h1, h2⟩ := dp_lst h
  rw [ints_of h2] at h1
  exact ⟨a, ns, rfl, ex_l e h1, q _ (.int _)⟩
theorem c_max {i j : Int} : RCd K (fun xs H Q => ∃ i j, xs = [.int i, .int j] ∧ Q (.int (if j > i then j else i)) H) [.int i, .int j] (.int (if j > i then j else i)) := fun G H vs Q e hv q => by
  obtain ⟨v, w, rfl, h1, h2⟩ := dpa2 hv
  exact ⟨i, j, by rw [dp_int h1, dp_int h2], q _ G H (.refl e) (.int _)⟩
theorem c_min {i j : Int} : RCd K (fun xs H Q => ∃ i j, xs = [.int i, .int j] ∧ Q (.int (if j < i then j else i)) H) [.int i, .int j] (.int (if j < i then j else i)) := fun G H vs Q e hv q => by
  obtain ⟨v, w, rfl, h1, h2⟩ := dpa2 hv
  exact ⟨i, j, by rw [dp_int h1, dp_int h2], q _ G H (.refl e) (.int _)⟩
/-! ### promises -/
/-- arguments in R with their answer -/
def spR (K : PySem.W.Frag) (R : List D → D → Prop) : Sp := fun vs H Q _ => ∃ (G : Hp) (ds : List D) (z : D), Ex G H ∧ DpAll K G vs ds ∧ R ds z ∧ ∀ v G' H', Gro G H G' H' → Dp K G' v z → Q v H'
theorem d_call {R : List D → D → Prop} {E : XK} {ds : List D} (h : EvDs K tas σ G ds) (hR : R ds z) : EvD K (tCall (spR K R) [] E tas) σ G z := fun G1 H1 e f Q q =>
  h G1 H1 e f _ fun vs G2 H2 a hv => ⟨G2, ds, z, a.gh, by rw [List.append_nil]; exact hv, hR, fun v G3 H3 b hz => q v G3 H3 (a.trans b) hz⟩
theorem lenR {R : List PyData → PyData → Prop} {n : Nat} (h : ∀ ds z, R ds z → ds.length = n) : ∀ vs H Q E, spR K R vs H Q E → vs.length = n := fun vs H Q E ⟨G, ds, z, _, h1, h2, _⟩ => h1.length.trans (h ds z h2)
/-! ### statements -/
variable {E : Ends} {tu tw : TS}
theorem s_par2 {i j : Nat} (h : EvDs K tas σ G [x, y]) (e : Ex G H) (k : ∀ v w G1 H1, Gro G H G1 H1 → Dp K G1 v x → Dp K G1 w y → E.nx ((σ.set i (some v)).set j (some w)) H1) : tPar i j tas E σ H := h G H (Ex.refl G) e _ fun vs G1 H1 a hv => by
  obtain ⟨v, w, rfl, h1, h2⟩ := dpa2 hv
  exact ⟨v, w, rfl, k v w G1 H1 a h1 h2⟩
theorem s_let {i : Nat} (h : EvD K te σ G d) (e : Ex G H) (k : ∀ v G1 H1, Gro G H G1 H1 → Dp K G1 v d → E.nx (σ.set i (some v)) H1) : tAsg te (gName i) E σ H := h G H (Ex.refl G) e _ fun v G1 H1 a hv => k v G1 H1 a hv
theorem s_retD (h : EvD K te σ G d) (e : Ex G H) (k : ∀ v G1 H1, Gro G H G1 H1 → Dp K G1 v d → E.rt v H1) : tRet te E σ H := h G H (Ex.refl G) e _ fun v G1 H1 a hv => k v G1 H1 a hv
theorem s_exprD (h : EvD K te σ G d) (e : Ex G H) (k : ∀ v G1 H1, Gro G H G1 H1 → Dp K G1 v d → E.nx σ H1) : tDrop te E σ H := h G H (Ex.refl G) e _ fun v G1 H1 a hv => k v G1 H1 a hv
theorem s_ifD {b : Bool} (h : EvB t σ G b) (e : Ex G H) (h1 : b = true → ∀ H1, Gro G H G H1 → tu E σ H1) (h2 : b = false → ∀ H1, Gro G H G H1 → tw E σ H1) : tIfS t tu tw E σ H := h H e _ fun H1 a => by
  cases b with
  | true => exact h1 rfl H1 (.drop e a)
  | false => exact h2 rfl H1 (.drop e a)
/-- while, by a word over the slots, the still part and the heap; m falls -/
theorem s_whileD (W : Nat → L2.St → Hp → Hp → Prop) (m0 : Nat) (h0 : W m0 σ G H)
    (hs : ∀ m σ' G' H', W m σ' G' H' → Ex G' H' ∧ ∃ b, EvB t σ' G' b ∧ (b = true → ∀ H1, Gro G' H' G' H1 → ∃ N : L2.St → Hp → Prop, (∀ σ2 H2, N σ2 H2 → ∃ m' G2, m' < m ∧ W m' σ2 G2 H2) ∧ tu { E with nx := N, ct := N, bk := E.nx } σ' H1) ∧ (b = false → ∀ H1, Gro G' H' G' H1 → E.nx σ' H1)) : tWhile t tu E σ H :=
  ⟨fun m σ' H' => ∃ G', W m σ' G' H', ⟨m0, G, h0⟩, fun m σ' H' ⟨G', hw⟩ => by
    obtain ⟨e, b, hb, h1, h2⟩ := hs m σ' G' H' hw
    refine hb H' e _ fun H1 a => ?_
    cases b with
    | true =>
      obtain ⟨N, n1, n2⟩ := h1 rfl H1 (.drop e a)
      exact ⟨N, fun σ2 H2 hn => let ⟨m', G2, h3, h4⟩ := n1 σ2 H2 hn; ⟨m', h3, G2, h4⟩, n2⟩
    | false => exact h2 rfl H1 (.drop e a)⟩
/-! ### what is walked -/
/-- wi walks the data ds -/
def OverD (K : PySem.W.Frag) (wi : TI) (σ : L2.St) (G : Hp) (ds : List D) : Prop := ∀ G1 H1, Ex G G1 → Ex G1 H1 → ∀ R : It → Hp → Prop,
  (∀ J G2 H2, Gro G1 H1 G2 H2 → Walk J ds.length (fun H' => Ex G2 H') (fun i H' x H'' => ∃ d, ds[i]? = some d ∧ ∀ G', Ex G2 G' → Ex G' H' → ∃ G'', Gro G' H' G'' H'' ∧ Dp K G'' x d) → R J H2) → wi σ H1 R
theorem over_tup {ds : List D} (h : EvD K te σ G (.tuple ds)) : OverD K (iTup K te) σ G ds := fun G1 H1 e f R q => h G1 H1 e f _ fun v G2 H2 a hv => by
  obtain ⟨p, xs, rfl, h1, h2⟩ := dp_tup hv
  refine ⟨p, rfl, ⟨xs, ex_t a.gh h1⟩, q _ G2 H2 a ?_⟩
  rw [← h2.length]
  refine walk_tup.mono (fun H' e' => ex_t e' h1) fun i H' x H'' hi e' ⟨y1, y2⟩ => ?_
  subst y1
  obtain ⟨d, h3, h4⟩ := h2.get2 y2
  exact ⟨d, h3, fun G' g1 g2 => ⟨G', .refl g2, h4.ex g1⟩⟩
theorem over_lst {ds : List D} (h : EvD K te σ G (.list ds)) : OverD K (iList K te) σ G ds := fun G1 H1 e f R q => h G1 H1 e f _ fun v G2 H2 a hv => by
  obtain ⟨p, xs, rfl, h1, h2⟩ := dp_lst hv
  refine ⟨p, rfl, ⟨xs, ex_l a.gh h1⟩, q _ G2 H2 a ?_⟩
  rw [← h2.length]
  refine walk_list.mono (fun H' e' => ex_l e' h1) fun i H' x H'' hi e' ⟨y1, y2⟩ => ?_
  subst y1
  obtain ⟨d, h3, h4⟩ := h2.get2 y2
  exact ⟨d, h3, fun G' g1 g2 => ⟨G', .refl g2, h4.ex g1⟩⟩
theorem over_range {n : Nat} (h : EvDs K tas σ G [.int n]) (hn : n ≤ 100000) : OverD K (iRng1 tas) σ G ((List.range n).map fun i : Nat => PyData.int (i : Int)) := fun G1 H1 e f R q => h G1 H1 e f _ fun vs G2 H2 a hv => by
  obtain ⟨v, rfl, h1⟩ := dpa1 hv
  refine ⟨n, by rw [dp_int h1], by omega, by omega, q _ G2 H2 a ?_⟩
  rw [List.length_map, List.length_range]
  refine (walk_range (lo := 0) (n := n)).mono (fun _ _ => trivial) fun i H' x H'' hi e' ⟨y1, y2⟩ => ?_
  subst y1; subst y2
  exact ⟨.int i, by simp [hi], fun G' g1 g2 => ⟨G', .refl g2, by show Dp K G' (.int (0 + (i : Int))) (.int (i : Int)); rw [Int.zero_add]; exact .int _⟩⟩
def enumD (ds : List D) : List D := ds.zipIdx.map fun p => .tuple [.int (p.2 : Int), p.1]
theorem enumD_len (ds : List D) : (enumD ds).length = ds.length := by simp [enumD]
theorem enumD_get {ds : List D} {i : Nat} {d : D} (h : ds[i]? = some d) : (enumD ds)[i]? = some (.tuple [.int (i : Int), d]) := by
  have hi := (List.getElem?_eq_some_iff.mp h).1
  simp [enumD, List.getElem?_zipIdx, h]
theorem over_enumT {ds : List D} (h : EvDs K tas σ G [.tuple ds]) : OverD K (iEnumT K tas) σ G (enumD ds) := fun G1 H1 e f R q => h G1 H1 e f _ fun vs G2 H2 a hv => by
  obtain ⟨v, rfl, hv1⟩ := dpa1 hv
  obtain ⟨p, xs, rfl, h1, h2⟩ := dp_tup hv1
  refine ⟨p, xs, rfl, ex_t a.gh h1, q _ G2 H2 a ?_⟩
  rw [enumD_len, ← h2.length]
  refine ⟨fun i H' hi e' => ⟨xs, xs[i], ex_t e' h1, by simp [hi]⟩, fun H' e' => ⟨xs, ex_t e' h1, rfl⟩, fun i H' x H'' hi e' ⟨T, y, y1, y2, y3, y4⟩ => ?_⟩
  have hy := y4 xs (ex_t e' h1)
  obtain ⟨d, h3, h4⟩ := h2.get2 hy
  refine ⟨_, enumD_get h3, fun G' g1 g2 => ⟨upd G' T (.tup [.int (i : Nat), y]), by rw [y3]; exact .new g2 y2, ?_⟩⟩
  rw [y1]
  exact .tup (.inl (.inl upd_same)) (.cons (.int _) (.cons ((h4.ex g1).ex (Ex.new (gnone g2 y2))) .nil))
/-- for: Pv by the turn, the slots, the still part and the heap -/
theorem s_forD {wi : TI} {g : TG} {ds : List D} (h : OverD K wi σ G ds) (e : Ex G H) (Pv : Hp → Nat → L2.St → Hp → Hp → Prop) (h0 : ∀ G2 H2, Gro G H G2 H2 → Pv G2 0 σ G2 H2)
    (hG : ∀ G2 i σ' G' H', Pv G2 i σ' G' H' → Ex G2 G' ∧ Ex G' H')
    (hs : ∀ G2 i d v σ' G' H', ds[i]? = some d → Pv G2 i σ' G' H' → Dp K G' v d → g v σ' H' fun σ2 H2 => tu { E with nx := fun σ3 H3 => ∃ G3, Pv G2 (i + 1) σ3 G3 H3, ct := fun σ3 H3 => ∃ G3, Pv G2 (i + 1) σ3 G3 H3, bk := E.nx } σ2 H2)
    (hy : ∀ G2 i σ' G' H' G'' H'', Pv G2 i σ' G' H' → Gro G' H' G'' H'' → Pv G2 i σ' G'' H'')
    (hd : ∀ G2 σ' G' H', Pv G2 ds.length σ' G' H' → E.nx σ' H') : tFor wi g tu E σ H := h G H (Ex.refl G) e _ fun J G2 H2 a W =>
  for_it W (fun i σ' H' => ∃ G', Pv G2 i σ' G' H') ⟨G2, h0 G2 H2 a⟩ (fun i σ' H' _ ⟨G', p⟩ => (hG _ _ _ _ _ p).1.trans (hG _ _ _ _ _ p).2) (fun i x σ' H' H'' hi ⟨G', p⟩ ⟨d, hd, y⟩ => by
    obtain ⟨G'', g1, g2⟩ := y G' (hG _ _ _ _ _ p).1 (hG _ _ _ _ _ p).2
    exact hs G2 i d x σ' G'' H'' hd (hy _ _ _ _ _ _ _ p g1) g2) fun σ' H' ⟨G', p⟩ => hd G2 σ' G' H' p
/-- a comprehension: f tells what is kept, and as what -/
theorem d_lc {wi : TI} {g : TG} {tt : TT} {vs : List Nat} {ds : List D} (f : D → Option D) (h : OverD K wi σ G ds) (hz : ds.length ≤ 100000 := by simp)
    (hs : ∀ d ∈ ds, ∀ G1 v, Ex G G1 → Dp K G1 v d → ∃ σ2, (∀ H1, Ex G1 H1 → ∀ Q : L2.St → Hp → Prop, Q σ2 H1 → g v (wipe σ vs) H1 Q) ∧ wipe σ2 vs = wipe σ vs ∧ EvB tt σ2 G1 (f d).isSome ∧ ∀ e, f d = some e → EvD K te σ2 G1 e) :
    EvD K (tLc wi g tt te vs) σ G (.list (ds.filterMap f)) := fun G1 H1 e1 f1 Q q => h G1 H1 e1 f1 _ fun J G2 H2 a W Dl hD => by
  have hgD : G2 Dl = none := gnone a.gh hD
  refine lc_it W (fun i H' => ∃ G' acc, Ex G2 G' ∧ Ex G' H' ∧ Gro G1 H1 G' H' ∧ G' Dl = none ∧ H' Dl = some (.lst acc) ∧ DpAll K G' acc ((ds.take i).filterMap f) ∧ acc.length ≤ i ∧ H2 Dl = none)
    ⟨G2, [], Ex.refl _, (ex_mut a.gh hgD), a.trans (.drop a.gh (Ex.new hD)), hgD, upd_same, .nil, Nat.le_refl _, hD⟩ (fun i H' _ ⟨G', acc, p1, p2, _⟩ => p1.trans p2) (fun i x H' H'' hi ⟨G', acc, p1, p2, p3, p4, p5, p6, p7, p8⟩ ⟨d, hd, y⟩ => ?_) (fun H' ⟨G', acc, p1, p2, p3, p4, p5, p6, p7, p8⟩ => ?_)
  · obtain ⟨G'', g1, g2⟩ := y G' p1 p2
    obtain ⟨σ2, s1, s2, s3, s4⟩ := hs d (List.mem_of_getElem? hd) G'' x (((e1.trans a.g).trans p1).trans g1.g) g2
    have hn : G'' Dl = none := g1.none (by rw [p5]; simp) p4
    refine s1 H'' g1.gh _ ⟨s2, s3 H'' g1.gh _ fun H3 e3 => ?_⟩
    have tk : (ds.take (i + 1)).filterMap f = (ds.take i).filterMap f ++ (f d).toList := by
      rw [List.take_add_one, hd, List.filterMap_append]
      cases hq : f d <;> simp [List.filterMap, hq]
    have b3 := Gro.drop g1.gh e3
    cases hfd : f d with
    | some ev =>
      refine s4 ev hfd G'' H3 (Ex.refl _) b3.gh _ fun u G4 H4 c hu => ⟨acc, c.h Dl _ (e3 Dl _ (g1.h Dl _ p5)), by have := sz_of hz; have := (List.getElem?_eq_some_iff.mp hd).1; omega, ?_⟩
      have n4 : G4 Dl = none := c.none (by rw [e3 Dl _ (g1.h Dl _ p5)]; simp) hn
      refine ⟨G4, acc ++ [u], (p1.trans g1.g).trans c.g, ex_mut c.gh n4, ?_, n4, upd_same, ?_, by simp; omega, p8⟩
      · have b := ((p3.trans g1).trans b3).trans c
        exact ⟨b.g, fun b' o hb => by
          rw [upd_ne (fun z => by
            have y := a.h b' o hb
            rw [z, p8] at y
            cases y)]
          exact b.h b' o hb, ex_mut c.gh n4, b.old⟩
      · rw [tk, hfd]
        exact (p6.ex (g1.g.trans c.g)).append (.cons hu .nil)
    | none =>
      refine ⟨G'', acc, p1.trans g1.g, b3.gh, (p3.trans g1).trans b3, hn, e3 Dl _ (g1.h Dl _ p5), ?_, by omega, p8⟩
      rw [tk, hfd]
      simpa using p6.ex g1.g
  · rw [List.take_length] at p6
    refine q _ (upd G' Dl (.lst acc)) H' ⟨p3.g.trans (Ex.new p4), p3.h, fun b o hb => ?_, fun b hb => ?_⟩ (.lst (.inl (.inl upd_same)) (p6.ex (Ex.new p4)))
    · by_cases z : b = Dl
      · rw [z, upd_same] at hb
        rw [z, p5]
        exact hb
      · rw [upd_ne z] at hb
        exact p2 b o hb
    · rw [upd_ne (fun z => by
        rw [z] at hb
        cases k : H1 Dl with
        | none => exact hb k
        | some o =>
          have y := a.h Dl o k
          rw [p8] at y
          cases y)]
      exact p3.old b hb
theorem g_name {j : Nat} {v : V} {σ' : L2.St} : ∀ H1, Ex G H1 → ∀ Q : L2.St → Hp → Prop, Q (σ'.set j (some v)) H1 → gName j v σ' H1 Q := fun _ _ _ q => q
end
end Sy
end
section
set_option Elab.async false
set_option linter.all false
set_option maxRecDepth 100000
set_option maxHeartbeats 2000000
namespace Sy
open PySem PySem.Spec PyProof.Rows L2 Evl

/-- the name x of the module holds the def st -/
structure DefAt (K : PySem.W.Frag) (mg : Str → Option Value) (x : Str) (st : Stmt) : Prop where
  ex : ∃ (f : Addr) (fd : FuncData), Fun K x x st f fd ∧ mg x = some (.ref f)
/-- the def at the name x keeps the promise sp -/
structure Cal (P : Program) (w : World) (K : PySem.W.Frag) (mg : Str → Option Value) (base : Heap) (CX : CXT) (k : Nat) (x : Str) (ps : List Str) (sp : Sp) : Prop where
  ex : ∃ (f : Addr) (fd : FuncData), FnG P w K mg base CX k f fd ps sp ∧ mg x = some (.ref f) ∧ PySem.W.keepIn K (.ref f) = true ∧ L2.Binds K fd ps []
/-- .. whatever is under way -/
structure CalO (P : Program) (w : World) (K : PySem.W.Frag) (mg : Str → Option Value) (base : Heap) (CX : CXT) (k : Nat) (x : Str) (ps : List Str) (sp : Sp) : Prop where
  ex : ∃ (f : Addr) (fd : FuncData), FnOk P w K mg base CX k f fd ps sp ∧ mg x = some (.ref f) ∧ PySem.W.keepIn K (.ref f) = true ∧ L2.Binds K fd ps []
/-- how the arguments of a def without defaults are bound -/
def BindsBy (x : Str) (st : Stmt) (ps : List Str) : Prop := ∀ (kV doc pm : Value) (an : Option Addr) (cdv ct : Value) (us : List Value), us.length = ps.length →
  bindArgs (PySem.W.fnOf x x (defArgs st) (defBody st) (defScope st) .none kV doc pm an cdv ct) ⟨us, []⟩ = pure (ps.zip us)
section
variable {P : Program} {w : World} {K : PySem.W.Frag} {mg : Str → Option Value} {base : Heap} {CX : CXT} {k : Nat} {x : Str} {ps N : List Str} {sp : Sp} {st : Stmt}
theorem calO_mk (F : DefAt K mg x st) (S : FnScope N ps (defScope st)) (b : BindsBy x st ps) (len : ∀ vs H Q E, sp vs H Q E → vs.length = ps.length)
    (hbody : ∀ (f : Addr) (cdv : Value) (A : Around) (outer : List Env) (s : Shared) (H : Hp) (vs : List V) (Q : VK) (E : XK), Room k (A.deeper (envOfC x (defScope st) s.heap.objs.size f cdv)) → sp vs H Q E →
      ∃ t, PSs (cxOf CX0 P w K mg base N x (defScope st) f cdv A outer s H E).nox (defBody st) t ∧ t { nx := fun _ H' => Q .non H', rt := Q } (L2.start N vs) H) : CalO P w K mg base CX0 (k + 1) x ps sp := by
  obtain ⟨f, fd, F, hm⟩ := F.ex
  exact ⟨f, fd, F.ok S len (hbody f), hm, F.kp, F.binds b⟩
theorem calX_mk (F : DefAt K mg x st) (S : FnScope N ps (defScope st)) (b : BindsBy x st ps) (len : ∀ vs H Q E, sp vs H Q E → vs.length = ps.length)
    (hbody : ∀ (f : Addr) (cdv : Value) (A : Around) (outer : List Env) (s : Shared) (H : Hp) (vs : List V) (Q : VK) (E : XK), Room k (A.deeper (envOfC x (defScope st) s.heap.objs.size f cdv)) → sp vs H Q E →
      ∃ t, PSs (cxOf (L2.CX P w) P w K mg base N x (defScope st) f cdv A outer s H E) (defBody st) t ∧ t { nx := fun _ H' => Q .non H', rt := Q } (L2.start N vs) H) : CalO P w K mg base (L2.CX P w) (k + 1) x ps sp := by
  obtain ⟨f, fd, F, hm⟩ := F.ex
  exact ⟨f, fd, F.okX S len (hbody f), hm, F.kp, F.binds b⟩
theorem calG_mk (F : DefAt K mg x st) (S : FnScope N ps (defScope st)) (b : BindsBy x st ps) (len : ∀ vs H Q E, sp vs H Q E → vs.length = ps.length)
    (hbody : ∀ (f : Addr) (fd : FuncData) (cdv : Value) (A : Around) (outer : List Env) (s : Shared) (H : Hp) (vs : List V) (Q : VK) (E : XK), Fun K x x st f fd → Room k (A.deeper (envOfC x (defScope st) s.heap.objs.size f cdv)) → A.guards = some [] → PySem.W.codeIn K cdv x = true → sp vs H Q E →
      ∃ t, PSs (cxOf CX0 P w K mg base N x (defScope st) f cdv A outer s H E) (defBody st) t ∧ t { nx := fun _ H' => Q .non H', rt := Q } (L2.start N vs) H) : Cal P w K mg base CX0 (k + 1) x ps sp := by
  obtain ⟨f, fd, F, hm⟩ := F.ex
  exact ⟨f, fd, okG F S len (fun cdv A outer s H vs Q E h1 h2 h3 h4 => hbody f fd cdv A outer s H vs Q E F h1 h2 h3 h4), hm, F.kp, F.binds b⟩
theorem CalO.g (C : CalO P w K mg base CX k x ps sp) : Cal P w K mg base CX k x ps sp := by
  obtain ⟨f, fd, F, h⟩ := C.ex
  exact ⟨f, fd, FnG.of F, h⟩
end
section
variable {X : Cx} {CX : CXT} {j k : Nat} {x : Str} {ps : List Str} {sp : Sp} {E : XK} {p pos : Pos} {e : Expr} {es : List Expr} {t : TA}
/-- a call of such a def -/
theorem pe_calE (C : CalO X.prog X.w X.K X.mg X.base CX j x ps sp) (hr : Room k X.A) (hx : Passes CX X E) (ha : PA X (e :: es) t) (hj : j ≤ k := by decide) (hg : Gl X x := by rfl) (hdb : (x == ("__debug__" : Str)) = false := by decide)
    (he : starEach (e :: es) X.env = (false, eval e X.env) :: starEach es X.env := by rfl) (hpl : (backTo pos (starEach es X.env)).any (·.1) = false := by rfl) : PE X (.Call (.Name x p) (e :: es) [] pos) (tCall sp [] E t) := by
  obtain ⟨f, fd, F, hm, hk, hb⟩ := C.ex
  exact pe_call F (hr.mono hj) hg hm hk hb .nil hx ha hdb he hpl
/-- .. that lets nothing out -/
theorem pe_cal (C : CalO X.prog X.w X.K X.mg X.base CX0 j x ps sp) (hr : Room k X.A) (ha : PA X (e :: es) t) (hj : j ≤ k := by decide) (hg : Gl X x := by rfl) (hdb : (x == ("__debug__" : Str)) = false := by decide)
    (he : starEach (e :: es) X.env = (false, eval e X.env) :: starEach es X.env := by rfl) (hpl : (backTo pos (starEach es X.env)).any (·.1) = false := by rfl) : PE X (.Call (.Name x p) (e :: es) [] pos) (tCall sp [] E0 t) := pe_calE C hr pass0 ha hj hg hdb he hpl
/-- .. that may raise, and does not here -/
theorem pe_calN (C : CalO X.prog X.w X.K X.mg X.base (L2.CX X.prog X.w) j x ps sp) (hr : Room k X.A) (ha : PA X (e :: es) t) (hj : j ≤ k := by decide) (hg : Gl X x := by rfl) (hdb : (x == ("__debug__" : Str)) = false := by decide)
    (he : starEach (e :: es) X.env = (false, eval e X.env) :: starEach es X.env := by rfl) (hpl : (backTo pos (starEach es X.env)).any (·.1) = false := by rfl) : PE X (.Call (.Name x p) (e :: es) [] pos) (tCall sp [] E0 t) := pe_calE C hr passL ha hj hg hdb he hpl
/-- .. where no repr is under way -/
theorem pe_calG (C : Cal X.prog X.w X.K X.mg X.base CX0 j x ps sp) (hr : Room k X.A) (hgu : X.A.guards = some []) (ha : PA X (e :: es) t) (hj : j ≤ k := by decide) (hg : Gl X x := by rfl) (hdb : (x == ("__debug__" : Str)) = false := by decide)
    (he : starEach (e :: es) X.env = (false, eval e X.env) :: starEach es X.env := by rfl) (hpl : (backTo pos (starEach es X.env)).any (·.1) = false := by rfl) : PE X (.Call (.Name x p) (e :: es) [] pos) (tCall sp [] E0 t) := by
  obtain ⟨f, fd, F, hm, hk, hb⟩ := C.ex
  exact pe_callG (F.mono hj) hr hgu hg hm hk hb .nil pass0 ha hdb he hpl
end
end Sy
end
section
set_option Elab.async false
set_option linter.all false
set_option maxRecDepth 100000
set_option maxHeartbeats 2000000
namespace Sy
open PySem PySem.Spec PyProof.Rows L2 Evl
theorem pe_const {X : Cx} {x : Str} {i : Int} {pos : Pos} (h : ∃ t, X.mg x = some (.int i t)) (hg : Gl X x := by rfl) (hd : (x == ("__debug__" : Str)) = false := by decide) : PE X (.Name x pos) (tC (.int i)) := by
  obtain ⟨t, h⟩ := h
  exact pe_glob hg h ⟨t, rfl⟩ hd
/-- ** of great numbers -/
def CPowW (i j : Int) : Prop := 0 ≤ j ∧ (Builtin.Int.intBits i : Int) * j ≤ 2 ^ 27
theorem op_powW {X : Cx} : OpR X (binaryOp .Pow) (rI CPowW fun i j => .int (i ^ j.toNat)) := opI fun _ _ _ _ _ _ _ hc q => pow_int hc.1 hc.2 q
section
variable {K : PySem.W.Frag} {G H : Hp} {σ : L2.St} {te : TE} {tas : TA} {z d : PyData}
theorem r_powW {i j : Int} (hc : CPowW i j) : RD K (rI CPowW fun i j => .int (i ^ j.toNat)) (.int i) (.int j) (.int (i ^ j.toNat)) := r_I (g := fun i j => i ^ j.toNat) hc
theorem small_lt {n : Int} {a b : Nat} (h : n.natAbs < a) (e : a ≤ 2 ^ b) : n.natAbs < 2 ^ b := Nat.lt_of_lt_of_le h e
/-- bounds for * and // -/
theorem mulW {i j : Int} (a b : Nat) (ha : i.natAbs < 2 ^ a) (hb : j.natAbs < 2 ^ b) (h0 : 0 < a := by decide) (h1 : 0 < b := by decide) (h : a + b ≤ 1000000 := by decide) : CMulW i j := wide_mul ha hb h0 h1 h
theorem divW {i j : Int} (b : Nat) (h : 0 < j) (hb : j.natAbs < 2 ^ b) (h0 : 0 < b := by decide) (h9 : b ≤ 9000 := by decide) : CDivW i j := wide_div h hb h0 h9
end
end Sy
end
section
set_option Elab.async false
set_option linter.all false
set_option maxRecDepth 100000
set_option maxHeartbeats 2000000
/-! more rules for data: kinds, slices, zip, joined and repeated tuples, defs that may raise, kept exceptions -/
namespace Sy
open PySem PySem.Spec PyProof.Rows L2 Evl RZ
theorem pe_ty {X : Cx} {x : Str} {pos : Pos} (T : String) (hg : Gl X x) (hm : X.mg x = none) (hv : bootBuiltins x = some (.type T)) (hn : x ≠ "__name__" := by decide) (hd : (x == ("__debug__" : Str)) = false := by decide) : PE X (.Name x pos) (tC (.ty T)) := pe_bltn hg hm hv rfl hn hd
/-- for the inner parts of comprehensions: K without the inner context -/
theorem ix_tupK {X : Cx} {K : PySem.W.Frag} (h : X.K = K) : IxR X (rIxT K) := h ▸ ix_tup
theorem ix_listK {X : Cx} {K : PySem.W.Frag} (h : X.K = K) : IxR X (rIxL K) := h ▸ ix_list
theorem pg_tupK {X : Cx} {K : PySem.W.Frag} {pos : Pos} {es : List Expr} {k : Nat} {t : TGs} {n : Nat} (hK : X.K = K) (hc : X.calm = true) (h : PGs X es t)
    (hn : (assignEach es X.env).length = n := by rfl) (hst : (assignEach es X.env).findIdx? (·.1) = none := by rfl) : PG X (.Tuple es k pos) (gTup K n t) := hK ▸ pg_tup hc h hn hst
/-- the name of the built-in type -/
def tyD : D → String
  | .none => "NoneType" | .bool _ => "bool" | .int _ => "int" | .str _ => "str" | .list _ => "list" | .tuple _ => "tuple" | .dict _ => "dict"
section
variable {K : PySem.W.Frag} {G H G' H' : Hp} {σ : L2.St} {te ta tb : TE} {tas : TA} {x y z d : D} {E : Ends} {tu tw : TS}
theorem dp_ty {v : V} (h : Dp K H v d) : TyX K H v (.type (tyD d)) := by
  cases h with
  | non => exact .base .non
  | bl b => exact .base (.bl b)
  | int i => exact .base (.int i)
  | str s => exact .base (.str s)
  | lst h1 h2 =>
    rcases h1 with (h1 | ⟨o, h1⟩) | ⟨o, its, n, h1, h3, _⟩
    · exact .base (.lst h1)
    · exact .base (.frz h1)
    · exact .kList h1 h3
  | tup h1 h2 =>
    rcases h1 with (h1 | ⟨o, h1⟩) | ⟨o, its, n, h1, h3, _⟩
    · exact .base (.tup h1)
    · exact .fTuple h1
    · exact .kTuple h1 h3
/-- isinstance(.., T), T such a name -/
def isaS (T S : String) : Bool := S == T || (T == "int" && S == "bool")
abbrev isaD (T : String) (d : D) : Bool := isaS T (tyD d)
def nmD : List String := ["NoneType", "bool", "int", "str", "list", "tuple", "dict"]
theorem tyD_mem : tyD d ∈ nmD := by cases d <;> simp [tyD, nmD]
theorem isa_gen {T : String} (h : ∀ S ∈ nmD, (if (Value.type S == Value.type T) = true then some true else if PySem.W.kitMeta T = true then (fastBuiltinMro S).map (·.contains (.type T)) else none) = some (isaS T S)) : PySem.W.kitOne K (.type (tyD d)) (.type T) = some (isaD T d) := h _ tyD_mem
theorem isa_tuple : PySem.W.kitOne K (.type (tyD d)) (.type "tuple") = some (isaD "tuple" d) := isa_gen (by decide +kernel)
theorem isa_list : PySem.W.kitOne K (.type (tyD d)) (.type "list") = some (isaD "list" d) := isa_gen (by decide +kernel)
theorem isa_int : PySem.W.kitOne K (.type (tyD d)) (.type "int") = some (isaD "int" d) := isa_gen (by decide +kernel)
theorem isa_bool : PySem.W.kitOne K (.type (tyD d)) (.type "bool") = some (isaD "bool" d) := isa_gen (by decide +kernel)
theorem isa_str : PySem.W.kitOne K (.type (tyD d)) (.type "str") = some (isaD "str" d) := isa_gen (by decide +kernel)
theorem d_isx {T : String} {b : Bool} (h : EvD K te σ G d) (hk : PySem.W.kitOne K (.type (tyD d)) (.type T) = some b) : EvD K (tCB (rIsx K) (tCons te (tCons (tC (.ty T)) tNil))) σ G (.bool b) :=
  fun G1 H1 e f Q q => h G1 H1 e f _ fun v G2 H2 a hv => ⟨v, .ty T, _, _, b, rfl, .ty T, .inl (dp_ty (hv.ex a.gh)), hk, q _ G2 H2 a (.bl b)⟩
/-! ### short circuits -/
theorem d_andF (h1 : EvD K ta σ G (.bool false)) : EvD K (tAndV ta tb) σ G (.bool false) := d_and (b := false) h1 fun h => by cases h
theorem d_andT {b : Bool} (h1 : EvD K ta σ G (.bool true)) (h2 : EvD K tb σ G (.bool b)) : EvD K (tAndV ta tb) σ G (.bool b) := d_and h1 fun _ => h2
theorem t_orT {t u : TT} (h1 : EvB t σ G true) : EvB (tOr t u) σ G true := t_or (b := false) h1 fun h => by cases h
theorem t_orF {t u : TT} {b : Bool} (h1 : EvB t σ G false) (h2 : EvB u σ G b) : EvB (tOr t u) σ G b := t_or h1 fun _ => h2
theorem t_andF {t u : TT} (h1 : EvB t σ G false) : EvB (tAnd t u) σ G false := t_and (b := false) h1 fun h => by cases h
theorem t_andT {t u : TT} {b : Bool} (h1 : EvB t σ G true) (h2 : EvB u σ G b) : EvB (tAnd t u) σ G b := t_and h1 fun _ => h2
/-! ### zip of two tuples -/
def zipD (ds es : List D) : List D := (ds.zip es).map fun p => .tuple [p.1, p.2]
theorem zipD_len (ds es : List D) : (zipD ds es).length = min ds.length es.length := by simp [zipD]
theorem over_zipT {ds es : List D} (h : EvDs K tas σ G [.tuple ds, .tuple es]) : OverD K (iZipA K tas) σ G (zipD ds es) := fun G1 H1 e f R q => h G1 H1 e f _ fun vs G2 H2 a hv => by
  obtain ⟨v, w, rfl, hv1, hv2⟩ := dpa2 hv
  obtain ⟨p, xs, rfl, h1, h2⟩ := dp_tup hv1
  obtain ⟨p', ys, rfl, h3, h4⟩ := dp_tup hv2
  refine ⟨p, p', xs, ys, rfl, .inr ⟨ex_t a.gh h1, ex_t a.gh h3, q _ G2 H2 a ?_⟩⟩
  rw [zipD_len, ← h2.length, ← h4.length]
  refine ⟨fun i H' hi e' => ⟨xs, ys, xs[i]'(by omega), ys[i]'(by omega), ex_t e' h1, ex_t e' h3, by simp, by simp⟩, fun H' e' => ⟨xs, ys, ex_t e' h1, ex_t e' h3, by omega⟩, fun i H' x H'' hi e' ⟨T, u, y, y1, y2, y3, y4, y5⟩ => ?_⟩
  obtain ⟨d, k1, k2⟩ := h2.get2 (y4 xs (ex_t e' h1))
  obtain ⟨d', k3, k4⟩ := h4.get2 (y5 ys (ex_t e' h3))
  refine ⟨.tuple [d, d'], by simp [zipD, List.getElem?_zip_eq_some, k1, k3], fun G' g1 g2 => ⟨upd G' T (.tup [u, y]), by rw [y3]; exact .new g2 y2, ?_⟩⟩
  rw [y1]
  exact .tup (.inl (.inl upd_same)) (.cons ((k2.ex g1).ex (Ex.new (gnone g2 y2))) (.cons ((k4.ex g1).ex (Ex.new (gnone g2 y2))) .nil))
/-! ### slices, joined and repeated tuples -/
def cutD (ds : List D) (lo hi : Option Int) : List D := (ds.drop (HT.sIx ds.length 0 lo)).take (HT.sIx ds.length ds.length hi - HT.sIx ds.length 0 lo)
theorem dpA_take : ∀ {vs : List V} {ds : List D} (n : Nat), DpAll K H vs ds → DpAll K H (vs.take n) (ds.take n)
  | _, _, 0, _ => .nil
  | _, _, n + 1, .nil => .nil
  | _, _, n + 1, .cons h t => .cons h (dpA_take n t)
theorem dpA_cut {vs : List V} {ds : List D} {lo hi : Option Int} (h : DpAll K H vs ds) : DpAll K H (cutV vs lo hi) (cutD ds lo hi) := by
  unfold cutV cutD
  rw [h.length]
  exact dpA_take _ (h.drop _)
/-- a slice's part -/
def EvO (t : TO) (σ : L2.St) (G : Hp) (o : Option Int) : Prop := ∀ H1, Ex G H1 → ∀ Q : Option Int → Hp → Prop, (∀ H2, Ex H1 H2 → Q o H2) → t σ H1 Q
theorem o_none : EvO tNoPart σ G none := fun H1 _ _ q => q H1 (Ex.refl _)
theorem o_some {i : Int} (h : EvD K te σ G (.int i)) : EvO (tPart te) σ G (some i) := fun H1 e _ q => h G H1 (Ex.refl _) e _ fun v G2 H2 a hv => ⟨i, dp_int hv, q H2 a.h⟩
theorem EvO.mono {t : TO} {o : Option Int} (e : Ex G G') (h : EvO t σ G o) : EvO t σ G' o := fun H1 a Q q => h H1 (e.trans a) Q q
theorem d_slT {tl th : TO} {lo hi : Option Int} {ds : List D} (h : EvD K te σ G (.tuple ds)) (h1 : EvO tl σ G lo) (h2 : EvO th σ G hi) : EvD K (tSl (rSlA K) te tl th) σ G (.tuple (cutD ds lo hi)) :=
  fun G1 H1 e f Q q => h G1 H1 e f _ fun v G2 H2 a hv => h1 H2 ((e.trans a.g).trans a.gh) _ fun H3 e3 => h2 H3 (((e.trans a.g).trans a.gh).trans e3) _ fun H4 e4 => by
    obtain ⟨p, xs, rfl, k1, k2⟩ := dp_tup hv
    have b := a.trans (.drop a.gh (e3.trans e4))
    have w : HT.sIx xs.length 0 lo = 0 ∧ HT.sIx xs.length xs.length hi = xs.length → cutV xs lo hi = xs := fun ⟨u1, u2⟩ => by
      unfold cutV
      rw [u1, u2, List.drop_zero, Nat.sub_zero, List.take_length]
    refine ⟨p, xs, rfl, ex_t b.gh k1, fun u => q _ G2 H4 b (.tup k1 ?_), fun _ p' hp' => q _ (upd G2 p' (.tup (cutV xs lo hi))) _ (b.trans (.new b.gh hp')) (.tup (.inl (.inl upd_same)) ((dpA_cut k2).ex (Ex.new (gnone b.gh hp'))))⟩
    have := dpA_cut (lo := lo) (hi := hi) k2
    rw [w u] at this
    exact this
theorem d_slL {tl th : TO} {lo hi : Option Int} {ds : List D} (h : EvD K te σ G (.list ds)) (h1 : EvO tl σ G lo) (h2 : EvO th σ G hi) : EvD K (tSl (rSlL K) te tl th) σ G (.list (cutD ds lo hi)) :=
  fun G1 H1 e f Q q => h G1 H1 e f _ fun v G2 H2 a hv => h1 H2 ((e.trans a.g).trans a.gh) _ fun H3 e3 => h2 H3 (((e.trans a.g).trans a.gh).trans e3) _ fun H4 e4 => by
    obtain ⟨p, xs, rfl, k1, k2⟩ := dp_lst hv
    have b := a.trans (.drop a.gh (e3.trans e4))
    exact ⟨p, xs, rfl, ex_l b.gh k1, fun p' hp' => q _ (upd G2 p' (.lst (cutV xs lo hi))) _ (b.trans (.new b.gh hp')) (.lst (.inl (.inl upd_same)) ((dpA_cut k2).ex (Ex.new (gnone b.gh hp'))))⟩
theorem r_catT {ds es : List D} (hz : ds.length + es.length ≤ 100000) : RD K (rCatA K) (.tuple ds) (.tuple es) (.tuple (ds ++ es)) := fun G H v w Q e hv hw q => by
  obtain ⟨p, xs, rfl, k1, k2⟩ := dp_tup hv
  obtain ⟨p', ys, rfl, k3, k4⟩ := dp_tup hw
  refine ⟨p, p', xs, ys, rfl, rfl, ex_t e k1, ex_t e k3, by rw [k2.length, k4.length]; exact sz_of hz, fun u => ?_, fun _ u => ?_, fun _ _ r hr => ?_⟩
  · have := k2.append k4
    rw [u] at this
    exact q _ G H (.refl e) (.tup k3 this)
  · have := k2.append k4
    rw [u, List.append_nil] at this
    exact q _ G H (.refl e) (.tup k1 this)
  · exact q _ (upd G r (.tup (xs ++ ys))) _ (.new e hr) (.tup (.inl (.inl upd_same)) ((k2.append k4).ex (Ex.new (gnone e hr))))
theorem dpA_rep {vs : List V} {ds : List D} (h : DpAll K H vs ds) : ∀ n, DpAll K H (List.replicate n vs).flatten (List.replicate n ds).flatten
  | 0 => .nil
  | n + 1 => by
    rw [List.replicate_succ, List.flatten_cons, List.replicate_succ, List.flatten_cons]
    exact h.append (dpA_rep h n)
theorem r_repT {ds : List D} {k : Nat} (hne : ds ≠ []) (h2 : 2 ≤ k) (h1 : k ≤ 1000) (hz : ds.length ≤ 1000) : RD K (rRepT K) (.tuple ds) (.int k) (.tuple (List.replicate k ds).flatten) := fun G H v w Q e hv hw q => by
  obtain ⟨p, xs, rfl, k1, k2⟩ := dp_tup hv
  refine ⟨p, k, xs, rfl, dp_int hw, ex_t e k1, fun u => hne ?_, by omega, by omega, by rw [k2.length]; exact hz, fun r hr => ?_⟩
  · have := k2.length
    rw [u] at this
    exact List.eq_nil_of_length_eq_zero this.symm
  · rw [Int.toNat_natCast]
    exact q _ (upd G r (.tup (List.replicate k xs).flatten)) _ (.new e hr) (.tup (.inl (.inl upd_same)) ((dpA_rep k2 k).ex (Ex.new (gnone e hr))))
/-- repr of data -/
def ReprOk (d : D) : Prop := SeqAt.shaped d = true ∧ d.showable = true ∧ d.shown.length ≤ sizeLine
theorem c_repr (h : ReprOk d) : RCd K (rRepr K) [d] (.str d.shown) := rc1 fun G H v Q e hv q => ⟨v, d, rfl, hv.ex e, h.1, h.2.1, h.2.2, q _ (.str _)⟩
/-! ### defs that may raise -/
/-- the exception of the class C that keeps x -/
def Rzd (K : PySem.W.Frag) (G H : Hp) (E : XK) (C : Addr) (x : D) : Prop := ∀ v G' H' d, Gro G H G' H' → Dp K G' v x → H' d = none → E (.ref C) (some d) (upd H' d (.xd [("value", v)]))
/-- a promise: a value, or an exception -/
inductive Out where
  | val (z : D)
  | bad (C : Addr) (x : D)
def spX (K : PySem.W.Frag) (R : List D → Out → Prop) : Sp := fun vs H Q E => ∃ (G : Hp) (ds : List D) (o : Out), Ex G H ∧ DpAll K G vs ds ∧ R ds o ∧ match o with
  | .val z => ∀ v G' H', Gro G H G' H' → Dp K G' v z → Q v H'
  | .bad C x => Rzd K G H E C x
theorem lenX {R : List D → Out → Prop} {n : Nat} (h : ∀ ds z, R ds z → ds.length = n) : ∀ vs H Q E, spX K R vs H Q E → vs.length = n := fun vs H Q E ⟨G, ds, z, _, h1, h2, _⟩ => h1.length.trans (h ds z h2)
theorem d_callX {R : List D → Out → Prop} {E : XK} {ds : List D} (h : EvDs K tas σ G ds) (hR : R ds (.val z)) : EvD K (tCall (spX K R) [] E tas) σ G z := fun G1 H1 e f Q q =>
  h G1 H1 e f _ fun vs G2 H2 a hv => ⟨G2, ds, .val z, a.gh, by rw [List.append_nil]; exact hv, hR, fun v G' H' g1 hz => q v G' H' (a.trans g1) hz⟩
theorem Rzd.gro {E : XK} {C : Addr} (g : Gro G H G' H') (h : Rzd K G H E C x) : Rzd K G' H' E C x := fun v G2 H2 d a hv hd => h v G2 H2 d (g.trans a) hv hd
/-- .. that raises -/
theorem x_call {R : List D → Out → Prop} {E : XK} {ds : List D} {C : Addr} {Q : VK} (h : EvDs K tas σ G ds) (e : Ex G H) (hR : R ds (.bad C x)) (hE : Rzd K G H E C x) : tCall (spX K R) [] E tas σ H Q :=
  h G H (Ex.refl _) e _ fun vs G2 H2 a hv => ⟨G2, ds, .bad C x, a.gh, by rw [List.append_nil]; exact hv, hR, hE.gro a⟩
/-- C(..) is raised -/
theorem x_say {W : XK} {C : Addr} (h : EvD K te σ G x) (e : Ex G H) (hE : Rzd K G H W C x) : tSay C te σ H W := h G H (Ex.refl _) e _ fun v G1 H1 a hv d hd => hE v G1 H1 d a hv hd
/-- i, j = a pair -/
theorem g_tup2 {i j : Nat} {v : V} (h : Dp K G v (.tuple [x, y])) : ∃ v1 v2, Dp K G v1 x ∧ Dp K G v2 y ∧ ∀ (σ' : L2.St) (H1 : Hp), Ex G H1 → ∀ Q : L2.St → Hp → Prop, Q ((σ'.set i (some v1)).set j (some v2)) H1 → gTup K 2 (gCons (gName i) (gCons (gName j) gNil)) v σ' H1 Q := by
  obtain ⟨a, xs, rfl, h1, h2⟩ := dp_tup h
  obtain ⟨v1, v2, rfl, k1, k2⟩ := dpa2 h2
  exact ⟨v1, v2, k1, k2, fun σ' H1 e Q q => ⟨a, _, rfl, ex_t e h1, rfl, v1, _, rfl, v2, _, rfl, rfl, q⟩⟩
/-- i, j = e, e a pair of constants -/
theorem s_pair {i j : Nat} (h : EvD K te σ G (.tuple [x, y])) (e : Ex G H) (k : ∀ v w G1 H1, Gro G H G1 H1 → Dp K G1 v x → Dp K G1 w y → E.nx ((σ.set i (some v)).set j (some w)) H1) : tAsg te (gTup K 2 (gCons (gName i) (gCons (gName j) gNil))) E σ H := h G H (Ex.refl G) e _ fun v G1 H1 a hv => by
  obtain ⟨v1, v2, k1, k2, gt⟩ := g_tup2 (i := i) (j := j) hv
  exact gt _ _ a.gh _ (k v1 v2 G1 H1 a k1 k2)
end
/-- the class x of errors, at C, below the class at D -/
structure SayK (P : Program) (K : PySem.W.Frag) (mg : Str → Option Value) (D C : Addr) (x : Str) : Prop where
  say : SayC K D C
  fn : ∃ (fI cc cda : Addr) (fd : FuncData), SayD P K mg D fI cc cda fd ∧ PySem.W.findIn K (.ref C) "__init__" = some (some (.ref fI)) ∧ PySem.W.typeIn K (.ref fI) = some (.type "function")
  at' : mg x = some (.ref C)
  xf : XfC K C
  ec : ExcC K C
  nv : PySem.W.findIn K (.ref C) "value" = some none
  ex : PySem.W.exmOne K (.ref C) (.ref D) = some true
theorem pmk_sayK {X : Cx} {x : Str} {C D : Addr} {e : Expr} {te : TE} {p pos : Pos} (S : SayK X.prog X.K X.mg D C x) (hr : Room 2 X.A) (he : PE X e te) (hg : Gl X x := by rfl)
    (hs : starEach [e] X.env = (false, eval e X.env) :: starEach [] X.env := by rfl) (hdb : (x == ("__debug__" : Str)) = false := by decide) : PMk X (.Call (.Name x p) [e] [] pos) (tSay C te) := by
  obtain ⟨fI, cc, cda, fd, h1, h2, h3⟩ := S.fn
  exact pmk_say (k := 0) S.say h1 h2 h3 hr hg S.at' he hs hdb
end Sy
end
section
set_option Elab.async false
set_option linter.all false
set_option maxRecDepth 100000
set_option maxHeartbeats 2000000
/-! a list that grows, kept outside the still part; texts -/
namespace Sy
open PySem PySem.Spec PyProof.Rows L2 Evl RZ
section
variable {K : PySem.W.Frag} {G H G' H' : Hp} {σ : L2.St} {te ta tb to : TE} {tas : TA} {x y z d : D} {E : Ends} {tu tw : TS} {p : Addr} {o : HO}
theorem Gro.mut (a : Gro G H G' H') (h : H p = Option.none) (g : G' p = Option.none) : Gro G H G' (upd H' p o) :=
  ⟨a.g, fun b u hb => by rw [upd_ne (fun z => by rw [z, h] at hb; cases hb)]; exact a.h b u hb, ex_mut a.gh g, a.old⟩
theorem Gro.freeze (a : Gro G H G' H') (h : H p = Option.none) (g : G' p = Option.none) (e : H' p = some o) : Gro G H (upd G' p o) H' :=
  ⟨a.g.trans (Ex.new g), a.h, fun b u hb => by
    by_cases z : b = p
    · rw [z, upd_same] at hb
      rw [z, e]
      exact hb
    · rw [upd_ne z] at hb
      exact a.gh b u hb, fun b hb => by
    rw [upd_ne (fun z => by rw [z] at hb; exact hb h)]
    exact a.old b hb⟩
theorem dp_frozen {vs : List V} {ds : List D} (h : DpAll K G vs ds) (g : G p = none) : Dp K (upd G p (.lst vs)) (.ref p) (.list ds) := .lst (.inl (.inl upd_same)) (h.ex (Ex.new g))
/-- x = [] -/
theorem s_newL {i : Nat} (k : ∀ p, H p = none → E.nx (σ.set i (some (.ref p))) (upd H p (.lst []))) : tAsg (tLst tNil) (gName i) E σ H := ⟨Nat.zero_le _, fun p hp => k p hp⟩
/-- x = [..] -/
theorem s_newLs {i : Nat} {ds : List D} (h : EvDs K tas σ G ds) (e : Ex G H) (hl : ds.length ≤ 100000) (k : ∀ p vs G1 H1, Gro G H G1 H1 → H1 p = none → DpAll K G1 vs ds → E.nx (σ.set i (some (.ref p))) (upd H1 p (.lst vs))) : tAsg (tLst tas) (gName i) E σ H :=
  h G H (Ex.refl _) e _ fun vs G1 H1 a hv => ⟨by rw [hv.length]; exact sz_of hl, fun p hp => k p vs G1 H1 a hp hv⟩
/-- return [..], new -/
theorem s_retL {ds : List D} (h : EvDs K tas σ G ds) (e : Ex G H) (hl : ds.length ≤ 100000) (k : ∀ p vs G1 H1, Gro G H G1 H1 → H1 p = none → DpAll K G1 vs ds → E.rt (.ref p) (upd H1 p (.lst vs))) : tRet (tLst tas) E σ H :=
  h G H (Ex.refl _) e _ fun vs G1 H1 a hv => ⟨by rw [hv.length]; exact sz_of hl, fun p hp => k p vs G1 H1 a hp hv⟩
/-- x.append(e) -/
theorem s_append {i : Nat} {acc : List V} (hs : σ[i]? = some (some (.ref p))) (hp : H p = some (.lst acc)) (hz : acc.length < 100000) (g : G p = none) (h : EvD K te σ G d) (e : Ex G H)
    (k : ∀ v G1 H1, Gro G H G1 H1 → G1 p = none → H1 p = some (.lst acc) → Dp K G1 v d → E.nx σ (upd H1 p (.lst (acc ++ [v])))) : tDrop (tBM K "list" rAppend (tVar i) (tCons te tNil)) E σ H :=
  ⟨.ref p, hs, .inl ⟨rfl, acc, .inl (.inl hp)⟩, h G H (Ex.refl _) e _ fun v G1 H1 a hv => ⟨p, acc, v, rfl, rfl, a.h _ _ hp, Nat.lt_of_lt_of_le hz (by rw [sizeLine_eq]; decide), k v G1 H1 a (a.none (by rw [hp]; simp) g) (a.h _ _ hp) hv⟩⟩
/-- x.extend([..]) -/
theorem s_extend {i : Nat} {acc : List V} {ds : List D} (hs : σ[i]? = some (some (.ref p))) (hp : H p = some (.lst acc)) (hz : acc.length + ds.length ≤ 100000) (g : G p = none) (h : EvDs K tas σ G ds) (e : Ex G H)
    (k : ∀ vs q G1 H1, Gro G H G1 H1 → G1 p = none → H1 p = some (.lst acc) → DpAll K G1 vs ds → H1 q = none → E.nx σ (upd (upd H1 q (.lst vs)) p (.lst (acc ++ vs)))) : tDrop (tBM K "list" rExtend (tVar i) (tCons (tLst tas) tNil)) E σ H :=
  ⟨.ref p, hs, .inl ⟨rfl, acc, .inl (.inl hp)⟩, h G H (Ex.refl _) e _ fun vs G1 H1 a hv => ⟨by rw [hv.length]; exact sz_of (by omega), fun q hq => by
    have hp1 := a.h _ _ hp
    have ne : p ≠ q := fun z => by rw [z, hq] at hp1; cases hp1
    exact ⟨p, q, acc, vs, rfl, rfl, by rw [upd_ne ne]; exact hp1, upd_same, by rw [hv.length]; exact sz_of (by omega), k vs q G1 H1 a (a.none (by rw [hp]; simp) g) hp1 hv hq⟩⟩⟩
/-- s.join(xs) -/
theorem d_join {a : Str} {ys : List Str} (h1 : EvD K to σ G (.str a)) (h2 : EvD K te σ G (.list (ys.map PyData.str))) (hz : (ys.map (·.length)).sum + ys.length * a.length ≤ 16777216) :
    EvD K (tM1 (fun x xs H Q => ∃ a p, ∃ ys : List Str, x = .str a ∧ xs = [.ref p] ∧ (SqL K H p (ys.map V.str) ∨ SqT K H p (ys.map V.str)) ∧ (ys.map (·.length)).sum + ys.length * a.length ≤ 16777216 ∧ Q (.str (Txt.join a ys)) H) to te) σ G (.str (Txt.join a ys)) :=
  fun G1 H1 e f Q q => h1 G1 H1 e f _ fun v G2 H2 g2 hv => ⟨⟨a, dp_str hv⟩, h2 G2 H2 (e.trans g2.g) g2.gh _ fun w G3 H3 g3 hw => by
    obtain ⟨p, xs, rfl, k1, k2⟩ := dp_lst hw
    have hx := strs_of k2
    subst hx
    exact ⟨a, p, ys, dp_str hv, rfl, .inl (ex_l g3.gh k1), hz, q _ G3 H3 (g2.trans g3) (.str _)⟩⟩
theorem strOk_of (s : String) : PyData.strOk (Str.ofString s) = true := by
  rw [Str.ofString_eq_toList]
  show (s.toList.map Char.toNat).toArray.all _ = true
  rw [List.all_toArray, List.all_map, List.all_eq_true]
  intro c _
  show decide (c.val.toNat < 0x110000) = true
  have := c.valid
  rcases this with h | h
  · exact decide_eq_true (by omega)
  · exact decide_eq_true h.2
theorem strOk_app (a b : Str) : PyData.strOk (a ++ b) = (PyData.strOk a && PyData.strOk b) := by
  unfold PyData.strOk
  rw [Str.cps_append, Array.all_append]
theorem shaped_strs {ys : List Str} (h : ∀ y ∈ ys, PyData.strOk y = true) : SeqAt.shaped (.list (ys.map PyData.str)) = true := by
  have h1 : ∀ ys : List Str, (∀ y ∈ ys, PyData.strOk y = true) → PyData.canLayAll0 (ys.map PyData.str) = true := by
    intro ys
    induction ys with
    | nil => intro _; rfl
    | cons y ys ih =>
      intro h
      show (PyData.strOk y && PyData.canLayAll0 (ys.map PyData.str)) = true
      rw [h y (by simp), ih fun z hz => h z (by simp [hz])]
      rfl
  have h2 : ∀ ys : List Str, PyData.depthAll (ys.map PyData.str) = 0 := by
    intro ys
    induction ys with
    | nil => rfl
    | cons y ys ih =>
      show max 0 (PyData.depthAll (ys.map PyData.str)) = 0
      rw [ih]
      rfl
  show (PyData.canLayAll0 (ys.map PyData.str) && decide (PyData.depthAll (ys.map PyData.str) + 1 ≤ 64)) = true
  rw [h1 ys h, h2]
  rfl
theorem strOk_join {sep : Str} (hs : PyData.strOk sep = true) : ∀ ys : List Str, (∀ y ∈ ys, PyData.strOk y = true) → PyData.strOk (Str.join sep ys) = true
  | [], _ => by show (#[] : Array Nat).all _ = true; simp
  | [x], h => h x (by simp)
  | x :: y :: r, h => by
    show PyData.strOk (x ++ sep ++ Str.join sep (y :: r)) = true
    rw [strOk_app, strOk_app, hs, h x (by simp), strOk_join hs (y :: r) fun z hz => h z (List.mem_cons_of_mem _ hz)]
    rfl
theorem eqv_nil (ds : List D) : PyData.eqv (.list ds) (.list []) = ds.isEmpty := by cases ds <;> rfl
/-- list(range(n)) -/
theorem d_listRg {n : Nat} (h : EvD K te σ G (.int n)) (hn : n ≤ 100000) : EvD K (tLstRg (tRg1 te)) σ G (.list ((List.range n).map fun i : Nat => PyData.int (i : Int))) := fun G1 H1 e f Q q => h G1 H1 e f _ fun v G2 H2 a hv => by
  refine ⟨n, dp_int hv, RgOk.of_le (by decide) (by omega) (by decide) (by omega), fun p hp => q _ (upd G2 p (.lst (rgV 0 n))) _ (a.trans (.new a.gh hp)) (dp_frozen ?_ (gnone a.gh hp))⟩
  have : ∀ l : List Nat, DpAll K G2 (l.map fun i : Nat => V.int (0 + (i : Int))) (l.map fun i : Nat => PyData.int (i : Int)) := fun l => by
    induction l with
    | nil => exact .nil
    | cons x l ih => exact .cons (by show Dp K G2 (.int (0 + (x : Int))) (.int (x : Int)); rw [Int.zero_add]; exact .int _) ih
  have h2 := this (List.range n)
  unfold rgV
  rwa [show ((n : Int) - 0).toNat = n by omega]
theorem cut_map (ns : List Int) (lo hi : Option Int) : Sy.cutD (ns.map PyData.int) lo hi = ((ns.drop (HT.sIx ns.length 0 lo)).take (HT.sIx ns.length ns.length hi - HT.sIx ns.length 0 lo)).map PyData.int := by
  unfold Sy.cutD
  rw [List.length_map, List.map_take, List.map_drop]
end
end Sy
end
section
set_option Elab.async false
set_option linter.all false
set_option maxRecDepth 100000
set_option maxHeartbeats 2000000
/-! what draws from a pot: a list of three ints at p, kept outside the still part -/
namespace Sy
open PySem PySem.Spec PyProof.Rows L2 Evl RZ
/-- from (G, H) to (G2, H2): what was stays, but for the pot at p -/
structure GroP (p : Addr) (G H G2 H2 : Hp) : Prop where
  g : Ex G G2
  h : ∀ b o, b ≠ p → H b = some o → H2 b = some o
  gh : Ex G2 H2
  old : ∀ b, H b ≠ Option.none → G2 b = G b
def PotOk (N : Nat) (H : Hp) (p : Addr) : Prop := ∃ a b c : Int, H p = some (.lst [.int a, .int b, .int c]) ∧ 0 ≤ a ∧ a < 2 ^ 1000 ∧ 0 ≤ b ∧ b < 2 ^ 61 ∧ 0 ≤ c ∧ c ≤ N
def big60 : Nat := 2 ^ 60
section
variable {K : PySem.W.Frag} {G H G' H' G1 H1 G2 H2 : Hp} {σ : L2.St} {te ta tb to : TE} {tas : TA} {x y z d : D} {E : Ends} {tu tw : TS} {p : Addr} {k k1 k2 N : Nat} {P P1 P2 : D → Prop} {Ps : List D → Prop}
theorem PotOk.ne (h : PotOk N H p) : H p ≠ Option.none := by obtain ⟨a, b, c, e, _⟩ := h; rw [e]; simp
theorem PotOk.ex (h : PotOk N H p) (e : Ex H H') : PotOk N H' p := by obtain ⟨a, b, c, q, r⟩ := h; exact ⟨a, b, c, e _ _ q, r⟩
theorem PotOk.mono {M : Nat} (h : PotOk N H p) (e : N ≤ M) : PotOk M H p := by obtain ⟨a, b, c, q, h1, h2, h3, h4, h5, h6⟩ := h; exact ⟨a, b, c, q, h1, h2, h3, h4, h5, by omega⟩
theorem Gro.pt (a : Gro G H G2 H2) : GroP p G H G2 H2 := ⟨a.g, fun b o _ hb => a.h b o hb, a.gh, a.old⟩
theorem GroP.refl (e : Ex G H) : GroP p G H G H := (Gro.refl e).pt
theorem GroP.trans (a : GroP p G H G1 H1) (b : GroP p G1 H1 G2 H2) (hp : H1 p ≠ Option.none) : GroP p G H G2 H2 := ⟨a.g.trans b.g, fun c o n hc => b.h c o n (a.h c o n hc), b.gh, fun c hc => by
  by_cases n : c = p
  · subst n
    exact (b.old c hp).trans (a.old c hc)
  · have : H1 c ≠ Option.none := by
      cases e : H c with
      | none => exact absurd e hc
      | some o => rw [a.h c o n e]; simp
    exact (b.old c this).trans (a.old c hc)⟩
theorem GroP.none (a : GroP p G H G2 H2) (h : H p ≠ Option.none) (g : G p = Option.none) : G2 p = Option.none := (a.old p h).trans g
/-- outside the pot nothing changed: from a state without the pot -/
theorem GroP.gro (a : GroP p G H G2 H2) {G0 H0 : Hp} (h : Gro G0 H0 G H) (hp : H0 p = Option.none) (hk : H p ≠ Option.none) : Gro G0 H0 G2 H2 :=
  ⟨h.g.trans a.g, fun b o hb => a.h b o (fun z => by rw [z, hp] at hb; cases hb) (h.h b o hb), a.gh, fun b hb => by
    have : H b ≠ Option.none := by
      cases e : H0 b with
      | none => exact absurd e hb
      | some o => rw [h.h b o e]; simp
    exact (a.old b this).trans (h.old b hb)⟩
theorem GroP.none2 {q : Addr} (a : GroP p G H G2 H2) (h : H q ≠ Option.none) (g : G q = Option.none) : G2 q = Option.none := (a.old q h).trans g
theorem GroP.mut {q : Addr} {o : HO} (a : GroP p G H G' H') (h : H q = Option.none) (g : G' q = Option.none) : GroP p G H G' (upd H' q o) :=
  ⟨a.g, fun b u n hb => by rw [upd_ne (fun z => by rw [z, h] at hb; cases hb)]; exact a.h b u n hb, ex_mut a.gh g, a.old⟩
theorem GroP.freeze {q : Addr} {o : HO} (a : GroP p G H G' H') (h : H q = Option.none) (g : G' q = Option.none) (e : H' q = some o) : GroP p G H (upd G' q o) H' :=
  ⟨a.g.trans (Ex.new g), a.h, fun b u hb => by
    by_cases z : b = q
    · rw [z, upd_same] at hb
      rw [z, e]
      exact hb
    · rw [upd_ne z] at hb
      exact a.gh b u hb, fun b hb => by
    rw [upd_ne (fun z => by rw [z] at hb; exact hb h)]
    exact a.old b hb⟩
theorem PotOk.upd {q : Addr} {o : HO} (h : PotOk N H p) (n : p ≠ q) : PotOk N (upd H q o) p := by obtain ⟨a, b, c, e, r⟩ := h; exact ⟨a, b, c, by rw [upd_ne n]; exact e, r⟩
/-- te gives some d with P d, by k draws at most -/
def EvP (K : PySem.W.Frag) (p : Addr) (k : Nat) (te : TE) (σ : L2.St) (G : Hp) (P : D → Prop) : Prop := ∀ G1 H1 N, Ex G G1 → Ex G1 H1 → G1 p = Option.none → PotOk N H1 p → N + k ≤ big60 → ∀ Q : VK, (∀ d v G2 H2, P d → GroP p G1 H1 G2 H2 → PotOk (N + k) H2 p → Dp K G2 v d → Q v H2) → te σ H1 Q
def EvPs (K : PySem.W.Frag) (p : Addr) (k : Nat) (ta : TA) (σ : L2.St) (G : Hp) (P : List D → Prop) : Prop := ∀ G1 H1 N, Ex G G1 → Ex G1 H1 → G1 p = Option.none → PotOk N H1 p → N + k ≤ big60 → ∀ Q : List V → Hp → Prop, (∀ ds vs G2 H2, P ds → GroP p G1 H1 G2 H2 → PotOk (N + k) H2 p → DpAll K G2 vs ds → Q vs H2) → ta σ H1 Q
theorem p_ev (h : EvD K te σ G d) : EvP K p 0 te σ G (fun x => x = d) := fun G1 H1 N e f _ hp _ Q q => h G1 H1 e f Q fun v G2 H2 a hv => q d v G2 H2 rfl a.pt (hp.ex a.h) hv
theorem p_evs {ds : List D} (h : EvDs K tas σ G ds) : EvPs K p 0 tas σ G (fun x => x = ds) := fun G1 H1 N e f _ hp _ Q q => h G1 H1 e f Q fun v G2 H2 a hv => q ds v G2 H2 rfl a.pt (hp.ex a.h) hv
theorem p_mono (h : EvP K p k1 te σ G P1) (hk : k1 ≤ k) (i : ∀ d, P1 d → P d) : EvP K p k te σ G P := fun G1 H1 N e f g hp hN Q q => h G1 H1 N e f g hp (by omega) Q fun d v G2 H2 hd a hp' hv => q d v G2 H2 (i d hd) a (hp'.mono (by omega)) hv
theorem EvP.mono (e : Ex G G') (h : EvP K p k te σ G P) : EvP K p k te σ G' P := fun G1 H1 N a b c hp hN Q q => h G1 H1 N (e.trans a) b c hp hN Q q
theorem ps_nil : EvPs K p 0 tNil σ G (fun x => x = []) := p_evs ds_nil
theorem ps_cons {P2 : List D → Prop} (h : EvP K p k1 te σ G P1) (h2 : EvPs K p k2 tas σ G P2) : EvPs K p (k1 + k2) (tCons te tas) σ G (fun l => ∃ d ds, l = d :: ds ∧ P1 d ∧ P2 ds) := fun G1 H1 N e f g hp hN Q q =>
  h G1 H1 N e f g hp (by omega) _ fun d v G2 H2 hd a hp2 hv => h2 G2 H2 (N + k1) (e.trans a.g) a.gh (a.none hp.ne g) hp2 (by omega) _ fun ds vs G3 H3 hds b hp3 hvs => q (d :: ds) (v :: vs) G3 H3 ⟨d, ds, rfl, hd, hds⟩ (a.trans b hp2.ne) (by rw [← Nat.add_assoc]; exact hp3) (.cons (hv.ex b.g) hvs)
theorem p_op {r : R2} (ha : EvP K p k1 ta σ G P1) (hb : EvP K p k2 tb σ G P2) (hr : ∀ x y, P1 x → P2 y → ∃ z, RD K r x y z ∧ P z) : EvP K p (k1 + k2) (tOp r ta tb) σ G P := fun G1 H1 N e f g hp hN Q q =>
  ha G1 H1 N e f g hp (by omega) _ fun x v G2 H2 hx a hp2 hv => hb G2 H2 (N + k1) (e.trans a.g) a.gh (a.none hp.ne g) hp2 (by omega) _ fun y w G3 H3 hy b hp3 hw => by
    obtain ⟨z, rz, hz⟩ := hr x y hx hy
    refine rz G3 H3 v w Q b.gh (hv.ex b.g) hw fun u G4 H4 c hu => q z u G4 H4 hz ((a.trans b hp2.ne).trans c.pt hp3.ne) ((hp3.mono (by omega)).ex c.h) hu
theorem p_cb {r : List V → Hp → VK → Prop} (ha : EvPs K p k tas σ G Ps) (hr : ∀ xs, Ps xs → ∃ z, RCd K r xs z ∧ P z) : EvP K p k (tCB r tas) σ G P := fun G1 H1 N e f g hp hN Q q =>
  ha G1 H1 N e f g hp hN _ fun xs vs G2 H2 hx a hp2 hv => by
    obtain ⟨z, rz, hz⟩ := hr xs hx
    exact rz G2 H2 vs Q a.gh hv fun u G4 H4 c hu => q z u G4 H4 hz (a.trans c.pt hp2.ne) (hp2.ex c.h) hu
theorem p_lst (ha : EvPs K p k tas σ G Ps) (hl : ∀ ds, Ps ds → ds.length ≤ 100000) : EvP K p k (tLst tas) σ G (fun d => ∃ ds, d = .list ds ∧ Ps ds) := fun G1 H1 N e f g hp hN Q q =>
  ha G1 H1 N e f g hp hN _ fun ds vs G2 H2 hx a hp2 hv => ⟨by rw [hv.length]; exact sz_of (hl ds hx), fun r hr => by
    have b := Gro.new (o := .lst vs) a.gh hr
    exact q _ _ _ _ ⟨ds, rfl, hx⟩ (a.trans b.pt hp2.ne) (hp2.ex b.h) (dp_frozen hv (gnone a.gh hr))⟩
/-- a call of a def of data -/
theorem p_call {R : List D → D → Prop} {E : XK} (h : EvPs K p k tas σ G Ps) (hR : ∀ ds, Ps ds → ∃ z, R ds z ∧ P z) : EvP K p k (tCall (spR K R) [] E tas) σ G P := fun G1 H1 N e f g hp hN Q q =>
  h G1 H1 N e f g hp hN _ fun ds vs G2 H2 hx a hp2 hv => by
    obtain ⟨z, rz, hz⟩ := hR ds hx
    exact ⟨G2, ds, z, a.gh, by rw [List.append_nil]; exact hv, rz, fun v G' H' c hv' => q z v G' H' hz (a.trans c.pt hp2.ne) (hp2.ex c.h) hv'⟩
/-- the promise of a def that draws from the pot, its first argument -/
def spP (K : PySem.W.Frag) (k : Nat) (Pre : List D → Prop) (Post : List D → D → Prop) : Sp := fun vs H Q _ => ∃ (p : Addr) (us : List V) (G : Hp) (ds : List D) (N : Nat), vs = .ref p :: us ∧ Ex G H ∧ G p = Option.none ∧ DpAll K G us ds ∧ Pre ds ∧ PotOk N H p ∧ N + k ≤ big60 ∧
  ∀ d v G' H', Post ds d → GroP p G H G' H' → PotOk (N + k) H' p → Dp K G' v d → Q v H'
theorem lenP {Pre : List D → Prop} {Post : List D → D → Prop} {n : Nat} (h : ∀ ds, Pre ds → ds.length = n) : ∀ vs H Q E, spP K k Pre Post vs H Q E → vs.length = n + 1 := fun vs H Q E ⟨p, us, G, ds, N, h1, h2, h3, h4, h5, _⟩ => by rw [h1, List.length_cons, h4.length, h ds h5]
theorem p_draw {i : Nat} {Pre : List D → Prop} {Post : List D → D → Prop} {E : XK} (hs : σ[i]? = some (some (.ref p))) (h : EvPs K p k1 tas σ G Ps) (hP : ∀ ds, Ps ds → Pre ds) : EvP K p (k1 + k) (tCall (spP K k Pre Post) [] E (tCons (tVar i) tas)) σ G (fun d => ∃ ds, Ps ds ∧ Post ds d) := fun G1 H1 N e f g hp hN Q q =>
  ⟨.ref p, hs, h G1 H1 N e f g hp (by omega) _ fun ds vs G2 H2 hx a hp2 hv => ⟨p, vs, G2, ds, N + k1, by rw [List.append_nil], a.gh, a.none hp.ne g, hv, hP ds hx, hp2, by omega, fun d v G' H' hd b hp3 hv' => q d v G' H' ⟨ds, hx, hd⟩ (a.trans b hp2.ne) (by rw [← Nat.add_assoc]; exact hp3) hv'⟩⟩
/-! ### statements -/
theorem s_letP {i : Nat} (h : EvP K p k te σ G P) (e : Ex G H) (g : G p = Option.none) (hp : PotOk N H p) (hN : N + k ≤ big60) (c : ∀ d v G1 H1, P d → GroP p G H G1 H1 → PotOk (N + k) H1 p → Dp K G1 v d → E.nx (σ.set i (some v)) H1) : tAsg te (gName i) E σ H :=
  h G H N (Ex.refl G) e g hp hN _ fun d v G1 H1 hd a hp' hv => c d v G1 H1 hd a hp' hv
theorem s_retP (h : EvP K p k te σ G P) (e : Ex G H) (g : G p = Option.none) (hp : PotOk N H p) (hN : N + k ≤ big60) (c : ∀ d v G1 H1, P d → GroP p G H G1 H1 → PotOk (N + k) H1 p → Dp K G1 v d → E.rt v H1) : tRet te E σ H :=
  h G H N (Ex.refl G) e g hp hN _ fun d v G1 H1 hd a hp' hv => c d v G1 H1 hd a hp' hv
/-- x.append(e), e draws -/
theorem s_appendP {i : Nat} {q : Addr} {acc : List V} (hs : σ[i]? = some (some (.ref q))) (hq : H q = some (.lst acc)) (hz : acc.length < 100000) (gq : G q = Option.none) (h : EvP K p k te σ G P) (e : Ex G H) (g : G p = Option.none) (hp : PotOk N H p) (hN : N + k ≤ big60) (n : p ≠ q)
    (c : ∀ d v G1 H1, P d → GroP p G H G1 H1 → G1 q = Option.none → H1 q = some (.lst acc) → PotOk (N + k) H1 p → Dp K G1 v d → E.nx σ (upd H1 q (.lst (acc ++ [v])))) : tDrop (tBM K "list" rAppend (tVar i) (tCons te tNil)) E σ H :=
  ⟨.ref q, hs, .inl ⟨rfl, acc, .inl (.inl hq)⟩, h G H N (Ex.refl _) e g hp hN _ fun d v G1 H1 hd a hp' hv => ⟨q, acc, v, rfl, rfl, a.h _ _ (Ne.symm n) hq, Nat.lt_of_lt_of_le hz (by rw [sizeLine_eq]; decide), c d v G1 H1 hd a (a.none2 (by rw [hq]; simp) gq) (a.h _ _ (Ne.symm n) hq) hp' hv⟩⟩
/-! ### what is walked, by draws -/
def OverP (K : PySem.W.Frag) (p : Addr) (k : Nat) (wi : TI) (σ : L2.St) (G : Hp) (P : List D → Prop) : Prop := ∀ G1 H1 N, Ex G G1 → Ex G1 H1 → G1 p = Option.none → PotOk N H1 p → N + k ≤ big60 → ∀ R : It → Hp → Prop,
  (∀ ds J G2 H2, P ds → GroP p G1 H1 G2 H2 → PotOk (N + k) H2 p → Walk J ds.length (fun H' => Ex G2 H') (fun i H' x H'' => ∃ d, ds[i]? = some d ∧ ∀ G', Ex G2 G' → Ex G' H' → ∃ G'', Gro G' H' G'' H'' ∧ Dp K G'' x d) → R J H2) → wi σ H1 R
theorem overP_range (h : EvPs K p k tas σ G (fun l => ∃ n : Nat, l = [.int n] ∧ n ≤ 100000 ∧ P1 (.int n))) : OverP K p k (iRng1 tas) σ G (fun ds => ∃ n : Nat, P1 (.int n) ∧ ds = (List.range n).map fun i : Nat => PyData.int (i : Int)) := fun G1 H1 N e f g hp hN R q => h G1 H1 N e f g hp hN _ fun ds vs G2 H2 ⟨n, hd, hn, hP⟩ a hp2 hv => by
  subst hd
  obtain ⟨v, rfl, h1⟩ := dpa1 hv
  refine ⟨n, by rw [dp_int h1], by omega, by omega, q _ _ G2 H2 ⟨n, hP, rfl⟩ a hp2 ?_⟩
  rw [List.length_map, List.length_range]
  refine (walk_range (lo := 0) (n := n)).mono (fun _ _ => trivial) fun i H' x H'' hi e' ⟨y1, y2⟩ => ?_
  subst y1; subst y2
  exact ⟨.int i, by simp [hi], fun G' g1 g2 => ⟨G', .refl g2, by show Dp K G' (.int (0 + (i : Int))) (.int (i : Int)); rw [Int.zero_add]; exact .int _⟩⟩
theorem overP_of {wi : TI} {ds : List D} (h : OverD K wi σ G ds) : OverP K p 0 wi σ G (fun x => x = ds) := fun G1 H1 N e f g hp hN R q => h G1 H1 e f R fun J G2 H2 a W => q ds J G2 H2 rfl a.pt (hp.ex a.h) W
/-- for, what is walked is drawn -/
theorem s_forP {wi : TI} {g : TG} {P : List D → Prop} (h : OverP K p k wi σ G P) (e : Ex G H) (gp : G p = Option.none) (hp : PotOk N H p) (hN : N + k ≤ big60) (Pv : List D → Hp → Nat → L2.St → Hp → Hp → Prop) (h0 : ∀ ds G2 H2, P ds → GroP p G H G2 H2 → PotOk (N + k) H2 p → Pv ds G2 0 σ G2 H2)
    (hG : ∀ ds G2 i σ' G' H', Pv ds G2 i σ' G' H' → Ex G2 G' ∧ Ex G' H')
    (hs : ∀ ds G2 i d v σ' G' H', P ds → ds[i]? = some d → Pv ds G2 i σ' G' H' → Dp K G' v d → g v σ' H' fun σ2 H2 => tu { E with nx := fun σ3 H3 => ∃ G3, Pv ds G2 (i + 1) σ3 G3 H3, ct := fun σ3 H3 => ∃ G3, Pv ds G2 (i + 1) σ3 G3 H3, bk := E.nx } σ2 H2)
    (hy : ∀ ds G2 i σ' G' H' G'' H'', Pv ds G2 i σ' G' H' → Gro G' H' G'' H'' → Pv ds G2 i σ' G'' H'')
    (hd : ∀ ds G2 σ' G' H', P ds → Pv ds G2 ds.length σ' G' H' → E.nx σ' H') : tFor wi g tu E σ H := h G H N (Ex.refl G) e gp hp hN _ fun ds J G2 H2 hds a hp2 W =>
  for_it W (fun i σ' H' => ∃ G', Pv ds G2 i σ' G' H') ⟨G2, h0 ds G2 H2 hds a hp2⟩ (fun i σ' H' _ ⟨G', q⟩ => (hG _ _ _ _ _ _ q).1.trans (hG _ _ _ _ _ _ q).2) (fun i x σ' H' H'' hi ⟨G', q⟩ ⟨d, hd, y⟩ => by
    obtain ⟨G'', g1, g2⟩ := y G' (hG _ _ _ _ _ _ q).1 (hG _ _ _ _ _ _ q).2
    exact hs ds G2 i d x σ' G'' H'' hds hd (hy _ _ _ _ _ _ _ _ q g1) g2) fun σ' H' ⟨G', q⟩ => hd ds G2 σ' G' H' hds q
/-- a comprehension without a test, each item by ke draws -/
theorem p_lc {wi : TI} {g : TG} {vs : List Nat} {P : List D → Prop} {Pe : D → Prop} {ke M : Nat} (h : OverP K p k wi σ G P) (hM : ∀ ds, P ds → ds.length ≤ M) (hz : M ≤ 100000)
    (hs : ∀ ds, P ds → ∀ d ∈ ds, ∀ G1 v, Ex G G1 → Dp K G1 v d → ∃ σ2, (∀ H1, Ex G1 H1 → ∀ Q : L2.St → Hp → Prop, Q σ2 H1 → g v (wipe σ vs) H1 Q) ∧ wipe σ2 vs = wipe σ vs ∧ EvP K p ke te σ2 G1 Pe) :
    EvP K p (k + M * ke) (tLc wi g tYes te vs) σ G (fun d => ∃ ds es, P ds ∧ d = .list es ∧ es.length = ds.length ∧ ∀ x ∈ es, Pe x) := fun G1 H1 N e1 f1 gp hp hN Q q => h G1 H1 N e1 f1 gp hp (by omega) _ fun ds J G2 H2 hds a hp2 W Dl hD => by
  have hgD : G2 Dl = Option.none := gnone a.gh hD
  have npD : p ≠ Dl := fun z => hp2.ne (by rw [z]; exact hD)
  have hdM := hM ds hds
  have hgp2 := a.none hp.ne gp
  have kM : ∀ i, i ≤ ds.length → N + k + i * ke ≤ N + (k + M * ke) := fun i hi => by
    have : i * ke ≤ M * ke := Nat.mul_le_mul_right _ (Nat.le_trans hi hdM)
    omega
  refine lc_it W (fun i H' => ∃ G' acc es, Ex G2 G' ∧ Ex G' H' ∧ GroP p G1 H1 G' H' ∧ G' Dl = Option.none ∧ H' Dl = some (.lst acc) ∧ G' p = Option.none ∧ PotOk (N + k + i * ke) H' p ∧ DpAll K G' acc es ∧ es.length = i ∧ ∀ x ∈ es, Pe x)
    ⟨G2, [], [], Ex.refl _, ex_mut a.gh hgD, ⟨a.g, fun b o n hb => Ex.new hD b o (a.h b o n hb), ex_mut a.gh hgD, a.old⟩, hgD, upd_same, hgp2, by rw [Nat.zero_mul]; exact hp2.upd npD, .nil, rfl, fun x hx => by cases hx⟩ (fun i H' _ ⟨G', acc, es, p1, p2, _⟩ => p1.trans p2) (fun i x H' H'' hi ⟨G', acc, es, p1, p2, p3, p4, p5, p6, p7, p8, p9, p10⟩ ⟨d, hd, y⟩ => ?_) (fun H' ⟨G', acc, es, p1, p2, p3, p4, p5, p6, p7, p8, p9, p10⟩ => ?_)
  · obtain ⟨G'', g1, g2⟩ := y G' p1 p2
    obtain ⟨σ2, s1, s2, s3⟩ := hs ds hds d (List.mem_of_getElem? hd) G'' x (((e1.trans a.g).trans p1).trans g1.g) g2
    have hn : G'' Dl = Option.none := g1.none (by rw [p5]; simp) p4
    have hnp : G'' p = Option.none := g1.none p7.ne p6
    refine s1 H'' g1.gh _ ⟨s2, ?_⟩
    have stp : N + k + i * ke + ke = N + k + (i + 1) * ke := by rw [Nat.succ_mul]; omega
    refine s3 G'' H'' (N + k + i * ke) (Ex.refl _) g1.gh hnp (p7.ex g1.h) (by rw [stp]; exact Nat.le_trans (kM (i + 1) hi) hN) _ fun ev u G4 H4 hev c hp4 hu => ⟨acc, c.h Dl _ (Ne.symm npD) (g1.h Dl _ p5), by rw [p8.length, p9]; have := sz_of (n := M) hz; omega, ?_⟩
    have n4 : G4 Dl = Option.none := (c.old Dl (by rw [g1.h Dl _ p5]; simp)).trans hn
    refine ⟨G4, acc ++ [u], es ++ [ev], (p1.trans g1.g).trans c.g, ex_mut c.gh n4, ?_, n4, upd_same, c.none (p7.ex g1.h).ne hnp, by rw [← stp]; exact hp4.upd npD, ?_, by rw [List.length_append, p9]; rfl, fun z hz => ?_⟩
    · have b := (p3.trans g1.pt p7.ne).trans c (p7.ex g1.h).ne
      refine ⟨b.g, fun b' o n hb => ?_, ex_mut c.gh n4, b.old⟩
      rw [upd_ne (fun z => by
        have y := a.h b' o n hb
        rw [z, hD] at y
        cases y)]
      exact b.h b' o n hb
    · exact (p8.ex (g1.g.trans c.g)).append (.cons hu .nil)
    · rcases List.mem_append.mp hz with z1 | z1
      · exact p10 z z1
      · rw [List.mem_singleton.mp z1]
        exact hev
  · refine q (.list es) _ (upd G' Dl (.lst acc)) H' ⟨ds, es, hds, rfl, p9, p10⟩ ⟨p3.g.trans (Ex.new p4), p3.h, fun b o hb => ?_, fun b hb => ?_⟩ (p7.mono (by have := kM ds.length (Nat.le_refl _); omega)) (dp_frozen p8 p4)
    · by_cases z : b = Dl
      · rw [z, upd_same] at hb
        rw [z, p5]
        exact hb
      · rw [upd_ne z] at hb
        exact p2 b o hb
    · have nb : b ≠ Dl := fun z => by
        rw [z] at hb
        cases kk : H1 Dl with
        | none => exact hb kk
        | some o =>
          have y := a.h Dl o (Ne.symm npD) kk
          rw [hD] at y
          cases y
      rw [upd_ne nb]
      exact p3.old b hb
/-- pot[k] = e -/
theorem s_setP {i j : Nat} {k z : Int} {xs : List V} (hs : σ[i]? = some (some (.ref p))) (h : EvD K te σ G (.int z)) (e : Ex G H) (hG : G p = some (.lst xs)) (hj : ixN xs.length k = some j)
    (c : ∀ H1, Ex H H1 → H1 p = some (.lst xs) → E.nx σ (upd H1 p (.lst (xs.set j (.int z))))) : tAsg te (gSub (tVar i) (tC (.int k)) L2.rSetL) E σ H := h G H (Ex.refl G) e _ fun v G1 H1 a hv => by
  obtain rfl := dp_int hv
  have hp := a.h _ _ (e _ _ hG)
  exact ⟨.ref p, hs, p, xs, k, j, rfl, rfl, hp, hj, c H1 a.h hp⟩
def onlyP (p : Addr) (xs : List V) : Hp := upd (fun _ => Option.none) p (.lst xs)
theorem onlyP_at {xs : List V} : onlyP p xs p = some (.lst xs) := upd_same
theorem onlyP_ex {xs : List V} (h : H p = some (.lst xs)) : Ex (onlyP p xs) H := fun b o hb => by
  by_cases n : b = p
  · rw [n] at hb ⊢
    rw [onlyP_at] at hb
    rw [h, ← hb]
  · unfold onlyP at hb
    rw [upd_ne n] at hb
    cases hb
theorem onlyP_dp {ns : List Int} : Dp K (onlyP p (ns.map V.int)) (.ref p) (.list (ns.map PyData.int)) := .lst (.inl (.inl onlyP_at)) (dpa_ints ns)
theorem fmod_range {a u : Int} (h : 0 < u) : 0 ≤ a.fmod u ∧ a.fmod u < u := by
  rw [Int.fmod_eq_emod_of_nonneg _ (by omega)]
  exact ⟨Int.emod_nonneg _ (by omega), Int.emod_lt_of_pos _ h⟩
/-- what a draw takes and gives -/
def PreT (ds : List D) : Prop := ∃ u : Int, ds = [.int u] ∧ 0 < u ∧ u < 2 ^ 200
def PostT (ds : List D) (d : D) : Prop := ∃ u r : Int, ds = [.int u] ∧ d = .int r ∧ 0 ≤ r ∧ r < u
def PreO (ds : List D) : Prop := ∃ xs : List D, ds = [.list xs] ∧ 1 ≤ xs.length ∧ xs.length ≤ 100000
def PostO (ds : List D) (d : D) : Prop := ∃ xs : List D, ds = [.list xs] ∧ d ∈ xs
/-- sorted(set(..)) of a list of ints -/
theorem p_sortset {w : World} {Pn : List Int → Prop} (h : EvP K p k te σ G (fun d => ∃ ns : List Int, d = .list (ns.map PyData.int) ∧ ns.length < 64 ∧ Pn ns)) :
    EvP K p k (tCB (rSortedSet w) (tCons (tCB (rSetL K w) (tCons te tNil)) tNil)) σ G (fun d => ∃ ns ms : List Int, Pn ns ∧ d = .list (ms.map PyData.int) ∧ ms.Pairwise (· < ·) ∧ (∀ k : Int, k ∈ ms ↔ k ∈ ns) ∧ ms.length ≤ ns.length) := fun G1 H1 N e f g hp hN Q q =>
  h G1 H1 N e f g hp hN _ fun d v G2 H2 ⟨ns, hd, hl, hn⟩ a hp2 hv => by
    subst hd
    obtain ⟨l, xs, rfl, h1, h2⟩ := dp_lst hv
    have hx := ints_of h2
    subst hx
    refine ⟨l, ns, rfl, ex_l a.gh h1, by omega, fun s n hs hns => ⟨s, _, n, rfl, upd_same, by omega, fun ms r hms hmem hlen hr => ?_⟩⟩
    have hr2 : H2 r = Option.none := by
      rw [upd_ne (fun z => by rw [z, upd_same] at hr; cases hr)] at hr
      exact hr
    have b1 : GroP p G2 H2 G2 (upd H2 s (SetO w s (fun j => decide (j ∈ ns)) n)) := (Gro.refl a.gh).pt.mut hs (gnone a.gh hs)
    have hps : p ≠ s := fun z => hp2.ne (by rw [z]; exact hs)
    have hp3 := hp2.upd (o := SetO w s (fun j => decide (j ∈ ns)) n) hps
    have b2 := (Gro.new (o := .lst (ms.map V.int)) b1.gh hr).pt (p := p)
    refine q _ _ _ _ ⟨ns, ms, hn, rfl, hms, fun k => by rw [hmem k]; simp, by omega⟩ ((a.trans b1 hp2.ne).trans b2 hp3.ne) (hp3.ex (Ex.new hr)) (dp_frozen (dpa_ints ms) (gnone b1.gh hr))
/-- n items, each with Pe -/
def EvPa (K : PySem.W.Frag) (p : Addr) (k : Nat) (ta : TA) (σ : L2.St) (G : Hp) (n : Nat) (Pe : D → Prop) : Prop := EvPs K p k ta σ G (fun ds => ds.length = n ∧ ∀ d ∈ ds, Pe d)
theorem pa_nilP {Pe : D → Prop} : EvPa K p 0 tNil σ G 0 Pe := fun G1 H1 N e f g hp hN Q q => q [] [] G1 H1 ⟨rfl, fun d hd => by cases hd⟩ (.refl f) hp .nil
theorem pa_consP {Pe : D → Prop} {n : Nat} (h : EvP K p k1 te σ G Pe) (h2 : EvPa K p k2 tas σ G n Pe) : EvPa K p (k1 + k2) (tCons te tas) σ G (n + 1) Pe := fun G1 H1 N e f g hp hN Q q =>
  ps_cons h h2 G1 H1 N e f g hp hN Q fun ds vs G2 H2 ⟨d, ds', hd, h1, h2, h3⟩ => q ds vs G2 H2 (by subst hd; exact ⟨by rw [List.length_cons, h2], fun x hx => by
    rcases List.mem_cons.mp hx with z | z
    · rw [z]; exact h1
    · exact h3 x z⟩)
theorem p_is {Pe : D → Prop} (h : EvD K te σ G d) (hd : Pe d) : EvP K p 0 te σ G Pe := p_mono (p_ev h) (Nat.le_refl _) fun x hx => by rw [hx]; exact hd
theorem dpA_set {v : V} : ∀ {vs : List V} {ds : List D} {j : Nat}, DpAll K G vs ds → Dp K G v d → DpAll K G (vs.set j v) (ds.set j d)
  | _, _, _, .nil, _ => .nil
  | _, _, 0, .cons h t, k => .cons k t
  | _, _, j + 1, .cons h t, k => .cons h (dpA_set t k)
/-- x[k] = e, x a list outside the still part -/
theorem s_setD {i j : Nat} {r : Addr} {k : Int} {tk : TE} {acc : List V} (hs : σ[i]? = some (some (.ref r))) (h : EvD K te σ G d) (hk : EvD K tk σ G (.int k)) (e : Ex G H) (hr : H r = some (.lst acc)) (gr : G r = Option.none) (hj : ixN acc.length k = some j)
    (c : ∀ v G1 H1, Gro G H G1 H1 → G1 r = Option.none → H1 r = some (.lst acc) → Dp K G1 v d → E.nx σ (upd H1 r (.lst (acc.set j v)))) : tAsg te (gSub (tVar i) tk L2.rSetL) E σ H :=
  h G H (Ex.refl G) e _ fun v G1 H1 a hv => ⟨.ref r, hs, hk G1 H1 a.g a.gh _ fun u G2 H2 b hu => by
    obtain rfl := dp_int hu
    have ab := a.trans b
    exact ⟨r, acc, k, j, rfl, rfl, ab.h _ _ hr, hj, c v G2 H2 ab (ab.none (by rw [hr]; simp) gr) (ab.h _ _ hr) (hv.ex b.g)⟩⟩
/-- tuple(xs), xs a list -/
theorem d_tupof {ds : List D} (h : EvD K te σ G (.list ds)) : EvD K (tCB (fun xs H Q => ∃ p ys, xs = [.ref p] ∧ ((SqL K H p ys ∧ ∀ l, H l = none → Q (.ref l) (upd H l (.tup ys))) ∨ (SqT K H p ys ∧ Q (.ref p) H))) (tCons te tNil)) σ G (.tuple ds) := fun G1 H1 e f Q q =>
  h G1 H1 e f _ fun v G2 H2 a hv => by
    obtain ⟨r, xs, rfl, h1, h2⟩ := dp_lst hv
    exact ⟨r, xs, rfl, .inl ⟨ex_l a.gh h1, fun l hl => q _ (upd G2 l (.tup xs)) _ (a.trans (.new a.gh hl)) (.tup (.inl (.inl upd_same)) (h2.ex (Ex.new (gnone a.gh hl))))⟩⟩
theorem p_one (h : EvP K p k te σ G P) : EvPs K p k (tCons te tNil) σ G (fun l => ∃ d, l = [d] ∧ P d) := fun G1 H1 N e' f g hp hN Q q => by
  exact ps_cons h ps_nil G1 H1 N e' f g hp hN Q fun ds vs G2 H2 ⟨d, ds', h1, h2, h3⟩ => q ds vs G2 H2 ⟨d, by rw [h1, h3], h2⟩
/-- a draw below u -/
theorem p_take {i : Nat} {M : Int} {E : XK} (hs : σ[i]? = some (some (.ref p))) (h : EvP K p k te σ G (fun d => ∃ u : Int, d = .int u ∧ 0 < u ∧ u ≤ M)) (hM : M < 2 ^ 200) :
    EvP K p (k + 1) (tCall (spP K 1 PreT PostT) [] E (tCons (tVar i) (tCons te tNil))) σ G (fun d => ∃ r : Int, d = .int r ∧ 0 ≤ r ∧ r < M) :=
  p_mono (p_draw (k := 1) hs (p_one h) fun ds ⟨d, h1, u, h2, h3, h4⟩ => ⟨u, by rw [h1, h2], h3, by omega⟩) (Nat.le_refl _) fun d ⟨ds, ⟨d', h1, u, h2, h3, h4⟩, u', r, h5, h6, h7, h8⟩ => by
    subst h1; subst h2
    injection h5 with h5 _
    injection h5 with h5
    exact ⟨r, h6, h7, by omega⟩
theorem p_takeC {i : Nat} {u : Int} {E : XK} (hs : σ[i]? = some (some (.ref p))) (h : EvD K te σ G (.int u)) (h0 : 0 < u) (hM : u < 2 ^ 200) :
    EvP K p 1 (tCall (spP K 1 PreT PostT) [] E (tCons (tVar i) (tCons te tNil))) σ G (fun d => ∃ r : Int, d = .int r ∧ 0 ≤ r ∧ r < u) :=
  p_mono (p_take (k := 0) hs (p_is h ⟨u, rfl, h0, Int.le_refl _⟩) hM) (Nat.le_refl _) fun d h => h
/-- one of a list -/
theorem p_ofC {i : Nat} {xs : List D} {E : XK} (hs : σ[i]? = some (some (.ref p))) (h : EvD K te σ G (.list xs)) (h0 : 1 ≤ xs.length) (hM : xs.length ≤ 100000) :
    EvP K p 1 (tCall (spP K 1 PreO PostO) [] E (tCons (tVar i) (tCons te tNil))) σ G (fun d => d ∈ xs) :=
  p_mono (p_draw (k := 1) hs (p_one (k := 0) (p_ev h)) fun ds ⟨d, h1, h2⟩ => ⟨xs, by rw [h1, h2], h0, hM⟩) (Nat.le_refl _) fun d ⟨ds, ⟨d', h1, h2⟩, ys, h5, h6⟩ => by
    subst h1; subst h2
    injection h5 with h5 _
    injection h5 with h5
    rw [h5]
    exact h6
theorem p_ofA {i n : Nat} {Pe : D → Prop} {E : XK} (hs : σ[i]? = some (some (.ref p))) (h : EvPa K p k tas σ G n Pe) (h0 : 1 ≤ n) (hM : n ≤ 100000) :
    EvP K p (k + 1) (tCall (spP K 1 PreO PostO) [] E (tCons (tVar i) (tCons (tLst tas) tNil))) σ G Pe :=
  p_mono (p_draw (k := 1) hs (p_one (p_lst h fun ds hd => by rw [hd.1]; exact hM)) fun ds ⟨d, h1, xs, h2, h3, h4⟩ => ⟨xs, by rw [h1, h2], by omega, by omega⟩) (Nat.le_refl _) fun d ⟨ds, ⟨d', h1, xs, h2, h3, h4⟩, ys, h5, h6⟩ => by
    subst h1; subst h2
    injection h5 with h5 _
    injection h5 with h5
    rw [← h5] at h6
    exact h4 d h6
/-- int(..) of an int -/
theorem p_int (h : EvP K p k te σ G P) (hP : ∀ d, P d → ∃ n : Int, d = .int n) : EvP K p k (tCB (fun xs H Q => (∃ i, xs = [.int i] ∧ Q (.int i) H) ∨ ∃ k, xs = [.bl k] ∧ Q (.int (if k then 1 else 0)) H) (tCons te tNil)) σ G P :=
  p_cb (p_one h) fun xs ⟨d, h1, h2⟩ => by
    obtain ⟨n, rfl⟩ := hP d h2
    exact ⟨.int n, by rw [h1]; exact c_int, h2⟩
/-- range of what is drawn -/
theorem overP_rng {M : Int} {Qn : Int → Prop} (h : EvP K p k te σ G (fun d => ∃ n : Int, d = .int n ∧ 0 ≤ n ∧ n ≤ M ∧ Qn n)) (hM : M ≤ 100000) : OverP K p k (iRng1 (tCons te tNil)) σ G (fun ds => ∃ n : Nat, (n : Int) ≤ M ∧ Qn n ∧ ds = (List.range n).map fun i : Nat => PyData.int (i : Int)) := fun G1 H1 N e f g hp hN R q =>
  overP_range (P1 := fun d => ∃ n : Int, d = .int n ∧ n ≤ M ∧ Qn n) (fun G1 H1 N e f g hp hN Q q => p_one h G1 H1 N e f g hp hN Q fun ds vs G2 H2 ⟨d, h1, n, h2, h3, h4, h5⟩ => q ds vs G2 H2 ⟨n.toNat, by rw [h1, h2, Int.toNat_of_nonneg h3], by omega, n, by rw [Int.toNat_of_nonneg h3], h4, h5⟩) G1 H1 N e f g hp hN R fun ds J G2 H2 ⟨n, ⟨n', h1, h2, h3⟩, h4⟩ => q ds J G2 H2 (by
    injection h1 with h1
    subst h1
    exact ⟨n, h2, h3, h4⟩)
/-- i + .. -/
theorem p_addI {i M : Int} {lo : Int} (ha : EvD K ta σ G (.int i)) (hb : EvP K p k tb σ G (fun d => ∃ r : Int, d = .int r ∧ lo ≤ r ∧ r < M)) : EvP K p k (tOp (rI0 fun i j => .int (i + j)) ta tb) σ G (fun d => ∃ n : Int, d = .int n ∧ i + lo ≤ n ∧ n < i + M) :=
  p_mono (p_op (k1 := 0) (P := fun d => ∃ n : Int, d = .int n ∧ i + lo ≤ n ∧ n < i + M) (p_ev ha) hb fun x y hx ⟨r, hy, h1, h2⟩ => by
    subst hx; subst hy
    exact ⟨_, r_add, i + r, rfl, by omega, by omega⟩) (by omega) fun d h => h
theorem over_imp {wi : TI} {P P' : List D → Prop} (h : OverP K p k wi σ G P) (i : ∀ ds, P ds → P' ds) : OverP K p k wi σ G P' := fun G1 H1 N e f g hp hN R q => h G1 H1 N e f g hp hN R fun ds J G2 H2 hd => q ds J G2 H2 (i ds hd)
end
end Sy
end
section
set_option Elab.async false
set_option linter.all false
set_option maxRecDepth 100000
set_option maxHeartbeats 2000000
/-! lambdas that are heard, loops without a still part -/
namespace Sy
open PySem PySem.Spec PyProof.Rows L2 Evl RZ LamX
/-- the name x of the module holds the def st, its code at c -/
structure DefC (K : PySem.W.Frag) (mg : Str → Option Value) (x : Str) (st : Stmt) (c : Addr) : Prop where
  ex : ∃ (f : Addr) (oc : Value) (od : Option Addr) (kV doc pm ct : Value) (an : Option Addr) (osl : Array (Option Value)), K.lookup f = some ⟨oc, od, .func (PySem.W.fnOf x x (defArgs st) (defBody st) (defScope st) .none kV doc pm an (.ref c) ct), osl⟩ ∧ PySem.W.codeIn K (.ref c) x = true ∧
    Fun K x x st f (PySem.W.fnOf x x (defArgs st) (defBody st) (defScope st) .none kV doc pm an (.ref c) ct) ∧ mg x = some (.ref f)
section
variable {P : Program} {w : World} {K : PySem.W.Frag} {mg : Str → Option Value} {base : Heap} {CX : CXT} {k : Nat} {x : Str} {ps N : List Str} {sp : Sp} {st : Stmt} {c : Addr}
theorem DefC.d (F : DefC K mg x st c) : DefAt K mg x st := let ⟨f, oc, od, kV, doc, pm, ct, an, osl, lk, hcd, F, hm⟩ := F.ex; ⟨f, _, F, hm⟩
theorem calT_mk (F : DefC K mg x st c) (S : FnScope N ps (defScope st)) (b : BindsBy x st ps) (len : ∀ vs H Q E, sp vs H Q E → vs.length = ps.length)
    (hbody : ∀ (f : Addr) (A : Around) (outer : List Env) (s : Shared) (H : Hp) (vs : List V) (Q : VK) (E : XK), Room k (A.deeper (envOfC x (defScope st) s.heap.objs.size f (.ref c))) → A.guards = some [] → sp vs H Q E →
      ∃ t, PSs (cxOf CX0 P w K mg base N x (defScope st) f (.ref c) A outer s H E) (defBody st) t ∧ t { nx := fun _ H' => Q .non H', rt := Q } (L2.start N vs) H) : Cal P w K mg base CX0 (k + 1) x ps sp := by
  obtain ⟨f, oc, od, kV, doc, pm, ct, an, osl, lk, hcd, F, hm⟩ := F.ex
  exact ⟨f, _, ⟨len, fun A outer s H args us vs Q E hr hg e0 hb r h => LamX.run_ofS lk hcd S hr e0 hb r (len _ _ _ _ h) fun hr' => hbody f A outer s H vs Q E hr' hg h⟩, hm, F.kp, F.binds b⟩
end
/-- (None, what the lambda gives) or (the error, None); the pair of Nones is laid first -/
def TTh2 (K : PySem.W.Frag) (CS : Addr) : (XK → Hp → VK → Prop) → Hp → VK → Prop := fun tl H Q => ∀ T, H T = none → TTh K CS tl (upd H T (.tup [.non, .non])) Q
section
variable {K : PySem.W.Frag} {G H G' H' : Hp} {σ : L2.St} {te ta tb : TE} {tas : TA} {x y z d : D} {E : Ends} {tu tw : TS} {p : Addr} {T : List (Addr × Str)}
theorem sq_exN {a : Addr} {xs : List V} (e : ExtN G G') (h : SqL K G a xs) : SqL K G' a xs := by
  rcases h with (h | ⟨o, h⟩) | h
  · exact .inl (.inl (e _ _ h fun ps z => by cases z))
  · exact .inl (.inr ⟨o, e _ _ h fun ps z => by cases z⟩)
  · exact .inr h
theorem sqT_exN {a : Addr} {xs : List V} (e : ExtN G G') (h : SqT K G a xs) : SqT K G' a xs := by
  rcases h with (h | ⟨o, h⟩) | h
  · exact .inl (.inl (e _ _ h fun ps z => by cases z))
  · exact .inl (.inr ⟨o, e _ _ h fun ps z => by cases z⟩)
  · exact .inr h
mutual
theorem dp_exN (e : ExtN G G') : ∀ (d : D) (v : V), Dp K G v d → Dp K G' v d
  | .none, _, h => by cases h; exact .non
  | .bool _, _, h => by cases h; exact .bl _
  | .int _, _, h => by cases h; exact .int _
  | .str _, _, h => by cases h; exact .str _
  | .list ds, _, h => by
    cases h with
    | lst h1 h2 => exact .lst (sq_exN e h1) (dpa_exN e ds _ h2)
  | .tuple ds, _, h => by
    cases h with
    | tup h1 h2 => exact .tup (sqT_exN e h1) (dpa_exN e ds _ h2)
  | .dict _, _, h => by cases h
theorem dpa_exN (e : ExtN G G') : ∀ (ds : List D) (vs : List V), DpAll K G vs ds → DpAll K G' vs ds
  | [], _, h => by cases h; exact .nil
  | d :: ds, _, h => by
    cases h with
    | cons h t => exact .cons (dp_exN e d _ h) (dpa_exN e ds _ t)
end
/-- what is no table -/
def strip (G : Hp) : Hp := fun b => match G b with
  | some (.tbl _) => none
  | o => o
theorem strip_ext : ExtN G (strip G) := fun b o hb n => by
  unfold strip
  rw [hb]
  cases o <;> first | rfl | exact absurd rfl (n _)
theorem strip_some {b : Addr} {o : HO} (h : strip G b = some o) : G b = some o ∧ ∀ ps, o ≠ .tbl ps := by
  unfold strip at h
  split at h
  · cases h
  · rename_i n
    exact ⟨h, fun ps z => n ps (by rw [h, z])⟩
theorem strip_none {b : Addr} (h : G b = none) : strip G b = none := by
  unfold strip
  rw [h]
theorem strip_ex (e : Ex G H) (n : ExtN H H') : Ex (strip G) H' := fun b o hb => by
  obtain ⟨h1, h2⟩ := strip_some hb
  exact n b o (e b o h1) h2
/-- all but the pot and the tables stay -/
def ExtP (p : Addr) (H H' : Hp) : Prop := ∀ b o, b ≠ p → H b = some o → (∀ ps, o ≠ .tbl ps) → H' b = some o
theorem ExtP.refl : ExtP p H H := fun _ _ _ h _ => h
theorem ExtP.trans {H1 : Hp} (a : ExtP p H H1) (b : ExtP p H1 H') : ExtP p H H' := fun c o n h t => b c o n (a c o n h t) t
theorem GroP.extP (a : GroP p G H G' H') : ExtP p H H' := fun b o n h _ => a.h b o n h
theorem Gro.extP (a : Gro G H G' H') : ExtP p H H' := fun b o _ h _ => a.h b o h
theorem extN_p (a : ExtN H H') : ExtP p H H' := fun b o _ h t => a b o h t
theorem strip_exP (e : Ex G H) (g : G p = none) (n : ExtP p H H') : Ex (strip G) H' := fun b o hb => by
  obtain ⟨h1, h2⟩ := strip_some hb
  exact n b o (fun z => by rw [z, g] at h1; cases h1) (e b o h1) h2
theorem tabs_p (h : Tabs T H) (hp : H p ≠ none) (np : ∀ ps, H p ≠ some (.tbl ps)) (nc : ∀ c q, H p ≠ some (CodeO c q)) (a : ∀ b o, b ≠ p → H b = some o → H' b = some o) : Tabs T H' := fun t ht => by
  obtain ⟨ps, h1, h2, h3⟩ := h t ht
  refine ⟨ps, a _ _ (fun z => np ps (by rw [← z]; exact h1)) h1, h2, fun pos cv hc => ?_⟩
  obtain ⟨c, e1, e2⟩ := h3 pos cv hc
  exact ⟨c, e1, a _ _ (fun z => nc c t.2 (by rw [← z]; exact e2)) e2⟩
theorem tabs_gp {N : Nat} (h : Tabs T H) (hp : PotOk N H p) (a : GroP p G H G' H') : Tabs T H' := by
  obtain ⟨x, y, z, e, _⟩ := hp
  exact tabs_p h (by rw [e]; simp) (fun ps q => by rw [e] at q; cases q) (fun c q r => by rw [e] at r; cases r) a.h
theorem tabs_ex (h : Tabs T H) (a : Ex H H') : Tabs T H' := fun t ht => (h t ht).ext a
/-- for i in range(n), nothing held still -/
theorem s_rng {g : TG} {n : Nat} (hn : n ≤ 100000) (Pv : Nat → L2.St → Hp → Prop) (h0 : Pv 0 σ H) (hs : ∀ i σ' H', i < n → Pv i σ' H' → g (.int (i : Int)) σ' H' fun σ2 H2 => tu { E with nx := Pv (i + 1), ct := Pv (i + 1), bk := E.nx } σ2 H2) (hd : ∀ σ' H', Pv n σ' H' → E.nx σ' H') :
    tFor (iRng1 (tCons (tC (.int n)) tNil)) g tu E σ H :=
  ⟨n, rfl, by omega, by omega, for_it ((walk_range (lo := 0) (n := n)).mono (G' := fun _ => True) (Y' := fun i H' x H'' => H'' = H' ∧ x = .int (0 + (i : Int))) (fun _ _ => trivial) fun i H' x H'' hi _ y => y) Pv h0 (fun _ _ _ _ _ => trivial) (fun i x σ' H' H'' hi p ⟨y1, y2⟩ => by
    subst y1; subst y2
    rw [Int.zero_add]
    exact hs i σ' H'' hi p) hd⟩
/-- for x in a list, nothing else held still -/
theorem s_forL {g : TG} {ds : List D} (h : EvD K te σ G (.list ds)) (e : Ex G H) (Pv : Addr → List V → Nat → L2.St → Hp → Prop) (h0 : ∀ p xs G2 H2, Gro G H G2 H2 → SqL K G2 p xs → DpAll K G2 xs ds → Pv p xs 0 σ H2)
    (hq : ∀ p xs i σ' H', Pv p xs i σ' H' → SqL K H' p xs)
    (hs : ∀ p xs i v σ' H', xs[i]? = some v → Pv p xs i σ' H' → g v σ' H' fun σ2 H2 => tu { E with nx := Pv p xs (i + 1), ct := Pv p xs (i + 1), bk := E.nx } σ2 H2)
    (hd : ∀ p xs σ' H', Pv p xs xs.length σ' H' → E.nx σ' H') : tFor (iList K te) g tu E σ H := h G H (Ex.refl G) e _ fun v G2 H2 a hv => by
  obtain ⟨p, xs, rfl, h1, h2⟩ := dp_lst hv
  refine ⟨p, rfl, ⟨xs, ex_l a.gh h1⟩, for_it walk_list (Pv p xs) (h0 p xs G2 H2 a h1 h2) (fun i σ' H' _ q => hq p xs i σ' H' q) (fun i x σ' H' H'' hi q ⟨y1, y2⟩ => ?_) (hd p xs)⟩
  subst y1
  exact hs p xs i x σ' H'' y2 q
/-- x(lambda: ..)[0], the lambda's body raises C(x) -/
theorem x_heard {t : XK → TE} {C CS : Addr} {Q : VK} (hT : Tabs T H) (e : Ex G H) (hcls : PySem.W.exmOne K (.ref C) (.ref CS) = some true)
    (hx : ∀ G1 H1 E Q, ExtN G G1 → Ex G1 H1 → Rzd K G1 H1 E C x → t E σ H1 Q)
    (k : ∀ a v G1 H1, ExtN G G1 → Ex G1 H1 → ExtN H H1 → Tabs T H1 → Kept G1 (.ref a) C v → Dp K G1 v x → (∀ b o, H b = some o → (∀ ps, o ≠ .tbl ps) → G1 b = strip G b) → Q (.ref a) H1) : tOp (rIxT K) (tLam T (TTh2 K CS) t) (tC (.int 0)) σ H Q := by
  refine ⟨hT, fun H1 eN hT1 T0 hT0 => ?_⟩
  have e1 : Ex (strip G) H1 := strip_ex e eN
  refine hx (strip G) _ _ _ strip_ext (e1.trans (Ex.new hT0)) fun v G2 H2 d g2 hv hd => ⟨hcls, fun a ha q hq => ?_⟩
  have had : a ≠ d := fun z => by rw [z, upd_same] at ha; cases ha
  have hqd : q ≠ d := fun z => by rw [z, upd_ne (Ne.symm had), upd_same] at hq; cases hq
  have hqa : q ≠ a := fun z => by rw [z, upd_same] at hq; cases hq
  have ha2 : H2 a = none := by rw [upd_ne had] at ha; exact ha
  have hq2 : H2 q = none := by rw [upd_ne hqa, upd_ne hqd] at hq; exact hq
  have gd := gnone g2.gh hd
  have ga := gnone g2.gh ha2
  have gq := gnone g2.gh hq2
  have e5 : Ex (upd (upd (upd G2 d (.xd [("value", v)])) a (exk a (.ref C) (some d))) q (.tup [.ref a, .non])) (upd (upd (upd H2 d (.xd [("value", v)])) a (exk a (.ref C) (some d))) q (.tup [.ref a, .non])) := ex_upd2 (ex_upd2 (ex_upd2 g2.gh))
  have g5 : Ex G2 (upd (upd (upd G2 d (.xd [("value", v)])) a (exk a (.ref C) (some d))) q (.tup [.ref a, .non])) := ((Ex.new gd).trans (Ex.new (by rw [upd_ne had]; exact ga))).trans (Ex.new (by rw [upd_ne hqa, upd_ne hqd]; exact gq))
  have h5 : Ex H2 (upd (upd (upd H2 d (.xd [("value", v)])) a (exk a (.ref C) (some d))) q (.tup [.ref a, .non])) := ((Ex.new hd).trans (Ex.new ha)).trans (Ex.new hq)
  refine ⟨q, [.ref a, .non], 0, .ref a, rfl, rfl, .inl (.inl upd_same), rfl, ?_⟩
  refine k a v _ _ (fun b o hb n => g5 b o (g2.g b o (strip_ext b o hb n))) e5 (fun b o hb n => h5 b o (g2.h b o (Ex.new hT0 b o (eN b o hb n)))) (tabs_ex (tabs_ex (tabs_ex hT1 (Ex.new hT0)) g2.h) h5) ⟨a, d, rfl, ?_, ?_⟩ (hv.ex g5) fun b o hb n => ?_
  · rw [upd_ne (Ne.symm hqa), upd_same]
  · rw [upd_ne (Ne.symm hqd), upd_ne (Ne.symm had), upd_same]
  · have h1 := eN b o hb n
    have h2 := Ex.new (o := .tup [.non, .non]) hT0 b o h1
    have h3 := g2.h b o h2
    have o2 := g2.old b (by rw [h2]; simp)
    rw [upd_ne (fun z => by rw [z, hq2] at h3; cases h3), upd_ne (fun z => by rw [z, ha2] at h3; cases h3), upd_ne (fun z => by rw [z, hd] at h3; cases h3)]
    exact o2
/-! ### lists of any values -/
/-- all([.. for x in xs]), each True -/
theorem d_allV {g : TG} {vs : List Nat} {xs : List V} {i : Nat} {q : Addr} (hs0 : σ[i]? = some (some (.ref q))) (hq : SqL K G q xs) (hz : xs.length ≤ 100000)
    (hs : ∀ v ∈ xs, ∀ G1, Ex G G1 → ∃ σ2, (∀ H1, Ex G1 H1 → ∀ Q : L2.St → Hp → Prop, Q σ2 H1 → g v (wipe σ vs) H1 Q) ∧ wipe σ2 vs = wipe σ vs ∧ EvD K te σ2 G1 (.bool true)) :
    EvD K (tCB (rAll K) (tCons (tLc (iList K (tVar i)) g tYes te vs) tNil)) σ G (.bool true) := by
  have main : EvD K (tLc (iList K (tVar i)) g tYes te vs) σ G (.list ((List.replicate xs.length true).map PyData.bool)) := fun G1 H1 e1 f1 Q q' => by
    have hq1 := ex_l (e1.trans f1) hq
    refine ⟨.ref q, hs0, q, rfl, ⟨xs, hq1⟩, fun Dl hD => ?_⟩
    have hgD : G1 Dl = Option.none := gnone f1 hD
    have kq : ∀ G' H', Ex G1 G' → Ex G' H' → SqL K H' q xs := fun G' H' a b => ex_l ((e1.trans a).trans b) hq
    refine lc_it walk_list (fun i H' => ∃ G' acc, Ex G1 G' ∧ Ex G' H' ∧ Gro G1 H1 G' H' ∧ G' Dl = Option.none ∧ H' Dl = some (.lst acc) ∧ DpAll K G' acc ((List.replicate i true).map PyData.bool))
      ⟨G1, [], Ex.refl _, ex_mut f1 hgD, .drop f1 (Ex.new hD), hgD, upd_same, .nil⟩ (fun i H' _ ⟨G', acc, p1, p2, _⟩ => kq G' H' p1 p2) (fun i x H' H'' hi ⟨G', acc, p1, p2, p3, p4, p5, p6⟩ ⟨y1, y2⟩ => ?_) (fun H' ⟨G', acc, p1, p2, p3, p4, p5, p6⟩ => ?_)
    · subst y1
      obtain ⟨σ2, s1, s2, s3⟩ := hs x (List.mem_of_getElem? y2) G' (e1.trans p1)
      refine s1 H'' p2 _ ⟨s2, ?_⟩
      refine s3 G' H'' (Ex.refl _) p2 _ fun u G4 H4 c hu => ⟨acc, c.h Dl _ p5, by rw [p6.length, List.length_map, List.length_replicate]; have := sz_of hz; omega, ?_⟩
      have n4 : G4 Dl = Option.none := c.none (by rw [p5]; simp) p4
      refine ⟨G4, acc ++ [u], p1.trans c.g, ex_mut c.gh n4, (p3.trans c).mut hD n4, n4, upd_same, ?_⟩
      rw [List.replicate_succ', List.map_append]
      exact (p6.ex c.g).append (.cons hu .nil)
    · exact q' _ (upd G' Dl (.lst acc)) H' (p3.freeze hD p4 p5) (dp_frozen p6 p4)
  have := d_cb (ds_cons main ds_nil) (c_all (K := K) (bs := List.replicate xs.length true))
  rwa [show (List.replicate xs.length true).all id = true by simp] at this
/-- e.value -/
theorem d_val {i : Nat} {v w : V} {C : Addr} (hs : σ[i]? = some (some v)) (hk : Kept G v C w) (X1 : XfC K C) (X2 : PySem.W.findIn K (.ref C) "value" = some Option.none) (hd : Dp K G w d) : EvD K (tVal K (tVar i)) σ G d := fun G1 H1 e f Q q => by
  obtain ⟨a, b, rfl, h1, h2⟩ := hk
  exact ⟨_, hs, C, w, ⟨a, b, rfl, f _ _ (e _ _ h1), f _ _ (e _ _ h2)⟩, X1, X2, q w G1 H1 (.refl f) (hd.ex e)⟩
/-- isinstance(e, C) -/
theorem d_isC {i : Nat} {v w : V} {C : Addr} (hs : σ[i]? = some (some v)) (hk : Kept G v C w) (X1 : ExcC K C) : EvD K (tCB (rIsx K) (tCons (tVar i) (tCons (tC (.ref C)) tNil))) σ G (.bool true) := fun G1 H1 e f Q q => by
  obtain ⟨a, b, rfl, h1, h2⟩ := hk
  exact ⟨_, hs, .ref a, .ref C, .ref C, .ref C, true, rfl, .own C, .inr ⟨C, w, rfl, ⟨a, b, rfl, f _ _ (e _ _ h1), f _ _ (e _ _ h2)⟩, X1⟩, if_pos (beq_self_eq_true _), q _ G1 H1 (.refl f) (.bl true)⟩
theorem Kept.ex {v w : V} {C : Addr} (h : Kept G v C w) (e : Ex G G') : Kept G' v C w := by
  obtain ⟨a, b, h1, h2, h3⟩ := h
  exact ⟨a, b, h1, e _ _ h2, e _ _ h3⟩
theorem Kept.exN {v w : V} {C : Addr} (h : Kept G v C w) (e : ExtN G G') : Kept G' v C w := by
  obtain ⟨a, b, h1, h2, h3⟩ := h
  exact ⟨a, b, h1, e _ _ h2 fun ps z => (by unfold exk at z; cases z), e _ _ h3 fun ps z => by cases z⟩
theorem textFrom_le : ∀ (ts : List Str) (k : Nat) (acc : Str), (textFrom k acc ts).length ≤ acc.length + piled ts
  | [], k, acc => Nat.le_add_right _ _
  | t :: r, k, acc => by
    have h := textFrom_le r (k + 1) (acc ++ (if k > 0 then ", " else "" : String) ++ t)
    have e : (acc ++ (if k > 0 then ", " else "" : String) ++ t).length ≤ acc.length + 2 + t.length := by
      rw [Str.length_append, Str.length_append]
      have : ((if k > 0 then ", " else "" : String) : Str).length ≤ 2 := by split <;> decide
      omega
    show (textFrom (k + 1) _ r).length ≤ _
    rw [piled_cons]
    omega
theorem piled_sum (ts : List Str) : (ts.map (·.length)).sum + ts.length * 2 = piled ts := by
  induction ts with
  | nil => rfl
  | cons t ts ih =>
    rw [piled_cons]
    simp only [List.map_cons, List.sum_cons, List.length_cons, Nat.add_mul]
    omega
mutual
def lenB : D → Nat
  | .none => 4
  | .bool _ => 5
  | .int i => i.natAbs.log2 + 2
  | .str x => 10 * x.length + 2
  | .list xs => lenBs xs + 2
  | .tuple xs => lenBs xs + 3
  | .dict _ => 0
def lenBs : List D → Nat
  | [] => 0
  | x :: xs => lenB x + 2 + lenBs xs
end
mutual
theorem shown_le : ∀ d : D, PyData.canLay0 d = true → d.shown.length ≤ lenB d
  | .none, _ => by decide
  | .bool b, _ => by cases b <;> decide
  | .int i, _ => by
    show (Str.ofString (toString i)).length ≤ i.natAbs.log2 + 2
    rw [PySem.ofString_length]
    exact int_text_length_le (k := i.natAbs.log2 + 1) (by omega) (by omega)
  | .str x, h => StrLaws.reprText_len x fun c hc => by
    have h' : x.cps.all (fun c => decide (c < 0x110000)) = true := h
    rw [← Array.all_toList, List.all_eq_true] at h'
    have := of_decide_eq_true (h' c hc)
    omega
  | .list xs, h => by
    have k := shown_les xs h
    show (textFrom 0 "[" (PyData.shownAll xs) ++ "]").length ≤ lenBs xs + 2
    have t := textFrom_le (PyData.shownAll xs) 0 "["
    rw [Str.length_append]
    have c1 : ("[" : Str).length = 1 := rfl
    have c2 : ("]" : Str).length = 1 := rfl
    omega
  | .tuple xs, h => by
    have k := shown_les xs h
    show (("(" : Str) ++ Str.join ", " (PyData.shownAll xs) ++ (if (PyData.shownAll xs).length == 1 then ",)" else ")" : String)).length ≤ lenBs xs + 3
    have j := StrLaws.join_length_le (", " : Str) (PyData.shownAll xs)
    have c1 : ("(" : Str).length = 1 := rfl
    have c3 : (", " : Str).length = 2 := rfl
    have c2 : ((if (PyData.shownAll xs).length == 1 then ",)" else ")" : String) : Str).length ≤ 2 := by split <;> decide
    rw [c3, piled_sum] at j
    rw [Str.length_append, Str.length_append]
    omega
  | .dict _, h => by cases h
theorem shown_les : ∀ xs : List D, PyData.canLayAll0 xs = true → piled (PyData.shownAll xs) ≤ lenBs xs
  | [], _ => Nat.le_refl _
  | x :: xs, h => by
    have h' : (PyData.canLay0 x && PyData.canLayAll0 xs) = true := h
    rw [Bool.and_eq_true] at h'
    have h1 := shown_le x h'.1
    have h2 := shown_les xs h'.2
    show piled (x.shown :: PyData.shownAll xs) ≤ lenB x + 2 + lenBs xs
    rw [piled_cons]
    omega
end
def reprB (d : D) : Bool := SeqAt.shaped d && d.showable && decide (lenB d ≤ 100000)
theorem reprB_ok (h : reprB d = true) : ReprOk d := by
  unfold reprB at h
  simp only [Bool.and_eq_true, decide_eq_true_eq] at h
  exact ⟨h.1.1, h.1.2, Nat.le_trans (shown_le d (SeqAt.canLay_of_shaped h.1.1)) (sz_of h.2)⟩
end
/-- from H to Hc: all stays but the pot and the tables -/
structure Stays (T : List (Addr × Str)) (p : Addr) (N : Nat) (H Hc : Hp) : Prop where
  e : ExtP p H Hc
  t : Tabs T Hc
  k : PotOk N Hc p
section
variable {T : List (Addr × Str)} {p r : Addr} {N k : Nat} {H Hc H' G G' : Hp} {xs ys : List V}
theorem Stays.ex (a : Stays T p N H Hc) (e : Ex Hc H') : Stays T p N H H' := ⟨a.e.trans fun b o _ h _ => e b o h, tabs_ex a.t e, a.k.ex e⟩
theorem Stays.gro (a : Stays T p N H Hc) (g : Gro G Hc G' H') : Stays T p N H H' := a.ex g.h
theorem Stays.groP (a : Stays T p N H Hc) (g : GroP p G Hc G' H') (h : PotOk (N + k) H' p) : Stays T p (N + k) H H' := ⟨a.e.trans g.extP, tabs_gp a.t a.k g, h⟩
theorem Stays.extN (a : Stays T p N H Hc) (n : ExtN Hc H') (t : Tabs T H') : Stays T p N H H' := ⟨a.e.trans (extN_p n), t, by
  obtain ⟨x, y, z, e, h⟩ := a.k
  exact ⟨x, y, z, n _ _ e (fun ps q => by cases q), h⟩⟩
theorem Stays.fresh (a : Stays T p N H Hc) (n : p ≠ r) (h : Hc r = Option.none) : ∀ o, H r = some o → (∀ ps, o ≠ .tbl ps) → False := fun o hb t => by
  have := a.e r o (Ne.symm n) hb t
  rw [h] at this
  cases this
theorem Stays.mut (a : Stays T p N H Hc) (h : ∀ o, H r = some o → (∀ ps, o ≠ .tbl ps) → False) (hr : Hc r = some (.lst xs)) (n : p ≠ r) : Stays T p N H (upd Hc r (.lst ys)) :=
  ⟨fun b o nb hb t => by rw [upd_ne (fun z => by rw [z] at hb; exact h o hb t)]; exact a.e b o nb hb t, tabs_p (p := r) a.t (by rw [hr]; simp) (fun ps q => by rw [hr] at q; cases q) (fun c q z => by rw [hr] at z; cases z) fun b o nb hb => by rw [upd_ne nb]; exact hb, a.k.upd n⟩
end
/-- for the inner parts of comprehensions -/
theorem call_isxK {X : Cx} {K : PySem.W.Frag} (h : X.K = K) : CallR X (.builtin "isinstance") (rIsx K) := h ▸ call_isx
theorem call_reprK {X : Cx} {K : PySem.W.Frag} {k : Nat} (h : X.K = K) (hr : Room k X.A) (hg : X.A.guards = some []) : CallR X (.builtin "repr") (rRepr K) := h ▸ call_repr hr hg
theorem pe_valueK {X : Cx} {K : PySem.W.Frag} {e : Expr} {te : TE} {pos : Pos} (h : X.K = K) (he : PE X e te) (hb : attributeBase e "value" X.env (eval e X.env) = eval e X.env := by rfl) : PE X (.Attribute e "value" pos) (tVal K te) := h ▸ pe_value he hb
theorem pe_cls {X : Cx} {x : Str} {pos : Pos} {C : Addr} (hm : X.mg x = some (.ref C)) (hg : Gl X x := by rfl) (hd : (x == ("__debug__" : Str)) = false := by decide) : PE X (.Name x pos) (tC (.ref C)) := pe_glob hg hm rfl hd
end Sy
end
section
set_option Elab.async false
set_option linter.all false
set_option maxRecDepth 100000
set_option maxHeartbeats 2000000
/-! the end of a law whose defs ask that no repr be under way -/
namespace Sy
open PySem PySem.Spec PyProof.Rows L2 Evl RZ LamX
section
variable {P : Program} {w : World} {K : PySem.W.Frag} {mg mb : Str → Option Value} {k : Nat} {nm x : Str} {sp : Sp} {s₁ : Shared} {a fa : Addr} {cs : List (Addr × Addr)} {vs : List Value} {ns : List Int}
/-- what may be tracked at the start: the script, the tables -/
structure Begun (K : PySem.W.Frag) (cs : List (Addr × Addr)) (a : Addr) (vs : List Value) (ns : List Int) (H : Hp) : Prop where
  tb : ∀ p ∈ cs, H p.2 = some (.tbl #[])
  sc : SqL K H a (ns.map V.int)
  kn : H a ≠ none → K.lookup a = none
  only : ∀ b u, H b = some u → (b ∈ cs.map (·.2) ∧ u = .tbl #[]) ∨ (b = a ∧ u = .frz { cls := .type "list", data := .seq vs.toArray } (.lst (ns.map V.int)))
theorem begun (KX : K.In s₁.heap) (ha : s₁.heap.get? a = some { cls := .type "list", data := .seq vs.toArray }) (hi : IntsAre vs ns) (hl : ns.length ≤ sizeLine) (aT : a ∉ cs.map (·.2)) : ∃ H : Hp, Begun K cs a vs ns H := by
  have T0 : ∀ H : Hp, (∀ b, b ∈ cs.map (·.2) → H b = some (.tbl #[])) → ∀ p ∈ cs, H p.2 = some (.tbl #[]) := fun H h p hp => h _ (List.mem_map.mpr ⟨p, hp, rfl⟩)
  cases hk : K.lookup a with
  | some o =>
    have e := KX a o hk
    rw [ha] at e
    cases e
    have na : (if a ∈ cs.map (·.2) then some (HO.tbl #[]) else none) = none := if_neg aT
    refine ⟨fun b => if b ∈ cs.map (·.2) then some (.tbl #[]) else none, T0 _ fun b hb => if_pos hb, .inr ⟨_, vs.toArray, _, hk, rfl, rfl, rfl, by rw [List.size_toArray, hi.length]; exact hl, by simpa using vals_ints hi⟩, fun z => absurd na z, fun b u z => ?_⟩
    by_cases hb : b ∈ cs.map (·.2)
    · exact .inl ⟨hb, Option.some.inj (z.symm.trans (if_pos hb))⟩
    · exact nomatch (if_neg hb).symm.trans z
  | none =>
    refine ⟨fun b => if b = a then some (.frz { cls := .type "list", data := .seq vs.toArray } (.lst (ns.map V.int))) else if b ∈ cs.map (·.2) then some (.tbl #[]) else none, T0 _ fun b hb => (if_neg (show ¬ b = a from fun z => aT (by rw [← z]; exact hb))).trans (if_pos hb), .inl (.inr ⟨_, if_pos rfl⟩), fun _ => hk, fun b u z => ?_⟩
    by_cases hb : b = a
    · exact .inr ⟨hb, Option.some.inj (z.symm.trans (if_pos hb))⟩
    · have z1 := (if_neg hb).symm.trans z
      by_cases hb2 : b ∈ cs.map (·.2)
      · exact .inl ⟨hb2, Option.some.inj (z1.symm.trans (if_pos hb2))⟩
      · exact nomatch (if_neg hb2).symm.trans z1
theorem law_callG (KX : K.In s₁.heap) (hns : s₁.heap.Ns mainGlobals mg) (hb : s₁.heap.Ns builtinsNs mb) (hbb : ∀ x : Str, x ≠ "__name__" → mb x = bootBuiltins x) (hlim : s₁.heap.NoLimit) (hg : s₁.gens = #[])
    (hT : ∀ p ∈ cs, s₁.heap.get? p.2 = some { cls := .none, data := .fields #[] }) (nT : ∀ p ∈ cs, K.lookup p.2 = none) (C : ∀ p ∈ cs, PySem.W.CodeHd s₁.heap p.1 p.2)
    (hbm : ∃ (bm : Addr) (ob : Obj), mg "__builtins__" = some (.ref bm) ∧ bm ≠ builtinsNs ∧ s₁.heap.get? bm = some ob ∧ ob.cls = .type "module" ∧ ob.dict = some builtinsNs ∧ ob.data = .plain)
    (ha : s₁.heap.get? a = some { cls := .type "list", data := .seq vs.toArray }) (hi : IntsAre vs ns) (hl : ns.length ≤ sizeLine) (hr : Room k callerA) (hfa : mg nm = some (.ref fa))
    (F : ∀ base : Heap, K.In base → base.Ns mainGlobals mg → (∀ p ∈ cs, TabB base mg p.1 p.2) → Cal P w K mg base CX0 k nm [x] sp)
    (hsp : ∀ H : Hp, (∀ p ∈ cs, H p.2 = some (.tbl #[])) → SqL K H a (ns.map V.int) → sp [.ref a] H (fun v _ => v = .bl true) fun _ _ _ => False) :
    codeAny (model P w) callerA (.call (.ref fa) ⟨[.ref a], []⟩) (fun r s' => r = .ok (.ret (.bool true)) ∧ OldK s₁.heap s'.heap ∧ s'.os = s₁.os ∧ AllBare s'.gens) s₁ := by
  have tabAt : ∀ b, b ∈ cs.map (·.2) → s₁.heap.get? b = some { cls := .none, data := .fields #[] } := fun b hb => by
    obtain ⟨p, hp, e⟩ := List.mem_map.mp hb
    exact e ▸ hT p hp
  have aT : a ∉ cs.map (·.2) := fun z => by
    have q := (tabAt a z).symm.trans ha
    exact nomatch congrArg Obj.data (Option.some.inj q)
  obtain ⟨H, B⟩ := begun KX ha hi hl aT
  -- what carries other data is not tracked
  have free : ∀ {b : Addr} {o : Obj}, s₁.heap.get? b = some o → (∀ ws n, o.data ≠ .seq ws n) → o.data ≠ .fields #[] → H b = none := fun {b o} e h1 h2 => by
    cases q : H b with
    | none => rfl
    | some u =>
      rcases B.only b u q with ⟨hm, _⟩ | ⟨rfl, _⟩
      · rw [tabAt b hm] at e
        cases e
        exact absurd rfl h2
      · rw [ha] at e
        cases e
        exact absurd rfl (h1 _ _)
  have hb' : ∀ {b : Addr} {o : Obj}, s₁.heap.get? b = some o → H b = none → (hidT s₁.heap H).get? b = some o := fun e n => hidT_get e n
  have keepNs : ∀ {b : Addr} {m : Str → Option Value}, s₁.heap.Ns b m → (hidT s₁.heap H).Ns b m := fun {b m} ⟨o, es, ep, e, d, r⟩ =>
    ⟨o, es, ep, hb' e (free e (fun ws n z => nomatch d.symm.trans z) fun z => nomatch d.symm.trans z), d, r⟩
  have KH : K.In (hidT s₁.heap H) := fun b o e => hb' (KX b o e) (by
    cases q : H b with
    | none => rfl
    | some u =>
      rcases B.only b u q with ⟨hm, _⟩ | ⟨rfl, _⟩
      · obtain ⟨p, hp, ep⟩ := List.mem_map.mp hm
        rw [← ep, nT p hp] at e
        cases e
      · rw [B.kn (by rw [q]; simp)] at e
        cases e)
  have ok : HOk P w H s₁.heap := fun b u e => by
    rcases B.only b u e with ⟨hm, rfl⟩ | ⟨rfl, rfl⟩
    · exact tabAt b hm
    · exact ⟨ha, by rw [List.length_map]; exact hl, vs, _, vals_ints hi, ha⟩
  have md : L2.Mod K mg (hidT s₁.heap H) := ⟨KH, keepNs hns, ⟨mb, keepNs hb, hbb⟩, let ⟨mc, h1, h2⟩ := hlim; ⟨mc, keepNs h1, h2⟩⟩
  have TB : ∀ p ∈ cs, TabB (hidT s₁.heap H) mg p.1 p.2 := fun p hp => by
    have hTp := hT p hp
    have noT : ∀ {b : Addr} {o : Obj}, s₁.heap.get? b = some o → o.data ≠ .fields #[] → b ≠ p.2 := fun e h z => by
      rw [z, hTp] at e
      cases e
      exact h rfl
    refine ⟨?_, ?_, ?_⟩
    · obtain ⟨o, us, file, tf, flags, tg, inF, text, tt, e1, r1, r2, r3, rest⟩ := C p hp
      refine ⟨o, us, file, tf, flags, tg, inF, text, tt, hb' e1 (free e1 (fun ws n z => nomatch r2.symm.trans z) fun z => ?_), r1, r2, r3, rest⟩
      have e2 := r2.symm.trans z
      injection e2 with e2
      rw [e2] at r3
      simp at r3
    · obtain ⟨bm, ob, b1, b2, b3, b4, b5, b6⟩ := hbm
      refine ⟨bm, ob, b1, b2, fun q => ?_, noT b3 (fun z => nomatch b6.symm.trans z), hb' b3 (free b3 (fun ws n z => nomatch b6.symm.trans z) fun z => nomatch b6.symm.trans z), b4, b5, b6⟩
      obtain ⟨o, es, ep, e, hd, _⟩ := hns
      rw [q, e] at b3
      cases b3
      exact nomatch hd.symm.trans b6
    · obtain ⟨o, es, ep, e, hd, _⟩ := hns
      exact noT e fun z => nomatch hd.symm.trans z
  have e0 : Env0 P w K mg (hidT s₁.heap H) callerA [] s₁ H := ⟨rfl, md, fun b o e => of_hidT e, Nat.le_of_eq (hidT_size _ _), trivial, fun b hb => absurd (show b ∈ ([] : List Addr) from hb) (by simp), ok, .of_eq hg⟩
  obtain ⟨f, fd, Fn, hm, _, hbi⟩ := (F _ KH (keepNs hns) TB).ex
  have ef : f = fa := by
    have z := hm.symm.trans hfa
    injection z with z
    injection z
  subst ef
  have bind : BindsTo s₁ fd ⟨[.ref a], []⟩ ([x].zip [.ref a]) := hbi s₁ [.ref a] KX rfl
  refine codeAny_mono (Fn.run callerA [] s₁ H ⟨[.ref a], []⟩ [.ref a] [.ref a] (fun v _ => v = .bl true) (fun _ _ _ => False) hr rfl e0 bind (.cons rfl .nil) (hsp H B.tb B.sc)) fun r s' h => ?_
  match r, h with
  | .ok (.ret u), ⟨v, H', os, bare, un, ok', r', q⟩ =>
    have q' : v = .bl true := q
    subst q'
    obtain rfl : u = Value.bool true := r'
    have same : ∀ b o, b ∉ cs.map (·.2) → s₁.heap.get? b = some o → s'.heap.get? b = some o := fun b o nb e => by
      cases q : H b with
      | none => exact un.keep b o e q (fun z => nomatch (show b ∈ ([] : List Addr) from z)) (by simp)
      | some u =>
        rcases B.only b u q with ⟨hm, _⟩ | ⟨rfl, rfl⟩
        · exact absurd hm nb
        · obtain ⟨e2, _⟩ := ok' b _ (un.frzs b _ _ q)
          rw [ha] at e
          cases e
          exact e2
    have grown : ∀ p ∈ cs, ∃ more : Array Value, s'.heap.get? p.2 = some { cls := .none, data := .fields more } := fun p hp => by
      obtain ⟨more, z⟩ := un.tbls p.2 #[] (B.tb p hp)
      exact ⟨_, ok' p.2 _ z⟩
    refine ⟨rfl, ⟨fun b o e => ?_, fun b o e => ?_⟩, os, bare⟩
    · by_cases hb : b ∈ cs.map (·.2)
      · obtain ⟨p, hp, ep⟩ := List.mem_map.mp hb
        obtain ⟨more, hm⟩ := grown p hp
        rw [← ep] at e ⊢
        rw [hT p hp] at e
        cases e
        exact .inr (.inl ⟨((C p hp).tab (hT p hp)).isCodeTable, rfl, #[], more, rfl, by rw [Array.empty_append]; exact hm⟩)
      · exact .inl (same b o hb e)
    · by_cases hb : b ∈ cs.map (·.2)
      · obtain ⟨p, hp, ep⟩ := List.mem_map.mp hb
        obtain ⟨more, hm⟩ := grown p hp
        exact ⟨_, ep ▸ hm⟩
      · exact ⟨o, same b o hb e⟩
end
/-- what is known of the law's def at the head's heap h -/
def LawG (l : PySem.W.OpenLaw) (w : World) (K : PySem.W.Frag) (k n : Nat) (nm x : Str) (mg : Str → Option Value) (h : Heap) : Prop :=
  ∃ (cs : List (Addr × Addr)) (sp : Sp), (∀ p ∈ cs, h.get? p.2 = some { cls := .none, data := .fields #[] }) ∧ (∀ p ∈ cs, K.lookup p.2 = none) ∧ (∀ p ∈ cs, PySem.W.CodeHd h p.1 p.2) ∧
    (∀ (H : Hp) (a : Addr) (ns : List Int), ns.length ≤ n → (∀ z ∈ ns, Builtin.Int.intBits z ≤ 1048576) → (∀ p ∈ cs, H p.2 = some (.tbl #[])) → SqL K H a (ns.map V.int) → sp [.ref a] H (fun v _ => v = .bl true) fun _ _ _ => False) ∧
    ∀ base : Heap, K.In base → base.Ns mainGlobals mg → (∀ p ∈ cs, TabB base mg p.1 p.2) → Cal l.prog w K mg base CX0 k nm [x] sp
theorem walk_ofG {l : PySem.W.OpenLaw} {n k : Nat} {q : Program} {loose : List Str} {XP : (Str → Option Value) → Heap → Prop} {YP : World → Heap → Prop} {d : DefRec} {K : Params → PySem.W.Frag} {x : Str}
    (hn : l.most = some n) (hn2 : n ≤ sizeLine) (hdf : d.params.defaults = []) (hr : Room k callerA) (hY : ∀ (w : World) (h : Heap), YP w h → (K w.params).In h)
    (F : ∀ (w : World) (s₀ : Shared) (mg mb : Str → Option Value) (h : Heap), (K w.params).In h → PySem.W.Ground q loose [] XP w s₀ mg mb h → LawG l w (K w.params) k n d.name x mg h) :
    PySem.W.WalkO q loose XP YP l.row.toRowW d [] (fun f vs => PySem.call f vs) := by
  refine Att.attach_callB hn hdf fun w s₀ s₁ mg mb fa o pm cd doc a vs ns G Y ho hd hcd hmg hobj hints hlen hbits hg => ?_
  have KX := hY w _ Y
  obtain ⟨cs, sp, hT, nT, C, hsp, hF⟩ := F w s₀ mg mb _ KX G
  exact law_callG KX G.T.g G.T.b G.T.builtins G.T.nolimit hg hT nT C G.T.bmain hobj hints (Nat.le_trans hlen hn2) hr hmg hF fun H hH hS => hsp H a ns hlen hbits hH hS
/-! ### what the top has written -/
section
variable {P : Program} {K : PySem.W.Frag} {mg : Str → Option Value} {h : Heap} {x : Str} {st : Stmt}
theorem def_mk {f : Addr} {oc kV doc pm cdv ct : Value} {od an : Option Addr} {osl : Array (Option Value)} (KX : K.In h) (G : h.Ns mainGlobals mg) (a : PySem.W.nsIn K mainGlobals x = some (some (.ref f)))
    (l : K.lookup f = some ⟨oc, od, .func (PySem.W.fnOf x x (defArgs st) (defBody st) (defScope st) .none kV doc pm an cdv ct), osl⟩) (c : PySem.W.codeIn K cdv x = true) (k : PySem.W.keepIn K (.ref f) = true) : DefAt K mg x st := ⟨f, _, fun_mk l c k, PySem.W.mg_of KX G a⟩
theorem defC_mk {f cc : Addr} {oc kV doc pm ct : Value} {od an : Option Addr} {osl : Array (Option Value)} (KX : K.In h) (G : h.Ns mainGlobals mg) (a : PySem.W.nsIn K mainGlobals x = some (some (.ref f)))
    (l : K.lookup f = some ⟨oc, od, .func (PySem.W.fnOf x x (defArgs st) (defBody st) (defScope st) .none kV doc pm an (.ref cc) ct), osl⟩) (c : PySem.W.codeIn K (.ref cc) x = true) (k : PySem.W.keepIn K (.ref f) = true) : DefC K mg x st cc := ⟨f, oc, od, kV, doc, pm, ct, an, osl, l, c, fun_mk l c k, PySem.W.mg_of KX G a⟩
theorem sayK_mk {D C fI cda cc : Addr} {nm q N bs bm sn sub ab col dd k0 k1 k2 k3 k5} {oc kV doc pm ct occ ccl : Value} {od an cdd ofcd : Option Addr} {osl ccs csl : Array (Option Value)} {vs : Array Value} {fl : Str} {tf : Tok} (KX : K.In h) (G : h.Ns mainGlobals mg)
    (aD : PySem.W.nsIn K mainGlobals "SayingError" = some (some (.ref D))) (aC : PySem.W.nsIn K mainGlobals x = some (some (.ref C)))
    (xL : K.lookup C = some (excClassObj nm q C N bs bm true sn sub ab col dd k0 k1 k2 k3 k5 "ValueError.__new__")) (hbm : PySem.HandSPX.refsVE bm = true)
    (sa : PySem.W.findIn K (.ref C) "__setattr__" = some (some (.builtin "object.__setattr__"))) (exC : PySem.W.subIn K (.ref C) (.type "BaseException") = some true) (tyC : PySem.W.typeIn K (.ref C) = some (.type "type")) (kC : PySem.W.keepIn K (.ref C) = true)
    (su : PySem.W.mroIn K C (.ref D) = some true) (sup : PySem.W.ks_superIn K C D "__init__" = some (some (.builtin "ValueError.__init__"))) (val : PySem.W.findIn K (.ref C) "value" = some none) (ve : PySem.W.subIn K (.ref C) (.type "ValueError") = some true)
    (aI : PySem.W.findIn K (.ref C) "__init__" = some (some (.ref fI))) (tI : PySem.W.typeIn K (.ref fI) = some (.type "function"))
    (lI : K.lookup fI = some ⟨oc, od, .func (PySem.W.ksFn "__init__" iQual iArgs [iOne, iTwo] iScope .none kV doc pm an (.ref cda) ct cc), osl⟩) (cI : PySem.W.codeIn K (.ref cda) iQual = true)
    (lc : K.lookup cda = some ⟨occ, cdd, .fields vs, ccs⟩) (hv : vs[2]? = some (.str fl tf)) (hf : ((P.main.file : Str) == fl) = true) (top : (P.main.scope.names.lookup ("super" : Str)).isSome = false)
    (lcc : K.lookup cc = some ⟨ccl, ofcd, .cell (some (.ref D)), csl⟩) (hD : (PySem.W.clsIn K D).isSome = true) (zs : PySem.W.nsIn K mainGlobals "super" = some none) (zt : PySem.W.nsIn K PySem.cStatics "thirdparty.any" = some none)
    (ga : PySem.W.findIn K (.ref C) "__getattribute__" = some (some (.builtin "BaseException.__getattribute__"))) (gg : PySem.W.findIn K (.ref C) "__getattr__" = some none) (hd : PySem.W.hasDictIn K C = true)
    (ha : PySem.W.findIn K (.ref C) "__class__" = some (some (.builtin "object.__class__"))) (hn : PySem.W.specialIn K (.builtin "object.__class__") "__get__" = some (some (.builtin "getset_descriptor.__get__"))) (ht : PySem.W.takesIn K (.builtin "object.__class__") = some true) (hm : PySem.W.mroIn K C (.type "object") = some true)
    (e1 : PySem.W.subIn K (.ref D) (.type "BaseException") = some true) (e2 : PySem.W.hasDictIn K D = true) (e3 : PySem.W.typeIn K (.ref D) = some (.type "type")) (e4 : PySem.W.subIn K (.ref C) (.ref D) = some true) : mg "SayingError" = some (.ref D) ∧ SayK P K mg D C x :=
  ⟨PySem.W.mg_of KX G aD, ⟨⟨⟨_, _, _, _, _, _, _, _, _, _, _, _, _, _, _, xL, hbm⟩, sa, exC, tyC, kC⟩, su, sup, val, ve⟩, ⟨fI, cc, cda, _, ⟨⟨oc, kV, doc, pm, ct, an, od, osl, rfl, lI⟩, cI, ⟨occ, cdd, vs, ccs, fl, tf, lc, hv, hf⟩, top, ⟨ccl, ofcd, csl, lcc⟩, hD, PySem.W.mg_none_of KX G zs, zt⟩, aI, tI⟩,
    PySem.W.mg_of KX G aC, ⟨ga, gg, exC, hd⟩, ⟨ga, gg, exC, hd, ha, hn, ht, hm⟩, val, PySem.W.exm_ref e1 e2 e3 e4⟩
/-- the table of a def's code -/
theorem tab_at {f cc Pt : Addr} {oc cc0 : Value} {od cd0 : Option Addr} {osl sl0 : Array (Option Value)} {fd : FuncData} {us : Array Value} (a : PySem.W.nsIn K mainGlobals x = some (some (.ref f))) (l : K.lookup f = some ⟨oc, od, .func fd, osl⟩) (hc : fd.code = .ref cc)
    (lc : K.lookup cc = some ⟨cc0, cd0, .fields us, sl0⟩) (hv : us[11]? = some (.ref Pt)) : PySem.W.tabIn K x = some (cc, Pt) := by
  unfold PySem.W.tabIn
  rw [a]
  simp only [l]
  rw [hc]
  simp only [lc]
  rw [hv]
end
end Sy
end
section
set_option Elab.async false
set_option linter.all false
set_option maxRecDepth 100000
set_option maxHeartbeats 2000000
namespace K61
open PySem PySem.Spec PyProof.Rows L2 Evl Sy
def topS (i : Nat) : Stmt := PySem.Challenge.pw_everylotofworlds_k61_whole_sums_by_hand.main.body.getD i (.Pass ⟨0, 0, 0, 0⟩)
abbrev s_common_divisor : Stmt := topS 5
abbrev N_common_divisor : List Str := ["one", "other", "first", "last"]
theorem S_common_divisor : FnScope N_common_divisor ["one", "other"] (defScope s_common_divisor) := ⟨rfl, rfl, rfl, by decide +kernel, rfl, by decide +kernel, by decide +kernel⟩
theorem b_common_divisor : BindsBy "common_divisor" s_common_divisor ["one", "other"] := fun _ _ _ _ _ _ us hl => match us, hl with
  | [_, _], _ => rfl
abbrev s_fraction : Stmt := topS 6
abbrev N_fraction : List Str := ["number", "divisor", "same", "sign"]
theorem S_fraction : FnScope N_fraction ["number", "divisor"] (defScope s_fraction) := ⟨rfl, rfl, rfl, by decide +kernel, rfl, by decide +kernel, by decide +kernel⟩
theorem b_fraction : BindsBy "fraction" s_fraction ["number", "divisor"] := fun _ _ _ _ _ _ us hl => match us, hl with
  | [_, _], _ => rfl
abbrev s_added : Stmt := topS 7
abbrev N_added : List Str := ["one", "other"]
theorem S_added : FnScope N_added ["one", "other"] (defScope s_added) := ⟨rfl, rfl, rfl, by decide +kernel, rfl, by decide +kernel, by decide +kernel⟩
theorem b_added : BindsBy "added" s_added ["one", "other"] := fun _ _ _ _ _ _ us hl => match us, hl with
  | [_, _], _ => rfl
abbrev s_multiplied : Stmt := topS 8
abbrev N_multiplied : List Str := ["one", "other"]
theorem S_multiplied : FnScope N_multiplied ["one", "other"] (defScope s_multiplied) := ⟨rfl, rfl, rfl, by decide +kernel, rfl, by decide +kernel, by decide +kernel⟩
theorem b_multiplied : BindsBy "multiplied" s_multiplied ["one", "other"] := fun _ _ _ _ _ _ us hl => match us, hl with
  | [_, _], _ => rfl
abbrev s_is_number : Stmt := topS 14
abbrev N_is_number : List Str := ["value"]
theorem S_is_number : FnScope N_is_number ["value"] (defScope s_is_number) := ⟨rfl, rfl, rfl, by decide +kernel, rfl, by decide +kernel, by decide +kernel⟩
theorem b_is_number : BindsBy "is_number" s_is_number ["value"] := fun _ _ _ _ _ _ us hl => match us, hl with
  | [_], _ => rfl
abbrev s_is_fraction : Stmt := topS 15
abbrev N_is_fraction : List Str := ["value", "one"]
theorem S_is_fraction : FnScope N_is_fraction ["value"] (defScope s_is_fraction) := ⟨rfl, rfl, rfl, by decide +kernel, rfl, by decide +kernel, by decide +kernel⟩
theorem b_is_fraction : BindsBy "is_fraction" s_is_fraction ["value"] := fun _ _ _ _ _ _ us hl => match us, hl with
  | [_], _ => rfl
abbrev s_is_sum_row : Stmt := topS 16
abbrev N_is_sum_row : List Str := ["value", "some", "one"]
theorem S_is_sum_row : FnScope N_is_sum_row ["value"] (defScope s_is_sum_row) := ⟨rfl, rfl, rfl, by decide +kernel, rfl, by decide +kernel, by decide +kernel⟩
theorem b_is_sum_row : BindsBy "is_sum_row" s_is_sum_row ["value"] := fun _ _ _ _ _ _ us hl => match us, hl with
  | [_], _ => rfl
abbrev s_check_sum : Stmt := topS 17
abbrev N_check_sum : List Str := ["value", "row", "one", "other"]
theorem S_check_sum : FnScope N_check_sum ["value"] (defScope s_check_sum) := ⟨rfl, rfl, rfl, by decide +kernel, rfl, by decide +kernel, by decide +kernel⟩
theorem b_check_sum : BindsBy "check_sum" s_check_sum ["value"] := fun _ _ _ _ _ _ us hl => match us, hl with
  | [_], _ => rfl
abbrev s_sum_at : Stmt := topS 18
abbrev N_sum_at : List Str := ["told", "many", "total", "base", "some", "part", "turn", "one"]
theorem S_sum_at : FnScope N_sum_at ["told", "many"] (defScope s_sum_at) := ⟨rfl, rfl, rfl, by decide +kernel, rfl, by decide +kernel, by decide +kernel⟩
theorem b_sum_at : BindsBy "sum_at" s_sum_at ["told", "many"] := fun _ _ _ _ _ _ us hl => match us, hl with
  | [_, _], _ => rfl
abbrev s_power_of : Stmt := topS 19
abbrev N_power_of : List Str := ["base", "many", "found", "square"]
theorem S_power_of : FnScope N_power_of ["base", "many"] (defScope s_power_of) := ⟨rfl, rfl, rfl, by decide +kernel, rfl, by decide +kernel, by decide +kernel⟩
theorem b_power_of : BindsBy "power_of" s_power_of ["base", "many"] := fun _ _ _ _ _ _ us hl => match us, hl with
  | [_, _], _ => rfl
abbrev s_number_text : Stmt := topS 20
abbrev N_number_text : List Str := ["one", "many", "found"]
theorem S_number_text : FnScope N_number_text ["one", "many"] (defScope s_number_text) := ⟨rfl, rfl, rfl, by decide +kernel, rfl, by decide +kernel, by decide +kernel⟩
theorem b_number_text : BindsBy "number_text" s_number_text ["one", "many"] := fun _ _ _ _ _ _ us hl => match us, hl with
  | [_, _], _ => rfl
abbrev s_sum_text : Stmt := topS 21
abbrev N_sum_text : List Str := ["told", "rows", "base", "some", "parts", "inner", "many", "one"]
theorem S_sum_text : FnScope N_sum_text ["told"] (defScope s_sum_text) := ⟨rfl, rfl, rfl, by decide +kernel, rfl, by decide +kernel, by decide +kernel⟩
theorem b_sum_text : BindsBy "sum_text" s_sum_text ["told"] := fun _ _ _ _ _ _ us hl => match us, hl with
  | [_], _ => rfl
abbrev s__law_pot : Stmt := topS 23
abbrev N__law_pot : List Str := ["script", "place", "cell", "own", "small"]
theorem S__law_pot : FnScope N__law_pot ["script", "place"] (defScope s__law_pot) := ⟨rfl, rfl, rfl, by decide +kernel, rfl, by decide +kernel, by decide +kernel⟩
theorem b__law_pot : BindsBy "_law_pot" s__law_pot ["script", "place"] := fun _ _ _ _ _ _ us hl => match us, hl with
  | [_, _], _ => rfl
abbrev s__law_take : Stmt := topS 24
abbrev N__law_take : List Str := ["pot", "upto", "digit", "prime", "mixture"]
theorem S__law_take : FnScope N__law_take ["pot", "upto"] (defScope s__law_take) := ⟨rfl, rfl, rfl, by decide +kernel, rfl, by decide +kernel, by decide +kernel⟩
theorem b__law_take : BindsBy "_law_take" s__law_take ["pot", "upto"] := fun _ _ _ _ _ _ us hl => match us, hl with
  | [_, _], _ => rfl
abbrev s__law_of : Stmt := topS 25
abbrev N__law_of : List Str := ["pot", "some"]
theorem S__law_of : FnScope N__law_of ["pot", "some"] (defScope s__law_of) := ⟨rfl, rfl, rfl, by decide +kernel, rfl, by decide +kernel, by decide +kernel⟩
theorem b__law_of : BindsBy "_law_of" s__law_of ["pot", "some"] := fun _ _ _ _ _ _ us hl => match us, hl with
  | [_, _], _ => rfl
abbrev s__law_cells : Stmt := topS 26
abbrev N__law_cells : List Str := ["script", "most"]
theorem S__law_cells : FnScope N__law_cells ["script", "most"] (defScope s__law_cells) := ⟨rfl, rfl, rfl, by decide +kernel, rfl, by decide +kernel, by decide +kernel⟩
theorem b__law_cells : BindsBy "_law_cells" s__law_cells ["script", "most"] := fun _ _ _ _ _ _ us hl => match us, hl with
  | [_, _], _ => rfl
abbrev s__law_heard : Stmt := topS 27
abbrev N__law_heard : List Str := ["call", "caught", "gave", "error"]
theorem S__law_heard : FnScope N__law_heard ["call"] (defScope s__law_heard) := ⟨rfl, rfl, rfl, by decide +kernel, rfl, by decide +kernel, by decide +kernel⟩
theorem b__law_heard : BindsBy "_law_heard" s__law_heard ["call"] := fun _ _ _ _ _ _ us hl => match us, hl with
  | [_], _ => rfl
abbrev s__law_divisor : Stmt := topS 28
abbrev N__law_divisor : List Str := ["one", "other", "first", "last"]
theorem S__law_divisor : FnScope N__law_divisor ["one", "other"] (defScope s__law_divisor) := ⟨rfl, rfl, rfl, by decide +kernel, rfl, by decide +kernel, by decide +kernel⟩
theorem b__law_divisor : BindsBy "_law_divisor" s__law_divisor ["one", "other"] := fun _ _ _ _ _ _ us hl => match us, hl with
  | [_, _], _ => rfl
abbrev s__law_fraction : Stmt := topS 29
abbrev N__law_fraction : List Str := ["number", "divisor", "same"]
theorem S__law_fraction : FnScope N__law_fraction ["number", "divisor"] (defScope s__law_fraction) := ⟨rfl, rfl, rfl, by decide +kernel, rfl, by decide +kernel, by decide +kernel⟩
theorem b__law_fraction : BindsBy "_law_fraction" s__law_fraction ["number", "divisor"] := fun _ _ _ _ _ _ us hl => match us, hl with
  | [_, _], _ => rfl
abbrev s__law_sum : Stmt := topS 30
abbrev N__law_sum : List Str := ["pot", "bases", "rows", "base", "some", "lap", "number"]
theorem S__law_sum : FnScope N__law_sum ["pot"] (defScope s__law_sum) := ⟨rfl, rfl, rfl, by decide +kernel, rfl, by decide +kernel, by decide +kernel⟩
theorem b__law_sum : BindsBy "_law_sum" s__law_sum ["pot"] := fun _ _ _ _ _ _ us hl => match us, hl with
  | [_], _ => rfl
abbrev s__law_value : Stmt := topS 31
abbrev N__law_value : List Str := ["rows", "many", "number", "divisor", "base", "some", "turn", "lap", "one"]
theorem S__law_value : FnScope N__law_value ["rows", "many"] (defScope s__law_value) := ⟨rfl, rfl, rfl, by decide +kernel, rfl, by decide +kernel, by decide +kernel⟩
theorem b__law_value : BindsBy "_law_value" s__law_value ["rows", "many"] := fun _ _ _ _ _ _ us hl => match us, hl with
  | [_, _], _ => rfl
abbrev s__law_part : Stmt := topS 32
abbrev N__law_part : List Str := ["one", "many", "found"]
theorem S__law_part : FnScope N__law_part ["one", "many"] (defScope s__law_part) := ⟨rfl, rfl, rfl, by decide +kernel, rfl, by decide +kernel, by decide +kernel⟩
theorem b__law_part : BindsBy "_law_part" s__law_part ["one", "many"] := fun _ _ _ _ _ _ us hl => match us, hl with
  | [_, _], _ => rfl
abbrev s__law_text : Stmt := topS 33
abbrev N__law_text : List Str := ["rows", "found", "base", "some", "parts", "whole", "many", "one"]
theorem S__law_text : FnScope N__law_text ["rows"] (defScope s__law_text) := ⟨rfl, rfl, rfl, by decide +kernel, rfl, by decide +kernel, by decide +kernel⟩
theorem b__law_text : BindsBy "_law_text" s__law_text ["rows"] := fun _ _ _ _ _ _ us hl => match us, hl with
  | [_], _ => rfl
abbrev s__law_is_sum_right : Stmt := topS 34
abbrev N__law_is_sum_right : List Str := ["pot", "rows", "lap", "many"]
theorem S__law_is_sum_right : FnScope N__law_is_sum_right ["pot", "rows"] (defScope s__law_is_sum_right) := ⟨rfl, rfl, rfl, by decide +kernel, rfl, by decide +kernel, by decide +kernel⟩
theorem b__law_is_sum_right : BindsBy "_law_is_sum_right" s__law_is_sum_right ["pot", "rows"] := fun _ _ _ _ _ _ us hl => match us, hl with
  | [_, _], _ => rfl
abbrev s__law_are_odd_refused : Stmt := topS 35
abbrev N__law_are_odd_refused : List Str := ["pot", "one", "odds", "lap", "odd", "caught", "bad", "fine", "error"]
theorem S__law_are_odd_refused : FnScope N__law_are_odd_refused ["pot"] (defScope s__law_are_odd_refused) := ⟨rfl, rfl, rfl, by decide +kernel, rfl, by decide +kernel, by decide +kernel⟩
theorem b__law_are_odd_refused : BindsBy "_law_are_odd_refused" s__law_are_odd_refused ["pot"] := fun _ _ _ _ _ _ us hl => match us, hl with
  | [_], _ => rfl
abbrev s__law_right : Stmt := topS 36
abbrev N__law_right : List Str := ["pot", "lap"]
theorem S__law_right : FnScope N__law_right ["pot"] (defScope s__law_right) := ⟨rfl, rfl, rfl, by decide +kernel, rfl, by decide +kernel, by decide +kernel⟩
theorem b__law_right : BindsBy "_law_right" s__law_right ["pot"] := fun _ _ _ _ _ _ us hl => match us, hl with
  | [_], _ => rfl
abbrev s_law : Stmt := topS 37
abbrev N_law : List Str := ["script", "place", "pot"]
theorem S_law : FnScope N_law ["script"] (defScope s_law) := ⟨rfl, rfl, rfl, by decide +kernel, rfl, by decide +kernel, by decide +kernel⟩
theorem b_law : BindsBy "law" s_law ["script"] := fun _ _ _ _ _ _ us hl => match us, hl with
  | [_], _ => rfl
/-- the built-in names, the constants -/
structure Bi (mg : Str → Option Value) : Prop where
  m_abs : mg "abs" = none
  m_len : mg "len" = none
  m_all : mg "all" = none
  m_sum : mg "sum" = none
  m_max : mg "max" = none
  m_min : mg "min" = none
  m_sorted : mg "sorted" = none
  m_repr : mg "repr" = none
  m_isinstance : mg "isinstance" = none
  m_int : mg "int" = none
  m_str : mg "str" = none
  m_tuple : mg "tuple" = none
  m_list : mg "list" = none
  m_set : mg "set" = none
  m_range : mg "range" = none
  m_enumerate : mg "enumerate" = none
  m_zip : mg "zip" = none
  m_bool : mg "bool" = none
  c_MOST_BASE : ∃ t, mg "MOST_BASE" = some (.int 64 t)
  c_MOST_FRACTIONS : ∃ t, mg "MOST_FRACTIONS" = some (.int 60 t)
  c_MOST_MANY : ∃ t, mg "MOST_MANY" = some (.int 1000 t)
  c_BEYOND : ∃ t, mg "BEYOND" = some (.int (10 ^ 200) t)
end K61
end
section
set_option Elab.async false
set_option linter.all false
/-! k61: the mathematics, no program in sight -/
namespace K61
open PySem
open scoped Rat
abbrev D := PyData
/-- a fraction as data -/
def frQ (q : Rat) : D := .tuple [.int q.num, .int (q.den : Int)]
theorem abs_if (a : Int) : (if a < 0 then -a else a) = (a.natAbs : Int) := by split <;> omega
theorem fmod_nat (x y : Nat) : (x : Int).fmod (y : Int) = ((x % y : Nat) : Int) := by
  rw [Int.fmod_eq_emod_of_nonneg _ (by omega)]
  rfl
theorem frac_num {n d : Int} (hd : 0 < d) : n / ((Int.gcd n d : Nat) : Int) = (n /. d).num := by
  rw [Rat.num_divInt, Int.sign_eq_one_of_pos hd, Int.one_mul, Int.gcd_comm]
theorem frac_den {n d : Int} (hd : 0 < d) : d / ((Int.gcd n d : Nat) : Int) = ((n /. d).den : Int) := by
  rw [Rat.den_divInt, if_neg (by omega), Int.gcd_comm, Int.natCast_ediv, Int.natAbs_of_nonneg (by omega)]
theorem gcd_pos {n d : Int} (hd : 0 < d) : 0 < Int.gcd n d := Int.gcd_pos_of_ne_zero_right _ (by omega)
theorem gcd_le {n d : Int} (hd : 0 < d) : Int.gcd n d ≤ d.natAbs := Nat.le_of_dvd (by omega) (Nat.gcd_dvd_right _ _)
theorem add_q (p q : Rat) : (p.num * (q.den : Int) + q.num * (p.den : Int)) /. ((p.den : Int) * (q.den : Int)) = p + q := by
  have h := Rat.divInt_add_divInt p.num q.num (d₁ := (p.den : Int)) (d₂ := (q.den : Int)) (by have := p.den_pos; omega) (by have := q.den_pos; omega)
  rw [Rat.num_divInt_den, Rat.num_divInt_den] at h
  exact h.symm
theorem mul_q (p q : Rat) : (p.num * q.num) /. ((p.den : Int) * (q.den : Int)) = p * q := by
  have h := Rat.divInt_mul_divInt p.num q.num (d₁ := (p.den : Int)) (d₂ := (q.den : Int))
  rw [Rat.num_divInt_den, Rat.num_divInt_den] at h
  exact h.symm
/-- q is an integer up to M, by 720 -/
def Bd (M : Nat) (q : Rat) : Prop := ∃ N : Int, q = N /. 720 ∧ N.natAbs ≤ M
theorem Bd.mono {M L : Nat} {q : Rat} (h : Bd M q) (e : M ≤ L) : Bd L q := let ⟨N, a, b⟩ := h; ⟨N, a, Nat.le_trans b e⟩
theorem Bd.zero : Bd 0 0 := ⟨0, by decide, Nat.le_refl _⟩
theorem Bd.add {M L : Nat} {p q : Rat} (h : Bd M p) (k : Bd L q) : Bd (M + L) (p + q) := by
  obtain ⟨N, rfl, a⟩ := h
  obtain ⟨N', rfl, b⟩ := k
  refine ⟨N + N', ?_, by omega⟩
  rw [Rat.divInt_add_divInt _ _ (by decide) (by decide), ← Int.add_mul, Rat.divInt_mul_right (by decide)]
theorem Bd.mul {M : Nat} {q : Rat} (h : Bd M q) (t : Int) : Bd (M * t.natAbs) (q * (t : Rat)) := by
  obtain ⟨N, rfl, a⟩ := h
  refine ⟨N * t, ?_, by rw [Int.natAbs_mul]; exact Nat.mul_le_mul_right _ a⟩
  rw [show (t : Rat) = t /. 1 from (Rat.num_divInt_den (t : Rat)).symm, Rat.divInt_mul_divInt, Int.mul_one]
theorem Bd.num {M : Nat} {q : Rat} (h : Bd M q) : q.num.natAbs ≤ M := by
  obtain ⟨N, rfl, a⟩ := h
  rw [← frac_num (by decide)]
  refine Nat.le_trans ?_ a
  rw [Int.natAbs_ediv_of_dvd (Int.gcd_dvd_left _ _)]
  exact Nat.div_le_self _ _
theorem Bd.den {M : Nat} {q : Rat} (h : Bd M q) : q.den ≤ 720 := by
  obtain ⟨N, rfl, a⟩ := h
  rw [Rat.den_divInt, if_neg (by decide)]
  exact Nat.le_trans (Nat.div_le_self _ _) (by decide)

/-! ### values -/
/-- the first i fractions, each times m to its place -/
def Pl (m : Int) (cs : List Rat) : Nat → Rat
  | 0 => 0
  | i + 1 => Pl m cs i + cs.getD i 0 * ((m ^ i : Int) : Rat)
abbrev Row := Int × List Rat
/-- the first rows -/
def Vr (m : Int) (rows : List Row) : Nat → Rat
  | 0 => 0
  | r + 1 => Vr m rows r + Pl m (rows.getD r (0, [])).2 (rows.getD r (0, [])).2.length * (((rows.getD r (0, [])).1 ^ m.toNat : Int) : Rat)
/-- the same, each fraction times both powers -/
def PB (m b : Int) (cs : List Rat) : Nat → Rat
  | 0 => 0
  | i + 1 => PB m b cs i + cs.getD i 0 * ((b ^ m.toNat * m ^ i : Int) : Rat)
theorem PB_eq (m b : Int) (cs : List Rat) : ∀ i, PB m b cs i = Pl m cs i * ((b ^ m.toNat : Int) : Rat)
  | 0 => by rw [PB, Pl, Rat.zero_mul]
  | i + 1 => by
    rw [PB, Pl, PB_eq m b cs i, Rat.add_mul, Rat.mul_assoc, ← Rat.intCast_mul, Int.mul_comm (m ^ i)]
/-- a row as it is drawn -/
structure RowOk (x : Row) : Prop where
  lo : 1 ≤ x.1
  hi : x.1 ≤ 64
  one : 1 ≤ x.2.length
  most : x.2.length ≤ 60
  bd : ∀ c ∈ x.2, Bd (720 * 10 ^ 12) c
  last : ∀ c, x.2.getLast? = some c → c.num ≠ 0
structure RowsOk (rows : List Row) : Prop where
  most : rows.length ≤ 4
  row : ∀ x ∈ rows, RowOk x
  asc : rows.Pairwise fun x y => x.1 < y.1
def TP : Nat := 720 * 10 ^ 12 * 40 ^ 60
def TV : Nat := 60 * TP * 64 ^ 40
theorem pow_le {m : Int} (h0 : 0 ≤ m) (h : m ≤ 40) {i : Nat} (hi : i ≤ 60) : (m ^ i).natAbs ≤ 40 ^ 60 := by
  rw [Int.natAbs_pow]
  exact Nat.le_trans (Nat.pow_le_pow_left (by omega) i) (Nat.pow_le_pow_right (by decide) hi)
theorem bpow_le {b : Int} (h0 : 0 ≤ b) (h : b ≤ 64) {i : Nat} (hi : i ≤ 40) : (b ^ i).natAbs ≤ 64 ^ 40 := by
  rw [Int.natAbs_pow]
  exact Nat.le_trans (Nat.pow_le_pow_left (by omega) i) (Nat.pow_le_pow_right (by decide) hi)
theorem coef_bd {x : Row} (h : RowOk x) (i : Nat) : Bd (720 * 10 ^ 12) (x.2.getD i 0) := by
  rw [List.getD_eq_getElem?_getD]
  cases e : x.2[i]? with
  | none => exact Bd.zero.mono (by omega)
  | some c => exact h.bd c (List.mem_of_getElem? e)
theorem P_bd {m : Int} (h0 : 0 ≤ m) (h : m ≤ 40) {x : Row} (hx : RowOk x) : ∀ i, i ≤ 60 → Bd (i * TP) (Pl m x.2 i)
  | 0, _ => by rw [Nat.zero_mul]; exact Bd.zero
  | i + 1, hi => by
    rw [Nat.succ_mul]
    exact (P_bd h0 h hx i (by omega)).add (((coef_bd hx i).mul _).mono (Nat.mul_le_mul_left _ (pow_le h0 h (by omega))))
theorem PB_bd {m : Int} (h0 : 0 ≤ m) (h : m ≤ 40) {x : Row} (hx : RowOk x) {i : Nat} (hi : i ≤ 60) : Bd TV (PB m x.1 x.2 i) := by
  rw [PB_eq]
  refine ((P_bd h0 h hx i hi).mul _).mono ?_
  unfold TV
  exact Nat.mul_le_mul (Nat.mul_le_mul_right _ hi) (bpow_le (by have := hx.lo; omega) hx.hi (by omega))
theorem row_at {rows : List Row} (h : RowsOk rows) {r : Nat} (hr : r < rows.length) : RowOk (rows.getD r (0, [])) := by
  rw [List.getD_eq_getElem?_getD, List.getElem?_eq_getElem hr]
  exact h.row _ (List.getElem_mem hr)
theorem V_bd {m : Int} (h0 : 0 ≤ m) (h : m ≤ 40) {rows : List Row} (hx : RowsOk rows) : ∀ r, r ≤ rows.length → Bd (r * TV) (Vr m rows r)
  | 0, _ => by rw [Nat.zero_mul]; exact Bd.zero
  | r + 1, hr => by
    rw [Nat.succ_mul, Vr, ← PB_eq]
    have k := row_at hx (r := r) (by omega)
    exact (V_bd h0 h hx r (by omega)).add (PB_bd h0 h k k.most)
theorem TV_lt : 5 * TV < 2 ^ 700 := by decide +kernel
/-! ### data -/
def rowD (x : Row) : D := .tuple [.int x.1, .tuple (x.2.map frQ)]
def rowsD (rows : List Row) : D := .tuple (rows.map rowD)
end K61
end
section
set_option Elab.async false
set_option linter.all false
set_option maxRecDepth 100000
set_option maxHeartbeats 4000000
namespace K61
open PySem PySem.Spec PyProof.Rows L2 Evl Sy
open scoped Rat
def Rgcd (ds : List PyData) (z : PyData) : Prop := ∃ a b : Int, ds = [.int a, .int b] ∧ z = .int (Int.gcd a b : Nat)
/-- n by d, d from 1 on, of bounded size -/
def Rfrac (ds : List PyData) (z : PyData) : Prop := ∃ n d : Int, ds = [.int n, .int d] ∧ 0 < d ∧ n.natAbs < 2 ^ 8000 ∧ d.natAbs < 2 ^ 8000 ∧ z = frQ (n /. d)
def Rop (f : Rat → Rat → Rat) (ds : List PyData) (z : PyData) : Prop := ∃ p q : Rat, ds = [frQ p, frQ q] ∧ p.num.natAbs < 2 ^ 3000 ∧ q.num.natAbs < 2 ^ 3000 ∧ p.den < 2 ^ 3000 ∧ q.den < 2 ^ 3000 ∧ z = frQ (f p q)
def Rpow (ds : List PyData) (z : PyData) : Prop := ∃ b m : Int, ds = [.int b, .int m] ∧ 1 ≤ b ∧ b ≤ 64 ∧ 0 ≤ m ∧ m ≤ 1000 ∧ z = .int (b ^ m.toNat)
section
variable {P : Program} {w : World} {K : PySem.W.Frag} {mg : Str → Option Value} {base : Heap}
theorem two_ints {G : Hp} {vs : List V} {a b : Int} (h : DpAll K G vs [.int a, .int b]) : vs = [.int a, .int b] := by
  obtain ⟨v, w, rfl, h1, h2⟩ := dpa2 h
  rw [dp_int h1, dp_int h2]
theorem gcd_loop {a b : Int} {Q : VK} {H G : Hp} (q : ∀ v G' H', Gro G H G' H' → Dp K G' v (.int (Int.gcd a b : Nat)) → Q v H') (e : Ex G H) (E : Ends) (hE : E.rt = Q) :
    tPar 2 3 (tCons (tCB (fun xs H Q => ∃ i, xs = [.int i] ∧ Q (.int (if i < 0 then -i else i)) H) (tCons (tVar 0) tNil)) (tCons (tCB (fun xs H Q => ∃ i, xs = [.int i] ∧ Q (.int (if i < 0 then -i else i)) H) (tCons (tVar 1) tNil)) tNil))
      { E with nx := fun σ H => tWhile (tTest (tOp rNe (tVar 3) (tC (.int 0)))) (tPar 2 3 (tCons (tVar 3) (tCons (tOp (rI (fun _ j => j ≠ 0) fun i j => .int (i.fmod j)) (tVar 2) (tVar 3)) tNil))) { E with nx := fun σ H => tRet (tVar 2) E σ H } σ H }
      [some (.int a), some (.int b), none, none] H := by
  refine s_par2 (K := K) (G := G) (ds_cons (d_cb (ds_cons (d_var rfl (.int a)) ds_nil) c_abs) (ds_cons (d_cb (ds_cons (d_var rfl (.int b)) ds_nil) c_abs) ds_nil)) e fun v u G1 H1 g1 h1 h2 => ?_
  rw [dp_int h1, dp_int h2, abs_if, abs_if]
  refine s_whileD (G := G1) (fun m σ G2 H2 => ∃ x y : Nat, σ = [some (.int a), some (.int b), some (.int x), some (.int y)] ∧ y = m ∧ x.gcd y = Int.gcd a b ∧ Gro G H G2 H2) b.natAbs ⟨a.natAbs, b.natAbs, rfl, rfl, rfl, g1⟩ fun m σ G2 H2 ⟨x, y, hs, hm, hg, g2⟩ => ?_
  subst hs; subst hm
  refine ⟨g2.gh, _, t_test (K := K) (d_op (d_var rfl (.int _)) d_int r_neI), fun hb H3 g3 => ?_, fun hb H3 g3 => ?_⟩
  · have hy : y ≠ 0 := fun z => by simp [z] at hb
    refine ⟨fun σ H4 => ∃ (x' y' : Nat) (G4 : Hp), σ = [some (.int a), some (.int b), some (.int x'), some (.int y')] ∧ y' < y ∧ x'.gcd y' = Int.gcd a b ∧ Gro G H G4 H4, fun σ H4 ⟨x', y', G4, h1, h2, h3, h4⟩ => ⟨y', G4, h2, x', y', h1, rfl, h3, h4⟩, ?_⟩
    refine s_par2 (K := K) (G := G2) (ds_cons (d_var rfl (.int _)) (ds_cons (d_op (d_var rfl (.int _)) (d_var rfl (.int _)) (r_mod (by omega))) ds_nil)) g3.gh fun v u G4 H4 g4 h1 h2 => ?_
    rw [dp_int h1, dp_int h2, fmod_nat]
    exact ⟨y, x % y, G4, rfl, Nat.mod_lt _ (by omega), by rw [Nat.gcd_comm, ← Nat.gcd_rec, Nat.gcd_comm]; exact hg, (g2.trans g3).trans g4⟩
  · have hy : y = 0 := by simpa using hb
    subst hy
    refine s_retD (K := K) (G := G2) (d_var rfl (.int _)) g3.gh fun v G4 H4 g4 h1 => ?_
    show E.rt v H4
    rw [hE]
    refine q v G4 H4 ((g2.trans g3).trans g4) ?_
    rw [← hg, Nat.gcd_zero_right]
    exact h1
theorem C_common_divisor (B : Bi mg) (F : DefAt K mg "common_divisor" s_common_divisor) : CalO P w K mg base CX0 1 "common_divisor" ["one", "other"] (spR K Rgcd) := by
  refine calO_mk F S_common_divisor b_common_divisor (lenR fun ds z ⟨a, b, h, _⟩ => by rw [h]; rfl) fun f cdv A outer s H vs Q E hr h => ?_
  refine ⟨_, pss_cons (ps_par (i := 2) (j := 3) (by rfl) S_common_divisor.nd rfl rfl (by decide) rfl rfl (pa_cons (pe_callB call_abs (by rfl) B.m_abs (by decide +kernel) (pa_cons (pv 0) pa_nil)) (pa_cons (pe_callB call_abs (by rfl) B.m_abs (by decide +kernel) (pa_cons (pv 1) pa_nil)) pa_nil)) (by rfl))
      (pss_cons (ps_while PassesOwn.never (pt_cmpR op_ne (pv 3) (pe_int) (nomark _)) (pss_one (ps_par (i := 2) (j := 3) (by rfl) S_common_divisor.nd rfl rfl (by decide) rfl rfl (pa_cons (pv 3) (pa_cons (pe_op op_modN (pv 2) (pv 3)) pa_nil)) (by rfl))))
      (pss_one (ps_ret (pv 2)))), ?_⟩
  obtain ⟨G, ds, z, e, hv, ⟨a, b, rfl, rfl⟩, q⟩ := h
  rw [two_ints hv]
  exact gcd_loop q e { nx := fun _ H' => Q .non H', rt := Q } rfl
theorem C_law_divisor (B : Bi mg) (F : DefAt K mg "_law_divisor" s__law_divisor) : CalO P w K mg base CX0 1 "_law_divisor" ["one", "other"] (spR K Rgcd) := by
  refine calO_mk F S__law_divisor b__law_divisor (lenR fun ds z ⟨a, b, h, _⟩ => by rw [h]; rfl) fun f cdv A outer s H vs Q E hr h => ?_
  refine ⟨_, pss_cons (ps_par (i := 2) (j := 3) (by rfl) S__law_divisor.nd rfl rfl (by decide) rfl rfl (pa_cons (pe_callB call_abs (by rfl) B.m_abs (by decide +kernel) (pa_cons (pv 0) pa_nil)) (pa_cons (pe_callB call_abs (by rfl) B.m_abs (by decide +kernel) (pa_cons (pv 1) pa_nil)) pa_nil)) (by rfl))
      (pss_cons (ps_while PassesOwn.never (pt_cmpR op_ne (pv 3) (pe_int) (nomark _)) (pss_one (ps_par (i := 2) (j := 3) (by rfl) S__law_divisor.nd rfl rfl (by decide) rfl rfl (pa_cons (pv 3) (pa_cons (pe_op op_modN (pv 2) (pv 3)) pa_nil)) (by rfl))))
      (pss_one (ps_ret (pv 2)))), ?_⟩
  obtain ⟨G, ds, z, e, hv, ⟨a, b, rfl, rfl⟩, q⟩ := h
  rw [two_ints hv]
  exact gcd_loop q e { nx := fun _ H' => Q .non H', rt := Q } rfl
theorem gcd_bits {n d : Int} (hd : 0 < d) (h : d.natAbs < 2 ^ 8000) : CDivW n ((Int.gcd n d : Nat) : Int) :=
  divW 8000 (by have := gcd_pos (n := n) hd; omega) (by rw [Int.natAbs_natCast]; exact Nat.lt_of_le_of_lt (gcd_le hd) h)
theorem C_fraction (C_common_divisor : CalO P w K mg base CX0 1 "common_divisor" ["one", "other"] (spR K Rgcd)) (F : DefAt K mg "fraction" s_fraction) : CalO P w K mg base CX0 2 "fraction" ["number", "divisor"] (spR K Rfrac) := by
  refine calO_mk F S_fraction b_fraction (lenR fun ds z ⟨a, b, h, _⟩ => by rw [h]; rfl) fun f cdv A outer s H vs Q E hr h => ?_
  refine ⟨_, pss_cons (ps_set (i := 2) S_fraction.nd rfl (Or.inl rfl) (pe_cal C_common_divisor hr (pa_cons (pv 0) (pa_cons (pv 1) pa_nil))))
      (pss_cons (ps_set (i := 3) S_fraction.nd rfl (Or.inl rfl) (pe_ifExp (pt_cmpR op_lt (pv 1) (pe_int) (nomark _)) (pe_un un_neg pe_int) (pe_int)))
      (pss_one (ps_ret (pe_tup (pa_cons (pe_op op_fdivW (pe_op op_mulW (pv 3) (pv 0)) (pv 2)) (pa_cons (pe_op op_fdivW (pe_op op_mulW (pv 3) (pv 1)) (pv 2)) pa_nil)))))), ?_⟩
  obtain ⟨G, ds, z, e, hv, ⟨n, d, rfl, hd, hn8, hd8, rfl⟩, q⟩ := h
  rw [two_ints hv]
  refine s_let (K := K) (G := G) (d_call (ds_cons (d_var rfl (.int n)) (ds_cons (d_var rfl (.int d)) ds_nil)) ⟨n, d, rfl, rfl⟩) e fun v1 G1 H1 g1 h1 => ?_
  rw [dp_int h1]
  refine s_let (K := K) (G := G1) (d := .int 1) (d_if (t_test (K := K) (d_op (d_var rfl (.int d)) d_int r_lt)) (fun hb => ?_) (fun _ => d_int)) g1.gh fun v2 G2 H2 g2 h2 => ?_
  · have := of_decide_eq_true hb
    omega
  rw [dp_int h2]
  have b1 : ∀ x : Int, x.natAbs < 2 ^ 8000 → CMulW 1 x := fun x hx => mulW 1 8000 (by decide) hx
  refine s_retD (K := K) (G := G2) (d_tup (ds_cons (d_op (d_op (d_var rfl (.int 1)) (d_var rfl (.int n)) (r_mul (b1 n hn8))) (d_var rfl (.int _)) (r_fdiv (by rw [Int.one_mul]; exact gcd_bits hd hd8)))
    (ds_cons (d_op (d_op (d_var rfl (.int 1)) (d_var rfl (.int d)) (r_mul (b1 d hd8))) (d_var rfl (.int _)) (r_fdiv (divW 8000 (by have := gcd_pos (n := n) hd; omega) (by rw [Int.natAbs_natCast]; exact Nat.lt_of_le_of_lt (gcd_le hd) hd8)))) ds_nil))) g2.gh fun v3 G3 H3 g3 h3 => ?_
  refine q v3 G3 H3 ((g1.trans g2).trans g3) ?_
  rw [Int.one_mul, Int.one_mul, frac_num hd, frac_den hd] at h3
  exact h3
theorem C_law_fraction (C_law_divisor : CalO P w K mg base CX0 1 "_law_divisor" ["one", "other"] (spR K Rgcd)) (F : DefAt K mg "_law_fraction" s__law_fraction) : CalO P w K mg base CX0 2 "_law_fraction" ["number", "divisor"] (spR K Rfrac) := by
  refine calO_mk F S__law_fraction b__law_fraction (lenR fun ds z ⟨a, b, h, _⟩ => by rw [h]; rfl) fun f cdv A outer s H vs Q E hr h => ?_
  refine ⟨_, pss_cons (ps_set (i := 2) S__law_fraction.nd rfl (Or.inl rfl) (pe_cal C_law_divisor hr (pa_cons (pv 0) (pa_cons (pv 1) pa_nil))))
      (pss_one (ps_ret (pe_tup (pa_cons (pe_op op_fdivW (pv 0) (pv 2)) (pa_cons (pe_op op_fdivW (pv 1) (pv 2)) pa_nil))))), ?_⟩
  obtain ⟨G, ds, z, e, hv, ⟨n, d, rfl, hd, hn8, hd8, rfl⟩, q⟩ := h
  rw [two_ints hv]
  refine s_let (K := K) (G := G) (d_call (ds_cons (d_var rfl (.int n)) (ds_cons (d_var rfl (.int d)) ds_nil)) ⟨n, d, rfl, rfl⟩) e fun v1 G1 H1 g1 h1 => ?_
  rw [dp_int h1]
  refine s_retD (K := K) (G := G1) (d_tup (ds_cons (d_op (d_var rfl (.int n)) (d_var rfl (.int _)) (r_fdiv (gcd_bits hd hd8)))
    (ds_cons (d_op (d_var rfl (.int d)) (d_var rfl (.int _)) (r_fdiv (divW 8000 (by have := gcd_pos (n := n) hd; omega) (by rw [Int.natAbs_natCast]; exact Nat.lt_of_le_of_lt (gcd_le hd) hd8)))) ds_nil))) g1.gh fun v3 G3 H3 g3 h3 => ?_
  refine q v3 G3 H3 (g1.trans g3) ?_
  rw [frac_num hd, frac_den hd] at h3
  exact h3
end
end K61
end
section
set_option Elab.async false
set_option linter.all false
set_option maxRecDepth 100000
set_option maxHeartbeats 4000000
namespace K61
open PySem PySem.Spec PyProof.Rows L2 Evl Sy
open scoped Rat
section
variable {P : Program} {w : World} {K : PySem.W.Frag} {mg : Str → Option Value} {base : Heap}
theorem at0 {x y : D} : atD [x, y] 0 = some x := rfl
theorem at1 {x y : D} : atD [x, y] 1 = some y := rfl
theorem bits_den {n k : Nat} (h : n < 2 ^ k) : ((n : Int)).natAbs < 2 ^ k := by rw [Int.natAbs_natCast]; exact h
theorem add_bits {a b : Int} {k : Nat} (ha : a.natAbs < 2 ^ k) (hb : b.natAbs < 2 ^ k) : (a + b).natAbs < 2 ^ (k + 1) := by
  have := Int.natAbs_add_le a b
  rw [Nat.pow_succ]
  omega
theorem den_mul_pos (p q : Rat) : (0 : Int) < (p.den : Int) * (q.den : Int) := by
  have h1 := p.den_pos
  have h2 := q.den_pos
  rw [← Int.natCast_mul]
  have := Nat.mul_pos h1 h2
  omega
theorem C_added (C_fraction : CalO P w K mg base CX0 2 "fraction" ["number", "divisor"] (spR K Rfrac)) (F : DefAt K mg "added" s_added) : CalO P w K mg base CX0 3 "added" ["one", "other"] (spR K (Rop fun p q => p + q)) := by
  refine calO_mk F S_added b_added (lenR fun ds z ⟨a, b, h, _⟩ => by rw [h]; rfl) fun f cdv A outer s H vs Q E hr h => ?_
  refine ⟨_, pss_one (ps_ret (pe_cal C_fraction hr (pa_cons (pe_op op_add (pe_op op_mulW (pe_ix ix_tup (pv 0) (pe_int) (fun _ _ => rfl)) (pe_ix ix_tup (pv 1) (pe_int) (fun _ _ => rfl))) (pe_op op_mulW (pe_ix ix_tup (pv 1) (pe_int) (fun _ _ => rfl)) (pe_ix ix_tup (pv 0) (pe_int) (fun _ _ => rfl)))) (pa_cons (pe_op op_mulW (pe_ix ix_tup (pv 0) (pe_int) (fun _ _ => rfl)) (pe_ix ix_tup (pv 1) (pe_int) (fun _ _ => rfl))) pa_nil)))), ?_⟩
  obtain ⟨G, ds, z, e, hv, ⟨p, q', rfl, b1, b2, b3, b4, rfl⟩, q⟩ := h
  obtain ⟨v, u, rfl, h1, h2⟩ := dpa2 hv
  have pn : EvD K _ _ G (.int p.num) := d_op (d_var (i := 0) (σ := L2.start N_added [v, u]) rfl h1) d_int (r_ixT at0)
  have pd : EvD K _ _ G (.int p.den) := d_op (d_var (i := 0) (σ := L2.start N_added [v, u]) rfl h1) d_int (r_ixT at1)
  have qn : EvD K _ _ G (.int q'.num) := d_op (d_var (i := 1) (σ := L2.start N_added [v, u]) rfl h2) d_int (r_ixT at0)
  have qd : EvD K _ _ G (.int q'.den) := d_op (d_var (i := 1) (σ := L2.start N_added [v, u]) rfl h2) d_int (r_ixT at1)
  have w1 := wide_lt b1 (bits_den b4)
  have w2 := wide_lt b2 (bits_den b3)
  have w3 := wide_lt (bits_den b3) (bits_den b4)
  refine s_retD (K := K) (G := G) (d_call (ds_cons (d_op (d_op pn qd (r_mul (mulW 3000 3000 b1 (bits_den b4)))) (d_op qn pd (r_mul (mulW 3000 3000 b2 (bits_den b3)))) r_add) (ds_cons (d_op pd qd (r_mul (mulW 3000 3000 (bits_den b3) (bits_den b4)))) ds_nil))
    ⟨_, _, rfl, den_mul_pos p q', Nat.lt_of_lt_of_le (add_bits w1 w2) (Nat.pow_le_pow_right (by decide) (by decide)), Nat.lt_of_lt_of_le w3 (Nat.pow_le_pow_right (by decide) (by decide)), rfl⟩) e fun v1 G1 H1 g1 hz => ?_
  rw [add_q] at hz
  exact q v1 G1 H1 g1 hz
theorem C_multiplied (C_fraction : CalO P w K mg base CX0 2 "fraction" ["number", "divisor"] (spR K Rfrac)) (F : DefAt K mg "multiplied" s_multiplied) : CalO P w K mg base CX0 3 "multiplied" ["one", "other"] (spR K (Rop fun p q => p * q)) := by
  refine calO_mk F S_multiplied b_multiplied (lenR fun ds z ⟨a, b, h, _⟩ => by rw [h]; rfl) fun f cdv A outer s H vs Q E hr h => ?_
  refine ⟨_, pss_one (ps_ret (pe_cal C_fraction hr (pa_cons (pe_op op_mulW (pe_ix ix_tup (pv 0) (pe_int) (fun _ _ => rfl)) (pe_ix ix_tup (pv 1) (pe_int) (fun _ _ => rfl))) (pa_cons (pe_op op_mulW (pe_ix ix_tup (pv 0) (pe_int) (fun _ _ => rfl)) (pe_ix ix_tup (pv 1) (pe_int) (fun _ _ => rfl))) pa_nil)))), ?_⟩
  obtain ⟨G, ds, z, e, hv, ⟨p, q', rfl, b1, b2, b3, b4, rfl⟩, q⟩ := h
  obtain ⟨v, u, rfl, h1, h2⟩ := dpa2 hv
  have pn : EvD K _ _ G (.int p.num) := d_op (d_var (i := 0) (σ := L2.start N_multiplied [v, u]) rfl h1) d_int (r_ixT at0)
  have pd : EvD K _ _ G (.int p.den) := d_op (d_var (i := 0) (σ := L2.start N_multiplied [v, u]) rfl h1) d_int (r_ixT at1)
  have qn : EvD K _ _ G (.int q'.num) := d_op (d_var (i := 1) (σ := L2.start N_multiplied [v, u]) rfl h2) d_int (r_ixT at0)
  have qd : EvD K _ _ G (.int q'.den) := d_op (d_var (i := 1) (σ := L2.start N_multiplied [v, u]) rfl h2) d_int (r_ixT at1)
  have w1 := wide_lt b1 b2
  have w3 := wide_lt (bits_den b3) (bits_den b4)
  refine s_retD (K := K) (G := G) (d_call (ds_cons (d_op pn qn (r_mul (mulW 3000 3000 b1 b2))) (ds_cons (d_op pd qd (r_mul (mulW 3000 3000 (bits_den b3) (bits_den b4)))) ds_nil))
    ⟨_, _, rfl, den_mul_pos p q', Nat.lt_of_lt_of_le w1 (Nat.pow_le_pow_right (by decide) (by decide)), Nat.lt_of_lt_of_le w3 (Nat.pow_le_pow_right (by decide) (by decide)), rfl⟩) e fun v1 G1 H1 g1 hz => ?_
  rw [mul_q] at hz
  exact q v1 G1 H1 g1 hz
theorem pow_loop {b : Int} (hb : 1 ≤ b) {sq f : Int} {n m : Nat} (hs : 1 ≤ sq) (hf : 1 ≤ f) (e : f * sq ^ n = b ^ m) : f ≤ b ^ m ∧ (1 ≤ n → sq ≤ b ^ m) := by
  have k : ∀ i : Nat, 1 ≤ sq ^ i := fun i => Int.pow_pos (by omega)
  have k0 := k n
  constructor
  · calc f = f * 1 := by omega
      _ ≤ f * sq ^ n := Int.mul_le_mul_of_nonneg_left k0 (by omega)
      _ = b ^ m := e
  · intro hn
    obtain ⟨j, rfl⟩ : ∃ j, n = j + 1 := ⟨n - 1, by omega⟩
    have kj := k j
    calc sq = 1 * sq := by omega
      _ ≤ sq ^ j * sq := Int.mul_le_mul_of_nonneg_right kj (by omega)
      _ = 1 * sq ^ (j + 1) := by rw [Int.pow_succ]; omega
      _ ≤ f * sq ^ (j + 1) := Int.mul_le_mul_of_nonneg_right hf (by have := k (j + 1); omega)
      _ = b ^ m := e
theorem big_pow {b : Int} (h1 : 1 ≤ b) (h2 : b ≤ 64) {m : Nat} (hm : m ≤ 1000) {x : Int} (h0 : 0 ≤ x) (h : x ≤ b ^ m) : x.natAbs < 2 ^ 6001 := by
  have : (b ^ m).natAbs ≤ 64 ^ 1000 := by
    rw [Int.natAbs_pow]
    exact Nat.le_trans (Nat.pow_le_pow_left (by omega) m) (Nat.pow_le_pow_right (by decide) hm)
  have k : (64 : Nat) ^ 1000 < 2 ^ 6001 := by
    rw [show (64 : Nat) = 2 ^ 6 by decide, ← Nat.pow_mul]
    exact Nat.pow_lt_pow_right (by decide) (by decide)
  omega
theorem le_mulL {a b : Int} (ha : 1 ≤ a) (hb : 1 ≤ b) : b ≤ a * b := by
  have := Int.mul_le_mul_of_nonneg_right (c := b) ha (by omega)
  omega
theorem le_mulR {a b : Int} (ha : 1 ≤ a) (hb : 1 ≤ b) : b ≤ b * a := by
  rw [Int.mul_comm]
  exact le_mulL ha hb
theorem half_pow (sq : Int) (n : Nat) : (sq * sq) ^ (n / 2) * (if n % 2 = 1 then sq else 1) = sq ^ n := by
  have e : n = 2 * (n / 2) + n % 2 := by omega
  rw [show sq * sq = sq ^ 2 by rw [Int.pow_succ, Int.pow_succ, Int.pow_zero, Int.one_mul], ← Int.pow_mul]
  split
  · rename_i h
    conv => rhs; rw [e, h, Int.pow_succ]
  · rename_i h
    have h' : n % 2 = 0 := by omega
    conv => rhs; rw [e, h', Nat.add_zero]
    rw [Int.mul_one]
theorem C_power_of (F : DefAt K mg "power_of" s_power_of) : CalO P w K mg base CX0 1 "power_of" ["base", "many"] (spR K Rpow) := by
  refine calO_mk F S_power_of b_power_of (lenR fun ds z ⟨a, b, h, _⟩ => by rw [h]; rfl) fun f cdv A outer s H vs Q E hr h => ?_
  refine ⟨_, pss_cons (ps_par (i := 2) (j := 3) (by rfl) S_power_of.nd rfl rfl (by decide) rfl rfl (pa_cons (pe_int) (pa_cons (pv 0) pa_nil)) (by rfl))
      (pss_cons (ps_while PassesOwn.never (pt_cmpR op_gt (pv 1) (pe_int) (nomark _)) (pss_cons (ps_if (pt_cmpR op_eq (pe_op op_modN (pv 1) (pe_int)) (pe_int) (nomark _)) (pss_one (ps_set (i := 2) S_power_of.nd rfl (Or.inl rfl) (pe_op op_mulW (pv 2) (pv 3)))) (pss_nil))
      (pss_one (ps_par (i := 3) (j := 1) (by rfl) S_power_of.nd rfl rfl (by decide) rfl rfl (pa_cons (pe_op op_mulW (pv 3) (pv 3)) (pa_cons (pe_op op_fdivW (pv 1) (pe_int)) pa_nil)) (by rfl)))))
      (pss_one (ps_ret (pv 2)))), ?_⟩
  obtain ⟨G, ds, z, e, hv, ⟨b, m, rfl, hb1, hb2, hm0, hm1, rfl⟩, q⟩ := h
  rw [two_ints hv]
  refine s_par2 (K := K) (G := G) (ds_cons d_int (ds_cons (d_var rfl (.int b)) ds_nil)) e fun v u G1 H1 g1 h1 h2 => ?_
  rw [dp_int h1, dp_int h2]
  refine s_whileD (G := G1) (fun k σ G2 H2 => ∃ (fo sq : Int) (n : Nat), σ = [some (.int b), some (.int n), some (.int fo), some (.int sq)] ∧ n = k ∧ fo * sq ^ n = b ^ m.toNat ∧ 1 ≤ fo ∧ 1 ≤ sq ∧ Gro G H G2 H2) m.toNat ⟨1, b, m.toNat, by rw [Int.toNat_of_nonneg hm0]; rfl, rfl, by rw [Int.one_mul], by decide, hb1, g1⟩ fun k σ G2 H2 ⟨fo, sq, n, hs, hk, he, hf1, hs1, g2⟩ => ?_
  subst hs; subst hk
  refine ⟨g2.gh, _, t_test (K := K) (d_op (d_var rfl (.int _)) d_int r_gt), fun hb H3 g3 => ?_, fun hb H3 g3 => ?_⟩
  · have hn : 1 ≤ n := by
      have := of_decide_eq_true hb
      omega
    obtain ⟨p1, p2⟩ := pow_loop hb1 hs1 hf1 he
    have bf := big_pow hb1 hb2 (m := m.toNat) (by omega) (by omega) p1
    have bs := big_pow hb1 hb2 (m := m.toNat) (by omega) (by omega) (p2 hn)
    refine ⟨fun σ H4 => ∃ (fo' sq' : Int) (n' : Nat) (G4 : Hp), σ = [some (.int b), some (.int n'), some (.int fo'), some (.int sq')] ∧ n' < n ∧ fo' * sq' ^ n' = b ^ m.toNat ∧ 1 ≤ fo' ∧ 1 ≤ sq' ∧ Gro G H G4 H4, fun σ H4 ⟨fo', sq', n', G4, h1, h2, h3, h4, h5, h6⟩ => ⟨n', G4, h2, fo', sq', n', h1, rfl, h3, h4, h5, h6⟩, ?_⟩
    have last : ∀ (fo2 : Int) H4, fo2 = fo * (if n % 2 = 1 then sq else 1) → Gro G2 H3 G2 H4 → tPar 3 1 (tCons (tOp (rI CMulW fun i j => .int (i * j)) (tVar 3) (tVar 3)) (tCons (tOp (rI CDivW fun i j => .int (i / j)) (tVar 1) (tC (.int 2))) tNil)) { nx := fun σ H4 => ∃ (fo' sq' : Int) (n' : Nat) (G4 : Hp), σ = [some (.int b), some (.int n'), some (.int fo'), some (.int sq')] ∧ n' < n ∧ fo' * sq' ^ n' = b ^ m.toNat ∧ 1 ≤ fo' ∧ 1 ≤ sq' ∧ Gro G H G4 H4, rt := Q, bk := fun σ H => tRet (tVar 2) { nx := fun _ H' => Q .non H', rt := Q } σ H, ct := fun σ H4 => ∃ (fo' sq' : Int) (n' : Nat) (G4 : Hp), σ = [some (.int b), some (.int n'), some (.int fo'), some (.int sq')] ∧ n' < n ∧ fo' * sq' ^ n' = b ^ m.toNat ∧ 1 ≤ fo' ∧ 1 ≤ sq' ∧ Gro G H G4 H4 } [some (.int b), some (.int n), some (.int fo2), some (.int sq)] H4 := fun fo2 H4 hfo g4 => by
      refine s_par2 (K := K) (G := G2) (ds_cons (d_op (d_var rfl (.int sq)) (d_var rfl (.int sq)) (r_mul (mulW 6001 6001 bs bs))) (ds_cons (d_op (d_var rfl (.int _)) d_int (r_fdiv (divW 2 (by decide) (by decide)))) ds_nil)) g4.gh fun v u G5 H5 g5 h1 h2 => ?_
      rw [dp_int h1, dp_int h2]
      refine ⟨fo2, sq * sq, n / 2, G5, rfl, by omega, ?_, ?_, Int.le_trans hs1 (le_mulL hs1 hs1), ((g2.trans g3).trans g4).trans g5⟩
      · rw [hfo, Int.mul_assoc, Int.mul_comm (if n % 2 = 1 then sq else 1), half_pow]
        exact he
      · rw [hfo]
        split
        · exact Int.le_trans hf1 (le_mulR hs1 hf1)
        · omega
    refine s_ifD (t_test (K := K) (d_op (d_op (d_var rfl (.int _)) d_int (r_mod (by decide))) d_int r_eqI)) g3.gh (fun hodd H4 g4 => ?_) (fun hodd H4 g4 => ?_)
    · have ho : n % 2 = 1 := by
        have := of_decide_eq_true hodd
        have e2 : (n : Int).fmod 2 = ((n % 2 : Nat) : Int) := fmod_nat n 2
        omega
      refine s_let (K := K) (G := G2) (d_op (d_var rfl (.int fo)) (d_var rfl (.int sq)) (r_mul (mulW 6001 6001 bf bs))) g4.gh fun v G5 H5 g5 h1 => ?_
      rw [dp_int h1]
      exact last _ H5 (by rw [if_pos ho]) (g4.trans (.drop g4.gh g5.h))
    · have ho : ¬ n % 2 = 1 := by
        have := of_decide_eq_false hodd
        have e2 : (n : Int).fmod 2 = ((n % 2 : Nat) : Int) := fmod_nat n 2
        omega
      exact last _ H4 (by rw [if_neg ho, Int.mul_one]) g4
  · have hn : n = 0 := by
      have := of_decide_eq_false hb
      omega
    subst hn
    rw [Int.pow_zero, Int.mul_one] at he
    refine s_retD (K := K) (G := G2) (d_var rfl (.int fo)) g3.gh fun v G5 H5 g5 h1 => ?_
    rw [he] at h1
    exact q v G5 H5 ((g2.trans g3).trans g5) h1
end
end K61
end
section
set_option Elab.async false
set_option linter.all false
set_option maxRecDepth 100000
set_option maxHeartbeats 4000000
set_option exponentiation.threshold 4000
namespace K61
open PySem PySem.Spec PyProof.Rows L2 Evl Sy RZ
open scoped Rat
def isNum : D → Bool
  | .int i => decide (-10 ^ 200 < i) && decide (i < 10 ^ 200)
  | _ => false
def isFrac : D → Bool
  | .tuple [.int a, .int b] => isNum (.int a) && isNum (.int b) && (decide (0 < b) && decide (((Int.gcd a b : Nat) : Int) = 1))
  | _ => false
def lastOk (fs : List D) : Bool := match atD fs (-1) with
  | some d => !PyData.eqv d (.tuple [.int 0, .int 1])
  | none => false
def isRow : D → Bool
  | .tuple [.int b, .tuple fs] => isNum (.int b) && (decide (1 ≤ b) && decide (b ≤ 64)) && (decide (1 ≤ (fs.length : Int)) && decide ((fs.length : Int) ≤ 60)) && (fs.all isFrac && lastOk fs)
  | _ => false
def ltRow : D → Bool
  | .tuple [.tuple (.int a :: _), .tuple (.int b :: _)] => decide (a < b)
  | _ => false
def okSum : D → Bool
  | .tuple rs => rs.all isRow && (zipD rs (cutD rs (some 1) none)).all ltRow
  | _ => false
def Rb (f : D → Bool) (ds : List D) (z : D) : Prop := ∃ d, ds = [d] ∧ z = .bool (f d)
section
variable {P : Program} {w : World} {K : PySem.W.Frag} {mg : Str → Option Value} {base : Heap}
theorem all_map (p : D → Bool) (ds : List D) : ds.filterMap (fun d => some (PyData.bool (p d))) = (ds.map p).map PyData.bool := by
  simp [List.filterMap_eq_map']
theorem d_all {wi : TI} {g : TG} {te : TE} {vs : List Nat} {ds : List D} {σ : L2.St} {G : Hp} (p : D → Bool) (h : OverD K wi σ G ds) (hz : ds.length ≤ 100000)
    (hs : ∀ d ∈ ds, ∀ G1 v, Ex G G1 → Dp K G1 v d → ∃ σ2, (∀ H1, Ex G1 H1 → ∀ Q : L2.St → Hp → Prop, Q σ2 H1 → g v (wipe σ vs) H1 Q) ∧ wipe σ2 vs = wipe σ vs ∧ EvD K te σ2 G1 (.bool (p d))) :
    EvD K (tCB (rAll K) (tCons (tLc wi g tYes te vs) tNil)) σ G (.bool (ds.all p)) := by
  have hl := d_lc (tt := tYes) (te := te) (fun d => some (PyData.bool (p d))) h hz fun d hd G1 v e hv => by
    obtain ⟨σ2, h1, h2, h3⟩ := hs d hd G1 v e hv
    exact ⟨σ2, h1, h2, fun H1 _ Q q => q H1 (Ex.refl _), fun e he => by cases he; exact h3⟩
  rw [all_map] at hl
  have := d_cb (ds_cons hl ds_nil) (c_all (K := K) (bs := ds.map p))
  rwa [show (ds.map p).all id = ds.all p by simp [List.all_map]] at this
theorem C_is_number (B : Bi mg) (F : DefAt K mg "is_number" s_is_number) : CalO P w K mg base CX0 1 "is_number" ["value"] (spR K (Rb isNum)) := by
  refine calO_mk F S_is_number b_is_number (lenR fun ds z ⟨a, h, _⟩ => by rw [h]; rfl) fun f cdv A outer s H vs Q E hr h => ?_
  refine ⟨_, pss_one (ps_ret (pe_and (pe_callB call_isx (by rfl) B.m_isinstance (by decide +kernel) (pa_cons (pv 0) (pa_cons (pe_ty "int" (by rfl) B.m_int (by decide +kernel)) pa_nil))) (pe_and (pe_not (pe_callB call_isx (by rfl) B.m_isinstance (by decide +kernel) (pa_cons (pv 0) (pa_cons (pe_ty "bool" (by rfl) B.m_bool (by decide +kernel)) pa_nil)))) (pe_one (pe_chain op_lt op_lt (pe_un un_neg (pe_const B.c_BEYOND)) (pv 0) (pe_const B.c_BEYOND)))))), ?_⟩
  obtain ⟨G, ds, z, e, hv, ⟨d, rfl, rfl⟩, q⟩ := h
  obtain ⟨v, rfl, h1⟩ := dpa1 hv
  have hx : EvD K (tVar 0) (L2.start N_is_number [v]) G d := d_var rfl h1
  refine s_retD (K := K) (G := G) (d := .bool (isNum d)) ?_ e q
  cases d with
  | int i => exact d_andT (d_isx hx isa_int) (d_andT (d_not (d_isx hx isa_bool)) (d_chain (K := K) (G := G) (d_un d_int r_neg) hx r_lt fun _ => ⟨d_int, r_lt⟩))
  | bool b => exact d_andT (d_isx hx isa_int) (d_andF (d_not (d_isx hx isa_bool)))
  | _ => exact d_andF (d_isx hx isa_int)
theorem nt {b : Bool} (h : (!b) = true) : b = false := by cases b; rfl; cases h
theorem nf {b : Bool} (h : (!b) = false) : b = true := by cases b; cases h; rfl
theorem len_two {ds : List D} (hl : (ds.length : Int) = 2) : ∃ a b, ds = [a, b] := by
  match ds, hl with
  | [a, b], _ => exact ⟨a, b, rfl⟩
  | [], h => cases h
  | [_], h => cases h
  | _ :: _ :: _ :: _, h => simp at h; omega
theorem frac_no {a b : D} (h : (isNum a && isNum b) = false) : isFrac (.tuple [a, b]) = false := by
  cases a <;> first | rfl | (cases b <;> first | rfl | (simp only [isFrac]; rw [h]; rfl))
theorem frac_len {ds : List D} (h : ¬ (ds.length : Int) = 2) : isFrac (.tuple ds) = false := by
  unfold isFrac
  split
  · rename_i e
    cases e
    exact absurd rfl h
  · rfl
theorem row_len {ds : List D} (h : ¬ (ds.length : Int) = 2) : isRow (.tuple ds) = false := by
  unfold isRow
  split
  · rename_i e
    cases e
    exact absurd rfl h
  · rfl
theorem row_num {a b : D} (h : isNum a = false) : isRow (.tuple [a, b]) = false := by
  cases a <;> first | rfl | (cases b <;> first | rfl | (simp only [isRow]; rw [h]; rfl))
theorem row_rng {i : Int} {b : D} (h : (decide (1 ≤ i) && decide (i ≤ 64)) = false) : isRow (.tuple [.int i, b]) = false := by
  cases b <;> first | rfl | (simp only [isRow]; rw [h, Bool.and_false]; rfl)
theorem row_tup {i : Int} {b : D} (h : isaD "tuple" b = false) : isRow (.tuple [.int i, b]) = false := by
  cases b <;> first | rfl | exact nomatch (show true = false from h)
theorem row_cnt {i : Int} {fs : List D} (h : (decide (1 ≤ (fs.length : Int)) && decide ((fs.length : Int) ≤ 60)) = false) : isRow (.tuple [.int i, .tuple fs]) = false := by
  simp only [isRow]
  rw [h, Bool.and_false]
  rfl
theorem isNum_int {d : D} (h : isNum d = true) : ∃ i, d = .int i := by
  cases d <;> first | exact ⟨_, rfl⟩ | (cases h; done)
theorem isFrac_shape {d : D} (h : isFrac d = true) : ∃ a b, d = .tuple [.int a, .int b] := by
  unfold isFrac at h
  split at h
  · exact ⟨_, _, rfl⟩
  · cases h
theorem last_at {fs : List D} (h : 1 ≤ (fs.length : Int)) : ∃ d, atD fs (-1) = some d ∧ d ∈ fs := by
  have hl : 0 < fs.length := by omega
  have e : ixN fs.length (-1) = some (fs.length - 1) := by
    unfold ixN
    rw [if_neg (by omega), if_pos (by omega)]
    congr 1
    omega
  refine ⟨fs[fs.length - 1], ?_, List.getElem_mem _⟩
  unfold atD
  rw [e]
  exact List.getElem?_eq_getElem _
theorem frac_num2 {a b : D} (h : (isNum a && isNum b) = true) : ∃ x y, a = .int x ∧ b = .int y := by
  cases a <;> first | (cases h; done) | (cases b <;> first | exact ⟨_, _, rfl, rfl⟩ | (simp [isNum] at h; done))
theorem C_is_fraction (B : Bi mg) (C_is_number : CalO P w K mg base CX0 1 "is_number" ["value"] (spR K (Rb isNum))) (C_common_divisor : CalO P w K mg base CX0 1 "common_divisor" ["one", "other"] (spR K Rgcd)) (F : DefAt K mg "is_fraction" s_is_fraction) : CalO P w K mg base CX0 2 "is_fraction" ["value"] (spR K (Rb isFrac)) := by
  refine calO_mk F S_is_fraction b_is_fraction (lenR fun ds z ⟨a, h, _⟩ => by rw [h]; rfl) fun f cdv A outer s H vs Q E hr h => ?_
  refine ⟨_, pss_cons (ps_if (PW.pt (pw_or (pt_not (pt_val (pe_callB call_isx (by rfl) B.m_isinstance (by decide +kernel) (pa_cons (pv 0) (pa_cons (pe_ty "tuple" (by rfl) B.m_tuple (by decide +kernel)) pa_nil))))) (pw_or (pt_cmpR op_ne (pe_callB call_len_seq (by rfl) B.m_len (by decide +kernel) (pa_cons (pv 0) pa_nil)) (pe_int) (nomark _)) (pw_or1 (pt_not (pt_val (pe_callB (cr_all rfl) (by rfl) B.m_all (by decide +kernel) (pa_cons (pe_lc (own := [("one", 1)]) rfl S_is_fraction.nd (pi_tup (pv 0)) (blkOk_by (own := [("one", 1)]) (N := N_is_fraction) (sc := defScope s_is_fraction) (by decide +kernel)) (fun _ _ _ _ _ => pg_name (i := 1) S_is_fraction.nd rfl (Or.inl rfl)) (fun _ _ _ _ _ => pts_nil) (fun _ _ _ _ _ => pe_cal C_is_number hr (pa_cons (pv 1) pa_nil))) pa_nil)))))))) (pss_one (ps_ret (pe_bl))) (pss_nil))
      (pss_one (ps_ret (pe_and (pe_cmpR op_gt (pe_ix ix_tup (pv 0) (pe_int) (fun _ _ => rfl)) (pe_int) (nomark _)) (pe_one (pe_cmpR op_eq (pe_cal C_common_divisor hr (pa_cons (pe_ix ix_tup (pv 0) (pe_int) (fun _ _ => rfl)) (pa_cons (pe_ix ix_tup (pv 0) (pe_int) (fun _ _ => rfl)) pa_nil))) (pe_int) (nomark _)))))), ?_⟩
  obtain ⟨G, ds, z, e, hv, ⟨d, rfl, rfl⟩, q⟩ := h
  obtain ⟨v, rfl, h1⟩ := dpa1 hv
  have hx : EvD K (tVar 0) (L2.start N_is_fraction [v]) G d := d_var rfl h1
  have no : ∀ H1, Gro G H G H1 → isFrac d = false → tRet (tC (.bl false)) { nx := fun _ H' => Q .non H', rt := Q } (L2.start N_is_fraction [v]) H1 := fun H1 g z => s_retD (K := K) (G := G) d_bl g.gh fun v G3 H3 g3 h3 => q v G3 H3 (g.trans g3) (by rw [z]; exact h3)
  cases d with
  | tuple ds =>
    by_cases hl : (ds.length : Int) = 2
    · obtain ⟨a, b, rfl⟩ := len_two hl
      refine s_ifD (G := G) (b := !(isNum a && isNum b)) ?_ e (fun u H1 g => no H1 g (frac_no (nt u))) (fun u H1 g => ?_)
      · refine t_orF (t_not (t_test (K := K) (d_isx hx isa_tuple))) (t_orF (t_is (t_test (K := K) (d_op (d_cb (ds_cons hx ds_nil) c_lenT) d_int r_neI)) (by simp)) (t_is (t_not (t_test (K := K) (d_all isNum (over_tup hx) (by simp) fun d hd G1 v1 e1 hv1 => ⟨_, g_name (j := 1), rfl, ?_⟩))) (by simp)))
        exact d_call (ds_cons (d_var rfl hv1) ds_nil) ⟨d, rfl, rfl⟩
      · obtain ⟨x, y, rfl, rfl⟩ := frac_num2 (nf u)
        have hi : EvD K (tOp (rIxT K) (tVar 0) (tC (.int 0))) (L2.start N_is_fraction [v]) G (.int x) := d_op hx d_int (r_ixT at0)
        have hj : EvD K (tOp (rIxT K) (tVar 0) (tC (.int 1))) (L2.start N_is_fraction [v]) G (.int y) := d_op hx d_int (r_ixT at1)
        refine s_retD (K := K) (G := G) (d_and (d_op hj d_int r_gt) fun _ => d_op (d_call (ds_cons hi (ds_cons hj ds_nil)) ⟨x, y, rfl, rfl⟩) d_int r_eqI) g.gh fun v G3 H3 g3 h3 => q v G3 H3 (g.trans g3) ?_
        have hn : (isNum (.int x) && isNum (.int y)) = true := nf u
        show Dp K G3 v (.bool (isNum (.int x) && isNum (.int y) && (decide (0 < y) && decide (((Int.gcd x y : Nat) : Int) = 1))))
        rw [hn, Bool.true_and]
        exact h3
    · refine s_ifD (G := G) (b := true) (t_orF (t_not (t_test (K := K) (d_isx hx isa_tuple))) (t_orT (t_is (t_test (K := K) (d_op (d_cb (ds_cons hx ds_nil) c_lenT) d_int r_neI)) (by simp [hl])))) e (fun u H1 g => no H1 g ?_) (fun u => by cases u)
      exact frac_len hl
  | _ => exact s_ifD (G := G) (b := true) (t_orT (t_not (t_test (K := K) (d_isx hx isa_tuple)))) e (fun u H1 g => no H1 g rfl) (fun u => by cases u)
theorem C_is_sum_row (B : Bi mg) (C_is_number : CalO P w K mg base CX0 1 "is_number" ["value"] (spR K (Rb isNum))) (C_is_fraction : CalO P w K mg base CX0 2 "is_fraction" ["value"] (spR K (Rb isFrac))) (F : DefAt K mg "is_sum_row" s_is_sum_row) : CalO P w K mg base CX0 3 "is_sum_row" ["value"] (spR K (Rb isRow)) := by
  refine calO_mk F S_is_sum_row b_is_sum_row (lenR fun ds z ⟨a, h, _⟩ => by rw [h]; rfl) fun f cdv A outer s H vs Q E hr h => ?_
  refine ⟨_, pss_cons (ps_if (PW.pt (pw_or (pt_not (pt_val (pe_callB call_isx (by rfl) B.m_isinstance (by decide +kernel) (pa_cons (pv 0) (pa_cons (pe_ty "tuple" (by rfl) B.m_tuple (by decide +kernel)) pa_nil))))) (pw_or (pt_cmpR op_ne (pe_callB call_len_seq (by rfl) B.m_len (by decide +kernel) (pa_cons (pv 0) pa_nil)) (pe_int) (nomark _)) (pw_or (pt_not (pt_val (pe_cal C_is_number hr (pa_cons (pe_ix ix_tup (pv 0) (pe_int) (fun _ _ => rfl)) pa_nil)))) (pw_or1 (pt_not (pt_chain op_le op_le (pe_int) (pe_ix ix_tup (pv 0) (pe_int) (fun _ _ => rfl)) (pe_const B.c_MOST_BASE)))))))) (pss_one (ps_ret (pe_bl))) (pss_nil))
      (pss_cons (ps_set (i := 1) S_is_sum_row.nd rfl (Or.inl rfl) (pe_ix ix_tup (pv 0) (pe_int) (fun _ _ => rfl)))
      (pss_cons (ps_if (PW.pt (pw_or (pt_not (pt_val (pe_callB call_isx (by rfl) B.m_isinstance (by decide +kernel) (pa_cons (pv 1) (pa_cons (pe_ty "tuple" (by rfl) B.m_tuple (by decide +kernel)) pa_nil))))) (pw_or1 (pt_not (pt_chain op_le op_le (pe_int) (pe_callB call_len_seq (by rfl) B.m_len (by decide +kernel) (pa_cons (pv 1) pa_nil)) (pe_const B.c_MOST_FRACTIONS)))))) (pss_one (ps_ret (pe_bl))) (pss_nil))
      (pss_one (ps_ret (pe_and (pe_callB (cr_all rfl) (by rfl) B.m_all (by decide +kernel) (pa_cons (pe_lc (own := [("one", 2)]) rfl S_is_sum_row.nd (pi_tup (pv 1)) (blkOk_by (own := [("one", 2)]) (N := N_is_sum_row) (sc := defScope s_is_sum_row) (by decide +kernel)) (fun _ _ _ _ _ => pg_name (i := 2) S_is_sum_row.nd rfl (Or.inl rfl)) (fun _ _ _ _ _ => pts_nil) (fun _ _ _ _ _ => pe_cal C_is_fraction hr (pa_cons (pv 2) pa_nil))) pa_nil)) (pe_one (pe_cmpR (op_neD hr.units) (pe_ix ix_tup (pv 1) (pe_un un_neg pe_int) (fun _ _ => rfl)) (pe_tup (pa_cons (pe_int) (pa_cons (pe_int) pa_nil))) (nomark _)))))))), ?_⟩
  obtain ⟨G, ds, z, e, hv, ⟨d, rfl, rfl⟩, q⟩ := h
  obtain ⟨v, rfl, h1⟩ := dpa1 hv
  have hx : EvD K (tVar 0) (L2.start N_is_sum_row [v]) G d := d_var rfl h1
  have no : ∀ σ G1 H1, Gro G H G1 H1 → isRow d = false → tRet (tC (.bl false)) { nx := fun _ H' => Q .non H', rt := Q } σ H1 := fun σ G1 H1 g z => s_retD (K := K) (G := G1) d_bl g.gh fun v G3 H3 g3 h3 => q v G3 H3 (g.trans g3) (by rw [z]; exact h3)
  cases d with
  | tuple ds =>
    by_cases hl : (ds.length : Int) = 2
    · obtain ⟨a, b, rfl⟩ := len_two hl
      have tt := fun {u : TT} {c : Bool} (hu : EvB u (L2.start N_is_sum_row [v]) G c) => t_orF (t_not (t_test (K := K) (te := tCB (rIsx K) (tCons (tVar 0) (tCons (tC (.ty "tuple")) tNil))) (d_isx hx isa_tuple))) (t_orF (t_is (t_test (K := K) (te := tOp rNe (tCB (Sy.rLen K) (tCons (tVar 0) tNil)) (tC (.int 2))) (d_op (d_cb (ds_cons hx ds_nil) c_lenT) d_int r_neI)) (by simp)) hu)
      have ha : EvD K (tOp (rIxT K) (tVar 0) (tC (.int 0))) (L2.start N_is_sum_row [v]) G a := d_op hx d_int (r_ixT at0)
      cases hn : isNum a with
      | false =>
        refine s_ifD (G := G) (b := true) ?_ e (fun u H1 g => no _ G H1 g (row_num hn)) (fun u => by cases u)
        refine tt (t_orT (t_is (t_not (t_test (K := K) (d_call (ds_cons ha ds_nil) ⟨a, rfl, rfl⟩))) (by rw [hn]; rfl)))
      | true =>
        obtain ⟨i, rfl⟩ := isNum_int hn
        refine s_ifD (G := G) (b := !(decide (1 ≤ i) && decide (i ≤ 64))) ?_ e (fun u H1 g => no _ G H1 g (row_rng (nt u))) (fun u H1 g => ?_)
        · refine tt (t_orF (t_is (t_not (t_test (K := K) (d_call (ds_cons ha ds_nil) ⟨_, rfl, rfl⟩))) (by rw [hn]; rfl)) (t_not (t_test (K := K) (d_chain (K := K) (G := G) d_int ha r_le fun _ => ⟨d_int, r_le⟩))))
        · have hr := nf u
          refine s_let (K := K) (G := G) (d_op hx d_int (r_ixT at1)) g.gh fun v2 G2 H2 g2 h2 => ?_
          have g3 := g.trans g2
          have hs : EvD K (tVar 1) [some v, some v2, none] G2 b := d_var rfl h2
          dsimp only
          cases b with
          | tuple fs =>
            refine s_ifD (G := G2) (b := !(decide (1 ≤ (fs.length : Int)) && decide ((fs.length : Int) ≤ 60))) ?_ g3.gh (fun u H1 g => no _ G2 H1 (g3.trans g) (row_cnt (nt u))) (fun u H1 g => ?_)
            · exact t_orF (t_not (t_test (K := K) (d_isx hs isa_tuple))) (t_not (t_test (K := K) (d_chain (K := K) (G := G2) d_int (d_cb (ds_cons hs ds_nil) c_lenT) r_le fun _ => ⟨d_int, r_le⟩)))
            · have hc := nf u
              have hc1 := of_decide_eq_true (Bool.and_eq_true_iff.mp hc).1
              have hc2 := of_decide_eq_true (Bool.and_eq_true_iff.mp hc).2
              obtain ⟨last, hl1, hl2⟩ := last_at hc1
              refine s_retD (K := K) (G := G2) (d := .bool (fs.all isFrac && lastOk fs)) (d_and (d_all isFrac (over_tup hs) (by omega) fun d hd G1 v1 e1 hv1 => ⟨_, g_name (j := 2), rfl, ?_⟩) fun hall => ?_) g.gh fun v G4 H4 g4 h4 => q v G4 H4 ((g3.trans g).trans g4) ?_
              · exact d_call (ds_cons (d_var rfl hv1) ds_nil) ⟨d, rfl, rfl⟩
              · obtain ⟨x, y, rfl⟩ := isFrac_shape (List.all_eq_true.mp hall _ hl2)
                have ne := d_op (d_op hs (d_un d_int r_neg) (r_ixT hl1)) (d_tup (ds_cons d_int (ds_cons d_int ds_nil))) (r_neD (K := K) (x := .tuple [.int x, .int y]) (y := .tuple [.int 0, .int 1]) rfl rfl)
                refine d_is ne ?_
                unfold lastOk
                rw [hl1]
              · show Dp K G4 v (.bool (isNum (.int i) && (decide (1 ≤ i) && decide (i ≤ 64)) && (decide (1 ≤ (fs.length : Int)) && decide ((fs.length : Int) ≤ 60)) && (fs.all isFrac && lastOk fs)))
                rw [hn, hr, hc, Bool.true_and, Bool.true_and, Bool.true_and]
                exact h4
          | _ => exact s_ifD (G := G2) (b := true) (t_orT (t_not (t_test (K := K) (d_isx hs isa_tuple)))) g3.gh (fun u H1 g => no _ G2 H1 (g3.trans g) (row_tup rfl)) (fun u => by cases u)
    · exact s_ifD (G := G) (b := true) (t_orF (t_not (t_test (K := K) (d_isx hx isa_tuple))) (t_orT (t_is (t_test (K := K) (d_op (d_cb (ds_cons hx ds_nil) c_lenT) d_int r_neI)) (by simp [hl])))) e (fun u H1 g => no _ G H1 g (row_len hl)) (fun u => by cases u)
  | _ => exact s_ifD (G := G) (b := true) (t_orT (t_not (t_test (K := K) (d_isx hx isa_tuple)))) e (fun u H1 g => no _ G H1 g rfl) (fun u => by cases u)
def Rcheck (CS : Addr) (ds : List D) (o : Out) : Prop := ∃ d, ds = [d] ∧ (∀ rs, d = .tuple rs → rs.length ≤ 100000) ∧ o = if okSum d then .val .none else .bad CS d
theorem isRow_shape {d : D} (h : isRow d = true) : ∃ a b, d = .tuple [.int a, b] := by
  unfold isRow at h
  split at h
  · exact ⟨_, _, rfl⟩
  · cases h
theorem zip_mem {rs es : List D} {d : D} (h : d ∈ zipD rs es) : ∃ a b, d = .tuple [a, b] ∧ a ∈ rs ∧ b ∈ es := by
  obtain ⟨⟨a, b⟩, h1, rfl⟩ := List.mem_map.mp h
  exact ⟨a, b, rfl, (List.of_mem_zip h1).1, (List.of_mem_zip h1).2⟩
theorem cut_mem {rs : List D} {lo hi : Option Int} {d : D} (h : d ∈ cutD rs lo hi) : d ∈ rs := List.mem_of_mem_drop (List.mem_of_mem_take h)
theorem C_check_sum {DS CS : Addr} (B : Bi mg) (Y_BadSum : SayK P K mg DS CS "BadSum") (C_is_sum_row : CalO P w K mg base CX0 3 "is_sum_row" ["value"] (spR K (Rb isRow))) (F : DefAt K mg "check_sum" s_check_sum) : CalO P w K mg base (L2.CX P w) 4 "check_sum" ["value"] (spX K (Rcheck CS)) := by
  refine calX_mk F S_check_sum b_check_sum (lenX fun ds z ⟨a, h, _⟩ => by rw [h]; rfl) fun f cdv A outer s H vs Q E hr h => ?_
  refine ⟨_, pss_cons (ps_if (PW.pt (pw_or (pt_not (pt_val (pe_callB call_isx (by rfl) B.m_isinstance (by decide +kernel) (pa_cons (pv 0) (pa_cons (pe_ty "tuple" (by rfl) B.m_tuple (by decide +kernel)) pa_nil))))) (pw_or1 (pt_not (pt_val (pe_callB (cr_all rfl) (by rfl) B.m_all (by decide +kernel) (pa_cons (pe_lc (own := [("row", 1)]) rfl S_check_sum.nd (pi_tup (pv 0)) (blkOk_by (own := [("row", 1)]) (N := N_check_sum) (sc := defScope s_check_sum) (by decide +kernel)) (fun _ _ _ _ _ => pg_name (i := 1) S_check_sum.nd rfl (Or.inl rfl)) (fun _ _ _ _ _ => pts_nil) (fun _ _ _ _ _ => pe_cal C_is_sum_row hr (pa_cons (pv 1) pa_nil))) pa_nil))))))) (pss_one (ps_raise rfl (takes_of rfl rfl rfl rfl) (pmk_sayK Y_BadSum (hr.mono (by decide)) (pv 0)))) (pss_nil))
      (pss_one (ps_if (pt_not (pt_val (pe_callB (cr_all rfl) (by rfl) B.m_all (by decide +kernel) (pa_cons (pe_lc (own := [("one", 2), ("other", 3)]) rfl S_check_sum.nd (pi_zipA (by rfl) B.m_zip (pa_cons (pv 0) (pa_cons (pe_slice sl_tupA (pv 0) (po_some (pe_int)) (po_none)) pa_nil))) (blkOk_by (own := [("one", 2), ("other", 3)]) (N := N_check_sum) (sc := defScope s_check_sum) (by decide +kernel)) (fun _ _ _ _ _ => pg_tupK (K := K) (n := 2) (by rfl) rfl (pgs_cons (pg_name (i := 2) S_check_sum.nd rfl (Or.inl rfl)) (pgs_cons (pg_name (i := 3) S_check_sum.nd rfl (Or.inl rfl)) pgs_nil))) (fun _ _ _ _ _ => pts_nil) (fun _ _ _ _ _ => pe_cmpR op_lt (pe_ix (ix_tupK (K := K) (by rfl)) (pv 2) (pe_int) (fun _ _ => rfl)) (pe_ix (ix_tupK (K := K) (by rfl)) (pv 3) (pe_int) (fun _ _ => rfl)) (nomark _))) pa_nil)))) (pss_one (ps_raise rfl (takes_of rfl rfl rfl rfl) (pmk_sayK Y_BadSum (hr.mono (by decide)) (pv 0)))) (pss_nil))), ?_⟩
  obtain ⟨G, ds, z, e, hv, ⟨d, rfl, hsm, rfl⟩, q⟩ := h
  obtain ⟨v, rfl, h1⟩ := dpa1 hv
  have hx : EvD K (tVar 0) (L2.start N_check_sum [v]) G d := d_var rfl h1
  have no : ∀ H1, Gro G H G H1 → okSum d = false → tSay CS (tVar 0) (L2.start N_check_sum [v]) H1 fun cls d' H' => E cls d' H' := fun H1 g z => by
    rw [z] at q
    exact x_say hx g.gh (Rzd.gro g q)
  cases d with
  | tuple rs =>
    have hz := hsm rs rfl
    refine s_ifD (G := G) (b := !rs.all isRow) ?_ e (fun u H1 g => no H1 g ?_) (fun u H1 g => ?_)
    · refine t_orF (t_not (t_test (K := K) (d_isx hx isa_tuple))) (t_not (t_test (K := K) (d_all isRow (over_tup hx) hz fun d hd G1 v1 e1 hv1 => ⟨_, g_name (j := 1), rfl, ?_⟩)))
      exact d_call (ds_cons (d_var rfl hv1) ds_nil) ⟨d, rfl, rfl⟩
    · show (rs.all isRow && _) = false
      rw [nt u]
      rfl
    · have hall := nf u
      dsimp only [tNext]
      refine s_ifD (G := G) (b := !(zipD rs (cutD rs (some 1) none)).all ltRow) ?_ g.gh (fun u H2 g2 => no H2 (g.trans g2) ?_) (fun u H2 g2 => ?_)
      · refine t_not (t_test (K := K) (d_all ltRow (over_zipT (ds_cons hx (ds_cons (d_slT hx (o_some (K := K) d_int) o_none) ds_nil))) (by rw [zipD_len]; omega) fun d hd G1 v1 e1 hv1 => ?_))
        obtain ⟨a, b, rfl, ha, hb⟩ := zip_mem hd
        obtain ⟨a1, a2, rfl⟩ := isRow_shape (List.all_eq_true.mp hall _ ha)
        obtain ⟨b1, b2, rfl⟩ := isRow_shape (List.all_eq_true.mp hall _ (cut_mem hb))
        obtain ⟨w1, w2, k1, k2, gt⟩ := g_tup2 (i := 2) (j := 3) hv1
        refine ⟨_, fun H3 e3 Q q => gt _ H3 e3 Q q, rfl, ?_⟩
        exact d_op (d_op (d_var rfl k1) d_int (r_ixT at0)) (d_op (d_var rfl k2) d_int (r_ixT at0)) r_lt
      · show (rs.all isRow && (zipD rs (cutD rs (some 1) none)).all ltRow) = false
        rw [nt u, Bool.and_false]
      · have hok : okSum (.tuple rs) = true := by
          show (rs.all isRow && (zipD rs (cutD rs (some 1) none)).all ltRow) = true
          rw [hall, nf u]
          rfl
        rw [hok] at q
        exact q .non G H2 (g.trans g2) .non
  | _ => exact s_ifD (G := G) (b := true) (t_orT (t_not (t_test (K := K) (d_isx hx isa_tuple)))) e (fun u H1 g => no H1 g rfl) (fun u => by cases u)
end
end K61
end
section
set_option Elab.async false
set_option linter.all false
set_option maxRecDepth 100000
set_option maxHeartbeats 4000000
set_option exponentiation.threshold 4000
namespace K61
open PySem PySem.Spec PyProof.Rows L2 Evl Sy RZ
open scoped Rat
/-! ### good rows pass the checks -/
theorem frac_ok {q : Rat} (h : Bd (720 * 10 ^ 12) q) : isFrac (frQ q) = true := by
  have h1 := h.num
  have h2 := h.den
  have h3 := q.den_pos
  have h4 : Int.gcd q.num (q.den : Int) = 1 := by
    have := q.reduced
    show Nat.gcd q.num.natAbs (q.den : Int).natAbs = 1
    rw [Int.natAbs_natCast]
    exact this
  have e : (10 : Int) ^ 200 > 720 * 10 ^ 12 := by decide +kernel
  have a1 : isNum (.int q.num) = true := by
    simp only [isNum, Bool.and_eq_true, decide_eq_true_eq]
    constructor <;> omega
  have a2 : isNum (.int (q.den : Int)) = true := by
    simp only [isNum, Bool.and_eq_true, decide_eq_true_eq]
    constructor <;> omega
  show (isNum (.int q.num) && isNum (.int (q.den : Int)) && (decide (0 < (q.den : Int)) && decide (((Int.gcd q.num (q.den : Int) : Nat) : Int) = 1))) = true
  rw [a1, a2, h4]
  have : decide (0 < (q.den : Int)) = true := decide_eq_true (by omega)
  rw [this]
  rfl
theorem atD_last {ds : List D} {d : D} (h : ds.getLast? = some d) : atD ds (-1) = some d := by
  have hn : ds ≠ [] := fun e => by rw [e] at h; cases h
  have hl : 0 < ds.length := List.length_pos_iff.mpr hn
  unfold atD
  have e : ixN ds.length (-1) = some (ds.length - 1) := by
    unfold ixN
    rw [if_neg (by omega), if_pos (by omega)]
    congr 1
    omega
  rw [e]
  show ds[ds.length - 1]? = some d
  rw [← List.getLast?_eq_getElem?]
  exact h
theorem row_ok {x : Row} (h : RowOk x) : isRow (rowD x) = true := by
  obtain ⟨b, cs⟩ := x
  have h1 := h.lo
  have h2 := h.hi
  have h3 := h.one
  have h4 := h.most
  simp only at h1 h2 h3 h4
  have e : (10 : Int) ^ 200 > 64 := by decide +kernel
  have a1 : isNum (.int b) = true := by
    simp only [isNum, Bool.and_eq_true, decide_eq_true_eq]
    constructor <;> omega
  have a2 : (decide (1 ≤ b) && decide (b ≤ 64)) = true := by
    rw [decide_eq_true h1, decide_eq_true h2]
    rfl
  have a3 : (decide (1 ≤ ((cs.map frQ).length : Int)) && decide (((cs.map frQ).length : Int) ≤ 60)) = true := by
    rw [List.length_map, decide_eq_true (by omega), decide_eq_true (by omega)]
    rfl
  have a4 : (cs.map frQ).all isFrac = true := by
    rw [List.all_map, List.all_eq_true]
    exact fun c hc => frac_ok (h.bd c hc)
  have a5 : lastOk (cs.map frQ) = true := by
    have hn : cs ≠ [] := fun e => by rw [e] at h3; exact absurd h3 (by decide)
    obtain ⟨c, hc⟩ : ∃ c, cs.getLast? = some c := ⟨_, List.getLast?_eq_getLast hn⟩
    have hl := h.last c hc
    unfold lastOk
    rw [atD_last (d := frQ c) (by rw [List.getLast?_map, hc]; rfl)]
    show (!PyData.eqv (.tuple [.int c.num, .int (c.den : Int)]) (.tuple [.int 0, .int 1])) = true
    simp [PyData.eqv, PyData.eqvAll, hl]
  show (isNum (.int b) && (decide (1 ≤ b) && decide (b ≤ 64)) && (decide (1 ≤ ((cs.map frQ).length : Int)) && decide (((cs.map frQ).length : Int) ≤ 60)) && ((cs.map frQ).all isFrac && lastOk (cs.map frQ))) = true
  rw [a1, a2, a3, a4, a5]
  rfl
theorem cut_get {ds : List D} {i : Nat} {b : D} (h : (Sy.cutD ds (some 1) none)[i]? = some b) : ds[i + 1]? = some b := by
  unfold Sy.cutD at h
  rw [List.getElem?_take] at h
  split at h
  · rw [List.getElem?_drop, show HT.sIx ds.length 0 (some 1) = min 1 ds.length from HT.sIx_nat ds.length 0 1] at h
    by_cases hn : ds.length = 0
    · rw [List.eq_nil_of_length_eq_zero hn] at h
      simp at h
    · rwa [show min 1 ds.length + i = i + 1 by omega] at h
  · cases h
theorem rows_ok {rows : List Row} (h : RowsOk rows) : okSum (rowsD rows) = true := by
  show ((rows.map rowD).all isRow && (zipD (rows.map rowD) (cutD (rows.map rowD) (some 1) none)).all ltRow) = true
  rw [Bool.and_eq_true]
  constructor
  · rw [List.all_map, List.all_eq_true]
    exact fun x hx => row_ok (h.row x hx)
  · rw [List.all_eq_true]
    intro d hd
    obtain ⟨⟨a, b⟩, h1, rfl⟩ := List.mem_map.mp hd
    obtain ⟨i, hi⟩ := List.mem_iff_getElem?.mp h1
    obtain ⟨k1, k2⟩ := List.getElem?_zip_eq_some.mp hi
    have k2 := cut_get k2
    rw [List.getElem?_map] at k1 k2
    obtain ⟨x, hx, rfl⟩ := Option.map_eq_some_iff.mp k1
    obtain ⟨y, hy, rfl⟩ := Option.map_eq_some_iff.mp k2
    obtain ⟨l1, rfl⟩ := List.getElem?_eq_some_iff.mp hx
    obtain ⟨l2, rfl⟩ := List.getElem?_eq_some_iff.mp hy
    exact decide_eq_true (List.pairwise_iff_getElem.mp h.asc i (i + 1) l1 l2 (by omega))
/-! ### sum_at -/
def okMany : D → Bool
  | .int m => isNum (.int m) && (decide (0 ≤ m) && decide (m ≤ 1000))
  | _ => false
def smallT (d : D) : Prop := ∀ rs, d = .tuple rs → rs.length ≤ 100000
inductive Rsum (CB CN : Addr) : List D → Out → Prop
  | bad {d m : D} (hs : smallT d) (h : okSum d = false) : Rsum CB CN [d, m] (.bad CB d)
  | num {d m : D} (hs : smallT d) (h : okSum d = true) (hm : okMany m = false) : Rsum CB CN [d, m] (.bad CN m)
  | val {rows : List Row} {m : Int} (h : RowsOk rows) (h0 : 0 ≤ m) (h1 : m ≤ 40) : Rsum CB CN [rowsD rows, .int m] (.val (frQ (Vr m rows rows.length)))
theorem rows_small {rows : List Row} (h : RowsOk rows) : smallT (rowsD rows) := fun rs e => by
  cases e
  have := h.most
  rw [List.length_map]
  omega
theorem bd_lt {M k : Nat} {q : Rat} (h : Bd M q) (e : M < 2 ^ 3000) : q.num.natAbs < 2 ^ 3000 ∧ q.den < 2 ^ 3000 := by
  have h1 := h.num
  have h2 := h.den
  have : 720 < 2 ^ 3000 := by decide +kernel
  exact ⟨by omega, by omega⟩
theorem TP_lt : 60 * TP < 2 ^ 3000 := by decide +kernel
theorem TV_lt3 : 5 * TV < 2 ^ 3000 := by decide +kernel
theorem int_lt {t : Int} {k : Nat} (h : t.natAbs ≤ k) (e : k < 2 ^ 3000) : ((t : Rat)).num.natAbs < 2 ^ 3000 ∧ ((t : Rat)).den < 2 ^ 3000 := by
  refine ⟨?_, ?_⟩
  · show t.natAbs < _
    omega
  · show 1 < 2 ^ 3000
    decide +kernel
theorem getD_at {cs : List Rat} {i : Nat} {d : D} (h : (cs.map frQ)[i]? = some d) : d = frQ (cs.getD i 0) := by
  rw [List.getElem?_map] at h
  obtain ⟨c, hc, rfl⟩ := Option.map_eq_some_iff.mp h
  rw [List.getD_eq_getElem?_getD, hc]
  rfl
theorem rowD_at {rows : List Row} {i : Nat} {d : D} (h : (rows.map rowD)[i]? = some d) : i < rows.length ∧ d = rowD (rows.getD i (0, [])) := by
  rw [List.getElem?_map] at h
  obtain ⟨c, hc, rfl⟩ := Option.map_eq_some_iff.mp h
  rw [List.getD_eq_getElem?_getD, hc]
  exact ⟨(List.getElem?_eq_some_iff.mp hc).1, rfl⟩
section
variable {P : Program} {w : World} {K : PySem.W.Frag} {mg : Str → Option Value} {base : Heap}
theorem C_sum_at {DS CB CN : Addr} (B : Bi mg) (Y_BadNumber : SayK P K mg DS CN "BadNumber") (C_check_sum : CalO P w K mg base (L2.CX P w) 4 "check_sum" ["value"] (spX K (Rcheck CB))) (C_is_number : CalO P w K mg base CX0 1 "is_number" ["value"] (spR K (Rb isNum)))
    (C_added : CalO P w K mg base CX0 3 "added" ["one", "other"] (spR K (Rop fun p q => p + q))) (C_multiplied : CalO P w K mg base CX0 3 "multiplied" ["one", "other"] (spR K (Rop fun p q => p * q))) (C_power_of : CalO P w K mg base CX0 1 "power_of" ["base", "many"] (spR K Rpow))
    (F : DefAt K mg "sum_at" s_sum_at) : CalO P w K mg base (L2.CX P w) 5 "sum_at" ["told", "many"] (spX K (Rsum CB CN)) := by
  refine calX_mk F S_sum_at b_sum_at (lenX fun ds z h => by cases h <;> rfl) fun f cdv A outer s H vs Q E hr h => ?_
  refine ⟨_, pss_cons (ps_expr (pe_calE C_check_sum hr (passes_call (takes_of rfl rfl rfl rfl) fun _ _ _ _ h => h) (pa_cons (pv 0) pa_nil)))
      (pss_cons (ps_if (PW.pt (pw_or (pt_not (pt_val (pe_cal C_is_number hr (pa_cons (pv 1) pa_nil)))) (pw_or1 (pt_not (pt_chain op_le op_le (pe_int) (pv 1) (pe_const B.c_MOST_MANY)))))) (pss_one (ps_raise rfl (takes_of rfl rfl rfl rfl) (pmk_sayK Y_BadNumber (hr.mono (by decide)) (pv 1)))) (pss_nil))
      (pss_cons (ps_set (i := 2) S_sum_at.nd rfl (Or.inl rfl) (pe_tup (pa_cons (pe_int) (pa_cons (pe_int) pa_nil))))
      (pss_cons (ps_for PassesOwn.leaving rfl (pi_tup (pv 0)) (pg_tup rfl (pgs_cons (pg_name (i := 3) S_sum_at.nd rfl (Or.inl rfl)) (pgs_cons (pg_name (i := 4) S_sum_at.nd rfl (Or.inl rfl)) pgs_nil))) (pss_cons (ps_asg (pe_tup (pa_cons (pe_tup (pa_cons (pe_int) (pa_cons (pe_int) pa_nil))) (pa_cons (pe_int) pa_nil))) (pg_tup rfl (pgs_cons (pg_name (i := 5) S_sum_at.nd rfl (Or.inl rfl)) (pgs_cons (pg_name (i := 6) S_sum_at.nd rfl (Or.inl rfl)) pgs_nil))))
      (pss_cons (ps_for PassesOwn.leaving rfl (pi_tup (pv 4)) (pg_name (i := 7) S_sum_at.nd rfl (Or.inl rfl)) (pss_one (ps_par (i := 5) (j := 6) (by rfl) S_sum_at.nd rfl rfl (by decide) rfl rfl (pa_cons (pe_cal C_added hr (pa_cons (pv 5) (pa_cons (pe_cal C_multiplied hr (pa_cons (pv 7) (pa_cons (pe_tup (pa_cons (pv 6) (pa_cons (pe_int) pa_nil))) pa_nil))) pa_nil))) (pa_cons (pe_op op_mulW (pv 6) (pv 1)) pa_nil)) (by rfl))))
      (pss_one (ps_set (i := 2) S_sum_at.nd rfl (Or.inl rfl) (pe_cal C_added hr (pa_cons (pv 2) (pa_cons (pe_cal C_multiplied hr (pa_cons (pv 5) (pa_cons (pe_tup (pa_cons (pe_cal C_power_of hr (pa_cons (pv 3) (pa_cons (pv 1) pa_nil))) (pa_cons (pe_int) pa_nil))) pa_nil))) pa_nil))))))))
      (pss_one (ps_ret (pv 2)))))), ?_⟩
  obtain ⟨G, ds, z, e, hv, R, q⟩ := h
  cases R with
  | @bad d m hs h =>
    obtain ⟨v, u, rfl, h1, h2⟩ := dpa2 hv
    exact x_call (ds_cons (d_var (i := 0) (σ := L2.start N_sum_at [v, u]) rfl h1) ds_nil) e ⟨d, rfl, hs, by rw [h]; rfl⟩ q
  | @num d m hs h hm =>
    obtain ⟨v, u, rfl, h1, h2⟩ := dpa2 hv
    refine s_exprD (K := K) (G := G) (d_callX (ds_cons (d_var (i := 0) (σ := L2.start N_sum_at [v, u]) rfl h1) ds_nil) (z := .none) ⟨d, rfl, hs, by rw [h]; rfl⟩) e fun _ G1 H1 g1 _ => ?_
    dsimp only
    have hx : EvD K (tVar 1) (L2.start N_sum_at [v, u]) G1 m := d_var rfl (h2.ex g1.g)
    refine s_ifD (G := G1) (b := true) ?_ g1.gh (fun _ H2 g2 => x_say hx g2.gh (Rzd.gro (g1.trans g2) q)) (fun z => by cases z)
    cases hn : isNum m with
    | false => exact t_orT (t_is (t_not (t_test (K := K) (d_call (ds_cons hx ds_nil) ⟨m, rfl, rfl⟩))) (by rw [hn]; rfl))
    | true =>
      obtain ⟨i, rfl⟩ := isNum_int hn
      refine t_orF (t_is (t_not (t_test (K := K) (d_call (ds_cons hx ds_nil) ⟨_, rfl, rfl⟩))) (by rw [hn]; rfl)) (t_is (t_not (t_test (K := K) (d_chain (K := K) (G := G1) d_int hx r_le fun _ => ⟨d_int, r_le⟩))) ?_)
      have : (isNum (.int i) && (decide (0 ≤ i) && decide (i ≤ 1000))) = false := hm
      rw [hn, Bool.true_and] at this
      rw [this]
      rfl
  | @val rows m h h0 h1 =>
    obtain ⟨v, u, rfl, k1, k2⟩ := dpa2 hv
    obtain rfl := dp_int k2
    refine s_exprD (K := K) (G := G) (d_callX (ds_cons (d_var (i := 0) (σ := L2.start N_sum_at [v, .int m]) rfl k1) ds_nil) (z := .none) ⟨_, rfl, rows_small h, by rw [rows_ok h]; rfl⟩) e fun _ G1 H1 g1 _ => ?_
    dsimp only
    have hx : EvD K (tVar 1) (L2.start N_sum_at [v, .int m]) G1 (.int m) := d_var rfl (.int m)
    refine s_ifD (G := G1) (b := false) ?_ g1.gh (fun z => by cases z) (fun _ H2 g2 => ?_)
    · have hn : isNum (.int m) = true := by
        have : (10 : Int) ^ 200 > 40 := by decide +kernel
        simp only [isNum, Bool.and_eq_true, decide_eq_true_eq]
        constructor <;> omega
      refine t_orF (t_is (t_not (t_test (K := K) (d_call (ds_cons hx ds_nil) ⟨_, rfl, rfl⟩))) (by rw [hn]; rfl)) (t_is (t_not (t_test (K := K) (d_chain (K := K) (G := G1) d_int hx r_le fun _ => ⟨d_int, r_le⟩))) ?_)
      rw [decide_eq_true h0, decide_eq_true (show m ≤ 1000 by omega)]
      rfl
    dsimp only [tNext]
    refine s_let (K := K) (G := G1) (d := frQ 0) (d_tup (ds_cons d_int (ds_cons d_int ds_nil))) g2.gh fun tv G3 H3 g3 k3 => ?_
    dsimp only
    have g03 := (g1.trans g2).trans g3
    refine s_forD (K := K) (G := G3) (over_tup (d_var (i := 0) (σ := [some v, some (.int m), some tv, none, none, none, none, none]) rfl (k1.ex g03.g))) g03.gh
      (fun G4 i σ G' H' => Gro G H G' H' ∧ Ex G4 G' ∧ ∃ t o3 o4 o5 o6 o7, σ = [some v, some (.int m), some t, o3, o4, o5, o6, o7] ∧ Dp K G' t (frQ (Vr m rows i)))
      (fun G4 H4 g4 => ⟨g03.trans g4, Ex.refl _, tv, _, _, _, _, _, rfl, k3.ex g4.g⟩)
      (fun G4 i σ G' H' ⟨a, b, _⟩ => ⟨b, a.gh⟩) (fun G4 i d x σ' G' H' hd ⟨a, b, t, o3, o4, o5, o6, o7, hs, ht⟩ hx => ?_)
      (fun G4 i σ' G' H' G'' H'' ⟨a, b, t, o3, o4, o5, o6, o7, hs, ht⟩ g => ⟨a.trans g, b.trans g.g, t, o3, o4, o5, o6, o7, hs, ht.ex g.g⟩) (fun G4 σ' G' H' ⟨a, b, t, o3, o4, o5, o6, o7, hs, ht⟩ => ?_)
    · subst hs
      obtain ⟨hi, rfl⟩ := rowD_at hd
      have ok := row_at h hi
      generalize hrow : rows.getD i (0, []) = row at hx ok
      obtain ⟨b, cs⟩ := row
      obtain ⟨bv, sv, kb, ks, gt⟩ := g_tup2 (i := 3) (j := 4) hx
      obtain rfl := dp_int kb
      refine gt _ H' a.gh _ ?_
      dsimp only
      refine s_pair (K := K) (G := G') (x := frQ 0) (y := .int 1) (d_tup (ds_cons (d_tup (ds_cons d_int (ds_cons d_int ds_nil))) (ds_cons d_int ds_nil))) a.gh fun pv tv' G5 H5 g5 kp kt => ?_
      obtain rfl := dp_int kt
      dsimp only
      have c1 : cs.length ≤ 60 := ok.most
      refine s_forD (K := K) (G := G5) (over_tup (d_var (i := 4) (σ := [some v, some (.int m), some t, some (.int b), some sv, some pv, some (.int 1), o7]) rfl (ks.ex g5.g))) g5.gh
        (fun G6 j σ G' H' => Gro G5 H5 G' H' ∧ Ex G6 G' ∧ ∃ p o7, σ = [some v, some (.int m), some t, some (.int b), some sv, some p, some (.int (m ^ j)), o7] ∧ Dp K G' p (frQ (Pl m cs j)))
        (fun G6 H6 g6 => ⟨g6, Ex.refl _, pv, o7, by simp only [Int.pow_zero]; rfl, kp.ex g6.g⟩)
        (fun G6 j σ G' H' ⟨a, b, _⟩ => ⟨b, a.gh⟩) (fun G6 j d x σ' G' H' hd ⟨a, b', p, o7, hs, hp⟩ hx => ?_)
        (fun G6 j σ' G' H' G'' H'' ⟨a, b, p, o7, hs, hp⟩ g => ⟨a.trans g, b.trans g.g, p, o7, hs, hp.ex g.g⟩) (fun G6 σ' G' H' ⟨a, b', p, o7, hs, hp⟩ => ?_)
      · subst hs
        have hj : j < cs.length := by
          have := (List.getElem?_eq_some_iff.mp hd).1
          rwa [List.length_map] at this
        have := getD_at hd
        subst this
        have bc := coef_bd ok j
        have lc := bd_lt (k := 0) bc (by decide +kernel)
        have pw := pow_le h0 h1 (i := j) (by omega)
        have lt := int_lt pw (by decide +kernel)
        have bp := P_bd h0 h1 ok j (by omega)
        have lp := bd_lt (k := 0) bp (by have := TP_lt; have : j * TP ≤ 60 * TP := Nat.mul_le_mul_right _ (by omega); omega)
        have bm := (bc.mul (m ^ j)).mono (Nat.mul_le_mul_left _ pw)
        have lm := bd_lt (k := 0) bm (by decide +kernel)
        refine s_par2 (K := K) (G := G') (x := frQ (Pl m cs (j + 1))) (y := .int (m ^ (j + 1)))
          (ds_cons (d_call (ds_cons (d_var (i := 5) rfl hp) (ds_cons (d_call (z := frQ (cs.getD j 0 * ((m ^ j : Int) : Rat))) (ds_cons (d_var rfl hx) (ds_cons (d_tup (ds_cons (d_var rfl (.int _)) (ds_cons d_int ds_nil))) ds_nil)) ⟨cs.getD j 0, ((m ^ j : Int) : Rat), rfl, lc.1, lt.1, lc.2, lt.2, rfl⟩) ds_nil)) ⟨_, _, rfl, lp.1, lm.1, lp.2, lm.2, rfl⟩)
            (ds_cons (d_is (d_op (d_var rfl (.int _)) (d_var rfl (.int m)) (r_mul (mulW 400 10 (Nat.lt_of_le_of_lt pw (by decide +kernel)) (by omega)))) (by rw [Int.pow_succ])) ds_nil)) a.gh fun pv' tv'' G7 H7 g7 kp' kt' => ?_
        obtain rfl := dp_int kt'
        exact ⟨G7, a.trans g7, b'.trans g7.g, pv', _, rfl, kp'⟩
      · subst hs
        rw [List.length_map] at hp
        dsimp only
        have bp := (P_bd h0 h1 ok cs.length ok.most).mono (Nat.mul_le_mul_right _ ok.most)
        have lp := bd_lt (k := 0) bp TP_lt
        have hpw : (b ^ m.toNat).natAbs ≤ 64 ^ 40 := bpow_le (by have := ok.lo; simp only at this; omega) ok.hi (by omega)
        have lw := int_lt hpw (by decide +kernel)
        have bq : Bd TV (Pl m cs cs.length * ((b ^ m.toNat : Int) : Rat)) := (bp.mul (b ^ m.toNat)).mono (Nat.mul_le_mul_left _ hpw)
        have lq := bd_lt (k := 0) bq (by have := TV_lt3; omega)
        have bv := V_bd h0 h1 h i (by omega)
        have lv := bd_lt (k := 0) bv (by have := TV_lt3; have := h.most; have : i * TV ≤ 5 * TV := Nat.mul_le_mul_right _ (by omega); omega)
        refine s_let (K := K) (G := G') (d := frQ (Vr m rows (i + 1)))
          (d_is (d_call (z := frQ (Vr m rows i + Pl m cs cs.length * ((b ^ m.toNat : Int) : Rat))) (ds_cons (d_var (i := 2) rfl (ht.ex (g5.g.trans a.g))) (ds_cons (d_call (z := frQ (Pl m cs cs.length * ((b ^ m.toNat : Int) : Rat))) (ds_cons (d_var rfl hp) (ds_cons (d_tup (ds_cons (d_call (z := .int (b ^ m.toNat)) (ds_cons (d_var rfl (.int b)) (ds_cons (d_var rfl (.int m)) ds_nil)) ⟨b, m, rfl, ok.lo, ok.hi, h0, by omega, rfl⟩) (ds_cons d_int ds_nil))) ds_nil)) ⟨_, _, rfl, lp.1, lw.1, lp.2, lw.2, rfl⟩) ds_nil)) ⟨_, _, rfl, lv.1, lq.1, lv.2, lq.2, rfl⟩) ?_) a.gh fun tv3 G8 H8 g8 k8 => ?_
        · rw [Vr, hrow]
        · exact ⟨G8, (‹Gro G H _ _›.trans (g5.trans a)).trans g8, (‹Ex G4 _›.trans (g5.g.trans a.g)).trans g8.g, tv3, _, _, _, _, _, rfl, k8⟩
    · subst hs
      rw [List.length_map] at ht
      exact s_retD (K := K) (G := G') (d_var (i := 2) rfl ht) a.gh fun v G9 H9 g9 h9 => q v G9 H9 (a.trans g9) h9
end
end K61
end
section
set_option Elab.async false
set_option linter.all false
set_option maxRecDepth 100000
set_option maxHeartbeats 4000000
set_option exponentiation.threshold 4000
namespace K61
open PySem PySem.Spec PyProof.Rows L2 Evl Sy RZ
open scoped Rat
abbrev sI (n : Int) : Str := Str.ofString (toString n)
def fracS (n d : Int) : Str := if d = 1 then sI n else sI n ++ "/" ++ sI d
def partS (n d i : Int) : Str := if i = 0 then fracS n d else fracS n d ++ (if i = 1 then ("*n" : Str) else "*n^" ++ sI i)
def fS : D → Option Str
  | .tuple [.int i, .tuple [.int n, .int d]] => if n = 0 then none else some (partS n d i)
  | _ => none
def partsS (cs : List Rat) : List Str := (enumD (cs.map frQ)).filterMap fS
def innerS (ps : List Str) : Str := if (ps.length : Int) = 1 then ps.headD "" else ("(" : Str) ++ Txt.join " + " ps ++ ")"
def rowT (x : Row) : Str := innerS (partsS x.2) ++ "*" ++ sI x.1 ++ "^n"
def textS (rows : List Row) : Str := if rows.isEmpty then ("0" : Str) else Txt.join " + " (rows.map rowT)
def Rpart (ds : List D) (z : D) : Prop := ∃ n d i : Int, ds = [.tuple [.int n, .int d], .int i] ∧ n.natAbs < 10 ^ 18 ∧ d.natAbs < 10 ^ 18 ∧ 0 ≤ i ∧ i ≤ 60 ∧ z = .str (partS n d i)
theorem log_lt {n : Nat} (h : n < 10 ^ 18) : n.log2 < 1920 := by
  by_cases h0 : n = 0
  · subst h0; decide
  · refine (Nat.log2_lt h0).mpr (Nat.lt_of_lt_of_le h ?_)
    exact Nat.le_trans (show 10 ^ 18 ≤ 2 ^ 60 by decide) (Nat.pow_le_pow_right (by decide) (by decide))
theorem sI_len {n : Int} (h : n.natAbs < 10 ^ 18) : (sI n).length ≤ 19 := by
  rw [PySem.ofString_length]
  exact int_text_length_le10 (by decide) h
theorem len_app (a b : Str) : (a ++ b).length = a.length + b.length := Str.length_append a b
theorem fracS_len {n d : Int} (h : n.natAbs < 10 ^ 18) (h2 : d.natAbs < 10 ^ 18) : (fracS n d).length ≤ 39 := by
  have e1 := sI_len h
  have e2 := sI_len h2
  unfold fracS
  split
  · omega
  · rw [len_app, len_app]
    have : ("/" : Str).length = 1 := rfl
    omega
theorem small18 {i : Int} (h0 : 0 ≤ i) (h : i ≤ 60) : i.natAbs < 10 ^ 18 := by
  have : (60 : Nat) < 10 ^ 18 := by decide
  omega
theorem partS_len {n d i : Int} (h : n.natAbs < 10 ^ 18) (h2 : d.natAbs < 10 ^ 18) (h3 : 0 ≤ i) (h4 : i ≤ 60) : (partS n d i).length ≤ 61 := by
  have e1 := fracS_len h h2
  have e2 := sI_len (small18 h3 h4)
  have c1 : ("*n" : Str).length = 2 := rfl
  have c2 : ("*n^" : Str).length = 3 := rfl
  unfold partS
  split
  · omega
  · rw [len_app]
    split
    · omega
    · rw [len_app]
      omega
theorem sz61 {k : Nat} (h : k ≤ 100000) : k ≤ sizeLine := sz_of h
theorem fracS_eq (n d : Int) : sI n ++ (if (!decide (d = 1)) = true then ("/" : Str) ++ sI d else "") = fracS n d := by
  unfold fracS
  by_cases h : d = 1
  · rw [decide_eq_true h, if_pos h]
    exact Str.append_empty _
  · rw [decide_eq_false h, if_neg h]
    exact (Str.append_assoc _ _ _).symm
theorem partS_eq {n d i : Int} (h : ¬ i = 0) (h0 : 0 ≤ i) : fracS n d ++ "*n" ++ (if decide (1 < i) = true then ("^" : Str) ++ sI i else "") = partS n d i := by
  unfold partS
  rw [if_neg h, Str.append_assoc]
  congr 1
  by_cases h1 : i = 1
  · subst h1
    exact Str.append_empty _
  · rw [if_neg h1, decide_eq_true (show 1 < i by omega)]
    show ("*n" : Str) ++ ("^" ++ sI i) = "*n^" ++ sI i
    rw [← Str.append_assoc]
    rfl
section
variable {P : Program} {w : World} {K : PySem.W.Frag} {mg : Str → Option Value} {base : Heap}
theorem d_ifc {b : Bool} {t : TT} {ta tb : TE} {σ : L2.St} {G : Hp} {x y : D} (h : EvB t σ G b) (h1 : b = true → EvD K ta σ G x) (h2 : b = false → EvD K tb σ G y) : EvD K (tIf t ta tb) σ G (if b = true then x else y) :=
  d_if h (fun z => by rw [if_pos z]; exact h1 z) fun z => by rw [z, if_neg (by decide)]; exact h2 z
theorem ifstr {b : Prop} [Decidable b] {x y : Str} : (if b then PyData.str x else PyData.str y) = .str (if b then x else y) := by split <;> rfl
theorem C_number_text (B : Bi mg) (F : DefAt K mg "number_text" s_number_text) : CalO P w K mg base CX0 1 "number_text" ["one", "many"] (spR K Rpart) := by
  refine calO_mk F S_number_text b_number_text (lenR fun ds z ⟨a, b, c, h, _⟩ => by rw [h]; rfl) fun f cdv A outer s H vs Q E hr h => ?_
  refine ⟨_, pss_cons (ps_set (i := 2) S_number_text.nd rfl (Or.inl rfl) (pe_op op_add_str (pe_callTy call_str_int (by rfl) B.m_str (by decide +kernel) (pa_cons (pe_ix ix_tup (pv 0) (pe_int) (fun _ _ => rfl)) pa_nil)) (pe_ifExp (pt_cmpR op_ne (pe_ix ix_tup (pv 0) (pe_int) (fun _ _ => rfl)) (pe_int) (nomark _)) (pe_op op_add_str (pe_str) (pe_callTy call_str_int (by rfl) B.m_str (by decide +kernel) (pa_cons (pe_ix ix_tup (pv 0) (pe_int) (fun _ _ => rfl)) pa_nil))) (pe_str))))
      (pss_cons (ps_if (pt_cmpR op_eq (pv 1) (pe_int) (nomark _)) (pss_one (ps_ret (pv 2))) (pss_nil))
      (pss_one (ps_ret (pe_op op_add_str (pe_op op_add_str (pv 2) (pe_str)) (pe_ifExp (pt_cmpR op_gt (pv 1) (pe_int) (nomark _)) (pe_op op_add_str (pe_str) (pe_callTy call_str_int (by rfl) B.m_str (by decide +kernel) (pa_cons (pv 1) pa_nil))) (pe_str)))))), ?_⟩
  obtain ⟨G, ds, z, e, hv, ⟨n, d, i, rfl, hn, hd, hi0, hi1, rfl⟩, q⟩ := h
  obtain ⟨v, u, rfl, k1, k2⟩ := dpa2 hv
  obtain rfl := dp_int k2
  have ln := sI_len hn
  have ld := sI_len hd
  have li := sI_len (small18 hi0 hi1)
  have lf := fracS_len hn hd
  refine s_let (K := K) (G := G) (d := .str (fracS n d)) ?_ e fun v1 G1 H1 g1 h1 => ?_
  · have hx : EvD K (tVar 0) (L2.start N_number_text [v, .int i]) G (.tuple [.int n, .int d]) := d_var rfl k1
    rw [← fracS_eq]
    refine d_op (d_cb (ds_cons (d_op hx d_int (r_ixT at0)) ds_nil) (c_str (log_lt hn))) (d_is (d_ifc (x := .str ("/" ++ sI d)) (y := .str "") (t_test (K := K) (d_op (d_op hx d_int (r_ixT at1)) d_int r_neI)) (fun _ => d_op d_str (d_cb (ds_cons (d_op hx d_int (r_ixT at1)) ds_nil) (c_str (log_lt hd))) (r_addS (sz61 ?_))) (fun _ => d_str)) ifstr) (r_addS (sz61 ?_))
    · have : ("/" : Str).length = 1 := rfl
      show ("/" : Str).length + (sI d).length ≤ _
      omega
    · have : ("/" : Str).length = 1 := rfl
      have : ("" : Str).length = 0 := rfl
      show (sI n).length + (if _ then ("/" : Str) ++ sI d else "").length ≤ _
      split
      · rw [len_app]; omega
      · omega
  obtain rfl := dp_str h1
  dsimp only
  refine s_ifD (G := G1) (b := decide (i = 0)) (t_test (K := K) (d_op (d_var rfl (.int i)) d_int r_eqI)) g1.gh (fun z H2 g2 => ?_) (fun z H2 g2 => ?_)
  · refine s_retD (K := K) (G := G1) (d_var (i := 2) rfl (.str (fracS n d))) g2.gh fun v3 G3 H3 g3 h3 => q v3 G3 H3 ((g1.trans g2).trans g3) ?_
    unfold partS
    rw [if_pos (of_decide_eq_true z)]
    exact h3
  · dsimp only [tNext]
    refine s_retD (K := K) (G := G1) (d := .str (partS n d i)) ?_ g2.gh fun v3 G3 H3 g3 h3 => q v3 G3 H3 ((g1.trans g2).trans g3) h3
    rw [← partS_eq (of_decide_eq_false z) hi0]
    refine d_op (d_op (d_var (i := 2) rfl (.str (fracS n d))) d_str (r_addS (sz61 ?_))) (d_is (d_ifc (x := .str ("^" ++ sI i)) (y := .str "") (t_test (K := K) (d_op (d_var rfl (.int i)) d_int r_gt)) (fun _ => d_op d_str (d_cb (ds_cons (d_var rfl (.int i)) ds_nil) (c_str (log_lt (small18 hi0 hi1)))) (r_addS (sz61 ?_))) (fun _ => d_str)) ifstr) (r_addS (sz61 ?_))
    · have : ("*n" : Str).length = 2 := rfl
      omega
    · have : ("^" : Str).length = 1 := rfl
      show ("^" : Str).length + (sI i).length ≤ _
      omega
    · have : ("^" : Str).length = 1 := rfl
      have : ("*n" : Str).length = 2 := rfl
      have : ("" : Str).length = 0 := rfl
      show (fracS n d ++ "*n").length + (if _ then ("^" : Str) ++ sI i else "").length ≤ _
      rw [len_app]
      split
      · rw [len_app]; omega
      · omega
theorem C_law_part (B : Bi mg) (F : DefAt K mg "_law_part" s__law_part) : CalO P w K mg base CX0 1 "_law_part" ["one", "many"] (spR K Rpart) := by
  refine calO_mk F S__law_part b__law_part (lenR fun ds z ⟨a, b, c, h, _⟩ => by rw [h]; rfl) fun f cdv A outer s H vs Q E hr h => ?_
  refine ⟨_, pss_cons (ps_set (i := 2) S__law_part.nd rfl (Or.inl rfl) (pe_ifExp (pt_cmpR op_eq (pe_ix ix_tup (pv 0) (pe_int) (fun _ _ => rfl)) (pe_int) (nomark _)) (pe_callTy call_str_int (by rfl) B.m_str (by decide +kernel) (pa_cons (pe_ix ix_tup (pv 0) (pe_int) (fun _ _ => rfl)) pa_nil)) (pe_op op_add_str (pe_op op_add_str (pe_callTy call_str_int (by rfl) B.m_str (by decide +kernel) (pa_cons (pe_ix ix_tup (pv 0) (pe_int) (fun _ _ => rfl)) pa_nil)) (pe_str)) (pe_callTy call_str_int (by rfl) B.m_str (by decide +kernel) (pa_cons (pe_ix ix_tup (pv 0) (pe_int) (fun _ _ => rfl)) pa_nil)))))
      (pss_cons (ps_if (pt_cmpR op_eq (pv 1) (pe_int) (nomark _)) (pss_one (ps_ret (pv 2))) (pss_nil))
      (pss_one (ps_ret (pe_op op_add_str (pv 2) (pe_ifExp (pt_cmpR op_eq (pv 1) (pe_int) (nomark _)) (pe_str) (pe_op op_add_str (pe_str) (pe_callTy call_str_int (by rfl) B.m_str (by decide +kernel) (pa_cons (pv 1) pa_nil)))))))), ?_⟩
  obtain ⟨G, ds, z, e, hv, ⟨n, d, i, rfl, hn, hd, hi0, hi1, rfl⟩, q⟩ := h
  obtain ⟨v, u, rfl, k1, k2⟩ := dpa2 hv
  obtain rfl := dp_int k2
  have ln := sI_len hn
  have ld := sI_len hd
  have li := sI_len (small18 hi0 hi1)
  have lf := fracS_len hn hd
  have c1 : ("/" : Str).length = 1 := rfl
  refine s_let (K := K) (G := G) (d := .str (fracS n d)) ?_ e fun v1 G1 H1 g1 h1 => ?_
  · have hx : EvD K (tVar 0) (L2.start N__law_part [v, .int i]) G (.tuple [.int n, .int d]) := d_var rfl k1
    refine d_is (d_ifc (x := .str (sI n)) (y := .str (sI n ++ "/" ++ sI d)) (t_test (K := K) (d_op (d_op hx d_int (r_ixT at1)) d_int r_eqI)) (fun _ => d_cb (ds_cons (d_op hx d_int (r_ixT at0)) ds_nil) (c_str (log_lt hn)))
      (fun _ => d_op (d_op (d_cb (ds_cons (d_op hx d_int (r_ixT at0)) ds_nil) (c_str (log_lt hn))) d_str (r_addS (sz61 ?_))) (d_cb (ds_cons (d_op hx d_int (r_ixT at1)) ds_nil) (c_str (log_lt hd))) (r_addS (sz61 ?_)))) ?_
    · show (sI n).length + ("/" : Str).length ≤ _
      omega
    · show (sI n ++ "/").length + (sI d).length ≤ _
      rw [len_app]
      omega
    · unfold fracS
      by_cases h : d = 1
      · rw [decide_eq_true h, if_pos h]; rfl
      · rw [decide_eq_false h, if_neg h]; rfl
  obtain rfl := dp_str h1
  dsimp only
  refine s_ifD (G := G1) (b := decide (i = 0)) (t_test (K := K) (d_op (d_var rfl (.int i)) d_int r_eqI)) g1.gh (fun z H2 g2 => ?_) (fun z H2 g2 => ?_)
  · refine s_retD (K := K) (G := G1) (d_var (i := 2) rfl (.str (fracS n d))) g2.gh fun v3 G3 H3 g3 h3 => q v3 G3 H3 ((g1.trans g2).trans g3) ?_
    unfold partS
    rw [if_pos (of_decide_eq_true z)]
    exact h3
  · dsimp only [tNext]
    have c2 : ("*n^" : Str).length = 3 := rfl
    have c3 : ("*n" : Str).length = 2 := rfl
    refine s_retD (K := K) (G := G1) (d := .str (partS n d i)) ?_ g2.gh fun v3 G3 H3 g3 h3 => q v3 G3 H3 ((g1.trans g2).trans g3) h3
    have hp : partS n d i = fracS n d ++ (if decide (i = 1) = true then ("*n" : Str) else "*n^" ++ sI i) := by
      unfold partS
      rw [if_neg (of_decide_eq_false z)]
      simp only [decide_eq_true_eq]
    rw [hp]
    refine d_op (d_var (i := 2) rfl (.str (fracS n d))) (d_is (d_ifc (x := .str "*n") (y := .str ("*n^" ++ sI i)) (t_test (K := K) (d_op (d_var rfl (.int i)) d_int r_eqI)) (fun _ => d_str) (fun _ => d_op d_str (d_cb (ds_cons (d_var rfl (.int i)) ds_nil) (c_str (log_lt (small18 hi0 hi1)))) (r_addS (sz61 ?_)))) ifstr) (r_addS (sz61 ?_))
    · show ("*n^" : Str).length + (sI i).length ≤ _
      omega
    · show (fracS n d).length + (if _ then ("*n" : Str) else "*n^" ++ sI i).length ≤ _
      split
      · omega
      · rw [len_app]; omega
end
end K61
end
section
set_option Elab.async false
set_option linter.all false
set_option maxRecDepth 100000
set_option maxHeartbeats 4000000
set_option exponentiation.threshold 4000
namespace K61
open PySem PySem.Spec PyProof.Rows L2 Evl Sy RZ
open scoped Rat
def fP (d : D) : Option D := (fS d).map PyData.str
theorem parts_map (cs : List Rat) : (enumD (cs.map frQ)).filterMap fP = (partsS cs).map PyData.str := by
  unfold partsS
  rw [List.map_filterMap]
  rfl
theorem enum_mem {ds : List D} {d : D} (h : d ∈ enumD ds) : ∃ (i : Nat) (x : D), d = .tuple [.int (i : Int), x] ∧ ds[i]? = some x := by
  obtain ⟨⟨x, i⟩, h1, rfl⟩ := List.mem_map.mp h
  refine ⟨i, x, rfl, ?_⟩
  have := List.mem_zipIdx_iff_getElem?.mp h1
  simpa using this
theorem coef_at {x : Row} (h : RowOk x) {i : Nat} {d : D} (hd : (x.2.map frQ)[i]? = some d) : ∃ c, d = frQ c ∧ i < 60 ∧ c.num.natAbs < 10 ^ 18 ∧ (c.den : Int).natAbs < 10 ^ 18 := by
  rw [List.getElem?_map] at hd
  obtain ⟨c, hc, rfl⟩ := Option.map_eq_some_iff.mp hd
  have b := h.bd c (List.mem_of_getElem? hc)
  have h1 := b.num
  have h2 := b.den
  have h3 := (List.getElem?_eq_some_iff.mp hc).1
  have h4 := h.most
  have e1 : 720 * 10 ^ 12 < 10 ^ 18 := by decide
  have e2 : 720 < 10 ^ 18 := by decide
  refine ⟨c, rfl, by omega, by omega, ?_⟩
  rw [Int.natAbs_natCast]
  omega
theorem parts_mem {x : Row} (h : RowOk x) {y : Str} (hy : y ∈ partsS x.2) : y.length ≤ 61 ∧ PyData.strOk y = true := by
  obtain ⟨d, hd, he⟩ := List.mem_filterMap.mp hy
  obtain ⟨i, z, rfl, hz⟩ := enum_mem hd
  obtain ⟨c, rfl, hi, hn, hd⟩ := coef_at h hz
  simp only [frQ, fS] at he
  split at he
  · cases he
  · cases he
    refine ⟨partS_len hn hd (by omega) (by omega), ?_⟩
    have s1 : PyData.strOk (sI c.num) = true := strOk_of _
    have s2 : PyData.strOk (sI (c.den : Int)) = true := strOk_of _
    have s3 : PyData.strOk (sI (i : Int)) = true := strOk_of _
    have s4 : PyData.strOk "/" = true := strOk_of _
    have s5 : PyData.strOk "*n" = true := strOk_of _
    have s6 : PyData.strOk "*n^" = true := strOk_of _
    unfold partS fracS
    repeat' split
    all_goals simp only [strOk_app, s1, s2, s3, s4, s5, s6, Bool.and_self]
theorem parts_len {x : Row} (h : RowOk x) : (partsS x.2).length ≤ 60 := by
  unfold partsS
  refine Nat.le_trans (List.length_filterMap_le _ _) ?_
  rw [enumD_len, List.length_map]
  exact h.most
theorem sum_le {k : Nat} : ∀ (ys : List Str), (∀ y ∈ ys, y.length ≤ k) → (ys.map (·.length)).sum ≤ ys.length * k
  | [], _ => Nat.zero_le _
  | y :: ys, h => by
    have h1 := h y (by simp)
    have h2 := sum_le ys fun z hz => h z (List.mem_cons_of_mem _ hz)
    simp only [List.map_cons, List.sum_cons, List.length_cons, Nat.add_mul]
    omega
theorem join_eqS (y : Str) (parts : List Str) : Txt.join y parts = Str.join y parts := StrLaws.glued_eq_join y parts
theorem parts_join {x : Row} (h : RowOk x) : ((partsS x.2).map (·.length)).sum + (partsS x.2).length * (" + " : Str).length ≤ 4000 := by
  have h1 := sum_le (partsS x.2) fun y hy => (parts_mem h hy).1
  have h2 := parts_len h
  have h3 : (" + " : Str).length = 3 := rfl
  rw [h3]
  have : (partsS x.2).length * 61 ≤ 60 * 61 := Nat.mul_le_mul_right _ h2
  omega
theorem join_le {x : Row} (h : RowOk x) : (Txt.join " + " (partsS x.2)).length ≤ 4000 := by
  rw [join_eqS]
  exact Nat.le_trans (StrLaws.join_length_le _ _) (parts_join h)
theorem inner_le {x : Row} (h : RowOk x) : (innerS (partsS x.2)).length ≤ 4002 := by
  have h1 := join_le h
  have c1 : ("(" : Str).length = 1 := rfl
  have c2 : (")" : Str).length = 1 := rfl
  unfold innerS
  split
  · rename_i e
    cases hp : partsS x.2 with
    | nil => rw [hp] at e; cases e
    | cons y ys =>
      have := (parts_mem h (y := y) (by rw [hp]; simp)).1
      show y.length ≤ _
      omega
  · rw [len_app, len_app]
    omega
theorem strOk_inner {x : Row} (h : RowOk x) : PyData.strOk (innerS (partsS x.2)) = true := by
  unfold innerS
  split
  · rename_i e
    cases hp : partsS x.2 with
    | nil => rw [hp] at e; cases e
    | cons y ys => exact (parts_mem h (y := y) (by rw [hp]; simp)).2
  · rw [strOk_app, strOk_app, join_eqS, strOk_join (strOk_of _) _ fun y hy => (parts_mem h hy).2, show PyData.strOk "(" = true from strOk_of _, show PyData.strOk ")" = true from strOk_of _]
    rfl
theorem base18 {x : Row} (h : RowOk x) : x.1.natAbs < 10 ^ 18 := by
  have := h.lo
  have := h.hi
  have : (64 : Nat) < 10 ^ 18 := by decide
  omega
theorem rowT_le {x : Row} (h : RowOk x) : (rowT x).length ≤ 4100 := by
  have h1 := inner_le h
  have h2 := sI_len (base18 h)
  have c1 : ("*" : Str).length = 1 := rfl
  have c2 : ("^n" : Str).length = 2 := rfl
  unfold rowT
  rw [len_app, len_app, len_app]
  omega
theorem strOk_row {x : Row} (h : RowOk x) : PyData.strOk (rowT x) = true := by
  unfold rowT
  rw [strOk_app, strOk_app, strOk_app, strOk_inner h, show PyData.strOk (sI x.1) = true from strOk_of _, show PyData.strOk "*" = true from strOk_of _, show PyData.strOk "^n" = true from strOk_of _]
  rfl
inductive Rtext (CB : Addr) : List D → Out → Prop
  | bad {d : D} (hs : smallT d) (h : okSum d = false) : Rtext CB [d] (.bad CB d)
  | val {rows : List Row} (h : RowsOk rows) : Rtext CB [rowsD rows] (.val (.str (textS rows)))
def Rltext (ds : List D) (z : D) : Prop := ∃ rows, ds = [rowsD rows] ∧ RowsOk rows ∧ z = .str (textS rows)
theorem texts_take {rows : List Row} {i : Nat} (hi : i < rows.length) : (rows.take (i + 1)).map (fun x => PyData.str (rowT x)) = (rows.take i).map (fun x => PyData.str (rowT x)) ++ [.str (rowT (rows.getD i (0, [])))] := by
  rw [List.take_add_one, List.getD_eq_getElem?_getD, List.getElem?_eq_getElem hi, List.map_append]
  rfl
section
variable {P : Program} {w : World} {K : PySem.W.Frag} {mg : Str → Option Value} {base : Heap}
theorem C_sum_text {CB : Addr} (B : Bi mg) (C_check_sum : CalO P w K mg base (L2.CX P w) 4 "check_sum" ["value"] (spX K (Rcheck CB))) (C_number_text : CalO P w K mg base CX0 1 "number_text" ["one", "many"] (spR K Rpart))
    (F : DefAt K mg "sum_text" s_sum_text) : CalO P w K mg base (L2.CX P w) 5 "sum_text" ["told"] (spX K (Rtext CB)) := by
  refine calX_mk F S_sum_text b_sum_text (lenX fun ds z h => by cases h <;> rfl) fun f cdv A outer s H vs Q E hr h => ?_
  refine ⟨_, pss_cons (ps_expr (pe_calE C_check_sum hr (passes_call (takes_of rfl rfl rfl rfl) fun _ _ _ _ h => h) (pa_cons (pv 0) pa_nil)))
      (pss_cons (ps_set (i := 1) S_sum_text.nd rfl (Or.inl rfl) (pe_lst (pa_nil)))
      (pss_cons (ps_for PassesOwn.leaving rfl (pi_tup (pv 0)) (pg_tup rfl (pgs_cons (pg_name (i := 2) S_sum_text.nd rfl (Or.inl rfl)) (pgs_cons (pg_name (i := 3) S_sum_text.nd rfl (Or.inl rfl)) pgs_nil))) (pss_cons (ps_setLc (i := 4) (own := [("many", 6), ("one", 7)]) rfl S_sum_text.nd rfl rfl (sw_true rfl rfl rfl (by decide +kernel)) (pi_enumT (by rfl) B.m_enumerate (pa_cons (pv 3) pa_nil)) (blkOk_by (own := [("many", 6), ("one", 7)]) (N := N_sum_text) (sc := defScope s_sum_text) (by decide +kernel)) (fun _ _ _ _ _ => pg_tupK (K := K) (n := 2) (by rfl) rfl (pgs_cons (pg_name (i := 6) S_sum_text.nd rfl (Or.inl rfl)) (pgs_cons (pg_name (i := 7) S_sum_text.nd rfl (Or.inl rfl)) pgs_nil))) (fun _ _ _ _ _ => pts_one (pt_cmpR op_ne (pe_ix (ix_tupK (K := K) (by rfl)) (pv 7) (pe_int) (fun _ _ => rfl)) (pe_int) (nomark _))) (fun _ _ _ _ _ => pe_cal C_number_text hr (pa_cons (pv 7) (pa_cons (pv 6) pa_nil))))
      (pss_cons (ps_set (i := 5) S_sum_text.nd rfl (Or.inl rfl) (pe_ifExp (pt_cmpR op_eq (pe_callB call_len_seq (by rfl) B.m_len (by decide +kernel) (pa_cons (pv 4) pa_nil)) (pe_int) (nomark _)) (pe_ix ix_list (pv 4) (pe_int) (fun _ _ => rfl)) (pe_op op_add_str (pe_op op_add_str (pe_str) (pe_join (pe_str) (pv 4))) (pe_str))))
      (pss_one (ps_expr (pe_bm PySem.F.plainAttrs_list PySem.F.slot_list_append PySem.F.type_list_append mt_append (pv 1) (pa_cons (pe_op op_add_str (pe_op op_add_str (pe_op op_add_str (pv 5) (pe_str)) (pe_callTy call_str_int (by rfl) B.m_str (by decide +kernel) (pa_cons (pv 2) pa_nil))) (pe_str)) pa_nil)))))))
      (pss_one (ps_ret (pe_ifExp (pt_cmpR (op_neD hr.units) (pv 1) (pe_lst (pa_nil)) (nomark _)) (pe_join (pe_str) (pv 1)) (pe_str)))))), ?_⟩
  obtain ⟨G, ds, z, e, hv, R, q⟩ := h
  cases R with
  | @bad d hs h =>
    obtain ⟨v, rfl, h1⟩ := dpa1 hv
    exact x_call (ds_cons (d_var (i := 0) (σ := L2.start N_sum_text [v]) rfl h1) ds_nil) e ⟨d, rfl, hs, by rw [h]; rfl⟩ q
  | @val rows h =>
    obtain ⟨v, rfl, k1⟩ := dpa1 hv
    refine s_exprD (K := K) (G := G) (d_callX (ds_cons (d_var (i := 0) (σ := L2.start N_sum_text [v]) rfl k1) ds_nil) (z := .none) ⟨_, rfl, rows_small h, by rw [rows_ok h]; rfl⟩) e fun _ G1 H1 g1 _ => ?_
    dsimp only
    refine s_newL fun p hp => ?_
    dsimp only
    have g0 : Gro G1 H1 G1 (upd H1 p (.lst [])) := (Gro.refl g1.gh).mut hp (gnone g1.gh hp)
    refine s_forD (K := K) (G := G1) (over_tup (d_var (i := 0) (σ := [some v, some (.ref p), none, none, none, none, none, none]) rfl (k1.ex g1.g))) g0.gh
      (fun G4 i σ G' H' => Gro G1 H1 G' H' ∧ Ex G4 G' ∧ G' p = none ∧ ∃ acc o2 o3 o4 o5 o6 o7, σ = [some v, some (.ref p), o2, o3, o4, o5, o6, o7] ∧ H' p = some (.lst acc) ∧ DpAll K G' acc ((rows.take i).map fun x => .str (rowT x)))
      (fun G4 H4 g4 => ⟨g0.trans g4, Ex.refl _, g4.none (by rw [upd_same]; simp) (gnone g1.gh hp), [], _, _, _, _, _, _, rfl, g4.h _ _ upd_same, .nil⟩)
      (fun G4 i σ G' H' ⟨a, b, _⟩ => ⟨b, a.gh⟩) (fun G4 i d x σ' G' H' hd ⟨a, b, gp, acc, o2, o3, o4, o5, o6, o7, hs, ha, hacc⟩ hx => ?_)
      (fun G4 i σ' G' H' G'' H'' ⟨a, b, gp, acc, o2, o3, o4, o5, o6, o7, hs, ha, hacc⟩ g => ⟨a.trans g, b.trans g.g, g.none (by rw [ha]; simp) gp, acc, o2, o3, o4, o5, o6, o7, hs, g.h _ _ ha, hacc.ex g.g⟩) (fun G4 σ' G' H' ⟨a, b, gp, acc, o2, o3, o4, o5, o6, o7, hs, ha, hacc⟩ => ?_)
    · subst hs
      obtain ⟨hi, rfl⟩ := rowD_at hd
      have ok := row_at h hi
      have tk := texts_take hi
      generalize hrow : rows.getD i (0, []) = row at hx ok tk
      obtain ⟨bv, sv, kb, ks, gt⟩ := g_tup2 (i := 2) (j := 3) hx
      obtain rfl := dp_int kb
      refine gt _ H' a.gh _ ?_
      dsimp only
      refine s_let (K := K) (G := G') (d := .list ((partsS row.2).map PyData.str)) (d_is (d_lc (K := K) fP (over_enumT (ds_cons (d_var (i := 3) rfl ks) ds_nil)) (by rw [enumD_len, List.length_map]; have := ok.most; omega) fun d hd G5 u e5 hu => ?_) (by rw [parts_map])) a.gh fun pv G5 H5 g5 kp => ?_
      · obtain ⟨j, z, rfl, hz⟩ := enum_mem hd
        obtain ⟨c, rfl, hj, hn, hdn⟩ := coef_at ok hz
        obtain ⟨w1, w2, l1, l2, gt2⟩ := g_tup2 (i := 6) (j := 7) hu
        obtain rfl := dp_int l1
        refine ⟨_, fun H6 e6 Q q => gt2 _ H6 e6 Q q, rfl, ?_, fun e he => ?_⟩
        · refine t_is (t_test (K := K) (d_op (d_op (d_var (i := 7) rfl l2) d_int (r_ixT at0)) d_int r_neI)) ?_
          simp only [fP, fS, frQ]
          by_cases hc : c.num = 0
          · rw [if_pos hc, decide_eq_true hc]; rfl
          · rw [if_neg hc, decide_eq_false hc]; rfl
        · simp only [fP, fS, frQ] at he
          split at he
          · cases he
          · cases he
            exact d_call (ds_cons (d_var (i := 7) rfl l2) (ds_cons (d_var (i := 6) rfl (.int _)) ds_nil)) ⟨c.num, c.den, j, rfl, hn, hdn, by omega, by omega, rfl⟩
      dsimp only
      have hp5 := g5.none (by rw [ha]; simp) gp
      have c1 : ("(" : Str).length = 1 := rfl
      have c2 : (")" : Str).length = 1 := rfl
      have c3 : ("*" : Str).length = 1 := rfl
      have c4 : ("^n" : Str).length = 2 := rfl
      have j1 := parts_join ok
      have j2 := join_le ok
      have j3 := inner_le ok
      have j4 := sI_len (base18 ok)
      refine s_let (K := K) (G := G5) (d := .str (innerS (partsS row.2))) (d_is (d_ifc (x := .str ((partsS row.2).headD "")) (y := .str (("(" : Str) ++ Txt.join " + " (partsS row.2) ++ ")")) (t_test (K := K) (d_op (d_cb (ds_cons (d_var (i := 4) rfl kp) ds_nil) c_lenL) d_int r_eqI)) (fun z => ?_) (fun z => ?_)) ?_) g5.gh fun iv G6 H6 g6 ki => ?_
      · have z1 := of_decide_eq_true z
        rw [List.length_map] at z1
        refine d_op (d_var (i := 4) rfl kp) d_int (r_ixL ?_)
        cases hq : partsS row.2 with
        | nil => rw [hq] at z1; cases z1
        | cons y ys => exact atD_nat (ds := .str y :: ys.map PyData.str) (j := 0) rfl
      · exact d_op (d_op d_str (d_join d_str (d_var (i := 4) rfl kp) (by omega)) (r_addS (sz61 (by omega)))) d_str (r_addS (sz61 (by show (("(" : Str) ++ _).length + _ ≤ _; rw [len_app]; omega)))
      · unfold innerS
        rw [List.length_map]
        simp only [decide_eq_true_eq]
        split <;> rfl
      obtain rfl := dp_str ki
      dsimp only
      have ha6 := g6.h _ _ (g5.h _ _ ha)
      have hp6 := g6.none (by rw [g5.h _ _ ha]; simp) hp5
      refine s_append (p := p) (acc := acc) rfl ha6 (by rw [hacc.length, List.length_map, List.length_take]; have := h.most; omega) hp6 (d := .str (rowT row)) ?_ g6.gh fun rv G7 H7 g7 hp7 ha7 kr => ?_
      · exact d_op (d_op (d_op (d_var (i := 5) rfl (.str _)) d_str (r_addS (sz61 (by omega)))) (d_cb (ds_cons (d_var (i := 2) rfl (.int row.1)) ds_nil) (c_str (log_lt (base18 ok)))) (r_addS (sz61 (by rw [len_app]; show _ + (sI row.1).length ≤ _; omega)))) d_str (r_addS (sz61 (by show (_ ++ sI row.1).length + _ ≤ _; rw [len_app, len_app]; omega)))
      · refine ⟨G7, ((((a.trans g5).trans g6).trans g7).mut hp hp7), ((b.trans g5.g).trans g6.g).trans g7.g, hp7, acc ++ [rv], _, _, _, _, _, _, rfl, upd_same, ?_⟩
        rw [tk]
        exact (hacc.ex ((g5.g.trans g6.g).trans g7.g)).append (.cons kr .nil)
    · subst hs
      rw [List.length_map, List.take_length] at hacc
      dsimp only
      have fz := a.freeze hp gp ha
      have kl : Dp K (upd G' p (.lst acc)) (.ref p) (.list ((rows.map rowT).map PyData.str)) := by
        rw [List.map_map]
        exact dp_frozen hacc gp
      have hj : ((rows.map rowT).map (·.length)).sum + (rows.map rowT).length * (" + " : Str).length ≤ 16777216 := by
        have h1 := sum_le (rows.map rowT) (k := 4100) fun y hy => by
          obtain ⟨x, hx, rfl⟩ := List.mem_map.mp hy
          exact rowT_le (h.row x hx)
        rw [List.length_map] at h1 ⊢
        have h2 : (" + " : Str).length = 3 := rfl
        have h3 := h.most
        rw [h2]
        have : rows.length * 4100 ≤ 4 * 4100 := Nat.mul_le_mul_right _ h3
        omega
      have sh : SeqAt.shaped (.list ((rows.map rowT).map PyData.str)) = true := shaped_strs fun y hy => by
        obtain ⟨x, hx, rfl⟩ := List.mem_map.mp hy
        exact strOk_row (h.row x hx)
      have hlv : EvD K (tVar 1) [some v, some (.ref p), o2, o3, o4, o5, o6, o7] (upd G' p (.lst acc)) (.list ((rows.map rowT).map PyData.str)) := d_var rfl kl
      refine s_retD (K := K) (G := upd G' p (.lst acc)) (d := .str (textS rows)) ?_ fz.gh fun v9 G9 H9 g9 h9 => q v9 G9 H9 ((g1.trans fz).trans g9) h9
      refine d_is (d_ifc (x := .str (Txt.join " + " (rows.map rowT))) (y := .str "0") (t_test (K := K) (d_op hlv (d_lst ds_nil) (r_neD sh rfl))) (fun _ => d_join d_str hlv hj) (fun _ => d_str)) ?_
      unfold textS
      rw [eqv_nil]
      cases rows <;> rfl
theorem C_law_text (B : Bi mg) (C__law_part : CalO P w K mg base CX0 1 "_law_part" ["one", "many"] (spR K Rpart))
    (F : DefAt K mg "_law_text" s__law_text) : CalO P w K mg base CX0 2 "_law_text" ["rows"] (spR K Rltext) := by
  refine calO_mk F S__law_text b__law_text (lenR fun ds z ⟨a, h, _⟩ => by rw [h]; rfl) fun f cdv A outer s H vs Q E hr h => ?_
  refine ⟨_, pss_cons (ps_set (i := 1) S__law_text.nd rfl (Or.inl rfl) (pe_lst (pa_nil)))
      (pss_cons (ps_for PassesOwn.never rfl (pi_tup (pv 0)) (pg_tup rfl (pgs_cons (pg_name (i := 2) S__law_text.nd rfl (Or.inl rfl)) (pgs_cons (pg_name (i := 3) S__law_text.nd rfl (Or.inl rfl)) pgs_nil))) (pss_cons (ps_setLc (i := 4) (own := [("many", 6), ("one", 7)]) rfl S__law_text.nd rfl rfl (sw_true rfl rfl rfl (by decide +kernel)) (pi_enumT (by rfl) B.m_enumerate (pa_cons (pv 3) pa_nil)) (blkOk_by (own := [("many", 6), ("one", 7)]) (N := N__law_text) (sc := defScope s__law_text) (by decide +kernel)) (fun _ _ _ _ _ => pg_tupK (K := K) (n := 2) (by rfl) rfl (pgs_cons (pg_name (i := 6) S__law_text.nd rfl (Or.inl rfl)) (pgs_cons (pg_name (i := 7) S__law_text.nd rfl (Or.inl rfl)) pgs_nil))) (fun _ _ _ _ _ => pts_one (pt_cmpR op_ne (pe_ix (ix_tupK (K := K) (by rfl)) (pv 7) (pe_int) (fun _ _ => rfl)) (pe_int) (nomark _))) (fun _ _ _ _ _ => pe_cal C__law_part hr (pa_cons (pv 7) (pa_cons (pv 6) pa_nil))))
      (pss_cons (ps_set (i := 5) S__law_text.nd rfl (Or.inl rfl) (pe_ifExp (pt_cmpR op_eq (pe_callB call_len_seq (by rfl) B.m_len (by decide +kernel) (pa_cons (pv 4) pa_nil)) (pe_int) (nomark _)) (pe_ix ix_list (pv 4) (pe_int) (fun _ _ => rfl)) (pe_op op_add_str (pe_op op_add_str (pe_str) (pe_join (pe_str) (pv 4))) (pe_str))))
      (pss_one (ps_expr (pe_bm PySem.F.plainAttrs_list PySem.F.slot_list_append PySem.F.type_list_append mt_append (pv 1) (pa_cons (pe_op op_add_str (pe_op op_add_str (pe_op op_add_str (pv 5) (pe_str)) (pe_callTy call_str_int (by rfl) B.m_str (by decide +kernel) (pa_cons (pv 2) pa_nil))) (pe_str)) pa_nil)))))))
      (pss_one (ps_ret (pe_ifExp (pt_cmpR (op_eqD hr.units) (pv 1) (pe_lst (pa_nil)) (nomark _)) (pe_str) (pe_join (pe_str) (pv 1)))))), ?_⟩
  obtain ⟨G1, ds, z, e, hv, ⟨rows, rfl, h, rfl⟩, q⟩ := h
  · obtain ⟨v, rfl, k1⟩ := dpa1 hv
    have g1 : Gro G1 H G1 H := Gro.refl e
    generalize H = H1 at *
    refine s_newL fun p hp => ?_
    dsimp only
    have g0 : Gro G1 H1 G1 (upd H1 p (.lst [])) := (Gro.refl g1.gh).mut hp (gnone g1.gh hp)
    refine s_forD (K := K) (G := G1) (over_tup (d_var (i := 0) (σ := [some v, some (.ref p), none, none, none, none, none, none]) rfl (k1.ex g1.g))) g0.gh
      (fun G4 i σ G' H' => Gro G1 H1 G' H' ∧ Ex G4 G' ∧ G' p = none ∧ ∃ acc o2 o3 o4 o5 o6 o7, σ = [some v, some (.ref p), o2, o3, o4, o5, o6, o7] ∧ H' p = some (.lst acc) ∧ DpAll K G' acc ((rows.take i).map fun x => .str (rowT x)))
      (fun G4 H4 g4 => ⟨g0.trans g4, Ex.refl _, g4.none (by rw [upd_same]; simp) (gnone g1.gh hp), [], _, _, _, _, _, _, rfl, g4.h _ _ upd_same, .nil⟩)
      (fun G4 i σ G' H' ⟨a, b, _⟩ => ⟨b, a.gh⟩) (fun G4 i d x σ' G' H' hd ⟨a, b, gp, acc, o2, o3, o4, o5, o6, o7, hs, ha, hacc⟩ hx => ?_)
      (fun G4 i σ' G' H' G'' H'' ⟨a, b, gp, acc, o2, o3, o4, o5, o6, o7, hs, ha, hacc⟩ g => ⟨a.trans g, b.trans g.g, g.none (by rw [ha]; simp) gp, acc, o2, o3, o4, o5, o6, o7, hs, g.h _ _ ha, hacc.ex g.g⟩) (fun G4 σ' G' H' ⟨a, b, gp, acc, o2, o3, o4, o5, o6, o7, hs, ha, hacc⟩ => ?_)
    · subst hs
      obtain ⟨hi, rfl⟩ := rowD_at hd
      have ok := row_at h hi
      have tk := texts_take hi
      generalize hrow : rows.getD i (0, []) = row at hx ok tk
      obtain ⟨bv, sv, kb, ks, gt⟩ := g_tup2 (i := 2) (j := 3) hx
      obtain rfl := dp_int kb
      refine gt _ H' a.gh _ ?_
      dsimp only
      refine s_let (K := K) (G := G') (d := .list ((partsS row.2).map PyData.str)) (d_is (d_lc (K := K) fP (over_enumT (ds_cons (d_var (i := 3) rfl ks) ds_nil)) (by rw [enumD_len, List.length_map]; have := ok.most; omega) fun d hd G5 u e5 hu => ?_) (by rw [parts_map])) a.gh fun pv G5 H5 g5 kp => ?_
      · obtain ⟨j, z, rfl, hz⟩ := enum_mem hd
        obtain ⟨c, rfl, hj, hn, hdn⟩ := coef_at ok hz
        obtain ⟨w1, w2, l1, l2, gt2⟩ := g_tup2 (i := 6) (j := 7) hu
        obtain rfl := dp_int l1
        refine ⟨_, fun H6 e6 Q q => gt2 _ H6 e6 Q q, rfl, ?_, fun e he => ?_⟩
        · refine t_is (t_test (K := K) (d_op (d_op (d_var (i := 7) rfl l2) d_int (r_ixT at0)) d_int r_neI)) ?_
          simp only [fP, fS, frQ]
          by_cases hc : c.num = 0
          · rw [if_pos hc, decide_eq_true hc]; rfl
          · rw [if_neg hc, decide_eq_false hc]; rfl
        · simp only [fP, fS, frQ] at he
          split at he
          · cases he
          · cases he
            exact d_call (ds_cons (d_var (i := 7) rfl l2) (ds_cons (d_var (i := 6) rfl (.int _)) ds_nil)) ⟨c.num, c.den, j, rfl, hn, hdn, by omega, by omega, rfl⟩
      dsimp only
      have hp5 := g5.none (by rw [ha]; simp) gp
      have c1 : ("(" : Str).length = 1 := rfl
      have c2 : (")" : Str).length = 1 := rfl
      have c3 : ("*" : Str).length = 1 := rfl
      have c4 : ("^n" : Str).length = 2 := rfl
      have j1 := parts_join ok
      have j2 := join_le ok
      have j3 := inner_le ok
      have j4 := sI_len (base18 ok)
      refine s_let (K := K) (G := G5) (d := .str (innerS (partsS row.2))) (d_is (d_ifc (x := .str ((partsS row.2).headD "")) (y := .str (("(" : Str) ++ Txt.join " + " (partsS row.2) ++ ")")) (t_test (K := K) (d_op (d_cb (ds_cons (d_var (i := 4) rfl kp) ds_nil) c_lenL) d_int r_eqI)) (fun z => ?_) (fun z => ?_)) ?_) g5.gh fun iv G6 H6 g6 ki => ?_
      · have z1 := of_decide_eq_true z
        rw [List.length_map] at z1
        refine d_op (d_var (i := 4) rfl kp) d_int (r_ixL ?_)
        cases hq : partsS row.2 with
        | nil => rw [hq] at z1; cases z1
        | cons y ys => exact atD_nat (ds := .str y :: ys.map PyData.str) (j := 0) rfl
      · exact d_op (d_op d_str (d_join d_str (d_var (i := 4) rfl kp) (by omega)) (r_addS (sz61 (by omega)))) d_str (r_addS (sz61 (by show (("(" : Str) ++ _).length + _ ≤ _; rw [len_app]; omega)))
      · unfold innerS
        rw [List.length_map]
        simp only [decide_eq_true_eq]
        split <;> rfl
      obtain rfl := dp_str ki
      dsimp only
      have ha6 := g6.h _ _ (g5.h _ _ ha)
      have hp6 := g6.none (by rw [g5.h _ _ ha]; simp) hp5
      refine s_append (p := p) (acc := acc) rfl ha6 (by rw [hacc.length, List.length_map, List.length_take]; have := h.most; omega) hp6 (d := .str (rowT row)) ?_ g6.gh fun rv G7 H7 g7 hp7 ha7 kr => ?_
      · exact d_op (d_op (d_op (d_var (i := 5) rfl (.str _)) d_str (r_addS (sz61 (by omega)))) (d_cb (ds_cons (d_var (i := 2) rfl (.int row.1)) ds_nil) (c_str (log_lt (base18 ok)))) (r_addS (sz61 (by rw [len_app]; show _ + (sI row.1).length ≤ _; omega)))) d_str (r_addS (sz61 (by show (_ ++ sI row.1).length + _ ≤ _; rw [len_app, len_app]; omega)))
      · refine ⟨G7, ((((a.trans g5).trans g6).trans g7).mut hp hp7), ((b.trans g5.g).trans g6.g).trans g7.g, hp7, acc ++ [rv], _, _, _, _, _, _, rfl, upd_same, ?_⟩
        rw [tk]
        exact (hacc.ex ((g5.g.trans g6.g).trans g7.g)).append (.cons kr .nil)
    · subst hs
      rw [List.length_map, List.take_length] at hacc
      dsimp only
      have fz := a.freeze hp gp ha
      have kl : Dp K (upd G' p (.lst acc)) (.ref p) (.list ((rows.map rowT).map PyData.str)) := by
        rw [List.map_map]
        exact dp_frozen hacc gp
      have hj : ((rows.map rowT).map (·.length)).sum + (rows.map rowT).length * (" + " : Str).length ≤ 16777216 := by
        have h1 := sum_le (rows.map rowT) (k := 4100) fun y hy => by
          obtain ⟨x, hx, rfl⟩ := List.mem_map.mp hy
          exact rowT_le (h.row x hx)
        rw [List.length_map] at h1 ⊢
        have h2 : (" + " : Str).length = 3 := rfl
        have h3 := h.most
        rw [h2]
        have : rows.length * 4100 ≤ 4 * 4100 := Nat.mul_le_mul_right _ h3
        omega
      have sh : SeqAt.shaped (.list ((rows.map rowT).map PyData.str)) = true := shaped_strs fun y hy => by
        obtain ⟨x, hx, rfl⟩ := List.mem_map.mp hy
        exact strOk_row (h.row x hx)
      have hlv : EvD K (tVar 1) [some v, some (.ref p), o2, o3, o4, o5, o6, o7] (upd G' p (.lst acc)) (.list ((rows.map rowT).map PyData.str)) := d_var rfl kl
      refine s_retD (K := K) (G := upd G' p (.lst acc)) (d := .str (textS rows)) ?_ fz.gh fun v9 G9 H9 g9 h9 => q v9 G9 H9 ((g1.trans fz).trans g9) h9
      refine d_is (d_ifc (x := .str "0") (y := .str (Txt.join " + " (rows.map rowT))) (t_test (K := K) (d_op hlv (d_lst ds_nil) (r_eqD sh rfl))) (fun _ => d_str) (fun _ => d_join d_str hlv hj)) ?_
      unfold textS
      rw [eqv_nil]
      cases rows <;> rfl
end
end K61
end
section
set_option Elab.async false
set_option linter.all false
set_option maxRecDepth 100000
set_option maxHeartbeats 4000000
set_option exponentiation.threshold 9000
namespace K61
open PySem PySem.Spec PyProof.Rows L2 Evl Sy RZ
open scoped Rat
def Rval (ds : List D) (z : D) : Prop := ∃ rows m, ds = [rowsD rows, .int m] ∧ RowsOk rows ∧ 0 ≤ m ∧ m ≤ 40 ∧ z = frQ (Vr m rows rows.length)
theorem step_q (q c : Rat) (t : Int) : (q.num * (c.den : Int) + c.num * t * (q.den : Int)) /. ((q.den : Int) * (c.den : Int)) = q + c * (t : Rat) := by
  have h := Rat.divInt_add_divInt q.num (c.num * t) (d₁ := (q.den : Int)) (d₂ := (c.den : Int)) (by have := q.den_pos; omega) (by have := c.den_pos; omega)
  have h2 : (c.num * t) /. (c.den : Int) = c * (t : Rat) := by
    have k := Rat.divInt_mul_divInt c.num t (d₁ := (c.den : Int)) (d₂ := 1)
    rw [Int.mul_one] at k
    rw [← k, Rat.num_divInt_den]
    congr 1
    exact Rat.num_divInt_den (t : Rat)
  rw [Rat.num_divInt_den, h2] at h
  exact h.symm
theorem bd700 {M : Nat} {q : Rat} (h : Bd M q) (e : M ≤ 5 * TV) : q.num.natAbs < 2 ^ 700 ∧ (q.den : Int).natAbs < 2 ^ 10 := by
  have h1 := h.num
  have h2 := h.den
  have h3 := TV_lt
  rw [Int.natAbs_natCast]
  exact ⟨by omega, by omega⟩
theorem coef60 {x : Row} (h : RowOk x) (i : Nat) : (x.2.getD i 0).num.natAbs < 2 ^ 60 ∧ (((x.2.getD i 0).den : Nat) : Int).natAbs < 2 ^ 10 := by
  have b := coef_bd h i
  have h1 := b.num
  have h2 := b.den
  rw [Int.natAbs_natCast]
  exact ⟨by omega, by omega⟩
theorem turn600 {b m : Int} {i : Nat} (h0 : 0 ≤ m) (h1 : m ≤ 40) (hb : 0 ≤ b) (hb2 : b ≤ 64) (hi : i ≤ 60) {k : Nat} (hk : k ≤ 40) : (b ^ k * m ^ i).natAbs < 2 ^ 600 := by
  rw [Int.natAbs_mul]
  have e1 := bpow_le hb hb2 hk
  have e2 := pow_le h0 h1 hi
  have e3 : 64 ^ 40 * 40 ^ 60 < 2 ^ 600 := by decide +kernel
  exact Nat.lt_of_le_of_lt (Nat.mul_le_mul e1 e2) e3
section
variable {P : Program} {w : World} {K : PySem.W.Frag} {mg : Str → Option Value} {base : Heap}
theorem C_law_value (B : Bi mg) (C__law_fraction : CalO P w K mg base CX0 2 "_law_fraction" ["number", "divisor"] (spR K Rfrac)) (F : DefAt K mg "_law_value" s__law_value) : CalO P w K mg base CX0 3 "_law_value" ["rows", "many"] (spR K Rval) := by
  refine calO_mk F S__law_value b__law_value (lenR fun ds z ⟨a, b, h, _⟩ => by rw [h]; rfl) fun f cdv A outer s H vs Q E hr h => ?_
  refine ⟨_, pss_cons (ps_asg (pe_tup (pa_cons (pe_int) (pa_cons (pe_int) pa_nil))) (pg_tup rfl (pgs_cons (pg_name (i := 2) S__law_value.nd rfl (Or.inl rfl)) (pgs_cons (pg_name (i := 3) S__law_value.nd rfl (Or.inl rfl)) pgs_nil))))
      (pss_cons (ps_for PassesOwn.never rfl (pi_tup (pv 0)) (pg_tup rfl (pgs_cons (pg_name (i := 4) S__law_value.nd rfl (Or.inl rfl)) (pgs_cons (pg_name (i := 5) S__law_value.nd rfl (Or.inl rfl)) pgs_nil))) (pss_cons (ps_set (i := 6) S__law_value.nd rfl (Or.inl rfl) (pe_int))
      (pss_cons (ps_for PassesOwn.never rfl (pi_range1 rfl B.m_range (pa_cons (pv 1) pa_nil)) (pg_name (i := 7) S__law_value.nd rfl (Or.inl rfl)) (pss_one (ps_set (i := 6) S__law_value.nd rfl (Or.inl rfl) (pe_op op_mulW (pv 6) (pv 4)))))
      (pss_one (ps_for PassesOwn.never rfl (pi_tup (pv 5)) (pg_name (i := 8) S__law_value.nd rfl (Or.inl rfl)) (pss_cons (ps_asg (pe_cal C__law_fraction hr (pa_cons (pe_op op_add (pe_op op_mulW (pv 2) (pe_ix ix_tup (pv 8) (pe_int) (fun _ _ => rfl))) (pe_op op_mulW (pe_op op_mulW (pe_ix ix_tup (pv 8) (pe_int) (fun _ _ => rfl)) (pv 6)) (pv 3))) (pa_cons (pe_op op_mulW (pv 3) (pe_ix ix_tup (pv 8) (pe_int) (fun _ _ => rfl))) pa_nil))) (pg_tup rfl (pgs_cons (pg_name (i := 2) S__law_value.nd rfl (Or.inl rfl)) (pgs_cons (pg_name (i := 3) S__law_value.nd rfl (Or.inl rfl)) pgs_nil))))
      (pss_one (ps_set (i := 6) S__law_value.nd rfl (Or.inl rfl) (pe_op op_mulW (pv 6) (pv 1))))))))))
      (pss_one (ps_ret (pe_tup (pa_cons (pv 2) (pa_cons (pv 3) pa_nil)))))), ?_⟩
  obtain ⟨G, ds, z, e, hv, ⟨rows, m, rfl, h, h0, h1, rfl⟩, q⟩ := h
  obtain ⟨v, u, rfl, k1, k2⟩ := dpa2 hv
  obtain rfl := dp_int k2
  refine s_pair (K := K) (G := G) (x := .int 0) (y := .int 1) (d_tup (ds_cons d_int (ds_cons d_int ds_nil))) e fun nv dv G1 H1 g1 kn kd => ?_
  obtain rfl := dp_int kn
  obtain rfl := dp_int kd
  dsimp only
  refine s_forD (K := K) (G := G1) (over_tup (d_var (i := 0) (σ := [some v, some (.int m), some (.int 0), some (.int 1), none, none, none, none, none]) rfl (k1.ex g1.g))) g1.gh
    (fun G4 i σ G' H' => Gro G H G' H' ∧ Ex G4 G' ∧ ∃ o4 o5 o6 o7 o8, σ = [some v, some (.int m), some (.int (Vr m rows i).num), some (.int ((Vr m rows i).den : Int)), o4, o5, o6, o7, o8])
    (fun G4 H4 g4 => ⟨g1.trans g4, Ex.refl _, _, _, _, _, _, rfl⟩)
    (fun G4 i σ G' H' ⟨a, b, _⟩ => ⟨b, a.gh⟩) (fun G4 i d x σ' G' H' hd ⟨a, b, o4, o5, o6, o7, o8, hs⟩ hx => ?_)
    (fun G4 i σ' G' H' G'' H'' ⟨a, b, t⟩ g => ⟨a.trans g, b.trans g.g, t⟩) (fun G4 σ' G' H' ⟨a, b, o4, o5, o6, o7, o8, hs⟩ => ?_)
  · subst hs
    obtain ⟨hi, rfl⟩ := rowD_at hd
    have ok := row_at h hi
    have bv := V_bd h0 h1 h i (by omega)
    have hm4 := h.most
    have hV : Vr m rows (i + 1) = Vr m rows i + PB m (rows.getD i (0, [])).1 (rows.getD i (0, [])).2 (rows.getD i (0, [])).2.length := by rw [Vr, ← PB_eq]
    generalize hrow : rows.getD i (0, []) = row at hx ok hV
    obtain ⟨bs, cs⟩ := row
    obtain ⟨bv', sv, kb, ks, gt⟩ := g_tup2 (i := 4) (j := 5) hx
    obtain rfl := dp_int kb
    refine gt _ H' a.gh _ ?_
    dsimp only
    refine s_let (K := K) (G := G') d_int a.gh fun tv G5 H5 g5 kt => ?_
    obtain rfl := dp_int kt
    dsimp only
    have lo := ok.lo
    have hi64 := ok.hi
    have c60 := ok.most
    simp only at lo hi64 c60
    refine s_forD (K := K) (G := G5) (over_range (n := m.toNat) (ds_cons (d_var (i := 1) (σ := [some v, some (.int m), some (.int (Vr m rows i).num), some (.int ((Vr m rows i).den : Int)), some (.int bs), some sv, some (.int 1), o7, o8]) rfl (by rw [Int.toNat_of_nonneg h0]; exact .int m)) ds_nil) (by omega)) g5.gh
      (fun G6 j σ G'' H'' => Gro G5 H5 G'' H'' ∧ Ex G6 G'' ∧ ∃ o7, σ = [some v, some (.int m), some (.int (Vr m rows i).num), some (.int ((Vr m rows i).den : Int)), some (.int bs), some sv, some (.int (bs ^ j)), o7, o8])
      (fun G6 H6 g6 => ⟨g6, Ex.refl _, o7, by simp only [Int.pow_zero]; rfl⟩)
      (fun G6 j σ G'' H'' ⟨a, b, _⟩ => ⟨b, a.gh⟩) (fun G6 j d x σ' G'' H'' hd ⟨a', b', o7, hs⟩ hx => ?_)
      (fun G6 j σ' G' H' G'' H'' ⟨a, b, t⟩ g => ⟨a.trans g, b.trans g.g, t⟩) (fun G6 σ' G'' H'' ⟨a', b', o7, hs⟩ => ?_)
    · subst hs
      have hj : j < m.toNat := by
        have := (List.getElem?_eq_some_iff.mp hd).1
        simpa using this
      have bl : (bs ^ j).natAbs < 2 ^ 600 := by
        have := turn600 (i := 0) (k := j) h0 h1 (by omega) hi64 (by omega) (by omega)
        rwa [Int.pow_zero, Int.mul_one] at this
      show tAsg _ (gName 6) _ _ _
      refine s_let (K := K) (G := G'') (d := .int (bs ^ (j + 1))) (d_is (d_op (d_var (i := 6) rfl (.int (bs ^ j))) (d_var (i := 4) rfl (.int bs)) (r_mul (mulW 600 10 bl (by omega)))) (by rw [Int.pow_succ])) a'.gh fun w7 G7 H7 g7 k7 => ?_
      obtain rfl := dp_int k7
      exact ⟨G7, a'.trans g7, b'.trans g7.g, _, rfl⟩
    · subst hs
      simp only [List.length_map, List.length_range]
      refine s_forD (K := K) (G := G'') (over_tup (d_var (i := 5) (σ := [some v, some (.int m), some (.int (Vr m rows i).num), some (.int ((Vr m rows i).den : Int)), some (.int bs), some sv, some (.int (bs ^ m.toNat)), o7, o8]) rfl (ks.ex (g5.g.trans a'.g)))) a'.gh
        (fun G6 j σ G3 H3 => Gro G'' H'' G3 H3 ∧ Ex G6 G3 ∧ ∃ o8, σ = [some v, some (.int m), some (.int (Vr m rows i + PB m bs cs j).num), some (.int ((Vr m rows i + PB m bs cs j).den : Int)), some (.int bs), some sv, some (.int (bs ^ m.toNat * m ^ j)), o7, o8])
        (fun G6 H6 g6 => ⟨g6, Ex.refl _, o8, by simp only [Int.pow_zero, Int.mul_one, PB, Rat.add_zero]⟩)
        (fun G6 j σ G'' H'' ⟨a, b, _⟩ => ⟨b, a.gh⟩) (fun G6 j d x σ' G3 H3 hd ⟨a3, b3, o8, hs⟩ hx => ?_)
        (fun G6 j σ' G' H' G'' H'' ⟨a, b, t⟩ g => ⟨a.trans g, b.trans g.g, t⟩) (fun G6 σ' G3 H3 ⟨a3, b3, o8, hs⟩ => ?_)
      · subst hs
        have hj : j < cs.length := by
          have := (List.getElem?_eq_some_iff.mp hd).1
          rwa [List.length_map] at this
        have := getD_at hd
        subst this
        have tb := turn600 (i := j) (k := m.toNat) h0 h1 (b := bs) (by omega) hi64 (by omega) (by omega)
        have bc := coef60 ok j
        have bp := PB_bd h0 h1 ok (i := j) (by omega)
        have bq := bd700 (bv.add bp) (by rw [← Nat.succ_mul]; exact Nat.mul_le_mul_right _ (by omega))
        simp only at bc bq
        generalize hq : Vr m rows i + PB m bs cs j = qq at *
        generalize hc : cs.getD j 0 = c at *
        generalize ht : bs ^ m.toNat * m ^ j = t at *
        have m1 := wide_lt bq.1 bc.2
        have m2 := wide_lt bc.1 tb
        have m3 := wide_lt m2 bq.2
        have m4 := wide_lt bq.2 bc.2
        have hx8 : EvD K (tVar 8) [some v, some (.int m), some (.int qq.num), some (.int (qq.den : Int)), some (.int bs), some sv, some (.int t), o7, some x] G3 (frQ c) := d_var rfl hx
        have p2 : ∀ {a b : Nat}, a ≤ b → 2 ^ a ≤ 2 ^ b := fun h => Nat.pow_le_pow_right (by decide) h
        show tSeq _ _ _ _ _
        refine s_pair (K := K) (G := G3) (i := 2) (j := 3) (x := .int (qq + c * (t : Rat)).num) (y := .int ((qq + c * (t : Rat)).den : Int)) (d_is (d_call (z := frQ (qq + c * (t : Rat)))
          (ds_cons (d_op (d_op (d_var (i := 2) rfl (.int qq.num)) (d_op hx8 d_int (r_ixT at1)) (r_mul (mulW 700 10 bq.1 bc.2))) (d_op (d_op (d_op hx8 d_int (r_ixT at0)) (d_var (i := 6) rfl (.int t)) (r_mul (mulW 60 600 bc.1 tb))) (d_var (i := 3) rfl (.int (qq.den : Int))) (r_mul (mulW 660 10 m2 bq.2))) r_add)
            (ds_cons (d_op (d_var (i := 3) rfl (.int (qq.den : Int))) (d_op hx8 d_int (r_ixT at1)) (r_mul (mulW 10 10 bq.2 bc.2))) ds_nil)) ⟨_, _, rfl, den_mul_pos qq c, Nat.lt_of_lt_of_le (add_bits (k := 710) m1 (Nat.lt_of_lt_of_le m3 (p2 (by decide)))) (p2 (by decide)), Nat.lt_of_lt_of_le m4 (p2 (by decide)), by rw [step_q]⟩) rfl) a3.gh fun w2 w3 G7 H7 g7 kn kd => ?_
        obtain rfl := dp_int kn
        obtain rfl := dp_int kd
        dsimp only
        refine s_let (K := K) (G := G7) (d := .int (t * m)) (d_op (d_var (i := 6) rfl (.int t)) (d_var (i := 1) rfl (.int m)) (r_mul (mulW 600 10 tb (by omega)))) g7.gh fun w6 G8 H8 g8 k8 => ?_
        obtain rfl := dp_int k8
        refine ⟨G8, (a3.trans g7).trans g8, (b3.trans g7.g).trans g8.g, some x, ?_⟩
        have e1 : Vr m rows i + PB m bs cs (j + 1) = qq + c * (t : Rat) := by rw [PB, ← Rat.add_assoc, hq, hc, ht]
        have e2 : bs ^ m.toNat * m ^ (j + 1) = t * m := by rw [Int.pow_succ, ← Int.mul_assoc, ht]
        rw [e1, e2]
        rfl
      · subst hs
        rw [List.length_map, ← hV]
        exact ⟨G3, ((a.trans g5).trans a').trans a3, ((b.trans g5.g).trans a'.g).trans a3.g, _, _, _, _, _, rfl⟩
  · subst hs
    rw [List.length_map]
    exact s_retD (K := K) (G := G') (d := frQ (Vr m rows rows.length)) (d_tup (ds_cons (d_var (i := 2) rfl (.int _)) (ds_cons (d_var (i := 3) rfl (.int _)) ds_nil))) a.gh fun v G9 H9 g9 h9 => q v G9 H9 (a.trans g9) h9
end
end K61
end
section
set_option Elab.async false
set_option linter.all false
set_option maxRecDepth 100000
set_option maxHeartbeats 4000000
set_option exponentiation.threshold 9000
namespace K61
open PySem PySem.Spec PyProof.Rows L2 Evl Sy RZ
section
variable {P : Program} {w : World} {K : PySem.W.Frag} {mg : Str → Option Value} {base : Heap}
theorem lt_of {i : Int} {a : Nat} {k : Nat} (h : i.natAbs < a) (e : a ≤ 2 ^ k) : i.natAbs < 2 ^ k := Nat.lt_of_lt_of_le h e
theorem abs_lt {i : Int} {k : Nat} (h0 : 0 ≤ i) (h : i < ((2 ^ k : Nat) : Int)) : i.natAbs < 2 ^ k := by omega
theorem powW_ok {i j : Int} (k m : Nat) (h : i.natAbs < 2 ^ k) (hj : j = (m : Int)) (hk : k * m ≤ 2 ^ 27) : CPowW i j := by
  subst hj
  have h1 := intBits_le_iff.mpr h
  refine ⟨by omega, ?_⟩
  have : Builtin.Int.intBits i * m ≤ 2 ^ 27 := Nat.le_trans (Nat.mul_le_mul_right _ h1) hk
  exact_mod_cast this
theorem prime_at (r : Int) (h0 : 0 ≤ r) (h5 : r < 5) : ∃ q : Int, atD [.int 2147483647, .int 2147483629, .int 2147483587, .int 2147483579, .int 2147483563] r = some (.int q) ∧ 0 < q ∧ q < 2 ^ 31 := by
  have : r = 0 ∨ r = 1 ∨ r = 2 ∨ r = 3 ∨ r = 4 := by omega
  rcases this with rfl | rfl | rfl | rfl | rfl
  · exact ⟨_, rfl, by decide, by decide⟩
  · exact ⟨_, rfl, by decide, by decide⟩
  · exact ⟨_, rfl, by decide, by decide⟩
  · exact ⟨_, rfl, by decide, by decide⟩
  · exact ⟨_, rfl, by decide, by decide⟩
theorem C_law_take (B : Bi mg) (F : DefAt K mg "_law_take" s__law_take) : CalO P w K mg base CX0 1 "_law_take" ["pot", "upto"] (spP K 1 PreT PostT) := by
  refine calO_mk F S__law_take b__law_take (lenP (n := 1) fun ds ⟨u, h, _⟩ => by rw [h]; rfl) fun f cdv A outer s H vs Q E hr h => ?_
  refine ⟨_, pss_cons (ps_if (pt_cmpR op_gt (pe_ix ix_list (pv 0) (pe_int) (fun _ _ => rfl)) (pe_int) (nomark _)) (pss_cons (ps_set (i := 2) S__law_take.nd rfl (Or.inl rfl) (pe_op op_modN (pe_callTy call_int1 (by rfl) B.m_int (by decide +kernel) (pa_cons (pe_ix ix_list (pv 0) (pe_int) (fun _ _ => rfl)) pa_nil)) (pv 1)))
      (pss_cons (ps_asg (pe_op op_fdivW (pe_ix ix_list (pv 0) (pe_int) (fun _ _ => rfl)) (pv 1)) (pg_sub (pv 0) (pe_int) set_list))
      (pss_one (ps_ret (pv 2))))) (pss_nil))
      (pss_cons (ps_asg (pe_op op_add (pe_ix ix_list (pv 0) (pe_int) (fun _ _ => rfl)) (pe_int)) (pg_sub (pv 0) (pe_int) set_list))
      (pss_cons (ps_set (i := 3) S__law_take.nd rfl (Or.inl rfl) (pe_ix ix_list (pe_lst (pa_cons (pe_int) (pa_cons (pe_int) (pa_cons (pe_int) (pa_cons (pe_int) (pa_cons (pe_int) pa_nil)))))) (pe_op op_modN (pe_callTy call_int1 (by rfl) B.m_int (by decide +kernel) (pa_cons (pe_ix ix_list (pv 0) (pe_int) (fun _ _ => rfl)) pa_nil)) (pe_int)) (fun _ _ => rfl)))
      (pss_cons (ps_set (i := 4) S__law_take.nd rfl (Or.inl rfl) (pe_op op_modN (pe_callTy call_int1 (by rfl) B.m_int (by decide +kernel) (pa_cons (pe_op op_powW (pe_callTy call_int1 (by rfl) B.m_int (by decide +kernel) (pa_cons (pe_op op_add (pe_op op_add (pe_ix ix_list (pv 0) (pe_int) (fun _ _ => rfl)) (pe_op op_mulW (pe_op op_mulW (pe_int) (pe_ix ix_list (pv 0) (pe_int) (fun _ _ => rfl))) (pe_ix ix_list (pv 0) (pe_int) (fun _ _ => rfl)))) (pe_int)) pa_nil)) (pe_int)) pa_nil)) (pv 3)))
      (pss_cons (ps_set (i := 4) S__law_take.nd rfl (Or.inl rfl) (pe_op op_modN (pe_callTy call_int1 (by rfl) B.m_int (by decide +kernel) (pa_cons (pe_op op_mulW (pv 4) (pe_op op_add (pe_op op_modN (pe_callTy call_int1 (by rfl) B.m_int (by decide +kernel) (pa_cons (pv 4) pa_nil)) (pe_int)) (pe_op op_mulW (pe_int) (pe_ix ix_list (pv 0) (pe_int) (fun _ _ => rfl))))) pa_nil)) (pe_int)))
      (pss_one (ps_ret (pe_op op_modN (pe_callTy call_int1 (by rfl) B.m_int (by decide +kernel) (pa_cons (pe_op op_fdivW (pv 4) (pe_int)) pa_nil)) (pv 1)))))))), ?_⟩
  obtain ⟨p, us, G, ds, N, rfl, e, hgp, hv, ⟨u, rfl, hu0, hu1⟩, ⟨a, b, c, hp, ha0, ha1, hb0, hb1, hc0, hc1⟩, hN, q⟩ := h
  obtain ⟨v, rfl, k1⟩ := dpa1 hv
  obtain rfl := dp_int k1
  have hN' : N + 1 ≤ 2 ^ 60 := hN
  have fin : ∀ (r a' b' c' : Int) (H' : Hp), (∀ x o, x ≠ p → H x = some o → H' x = some o) → H' p = some (.lst [.int a', .int b', .int c']) → 0 ≤ a' → a' < 2 ^ 1000 → 0 ≤ b' → b' < 2 ^ 61 → 0 ≤ c' → c' ≤ N + 1 → 0 ≤ r → r < u → Q (.int r) H' :=
    fun r a' b' c' H' hx hpp h1 h2 h3 h4 h5 h6 h7 h8 => q (.int r) (.int r) G H' ⟨u, r, rfl, rfl, h7, h8⟩ ⟨Ex.refl G, hx, fun x o hx' => hx x o (fun z => by rw [z, hgp] at hx'; cases hx') (e x o hx'), fun _ _ => rfl⟩ ⟨a', b', c', hpp, h1, h2, h3, h4, h5, by omega⟩ (.int r)
  have e0 : Ex (onlyP p [.int a, .int b, .int c]) H := onlyP_ex hp
  have pv0 : ∀ σ : L2.St, σ[0]? = some (some (.ref p)) → EvD K (tVar 0) σ (onlyP p [.int a, .int b, .int c]) (.list [.int a, .int b, .int c]) := fun σ hs => d_var hs (onlyP_dp (ns := [a, b, c]))
  have bu : u.natAbs < 2 ^ 200 := by omega
  refine s_ifD (G := onlyP p [.int a, .int b, .int c]) (b := decide (0 < a)) (t_test (K := K) (d_op (d_op (pv0 _ rfl) d_int (r_ixL (z := .int a) rfl)) d_int r_gt)) e0 (fun hb H1 g1 => ?_) (fun hb H1 g1 => ?_)
  · have hpos := of_decide_eq_true hb
    dsimp only
    refine s_let (K := K) (G := onlyP p [.int a, .int b, .int c]) (d := .int (a.fmod u)) (d_op (d_cb (ds_cons (d_op (pv0 _ rfl) d_int (r_ixL (z := .int a) rfl)) ds_nil) c_int) (d_var (i := 1) rfl (.int u)) (r_mod (by omega))) g1.gh fun v G2 H2 g2 hv2 => ?_
    obtain rfl := dp_int hv2
    dsimp only
    refine s_setP (K := K) (G := onlyP p [.int a, .int b, .int c]) (p := p) (i := 0) (j := 0) (z := a / u) rfl (d_op (d_op (pv0 _ rfl) d_int (r_ixL (z := .int a) rfl)) (d_var (i := 1) rfl (.int u)) (r_fdiv (divW 200 hu0 bu))) (g1.gh.trans g2.h) onlyP_at rfl fun H3 e3 hp3 => ?_
    dsimp only
    refine s_retD (K := K) (G := fun _ => none) (d := .int (a.fmod u)) (d_var (i := 2) rfl (.int (a.fmod u))) (fun _ _ z => nomatch z) fun v4 G4 H4 g4 h4 => ?_
    obtain rfl := dp_int h4
    refine fin _ (a / u) b c H4 (fun x o n hx => g4.h x o (by rw [upd_ne n]; exact e3 x o (g2.h x o (g1.h x o hx)))) (g4.h p _ upd_same) (Int.ediv_nonneg ha0 (by omega)) (Int.lt_of_le_of_lt (Int.ediv_le_self _ ha0) ha1) hb0 hb1 hc0 (by omega) (fmod_range hu0).1 (fmod_range hu0).2
  · dsimp only [tNext]
    refine s_setP (K := K) (G := onlyP p [.int a, .int b, .int c]) (p := p) (i := 0) (j := 2) (z := c + 1) rfl (d_op (d_op (pv0 _ rfl) d_int (r_ixL (z := .int c) rfl)) d_int r_add) g1.gh onlyP_at rfl fun H3 e3 hp3 => ?_
    dsimp only
    have pv1 : ∀ σ : L2.St, σ[0]? = some (some (.ref p)) → EvD K (tVar 0) σ (onlyP p [.int a, .int b, .int (c + 1)]) (.list [.int a, .int b, .int (c + 1)]) := fun σ hs => d_var hs (onlyP_dp (ns := [a, b, c + 1]))
    have eH : upd H3 p (.lst [.int a, .int b, .int (c + 1)]) p = some (.lst [.int a, .int b, .int (c + 1)]) := upd_same
    have e1 := onlyP_ex eH
    have keep : ∀ x o, x ≠ p → H x = some o → upd H3 p (.lst [.int a, .int b, .int (c + 1)]) x = some o := fun x o n hx => by rw [upd_ne n]; exact e3 x o (g1.h x o hx)
    show tAsg _ (gName 3) _ _ (upd H3 p (.lst [.int a, .int b, .int (c + 1)]))
    generalize upd H3 p (.lst [.int a, .int b, .int (c + 1)]) = H4 at *
    obtain ⟨pr, hpr, hpr0, hpr1⟩ := prime_at ((c + 1).fmod 5) (fmod_range (by decide)).1 (fmod_range (by decide)).2
    refine s_let (K := K) (G := onlyP p [.int a, .int b, .int (c + 1)]) (d := .int pr) (d_op (d_lst (ds_cons d_int (ds_cons d_int (ds_cons d_int (ds_cons d_int (ds_cons d_int ds_nil)))))) (d_op (d_cb (ds_cons (d_op (pv1 _ rfl) d_int (r_ixL (z := .int (c + 1)) rfl)) ds_nil) c_int) d_int (r_mod (by decide))) (r_ixL hpr)) e1 fun v G5 H5 g5 h5 => ?_
    obtain rfl := dp_int h5
    dsimp only
    have bc : (c + 1).natAbs < 2 ^ 61 := by omega
    have m1 : (90271 * (c + 1)).natAbs < 2 ^ (17 + 61) := wide_lt (a := 17) (by decide) bc
    have m2 := wide_lt m1 bc
    have bs : (b + 90271 * (c + 1) * (c + 1) + 3163).natAbs < 2 ^ 200 := by
      have e1 := Int.natAbs_add_le (b + 90271 * (c + 1) * (c + 1)) 3163
      have e2 := Int.natAbs_add_le b (90271 * (c + 1) * (c + 1))
      have e3 : (2 : Nat) ^ (17 + 61 + 61) + 2 ^ 61 + 3163 < 2 ^ 200 := by decide
      omega
    refine s_let (K := K) (G := G5) (d := .int (((b + 90271 * (c + 1) * (c + 1) + 3163) ^ 3).fmod pr)) (EvD.mono g5.g (d_op (d_cb (ds_cons (d_op (d_cb (ds_cons (d_op (d_op (d_op (pv1 _ rfl) d_int (r_ixL (z := .int b) rfl)) (d_op (d_op d_int (d_op (pv1 _ rfl) d_int (r_ixL (z := .int (c + 1)) rfl)) (r_mul (mulW 17 61 (by decide) bc))) (d_op (pv1 _ rfl) d_int (r_ixL (z := .int (c + 1)) rfl)) (r_mul (mulW (17 + 61) 61 m1 bc))) r_add) d_int r_add) ds_nil) c_int) d_int (r_powW (powW_ok 200 3 bs rfl (by decide)))) ds_nil) c_int) (d_var (i := 3) rfl (.int pr)) (r_mod (by omega)))) g5.gh fun v G6 H6 g6 h6 => ?_
    obtain rfl := dp_int h6
    dsimp only
    obtain ⟨mx0, mx1⟩ := fmod_range (a := (b + 90271 * (c + 1) * (c + 1) + 3163) ^ 3) hpr0
    generalize ((b + 90271 * (c + 1) * (c + 1) + 3163) ^ 3).fmod pr = mx at *
    have bm : mx.natAbs < 2 ^ 31 := by omega
    have m3 : (449 * (c + 1)).natAbs < 2 ^ (9 + 61) := wide_lt (a := 9) (by decide) bc
    obtain ⟨my0, my1⟩ := fmod_range (a := mx) (u := 13751) (by decide)
    have m4 : (mx.fmod 13751 + 449 * (c + 1)).natAbs < 2 ^ 100 := by
      have e1 := Int.natAbs_add_le (mx.fmod 13751) (449 * (c + 1))
      have e3 : (2 : Nat) ^ (9 + 61) + 13751 < 2 ^ 100 := by decide
      omega
    have g16 := g5.g.trans g6.g
    refine s_let (K := K) (G := G6) (d := .int ((mx * (mx.fmod 13751 + 449 * (c + 1))).fmod 2305843009213693907)) (EvD.mono g16 (d_op (d_cb (ds_cons (d_op (d_var (i := 4) rfl (.int mx)) (d_op (d_op (d_cb (ds_cons (d_var (i := 4) rfl (.int mx)) ds_nil) c_int) d_int (r_mod (by decide))) (d_op d_int (d_op (pv1 _ rfl) d_int (r_ixL (z := .int (c + 1)) rfl)) (r_mul (mulW 9 61 (by decide) bc))) r_add) (r_mul (mulW 31 100 bm m4))) ds_nil) c_int) d_int (r_mod (by decide)))) g6.gh fun v G7 H7 g7 h7 => ?_
    obtain rfl := dp_int h7
    dsimp only
    generalize (mx * (mx.fmod 13751 + 449 * (c + 1))).fmod 2305843009213693907 = mz at *
    refine s_retD (K := K) (G := G7) (d := .int ((mz / 251).fmod u)) (d_op (d_cb (ds_cons (d_op (d_var (i := 4) rfl (.int mz)) d_int (r_fdiv (divW 8 (by decide) (by decide)))) ds_nil) c_int) (d_var (i := 1) rfl (.int u)) (r_mod (by omega))) g7.gh fun v G8 H8 g8 h8 => ?_
    obtain rfl := dp_int h8
    have hh : ∀ x o, H4 x = some o → H8 x = some o := fun x o hx => g8.h x o (g7.h x o (g6.h x o (g5.h x o hx)))
    exact fin _ a b (c + 1) H8 (fun x o n hx => hh x o (keep x o n hx)) (hh p _ eH) ha0 ha1 hb0 hb1 (by omega) (by omega) (fmod_range hu0).1 (fmod_range hu0).2
theorem C_law_of (B : Bi mg) (C__law_take : CalO P w K mg base CX0 1 "_law_take" ["pot", "upto"] (spP K 1 PreT PostT)) (F : DefAt K mg "_law_of" s__law_of) : CalO P w K mg base CX0 2 "_law_of" ["pot", "some"] (spP K 1 PreO PostO) := by
  refine calO_mk F S__law_of b__law_of (lenP (n := 1) fun ds ⟨u, h, _⟩ => by rw [h]; rfl) fun f cdv A outer s H vs Q E hr h => ?_
  refine ⟨_, pss_one (ps_ret (pe_ix ix_list (pv 1) (pe_cal C__law_take hr (pa_cons (pv 0) (pa_cons (pe_callB call_len_seq (by rfl) B.m_len (by decide +kernel) (pa_cons (pv 1) pa_nil)) pa_nil))) (fun _ _ => rfl))), ?_⟩
  obtain ⟨p, us, G, ds, N, rfl, e, hgp, hv, ⟨xs, rfl, hx0, hx1⟩, hp, hN, q⟩ := h
  obtain ⟨v, rfl, k1⟩ := dpa1 hv
  have hx : EvD K (tVar 1) (L2.start N__law_of [.ref p, v]) G (.list xs) := d_var rfl k1
  refine s_retP (K := K) (p := p) (G := G) (P := fun d => d ∈ xs) (p_mono (k := 1) (P := fun d => d ∈ xs) (p_op (P := fun d => d ∈ xs) (p_ev hx) (p_draw (i := 0) (k := 1) rfl (p_evs (ds_cons (d_cb (ds_cons hx ds_nil) c_lenL) ds_nil)) fun ds hd => ⟨(xs.length : Int), hd, by omega, by omega⟩) ?_) (by omega) fun d h => h) e hgp hp hN fun d v G1 H1 hd g1 hp1 hv1 => q d v G1 H1 ⟨xs, rfl, hd⟩ g1 hp1 hv1
  intro x y hx1 ⟨ds, hds, u, r, h1, h2, h3, h4⟩
  subst hx1; subst h2
  rw [hds] at h1
  have hu : u = (xs.length : Int) := by
    have := (List.cons.inj h1).1
    injection this with h
    exact h.symm
  obtain ⟨n, rfl⟩ : ∃ n : Nat, r = (n : Int) := ⟨r.toNat, by omega⟩
  have hr : n < xs.length := by omega
  exact ⟨xs[n], r_ixL (atD_nat (by simp [hr])), List.getElem_mem _⟩
end
end K61
end
section
set_option Elab.async false
set_option linter.all false
set_option maxRecDepth 100000
set_option maxHeartbeats 4000000
set_option exponentiation.threshold 9000
namespace K61
open PySem PySem.Spec PyProof.Rows L2 Evl Sy RZ
def cellsN (m l : Int) : Nat := (if (if l < m then l else m) > 1 then (if l < m then l else m) else 1).toNat
def Rcells (ds : List D) (z : D) : Prop := ∃ (ns : List Int) (m : Int), ds = [.list (ns.map PyData.int), .int m] ∧ 1 ≤ m ∧ m ≤ 10 ∧ z = .list ((List.range (cellsN m ns.length)).map fun i : Nat => PyData.int (i : Int))
/-- what _law_pot is promised to do -/
def spPot (K : PySem.W.Frag) : Sp := fun vs H Q _ => ∃ (G : Hp) (ds : List D) (ns : List Int) (i : Int), Ex G H ∧ DpAll K G vs ds ∧ ds = [.list (ns.map PyData.int), .int i] ∧ 0 ≤ i ∧ i ≤ 10 ∧
  ∀ p G' H1, Gro G H G' H1 → H1 p = none → ∀ a b : Int, 0 ≤ a → a < 2 ^ 1000 → 0 ≤ b → b < 2 ^ 61 → Q (.ref p) (upd H1 p (.lst [.int a, .int b, .int 0]))
section
variable {P : Program} {w : World} {K : PySem.W.Frag} {mg : Str → Option Value} {base : Heap}
theorem C_law_cells (B : Bi mg) (F : DefAt K mg "_law_cells" s__law_cells) : CalO P w K mg base CX0 1 "_law_cells" ["script", "most"] (spR K Rcells) := by
  refine calO_mk F S__law_cells b__law_cells (lenR fun ds z ⟨a, b, h, _⟩ => by rw [h]; rfl) fun f cdv A outer s H vs Q E hr h => ?_
  refine ⟨_, pss_one (ps_ret (pe_listRg rfl (by rfl) B.m_list (prg_1 (by rfl) B.m_range (pe_callB (call_max2 rfl) (by rfl) B.m_max (by decide +kernel) (pa_cons (pe_int) (pa_cons (pe_callB (call_min2 rfl) (by rfl) B.m_min (by decide +kernel) (pa_cons (pv 1) (pa_cons (pe_callB call_len_seq (by rfl) B.m_len (by decide +kernel) (pa_cons (pv 0) pa_nil)) pa_nil))) pa_nil)))))), ?_⟩
  obtain ⟨G, ds, z, e, hv, ⟨ns, m, rfl, hm0, hm1, rfl⟩, q⟩ := h
  obtain ⟨v, u, rfl, k1, k2⟩ := dpa2 hv
  obtain rfl := dp_int k2
  refine s_retD (K := K) (G := G) (d_listRg (n := cellsN m ns.length) (d_is (d_cb (ds_cons d_int (ds_cons (d_cb (ds_cons (d_var (i := 1) (σ := L2.start N__law_cells [v, .int m]) rfl (.int m)) (ds_cons (d_cb (ds_cons (d_var (i := 0) rfl k1) ds_nil) c_lenL) ds_nil)) c_min) ds_nil)) c_max) ?_) ?_) e q
  · rw [List.length_map]
    unfold cellsN
    congr 1
    omega
  · unfold cellsN
    split <;> (try split) <;> omega
theorem C_law_pot (B : Bi mg) (F : DefAt K mg "_law_pot" s__law_pot) : CalO P w K mg base CX0 1 "_law_pot" ["script", "place"] (spPot K) := by
  refine calO_mk F S__law_pot b__law_pot (fun vs H Q E ⟨G, ds, ns, i, _, h1, h2, _⟩ => by rw [h1.length, h2]; rfl) fun f cdv A outer s H vs Q E hr h => ?_
  refine ⟨_, pss_cons (ps_set (i := 2) S__law_pot.nd rfl (Or.inl rfl) (pe_ifExp (pt_cmpR op_lt (pv 1) (pe_callB call_len_seq (by rfl) B.m_len (by decide +kernel) (pa_cons (pv 0) pa_nil)) (nomark _)) (pe_ix ix_list (pv 0) (pv 1) (fun _ _ => rfl)) (pe_op op_add (pe_op op_add (pe_op op_modN (pe_callTy call_int1 (by rfl) B.m_int (by decide +kernel) (pa_cons (pe_callB (cr_sum rfl) (by rfl) B.m_sum (by decide +kernel) (pa_cons (pe_slice sl_list (pv 0) (po_none) (po_some (pe_int))) pa_nil)) pa_nil)) (pe_int)) (pe_op op_mulW (pe_int) (pv 1))) (pe_int))))
      (pss_cons (ps_set (i := 3) S__law_pot.nd rfl (Or.inl rfl) (pe_op op_mulW (pe_op op_modN (pe_callTy call_int1 (by rfl) B.m_int (by decide +kernel) (pa_cons (pe_callB call_abs (by rfl) B.m_abs (by decide +kernel) (pa_cons (pv 2) pa_nil)) pa_nil)) (pe_op op_powW (pe_op op_powW (pe_int) (pe_int)) (pe_int))) (pe_callTy call_int1 (by rfl) B.m_int (by decide +kernel) (pa_cons (pe_cmpR op_ge (pe_callB call_abs (by rfl) B.m_abs (by decide +kernel) (pa_cons (pv 2) pa_nil)) (pe_op op_powW (pe_int) (pe_int)) (nomark _)) pa_nil))))
      (pss_cons (ps_set (i := 4) S__law_pot.nd rfl (Or.inl rfl) (pe_op op_modN (pe_callTy call_int1 (by rfl) B.m_int (by decide +kernel) (pa_cons (pv 2) pa_nil)) (pe_int)))
      (pss_one (ps_ret (pe_lst (pa_cons (pv 3) (pa_cons (pe_op op_modN (pe_callTy call_int1 (by rfl) B.m_int (by decide +kernel) (pa_cons (pe_op op_add (pe_op op_add (pe_op op_mulW (pv 4) (pe_int)) (pe_op op_mulW (pe_op op_mulW (pe_int) (pv 1)) (pv 1))) (pe_int)) pa_nil)) (pe_int)) (pa_cons (pe_int) pa_nil)))))))), ?_⟩
  obtain ⟨G, ds, ns, i, e, hv, rfl, hi0, hi1, q⟩ := h
  obtain ⟨v, u, rfl, k1, k2⟩ := dpa2 hv
  obtain rfl := dp_int k2
  have hs : EvD K (tVar 0) (L2.start N__law_pot [v, .int i]) G (.list (ns.map PyData.int)) := d_var rfl k1
  have hp : EvD K (tVar 1) (L2.start N__law_pot [v, .int i]) G (.int i) := d_var rfl (.int i)
  generalize hcell : (if decide (i < ((ns.map PyData.int).length : Int)) = true then ns.getD i.toNat 0 else ((ns.drop (HT.sIx ns.length 0 none)).take (HT.sIx ns.length ns.length (some 1) - HT.sIx ns.length 0 none)).sum.fmod 1000667 + 6121 * i + 4177) = cell
  refine s_let (K := K) (G := G) (d := .int cell) (d_if (t_test (K := K) (d_op hp (d_cb (ds_cons hs ds_nil) c_lenL) r_lt)) (fun hb => ?_) (fun hb => ?_)) e fun v1 G1 H1 g1 h1 => ?_
  · rw [if_pos hb] at hcell
    have hlt := of_decide_eq_true hb
    rw [List.length_map] at hlt
    obtain ⟨n, rfl⟩ : ∃ n : Nat, i = (n : Int) := ⟨i.toNat, by omega⟩
    refine d_op hs hp (r_ixL ?_)
    rw [← hcell]
    refine atD_nat ?_
    rw [Int.toNat_natCast, List.getElem?_map, List.getElem?_eq_getElem (by omega), List.getD_eq_getElem?_getD, List.getElem?_eq_getElem (by omega)]
    rfl
  · rw [hb, if_neg (by decide)] at hcell
    rw [← hcell]
    refine d_op (d_op (d_op (d_cb (ds_cons (d_cb (ds_cons (d_is (d_slL hs o_none (o_some (K := K) d_int)) (by rw [cut_map])) ds_nil) c_sum) ds_nil) c_int) d_int (r_mod (by decide))) (d_op d_int hp (r_mul (mulW 13 10 (by decide) (by omega)))) r_add) d_int r_add
  · obtain rfl := dp_int h1
    dsimp only
    obtain ⟨o0, o1⟩ := fmod_range (a := (if cell < 0 then -cell else cell)) (u := ((10 : Int) ^ (60 : Int).toNat) ^ (5 : Int).toNat) (by decide +kernel)
    have o2 : (((10 : Int) ^ (60 : Int).toNat) ^ (5 : Int).toNat) < 2 ^ 1000 := by decide +kernel
    have hne : (((10 : Int) ^ (60 : Int).toNat) ^ (5 : Int).toNat) ≠ 0 := by decide +kernel
    have hw : ∀ b : Bool, (if b = true then (1 : Int) else 0).natAbs < 2 ^ 2 := fun b => by cases b <;> decide
    have habs : EvD K _ _ G1 (.int (if cell < 0 then -cell else cell)) := d_cb (ds_cons (d_var (i := 2) (σ := [some v, some (.int i), some (.int cell), none, none]) rfl (.int cell)) ds_nil) c_abs
    refine s_let (K := K) (G := G1) (d_op (d_op (d_cb (ds_cons habs ds_nil) c_int) (d_op (d_op d_int d_int (r_powW (powW_ok 4 60 (by decide) rfl (by decide)))) d_int (r_powW (powW_ok 200 5 (by decide +kernel) rfl (by decide)))) (r_mod hne)) (d_cb (ds_cons (d_op habs (d_op d_int d_int (r_powW (powW_ok 4 18 (by decide) rfl (by decide)))) r_ge) ds_nil) c_intB) (r_mul (mulW 1000 2 (by omega) (hw _)))) g1.gh fun v2 G2 H2 g2 h2 => ?_
    obtain rfl := dp_int h2
    dsimp only
    generalize (if cell < 0 then -cell else cell).fmod ((10 ^ (60 : Int).toNat) ^ (5 : Int).toNat) = own at *
    generalize decide ((10 : Int) ^ (18 : Int).toNat ≤ (if cell < 0 then -cell else cell)) = big at *
    obtain ⟨s0, s1⟩ := fmod_range (a := cell) (u := 2305843009213693921) (by decide)
    refine s_let (K := K) (G := G2) (d := .int (cell.fmod 2305843009213693921)) (d_op (d_cb (ds_cons (d_var (i := 2) rfl (.int cell)) ds_nil) c_int) d_int (r_mod (by decide))) g2.gh fun v3 G3 H3 g3 h3 => ?_
    obtain rfl := dp_int h3
    dsimp only
    generalize cell.fmod 2305843009213693921 = small at *
    have m1 : (15013 * i).natAbs < 2 ^ (14 + 10) := wide_lt (by decide) (by omega)
    refine s_retL (K := K) (G := G3) (ds := [.int (own * (if big = true then 1 else 0)), .int ((small * 70981 + 15013 * i * i + 3083).fmod 2305843009213693921), .int 0])
      (ds_cons (d_var (i := 3) rfl (.int (own * (if big = true then 1 else 0)))) (ds_cons (d_op (d_cb (ds_cons (d_op (d_op (d_op (d_var (i := 4) rfl (.int small)) d_int (r_mul (mulW 61 17 (by omega) (by decide)))) (d_op (d_op d_int (d_var (i := 1) rfl (.int i)) (r_mul (mulW 14 10 (by decide) (by omega)))) (d_var (i := 1) rfl (.int i)) (r_mul (mulW (14 + 10) 10 m1 (by omega)))) r_add) d_int r_add) ds_nil) c_int) d_int (r_mod (j := 2305843009213693921) (by decide))) (ds_cons d_int ds_nil))) g3.gh (by simp) fun p vs G4 H4 g4 hp hv4 => ?_
    have e3 := ints_of (ns := [own * (if big = true then 1 else 0), (small * 70981 + 15013 * i * i + 3083).fmod 2305843009213693921, 0]) hv4
    subst e3
    obtain ⟨t0, t1⟩ := fmod_range (a := small * 70981 + 15013 * i * i + 3083) (u := 2305843009213693921) (by decide)
    refine q p G4 H4 (((g1.trans g2).trans g3).trans g4) hp _ _ ?_ ?_ t0 (by omega)
    · cases big <;> simp <;> omega
    · cases big <;> simp <;> omega
end
end K61
end
section
set_option Elab.async false
set_option linter.all false
set_option maxRecDepth 100000
set_option maxHeartbeats 4000000
set_option exponentiation.threshold 9000
namespace K61
open PySem PySem.Spec PyProof.Rows L2 Evl Sy RZ
open scoped Rat
def PostS (_ : List D) (d : D) : Prop := ∃ rows : List Row, d = rowsD rows ∧ RowsOk rows
def P12 (d : D) : Prop := ∃ n : Int, d = .int n ∧ n.natAbs ≤ 10 ^ 12
def PDiv (d : D) : Prop := ∃ n k : Int, d = .int n ∧ 0 < n ∧ n * k = 720 ∧ n ≤ 720
theorem bd_div {n m k : Int} (hn : n.natAbs ≤ 10 ^ 12) (hm : 0 < m) (hk : m * k = 720) (hm2 : m ≤ 720) : Bd (720 * 10 ^ 12) (n /. m) := by
  have hk0 : 0 < k := by
    rcases Int.lt_trichotomy k 0 with h | h | h
    · have := Int.mul_neg_of_pos_of_neg hm h
      omega
    · rw [h] at hk; omega
    · exact h
  have hk1 : k ≤ 720 := by
    have := Int.mul_le_mul_of_nonneg_right (c := k) (show 1 ≤ m by omega) (by omega)
    omega
  refine ⟨n * k, ?_, ?_⟩
  · rw [← hk, Rat.divInt_mul_right (by omega)]
  · rw [Int.natAbs_mul, Nat.mul_comm 720]
    exact Nat.mul_le_mul hn (by omega)
theorem fmt_last {cs : List Rat} {j : Nat} (h : cs.length = j + 1) : ixN cs.length (-1) = some j := by
  unfold ixN
  rw [if_neg (by omega), if_pos (by omega)]
  congr 1
  omega
section
variable {P : Program} {w : World} {K : PySem.W.Frag} {mg : Str → Option Value} {base : Heap}
theorem C_law_sum (B : Bi mg) (C__law_take : CalO P w K mg base CX0 1 "_law_take" ["pot", "upto"] (spP K 1 PreT PostT)) (C__law_of : CalO P w K mg base CX0 2 "_law_of" ["pot", "some"] (spP K 1 PreO PostO))
    (C__law_fraction : CalO P w K mg base CX0 2 "_law_fraction" ["number", "divisor"] (spR K Rfrac)) (F : DefAt K mg "_law_sum" s__law_sum) : CalO P w K mg base CX0 3 "_law_sum" ["pot"] (spP K 2000 (fun ds => ds = []) PostS) := by
  refine calO_mk F S__law_sum b__law_sum (lenP (n := 0) fun ds h => by rw [h]; rfl) fun f cdv A outer s H vs Q E hr h => ?_
  refine ⟨_, pss_cons (ps_set (i := 1) S__law_sum.nd rfl (Or.inl rfl) (pe_callB (cr_sortedSet rfl) (by rfl) B.m_sorted (by decide +kernel) (pa_cons (pe_callTy (cr_setL rfl) (by rfl) B.m_set (by decide +kernel) (pa_cons (pe_lc (own := [("lap", 5)]) rfl S__law_sum.nd (pi_range1 rfl B.m_range (pa_cons (pe_cal C__law_take hr (pa_cons (pv 0) (pa_cons (pe_int) pa_nil))) pa_nil)) (blkOk_by (own := [("lap", 5)]) (N := N__law_sum) (sc := defScope s__law_sum) (by decide +kernel)) (fun _ _ _ _ _ => pg_name (i := 5) S__law_sum.nd rfl (Or.inl rfl)) (fun _ _ _ _ _ => pts_nil) (fun _ _ _ _ _ => pe_callTy call_int1 (by rfl) B.m_int (by decide +kernel) (pa_cons (pe_op op_add (pe_int) (pe_cal C__law_take hr (pa_cons (pv 0) (pa_cons (pe_cal C__law_of hr (pa_cons (pv 0) (pa_cons (pe_lst (pa_cons (pe_int) (pa_cons (pe_int) pa_nil))) pa_nil))) pa_nil)))) pa_nil))) pa_nil)) pa_nil)))
      (pss_cons (ps_set (i := 2) S__law_sum.nd rfl (Or.inl rfl) (pe_lst (pa_nil)))
      (pss_cons (ps_for PassesOwn.never rfl (pi_list (pv 1)) (pg_name (i := 3) S__law_sum.nd rfl (Or.inl rfl)) (pss_cons (ps_set (i := 4) S__law_sum.nd rfl (Or.inl rfl) (pe_lst (pa_nil)))
      (pss_cons (ps_for PassesOwn.never rfl (pi_range1 rfl B.m_range (pa_cons (pe_op op_add (pe_int) (pe_cal C__law_take hr (pa_cons (pv 0) (pa_cons (pe_cal C__law_of hr (pa_cons (pv 0) (pa_cons (pe_lst (pa_cons (pe_int) (pa_cons (pe_int) (pa_cons (pe_int) pa_nil)))) pa_nil))) pa_nil)))) pa_nil)) (pg_name (i := 5) S__law_sum.nd rfl (Or.inl rfl)) (pss_cons (ps_set (i := 6) S__law_sum.nd rfl (Or.inl rfl) (pe_cal C__law_of hr (pa_cons (pv 0) (pa_cons (pe_lst (pa_cons (pe_int) (pa_cons (pe_int) (pa_cons (pe_int) (pa_cons (pe_un un_neg pe_int) (pa_cons (pe_int) (pa_cons (pe_un un_neg pe_int) (pa_cons (pe_int) (pa_cons (pe_callTy call_int1 (by rfl) B.m_int (by decide +kernel) (pa_cons (pe_cal C__law_take hr (pa_cons (pv 0) (pa_cons (pe_op op_powW (pe_int) (pe_int)) pa_nil))) pa_nil)) pa_nil))))))))) pa_nil))))
      (pss_one (ps_expr (pe_bm PySem.F.plainAttrs_list PySem.F.slot_list_append PySem.F.type_list_append mt_append (pv 4) (pa_cons (pe_cal C__law_fraction hr (pa_cons (pv 6) (pa_cons (pe_cal C__law_of hr (pa_cons (pv 0) (pa_cons (pe_lst (pa_cons (pe_int) (pa_cons (pe_int) (pa_cons (pe_int) (pa_cons (pe_int) (pa_cons (pe_int) (pa_cons (pe_int) pa_nil))))))) pa_nil))) pa_nil))) pa_nil))))))
      (pss_cons (ps_if (pt_cmpR op_eq (pe_ix ix_tup (pe_ix ix_list (pv 4) (pe_un un_neg pe_int) (fun _ _ => rfl)) (pe_int) (fun _ _ => rfl)) (pe_int) (nomark _)) (pss_one (ps_asg (pe_tup (pa_cons (pe_int) (pa_cons (pe_int) pa_nil))) (pg_sub (pv 4) (pe_un un_neg pe_int) set_list))) (pss_nil))
      (pss_one (ps_expr (pe_bm PySem.F.plainAttrs_list PySem.F.slot_list_append PySem.F.type_list_append mt_append (pv 2) (pa_cons (pe_tup (pa_cons (pv 3) (pa_cons (pe_callTy call_tuple_of (by rfl) B.m_tuple (by decide +kernel) (pa_cons (pv 4) pa_nil)) pa_nil))) pa_nil))))))))
      (pss_one (ps_ret (pe_callTy call_tuple_of (by rfl) B.m_tuple (by decide +kernel) (pa_cons (pv 2) pa_nil)))))), ?_⟩
  obtain ⟨p, us, G, ds, N, rfl, e, hgp, hv, rfl, hp, hN, q⟩ := h
  cases hv
  have hN2 : N + 2000 ≤ 2 ^ 60 := hN
  have b60 : big60 = 2 ^ 60 := rfl
  refine s_letP (K := K) (p := p) (G := G) (k := 9) (P := fun d => ∃ ms : List Int, d = .list (ms.map PyData.int) ∧ ms.Pairwise (· < ·) ∧ (∀ k ∈ ms, 1 ≤ k ∧ k ≤ 64) ∧ ms.length ≤ 4) (p_mono (k := 9) (p_sortset (Pn := fun ns => ns.length ≤ 4 ∧ ∀ k ∈ ns, 1 ≤ k ∧ k ≤ 64) (p_mono (p_lc (k := 1) (ke := 2) (M := 4) (P := fun ds => ds.length ≤ 4) (Pe := fun d => ∃ n : Int, d = .int n ∧ 1 ≤ n ∧ n ≤ 64) ?_ (fun _ h => h) (by decide) ?_) (Nat.le_refl _) ?_)) (by decide) ?_) e hgp hp (by omega) fun bd bv G1 H1 ⟨ms, hbd, hms, hmr, hml⟩ g1 hp1 hv1 => ?_
  · exact over_imp (overP_rng (M := 4) (Qn := fun _ => True) (p_mono (p_takeC (i := 0) (u := 5) rfl d_int (by decide) (by decide)) (Nat.le_refl _) fun d ⟨r, h1, h2, h3⟩ => ⟨r, h1, h2, by omega, trivial⟩) (by decide)) fun ds ⟨n, h1, _, h2⟩ => by
      show ds.length ≤ 4
      rw [h2, List.length_map, List.length_range]
      omega
  · intro ds hds d hd G2 u e2 hu
    refine ⟨_, g_name (j := 5), rfl, p_int (p_mono (p_addI (i := 1) (lo := 0) (M := 64) d_int (p_take (i := 0) (k := 1) rfl (p_mono (p_ofC (i := 0) (xs := [.int 3, .int 64]) rfl (d_lst (ds_cons d_int (ds_cons d_int ds_nil))) (by decide) (by decide)) (Nat.le_refl _) fun d hd => ?_) (by decide))) (by decide) fun d ⟨n, h1, h2, h3⟩ => ⟨n, h1, by omega, by omega⟩) fun d ⟨n, h1, _⟩ => ⟨n, h1⟩⟩
    have : d = .int 3 ∨ d = .int 64 := by simpa using hd
    rcases this with rfl | rfl
    · exact ⟨3, rfl, by decide, by decide⟩
    · exact ⟨64, rfl, by decide, by decide⟩
  · rintro d ⟨ds, es, hds, hd, hl, hes⟩
    obtain ⟨ns, rfl⟩ : ∃ ns : List Int, es = ns.map PyData.int := by
      refine ⟨es.map fun d => match d with | .int n => n | _ => 0, ?_⟩
      rw [List.map_map]
      refine (List.map_id es).symm.trans (List.map_congr_left fun x hx => ?_)
      obtain ⟨n, hn, _⟩ := hes x hx
      rw [hn]
      rfl
    refine ⟨ns, hd, by rw [List.length_map] at hl; omega, by rw [List.length_map] at hl; omega, fun k hk => ?_⟩
    obtain ⟨n, hn, h1, h2⟩ := hes (.int k) (List.mem_map.mpr ⟨k, hk, rfl⟩)
    injection hn with hn
    subst hn
    exact ⟨h1, h2⟩
  · rintro d ⟨ns, ms, ⟨h1, h2⟩, h3, h4, h5, h6⟩
    exact ⟨ms, h3, h4, fun k hk => h2 k ((h5 k).mp hk), by omega⟩
  subst hbd
  dsimp only
  refine s_newL fun r hr => ?_
  dsimp only
  have hgp1 := g1.none hp.ne hgp
  have npr : p ≠ r := fun z => hp1.ne (by rw [z]; exact hr)
  have g0 : GroP p G1 H1 G1 (upd H1 r (.lst [])) := (GroP.refl g1.gh).mut hr (gnone g1.gh hr)
  refine s_forD (K := K) (G := G1) (over_lst (d_var (i := 1) (σ := [some (.ref p), some bv, some (.ref r), none, none, none, none]) rfl hv1)) g0.gh
    (fun G4 i σ G' H' => GroP p G1 H1 G' H' ∧ Ex G4 G' ∧ G' p = none ∧ G' r = none ∧ PotOk (N + 9 + 300 * i) H' p ∧ ∃ acc rows o3 o4 o5 o6, H' r = some (.lst acc) ∧ DpAll K G' acc (rows.map rowD) ∧ rows.map (·.1) = ms.take i ∧ (∀ x ∈ rows, RowOk x) ∧ σ = [some (.ref p), some bv, some (.ref r), o3, o4, o5, o6])
    (fun G4 H4 g4 => ⟨g0.trans g4.pt (hp1.upd npr).ne, Ex.refl _, g4.none (hp1.upd npr).ne hgp1, g4.none (by rw [upd_same]; simp) (gnone g1.gh hr), (hp1.upd npr).ex g4.h, [], [], none, none, none, none, g4.h _ _ upd_same, .nil, rfl, (fun x hx => nomatch hx), rfl⟩)
    (fun G4 i σ G' H' ⟨a, b, _⟩ => ⟨b, a.gh⟩) (fun G4 i d x σ' G' H' hd ⟨a, b, gp, gr, hpp, acc, rows, o3, o4, o5, o6, hacc, hda, hrm, hro, hs⟩ hx => ?_)
    (fun G4 i σ' G' H' G'' H'' ⟨a, b, gp, gr, hpp, acc, rows, o3, o4, o5, o6, hacc, hda, hrm, hro, hs⟩ g => ⟨a.trans g.pt hpp.ne, b.trans g.g, g.none hpp.ne gp, g.none (by rw [hacc]; simp) gr, hpp.ex g.h, acc, rows, o3, o4, o5, o6, g.h _ _ hacc, hda.ex g.g, hrm, hro, hs⟩)
    (fun G4 σ' G' H' ⟨a, b, gp, gr, hpp, acc, rows, o3, o4, o5, o6, hacc, hda, hrm, hro, hs⟩ => ?_)
  · subst hs
    rw [List.getElem?_map] at hd
    obtain ⟨bs, hbs, rfl⟩ := Option.map_eq_some_iff.mp hd
    obtain rfl := dp_int hx
    have him := (List.getElem?_eq_some_iff.mp hbs).1
    obtain ⟨b1, b64⟩ := hmr bs (List.mem_of_getElem? hbs)
    show tSeq _ _ _ _ _
    refine s_newL fun t ht => ?_
    dsimp only
    have npt : p ≠ t := fun z => hpp.ne (by rw [z]; exact ht)
    have nrt : r ≠ t := fun z => by rw [z, ht] at hacc; cases hacc
    have a0 : GroP p G' H' G' (upd H' t (.lst [])) := (GroP.refl a.gh).mut ht (gnone a.gh ht)
    refine s_forP (K := K) (p := p) (G := G') (k := 2) (P := fun ds => ∃ n : Nat, ds.length = n ∧ 1 ≤ n ∧ n ≤ 60) ?_ a0.gh gp (hpp.upd npt) (by omega)
      (fun ds G5 j σ G'' H'' => GroP p G' H' G'' H'' ∧ Ex G5 G'' ∧ G'' p = none ∧ G'' t = none ∧ PotOk (N + 9 + 300 * i + 2 + 4 * j) H'' p ∧ ∃ acc2 cs o5 o6, H'' t = some (.lst acc2) ∧ DpAll K G'' acc2 (cs.map frQ) ∧ cs.length = j ∧ (∀ c ∈ cs, Bd (720 * 10 ^ 12) c) ∧ σ = [some (.ref p), some bv, some (.ref r), some (.int bs), some (.ref t), o5, o6])
      (fun ds G5 H5 _ g5 hp5 => ⟨a0.trans g5 (hpp.upd npt).ne, Ex.refl _, g5.none (hpp.upd npt).ne gp, g5.none2 (by rw [upd_same]; simp) (gnone a.gh ht), hp5, [], [], o5, o6, g5.h _ _ (Ne.symm npt) upd_same, .nil, rfl, (fun c hc => nomatch hc), rfl⟩)
      (fun ds G5 j σ G'' H'' ⟨a, b, _⟩ => ⟨b, a.gh⟩) (fun ds G5 j d x σ' G'' H'' ⟨n, hn, _, hn60⟩ hd ⟨a', b', gp', gt', hpp', acc2, cs, o5, o6, hacc2, hda2, hcl, hcb, hs⟩ hx => ?_)
      (fun ds G5 j σ' G' H' G'' H'' ⟨a', b', gp', gt', hpp', acc2, cs, o5, o6, hacc2, hda2, hcl, hcb, hs⟩ g => ⟨a'.trans g.pt hpp'.ne, b'.trans g.g, g.none hpp'.ne gp', g.none (by rw [hacc2]; simp) gt', hpp'.ex g.h, acc2, cs, o5, o6, g.h _ _ hacc2, hda2.ex g.g, hcl, hcb, hs⟩)
      (fun ds G5 σ' G'' H'' ⟨n, hn, hn1, hn60⟩ ⟨a', b', gp', gt', hpp', acc2, cs, o5, o6, hacc2, hda2, hcl, hcb, hs⟩ => ?_)
    · exact over_imp (overP_rng (M := 60) (Qn := fun n => 1 ≤ n) (p_mono (p_addI (i := 1) (lo := 0) (M := 60) d_int (p_take (i := 0) (k := 1) rfl (p_mono (p_ofC (i := 0) (xs := [.int 1, .int 3, .int 60]) rfl (d_lst (ds_cons d_int (ds_cons d_int (ds_cons d_int ds_nil)))) (by decide) (by decide)) (Nat.le_refl _) fun d hd => by
        have : d = .int 1 ∨ d = .int 3 ∨ d = .int 60 := by simpa using hd
        rcases this with rfl | rfl | rfl
        · exact ⟨1, rfl, by decide, by decide⟩
        · exact ⟨3, rfl, by decide, by decide⟩
        · exact ⟨60, rfl, by decide, by decide⟩) (by decide))) (by decide) fun d ⟨n, h1, h2, h3⟩ => ⟨n, h1, by omega, by omega, by omega⟩) (by decide)) fun ds ⟨n, h1, h2, h3⟩ => ⟨n, by rw [h3, List.length_map, List.length_range], by omega, by omega⟩
    · subst hs
      have hjn : j < n := by
        have := (List.getElem?_eq_some_iff.mp hd).1
        omega
      have him4 : i < 4 := by omega
      have nint : ∀ z : Int, z.natAbs ≤ 10 ^ 12 → P12 (.int z) := fun z hz => ⟨z, rfl, hz⟩
      show tSeq _ _ _ _ _
      refine s_letP (K := K) (p := p) (G := G'') (k := 2) (P := P12) (p_mono (p_ofA (i := 0) (n := 8) (k := 1) (Pe := P12) rfl (pa_consP (p_is d_int (nint 0 (by decide))) (pa_consP (p_is d_int (nint 0 (by decide))) (pa_consP (p_is d_int (nint 1 (by decide))) (pa_consP (p_is (d_un d_int r_neg) (nint (-1) (by decide))) (pa_consP (p_is d_int (nint 2 (by decide))) (pa_consP (p_is (d_un d_int r_neg) (nint (-3) (by decide))) (pa_consP (p_is d_int (nint 12 (by decide))) (pa_consP (k1 := 1)
        (p_int (p_mono (p_takeC (i := 0) (u := 10 ^ (12 : Int).toNat) rfl (d_op d_int d_int (r_powW (powW_ok 4 12 (by decide) rfl (by decide)))) (by decide) (by decide)) (Nat.le_refl _) fun d ⟨r, h1, h2, h3⟩ => ⟨r, h1, by have : (10 : Int) ^ (12 : Int).toNat = 10 ^ 12 := rfl; omega⟩) fun d ⟨n, h, _⟩ => ⟨n, h⟩) pa_nilP)))))))) (by decide) (by decide)) (Nat.le_refl _) fun d h => h) a'.gh gp' hpp' (by omega) fun d nv G6 H6 ⟨nn, hnn, hnb⟩ g6 hp6 hv6 => ?_
      subst hnn
      obtain rfl := dp_int hv6
      dsimp only
      have gp6 := g6.none hpp'.ne gp'
      have gt6 := g6.none2 (by rw [hacc2]; simp) gt'
      have hacc6 := g6.h _ _ (Ne.symm npt) hacc2
      refine s_appendP (K := K) (p := p) (G := G6) (k := 1) (i := 4) (q := t) (acc := acc2) (P := fun d => ∃ c, d = frQ c ∧ Bd (720 * 10 ^ 12) c) rfl hacc6 (by rw [hda2.length, List.length_map]; omega) gt6 (p_call (Ps := fun l => ∃ m : D, l = [.int nn, m] ∧ PDiv m) (fun G1 H1 N e f g hp hN Q q => ps_cons (k1 := 0) (k2 := 1) (p_ev (d_var (i := 6) rfl (.int nn))) (p_one (p_ofC (i := 0) (xs := [.int 1, .int 1, .int 2, .int 3, .int 6, .int 720]) rfl (d_lst (ds_cons d_int (ds_cons d_int (ds_cons d_int (ds_cons d_int (ds_cons d_int (ds_cons d_int ds_nil))))))) (by decide) (by decide))) G1 H1 N e f g hp hN Q fun ds vs G2 H2 ⟨d, ds', h1, h2, m, h3, h4⟩ => q ds vs G2 H2 ⟨m, by rw [h1, h2, h3], ?_⟩) ?_) g6.gh gp6 hp6 (by omega) npt fun d v7 G7 H7 ⟨c, hc, hcb'⟩ g7 gt7 hacc7 hp7 hv7 => ?_
      · have : m = .int 1 ∨ m = .int 2 ∨ m = .int 3 ∨ m = .int 6 ∨ m = .int 720 := by simpa using h4
        rcases this with rfl | rfl | rfl | rfl | rfl
        · exact ⟨1, 720, rfl, by decide, by decide, by decide⟩
        · exact ⟨2, 360, rfl, by decide, by decide, by decide⟩
        · exact ⟨3, 240, rfl, by decide, by decide, by decide⟩
        · exact ⟨6, 120, rfl, by decide, by decide, by decide⟩
        · exact ⟨720, 1, rfl, by decide, by decide, by decide⟩
      · rintro xs ⟨m, rfl, mm, k, rfl, h1, h2, h3⟩
        have e12 : (10 : Nat) ^ 12 < 2 ^ 8000 := by decide +kernel
        have e72 : (720 : Nat) < 2 ^ 8000 := by decide +kernel
        exact ⟨frQ (nn /. mm), ⟨nn, mm, rfl, h1, by omega, by omega, rfl⟩, _, rfl, bd_div hnb h1 h2 h3⟩
      · subst hc
        refine ⟨G7, ((a'.trans g6 hpp'.ne).trans g7 hp6.ne).mut ht gt7, (b'.trans g6.g).trans g7.g, g7.none hp6.ne gp6, gt7, (hp7.mono (by omega)).upd npt, acc2 ++ [v7], cs ++ [c], _, _, upd_same, ?_, by rw [List.length_append, hcl]; rfl, fun z hz => ?_, rfl⟩
        · rw [List.map_append]
          exact (hda2.ex (g6.g.trans g7.g)).append (.cons hv7 .nil)
        · rcases List.mem_append.mp hz with z1 | z1
          · exact hcb z z1
          · rw [List.mem_singleton.mp z1]
            exact hcb'
    · subst hs
      have hcn : cs.length = n := hcl.trans hn
      have him4 : i < 4 := by omega
      have rOk : ∀ cs' : List Rat, cs'.length = n → (∀ c ∈ cs', Bd (720 * 10 ^ 12) c) → (∀ c, cs'.getLast? = some c → c.num ≠ 0) → RowOk (bs, cs') := fun cs' h1 h2 h3 => ⟨b1, b64, by show 1 ≤ cs'.length; omega, by show cs'.length ≤ 60; omega, h2, h3⟩
      have hgr'' := a'.none2 (by rw [hacc]; simp) gr
      have key : ∀ (cs' : List Rat) (acc3 : List V) (G9 H9 : Hp), GroP p G' H' G9 H9 → Ex G'' G9 → G9 p = none → G9 t = none → PotOk (N + 9 + 300 * (i + 1)) H9 p → H9 t = some (.lst acc3) → DpAll K G9 acc3 (cs'.map frQ) → RowOk (bs, cs') → ∀ E : Ends,
          (∀ v G10 H10, GroP p G1 H1 G10 (upd H10 r (.lst (acc ++ [v]))) → Ex G' G10 → G10 p = none → G10 r = none → PotOk (N + 9 + 300 * (i + 1)) (upd H10 r (.lst (acc ++ [v]))) p → DpAll K G10 (acc ++ [v]) ((rows ++ [(bs, cs')]).map rowD) → E.nx [some (.ref p), some bv, some (.ref r), some (.int bs), some (.ref t), o5, o6] (upd H10 r (.lst (acc ++ [v])))) →
          tDrop (tBM K "list" rAppend (tVar 2) (tCons (tTup (tCons (tVar 3) (tCons (tCB (fun xs H Q => ∃ p ys, xs = [.ref p] ∧ ((SqL K H p ys ∧ ∀ l, H l = none → Q (.ref l) (upd H l (.tup ys))) ∨ (SqT K H p ys ∧ Q (.ref p) H))) (tCons (tVar 4) tNil)) tNil))) tNil)) E [some (.ref p), some bv, some (.ref r), some (.int bs), some (.ref t), o5, o6] H9 := by
        intro cs' acc3 G9 H9 a9 e9 gp9 gt9 hp9 ht9 hd9 ok E hE
        have fz := a9.freeze ht gt9 ht9
        have hr9 := a9.h r _ (Ne.symm npr) hacc
        have gr9 : G9 r = none := a9.none2 (by rw [hacc]; simp) gr
        have gr9' : upd G9 t (.lst acc3) r = none := by rw [upd_ne nrt]; exact gr9
        have gp9' : upd G9 t (.lst acc3) p = none := by rw [upd_ne npt]; exact gp9
        refine s_append (K := K) (p := r) (G := upd G9 t (.lst acc3)) (acc := acc) (d := rowD (bs, cs')) rfl hr9 (by rw [hda.length, List.length_map]; have := congrArg List.length hrm; rw [List.length_map, List.length_take] at this; omega) gr9' (d_tup (ds_cons (d_var (i := 3) rfl (.int bs)) (ds_cons (d_tupof (d_var (i := 4) rfl (dp_frozen hd9 gt9))) ds_nil))) fz.gh fun v G10 H10 g10 gr10 hr10 hv10 => ?_
        have gg := fz.trans g10.pt hp9.ne
        refine hE v G10 H10 ((a.trans gg hpp.ne).mut hr gr10) gg.g (g10.none hp9.ne gp9') gr10 ((hp9.ex g10.h).upd npr) ?_
        rw [List.map_append]
        exact (hda.ex gg.g).append (.cons hv10 .nil)
      have fin : ∀ (cs' : List Rat) v G10 H10, RowOk (bs, cs') → GroP p G1 H1 G10 (upd H10 r (.lst (acc ++ [v]))) → Ex G' G10 → G10 p = none → G10 r = none → PotOk (N + 9 + 300 * (i + 1)) (upd H10 r (.lst (acc ++ [v]))) p → DpAll K G10 (acc ++ [v]) ((rows ++ [(bs, cs')]).map rowD) →
          ∃ G3, GroP p G1 H1 G3 (upd H10 r (.lst (acc ++ [v]))) ∧ Ex G4 G3 ∧ G3 p = none ∧ G3 r = none ∧ PotOk (N + 9 + 300 * (i + 1)) (upd H10 r (.lst (acc ++ [v]))) p ∧ ∃ (acc' : List V) (rows' : List Row) (o3' o4' o5' o6' : Option V), (upd H10 r (.lst (acc ++ [v]))) r = some (.lst acc') ∧ DpAll K G3 acc' (rows'.map rowD) ∧ rows'.map (·.1) = ms.take (i + 1) ∧ (∀ x ∈ rows', RowOk x) ∧ [some (.ref p), some bv, some (.ref r), some (.int bs), some (.ref t), o5, o6] = [some (.ref p), some bv, some (.ref r), o3', o4', o5', o6'] := by
        intro cs' v G10 H10 ok h1 h2 h3 h4 h5 h6
        refine ⟨G10, h1, b.trans h2, h3, h4, h5, acc ++ [v], rows ++ [(bs, cs')], _, _, _, _, upd_same, h6, ?_, fun x hx => ?_, rfl⟩
        · rw [List.map_append, hrm, List.take_add_one, hbs]
          rfl
        · rcases List.mem_append.mp hx with z | z
          · exact hro x z
          · rw [List.mem_singleton.mp z]
            exact ok
      have hne : cs ≠ [] := fun z => by rw [z] at hcn; simp at hcn; omega
      obtain ⟨c, hc⟩ : ∃ c, cs.getLast? = some c := ⟨_, List.getLast?_eq_getLast hne⟩
      have hlast : atD (cs.map frQ) (-1) = some (frQ c) := atD_last (by rw [List.getLast?_map, hc]; rfl)
      have fz0 := a'.freeze ht gt' hacc2
      have hv4 : EvD K (tVar 4) [some (.ref p), some bv, some (.ref r), some (.int bs), some (.ref t), o5, o6] (upd G'' t (.lst acc2)) (.list (cs.map frQ)) := d_var rfl (dp_frozen hda2 gt')
      have hpm : PotOk (N + 9 + 300 * (i + 1)) H'' p := hpp'.mono (by omega)
      show tSeq _ _ _ _ _
      refine s_ifD (G := upd G'' t (.lst acc2)) (b := decide (c.num = 0)) (t_test (K := K) (d_op (d_op (d_op hv4 (d_un d_int r_neg) (r_ixL hlast)) d_int (r_ixT at0)) d_int r_eqI)) fz0.gh (fun z H8 g8 => ?_) (fun z H8 g8 => ?_)
      · have e8 : Ex G'' H8 := a'.gh.trans g8.h
        refine s_setD (K := K) (G := G'') (i := 4) (j := n - 1) (r := t) (k := -1) (d := frQ 1) (acc := acc2) rfl (d_tup (ds_cons d_int (ds_cons d_int ds_nil))) (d_un d_int r_neg) e8 (g8.h _ _ hacc2) gt' ?_ fun v9 G9 H9 g9 gt9 ht9 hv9 => ?_
        · rw [hda2.length, List.length_map]
          exact fmt_last (by omega)
        · have a9 : GroP p G' H' G9 H9 := by
            have b8 : GroP p G'' H'' G'' H8 := (Gro.drop a'.gh g8.h).pt
            exact (a'.trans b8 hpp'.ne).trans g9.pt (hpp'.ex g8.h).ne
          have hp9 : PotOk (N + 9 + 300 * (i + 1)) H9 p := (hpm.ex g8.h).ex g9.h
          have ok := rOk (cs.set (n - 1) 1) (by rw [List.length_set]; exact hcn) (fun c' hc' => by
            rcases List.mem_or_eq_of_mem_set hc' with y | y
            · exact hcb c' y
            · rw [y]; exact ⟨720, by decide +kernel, by decide⟩) (fun c' hc' => by
            rw [List.getLast?_eq_getElem?, List.length_set, hcn, List.getElem?_set_self (by omega)] at hc'
            cases hc'
            decide)
          dsimp only
          refine key (cs.set (n - 1) 1) (acc2.set (n - 1) v9) G9 (upd H9 t (.lst (acc2.set (n - 1) v9))) (a9.mut ht gt9) g9.g (g9.none (hpp'.ex g8.h).ne gp') gt9 (hp9.upd npt) upd_same ?_ ok _ fun v G10 H10 h1 h2 h3 h4 h5 h6 => fin _ v G10 H10 ok h1 h2 h3 h4 h5 h6
          rw [List.map_set]
          exact dpA_set (hda2.ex g9.g) hv9
      · have a9 : GroP p G' H' G'' H8 := a'.trans (Gro.drop a'.gh g8.h).pt hpp'.ne
        have ok := rOk cs hcn hcb (fun c' hc' => by
          rw [hc] at hc'
          cases hc'
          exact of_decide_eq_false z)
        dsimp only [tNext]
        exact key cs acc2 G'' H8 a9 (Ex.refl _) gp' gt' (hpm.ex g8.h) (g8.h _ _ hacc2) hda2 ok _ fun v G10 H10 h1 h2 h3 h4 h5 h6 => fin _ v G10 H10 ok h1 h2 h3 h4 h5 h6
  · subst hs
    rw [List.length_map, List.take_length] at hrm
    rw [List.length_map] at hpp
    have fz := a.freeze hr gr hacc
    refine s_retD (K := K) (G := upd G' r (.lst acc)) (d := rowsD rows) (d_tupof (d_var (i := 2) rfl (dp_frozen hda gr))) fz.gh fun v G9 H9 g9 h9 => q (rowsD rows) v G9 H9 ⟨rows, rfl, ?_, hro, ?_⟩ ((g1.trans fz hp1.ne).trans g9.pt hpp.ne) ((hpp.mono (by omega)).ex g9.h) h9
    · have := congrArg List.length hrm
      rw [List.length_map] at this
      omega
    · rw [← List.pairwise_map (f := fun x : Row => x.1) (R := fun a b => a < b), hrm]
      exact hms
end
end K61
end
section
set_option Elab.async false
set_option linter.all false
set_option maxRecDepth 100000
set_option maxHeartbeats 4000000
set_option exponentiation.threshold 9000
namespace K61
open PySem PySem.Spec PyProof.Rows L2 Evl Sy RZ
open scoped Rat
theorem log700 {n : Nat} (h : n < 2 ^ 700) : n.log2 < 700 := by
  by_cases h0 : n = 0
  · subst h0; decide
  · exact (Nat.log2_lt h0).mpr h
theorem frQ_repr {q : Rat} (h1 : q.num.natAbs < 2 ^ 700) (h2 : (q.den : Int).natAbs < 2 ^ 10) : ReprOk (frQ q) := by
  have l1 := log700 h1
  have l2 : (q.den : Int).natAbs.log2 < 700 := log700 (Nat.lt_trans h2 (by decide))
  refine ⟨rfl, ?_, ?_⟩
  · show (decide (q.num.natAbs.log2 < 1920) && (decide ((q.den : Int).natAbs.log2 < 1920) && true)) = true
    rw [decide_eq_true (by omega), decide_eq_true (by omega)]
    rfl
  · have e1 : (sI q.num).length ≤ 701 := by rw [PySem.ofString_length]; exact int_text_length_le (by decide) l1
    have e2 : (sI (q.den : Int)).length ≤ 701 := by rw [PySem.ofString_length]; exact int_text_length_le (by decide) l2
    show (("(" : Str) ++ Str.join ", " [sI q.num, sI (q.den : Int)] ++ (")" : Str)).length ≤ sizeLine
    have j := StrLaws.join_length_le (", " : Str) [sI q.num, sI (q.den : Int)]
    simp only [List.map_cons, List.map_nil, List.sum_cons, List.sum_nil, List.length_cons, List.length_nil] at j
    rw [len_app, len_app]
    have c1 : ("(" : Str).length = 1 := rfl
    have c2 : (")" : Str).length = 1 := rfl
    have c3 : (", " : Str).length = 2 := rfl
    exact sz61 (by omega)
theorem val_repr {rows : List Row} {m : Int} (h : RowsOk rows) (h0 : 0 ≤ m) (h1 : m ≤ 40) : ReprOk (frQ (Vr m rows rows.length)) := by
  have b := bd700 (V_bd h0 h1 h rows.length (Nat.le_refl _)) (by have := h.most; exact Nat.mul_le_mul_right _ (by omega))
  exact frQ_repr b.1 b.2
def PreR (ds : List D) : Prop := ∃ rows, ds = [rowsD rows] ∧ RowsOk rows
def PostR (_ : List D) (d : D) : Prop := d = .bool true
section
variable {P : Program} {w : World} {K : PySem.W.Frag} {mg : Str → Option Value} {base : Heap}
theorem C_law_is_sum_right {CB CN : Addr} (B : Bi mg) (C__law_take : CalO P w K mg base CX0 1 "_law_take" ["pot", "upto"] (spP K 1 PreT PostT)) (C__law_of : CalO P w K mg base CX0 2 "_law_of" ["pot", "some"] (spP K 1 PreO PostO))
    (C_sum_at : CalO P w K mg base (L2.CX P w) 5 "sum_at" ["told", "many"] (spX K (Rsum CB CN))) (C_sum_text : CalO P w K mg base (L2.CX P w) 5 "sum_text" ["told"] (spX K (Rtext CB)))
    (C__law_value : CalO P w K mg base CX0 3 "_law_value" ["rows", "many"] (spR K Rval)) (C__law_text : CalO P w K mg base CX0 2 "_law_text" ["rows"] (spR K Rltext))
    (F : DefAt K mg "_law_is_sum_right" s__law_is_sum_right) : Cal P w K mg base CX0 6 "_law_is_sum_right" ["pot", "rows"] (spP K 20 PreR PostR) := by
  refine calG_mk F S__law_is_sum_right b__law_is_sum_right (lenP (n := 1) fun ds ⟨rows, h, _⟩ => by rw [h]; rfl) fun f fd cdv A outer s H vs Q E _ hr hgu _ h => ?_
  refine ⟨_, pss_cons (ps_for PassesOwn.leaving rfl (pi_range1 rfl B.m_range (pa_cons (pe_int) pa_nil)) (pg_name (i := 2) S__law_is_sum_right.nd rfl (Or.inl rfl)) (pss_cons (ps_set (i := 3) S__law_is_sum_right.nd rfl (Or.inl rfl) (pe_callTy call_int1 (by rfl) B.m_int (by decide +kernel) (pa_cons (pe_cal C__law_take hr (pa_cons (pv 0) (pa_cons (pe_cal C__law_of hr (pa_cons (pv 0) (pa_cons (pe_lst (pa_cons (pe_int) (pa_cons (pe_int) (pa_cons (pe_int) pa_nil)))) pa_nil))) pa_nil))) pa_nil)))
      (pss_one (ps_if (pt_cmpR op_ne (pe_callB (call_repr hr hgu) (by rfl) B.m_repr (by decide +kernel) (pa_cons (pe_calN C_sum_at hr (pa_cons (pv 1) (pa_cons (pv 3) pa_nil))) pa_nil)) (pe_callB (call_repr hr hgu) (by rfl) B.m_repr (by decide +kernel) (pa_cons (pe_cal C__law_value hr (pa_cons (pv 1) (pa_cons (pv 3) pa_nil))) pa_nil)) (nomark _)) (pss_one (ps_ret (pe_bl))) (pss_nil)))))
      (pss_one (ps_ret (pe_cmpR op_eq (pe_calN C_sum_text hr (pa_cons (pv 1) pa_nil)) (pe_cal C__law_text hr (pa_cons (pv 1) pa_nil)) (nomark _)))), ?_⟩
  obtain ⟨p, us, G, ds, N, rfl, e, hgp, hv, ⟨rows, rfl, hro⟩, hp, hN, q⟩ := h
  obtain ⟨v, rfl, k1⟩ := dpa1 hv
  refine s_forD (K := K) (G := G) (over_range (n := 3) (ds_cons d_int ds_nil) (by decide)) e
    (fun G4 i σ G' H' => GroP p G H G' H' ∧ Ex G4 G' ∧ G' p = none ∧ PotOk (N + 3 * i) H' p ∧ ∃ o2 o3, σ = [some (.ref p), some v, o2, o3])
    (fun G4 H4 g4 => ⟨g4.pt, Ex.refl _, g4.none hp.ne hgp, hp.ex g4.h, none, none, rfl⟩)
    (fun G4 i σ G' H' ⟨a, b, _⟩ => ⟨b, a.gh⟩) (fun G4 i d x σ' G' H' hd ⟨a, b, gp, hpp, o2, o3, hs⟩ hx => ?_)
    (fun G4 i σ' G' H' G'' H'' ⟨a, b, gp, hpp, hs⟩ g => ⟨a.trans g.pt hpp.ne, b.trans g.g, g.none hpp.ne gp, hpp.ex g.h, hs⟩)
    (fun G4 σ' G' H' ⟨a, b, gp, hpp, o2, o3, hs⟩ => ?_)
  · subst hs
    have hi : i < 3 := by
      have := (List.getElem?_eq_some_iff.mp hd).1
      simpa using this
    show tSeq _ _ _ _ _
    refine s_letP (K := K) (p := p) (G := G') (k := 2) (P := fun d => ∃ m : Int, d = .int m ∧ 0 ≤ m ∧ m < 40) (p_int (p_take (i := 0) (k := 1) (M := 40) rfl (p_mono (p_ofC (i := 0) (xs := [.int 1, .int 3, .int 40]) rfl (d_lst (ds_cons d_int (ds_cons d_int (ds_cons d_int ds_nil)))) (by decide) (by decide)) (Nat.le_refl _) fun d hd => ?_) (by decide)) fun d ⟨m, h, _⟩ => ⟨m, h⟩) a.gh gp hpp (by omega) fun d mv G5 H5 ⟨m, hm, hm0, hm1⟩ g5 hp5 hv5 => ?_
    · have : d = .int 1 ∨ d = .int 3 ∨ d = .int 40 := by simpa using hd
      rcases this with rfl | rfl | rfl
      · exact ⟨1, rfl, by decide, by decide⟩
      · exact ⟨3, rfl, by decide, by decide⟩
      · exact ⟨40, rfl, by decide, by decide⟩
    subst hm
    obtain rfl := dp_int hv5
    dsimp only
    have ga := a.trans g5 hpp.ne
    have gp5 := g5.none hpp.ne gp
    have vr := val_repr hro hm0 (show m ≤ 40 by omega)
    refine s_ifD (G := G5) (b := false) (t_is (t_test (K := K) (d_op (d_cb (ds_cons (d_callX (z := frQ (Vr m rows rows.length)) (ds_cons (d_var (i := 1) (σ := [some (.ref p), some v, some x, some (.int m)]) rfl (k1.ex ga.g)) (ds_cons (d_var (i := 3) rfl (.int m)) ds_nil)) (.val hro hm0 (by omega))) ds_nil) (c_repr vr)) (d_cb (ds_cons (d_call (z := frQ (Vr m rows rows.length)) (ds_cons (d_var (i := 1) (σ := [some (.ref p), some v, some x, some (.int m)]) rfl (k1.ex ga.g)) (ds_cons (d_var (i := 3) rfl (.int m)) ds_nil)) ⟨rows, m, rfl, hro, hm0, by omega, rfl⟩) ds_nil) (c_repr vr)) r_neS)) (by simp)) ga.gh (fun z => by cases z) fun _ H6 g6 => ?_
    exact ⟨G5, ga.trans g6.pt hp5.ne, b.trans g5.g, gp5, (hp5.mono (by omega)).ex g6.h, _, _, rfl⟩
  · subst hs
    simp only [List.length_map, List.length_range] at hpp
    have hx : EvD K (tVar 1) [some (.ref p), some v, o2, o3] G' (rowsD rows) := d_var rfl (k1.ex a.g)
    refine s_retD (K := K) (G := G') (d_op (d_callX (z := .str (textS rows)) (ds_cons hx ds_nil) (.val hro)) (d_call (z := .str (textS rows)) (ds_cons hx ds_nil) ⟨rows, rfl, hro, rfl⟩) r_eqS) a.gh fun v9 G9 H9 g9 h9 => q (.bool true) v9 G9 H9 rfl (a.trans g9.pt hpp.ne) ((hpp.mono (by omega)).ex g9.h) ?_
    rw [decide_eq_true rfl] at h9
    exact h9
end
end K61
end
section
set_option Elab.async false
set_option linter.all false
set_option maxRecDepth 100000
set_option maxHeartbeats 4000000
set_option exponentiation.threshold 9000
namespace K61
open PySem PySem.Spec PyProof.Rows L2 Evl Sy RZ LamX
open scoped Rat
theorem heard_gives {X : Cx} {g : Addr} {cdg : Value} {q : Str} {CS : Addr} (hCS : X.mg "SayingError" = some (.ref CS)) : GivesS X N__law_heard "_law_heard" (defScope s__law_heard) g cdg (defBody s__law_heard) "call" q (TTh2 X.K CS) := by
  intro f c' s H Q tl hcall hc hTT
  refine ⟨_, pss_cons (ps_asg (pe_tup (pa_cons pe_non (pa_cons pe_non pa_nil))) (pg_tup rfl (pgs_cons (pg_name (i := 1) S__law_heard.nd rfl (Or.inl rfl)) (pgs_cons (pg_name (i := 2) S__law_heard.nd rfl (Or.inl rfl)) pgs_nil))))
    (pss_cons (ps_try_keep (i := 3) (j := 1) (c := .ref CS) (Wout := fun _ _ _ _ => False) rfl rfl S__law_heard.nd rfl rfl ⟨by rfl, by decide, .inl hCS⟩ rfl (fun u s' x => by obtain ⟨_, _, _, _, _, _, _, _, _, _, _, _, _, _, _, _, w⟩ := x; exact w)
      (fun W pn xe tk _ => pss_one (ps_set (i := 2) S__law_heard.nd rfl (Or.inl rfl) (pe_up (hcall W pn xe _ _ tk)))) (fun a oe pn => pss_one (ps_set (i := 1) S__law_heard.nd rfl (Or.inl rfl) (pv 3))))
      (pss_one (ps_ret (pe_tup (pa_cons (pv 1) (pa_cons (pv 2) pa_nil)))))), ?_⟩
  refine ⟨by rw [sizeLine_eq]; decide, fun T hT => ⟨T, [.non, .non], rfl, .inl (.inl upd_same), rfl, .non, _, rfl, .non, _, rfl, rfl, ?_⟩⟩
  have hcT : c' ≠ T := fun z => by rw [z, hT] at hc; cases hc
  refine ⟨_, ⟨_, fun cls d H' h => ?_, rfl, by rw [upd_ne hcT]; exact hc, hTT T hT⟩, fun v H' h => ?_⟩
  · exact ⟨true, h.1, fun _ a ha => ⟨.ref a, rfl, .non, rfl, sz_of (by show 2 ≤ _; decide), fun p hp => h.2 a ha p hp⟩, fun z => by cases z⟩
  · exact ⟨.non, rfl, v, rfl, sz_of (by show 2 ≤ _; decide), fun p hp => h p hp⟩
def qOdd : Str := (envOfC "_law_are_odd_refused" (defScope s__law_are_odd_refused) 0 0 .none).qual ++ "<lambda>"
theorem pe_hear61 {X : Cx} {CS c P : Addr} {k : Nat} {params : Arguments} {body : Expr} {scope : Scope} {t : XK → TE} {p lpos pos : Pos} (Fh : DefAt X.K X.mg "_law_heard" s__law_heard) (hCS : X.mg "SayingError" = some (.ref CS)) (TB : TabB X.base X.mg c P) (hcode : X.env.code = .ref c)
    (hr : Room (k + 2) X.A) (hg : Gl X "_law_heard") (hq : X.env.qual ++ "<lambda>" = qOdd) (L : LamS X.env.scope scope) (hdef : defaultsOf params X.env = ([], []))
    (hbind : ∀ (q : Str) (cl : List (Str × Addr)) (pm cv ctv : Value), bindArgs (PySem.W.kla_fn "<lambda>" q params body scope cl pm cv ctv) ⟨[], []⟩ = pure [])
    (hbody : ∀ (A : Around) (outer : List Env) (s : Shared) (H : Hp) (E : XK) (f c' : Addr), Room k (A.deeper (lamEnv X scope s.heap.objs.size f c')) → PE (lamCx X A outer s H E scope f c') body (t E)) :
    PE X (.Call (.Name "_law_heard" p) [.Lambda params body scope lpos] [] pos) (tLam [(P, qOdd)] (TTh2 X.K CS) t) := by
  obtain ⟨f, fd, F, hm⟩ := Fh.ex
  obtain ⟨oc, od, kV, doc, pm, an, cdv, ct, osl, rfl, lk, hcd⟩ := id F.ex
  exact pe_lamS hg hm F.kp lk hcd (F.binds b__law_heard) S__law_heard rfl (.inl rfl) (heard_gives hCS) TB hcode (by rw [hq]; exact List.mem_singleton.mpr rfl) (fun p hp _ => by rw [List.mem_singleton.mp hp, hq]) hr L hdef hbind hbody
def oneD : D := .tuple [.int 1, .int 1]
def odds1 : List D := [.none, .list [], .tuple [.int 1, .tuple [oneD]], .tuple [.tuple [.int 0, .tuple [oneD]]], .tuple [.tuple [.int 65, .tuple [oneD]]], .tuple [.tuple [.int 2, .tuple []]], .tuple [.tuple [.int 2, .tuple [.tuple [.int 0, .int 1]]]], .tuple [.tuple [.int 2, .tuple [.tuple [.int 2, .int 4]]]]]
def odds2 : List D := [.tuple [.tuple [.int 2, .tuple [.tuple [.int 1, .int (-1)]]]], .tuple [.tuple [.int 2, .tuple [.tuple [.int 1, .int 0]]]], .tuple [.tuple [.bool true, .tuple [oneD]]], .tuple [.tuple [.int 2, .list [oneD]]], .tuple [.tuple [.int 2, .tuple [oneD]], .tuple [.int 1, .tuple [oneD]]]]
def odds3 : List D := [.tuple [.tuple [.int 2, .tuple [oneD]], .tuple [.int 2, .tuple [oneD]]], .tuple [.tuple [.int 2, .tuple (List.replicate 61 [oneD]).flatten]], .tuple [.tuple [.int 2, .tuple [.tuple [.bool true, .int 1]]]], .tuple [.tuple [.int 2, .tuple [oneD], .int 3]]]
def odds4 : D := .tuple [.tuple [.int 2, .tuple [.tuple ([.int 1, .int 1] ++ [.int 1, .int 1])]]]
def oddsA : List D := odds1 ++ odds2 ++ odds3 ++ [odds4]
def smallB : D → Bool
  | .tuple rs => decide (rs.length ≤ 100000)
  | _ => true
theorem smallB_ok {d : D} (h : smallB d = true) : smallT d := fun rs e => by
  subst e
  exact of_decide_eq_true h
theorem odds_bad : oddsA.all (fun d => !okSum d && smallB d && reprB d) = true := by decide +kernel
theorem odd_at {d : D} (h : d ∈ oddsA) : okSum d = false ∧ smallT d ∧ ReprOk d := by
  have := List.all_eq_true.mp odds_bad d h
  simp only [Bool.and_eq_true, Bool.not_eq_true'] at this
  exact ⟨this.1.1, smallB_ok this.1.2, reprB_ok this.2⟩
def badsA : List D := [.int (-1), .int 1001, .bool true, .none, .str "3"]
theorem bads_bad : badsA.all (fun d => !okMany d && reprB d) = true := by decide +kernel
theorem bad_at {d : D} (h : d ∈ badsA) : okMany d = false ∧ ReprOk d := by
  have := List.all_eq_true.mp bads_bad d h
  simp only [Bool.and_eq_true, Bool.not_eq_true'] at this
  exact ⟨this.1, reprB_ok this.2⟩
def fineR : List Row := [(64, List.replicate 60 1)]
theorem fine_ok : RowsOk fineR := by
  refine ⟨by decide, fun x hx => ?_, by simp [fineR]⟩
  rw [List.mem_singleton.mp hx]
  refine ⟨by decide, by decide, by decide, by decide, fun c hc => ?_, fun c hc => ?_⟩
  · rw [List.eq_of_mem_replicate hc]
    exact ⟨720, by decide +kernel, by decide⟩
  · have := List.mem_of_getLast? hc
    rw [List.eq_of_mem_replicate this]
    decide
theorem fine_pl : ∀ i, Pl 0 (List.replicate 60 1) (i + 1) = 1
  | 0 => by
    rw [Pl, Pl, Int.pow_zero, Rat.zero_add]
    show (1 : Rat) * ((1 : Int) : Rat) = 1
    rw [Rat.one_mul]
    rfl
  | i + 1 => by
    rw [Pl, fine_pl i, Int.pow_succ, Int.mul_zero]
    show (1 : Rat) + _ * ((0 : Int) : Rat) = 1
    rw [show ((0 : Int) : Rat) = 0 from rfl, Rat.mul_zero, Rat.add_zero]
theorem fine_val : Vr 0 fineR fineR.length = 1 := by
  show Vr 0 fineR 0 + Pl 0 (List.replicate 60 1) (List.replicate 60 (1 : Rat)).length * (((64 : Int) ^ (0 : Int).toNat : Int) : Rat) = 1
  rw [List.length_replicate, fine_pl 59, Vr, Rat.zero_add, Rat.one_mul]
  rfl
theorem nil_val : Vr 7 [] ([] : List Row).length = 0 := rfl
theorem nil_ok : RowsOk [] := ⟨by decide, (fun x hx => nomatch hx), .nil⟩
/-- what _law_are_odd_refused is promised to do -/
def spOdd (T : List (Addr × Str)) : Sp := fun vs H Q _ => ∃ (p : Addr) (N : Nat), vs = [.ref p] ∧ PotOk N H p ∧ N + 30 ≤ big60 ∧ Tabs T H ∧ ∀ H', ExtP p H H' → Tabs T H' → Q (.bl true) H'
section
variable {P : Program} {w : World} {K : PySem.W.Frag} {mg : Str → Option Value} {base : Heap}
theorem C_law_are_odd_refused {DS CB CN c Pt : Addr} (B : Bi mg) (Fh : DefAt K mg "_law_heard" s__law_heard) (hCS : mg "SayingError" = some (.ref DS)) (TB : TabB base mg c Pt) (Y_BadSum : SayK P K mg DS CB "BadSum") (Y_BadNumber : SayK P K mg DS CN "BadNumber")
    (C_sum_at : CalO P w K mg base (L2.CX P w) 5 "sum_at" ["told", "many"] (spX K (Rsum CB CN))) (C_sum_text : CalO P w K mg base (L2.CX P w) 5 "sum_text" ["told"] (spX K (Rtext CB))) (C__law_of : CalO P w K mg base CX0 2 "_law_of" ["pot", "some"] (spP K 1 PreO PostO))
    (F : DefC K mg "_law_are_odd_refused" s__law_are_odd_refused c) : Cal P w K mg base CX0 8 "_law_are_odd_refused" ["pot"] (spOdd [(Pt, qOdd)]) := by
  refine calT_mk F S__law_are_odd_refused b__law_are_odd_refused (fun vs H Q E ⟨p, N, h, _⟩ => by rw [h]; rfl) fun f A outer s H vs Q E hr hgu h => ?_
  refine ⟨_, pss_cons (ps_set (i := 1) S__law_are_odd_refused.nd rfl (Or.inl rfl) (pe_tup (pa_cons (pe_int) (pa_cons (pe_int) pa_nil))))
      (pss_cons (ps_set (i := 2) S__law_are_odd_refused.nd rfl (Or.inl rfl) (pe_lst (pa_cons (pe_non) (pa_cons (pe_lst (pa_nil)) (pa_cons (pe_tup (pa_cons (pe_int) (pa_cons (pe_tup (pa_cons (pv 1) pa_nil)) pa_nil))) (pa_cons (pe_tup (pa_cons (pe_tup (pa_cons (pe_int) (pa_cons (pe_tup (pa_cons (pv 1) pa_nil)) pa_nil))) pa_nil)) (pa_cons (pe_tup (pa_cons (pe_tup (pa_cons (pe_int) (pa_cons (pe_tup (pa_cons (pv 1) pa_nil)) pa_nil))) pa_nil)) (pa_cons (pe_tup (pa_cons (pe_tup (pa_cons (pe_int) (pa_cons (pe_tup (pa_nil)) pa_nil))) pa_nil)) (pa_cons (pe_tup (pa_cons (pe_tup (pa_cons (pe_int) (pa_cons (pe_tup (pa_cons (pe_tup (pa_cons (pe_int) (pa_cons (pe_int) pa_nil))) pa_nil)) pa_nil))) pa_nil)) (pa_cons (pe_tup (pa_cons (pe_tup (pa_cons (pe_int) (pa_cons (pe_tup (pa_cons (pe_tup (pa_cons (pe_int) (pa_cons (pe_int) pa_nil))) pa_nil)) pa_nil))) pa_nil)) pa_nil))))))))))
      (pss_cons (ps_expr (pe_bm PySem.F.plainAttrs_list PySem.F.slot_list_extend PySem.F.type_list_extend mt_extend (pv 2) (pa_cons (pe_lst (pa_cons (pe_tup (pa_cons (pe_tup (pa_cons (pe_int) (pa_cons (pe_tup (pa_cons (pe_tup (pa_cons (pe_int) (pa_cons (pe_un un_neg pe_int) pa_nil))) pa_nil)) pa_nil))) pa_nil)) (pa_cons (pe_tup (pa_cons (pe_tup (pa_cons (pe_int) (pa_cons (pe_tup (pa_cons (pe_tup (pa_cons (pe_int) (pa_cons (pe_int) pa_nil))) pa_nil)) pa_nil))) pa_nil)) (pa_cons (pe_tup (pa_cons (pe_tup (pa_cons (pe_bl) (pa_cons (pe_tup (pa_cons (pv 1) pa_nil)) pa_nil))) pa_nil)) (pa_cons (pe_tup (pa_cons (pe_tup (pa_cons (pe_int) (pa_cons (pe_lst (pa_cons (pv 1) pa_nil)) pa_nil))) pa_nil)) (pa_cons (pe_tup (pa_cons (pe_tup (pa_cons (pe_int) (pa_cons (pe_tup (pa_cons (pv 1) pa_nil)) pa_nil))) (pa_cons (pe_tup (pa_cons (pe_int) (pa_cons (pe_tup (pa_cons (pv 1) pa_nil)) pa_nil))) pa_nil))) pa_nil)))))) pa_nil)))
      (pss_cons (ps_expr (pe_bm PySem.F.plainAttrs_list PySem.F.slot_list_extend PySem.F.type_list_extend mt_extend (pv 2) (pa_cons (pe_lst (pa_cons (pe_tup (pa_cons (pe_tup (pa_cons (pe_int) (pa_cons (pe_tup (pa_cons (pv 1) pa_nil)) pa_nil))) (pa_cons (pe_tup (pa_cons (pe_int) (pa_cons (pe_tup (pa_cons (pv 1) pa_nil)) pa_nil))) pa_nil))) (pa_cons (pe_tup (pa_cons (pe_tup (pa_cons (pe_int) (pa_cons (pe_op op_repT (pe_tup (pa_cons (pv 1) pa_nil)) (pe_int)) pa_nil))) pa_nil)) (pa_cons (pe_tup (pa_cons (pe_tup (pa_cons (pe_int) (pa_cons (pe_tup (pa_cons (pe_tup (pa_cons (pe_bl) (pa_cons (pe_int) pa_nil))) pa_nil)) pa_nil))) pa_nil)) (pa_cons (pe_tup (pa_cons (pe_tup (pa_cons (pe_int) (pa_cons (pe_tup (pa_cons (pv 1) pa_nil)) (pa_cons (pe_int) pa_nil)))) pa_nil)) pa_nil))))) pa_nil)))
      (pss_cons (ps_expr (pe_bm PySem.F.plainAttrs_list PySem.F.slot_list_append PySem.F.type_list_append mt_append (pv 2) (pa_cons (pe_tup (pa_cons (pe_tup (pa_cons (pe_int) (pa_cons (pe_tup (pa_cons (pe_op op_catA (pv 1) (pv 1)) pa_nil)) pa_nil))) pa_nil)) pa_nil)))
      (pss_cons (ps_for PassesOwn.leaving rfl (pi_range1 rfl B.m_range (pa_cons (pe_int) pa_nil)) (pg_name (i := 3) S__law_are_odd_refused.nd rfl (Or.inl rfl)) (pss_cons (ps_set (i := 4) S__law_are_odd_refused.nd rfl (Or.inr rfl) (pe_cal C__law_of hr (pa_cons (pv 0) (pa_cons (pv 2) pa_nil))))
      (pss_cons (ps_set (i := 5) S__law_are_odd_refused.nd rfl (Or.inl rfl) (pe_lst (pa_cons (pe_ix ix_tup (pe_hear61 (k := 5) Fh hCS TB rfl hr (by rfl) rfl (lamS_by (sc := defScope s__law_are_odd_refused) (by decide +kernel)) rfl (fun _ _ _ _ _ => rfl) (fun A outer s H E f c hr => pe_calE C_sum_at hr (passes_call (takes_of rfl rfl rfl rfl) fun _ _ _ _ h => h) (pa_cons (pv 4) (pa_cons (pe_un un_neg pe_int) pa_nil)))) (pe_int) (fun _ _ => rfl)) pa_nil)))
      (pss_cons (ps_expr (pe_bm PySem.F.plainAttrs_list PySem.F.slot_list_append PySem.F.type_list_append mt_append (pv 5) (pa_cons (pe_ix ix_tup (pe_hear61 (k := 5) Fh hCS TB rfl hr (by rfl) rfl (lamS_by (sc := defScope s__law_are_odd_refused) (by decide +kernel)) rfl (fun _ _ _ _ _ => rfl) (fun A outer s H E f c hr => pe_calE C_sum_text hr (passes_call (takes_of rfl rfl rfl rfl) fun _ _ _ _ h => h) (pa_cons (pv 4) pa_nil))) (pe_int) (fun _ _ => rfl)) pa_nil)))
      (pss_one (ps_if (pt_not (pt_val (pe_callB (cr_all rfl) (by rfl) B.m_all (by decide +kernel) (pa_cons (pe_lc (own := [("error", 8)]) rfl S__law_are_odd_refused.nd (pi_list (pv 5)) (blkOk_by (own := [("error", 8)]) (N := N__law_are_odd_refused) (sc := defScope s__law_are_odd_refused) (by decide +kernel)) (fun _ _ _ _ _ => pg_name (i := 8) S__law_are_odd_refused.nd rfl (Or.inl rfl)) (fun _ _ _ _ _ => pts_nil) (fun _ _ _ _ _ => pe_and (pe_callB (call_isxK (K := K) (by rfl)) (by rfl) B.m_isinstance (by decide +kernel) (pa_cons (pv 8) (pa_cons (pe_cls Y_BadSum.at') pa_nil))) (pe_one (pe_cmpR op_eq (pe_callB (call_reprK (K := K) (by rfl) hr hgu) (by rfl) B.m_repr (by decide +kernel) (pa_cons (pe_valueK (K := K) (by rfl) (pv 8)) pa_nil)) (pe_callB (call_reprK (K := K) (by rfl) hr hgu) (by rfl) B.m_repr (by decide +kernel) (pa_cons (pv 4) pa_nil)) (nomark _))))) pa_nil)))) (pss_one (ps_ret (pe_bl))) (pss_nil)))))))
      (pss_cons (ps_set (i := 6) S__law_are_odd_refused.nd rfl (Or.inr rfl) (pe_cal C__law_of hr (pa_cons (pv 0) (pa_cons (pe_lst (pa_cons (pe_un un_neg pe_int) (pa_cons (pe_int) (pa_cons (pe_bl) (pa_cons (pe_non) (pa_cons (pe_str) pa_nil)))))) pa_nil))))
      (pss_cons (ps_set (i := 5) S__law_are_odd_refused.nd rfl (Or.inl rfl) (pe_ix ix_tup (pe_hear61 (k := 5) Fh hCS TB rfl hr (by rfl) rfl (lamS_by (sc := defScope s__law_are_odd_refused) (by decide +kernel)) rfl (fun _ _ _ _ _ => rfl) (fun A outer s H E f c hr => pe_calE C_sum_at hr (passes_call (takes_of rfl rfl rfl rfl) fun _ _ _ _ h => h) (pa_cons (pe_tup (pa_nil)) (pa_cons (pv 6) pa_nil)))) (pe_int) (fun _ _ => rfl)))
      (pss_cons (ps_set (i := 7) S__law_are_odd_refused.nd rfl (Or.inl rfl) (pe_tup (pa_cons (pe_tup (pa_cons (pe_int) (pa_cons (pe_op op_repT (pe_tup (pa_cons (pv 1) pa_nil)) (pe_int)) pa_nil))) pa_nil)))
      (pss_one (ps_ret (pe_and (pe_callB call_isx (by rfl) B.m_isinstance (by decide +kernel) (pa_cons (pv 5) (pa_cons (pe_cls Y_BadNumber.at') pa_nil))) (pe_and (pe_cmpR op_eq (pe_callB (call_repr hr hgu) (by rfl) B.m_repr (by decide +kernel) (pa_cons (pe_value (pv 5)) pa_nil)) (pe_callB (call_repr hr hgu) (by rfl) B.m_repr (by decide +kernel) (pa_cons (pv 6) pa_nil)) (nomark _)) (pe_one (pe_cmpR (op_eqD hr.units) (pe_calN C_sum_at hr (pa_cons (pv 7) (pa_cons (pe_int) pa_nil))) (pe_tup (pa_cons (pe_int) (pa_cons (pe_int) pa_nil))) (nomark _))))))))))))))), ?_⟩
  obtain ⟨p, N, rfl, hp, hN, hT, q⟩ := h
  have K0 : Stays [(Pt, qOdd)] p N H H := ⟨ExtP.refl, hT, hp⟩
  refine s_let (K := K) (G := fun _ => none) (d := oneD) (d_tup (ds_cons d_int (ds_cons d_int ds_nil))) (fun _ _ z => nomatch z) fun ov G1 H1 g1 ko => ?_
  dsimp only
  have K1 := K0.gro g1
  have gp1 : G1 p = none := g1.none hp.ne rfl
  have h1 : ∀ G', Ex G1 G' → EvD K (tVar 1) _ G' oneD := fun G' e => d_var (i := 1) (σ := (L2.start N__law_are_odd_refused [.ref p]).set 1 (some ov)) rfl (ko.ex e)
  have o1 := h1 G1 (Ex.refl _)
  refine s_newLs (K := K) (G := G1) (ds := odds1) (ds_cons d_non (ds_cons (d_lst ds_nil) (ds_cons (d_tup (ds_cons d_int (ds_cons (d_tup (ds_cons o1 ds_nil)) ds_nil))) (ds_cons (d_tup (ds_cons (d_tup (ds_cons d_int (ds_cons (d_tup (ds_cons o1 ds_nil)) ds_nil))) ds_nil)) (ds_cons (d_tup (ds_cons (d_tup (ds_cons d_int (ds_cons (d_tup (ds_cons o1 ds_nil)) ds_nil))) ds_nil)) (ds_cons (d_tup (ds_cons (d_tup (ds_cons d_int (ds_cons (d_tup ds_nil) ds_nil))) ds_nil))
    (ds_cons (d_tup (ds_cons (d_tup (ds_cons d_int (ds_cons (d_tup (ds_cons (d_tup (ds_cons d_int (ds_cons d_int ds_nil))) ds_nil)) ds_nil))) ds_nil)) (ds_cons (d_tup (ds_cons (d_tup (ds_cons d_int (ds_cons (d_tup (ds_cons (d_tup (ds_cons d_int (ds_cons d_int ds_nil))) ds_nil)) ds_nil))) ds_nil)) ds_nil)))))))) g1.gh (by decide) fun r vs1 G2 H2 g2 hr2 hv1 => ?_
  dsimp only
  have gr2 := gnone g2.gh hr2
  have np : p ≠ r := fun z => (K1.gro g2).k.ne (by rw [z]; exact hr2)
  have fr := (K1.gro g2).fresh np hr2
  have K2 := (K1.gro g2).ex (Ex.new (o := .lst vs1) hr2)
  have gp2 : G2 p = none := g2.none K1.k.ne gp1
  have o2 : EvD K (tVar 1) [some (.ref p), some ov, some (.ref r), none, none, none, none, none, none] G2 oneD := d_var rfl (ko.ex g2.g)
  refine s_extend (K := K) (p := r) (G := G2) (i := 2) (acc := vs1) (ds := odds2) (σ := [some (.ref p), some ov, some (.ref r), none, none, none, none, none, none]) rfl upd_same (by rw [hv1.length]; decide) gr2 (ds_cons (d_tup (ds_cons (d_tup (ds_cons d_int (ds_cons (d_tup (ds_cons (d_tup (ds_cons d_int (ds_cons (d_un d_int r_neg) ds_nil))) ds_nil)) ds_nil))) ds_nil))
    (ds_cons (d_tup (ds_cons (d_tup (ds_cons d_int (ds_cons (d_tup (ds_cons (d_tup (ds_cons d_int (ds_cons d_int ds_nil))) ds_nil)) ds_nil))) ds_nil)) (ds_cons (d_tup (ds_cons (d_tup (ds_cons d_bl (ds_cons (d_tup (ds_cons o2 ds_nil)) ds_nil))) ds_nil)) (ds_cons (d_tup (ds_cons (d_tup (ds_cons d_int (ds_cons (d_lst (ds_cons o2 ds_nil)) ds_nil))) ds_nil))
      (ds_cons (d_tup (ds_cons (d_tup (ds_cons d_int (ds_cons (d_tup (ds_cons o2 ds_nil)) ds_nil))) (ds_cons (d_tup (ds_cons d_int (ds_cons (d_tup (ds_cons o2 ds_nil)) ds_nil))) ds_nil))) ds_nil))))) (ex_mut g2.gh gr2) fun vs2 q2 G3 H3 g3 gr3 hr3 hv2 hq2 => ?_
  dsimp only
  have rq2 : r ≠ q2 := fun z => by rw [z, hq2] at hr3; cases hr3
  have K3 := ((K2.gro g3).ex (Ex.new (o := .lst vs2) hq2)).mut (ys := vs1 ++ vs2) fr (by rw [upd_ne rq2]; exact hr3) np
  have gp3 : G3 p = none := g3.none K2.k.ne gp2
  have o3 : EvD K (tVar 1) [some (.ref p), some ov, some (.ref r), none, none, none, none, none, none] G3 oneD := d_var rfl (ko.ex (g2.g.trans g3.g))
  refine s_extend (K := K) (p := r) (G := G3) (i := 2) (acc := vs1 ++ vs2) (ds := odds3) (σ := [some (.ref p), some ov, some (.ref r), none, none, none, none, none, none]) rfl upd_same (by rw [List.length_append, hv1.length, hv2.length]; decide) gr3 (ds_cons (d_tup (ds_cons (d_tup (ds_cons d_int (ds_cons (d_tup (ds_cons o3 ds_nil)) ds_nil))) (ds_cons (d_tup (ds_cons d_int (ds_cons (d_tup (ds_cons o3 ds_nil)) ds_nil))) ds_nil)))
    (ds_cons (d_tup (ds_cons (d_tup (ds_cons d_int (ds_cons (d_op (d_tup (ds_cons o3 ds_nil)) d_int (r_repT (k := 61) (by simp) (by decide) (by decide) (by decide))) ds_nil))) ds_nil)) (ds_cons (d_tup (ds_cons (d_tup (ds_cons d_int (ds_cons (d_tup (ds_cons (d_tup (ds_cons d_bl (ds_cons d_int ds_nil))) ds_nil)) ds_nil))) ds_nil))
      (ds_cons (d_tup (ds_cons (d_tup (ds_cons d_int (ds_cons (d_tup (ds_cons o3 ds_nil)) (ds_cons d_int ds_nil)))) ds_nil)) ds_nil)))) (ex_mut (g3.gh.trans (Ex.new hq2)) gr3) fun vs3 q3 G4 H4 g4 gr4 hr4 hv3 hq3 => ?_
  dsimp only
  have rq3 : r ≠ q3 := fun z => by rw [z, hq3] at hr4; cases hr4
  have K4 := ((K3.gro g4).ex (Ex.new (o := .lst vs3) hq3)).mut (ys := vs1 ++ vs2 ++ vs3) fr (by rw [upd_ne rq3]; exact hr4) np
  have gp4 : G4 p = none := g4.none K3.k.ne gp3
  have o4 : EvD K (tVar 1) [some (.ref p), some ov, some (.ref r), none, none, none, none, none, none] G4 oneD := d_var rfl (ko.ex ((g2.g.trans g3.g).trans g4.g))
  refine s_append (K := K) (p := r) (G := G4) (i := 2) (acc := vs1 ++ vs2 ++ vs3) (d := odds4) (σ := [some (.ref p), some ov, some (.ref r), none, none, none, none, none, none]) rfl upd_same (by rw [List.length_append, List.length_append, hv1.length, hv2.length, hv3.length]; decide) gr4 (d_tup (ds_cons (d_tup (ds_cons d_int (ds_cons (d_tup (ds_cons (d_op o4 o4 (r_catT (by decide))) ds_nil)) ds_nil))) ds_nil)) (ex_mut (g4.gh.trans (Ex.new hq3)) gr4) fun v5 G5 H5 g5 gr5 hr5 hv5 => ?_
  dsimp only
  have K5 := (K4.gro g5).mut (ys := vs1 ++ vs2 ++ vs3 ++ [v5]) fr hr5 np
  have gp5 : G5 p = none := g5.none K4.k.ne gp4
  have hA : DpAll K G5 (vs1 ++ vs2 ++ vs3 ++ [v5]) oddsA := (((hv1.ex ((g3.g.trans g4.g).trans g5.g)).append (hv2.ex (g4.g.trans g5.g))).append (hv3.ex g5.g)).append (.cons hv5 .nil)
  refine s_rng (n := 4) (by decide) (fun i σ' H' => ∃ G', Ex G' H' ∧ G' p = none ∧ Stays [(Pt, qOdd)] p (N + i) H H' ∧ Dp K G' ov oneD ∧ Dp K G' (.ref r) (.list oddsA) ∧ ∃ o3 o4 o5 o6 o7 o8, σ' = [some (.ref p), some ov, some (.ref r), o3, o4, o5, o6, o7, o8])
    ⟨_, ex_upd2 g5.gh, by rw [upd_ne np]; exact gp5, K5, ko.ex ((((g2.g.trans g3.g).trans g4.g).trans g5.g).trans (Ex.new gr5)), dp_frozen hA gr5, none, none, none, none, none, none, rfl⟩
    (fun i σ' H' hi ⟨G', e', gp', K', ko', kr', o3, o4, o5, o6, o7, o8, hs⟩ => ?_) (fun σ' H' ⟨G', e', gp', K', ko', kr', o3, o4, o5, o6, o7, o8, hs⟩ => ?_)
  · subst hs
    show tSeq _ _ _ _ _
    refine s_letP (K := K) (p := p) (G := G') (k := 1) (P := fun d => d ∈ oddsA) (p_ofC (i := 0) (xs := oddsA) rfl (d_var (i := 2) rfl kr') (by decide) (by decide)) e' gp' K'.k (by omega) fun d dv G7 H7 hd g7 hp7 hv7 => ?_
    dsimp only
    obtain ⟨ok1, ok2, ok3⟩ := odd_at hd
    have K7 := K'.groP g7 hp7
    have gp7 : G7 p = none := g7.none K'.k.ne gp'
    obtain ⟨pa, pb, pc, hpot, _⟩ := id hp7
    refine x_heard (C := CB) (CS := DS) (x := d) (G := G7) K7.t g7.gh Y_BadSum.ex (fun G8 H8 E8 Q8 n8 e8 hE => x_call (ds_cons (d_var (i := 4) rfl (dp_exN n8 d dv hv7)) (ds_cons (d_un d_int r_neg) ds_nil)) e8 (.bad ok2 ok1) hE) fun a1 w1 G8 H8 n8 e8 m8 t8 hk1 hw1 old8 => ?_
    refine ⟨sz_of (by show 1 ≤ _; decide), fun cq hcq => ?_⟩
    have gp8 : G8 p = none := (old8 p _ hpot (fun ps z => by cases z)).trans (strip_none gp7)
    have K7' := K7.extN m8 t8
    have ncq : p ≠ cq := fun z => K7'.k.ne (by rw [z]; exact hcq)
    have fcq := K7'.fresh ncq hcq
    have K8 := K7'.ex (Ex.new (o := .lst [.ref a1]) hcq)
    have gcq8 := gnone e8 hcq
    obtain ⟨pa', pb', pc', hpot8, _⟩ := id K8.k
    refine ⟨.ref cq, rfl, .inl ⟨rfl, [.ref a1], .inl (.inl upd_same)⟩, ?_⟩
    refine x_heard (C := CB) (CS := DS) (x := d) (G := G8) K8.t (e8.trans (Ex.new hcq)) Y_BadSum.ex (fun G9 H9 E9 Q9 n9 e9 hE => x_call (ds_cons (d_var (i := 4) rfl (dp_exN n9 d dv (dp_exN n8 d dv hv7))) ds_nil) e9 (.bad ok2 ok1) hE) fun a2 w2 G9 H9 n9 e9 m9 t9 hk2 hw2 old9 => ?_
    have hc9 := m9 cq (.lst [.ref a1]) upd_same (fun ps z => by cases z)
    have gcq9 : G9 cq = none := (old9 cq _ upd_same (fun ps z => by cases z)).trans (strip_none gcq8)
    have gp9 : G9 p = none := (old9 p _ hpot8 (fun ps z => by cases z)).trans (strip_none gp8)
    refine ⟨cq, [.ref a1], .ref a2, rfl, rfl, hc9, Nat.lt_of_lt_of_le (show 1 < 100000 by decide) (sz_of (Nat.le_refl _)), ?_⟩
    have K9 := (K8.extN m9 t9).mut (ys := [.ref a1, .ref a2]) fcq hc9 ncq
    have n79 : ExtN G7 G9 := n8.trans n9
    have e10 : Ex G9 (upd G9 cq (.lst [.ref a1, .ref a2])) := Ex.new gcq9
    dsimp only
    refine s_ifD (G := upd G9 cq (.lst [.ref a1, .ref a2])) (b := false) (t_not (t_test (K := K) (b := true) (d_allV (i := 5) rfl (.inl (.inl upd_same)) (by simp) fun v hv G11 e11 => ⟨_, g_name (j := 8), rfl, ?_⟩))) (ex_upd2 e9) (fun z => by cases z) fun _ H10 g10 => ?_
    · obtain ⟨w', hk, hw⟩ : ∃ w', Kept G9 v CB w' ∧ Dp K G9 w' d := by
        have : v = .ref a1 ∨ v = .ref a2 := by simpa using hv
        rcases this with rfl | rfl
        · exact ⟨w1, hk1.exN n9, dp_exN n9 d _ hw1⟩
        · exact ⟨w2, hk2, hw2⟩
      have hk' := hk.ex (e10.trans e11)
      refine d_andT (d_isC (i := 8) rfl hk' Y_BadSum.ec) (d_is (d_op (d_cb (ds_cons (d_val (i := 8) rfl hk' Y_BadSum.xf Y_BadSum.nv (hw.ex (e10.trans e11))) ds_nil) (c_repr ok3)) (d_cb (ds_cons (d_var (i := 4) rfl ((dp_exN n79 d dv hv7).ex (e10.trans e11))) ds_nil) (c_repr ok3)) r_eqS) (by simp))
    · refine ⟨_, g10.gh, by rw [upd_ne ncq]; exact gp9, K9.ex g10.h, (dp_exN n79 _ _ (ko'.ex g7.g)).ex e10, (dp_exN n79 _ _ (kr'.ex g7.g)).ex e10, _, _, _, _, _, _, rfl⟩
  · subst hs
    refine s_letP (K := K) (p := p) (G := G') (k := 1) (P := fun d => d ∈ badsA) (p_ofC (i := 0) (xs := badsA) rfl (d_lst (ds_cons (d_un d_int r_neg) (ds_cons d_int (ds_cons d_bl (ds_cons d_non (ds_cons d_str ds_nil))))) (by decide)) (by decide) (by decide)) e' gp' K'.k (by omega) fun d dv G7 H7 hd g7 hp7 hv7 => ?_
    dsimp only
    obtain ⟨ok1, ok3⟩ := bad_at hd
    have K7 := K'.groP g7 hp7
    refine x_heard (C := CN) (CS := DS) (x := d) (G := G7) K7.t g7.gh Y_BadNumber.ex (fun G8 H8 E8 Q8 n8 e8 hE => x_call (ds_cons (d_tup (ds := []) ds_nil (by decide)) (ds_cons (d_var (i := 6) rfl (dp_exN n8 d dv hv7)) ds_nil)) e8 (.num (d := .tuple []) (smallB_ok rfl) rfl ok1) hE) fun a1 w1 G8 H8 n8 e8 m8 t8 hk1 hw1 old8 => ?_
    have K8 := K7.extN m8 t8
    dsimp only
    have ko8 : Dp K G8 ov oneD := dp_exN n8 _ _ (ko'.ex g7.g)
    have kd8 : Dp K G8 dv d := dp_exN n8 _ _ hv7
    show tSeq _ _ _ _ _
    refine s_let (K := K) (G := G8) (d := rowsD fineR) (d_is (d_tup (ds_cons (d_tup (ds_cons d_int (ds_cons (d_op (d_tup (ds_cons (d_var (i := 1) rfl ko8) ds_nil)) d_int (r_repT (k := 60) (by simp) (by decide) (by decide) (by decide))) ds_nil))) ds_nil)) ?_) e8 fun fv G9 H9 g9 kf => ?_
    · rfl
    dsimp only
    have hk9 := hk1.ex g9.g
    refine s_retD (K := K) (G := G9) (d := .bool true) (d_andT (d_isC (i := 5) rfl hk9 Y_BadNumber.ec) (d_andT (d_is (d_op (d_cb (ds_cons (d_val (i := 5) rfl hk9 Y_BadNumber.xf Y_BadNumber.nv (hw1.ex g9.g)) ds_nil) (c_repr ok3)) (d_cb (ds_cons (d_var (i := 6) rfl (kd8.ex g9.g)) ds_nil) (c_repr ok3)) r_eqS) (by simp))
      (d_is (d_op (d_callX (z := frQ 1) (ds_cons (d_var (i := 7) rfl kf) (ds_cons d_int ds_nil)) (by rw [← fine_val]; exact .val fine_ok (by decide) (by decide))) (d_tup (ds_cons d_int (ds_cons d_int ds_nil))) (r_eqD (x := frQ 1) rfl rfl)) rfl))) g9.gh fun v G10 H10 g10 hv10 => ?_
    obtain rfl := dp_bl hv10
    have K10 := (K8.gro g9).gro g10
    exact q H10 K10.e K10.t
end
end K61
end
section
set_option Elab.async false
set_option linter.all false
set_option maxRecDepth 100000
set_option maxHeartbeats 4000000
set_option exponentiation.threshold 9000
namespace K61
open PySem PySem.Spec PyProof.Rows L2 Evl Sy RZ LamX
open scoped Rat
def spRight (T : List (Addr × Str)) : Sp := fun vs H Q _ => ∃ (p : Addr) (N : Nat), vs = [.ref p] ∧ PotOk N H p ∧ N + 9000 ≤ big60 ∧ Tabs T H ∧ ∀ H', ExtP p H H' → Tabs T H' → Q (.bl true) H'
def spLaw (K : PySem.W.Frag) (T : List (Addr × Str)) : Sp := fun vs H Q _ => ∃ (G : Hp) (u : V) (ns : List Int), vs = [u] ∧ Ex G H ∧ Dp K G u (.list (ns.map PyData.int)) ∧ Tabs T H ∧ ∀ H', Q (.bl true) H'
section
variable {P : Program} {w : World} {K : PySem.W.Frag} {mg : Str → Option Value} {base : Heap}
theorem s_ifNotP {p : Addr} {k N : Nat} {te : TE} {σ : L2.St} {G H : Hp} {tu tw : TS} {E : Ends} (h : EvP K p k te σ G (fun d => d = .bool true)) (e : Ex G H) (g : G p = none) (hp : PotOk N H p) (hN : N + k ≤ big60)
    (c : ∀ G1 H1, GroP p G H G1 H1 → PotOk (N + k) H1 p → tw E σ H1) : tIfS (tNot (tB te)) tu tw E σ H :=
  h G H N (Ex.refl G) e g hp hN _ fun d v G1 H1 hd a hp' hv => by
    subst hd
    exact ⟨true, dp_bl hv, c G1 H1 a hp'⟩
theorem C_law_right {CB CN Pt : Addr} (B : Bi mg) (C__law_sum : CalO P w K mg base CX0 3 "_law_sum" ["pot"] (spP K 2000 (fun ds => ds = []) PostS)) (C__law_is_sum_right : Cal P w K mg base CX0 6 "_law_is_sum_right" ["pot", "rows"] (spP K 20 PreR PostR))
    (C__law_are_odd_refused : Cal P w K mg base CX0 8 "_law_are_odd_refused" ["pot"] (spOdd [(Pt, qOdd)])) (C_sum_at : CalO P w K mg base (L2.CX P w) 5 "sum_at" ["told", "many"] (spX K (Rsum CB CN)))
    (F : DefAt K mg "_law_right" s__law_right) : Cal P w K mg base CX0 9 "_law_right" ["pot"] (spRight [(Pt, qOdd)]) := by
  refine calG_mk F S__law_right b__law_right (fun vs H Q E ⟨p, N, h, _⟩ => by rw [h]; rfl) fun f fd cdv A outer s H vs Q E _ hr hgu _ h => ?_
  refine ⟨_, pss_cons (ps_for PassesOwn.leaving rfl (pi_range1 rfl B.m_range (pa_cons (pe_int) pa_nil)) (pg_name (i := 1) S__law_right.nd rfl (Or.inl rfl)) (pss_one (ps_if (pt_not (pt_val (pe_calG C__law_is_sum_right hr hgu (pa_cons (pv 0) (pa_cons (pe_cal C__law_sum hr (pa_cons (pv 0) pa_nil)) pa_nil))))) (pss_one (ps_ret (pe_bl))) (pss_nil))))
      (pss_one (ps_ret (pe_and (pe_calG C__law_are_odd_refused hr hgu (pa_cons (pv 0) pa_nil)) (pe_one (pe_cmpR (op_eqD hr.units) (pe_calN C_sum_at hr (pa_cons (pe_tup (pa_nil)) (pa_cons (pe_int) pa_nil))) (pe_tup (pa_cons (pe_int) (pa_cons (pe_int) pa_nil))) (nomark _)))))), ?_⟩
  obtain ⟨p, N, rfl, hp, hN, hT, q⟩ := h
  have em : ∀ H' : Hp, Ex (fun _ => none) H' := fun _ _ _ z => nomatch z
  refine s_rng (n := 4) (by decide) (fun i σ' H' => Stays [(Pt, qOdd)] p (N + 2020 * i) H H' ∧ ∃ o1, σ' = [some (.ref p), o1]) ⟨⟨ExtP.refl, hT, hp⟩, none, rfl⟩ (fun i σ' H' hi ⟨K', o1, hs⟩ => ?_) (fun σ' H' ⟨K', o1, hs⟩ => ?_)
  · subst hs
    refine s_ifNotP (K := K) (p := p) (k := 2020) (G := fun _ => none) ?_ (em _) rfl K'.k (by omega) fun G1 H1 g1 hp1 => ?_
    · refine p_mono (p_draw (i := 0) (k := 20) (k1 := 2000) rfl (p_one (p_draw (i := 0) (k := 2000) (k1 := 0) rfl ps_nil fun ds h => h)) fun ds ⟨d, h1, ds', h2, rows, h3, h4⟩ => ⟨rows, by rw [h1, h3], h4⟩) (by decide) fun d ⟨ds, _, h⟩ => h
    · exact ⟨K'.groP g1 hp1, _, rfl⟩
  · subst hs
    refine ⟨.ref p, rfl, p, _, by rw [List.append_nil], K'.k, by omega, K'.t, fun H2 e2 t2 => ⟨true, rfl, ?_⟩⟩
    rw [if_pos rfl]
    refine (d_is (d_op (d_callX (z := frQ 0) (ds_cons (d_tup (ds := []) ds_nil (by decide)) (ds_cons d_int ds_nil)) (by rw [← nil_val]; exact .val nil_ok (by decide) (by decide))) (d_tup (ds_cons d_int (ds_cons d_int ds_nil))) (r_eqD (x := frQ 0) rfl rfl)) rfl : EvD K _ _ (fun _ => none) (.bool true)) (fun _ => none) H2 (Ex.refl _) (em _) _ fun v G3 H3 g3 hv => ?_
    obtain rfl := dp_bl hv
    exact q H3 ((K'.e.trans e2).trans g3.extP) (tabs_ex t2 g3.h)
theorem cellsN_le {l : Int} : cellsN 3 l ≤ 3 := by
  unfold cellsN
  split <;> (try split) <;> omega
theorem C_law {Pt : Addr} (B : Bi mg) (C__law_cells : CalO P w K mg base CX0 1 "_law_cells" ["script", "most"] (spR K Rcells)) (C__law_pot : CalO P w K mg base CX0 1 "_law_pot" ["script", "place"] (spPot K)) (C__law_right : Cal P w K mg base CX0 9 "_law_right" ["pot"] (spRight [(Pt, qOdd)]))
    (F : DefAt K mg "law" s_law) : Cal P w K mg base CX0 10 "law" ["script"] (spLaw K [(Pt, qOdd)]) := by
  refine calG_mk F S_law b_law (fun vs H Q E ⟨G, u, ns, h, _⟩ => by rw [h]; rfl) fun f fd cdv A outer s H vs Q E _ hr hgu _ h => ?_
  refine ⟨_, pss_cons (ps_for PassesOwn.leaving rfl (pi_list (pe_cal C__law_cells hr (pa_cons (pv 0) (pa_cons (pe_int) pa_nil)))) (pg_name (i := 1) S_law.nd rfl (Or.inl rfl)) (pss_cons (ps_set (i := 2) S_law.nd rfl (Or.inl rfl) (pe_cal C__law_pot hr (pa_cons (pv 0) (pa_cons (pv 1) pa_nil))))
      (pss_one (ps_if (pt_not (pt_val (pe_calG C__law_right hr hgu (pa_cons (pv 2) pa_nil)))) (pss_one (ps_ret (pe_bl))) (pss_nil)))))
      (pss_one (ps_ret (pe_bl))), ?_⟩
  obtain ⟨G, u, ns, rfl, e, hu, hT, q⟩ := h
  have em : ∀ H' : Hp, Ex (fun _ => none) H' := fun _ _ _ z => nomatch z
  refine s_forL (K := K) (G := G) (ds := (List.range (cellsN 3 ns.length)).map fun i : Nat => PyData.int (i : Int)) (d_call (ds_cons (d_var (i := 0) (σ := L2.start N_law [u]) rfl hu) (ds_cons d_int ds_nil)) ⟨ns, 3, rfl, by decide, by decide, rfl⟩) e
    (fun lp xs i σ' H' => ∃ G', Ex G' H' ∧ Dp K G' u (.list (ns.map PyData.int)) ∧ SqL K G' lp xs ∧ DpAll K G' xs ((List.range (cellsN 3 ns.length)).map fun i : Nat => PyData.int (i : Int)) ∧ Tabs [(Pt, qOdd)] H' ∧ ∃ o1 o2, σ' = [some u, o1, o2])
    (fun lp xs G2 H2 g2 h1 h2 => ⟨G2, g2.gh, hu.ex g2.g, h1, h2, tabs_ex hT g2.h, none, none, rfl⟩) (fun lp xs i σ' H' ⟨G', e', _, h1, _⟩ => ex_l e' h1) (fun lp xs i v σ' H' hv ⟨G', e', ku, kl, kx, hT', o1, o2, hs⟩ => ?_) (fun lp xs σ' H' ⟨G', e', _, _, _, _, o1, o2, hs⟩ => ?_)
  · subst hs
    obtain ⟨d, hd, kd⟩ := kx.get2 hv
    rw [List.getElem?_map] at hd
    obtain ⟨j, hj, rfl⟩ := Option.map_eq_some_iff.mp hd
    obtain rfl := dp_int kd
    have hjl : j ≤ 10 := by
      have h1 := List.mem_of_getElem? hj
      rw [List.mem_range] at h1
      have := cellsN_le (l := ns.length)
      omega
    show tSeq _ _ _ _ _
    refine ⟨u, rfl, .int (j : Int), rfl, G', [.list (ns.map PyData.int), .int (j : Int)], ns, j, e', .cons ku (.cons (.int _) .nil), rfl, by omega, by omega, fun p G1 H1 g1 hp a b ha0 ha1 hb0 hb1 => ?_⟩
    dsimp only
    have gp := gnone g1.gh hp
    refine ⟨.ref p, rfl, p, 0, rfl, ⟨a, b, 0, upd_same, ha0, ha1, hb0, hb1, Int.le_refl _, Int.le_refl _⟩, by decide, tabs_ex (tabs_ex hT' g1.h) (Ex.new hp), fun H2 e2 t2 => ⟨true, rfl, ?_⟩⟩
    exact ⟨strip G1, strip_exP (ex_mut g1.gh gp) gp e2, dp_exN strip_ext _ _ (ku.ex g1.g), sq_exN strip_ext (ex_l g1.g kl), dpa_exN strip_ext _ _ (kx.ex g1.g), t2, _, _, rfl⟩
  · subst hs
    exact q H'
end
end K61
end
section
set_option Elab.async false
set_option linter.all false
set_option maxRecDepth 100000
set_option maxHeartbeats 4000000
namespace K61
open PySem PySem.Spec PyProof.Rows L2 Evl Sy RZ LamX
theorem bi_mk {K : PySem.W.Frag} {mg : Str → Option Value} {h : Heap} {t1 t2 t3 : Tok} (KX : K.In h) (G : h.Ns mainGlobals mg)
    (z_abs : PySem.W.nsIn K mainGlobals "abs" = some none)
    (z_len : PySem.W.nsIn K mainGlobals "len" = some none)
    (z_all : PySem.W.nsIn K mainGlobals "all" = some none)
    (z_sum : PySem.W.nsIn K mainGlobals "sum" = some none)
    (z_max : PySem.W.nsIn K mainGlobals "max" = some none)
    (z_min : PySem.W.nsIn K mainGlobals "min" = some none)
    (z_sorted : PySem.W.nsIn K mainGlobals "sorted" = some none)
    (z_repr : PySem.W.nsIn K mainGlobals "repr" = some none)
    (z_isinstance : PySem.W.nsIn K mainGlobals "isinstance" = some none)
    (z_int : PySem.W.nsIn K mainGlobals "int" = some none)
    (z_str : PySem.W.nsIn K mainGlobals "str" = some none)
    (z_tuple : PySem.W.nsIn K mainGlobals "tuple" = some none)
    (z_list : PySem.W.nsIn K mainGlobals "list" = some none)
    (z_set : PySem.W.nsIn K mainGlobals "set" = some none)
    (z_range : PySem.W.nsIn K mainGlobals "range" = some none)
    (z_enumerate : PySem.W.nsIn K mainGlobals "enumerate" = some none)
    (z_zip : PySem.W.nsIn K mainGlobals "zip" = some none)
    (z_bool : PySem.W.nsIn K mainGlobals "bool" = some none)
    (c1 : PySem.W.nsIn K mainGlobals "MOST_BASE" = some (some (.int 64 t1))) (c2 : PySem.W.nsIn K mainGlobals "MOST_FRACTIONS" = some (some (.int 60 t2))) (c3 : PySem.W.nsIn K mainGlobals "MOST_MANY" = some (some (.int 1000 t3)))
    (c4 : ∃ t, mg "BEYOND" = some (.int (10 ^ 200) t)) : Bi mg :=
  ⟨PySem.W.mg_none_of KX G z_abs, PySem.W.mg_none_of KX G z_len, PySem.W.mg_none_of KX G z_all, PySem.W.mg_none_of KX G z_sum, PySem.W.mg_none_of KX G z_max, PySem.W.mg_none_of KX G z_min, PySem.W.mg_none_of KX G z_sorted, PySem.W.mg_none_of KX G z_repr, PySem.W.mg_none_of KX G z_isinstance, PySem.W.mg_none_of KX G z_int, PySem.W.mg_none_of KX G z_str, PySem.W.mg_none_of KX G z_tuple, PySem.W.mg_none_of KX G z_list, PySem.W.mg_none_of KX G z_set, PySem.W.mg_none_of KX G z_range, PySem.W.mg_none_of KX G z_enumerate, PySem.W.mg_none_of KX G z_zip, PySem.W.mg_none_of KX G z_bool, ⟨t1, PySem.W.mg_of KX G c1⟩, ⟨t2, PySem.W.mg_of KX G c2⟩, ⟨t3, PySem.W.mg_of KX G c3⟩, c4⟩
theorem beyond_of {q : Program} {i : Int} {mg : Str → Option Value} {h : Heap} (x : PySem.W.XL q [("BEYOND", PySem.W.WData.int i)] mg h) (hi : i = 10 ^ 200) : ∃ t, mg "BEYOND" = some (.int (10 ^ 200) t) := by
  obtain ⟨v, h1, h2⟩ := x.2.val _ List.mem_cons_self
  subst hi
  cases h2
  exact ⟨_, h1⟩
theorem fin {l : PySem.W.OpenLaw} {w : World} {K : PySem.W.Frag} {n : Nat} {mg : Str → Option Value} {h : Heap} {DS CB CN c Pt : Addr} (B : Bi mg) (YB : mg "SayingError" = some (.ref DS) ∧ SayK l.prog K mg DS CB "BadSum") (YN : mg "SayingError" = some (.ref DS) ∧ SayK l.prog K mg DS CN "BadNumber")
    (d_common_divisor : DefAt K mg "common_divisor" s_common_divisor)
    (d_fraction : DefAt K mg "fraction" s_fraction)
    (d_added : DefAt K mg "added" s_added)
    (d_multiplied : DefAt K mg "multiplied" s_multiplied)
    (d_is_number : DefAt K mg "is_number" s_is_number)
    (d_is_fraction : DefAt K mg "is_fraction" s_is_fraction)
    (d_is_sum_row : DefAt K mg "is_sum_row" s_is_sum_row)
    (d_check_sum : DefAt K mg "check_sum" s_check_sum)
    (d_sum_at : DefAt K mg "sum_at" s_sum_at)
    (d_power_of : DefAt K mg "power_of" s_power_of)
    (d_number_text : DefAt K mg "number_text" s_number_text)
    (d_sum_text : DefAt K mg "sum_text" s_sum_text)
    (d__law_pot : DefAt K mg "_law_pot" s__law_pot)
    (d__law_take : DefAt K mg "_law_take" s__law_take)
    (d__law_of : DefAt K mg "_law_of" s__law_of)
    (d__law_cells : DefAt K mg "_law_cells" s__law_cells)
    (d__law_heard : DefAt K mg "_law_heard" s__law_heard)
    (d__law_divisor : DefAt K mg "_law_divisor" s__law_divisor)
    (d__law_fraction : DefAt K mg "_law_fraction" s__law_fraction)
    (d__law_sum : DefAt K mg "_law_sum" s__law_sum)
    (d__law_value : DefAt K mg "_law_value" s__law_value)
    (d__law_part : DefAt K mg "_law_part" s__law_part)
    (d__law_text : DefAt K mg "_law_text" s__law_text)
    (d__law_is_sum_right : DefAt K mg "_law_is_sum_right" s__law_is_sum_right)
    (d__law_right : DefAt K mg "_law_right" s__law_right)
    (d_law : DefAt K mg "law" s_law)
    (dc : DefC K mg "_law_are_odd_refused" s__law_are_odd_refused c) (tb : PySem.W.CodeHd h c Pt ∧ h.get? Pt = some { cls := .none, data := .fields #[] }) (np : K.lookup Pt = none) : LawG l w K 10 n "law" "script" mg h := by
  refine ⟨[(c, Pt)], spLaw K [(Pt, qOdd)], fun p hp => ?_, fun p hp => ?_, fun p hp => ?_, fun H a ns _ _ hH hS => ?_, fun base _ _ TB => ?_⟩
  · rw [List.mem_singleton.mp hp]
    exact tb.2
  · rw [List.mem_singleton.mp hp]
    exact np
  · rw [List.mem_singleton.mp hp]
    exact tb.1
  · refine ⟨strip H, .ref a, ns, rfl, fun b o hb => (strip_some hb).1, .lst (sq_exN strip_ext hS) (dpa_ints ns), fun t ht => ?_, fun _ => rfl⟩
    rw [List.mem_singleton.mp ht]
    exact TabS.nil (hH (c, Pt) (List.mem_singleton.mpr rfl))
  · have TBo := TB (c, Pt) (List.mem_singleton.mpr rfl)
    have c_cd := C_common_divisor (P := l.prog) (w := w) (K := K) (base := base) B d_common_divisor
    have c_fr := C_fraction c_cd d_fraction
    have c_ad := C_added c_fr d_added
    have c_mu := C_multiplied c_fr d_multiplied
    have c_pw := C_power_of (P := l.prog) (w := w) (K := K) (base := base) d_power_of
    have c_nu := C_is_number (P := l.prog) (w := w) (K := K) (base := base) B d_is_number
    have c_if := C_is_fraction B c_nu c_cd d_is_fraction
    have c_ir := C_is_sum_row B c_nu c_if d_is_sum_row
    have c_cs := C_check_sum B YB.2 c_ir d_check_sum
    have c_sa := C_sum_at B YN.2 c_cs c_nu c_ad c_mu c_pw d_sum_at
    have c_nt := C_number_text (P := l.prog) (w := w) (K := K) (base := base) B d_number_text
    have c_st := C_sum_text B c_cs c_nt d_sum_text
    have c_pt := C_law_pot (P := l.prog) (w := w) (K := K) (base := base) B d__law_pot
    have c_tk := C_law_take (P := l.prog) (w := w) (K := K) (base := base) B d__law_take
    have c_of := C_law_of B c_tk d__law_of
    have c_ce := C_law_cells (P := l.prog) (w := w) (K := K) (base := base) B d__law_cells
    have c_ld := C_law_divisor (P := l.prog) (w := w) (K := K) (base := base) B d__law_divisor
    have c_lf := C_law_fraction c_ld d__law_fraction
    have c_ls := C_law_sum B c_tk c_of c_lf d__law_sum
    have c_lv := C_law_value B c_lf d__law_value
    have c_lp := C_law_part (P := l.prog) (w := w) (K := K) (base := base) B d__law_part
    have c_lt := C_law_text B c_lp d__law_text
    have c_is := C_law_is_sum_right B c_tk c_of c_sa c_st c_lv c_lt d__law_is_sum_right
    have c_od := C_law_are_odd_refused B d__law_heard YB.1 TBo YB.2 YN.2 c_sa c_st c_of dc
    have c_ri := C_law_right B c_ls c_is c_od c_sa d__law_right
    exact C_law B c_ce c_pt c_ri d_law
end K61
end
set_option maxHeartbeats 200000
open PySem PySem.W PyProof.Rows
set_option maxHeartbeats 0 in
theorem PySem.Challenge.cw_everylotofworlds_k61_whole_sums_by_hand_holds : PySem.Challenge.rw_everylotofworlds_k61_whole_sums_by_hand.Holds := by
  w_on; o_law; k_head; (case hw => w_witness2)
  k_fill
  refine Sy.walk_ofG (l := PySem.Challenge.rw_everylotofworlds_k61_whole_sums_by_hand) (k := 10) (x := "script") rfl (by decide) rfl ⟨rfl, by decide, by decide⟩ (fun w h Y => PySem.W.km_in_of Y) ?F
  case F =>
    intro w s₀ mg mb h KX G
    refine' K61.fin (l := PySem.Challenge.rw_everylotofworlds_k61_whole_sums_by_hand) (w := w) ?bi ?yb ?yn ?d_common_divisor ?d_fraction ?d_added ?d_multiplied ?d_is_number ?d_is_fraction ?d_is_sum_row ?d_check_sum ?d_sum_at ?d_power_of ?d_number_text ?d_sum_text ?d__law_pot ?d__law_take ?d__law_of ?d__law_cells ?d__law_heard ?d__law_divisor ?d__law_fraction ?d__law_sum ?d__law_value ?d__law_part ?d__law_text ?d__law_is_sum_right ?d__law_right ?d_law ?dc ?tb ?np
    (case bi => (refine' K61.bi_mk KX G.T.g ?z_abs ?z_len ?z_all ?z_sum ?z_max ?z_min ?z_sorted ?z_repr ?z_isinstance ?z_int ?z_str ?z_tuple ?z_list ?z_set ?z_range ?z_enumerate ?z_zip ?z_bool ?c1 ?c2 ?c3 ?c4; (case z_abs => k_is); (case z_len => k_is); (case z_all => k_is); (case z_sum => k_is); (case z_max => k_is); (case z_min => k_is); (case z_sorted => k_is); (case z_repr => k_is); (case z_isinstance => k_is); (case z_int => k_is); (case z_str => k_is); (case z_tuple => k_is); (case z_list => k_is); (case z_set => k_is); (case z_range => k_is); (case z_enumerate => k_is); (case z_zip => k_is); (case z_bool => k_is); (case c1 => k_is); (case c2 => k_is); (case c3 => k_is); (case c4 => exact K61.beyond_of G.X (by decide +kernel))))
    (case yb => (refine' Sy.sayK_mk KX G.T.g ?aD ?aC ?xL ?hbm ?sa ?exC ?tyC ?kC ?su ?sup ?val ?ve ?aI ?tI ?lI ?cI ?lc ?hv ?hf ?top ?lcc ?hD ?zs ?zt ?ga ?gg ?hd ?ha ?hn ?ht ?hm ?e1 ?e2 ?e3 ?e4; (case aD => k_is); (case aC => k_is); (case xL => k_is); (case hbm => exact rfl); (case sa => k_is); (case exC => k_is); (case tyC => k_is); (case kC => k_is); (case su => k_is); (case sup => kernel_rfl); (case val => k_is); (case ve => k_is); (case aI => k_is); (case tI => k_is); (case lI => k_is); (case cI => k_is); (case lc => k_is); (case hv => exact rfl); (case hf => kernel_rfl); (case top => kernel_rfl); (case lcc => k_is); (case hD => kernel_rfl); (case zs => k_is); (case zt => k_is); (case ga => k_is); (case gg => k_is); (case hd => k_is); (case ha => k_is); (case hn => k_is); (case ht => k_is); (case hm => k_is); (case e1 => k_is); (case e2 => k_is); (case e3 => k_is); (case e4 => k_is)))
    (case yn => (refine' Sy.sayK_mk KX G.T.g ?aD ?aC ?xL ?hbm ?sa ?exC ?tyC ?kC ?su ?sup ?val ?ve ?aI ?tI ?lI ?cI ?lc ?hv ?hf ?top ?lcc ?hD ?zs ?zt ?ga ?gg ?hd ?ha ?hn ?ht ?hm ?e1 ?e2 ?e3 ?e4; (case aD => k_is); (case aC => k_is); (case xL => k_is); (case hbm => exact rfl); (case sa => k_is); (case exC => k_is); (case tyC => k_is); (case kC => k_is); (case su => k_is); (case sup => kernel_rfl); (case val => k_is); (case ve => k_is); (case aI => k_is); (case tI => k_is); (case lI => k_is); (case cI => k_is); (case lc => k_is); (case hv => exact rfl); (case hf => kernel_rfl); (case top => kernel_rfl); (case lcc => k_is); (case hD => kernel_rfl); (case zs => k_is); (case zt => k_is); (case ga => k_is); (case gg => k_is); (case hd => k_is); (case ha => k_is); (case hn => k_is); (case ht => k_is); (case hm => k_is); (case e1 => k_is); (case e2 => k_is); (case e3 => k_is); (case e4 => k_is)))
    (case d_common_divisor => (refine' Sy.def_mk KX G.T.g ?a ?l ?c ?k; (case a => k_is); (case l => k_is); (case c => k_is); (case k => k_is)))
    (case d_fraction => (refine' Sy.def_mk KX G.T.g ?a ?l ?c ?k; (case a => k_is); (case l => k_is); (case c => k_is); (case k => k_is)))
    (case d_added => (refine' Sy.def_mk KX G.T.g ?a ?l ?c ?k; (case a => k_is); (case l => k_is); (case c => k_is); (case k => k_is)))
    (case d_multiplied => (refine' Sy.def_mk KX G.T.g ?a ?l ?c ?k; (case a => k_is); (case l => k_is); (case c => k_is); (case k => k_is)))
    (case d_is_number => (refine' Sy.def_mk KX G.T.g ?a ?l ?c ?k; (case a => k_is); (case l => k_is); (case c => k_is); (case k => k_is)))
    (case d_is_fraction => (refine' Sy.def_mk KX G.T.g ?a ?l ?c ?k; (case a => k_is); (case l => k_is); (case c => k_is); (case k => k_is)))
    (case d_is_sum_row => (refine' Sy.def_mk KX G.T.g ?a ?l ?c ?k; (case a => k_is); (case l => k_is); (case c => k_is); (case k => k_is)))
    (case d_check_sum => (refine' Sy.def_mk KX G.T.g ?a ?l ?c ?k; (case a => k_is); (case l => k_is); (case c => k_is); (case k => k_is)))
    (case d_sum_at => (refine' Sy.def_mk KX G.T.g ?a ?l ?c ?k; (case a => k_is); (case l => k_is); (case c => k_is); (case k => k_is)))
    (case d_power_of => (refine' Sy.def_mk KX G.T.g ?a ?l ?c ?k; (case a => k_is); (case l => k_is); (case c => k_is); (case k => k_is)))
    (case d_number_text => (refine' Sy.def_mk KX G.T.g ?a ?l ?c ?k; (case a => k_is); (case l => k_is); (case c => k_is); (case k => k_is)))
    (case d_sum_text => (refine' Sy.def_mk KX G.T.g ?a ?l ?c ?k; (case a => k_is); (case l => k_is); (case c => k_is); (case k => k_is)))
    (case d__law_pot => (refine' Sy.def_mk KX G.T.g ?a ?l ?c ?k; (case a => k_is); (case l => k_is); (case c => k_is); (case k => k_is)))
    (case d__law_take => (refine' Sy.def_mk KX G.T.g ?a ?l ?c ?k; (case a => k_is); (case l => k_is); (case c => k_is); (case k => k_is)))
    (case d__law_of => (refine' Sy.def_mk KX G.T.g ?a ?l ?c ?k; (case a => k_is); (case l => k_is); (case c => k_is); (case k => k_is)))
    (case d__law_cells => (refine' Sy.def_mk KX G.T.g ?a ?l ?c ?k; (case a => k_is); (case l => k_is); (case c => k_is); (case k => k_is)))
    (case d__law_heard => (refine' Sy.def_mk KX G.T.g ?a ?l ?c ?k; (case a => k_is); (case l => k_is); (case c => k_is); (case k => k_is)))
    (case d__law_divisor => (refine' Sy.def_mk KX G.T.g ?a ?l ?c ?k; (case a => k_is); (case l => k_is); (case c => k_is); (case k => k_is)))
    (case d__law_fraction => (refine' Sy.def_mk KX G.T.g ?a ?l ?c ?k; (case a => k_is); (case l => k_is); (case c => k_is); (case k => k_is)))
    (case d__law_sum => (refine' Sy.def_mk KX G.T.g ?a ?l ?c ?k; (case a => k_is); (case l => k_is); (case c => k_is); (case k => k_is)))
    (case d__law_value => (refine' Sy.def_mk KX G.T.g ?a ?l ?c ?k; (case a => k_is); (case l => k_is); (case c => k_is); (case k => k_is)))
    (case d__law_part => (refine' Sy.def_mk KX G.T.g ?a ?l ?c ?k; (case a => k_is); (case l => k_is); (case c => k_is); (case k => k_is)))
    (case d__law_text => (refine' Sy.def_mk KX G.T.g ?a ?l ?c ?k; (case a => k_is); (case l => k_is); (case c => k_is); (case k => k_is)))
    (case d__law_is_sum_right => (refine' Sy.def_mk KX G.T.g ?a ?l ?c ?k; (case a => k_is); (case l => k_is); (case c => k_is); (case k => k_is)))
    (case d__law_right => (refine' Sy.def_mk KX G.T.g ?a ?l ?c ?k; (case a => k_is); (case l => k_is); (case c => k_is); (case k => k_is)))
    (case d_law => (refine' Sy.def_mk KX G.T.g ?a ?l ?c ?k; (case a => k_is); (case l => k_is); (case c => k_is); (case k => k_is)))
    (case dc => (refine' Sy.defC_mk KX G.T.g ?a ?l ?c ?k; (case a => k_is); (case l => k_is); (case c => k_is); (case k => k_is)))
    (case tb => (refine' PySem.W.tab_of (x := "_law_are_odd_refused") G.T KX ?qr (Sy.tab_at ?qa ?ql ?qc ?qlc ?qv); (case qa => k_is); (case ql => k_is); (case qc => exact rfl); (case qlc => k_is); (case qv => exact rfl); (case qr => exact rfl)))
    (case np => kernel_rfl)
