import PyProof.Rows.All
import Wide.All
import OpenK.AllK
import Wide.FinOn
import PySem.Challenge.RW_rowsathome_k04_columns_closed_and_sheets
import KE.KExcSuper
import KE.KSuper
import KE.KExcInit
import HandS.Exc
import HandS.ExcOwn
import HandS.Defaults
import HandS.WordsExc
import HandS.HeadEnd
import HandS.Head2
import HandS.HeadHook2
import HandS.Head0
import HandS.Head1
import HandS.HeadHook1
import HandS.Style
import HandS.Walk
import HandS.Zip
import KE.GoesEnum
import KE.GoesMore
import HandS.TupAny
import KE.SortData
import KE.LtData
import HandS.TupSets
import HandS.SetFor
import KE.KeyNested
import PyProof.SumAny
import PyProof.ListOps
import PyProof.Rows.IntBool
import PyProof.Rows.SortShell
import HandS.ForMost
import HandS.ForExc
import HandS.Flow
import HandS.Wide
import HandS.CallSlots
import HandS.TryMany
import HandS.IsInst
import HandS.Deep
import KE.KDictKeyed
import HandS.ExcField
import HandS.ExcIs
import KE.KExcIs
set_option linter.all false
set_option Elab.async false
section
set_option linter.all false
set_option maxRecDepth 100000
set_option maxHeartbeats 1000000
set_option Elab.async false
/-! EV: an own exception with a field: its __init__ says super().__init__(f), then self.f = f -/
namespace EV
open PySem PySem.W PySem.Calls PyProof.Rows PySem.HandSPX
def xA (f : Str) (p1 p2 : Pos) : Arguments := { posonlyargs := [], args := [⟨"self", none, p1⟩, ⟨f, none, p2⟩], vararg := none, kwonlyargs := [], kw_defaults := [], kwarg := none, defaults := [] }
def xB (f : Str) (a1 a2 a3 a4 a5 a6 b1 b2 b3 b4 : Pos) : List Stmt := [.Expr (.Call (.Attribute (.Call (.Name "super" a1) [] [] a2) "__init__" a3) [.Name f a4] [] a5) a6, .Assign [.Attribute (.Name "self" b1) f b2] (.Name f b3) b4]
def xS (f : Str) : Scope := { kind := .function, names := [("self", .local), (f, .local), ("__class__", .free), ("super", .globalImplicit)], isGenerator := false, isCoroutine := false, more := [] }
/-- the field's name is an ordinary one -/
structure XName (f : Str) : Prop where
  loc : (xS f).names.lookup f = some .local
  cls : (xS f).names.lookup ("__class__" : Str) = some .free
  sup : (xS f).names.lookup ("super" : Str) = some .globalImplicit
  self : ∀ a b : Value, List.lookup ("self" : Str) [(f, b), (("self" : Str), a)] = some a
  fld : ∀ a b : Value, List.lookup f [(f, b), (("self" : Str), a)] = some b
  dbg : (f == ("__debug__" : Str)) = false
  bind : ∀ (qual : Str) (p1 p2 : Pos) (body : List Stmt) (doc pm : Value) (an : Option Addr) (cdv ct : Value) (cc : Addr) (a b : Value), bindArgs (ksFn "__init__" qual (xA f p1 p2) body (xS f) .none .none doc pm an cdv ct cc) ⟨[a, b], []⟩ = pure [(("self" : Str), a), (f, b)]
theorem xname_number : XName "number" := ⟨rfl, rfl, rfl, fun _ _ => rfl, fun _ _ => rfl, by decide, fun _ _ _ _ _ _ _ _ _ _ _ _ => rfl⟩
theorem xname_name : XName "name" := ⟨rfl, rfl, rfl, fun _ _ => rfl, fun _ _ => rfl, by decide, fun _ _ _ _ _ _ _ _ _ _ _ _ => rfl⟩
theorem xname_word : XName "word" := ⟨rfl, rfl, rfl, fun _ _ => rfl, fun _ _ => rfl, by decide, fun _ _ _ _ _ _ _ _ _ _ _ _ => rfl⟩
theorem xname_piece : XName "piece" := ⟨rfl, rfl, rfl, fun _ _ => rfl, fun _ _ => rfl, by decide, fun _ _ _ _ _ _ _ _ _ _ _ _ => rfl⟩
/-- what is known of the built-in class B above -/
structure XBase (B newId initId : String) (bmB : List Value) : Prop where
  base : ExcBaseFacts B newId initId bmB
  kxs : KxsFacts B initId
  store : StoreFacts B bmB "object.__setattr__" "object"
theorem xbase_lookup : XBase "LookupError" "LookupError.__new__" "LookupError.__init__" [.type "LookupError", .type "Exception", .type "BaseException", .type "object"] := ⟨F.excBase_LookupError, kxs_LookupError, F.store_LookupError⟩
theorem xbase_value : XBase "ValueError" "ValueError.__new__" "ValueError.__init__" [.type "ValueError", .type "Exception", .type "BaseException", .type "object"] := ⟨F.excBase_ValueError, kxs_ValueError, F.store_ValueError⟩
/-- what the known objects say of the class x, at C, with the field f -/
structure XTxt (prog : Program) (K : Frag) (f : Str) (B newId initId : String) (bmB : List Value) (C fI cda cc : Addr) : Prop where
  cls : ∃ nm q N bs sn sub ab col dd k0 k1 k2 k3 k5, K.lookup C = some (excClassObj nm q C N bs bmB true sn sub ab col dd k0 k1 k2 k3 k5 newId)
  sa : findIn K (.ref C) "__setattr__" = some (some (.builtin "object.__setattr__"))
  noN : findIn K (.ref C) f = some none
  iC : findIn K (.ref C) "__init__" = some (some (.ref fI))
  tC : typeIn K (.ref fI) = some (.type "function")
  kC : keepIn K (.ref C) = true
  exC : subIn K (.ref C) (.type "BaseException") = some true
  tyC : typeIn K (.ref C) = some (.type "type")
  exB : subIn K (.ref C) (.type B) = some true
  sup : alongIn K "__init__" bmB = some (some (.builtin initId))
  opq : nsIn K cStatics "thirdparty.any" = some none
  htop : (prog.main.scope.names.lookup ("super" : Str)).isSome = false
  code : ∃ ccl cdd vs ccs file tf, K.lookup cda = some ⟨ccl, cdd, .fields vs, ccs⟩ ∧ vs[2]? = some (.str file tf) ∧ ((prog.main.file : Str) == file) = true
  cell : ∃ cl cld csl, K.lookup cc = some ⟨cl, cld, .cell (some (.ref C)), csl⟩
  fn : ∃ oc od qual doc pm an ct osl p1 p2 a1 a2 a3 a4 a5 a6 b1 b2 b3 b4,
    K.lookup fI = some ⟨oc, od, .func (ksFn "__init__" qual (xA f p1 p2) (xB f a1 a2 a3 a4 a5 a6 b1 b2 b3 b4) (xS f) .none .none doc pm an (.ref cda) ct cc), osl⟩ ∧ codeIn K (.ref cda) qual = true ∧ (a3.endLine == a5.line) = true
/-- what __init__ leaves of a fresh exception at x -/
structure XEnd (h h' : Heap) (f : Str) (x C dx t1 : Addr) (v : Value) : Prop where
  keep : ∀ b o, b ≠ x → h.get? b = some o → h'.get? b = some o
  obj : h'.get? x = some { cls := .ref C, dict := some dx, data := .fields #[.ref t1, .none, .none, .none, .bool false, .none] }
  dbig : h.objs.size ≤ dx
  dne : dx ≠ x
  ns : h'.Ns1 dx (fun y => if y = f then some v else none)
section
variable {prog : Program} {w : World} {A : Around} {E : Value → Shared → Prop} {R : Result → Shared → Prop} {s : Shared} {K : Frag} {mg mb : Str → Option Value} {f : Str} {B newId initId : String} {bmB : List Value} {C fI cda cc : Addr}
/-- the built-in __init__ bound to the exception, called -/
theorem x_call {u e t0 : Addr} {rest : List Value} {Q : Value → Shared → Prop} {h : Heap} {g : Array GenState} {d : Drawn} {t : Nat} {os : OsState} {nm q : Str} {N : Addr} {bs sub : List Value} {sn : List Str} {ab : Bool} {col : Option Bool} {dd : Option Addr} {k0 k1 k2 k3 k5 : Option Value}
    (FB : ExcBaseFacts B newId initId bmB) (hC : h.get? C = some (excClassObj nm q C N bs bmB true sn sub ab col dd k0 k1 k2 k3 k5 newId)) (he : h.get? e = some (excO C t0)) (hu : h.get? u = some (kxs_mw initId e)) (hz : rest.length ≤ sizeLine)
    (hq : ∀ h' t1, (∀ b o, b ≠ e → h.get? b = some o → h'.get? b = some o) → h'.get? e = some (excO C t1) → Q .none ⟨h', g, d, t, os⟩) :
    wpAny (model prog w) A (call (.ref u) rest) Q E ⟨h, g, d, t, os⟩ := by
  refine wpAny_call (codeAny_of_tree ?_)
  show wpAny _ A.in1 (callAny (.ref u) ⟨rest, []⟩) _ _ _
  simp only [callAny]
  refine wpAny_bind (wpAny_load hu ?_)
  refine KFB.if_so (show (Value.type "method-wrapper" == Value.type "method" || Value.type "method-wrapper" == Value.type "builtin_function_or_method" || Value.type "method-wrapper" == Value.type "method-wrapper") = true from by decide) ?_
  refine wpAny_bind (check_bound_init FB.toExcCallFacts hC he rfl ?_)
  refine wpAny_bind (wpAny_pure (wpAny_pure ?_))
  refine ⟨plainId_quiet FB.init.plain _, codeAny_builtin FB.initEntry ?_⟩
  exact exc_init_tree (cls := .ref C) (t0 := t0) (dv := none) (c2 := .none) (c3 := .none) (b4 := .bool false) he hz fun h' k e' _ => hq h' _ k e'
/-- self.f = v: the first field -/
theorem x_store {name : Str} {tk : Tok} {v : Value} {x t1 : Addr} {cd : ClassData} {hp : Heap} {g : Array GenState} {d : Drawn} {t : Nat} {os : OsState} (SF : StoreFacts B bmB "object.__setattr__" "object") (X : K.In hp) (hx : hp.get? x = some (excO C t1)) (hcd : clsIn K C = some cd)
    (hm : cd.mro = .ref C :: bmB) (hh : cd.hasDict = true) (htl : excTail bmB bmB = true) (ha : findIn K (.ref C) name = some none)
    (hq : ∀ h' tk' dx, (∀ b o, b ≠ x → hp.get? b = some o → h'.get? b = some o) → hp.objs.size ≤ dx → dx ≠ x → h'.get? x = some { cls := .ref C, dict := some dx, data := .fields #[.ref t1, .none, .none, .none, .bool false, .none] } →
      h'.Ns1 dx (fun y => if y = name then some v else none) → R (.ok (.ret .none)) ⟨h', g, d, tk', os⟩) :
    codeAny (model prog w) A (.call (.builtin "object.__setattr__") ⟨[.ref x, .str name tk, v], []⟩) R ⟨hp, g, d, t, os⟩ := by
  have I : InstAt hp x (excO C t1) C none := ⟨hx, rfl, rfl, trivial⟩
  have hxs : x ≠ hp.objs.size := Nat.ne_of_lt (Heap.lt_size hx)
  have ov : excOver K C bmB = true := by
    unfold excOver
    rw [hcd]
    show (match cd.mro with | .ref C' :: bm => C' == C && excTail bmB bm | _ => false) = true
    rw [hm]
    simp [htl]
  refine osa_openX (s := ⟨hp, g, d, t, os⟩) (r := none) SF X I ov (by unfold takerIn; rw [ha]; rfl) fun b => ?_
  have hcls : Looks (model prog w) hp (classData C) cd := looks_clsIn X hcd
  obtain ⟨nm, bs, mro, ns, qn, hd, sn, sb, ab, col, del⟩ := cd
  dsimp only at hh
  subst hh
  dsimp only
  unfold Builtin.ObjectAttr.storeInOwnDict Builtin.ObjectAttr.ownDictForStores
  repeat (first | with_reducible refine HandSPX.store_in_new ?_ ?_ | with_reducible refine wpAny_loadPart_at hx ?_ | with_reducible refine hcls.at ?_ | wp_step)
  · exact ⟨_, #[], _, (Heap.get?_update_ne _ _ _ _ hxs.symm).trans (Heap.get?_push_at rfl rfl), rfl, fun e he => absurd he (by simp), fun _ => rfl⟩
  · intro h' tk' hn' hs
    have up : (hp.push { cls := .type "dict", data := .dict #[] }).get? x = some (excO C t1) := Heap.get?_push_of_some _ hx
    refine hq h' tk' hp.objs.size (fun b o hb ho => ?_) (Nat.le_refl _) hxs.symm ?_ hn'
    · exact (hs.2 b (Nat.ne_of_lt (Heap.lt_size ho))).trans ((Heap.get?_update_ne _ _ _ _ hb).trans (Heap.get?_push_of_some _ ho))
    · exact (hs.2 x hxs).trans (Heap.get?_update_self _ up rfl)
/-- super().__init__(f) on one row -/
theorem x_eval {env : Env} {a1 a2 a3 a4 a5 : Pos} (hl : (a3.endLine == a5.line) = true) : eval (.Call (.Attribute (.Call (.Name "super" a1) [] [] a2) "__init__" a3) [.Name f a4] [] a5) env = (do
      let ov ← attributeBase (.Call (.Name "super" a1) [] [] a2) "__init__" env (eval (.Call (.Name "super" a1) [] [] a2) env)
      standAt a3.atName
      let (m, first) ← holding [ov] (getMethod ov "__init__" (do return (← importBound (.Call (.Name "super" a1) [] [] a2) env).getD true))
      callWith a5 m first (backTo a5 (starEach [.Name f a4] env)) []) := by
  have e0 : ∀ o, methodCallPos true o env a3 a5 = pure a5 := fun o => by unfold methodCallPos; rw [hl]; rfl
  have e1 : methodCallForm ([Expr.Name f a4].length + ([] : List Keyword).length) (backTo a5 (starEach [.Name f a4] env)) (backToKw a5 (keywordEach [] env)) = true := rfl
  rw [eval]
  simp only [methodCall, e1, e0, calleeOf, if_true, pure_bind]
  rfl
/-- the __init__, called -/
theorem x_init (T : XTxt prog K f B newId initId bmB C fI cda cc) (XB : XBase B newId initId bmB) (XN : XName f) (htl : excTail bmB bmB = true) {x t0 : Addr} {v : Value} (X : K.In s.heap) (hlim : s.heap.NoLimit) (hg : s.heap.Ns mainGlobals mg) (hm : mg "super" = none) (hb : s.heap.Ns builtinsNs mb)
    (hmb : mb "super" = some (.type "super")) (hx : s.heap.get? x = some (excO C t0)) (hnx : K.lookup x = none) (hroom : A.depth < recursionLimit)
    (hq : ∀ h' tk dx t1, XEnd s.heap h' f x C dx t1 v → R (.ok (.ret .none)) { s with heap := h', toks := tk }) : codeAny (model prog w) A (.call (.ref fI) ⟨[.ref x, v], []⟩) R s := by
  obtain ⟨oc, od, qual, doc, pm, an, ct, osl, p1, p2, a1, a2, a3, a4, a5, a6, b1, b2, b3, b4, ho, hcd, hln⟩ := T.fn
  obtain ⟨nm, q, N, bs, sn, sub, ab, col, dd, k0, k1, k2, k3, k5, hC⟩ := T.cls
  obtain ⟨ccl, cdd, vs, ccs, file, tf, hco, hvs, hfile⟩ := T.code
  obtain ⟨cl, cld, csl, hce⟩ := T.cell
  have hcl : clsIn K C = some { name := nm, bases := bs, mro := .ref C :: bmB, ns := N, qualname := q, hasDict := true, slotNames := sn, subclasses := sub, abstract := ab, collection := col, hasDel := false } := by unfold clsIn; rw [hC] <;> rfl
  have self0 : (xS f).names.lookup ("self" : Str) = some .local := rfl
  refine ks_codeAny_call_defAt (fd := ksFn "__init__" qual (xA f p1 p2) (xB f a1 a2 a3 a4 a5 a6 b1 b2 b3 b4) (xS f) .none .none doc pm an (.ref cda) ct cc) (body := xB f a1 a2 a3 a4 a5 a6 b1 b2 b3 b4) (binds := [(("self" : Str), .ref x), (f, v)]) hroom (X _ _ ho) rfl hlim (codeRec_of X hcd) rfl
    (BindsTo.of_eq (XN.bind _ _ _ _ _ _ _ _ _ _ _ _)) (fun y hy => ?_) (fun y hy => ?_) (fun h₁ hns hk₁ => ?_)
  · simp only [xS, List.mem_cons, List.not_mem_nil, or_false] at hy
    rcases hy with rfl | rfl | rfl | rfl <;> simp
  · simp only [List.mem_cons, List.not_mem_nil, or_false] at hy
    rcases hy with rfl | rfl
    · exact self0
    · exact XN.loc
  have hxL : s.heap.objs.size ≠ x := Nat.ne_of_gt (Heap.lt_size hx)
  have X₁ : K.In h₁ := X.keeps hk₁
  have hx₁ := hk₁ _ _ hx
  have hD₁ := X₁ _ _ hC
  show PySem.wpAt (model prog w) (A.deeper (ksEnv qual (xS f) s.heap.objs.size fI (.ref cda) cc)) (.func _ (ksEnv qual (xS f) s.heap.objs.size fI (.ref cda) cc)) (PySem.execs (xB f a1 a2 a3 a4 a5 a6 b1 b2 b3 b4) (ksEnv qual (xS f) s.heap.objs.size fI (.ref cda) cc)) _ _ _
  refine ks_wpAt_execs_cons (ks_wpAt_Expr_any (ks_wpAt_MethodCall ?_ (x_eval hln)))
  refine ks_wpAt_super_base (env := ksEnv qual (xS f) s.heap.objs.size fI (.ref cda) cc) (ar := ⟨"self", none, p1⟩) XN.sup XN.cls (by decide) rfl (X₁ _ _ ho) rfl rfl rfl (X₁ _ _ hco) rfl hvs hfile T.htop ?_
  refine ks_loadName_global rfl XN.sup (loadGlobal_builtin (env := ksEnv qual (xS f) s.heap.objs.size fI (.ref cda) cc) (hg.keeps hk₁) hm (hb.keeps hk₁) hmb ⟨rfl, ?_⟩)
  refine wpAny_loadName_free rfl XN.cls rfl ⟨_, X₁ _ _ hce, rfl⟩ ?_
  refine wpAny_loadName_local rfl self0 hns (XN.self _ _) ?_
  refine ks_wpAny_isType_cls hD₁ rfl ⟨rfl, ?_⟩
  refine ks_wpAny_call_super hD₁ rfl hx₁ rfl (fun c e => Data.noConfusion e) (looks_mroIn X₁ (by unfold mroIn; rw [hcl]; simp)) fun h₂ eS k₂ => ?_
  have X₂ : K.In h₂ := X₁.keeps k₂
  have I₂ : InstAt h₂ x (excO C t0) C none := ⟨k₂ _ _ hx₁, rfl, rfl, trivial⟩
  have hI : Looks (model prog w) h₂ (isInstance (.ref x) (.type B)) true := I₂.type.andThen (looks_subIn X₂ T.exB)
  have hmro : Looks (model prog w) h₂ (mroOf (.ref C)) (.ref C :: bmB) := fun A Q E s k q => wpAny_bind ((looks_clsIn X₂ hcl) A _ E s k (wpAny_pure q))
  refine kxs_getMethod XB.kxs eS (looks_opaque X₂ T.opq) hmro (l := bmB) (by simp [List.dropWhile_cons]) X₂ T.sup hI (ks_ne X₂ I₂ hcl) (by decide) ?_
  have kp : ∀ b o, h₂.get? b = some o → (h₂.push (kxs_mw initId x)).get? b = some o := fun b o e => Heap.get?_push_of_some _ e
  have hu : (h₂.push (kxs_mw initId x)).get? h₂.objs.size = some (kxs_mw initId x) := Heap.get?_push_at rfl rfl
  have k₁₂ : ∀ b o, h₁.get? b = some o → (h₂.push (kxs_mw initId x)).get? b = some o := fun b o e => kp b o (k₂ b o e)
  refine kxs_callWith (i := initId) (x := x) rfl ?_
  show wpAny _ _ (evalArgs _ true ((false, _) :: backTo a5 (starEach [] (ksEnv qual (xS f) s.heap.objs.size fI (.ref cda) cc))) []) _ _ _
  refine evalArgs_plain ?_
  refine Calls.spliced_cons (wpAny_Name (wpAny_loadName_local rfl XN.loc (hns.keeps k₁₂) (XN.fld _ _) ?_) XN.dbg)
  refine Calls.spliced_nil ⟨hu, ?_⟩
  refine x_call XB.base (k₁₂ _ _ hD₁) (k₁₂ _ _ hx₁) hu (by show 1 ≤ sizeLine; rw [sizeLine_eq]; omega) fun h₃ t1 k₃ e₃ => ?_
  have k₁₃ : ∀ b o, b ≠ x → h₁.get? b = some o → h₃.get? b = some o := fun b o hb e => k₃ b o hb (k₁₂ b o e)
  have X₃ : K.In h₃ := fun b o e => k₁₃ b o (fun z => by rw [z, hnx] at e; cases e) (X₁ b o e)
  have hns₃ : h₃.Ns s.heap.objs.size (fun y => List.lookup y [(f, v), (("self" : Str), .ref x)]) := hns.at fun o e => k₁₃ _ _ hxL e
  show PySem.wpAt _ _ _ (execs _ _) _ _ _
  refine ks_wpAt_execs_cons (PySem.wpAt_of_wpAny (plainObj_wpAny_Assign_Attribute ?_))
  refine wpAny_Name (wpAny_loadName_local rfl XN.loc hns₃ (XN.fld _ _) ?_) XN.dbg
  refine wpAny_Name (wpAny_loadName_local rfl self0 hns₃ (XN.self _ _) ?_) (by decide)
  refine set_plain X₃ (ox := excO C t1) (od := none) ⟨e₃, rfl, rfl, trivial⟩ T.sa ?_
  refine x_store XB.store X₃ e₃ hcl rfl rfl htl T.noN fun h₄ tk₄ dx k₄ dn dne hx₄ hn₄ => ?_
  show PySem.wpAt _ _ _ (execs _ _) _ _ _
  have z : s.heap.objs.size < h₃.objs.size := hns₃.lt
  exact PySem.wpAt_of_wpAny (wpAny_execs_nil (hq h₄ tk₄ dx t1 ⟨fun b o hb e => k₄ b o hb (k₁₃ b o hb (hk₁ b o e)), hx₄, Nat.le_of_lt (Nat.lt_of_lt_of_le z dn), dne, hn₄⟩))
/-- a made exception, its dict at d -/
structure XMade (h h' : Heap) (f : Str) (e C d : Addr) (v : Value) : Prop where
  keep : ∀ b o, h.get? b = some o → h'.get? b = some o
  new : h.objs.size ≤ e
  obj : ∃ oe vs, h'.get? e = some oe ∧ oe.cls = .ref C ∧ oe.dict = some d ∧ oe.data = .fields vs ∧ vs[1]? = some .none
  dbig : h.objs.size ≤ d
  dne : d ≠ e
  ns : h'.Ns1 d (fun y => if y = f then some v else none)
theorem x_made (T : XTxt prog K f B newId initId bmB C fI cda cc) (XB : XBase B newId initId bmB) (XN : XName f) (htl : excTail bmB bmB = true) {v : Value} (X : K.In s.heap) (hlim : s.heap.NoLimit) (hg : s.heap.Ns mainGlobals mg) (hm : mg "super" = none) (hb : s.heap.Ns builtinsNs mb)
    (hmb : mb "super" = some (.type "super")) (hroom : A.depth + 1 < recursionLimit) (hq : ∀ h' tk e d, XMade s.heap h' f e C d v → R (.ok (.ret (.ref e))) { s with heap := h', toks := tk }) : codeAny (model prog w) A (.call (.ref C) ⟨[v], []⟩) R s := by
  obtain ⟨nm, q, N, bs, sn, sub, ab, col, dd, k0, k1, k2, k3, k5, hC⟩ := T.cls
  obtain ⟨hp, g, dr, tk, os⟩ := s
  have k : ∀ b o, hp.get? b = some o → ((hp.push (kdv_tup [v])).push (excO C hp.objs.size)).get? b = some o := fun b o e => Heap.get?_push_of_some _ (Heap.get?_push_of_some _ e)
  have gt : ((hp.push (kdv_tup [v])).push (excO C hp.objs.size)).get? (hp.objs.size + 1) = some (excO C hp.objs.size) := by heap_get
  have nx : K.lookup (hp.objs.size + 1) = none := by
    cases e : K.lookup (hp.objs.size + 1) with
    | none => rfl
    | some o => exact absurd (Nat.lt_of_succ_lt (Heap.lt_size (show hp.get? (hp.objs.size + 1) = some o from X _ _ e))) (Nat.lt_irrefl _)
  refine call_own XB.base (fun _ => rfl) (X _ _ hC) (looks_findIn X T.iC) (fun self => bind_fn X self T.tC) (by show 1 ≤ sizeLine; rw [sizeLine_eq]; omega) ?_
  refine x_init (s := ⟨(hp.push (kdv_tup [v])).push (excO C hp.objs.size), g, dr, tk, os⟩) T XB XN htl (X.keeps k) (hlim.keeps k) (hg.keeps k) hm (hb.keeps k) hmb gt nx hroom fun h' tk' dx t1 z => ?_
  have old : ∀ b o, hp.get? b = some o → h'.get? b = some o := fun b o e => z.keep b o (Nat.ne_of_lt (Nat.lt_succ_of_lt (Heap.lt_size e))) (k b o e)
  have big : hp.objs.size + 1 + 1 ≤ dx := by
    have q := z.dbig
    first
      | (simpa only [Heap.size_push] using q)
      | exact q
  exact ⟨rfl, hq h' tk' (hp.objs.size + 1) dx ⟨old, Nat.le_succ _, ⟨_, _, z.obj, rfl, rfl, rfl, rfl⟩, Nat.le_trans (Nat.le_trans (Nat.le_succ _) (Nat.le_succ _)) big, z.dne, z.ns⟩⟩
end
open L2
theorem relO_x {f : Str} {v : V} {u : Value} (r : RelV v u) (y : Str) : RelO (List.lookup y [(f, v)]) (if y = f then some u else none) := by
  by_cases h : y = f
  · subst h
    have q : List.lookup y [(y, v)] = some v := by simp [List.lookup]
    rw [if_pos rfl, q]
    exact r
  · have q : List.lookup y [(f, v)] = none := by
      have qw : (y == f) = false := by simpa using h
      simp [List.lookup, qw]
    rw [if_neg h, q]
    trivial
/-- x(e) -/
def tMkX (C : Addr) (f : Str) (ta : TE) : L2.St → Hp → XK → Prop := fun σ H Q => ta σ H fun v H1 => ∀ d, H1 d = none → Q (.ref C) (some d) (upd H1 d (.xd [(f, v)]))
section
variable {X : Cx} {f x : Str} {B newId initId : String} {bmB : List Value} {C fI cda cc : Addr}
theorem pmk_x {a : Expr} {ta : TE} {p pos : Pos} (T : XTxt X.prog X.K f B newId initId bmB C fI cda cc) (XB : XBase B newId initId bmB) (XN : XName f) (htl : excTail bmB bmB = true) (hd : X.A.depth + 1 < recursionLimit) (hm : X.mg "super" = none) (gC : X.mg x = some (.ref C)) (he : PE X a ta) (hg : Gl X x)
    (hs : starEach [a] X.env = (false, eval a X.env) :: starEach [] X.env) (hdb : (x == ("__debug__" : Str)) = false) : PMk X (.Call (.Name x p) [a] [] pos) (tMkX C f ta) := by
  intro pins s σ H Q I h
  refine wpAny_Call_Name_kw (ld_glob I hg gC ?_ hdb)
  refine PySem.W.callWith_K (h₀ := X.base) I.ok.mod.kin T.kC ?_ hs (by rfl)
  rw [hs]
  show wpAny _ _ (spliced ((false, eval a X.env) :: backTo pos (starEach [] X.env))) _ _ s
  refine Calls.spliced_cons (thn (he.run pins s σ H _ I h) fun u s1 ⟨v, H1, I1, r1, q1⟩ => ?_)
  refine Calls.spliced_nil ⟨I1.kIn, ?_⟩
  show wpAny _ _ (call (.ref C) [u]) _ _ _
  have hlim := I1.nolimit
  obtain ⟨mb, b1, b2⟩ := I1.mod.blt
  have g1 := I1.mod.glob.keeps I1.bk
  have b3 := b1.keeps I1.bk
  have K1 := I1.kIn
  obtain ⟨hp, g, dr, tk, os⟩ := s1
  refine wpAny_call (x_made (s := ⟨hp, g, dr, tk, os⟩) T XB XN htl K1 hlim g1 hm b3 ((b2 _ (by decide)).trans (by kernel_rfl)) hd fun h' tk' e d M => ?_)
  show MkP X pins σ Q (.ref e) ⟨h', g, dr, tk', os⟩
  obtain ⟨oe, fv, hoe, hc, hdd, hdat, h1⟩ := M.obj
  have hns := M.ns
  obtain ⟨G', g1, g2⟩ := restrict h' fun b => decide (b ≠ e)
  have gk : ∀ b, b ≠ e → G'.get? b = h'.get? b := fun b hb => g1 b (decide_eq_true hb)
  have ge : G'.get? e = none := g2 e (by simp)
  have old : ∀ b o, hp.get? b = some o → G'.get? b = some o := fun b o q => (gk b (Nat.ne_of_lt (Nat.lt_of_lt_of_le (Heap.lt_size q) M.new))).trans (M.keep b o q)
  have ob : ObjOk X.prog X.w (upd H1 d (.xd [(f, v)])) G' d (.xd [(f, v)]) := ⟨_, hns.at (fun o q => (gk d M.dne).trans q), fun y => relO_x r1 y⟩
  have J : Inv X pins σ (upd H1 d (.xd [(f, v)])) ⟨G', g, dr, tk', os⟩ := I1.laid (t' := tk') old M.dbig ob
  refine ⟨e, oe, fv, ⟨G', g, dr, tk', os⟩, _, .ref C, some d, rfl, J, fun b o q => ?_, ge, hoe, ⟨hc, hdd⟩, hdat, h1, ?_, rfl, I1.bare, raises_own T.exC T.tyC, q1 d (I1.hok.fresh M.dbig)⟩
  · by_cases hb : b = e
    · have q' : G'.get? b = some o := q
      rw [hb, ge] at q'; cases q'
    · exact (gk b hb).symm.trans q
  · rw [upd_ne (Ne.symm M.dne)]
    exact I1.hok.fresh M.new
end
end EV

end
section
set_option linter.all false
set_option maxRecDepth 100000
set_option maxHeartbeats 1000000
set_option Elab.async false
/-! EV: a try with several clauses, each of them with a name -/
namespace EV
open PySem PySem.Spec PyProof.Rows L2
/-- a clause: its class, the slot of its name, what its suite tells -/
structure Cls where
  c : Value
  i : Nat
  ts : Addr → Value → Option Addr → TS
/-- behind the suite the name is gone -/
def gone (i : Nat) (D : Ends) : Ends := { nx := fun σ H => D.nx (σ.set i none) H, rt := D.rt, bk := fun σ H => D.bk (σ.set i none) H, ct := fun σ H => D.ct (σ.set i none) H }
/-- what the clauses wish of an exception of the body -/
def wCl (K : PySem.W.Frag) (Wo : WX) (D : Ends) : List Cls → WX
  | [] => Wo
  | k :: r => fun cls d σ H => ∃ b, PySem.W.exmOne K cls k.c = some b ∧ (b = true → ∀ a, H a = none → k.ts a cls d (gone k.i D) (σ.set k.i (some (.ref a))) H) ∧ (b = false → wCl K Wo D r cls d σ H)
inductive ClOk (X : Cx) : List ExceptHandler → List Cls → Prop
  | nil : ClOk X [] []
  | cons {x n : Str} {k : Cls} {st : Stmt} {su : List Stmt} {p p' : Pos} {hds : List ExceptHandler} {l : List Cls} (hi : X.N[k.i]? = some n) (hl : X.env.kindOf n = some .local) (hc : Names X x k.c)
      (hsu : ∀ (a : Addr) (oe : Obj) (cls : Value) (d : Option Addr) (pn : List (Addr × Obj)), Zc cls d oe → (∃ vs, oe.data = .fields vs) → PSs (X.suite a ((a, oe) :: pn)) (st :: su) (k.ts a cls d)) (r : ClOk X hds l) :
      ClOk X (.ExceptHandler (some (.Name x p)) (some n) (st :: su) p' :: hds) (k :: l)
section
variable {X : Cx} {body : List Stmt} {h0 : ExceptHandler} {hds : List ExceptHandler} {l : List Cls} {pos : Pos} {tb : WX → TS} {Wo : WX} {pins : List (Addr × Obj)} {D : Ends}
/-- the clauses, one behind another, at an exception that has landed -/
theorem cl_go {B : Heap} {a : Addr} {sI s' : Shared} {h3 : Heap} {σ : L2.St} {H : Hp} {cls : Value} {d : Option Addr} (ok : X.Ok) (hs : X.stack = X.env :: X.outer) (hf : X.env.frame = some X.env.locals) (nd : X.N.Nodup) (tk : Takes X Wo)
    (J : Inv X pins σ H sI) (nb : ∀ b o, sI.heap.get? b = some o → b ∉ frs X.stack → B.get? b = some o) (na : H a = none) (os : s'.os = sI.os) (ag : AllBare s'.gens) (up : sI.heap.UpToSlots h3) (fl : HandSPX.FlyingZ B (X.env :: X.outer) a (Zc cls d) h3)
    (hk : ClOk X hds l) (w : wCl X.K Wo D l cls d σ H) : wpAny (model X.prog X.w) X.A (handleBy (.ref a) X.env hds) (SP X pins D) X.xe { s' with heap := h3 } := by
  have at_ : ∀ {h : Heap}, HandSPX.FlyingZ B (X.env :: X.outer) a (Zc cls d) h → sI.heap.UpToSlots h → ∃ oe vs, h.get? a = some oe ∧ Zc cls d oe ∧ oe.data = .fields vs ∧ Inv X pins σ H { s' with heap := h } ∧ Inv (X.suite a ((a, oe) :: (X.pn ++ pins))) [] σ H { s' with heap := h } := fun {h} f u => by
    obtain ⟨oe, vs, he, hz, hd⟩ := f.there
    have J1 : Inv X pins σ H { s' with heap := h } := J.landed nb f.1 u os ag
    have no : a ∉ frs (X.env :: X.outer) := fun hm => by
      obtain ⟨_, o', e', hnf⟩ := f.2.2.1.mem hm
      rw [he] at e'; cases e'
      exact hnf _ hd
    refine ⟨oe, vs, he, hz, hd, J1, J1.suite he hd na (fun z => no (List.mem_filterMap.mpr ⟨X.env, List.mem_cons_self, by rw [hf, z]⟩)) fun hm => ?_⟩
    obtain ⟨e, he', q⟩ := List.mem_filterMap.mp hm
    exact no (List.mem_filterMap.mpr ⟨e, List.mem_cons_of_mem _ he', q⟩)
  induction hk with
  | nil =>
    refine wpAny_handleBy_nil ?_
    obtain ⟨k1, k2, k3, oe, vs, T, oT, ts', he, hz, hd, h1, hr⟩ := id fl
    unfold PySem.passOn
    refine wpAny_bind (wpAny_field he hd h1 ?_)
    rw [if_neg (show ¬ ((Value.ref T == Value.none) = true) from by simp)]
    have fin : wpAny (model X.prog X.w) X.A (setFlight (.ref a) X.env.frame) (fun _ s4 => wpAny (model X.prog X.w) X.A (throw (.ref a) : Sem PySem.Flow) (SP X pins D) X.xe s4) X.xe { s' with heap := h3 } := by
      rw [hf]
      exact HandSPX.setFlight_upZ fl fun h4 hh4 up4 => wpAny_throw (tk _ _ ⟨a, B, sI, pins, σ, H, cls, d, rfl, J, nb, up.trans up4, .inr (.inr (by rw [hs]; exact hh4)), na, os, ag, w⟩)
    first
      | exact wpAny_bind (wpAny_pure (wpAny_bind fin))
      | exact wpAny_bind fin
  | @cons x n k st su p p' hds2 l2 hi hl hc hsu r ih =>
    obtain ⟨b, hb1, hyes, hno⟩ := w
    obtain ⟨oe3, vs3, he3, hz3, hd3, J3, S3⟩ := at_ fl up
    refine wpAny_handleBy_cons (codeAny_handlers_test ?_) (by intro q; cases q)
    have LT : PySem.W.Looks (model X.prog X.w) h3 (typeOf (.ref a)) cls := fun A Q E s k q => wpAny_typeOf_ref (k _ _ he3) (by rw [hz3.1]; exact q)
    have test : ∀ {Q : Value → Shared → Prop} {E : Value → Shared → Prop}, Q k.c { s' with heap := h3 } → wpAny (model X.prog X.w) (X.A.mark (some (.ref a))) (eval (.Name x p) X.env) Q E { s' with heap := h3 } := fun {Q E} q => by
      obtain ⟨hg, hdbg, hm | ⟨hm, hv, hnn⟩⟩ := hc
      · exact ld_glob (X := X.suite a ((a, oe3) :: (X.pn ++ pins))) S3 hg hm q hdbg
      · exact ld_blt (X := X.suite a ((a, oe3) :: (X.pn ++ pins))) S3 hg hm hv q hnn hdbg
    refine test ((PySem.W.exm_one (M := model X.prog X.w) (J3.kIn) LT hb1).here ?_)
    cases b with
    | false =>
      show wpAny _ X.A (handleBy (.ref a) X.env hds2) _ _ _
      exact ih (hno rfl)
    | true =>
      refine codeAny_handlers_suite_as ?_
      refine HandSPX.lands_againZ fl fun h4 fl4 up4 => ?_
      obtain ⟨oe4, vs4, he4, hz4, hd4, J4, S4⟩ := at_ fl4 (up.trans up4)
      refine store_ok (X := X.suite a ((a, oe4) :: (X.pn ++ pins))) (v := .ref a) S4 nd hi (.inl hl) rfl (fun s5 S5 => ?_) (.inr hl)
      refine wpAny_mono ((hsu a oe4 cls d (X.pn ++ pins) hz4 ⟨_, hd4⟩).run [] s5 _ H _ S5 (hyes rfl a na)) (fun f s6 q => ?_) (fun _ _ z => False.elim z)
      have off : ∀ {σ6 : L2.St} {H6 : Hp} {Q : Shared → Prop}, Inv (X.suite a ((a, oe4) :: (X.pn ++ pins))) [] σ6 H6 s6 → (∀ s7, Inv X pins (σ6.set k.i none) H6 s7 → Q s7) →
          wpAny (model X.prog X.w) X.A (do bindName X.env n .none; unbindBehindTheSuite X.env n p') (fun _ s7 => Q s7) X.xe s6 := fun {σ6 H6 Q} S6 hq => gone_ok (S6.unsuite ok) nd hi hl hq
      cases f with
      | next => obtain ⟨σ6, H6, S6, q6⟩ := q; exact off S6 fun s7 J7 => ⟨_, _, J7, q6⟩
      | brk => obtain ⟨σ6, H6, S6, q6⟩ := q; exact off S6 fun s7 J7 => ⟨_, _, J7, q6⟩
      | cont => obtain ⟨σ6, H6, S6, q6⟩ := q; exact off S6 fun s7 J7 => ⟨_, _, J7, q6⟩
      | ret u => obtain ⟨v6, σ6, H6, S6, r6, q6⟩ := q; exact off S6 fun s7 J7 => ⟨_, _, _, J7, r6, q6⟩
theorem ps_try_cl (hs : X.stack = X.env :: X.outer) (hf : X.env.frame = some X.env.locals) (nd : X.N.Nodup) (tk : Takes X Wo)
    (hb : ∀ (W : WX) (pn : List (Addr × Obj)) (xe : Value → Shared → Prop), Takes (X.tr pn xe) W → PassesOwn (model X.prog X.w) X.A X.env xe → PSs (X.tr pn xe) body (tb W))
    (hh : ClOk X (h0 :: hds) l) : PS X (.Try body (h0 :: hds) [] [] pos) (fun D σ H => tb (wCl X.K Wo D l) D σ H) := by
  refine ⟨fun pins s σ H D I h => ?_⟩
  have ok := I.ok
  have hfr : X.A.frames = some (X.env :: X.outer) := by rw [ok.frames, hs]
  refine wpAny_Try_except ?_
  refine wpAny_mono ((hb (wCl X.K Wo D l) (X.pn ++ pins) _ (fun u s' xx => ?_) PassesOwn.looking).run [] s σ H D (I.toTry _) h) (fun f s1 q => ?_) (fun e s1 he => he)
  · obtain ⟨a, B, sI, pins', σ', H', cls, d, rfl, J', nb, up, sky, na, os, ag, w⟩ := xx
    have sky' : Sky B (X.env :: X.outer) a (Zc cls d) X.env.locals s'.heap := by rw [← hs]; exact sky
    show wpAny (model X.prog X.w) X.A (noteFrame (.ref a) X.env) _ _ _
    exact Sky.land Zc.steady hfr hf sky' fun h3 fl3 up3 => cl_go ok hs hf nd tk (J'.ofTry ok) nb na os ag (up.trans up3) fl3 hh w
  · cases f with
    | next => obtain ⟨σ', H', J', q⟩ := q; exact wpAny_execs_nil ⟨σ', H', J'.ofTry ok, q⟩
    | brk => obtain ⟨σ', H', J', q⟩ := q; exact ⟨σ', H', J'.ofTry ok, q⟩
    | cont => obtain ⟨σ', H', J', q⟩ := q; exact ⟨σ', H', J'.ofTry ok, q⟩
    | ret u => obtain ⟨v, σ', H', J', r, q⟩ := q; exact ⟨v, σ', H', J'.ofTry ok, r, q⟩
end
end EV

end
section
set_option linter.all false
set_option maxRecDepth 100000
set_option Elab.async false
/-! EV: enumerate of a tuple -/
namespace EVI
open PySem PySem.Spec PyProof.Rows L2
open AutoSeq1 (wpAny_loadPart')
set_option maxHeartbeats 1000000 in
theorem meets_enumT (l : Addr) (items : Array Value) :
    Meets (Builtin.«enumerate.__new__» ⟨[.type "enumerate", .ref l], []⟩) (fun _ R s => s.heap.IsTuple l items ∧
      R (.ok (.ret (.ref (s.heap.push { cls := .type "tuple_iterator", data := .fields #[.ref l, .int 0 0] }).objs.size)))
        { s with heap := (s.heap.push { cls := .type "tuple_iterator", data := .fields #[.ref l, .int 0 0] }).push { cls := .type "enumerate", data := .fields #[.none, .bool false, .ref s.heap.objs.size, rawInt 0, .none, .none] } }) :=
  .of_wp fun prog w A R s h => by
    obtain ⟨hp, g, d, tk, os⟩ := s
    obtain ⟨hL, h⟩ := h
    have hsub := sub_enumerate
    have hL' : Heap.IsTuple (Shared.heap ⟨hp, g, d, tk, os⟩) l items := hL
    obtain ⟨o, hl, _⟩ := id hL
    wp_walk using wpAny_loadPart' hl
    refine wpAny_stack_any fun st => wpAny_pure ?_
    split
    · rename_i c _ _ _ _ _
      cases (c == Value.type "enumerate")
      · wp_walk using wpAny_loadPart' hl, wpAny_pyIter_tuple hL'
        exact ⟨_, rfl, h⟩
      · wp_walk using wpAny_loadPart' hl, wpAny_pyIter_tuple hL'
        exact ⟨_, rfl, h⟩
    · wp_walk using wpAny_loadPart' hl, wpAny_pyIter_tuple hL'
      exact ⟨_, rfl, h⟩
theorem call_enumT {prog : Program} {w : World} {A : Around} {E : Value → Shared → Prop} {s : Shared} {l : Addr} {items : Array Value} {Q : Value → Shared → Prop} (hL : s.heap.IsTuple l items)
    (h : ∀ h', IsEnum h' (s.heap.objs.size + 1) s.heap.objs.size 0 .none → h'.IsTupleIter s.heap.objs.size l 0 → h'.objs.size = s.heap.objs.size + 2 →
      (∀ b o, s.heap.get? b = some o → h'.get? b = some o) → Q (.ref (s.heap.objs.size + 1)) { s with heap := h' }) :
    wpAny (model prog w) A (call (.type "enumerate") [.ref l]) Q E s := by
  refine callType_new F.called_enumerate (by decide) (F.typeCall_enumerate_1 _) (F.newCall_enumerate_1 _) (fun obj => F.args_object_init_2 obj _) F.entry_enumerate_new (meets_enumT l items) ⟨hL, ?_⟩
  have hz : (s.heap.push { cls := .type "tuple_iterator", data := .fields #[.ref l, .int 0 0] }).objs.size = s.heap.objs.size + 1 := Heap.size_push ..
  show _ ∧ _
  rw [hz]
  have he : IsEnum ((s.heap.push { cls := .type "tuple_iterator", data := .fields #[.ref l, .int 0 0] }).push
      { cls := .type "enumerate", data := .fields #[.none, .bool false, .ref s.heap.objs.size, rawInt 0, .none, .none] }) (s.heap.objs.size + 1) s.heap.objs.size 0 .none := by
    have q := Heap.get?_push_size (s.heap.push { cls := .type "tuple_iterator", data := .fields #[.ref l, .int 0 0] })
      (o := { cls := .type "enumerate", data := .fields #[.none, .bool false, .ref s.heap.objs.size, rawInt 0, .none, .none] }) rfl
    rw [hz] at q
    exact q
  refine ⟨⟨_, he, rfl⟩, h _ he ⟨_, Heap.get?_push_of_some _ (Heap.get?_push_size _ rfl), rfl, rfl⟩ (by rw [Heap.size_push, hz]) fun b o x => Heap.get?_push_of_some _ (Heap.get?_push_of_some _ x)⟩
/-- the tuple at a, each item in a new pair -/
def IteT (K : PySem.W.Frag) (a : Addr) : It where
  go := fun i H => ∃ (xs : List V) (x : V), SqT K H a xs ∧ xs[i]? = some x
  yld := fun i H v H' => ∃ T x, v = .ref T ∧ H T = none ∧ H' = upd H T (.tup [.int (i : Nat), x]) ∧ ∀ xs, SqT K H a xs → xs[i]? = some x
  stop := fun i H => ∃ xs : List V, SqT K H a xs ∧ xs.length = i
theorem apart {h : Heap} {a it : Addr} {i : Nat} {items : Array Value} (h1 : h.IsTupleIter it a i) (h2 : h.IsTuple a items) : a ≠ it := by
  rintro rfl
  obtain ⟨o, e, c, _⟩ := h1
  obtain ⟨o', e', c', _⟩ := h2
  rw [e] at e'
  cases e'
  rw [c] at c'
  exact absurd c' (by decide)
theorem apartE {h : Heap} {a e it : Addr} {c : Int} {old : Value} {items : Array Value} (h1 : IsEnum h e it c old) (h2 : h.IsTuple a items) : e ≠ a := by
  rintro rfl
  obtain ⟨o', e', c', _⟩ := h2
  have h1' : h.get? e = some _ := h1
  rw [h1'] at e'
  cases e'
  have c'' : Value.type "enumerate" = Value.type "tuple" := c'
  exact absurd c'' (by decide)
theorem turn_enumT {P : Program} {w : World} {K : PySem.W.Frag} {elts : List Expr} {kk : Nat} {tpos : Pos} (a e it : Addr) :
    Turn P w K (.Tuple elts kk tpos) (IteT K a) [e, it] e (fun i h => (∃ old, IsEnum h e it ((i : Nat) : Int) old) ∧ h.IsTupleIter it a i ∧ e ≠ it) where
  mem := by simp
  obj := fun i h st b hb => by
    obtain ⟨⟨old, he⟩, ⟨o, ho, hc, hd⟩, _⟩ := st
    rcases List.mem_cons.mp hb with z | z
    · rw [z]; exact ⟨_, he, fun v q => nomatch q⟩
    · rw [List.mem_singleton.mp z]; exact ⟨o, ho, fun v q => by rw [hd] at q; cases q⟩
  keep := fun i h h' st k => let ⟨⟨old, he⟩, hi, hne⟩ := st; ⟨⟨old, k e (by simp) _ he⟩, hi.at fun o q => k it (by simp) o q, hne⟩
  item := by
    intro X hP hw hK hc i pins s σ H E I hf st hg
    subst hP hw hK
    obtain ⟨⟨old, he⟩, hit, hne⟩ := st
    obtain ⟨xs, x, hq, hx⟩ := hg
    obtain ⟨its, rv, p, hz⟩ := I.tuple hq
    have p' : s.heap.IsTuple a its.toArray := p
    have nea := apart hit p'
    have neE := apartE he p'
    obtain ⟨u, hu, ru⟩ := rv.get hx
    have hel : e < s.heap.objs.size := Heap.lt_size he
    have hil : it < s.heap.objs.size := by obtain ⟨_, q, _⟩ := hit; exact Heap.lt_size q
    have hi : i < its.toArray.size := by
      have := (List.getElem?_eq_some_iff.mp hu).1
      simpa using this
    refine PySem.wpAny_pyNext_enum_itemC (PySem.Draws.tuple (A := X.A.in1) (I.ok.hd hc) it a nea its.toArray) he ⟨hit, p'⟩ hi hne (by simp [hne, neE]) fun u' h' tk hu' ho hst hT hsz hk => ?_
    have e0 : u' = u := by
      have q : its.toArray[i]? = some u := by simpa using hu
      rw [q] at hu'
      exact (Option.some.inj hu').symm
    subst e0
    refine ⟨_, rfl, wpAny_letOwnedTupleGo_enum (s := { s with heap := h', toks := tk + 1 }) ho fun h'' he' sb => ?_⟩
    have hT2 : h''.get? s.heap.objs.size = some { cls := .type "tuple", data := .seq #[.int i tk, u'] } := (sb.2 _ (Nat.ne_of_gt hel)).trans hT
    have new : ObjOk X.prog X.w (upd H s.heap.objs.size (.tup [.int (i : Nat), x])) h'' s.heap.objs.size (.tup [.int (i : Nat), x]) :=
      ⟨by show 2 ≤ sizeLine; decide, [.int i tk, u'], .cons ⟨_, rfl⟩ (.cons ru .nil), ⟨_, hT2, rfl, _, rfl⟩⟩
    have far : ∀ {b : Addr}, b ∉ [e, it] → b ≠ e ∧ b ≠ it := fun {b} hb => by simpa using hb
    have I1 : Inv X pins σ (upd H s.heap.objs.size (.tup [.int (i : Nat), x])) { s with heap := h'', toks := tk + 1 } :=
      I.turnedNew (ch := [e, it]) (fun b ob hb q => (sb.2 b (far hb).1).trans (hk b ob (far hb).1 (far hb).2 q)) hf (Nat.le_refl _) new
    refine ⟨.ref s.heap.objs.size, _, I1, rfl, ⟨_, x, rfl, I.hok.fresh (Nat.le_refl _), rfl, fun ys hy => by rw [I.tuple_inj hy hq]; exact hx⟩, ⟨⟨u', ?_⟩, hst.1.at fun o q => (sb.2 it (Ne.symm hne)).trans q, hne⟩, fun b hb => ?_⟩
    · have e1 : ((i + 1 : Nat) : Int) = (i : Int) + 1 := by omega
      rw [e1]; exact he'
    · have hb' : b < s.heap.objs.size := by
        rcases List.mem_cons.mp hb with z | z
        · rw [z]; exact hel
        · rw [List.mem_singleton.mp z]; exact hil
      rw [upd_ne (Nat.ne_of_lt hb')]
      exact (hf b hb).1
  done := by
    intro X hP hw hK hc i pins s σ H E I hf st hg
    subst hP hw hK
    obtain ⟨⟨old, he⟩, hit, hne⟩ := st
    obtain ⟨xs, hq, hx⟩ := hg
    obtain ⟨its, rv, p, hz⟩ := I.tuple hq
    have p' : s.heap.IsTuple a its.toArray := p
    have nea := apart hit p'
    obtain ⟨f0, f1, f2, f3, f4, f5⟩ := hf it (by simp)
    have hl := rv.length
    have hi : its.toArray.size = i := by simp; omega
    exact wpAny_pyNext_enum_endD (PySem.Draws.tuple (A := X.A.in1) (I.ok.hd hc) it a nea its.toArray) he ⟨by rw [hi]; exact hit, p'⟩ fun h' eb => ⟨rfl, I.turned (t' := s.toks) (fun b o hb q => eb b o hb q) f0 f1 f3 f4 f5⟩
  self := fun A i s Q E st h => let ⟨⟨_, he⟩, _⟩ := st; wpAny_pyIter_enum he h
/-- enumerate of a list, of a tuple -/
def iEnumA (K : PySem.W.Frag) (ta : TA) : TI := fun σ H R => ta σ H fun vs H1 => ∃ a xs, vs = [.ref a] ∧ ((SqL K H1 a xs ∧ R (Ite K a) H1) ∨ (SqT K H1 a xs ∧ R (IteT K a) H1))
theorem pi_enumA {X : Cx} {e : Expr} {ta : TA} {p pos tpos : Pos} {elts : List Expr} {kk : Nat} (hg : Gl X "enumerate") (hm : X.mg "enumerate" = none) (ha : PA X [e] ta) (hs : starEach [e] X.env = [(false, eval e X.env)]) :
    PI X (.Tuple elts kk tpos) (.Call (.Name "enumerate" p) [e] [] pos) (iEnumA X.K ta) := by
  refine ⟨fun pins s σ H R I h => ?_⟩
  refine Call_ (ld_blt I hg hm boot_enumerate (PyProof.Rows.callWith_type1 (thn (ha.run pos pins s σ H _ I h) fun us s1 ⟨vs, H1, I1, r1, q1⟩ => ?_) hs rfl))
  obtain ⟨a, xs, ex, q⟩ := q1
  subst ex
  cases r1 with
  | cons r rr =>
    cases rr
    cases r
    have fresh : ∀ b ∈ [s1.heap.objs.size + 1, s1.heap.objs.size], FpOk X pins H1 b := fun b hb => by
      have hle : s1.heap.objs.size ≤ b := by
        rcases List.mem_cons.mp hb with z | z
        · rw [z]; exact Nat.le_add_right _ _
        · rw [List.mem_singleton.mp z]; exact Nat.le_refl _
      exact I1.fpOk hle (I1.hok.fresh hle)
    rcases q with ⟨hq, q⟩ | ⟨hq, q⟩
    · obtain ⟨its, rv, p', hz⟩ := I1.list hq
      refine call_enumerate_list p'.isList fun h' he hit hsz hk => wpAny_pyIter_enum he ?_
      have I2 : Inv X pins σ H1 { s1 with heap := h' } := I1.kept (t' := s1.toks) hk
      exact ⟨s1.heap.objs.size + 1, [s1.heap.objs.size + 1, s1.heap.objs.size], _, _, H1, rfl, I2, turn_enum a (s1.heap.objs.size + 1) s1.heap.objs.size, ⟨⟨.none, he⟩, hit, Nat.succ_ne_self _⟩, fresh, q⟩
    · obtain ⟨its, rv, p', hz⟩ := I1.tuple hq
      refine call_enumT p' fun h' he hit hsz hk => wpAny_pyIter_enum he ?_
      have I2 : Inv X pins σ H1 { s1 with heap := h' } := I1.kept (t' := s1.toks) hk
      exact ⟨s1.heap.objs.size + 1, [s1.heap.objs.size + 1, s1.heap.objs.size], _, _, H1, rfl, I2, turn_enumT a (s1.heap.objs.size + 1) s1.heap.objs.size, ⟨⟨.none, he⟩, hit, Nat.succ_ne_self _⟩, fresh, q⟩
theorem walk_enumT {K : PySem.W.Frag} {a : Addr} {xs : List V} : Walk (IteT K a) xs.length (fun H => SqT K H a xs) (YPair (fun i => some (.int (i : Nat))) (fun i => xs[i]?)) := by
  refine ⟨fun i _ hi q => ⟨xs, xs[i], q, by simp [hi]⟩, fun _ q => ⟨xs, q, rfl⟩, fun i H v H' _ q y => ?_⟩
  obtain ⟨T, x, h1, h2, h3, h4⟩ := y
  exact ⟨T, _, x, h1, h2, h3, rfl, h4 xs q⟩
end EVI

end
section
set_option linter.all false
set_option maxRecDepth 100000
set_option Elab.async false
/-! EV: x[::-1] of a tuple -/
namespace EVR
open PySem PySem.Spec PyProof.Rows L2 HT
section
variable {prog : Program} {w : World} {A : Around} {E : Value → Shared → Prop} {s : Shared}
theorem fm_map {α β : Type} {f : α → Option β} {g : α → β} : ∀ l : List α, (∀ m ∈ l, f m = some (g m)) → l.filterMap f = l.map g
  | [], _ => rfl
  | x :: l, h => by
    rw [List.filterMap_cons_some (h x (List.mem_cons_self ..)), List.map_cons, fm_map l fun m hm => h m (List.mem_cons_of_mem _ hm)]
theorem pick_rev (xs : Array Value) : ((List.range xs.size).filterMap fun (m : Nat) => xs[(((xs.size : Int) - 1) + (m : Int) * (-1)).toNat]?).toArray = xs.toList.reverse.toArray := by
  congr 1
  apply List.ext_getElem?
  intro j
  have e : (List.range xs.size).filterMap (fun (m : Nat) => xs[(((xs.size : Int) - 1) + (m : Int) * (-1)).toNat]?) = (List.range xs.size).map fun m => xs.toList.getD (xs.size - 1 - m) .none := by
    refine fm_map _ fun m hm => ?_
    · have hm : m < xs.size := List.mem_range.mp hm
      have q : (((xs.size : Int) - 1) + (m : Int) * (-1)).toNat = xs.size - 1 - m := by omega
      rw [q]
      have l : xs.size - 1 - m < xs.size := by omega
      rw [Array.getElem?_eq_getElem l]
      simp [List.getD, l]
  rw [e]
  by_cases hj : j < xs.size
  · rw [List.getElem?_map, List.getElem?_range hj, List.getElem?_reverse (by simpa using hj)]
    have l : xs.size - 1 - j < xs.size := by omega
    simp [List.getD, l]
  · rw [List.getElem?_eq_none (by simp; omega), List.getElem?_eq_none (by simp; omega)]
theorem applied_rev {sl : Addr} {u : Tok} {n : Nat} {Q : Int × Int × Nat → Shared → Prop} (hs : s.heap.IsSliceOf sl .none .none (.int (-1) u)) (h : Q ((n : Int) - 1, -1, n) s) : wpAny (model prog w) A (Builtin.Slice.sliceApplied (.ref sl) (pure (n : Int))) Q E s := by
  obtain ⟨os, hos, hcs, hds⟩ := id hs
  unfold Builtin.Slice.sliceApplied Builtin.Slice.sliceFields
  refine wpAny_bind (wpAny_bind (wpAny_field hos hds (x := .none) rfl (wpAny_bind (wpAny_field hos hds (x := .none) rfl (wpAny_bind (wpAny_field hos hds (x := .int (-1) u) rfl (wpAny_pure ?_)))))))
  refine wpAny_bind (slicePart_int ?_)
  show wpAny _ _ (if ((-1 : Int) == 0) = true then _ else _) _ _ s
  rw [if_neg (by decide)]
  refine wpAny_bind (slicePart_none (wpAny_bind (slicePart_none (wpAny_bind (wpAny_pure ?_)))))
  have e1 : Builtin.Slice.sliceAdjust none none (-1) (n : Int) = ((n : Int) - 1, -1) := by
    unfold Builtin.Slice.sliceAdjust
    simp
  have e2 : Builtin.Slice.slicePlaces ((n : Int) - 1) (-1) (-1) = n := by
    unfold Builtin.Slice.slicePlaces
    simp
    split <;> omega
  show wpAny _ _ (match Builtin.Slice.sliceAdjust none none (-1) (n : Int) with | (lo, hi) => pure (lo, (-1 : Int), Builtin.Slice.slicePlaces lo hi (-1))) _ _ s
  rw [e1]
  show wpAny _ _ (pure ((n : Int) - 1, (-1 : Int), Builtin.Slice.slicePlaces ((n : Int) - 1) (-1) (-1))) _ _ s
  rw [e2]
  exact wpAny_pure h
theorem getItem_rev {t sl : Addr} {items : Array Value} {u : Tok} {Q : Value → Shared → Prop} (ht : IsTup s.heap t items) (hs : s.heap.IsSliceOf sl .none .none (.int (-1) u))
    (h : Q (.ref s.heap.objs.size) { s with heap := s.heap.push { cls := .type "tuple", data := .seq items.toList.reverse.toArray } }) (hsz : items.size ≤ sizeLine) : wpAny (model prog w) A (getItem (.ref t) (.ref sl)) Q E s := by
  have hz : sizeOk (.seq items.toList.reverse.toArray) := by
    show items.toList.reverse.toArray.size ≤ sizeLine
    simpa using hsz
  obtain ⟨os, hos, hcs, hds⟩ := id hs
  have hTs : s.TypeIs (.ref sl) "slice" := ⟨os, hos, hcs⟩
  unfold getItem
  try with_reducible refine wpAny_holding ?_
  first | refine wpAny_bind (wpAny_pure ?_) | skip
  refine wpAny_bind (wpAny_sequenceKey ht.typeIs (by decide) ?_)
  refine wpAny_bind (wpAny_callSpecial?_slot (name := Str.ofString "__getitem__") ht.typeIs PyProof.Rows.slot_tuple_getitem (wpAny_call_entry PyProof.Rows.slot_tuple_getitem ht.typeIs entry_tuple_getitem ?_ (args_tuple_getitem _ _)))
  show wpAny _ _ (Builtin.Tuple.tupleItemsOf (.ref t) >>= _) _ _ s
  refine wpAny_bind (tupleItemsOf_ ht (wpAny_bind (wpAny_typeOf hTs ?_)))
  rw [if_pos (by decide)]
  refine wpAny_bind (applied_rev hs ?_)
  have hno : ¬ ((((items.size : Int) - 1) == 0 && (-1 : Int) == 1 && items.size == items.size) = true) := by
    intro q
    rw [Bool.and_eq_true, Bool.and_eq_true] at q
    exact absurd q.1.2 (by decide)
  show wpAny _ _ (if ((((items.size : Int) - 1) == 0 && (-1 : Int) == 1 && items.size == items.size) = true) then _ else _) _ _ s
  rw [if_neg hno, pick_rev]
  first
    | exact wpAny_bind (m := Builtin.Tuple.tupleExact _) (wpAny_newObj_type (wpAny_pure ⟨_, rfl, wpAny_pure h⟩) hz)
    | exact wpAny_bind (m := Builtin.Tuple.tupleExact _) (wpAny_newObj_type (wpAny_bind (wpAny_pure (wpAny_pure ⟨_, rfl, wpAny_pure h⟩))) hz)
    | exact wpAny_bind (wpAny_bind (m := Builtin.Tuple.tupleExact _) (wpAny_newObj_type (wpAny_pure (wpAny_pure ⟨_, rfl, wpAny_pure h⟩)) hz))
    | exact wpAny_bind (wpAny_bind (m := Builtin.Tuple.tupleExact _) (wpAny_newObj_type (wpAny_pure ⟨_, rfl, wpAny_pure h⟩) hz))
end
section
variable {X : Cx}
def tRev (K : PySem.W.Frag) (te : TE) : TE := fun σ H Q => te σ H fun x H1 => ∃ a xs, x = .ref a ∧ ((SqL K H1 a xs ∧ ∀ p, H1 p = none → Q (.ref p) (upd H1 p (.lst xs.reverse))) ∨ (SqT K H1 a xs ∧ ∀ p, H1 p = none → Q (.ref p) (upd H1 p (.tup xs.reverse))))
theorem pe_rev {e : Expr} {te : TE} {k : Nat} {p1 p2 p3 pos : Pos} (he : PE X e te) : PE X (.Subscript e (.Slice none none (some (.UnaryOp .USub (.Constant (.int 1) k p1) p2)) p3) pos) (tRev X.K te) := by
  refine ⟨fun pins s σ H Q I h => ?_⟩
  refine Subscript_ (thn (he.run pins s σ H _ I h) fun v s1 ⟨x, H1, I1, r1, a, xs, ex, q⟩ => ?_)
  subst ex
  cases r1
  have step : PO X (some (.UnaryOp .USub (.Constant (.int 1) k p1) p2)) (tPart (tUn (rU fun i => .int (-i)) (tC (.int 1)))) := po_some (pe_un un_neg pe_int)
  refine wpAny_Slice (thn (po_none.run pins s1 σ H1 (fun o H2 => o = none ∧ H2 = H1) I1 ⟨rfl, rfl⟩) fun vl s2 ⟨l, H2, I2, pl, el, e2⟩ => ?_)
  subst el e2
  refine thn (po_none.run pins s2 σ H2 (fun o H3 => o = none ∧ H3 = H2) I2 ⟨rfl, rfl⟩) fun vu s3 ⟨u, H3, I3, pu, eu, e3⟩ => ?_
  subst eu e3
  refine thn (step.run pins s3 σ H3 (fun o H4 => o = some (-1) ∧ H4 = H3) I3 ⟨1, rfl, -1, rfl, rfl, rfl⟩) fun vs s4 ⟨o, H4, I4, ps, eo, e4⟩ => ?_
  subst eo e4
  cases pl
  cases pu
  cases ps with
  | int i t =>
    have I5 : Inv X pins σ H4 { s4 with heap := s4.heap.push { cls := .type "slice", data := .fields #[.none, .none, .int (-1) t] } } := I4.kept (t' := s4.toks) fun b ob q => Heap.get?_push_of_some _ q
    rcases q with ⟨hx, q⟩ | ⟨hx, q⟩
    · obtain ⟨its, r, ht, hz⟩ := I5.list hx
      have hlen := r.length
      show wpAny (model X.prog X.w) X.A (subscriptTail e (.Slice none none (some (.UnaryOp .USub (.Constant (.int 1) k p1) p2)) p3) (.ref a) (.ref s4.heap.objs.size)) (EP X pins σ Q) X.xe { s4 with heap := s4.heap.push { cls := .type "slice", data := .fields #[.none, .none, .int (-1) t] } }
      refine tail_any (ops := [.ref a, .ref s4.heap.objs.size]) ht.isList.typeIs (PySem.slot_list_getitem.lookup) ?_ (by with_unfolding_all rfl)
      refine wpAny_getItem_list_slice ht.isList (Heap.IsSliceOf.new _ .none .none (.int (-1) t)) .none .none (.int (-1) t) (by decide) ?_ (by rw [List.size_toArray]; omega)
      rw [PySem.W.krv_pick]
      refine ⟨.ref _, _, I5.laid (t' := s4.toks) (o := .lst xs.reverse) (fun b ob q => Heap.get?_push_of_some _ q) (Nat.le_refl _) ?_, rfl, q _ (I5.hok.fresh (Nat.le_refl _))⟩
      exact ⟨by rw [List.length_reverse]; exact hz, _, 0, r.reverse, Heap.get?_push_size _ rfl⟩
    · obtain ⟨its, r, ht, hz⟩ := I5.tuple hx
      have hlen := r.length
      show wpAny (model X.prog X.w) X.A (subscriptTail e (.Slice none none (some (.UnaryOp .USub (.Constant (.int 1) k p1) p2)) p3) (.ref a) (.ref s4.heap.objs.size)) (EP X pins σ Q) X.xe { s4 with heap := s4.heap.push { cls := .type "slice", data := .fields #[.none, .none, .int (-1) t] } }
      refine tail_any (ops := [.ref a, .ref s4.heap.objs.size]) ht.typeIs (PyProof.Rows.slot_tuple_getitem.lookup) ?_ (by with_unfolding_all rfl)
      refine getItem_rev (u := t) ht (Heap.IsSliceOf.new _ .none .none (.int (-1) t)) ?_ (by rw [List.size_toArray]; omega)
      refine ⟨.ref _, _, I5.laid (t' := s4.toks) (o := .tup xs.reverse) (fun b ob q => Heap.get?_push_of_some _ q) (Nat.le_refl _) ?_, rfl, q _ (I5.hok.fresh (Nat.le_refl _))⟩
      exact ⟨by rw [List.length_reverse]; exact hz, its.reverse, r.reverse, ⟨_, Heap.get?_push_size _ rfl, rfl, 0, by simp⟩⟩
end
end EVR

end
section
set_option linter.all false
set_option maxRecDepth 100000
set_option Elab.async false
/-! EV: sorting tuples of which some are empty -/
namespace EVS
open PySem PySem.W PySem.Calls PyProof.Rows PySem.SeqAt
section
variable {prog : Program} {w : World} {A : Around} {E : Value → Shared → Prop} {s : Shared}
/-- tuples by their class's own __lt__ -/
theorem oneLt_tups {xs ys : List PyData} {a b : Value} {as bs : List Addr} {Q : Bool → Shared → Prop} (ra : Reads s.heap a (.tuple xs) as) (rb : Reads s.heap b (.tuple ys) bs) (hal : alikeAll xs ys = true)
    (hu : A.units + min (PyData.tuple xs).depth (PyData.tuple ys).depth < cLine) (hq : Q (dataLt (.tuple xs) (.tuple ys)) s) : wpAny (model prog w) A (oneLt' true a b) Q E s := by
  cases ra with
  | @tuple l o vs n _ as₁ h1 h2 h3 h4 =>
    cases rb with
    | @tuple l' o' vs' n' _ bs₁ k1 k2 k3 k4 =>
      have n1 : vs.size = xs.length := by simpa using ReadsAll.length _ _ _ h4
      have n2 : vs'.size = ys.length := by simpa using ReadsAll.length _ _ _ k4
      have eqs := eqAt_alikeAll xs ys A.in1 s vs.toList vs'.toList _ _ h4 k4 hal (room_in hu)
      have lts := rcLt_alikeAll xs ys A.in1 s vs.toList vs'.toList _ _ h4 k4 hal (room_in hu)
      rw [dataLt_tuple, ← firstLt_toks xs ys hal, ← n1, ← n2] at hq
      rw [oneLt'_eq, if_pos rfl]
      refine wpAny_bind (wpAny_cRoomFor (room_here hu) ?_)
      obtain ⟨c1, d1, e1, s1⟩ := o
      obtain ⟨c2, d2, e2, s2⟩ := o'
      cases h2; cases h3; cases k2; cases k3
      refine wpAny_bind (wpAny_callSpecialIfBound?_slot (T := "tuple") ⟨_, h1, rfl⟩ F.slot_tuple_lt (call_meets F.slot_tuple_lt ⟨_, h1, rfl⟩ F.entry_tuple_lt (F.args_tuple_lt_2 _ _)
        (tuple_ltAt l l' vs vs' n n' d1 d2 s1 s2 (pairEq xs ys) fun j => dataLt (xs.getD j .none) (ys.getD j .none)) ⟨h1, k1, fun j j1 j2 => ?_, fun j j1 j2 hj => ?_, ?_⟩))
      · exact eqs j (by simpa using j1) (by simpa using j2)
      · exact lts j (by simpa using j1) (by simpa using j2) hj
      · exact wpAny_truthy_bool hq
theorem lt_general {xs ys : List PyData} {a b : Value} {as bs : List Addr} {Q : Bool → Shared → Prop} (ra : Reads s.heap a (.tuple xs) as) (rb : Reads s.heap b (.tuple ys) bs) (hal : alikeAll xs ys = true)
    (hu : A.units + min (PyData.tuple xs).depth (PyData.tuple ys).depth < cLine) (hq : Q (dataLt (.tuple xs) (.tuple ys)) s) : wpAny (model prog w) A (keyLt' general' a b) Q E s :=
  oneLt_alike (f := false) (fun z => nomatch z) ra rb (by simpa [alike] using hal) (fun z => nomatch z) hu hq
def full : PyData → Bool
  | .tuple [] => false
  | _ => true
/-- the first items of tuples -/
theorem firstsE {M : Model} : ∀ {vs : List Value} {ds : List PyData} {Q : List (Option Value) → Shared → Prop}, EachIs (fun v d => ∃ as, Reads s.heap v d as) vs ds → (∀ d ∈ ds, ∃ xs, d = .tuple xs) →
    (∀ fs : List (Option Value), fs.map Option.isSome = ds.map full → Q fs s) → wpAny M A (vs.mapM firstOfTuple') Q E s
  | _, _, _, .nil, _, h => by rw [List.mapM_nil]; exact wpAny_pure (h [] rfl)
  | _, _, Q, .cons (a := v) (b := d) (as := vs) (bs := ds) ⟨as, r⟩ t, ht, h => by
    obtain ⟨xs, rfl⟩ := ht d (List.mem_cons_self ..)
    cases r with
    | @tuple a o ws n _ _ ho hc hd hr =>
      rw [List.mapM_cons]
      refine wpAny_bind ?_
      rw [kas_first_eq]
      refine wpAny_bind (Looks.here (show Looks M s.heap (typeOf (.ref a)) o.cls from (Looks.ld ho).andThen .now) ?_)
      rw [hc, if_neg (by first | decide | simp)]
      refine wpAny_bind (listItems_at ho hd (wpAny_pure (wpAny_bind ?_)))
      refine firstsE (Q := fun bs s' => wpAny M A (pure (ws[0]? :: bs)) Q E s') t (fun d hd => ht d (List.mem_cons_of_mem _ hd)) fun fs hfs => wpAny_pure (h (ws[0]? :: fs) ?_)
      have n1 : ws.size = xs.length := by simpa using ReadsAll.length _ _ _ hr
      rw [List.map_cons, List.map_cons, hfs]
      congr 1
      cases xs with
      | nil =>
        have e : ws[0]? = none := by simp at n1; simp [n1]
        rw [e]; rfl
      | cons x r =>
        have l : 0 < ws.size := by simp at n1; omega
        rw [Array.getElem?_eq_getElem l]; rfl
def kindE : List PyData → SortKind
  | d :: _ => if full d then general' else oneType'
  | [] => general'
theorem kind_of {M : Model} {vs : List Value} {ds : List PyData} {Q : SortKind → Shared → Prop} (e : EachIs (fun v d => ∃ as, Reads s.heap v d as) vs ds) (ht : ∀ d ∈ ds, ∃ xs, d = .tuple xs) (hm : PyData.tuple [] ∈ ds) (h : Q (kindE ds) s) : wpAny M A (keyKind' vs.toArray) Q E s := by
  rw [keyKind'_eq, List.mapM_toArray, map_eq_pure_bind]
  refine wpAny_bind (wpAny_bind (firstsE e ht fun fs hfs => wpAny_pure ?_))
  have hno : ¬ (fs.toArray.all (fun x => x.isSome)) = true := by
    rw [List.all_toArray, List.all_eq_true]
    intro hall
    have hm' : (false : Bool) ∈ ds.map full := List.mem_map.mpr ⟨_, hm, rfl⟩
    rw [← hfs] at hm'
    obtain ⟨f, hf, q⟩ := List.mem_map.mp hm'
    have := hall f hf
    rw [this] at q; cases q
  rw [if_neg hno]
  cases ds with
  | nil => cases hm
  | cons d0 dr =>
    cases fs with
    | nil => cases hfs
    | cons f0 fr =>
      have h0 : f0.isSome = full d0 := (List.cons.inj hfs).1
      have e0 : ((f0 :: fr).toArray[0]?.bind id) = f0 := by simp
      rw [e0, h0]
      cases hf : full d0 with
      | true =>
        rw [if_pos rfl]
        have : kindE (d0 :: dr) = general' := if_pos hf
        rw [this] at h
        exact wpAny_pure h
      | false =>
        rw [if_neg Bool.false_ne_true]
        have : kindE (d0 :: dr) = oneType' := if_neg (by rw [hf]; decide)
        rw [this] at h
        rw [oneTypeOnly'_eq, List.mapM_toArray, map_eq_pure_bind]
        refine wpAny_bind (wpAny_bind (wpAny_bind (kas_mapM (r := Value.type "tuple") _ (fun v hv Q' hq => ?_) (wpAny_pure ?_))))
        · obtain ⟨d, hd, as, r⟩ := e.left v hv
          obtain ⟨xs, rfl⟩ := ht d hd
          exact (looks_reads r).here hq
        · cases vs with
          | nil => cases e
          | cons v vr =>
            have q0 : (List.map (fun _ => Value.type "tuple") (v :: vr)).toArray[0]? = some (Value.type "tuple") := by simp
            have qa : ((List.map (fun _ => Value.type "tuple") (v :: vr)).toArray.all fun x => x == Value.type "tuple") = true := by
              simp only [List.all_toArray, List.all_map, List.all_eq_true]
              intro _ _
              rfl
            rw [q0]
            simp only [qa, if_true]
            exact wpAny_pure (wpAny_pure h)
theorem sortsE {vs : List Value} {ds : List PyData} (e : EachIs (fun v d => ∃ as, Reads s.heap v d as) vs ds) (hal : AllAlike ds) (ht : ∀ d ∈ ds, ∃ xs, d = .tuple xs) (hm : PyData.tuple [] ∈ ds) (hu : ∀ d, d ∈ ds → A.units + d.depth < cLine) : SortsAt prog w A s (dataKind s.heap ds) vs := by
  have room : ∀ {d d' : PyData}, d ∈ ds → A.units + min d.depth d'.depth < cLine := fun {d d'} hd => Nat.lt_of_le_of_lt (Nat.add_le_add_left (Nat.min_le_left _ _) _) (hu d hd)
  refine ⟨fun v hv => ?_, kindE ds, ?_, fun h2 E Q hq => kind_of e ht hm hq⟩
  · obtain ⟨d, hd, as, r⟩ := e.left v hv
    exact ⟨_, dataKind_some hal hd r⟩
  · intro E x y a b Q ha hb hq
    obtain ⟨d, as, hd, ra, rfl⟩ := dataKind_inv ha
    obtain ⟨d', as', hd', rb, rfl⟩ := dataKind_inv hb
    have hdd := hal d hd d' hd'
    have hroom := room (d' := d') hd
    obtain ⟨xs, rfl⟩ := ht d hd
    obtain ⟨ys, rfl⟩ := ht d' hd'
    have hall : alikeAll xs ys = true := by simpa [alike] using hdd
    have hq' : Q (dataLt (.tuple xs) (.tuple ys)) s := hq
    have main : ∀ κ, κ = general' ∨ κ = oneType' → wpAny (model prog w) A (keyLt' κ x y) Q E s := by
      rintro κ (rfl | rfl)
      · exact lt_general ra rb hall hroom hq'
      · rw [keyLt'_oneType]
        exact oneLt_tups ra rb hall hroom hq'
    refine main _ ?_
    cases ds with
    | nil => cases hm
    | cons d0 dr =>
      by_cases hf : full d0 = true
      · exact .inl (if_pos hf)
      · exact .inr (if_neg hf)
/-- all can be sorted: alike, none of them None -/
theorem sorts_any {vs : List Value} {ds : List PyData} (e : EachIs (fun v d => ∃ as, Reads s.heap v d as) vs ds) (hal : AllAlike ds) (hn : ∀ d ∈ ds, d ≠ .none) (hu : ∀ d, d ∈ ds → A.units + d.depth < cLine) : SortsAt prog w A s (dataKind s.heap ds) vs := by
  by_cases ht : ∃ d ∈ ds, ∃ xs, d = .tuple xs
  · obtain ⟨d0, hd0, xs0, rfl⟩ := ht
    have all : ∀ d ∈ ds, ∃ xs, d = .tuple xs := fun d hd => by
      have q := hal d hd _ hd0
      cases d with
      | tuple xs => exact ⟨xs, rfl⟩
      | _ => exact absurd q (by simp [alike])
    by_cases hm : PyData.tuple [] ∈ ds
    · exact sortsE e hal all hm hu
    · refine SortsAt.data e hal (.inl fun d hd => ?_) hu
      obtain ⟨xs, rfl⟩ := all d hd
      cases xs with
      | nil => exact absurd hd hm
      | cons x r => exact ⟨x, r, rfl⟩
  · exact SortsAt.data e hal (.inr fun d hd => ⟨hn d hd, fun xs z => ht ⟨d, hd, xs, z⟩⟩) hu
variable {β : Type} {vs : List Value} {bs : List PyData} {R : Value → PyData → Prop}
theorem sorted_any {l : Addr} {Q : Value → Shared → Prop} (hl : s.heap.IsList l vs.toArray) (e : EachIs R vs bs) (er : EachIs (fun v b => ∃ as, Reads s.heap v b as) vs bs) (hal : AllAlike bs) (hn : ∀ d ∈ bs, d ≠ .none) (hL : bs.length ≤ sizeLine)
    (hu : ∀ b, b ∈ bs → A.units + 2 + b.depth < cLine) (h : ∀ out, out.length = bs.length → EachIs R out (bs.mergeSort (dataLe false fun d => d)) → Q (.ref (s.heap.objs.size + 1)) { s with heap := sortedAll s.heap vs (List.toArray out) }) :
    wpAny (model prog w) A (call (.builtin "sorted") [.ref l]) Q E s := by
  have er' : EachIs (fun v b => ∃ as, Reads (sortingHeap (copyHeap s.heap vs) (s.heap.objs.size + 1) vs) v b as) vs bs := er.mono fun _ _ ⟨as, r⟩ => ⟨as, PyProof.Rows.Reads.keeps (fun _ _ => sorting_copy_old) r⟩
  have hm : bs.map (fun d => d) = bs := by simp
  have key := sortVals_data (h' := sortingHeap (copyHeap s.heap vs) (s.heap.objs.size + 1) vs) (R := R) (enc := fun d => d) (vs := vs) (bs := bs) false e er' (by rw [hm]; exact hal)
  rw [hm] at key
  exact sorted_vals hl (sorts_any (s := { s with heap := sortingHeap (copyHeap s.heap vs) (s.heap.objs.size + 1) vs }) er' hal hn hu) (by rw [e.length]; exact hL) (h _ (by rw [sortVals_length false rfl]; exact e.length) key)
end
end EVS

end
section
/-! EV, part 0: a small language of pure code over plain data, and its evaluator.
A slot of a frame holds plain data (dat), a list of its own that nothing else refers to (own), or a list that the caller handed in to be changed (io). -/
set_option linter.all false
namespace EV
open PySem

abbrev D := PyData

/-- what a slot holds -/
inductive Sv where
  | dat (d : D) | own (xs : List D) | io (xs : List D)
abbrev Ro := List (Option Sv)
/-- what an expression gives: data, or a new list that nothing refers to -/
inductive W where
  | dat (d : D) | new (xs : List D)
/-- an exception: its class by number, its field -/
structure Exn where
  cls : Nat
  fld : Option D
inductive Res (α : Type) where
  | ok (a : α) | exc (x : Exn) (ρ : Ro) | stuck
inductive FRes where
  | ok (w : W) (io : Option (List D)) | exc (x : Exn) (io : Option (List D)) | stuck
@[inline] def Res.bind {α β : Type} (r : Res α) (f : α → Res β) : Res β :=
  match r with
  | .ok a => f a
  | .exc x ρ => .exc x ρ
  | .stuck => .stuck
def Res.of {α : Type} : Option α → Res α
  | some a => .ok a
  | none => .stuck

def W.d : W → D
  | .dat d => d
  | .new xs => .list xs
def W.sv : W → Sv
  | .dat d => .dat d
  | .new xs => .own xs
def Sv.d : Sv → D
  | .dat d => d
  | .own xs => .list xs
  | .io xs => .list xs

mutual
/-- no list within -/
def lf : D → Bool
  | .none | .bool _ | .int _ | .str _ => true
  | .tuple xs => lfs xs
  | .list _ => false
  | .dict _ => false
def lfs : List D → Bool
  | [] => true
  | x :: xs => lf x && lfs xs
end

/-! ### operators -/
inductive Op2 where
  | add | sub | mul | fdiv | mod | pow | eq | ne | lt | le | gt | ge | isin | notin
  deriving DecidableEq
inductive Op1 where
  | neg | isN | notN
  deriving DecidableEq

def b2i (b : Bool) : Int := if b then 1 else 0
/-- == is answered -/
def eqOk (d e : D) : Bool := SeqAt.shaped d && SeqAt.shaped e
def small64 (i : Int) : Bool := decide (-(2 ^ 64) < i) && decide (i < 2 ^ 64)
def items : D → Option (List D)
  | .list xs => some xs
  | .tuple xs => some xs
  | _ => none
def ltOk (d e : D) : Bool :=
  match d with
  | .int _ | .str _ | .tuple _ => W.alike d e && decide (d.depth ≤ 64)
  | _ => false
def allShaped : List D → Bool
  | [] => true
  | x :: xs => SeqAt.shaped x && allShaped xs
def inD (x : D) (xs : List D) : Bool := xs.any fun y => PyData.eqv y x

def op2 : Op2 → D → D → Option W
  | .add, .int i, .int j => some (.dat (.int (i + j)))
  | .add, .str x, .str y => if x.length + y.length ≤ sizeLine then some (.dat (.str (x ++ y))) else none
  | .add, .list xs, .list ys => if xs.length + ys.length ≤ sizeLine then some (.new (xs ++ ys)) else none
  | .add, .tuple xs, .tuple ys => if xs.length + ys.length ≤ sizeLine then some (.dat (.tuple (xs ++ ys))) else none
  | .sub, .int i, .int j => some (.dat (.int (i - j)))
  | .sub, .int i, .bool b => some (.dat (.int (i - b2i b)))
  | .mul, .int i, .int j => if small64 i || small64 j then some (.dat (.int (i * j))) else none
  | .fdiv, .int i, .int j => if 0 < j ∧ j < 1073741824 then some (.dat (.int (i / j))) else none
  | .mod, .int i, .int j => if 0 < j then some (.dat (.int (i % j))) else none
  | .pow, .int i, .int j => if 0 ≤ j ∧ j ≤ 1000000 ∧ i.natAbs < 2 ^ 64 then some (.dat (.int (i ^ j.toNat))) else none
  | .eq, d, e => if eqOk d e then some (.dat (.bool (PyData.eqv d e))) else none
  | .ne, d, e => if eqOk d e then some (.dat (.bool (!PyData.eqv d e))) else none
  | .lt, d, e => if ltOk d e then some (.dat (.bool (W.dataLt d e))) else none
  | .le, .int i, .int j => some (.dat (.bool (decide (i ≤ j))))
  | .gt, .int i, .int j => some (.dat (.bool (decide (j < i))))
  | .ge, .int i, .int j => some (.dat (.bool (decide (j ≤ i))))
  | .isin, .str x, .str y => some (.dat (.bool (!(Builtin.Str.occurrences y x 0 y.length 1).isEmpty)))
  | .isin, x, .list xs => if SeqAt.shaped x && SeqAt.shaped (.list xs) then some (.dat (.bool (inD x xs))) else none
  | .isin, x, .tuple xs => if SeqAt.shaped x && SeqAt.shaped (.tuple xs) then some (.dat (.bool (inD x xs))) else none
  | .notin, .str x, .str y => some (.dat (.bool (!!(Builtin.Str.occurrences y x 0 y.length 1).isEmpty)))
  | .notin, x, .list xs => if SeqAt.shaped x && SeqAt.shaped (.list xs) then some (.dat (.bool (!inD x xs))) else none
  | .notin, x, .tuple xs => if SeqAt.shaped x && SeqAt.shaped (.tuple xs) then some (.dat (.bool (!inD x xs))) else none
  | _, _, _ => none

def isNone : D → Bool
  | .none => true
  | _ => false
def op1 : Op1 → D → Option W
  | .neg, .int i => some (.dat (.int (-i)))
  | .isN, d => some (.dat (.bool (isNone d)))
  | .notN, d => some (.dat (.bool (!isNone d)))
  | _, _ => none

/-! ### built-in functions -/
inductive Ty where
  | int | bool | str | list | tuple
  deriving DecidableEq
def Ty.has : Ty → D → Bool
  | .int, .int _ => true
  | .int, .bool _ => true
  | .bool, .bool _ => true
  | .str, .str _ => true
  | .list, .list _ => true
  | .tuple, .tuple _ => true
  | _, _ => false
inductive Bi where
  | len | abs | int | list | tuple | sorted | sortset | all | any | sum | sumL
  deriving DecidableEq
def bools : List D → Option (List Bool)
  | [] => some []
  | .bool b :: r => (bools r).map (b :: ·)
  | _ => none
def intL : List D → Option (List Int)
  | [] => some []
  | .int i :: r => (intL r).map (i :: ·)
  | _ => none
/-- all can be compared with one another -/
def allAlike (xs : List D) : Bool := xs.all fun x => xs.all fun y => W.alike x y
def depthOk (xs : List D) : Bool := xs.all fun x => decide (x.depth ≤ 64)
def notNone : D → Bool
  | .none => false
  | _ => true
def sortOk (xs : List D) : Bool := allAlike xs && depthOk xs && xs.all notNone
def dLe (x y : D) : Bool := !W.dataLt y x
def insD (x : D) : List D → List D
  | [] => [x]
  | y :: r => if dLe x y then x :: y :: r else y :: insD x r
def sortD (xs : List D) : List D := xs.foldr insD []
def addD (x : D) : List D → List D
  | [] => [x]
  | y :: r => if W.dataLt x y then x :: y :: r else if W.dataLt y x then y :: addD x r else y :: r
/-- sorted, without repeats -/
def uniqD (xs : List D) : List D := xs.foldr addD []
mutual
/-- ints, texts, tuples of such -/
def keyed : D → Bool
  | .int _ => true
  | .str _ => true
  | .tuple xs => keyeds xs
  | .none | .bool _ | .list _ | .dict _ => false
def keyeds : List D → Bool
  | [] => true
  | x :: xs => keyed x && keyeds xs
end
def setOk (xs : List D) : Bool := decide (xs.length < 64) && allAlike xs && xs.all keyed && xs.all fun x => decide (x.depth ≤ 8)
def listL : List D → Option (List (List D))
  | [] => some []
  | .list xs :: r => (listL r).map (xs :: ·)
  | _ => none

def chars (x : Str) : List D := x.cps.toList.map fun c => .str ⟨#[c]⟩
def bi : Bi → List D → Option W
  | .len, [.list xs] => some (.dat (.int xs.length))
  | .len, [.tuple xs] => some (.dat (.int xs.length))
  | .len, [.str x] => if x.length ≤ sizeLine then some (.dat (.int x.length)) else none
  | .abs, [.int i] => some (.dat (.int (if i < 0 then -i else i)))
  | .int, [.int i] => some (.dat (.int i))
  | .int, [.bool b] => some (.dat (.int (b2i b)))
  | .list, [.list xs] => some (.new xs)
  | .list, [.tuple xs] => some (.new xs)
  | .list, [.str x] => if x.length ≤ sizeLine then some (.new (chars x)) else none
  | .tuple, [.list xs] => some (.dat (.tuple xs))
  | .tuple, [.tuple xs] => some (.dat (.tuple xs))
  | .all, [.list xs] => (bools xs).map fun bs => .dat (.bool (bs.all id))
  | .any, [.list xs] => (bools xs).map fun bs => .dat (.bool (bs.any id))
  | .sum, [.list xs] => (intL xs).map fun ns => .dat (.int ns.sum)
  | .sorted, [.list xs] => if sortOk xs then some (.new (sortD xs)) else none
  | .sortset, [.list xs] => if setOk xs then some (.new (uniqD xs)) else none
  | .sortset, [.tuple xs] => if setOk xs then some (.new (uniqD xs)) else none
  | .sumL, [.list xs] => (listL xs).bind fun ls => if ls.flatten.length ≤ sizeLine then some (.new ls.flatten) else none
  | _, _ => none

/-! ### the language -/
/-- methods that change a slot's list -/
inductive Me where
  | append | extend | popAt
  deriving DecidableEq
inductive Tg where
  | one (i : Nat) | many (is : List Nat)
def Tg.slots : Tg → List Nat
  | .one i => [i]
  | .many is => is

mutual
inductive E where
  | var (i : Nat)
  | cst (d : D)
  | op2 (o : Op2) (a b : E)
  | op1 (o : Op1) (a : E)
  | chain (o o' : Op2) (a b c : E)
  | bop (isAnd : Bool) (es : Es)
  | not (a : E)
  | orT (a b : E)
  | ite (c a b : E)
  | tup (es : Es)
  | lst (es : Es)
  | idx (a b : E)
  | slc (a : E) (lo hi : Eo)
  | call (f : Nat) (es : Es)
  | bi (b : Bi) (es : Es)
  | rep (a b : E)
  | isi (a : E) (ts : List Ty) (sole : Bool)
  | comp (t : Tg) (it : It) (c : Eo) (e : E)
  | comp2 (t : Tg) (it : It) (c : Eo) (t' : Tg) (it' : It) (c' : Eo) (e : E)
  | meth (m : Me) (i : Nat) (es : Es)
  | rev (a : E)
  | glo (k : Nat) (d : D)
  | call0 (f : Nat)
  | callK (f : Nat) (perm : List Nat) (es : Es)
inductive Eo where
  | no | yes (e : E)
inductive Es where
  | nil | cons (e : E) (r : Es) | star (e : E) (r : Es)
inductive It where
  | seq (e : E) | range1 (e : E) | range2 (a b : E) | down (a b : E) | enum (e : E) | zip (a b : E)
end
/-- an exception class: its name, its field, whether it is under LookupError (else under ValueError) -/
structure XC where
  name : Str
  fld : Option Str
  look : Bool
/-- an item of the list that a clause puts down: a constant, the error's field, isinstance(error, B) with its answer -/
inductive Hi where
  | cst (d : D) | fld | isi (look b : Bool)
/-- a clause: its class, the slot of its name, the slot that is set, the list -/
structure Hd where
  cls : Nat
  i : Nat
  t : Nat
  its : List Hi
def hItem (x : Exn) : Hi → Option D
  | .cst d => some d
  | .fld => x.fld
  | .isi _ b => some (.bool b)
def hItems (x : Exn) : List Hi → Option (List D)
  | [] => some []
  | h :: r => (hItem x h).bind fun d => (hItems x r).map (d :: ·)
mutual
inductive S where
  | asg (i : Nat) (e : E)
  | asgT (is : List Nat) (e : E)
  | par (is : List Nat) (es : Es)
  | sub (i : Nat) (ix v : E)
  | expr (e : E)
  | ret (e : E)
  | retN
  | ite (c : E) (a b : Ss)
  | for_ (t : Tg) (it : It) (b : Ss)
  | while_ (n : Nat) (c : E) (b : Ss)
  | raise (cls : Nat) (e : Eo)
  | try_ (b : Ss) (hs : List Hd)
  | pass | brk | cont
inductive Ss where
  | nil | cons (s : S) (r : Ss)
end
inductive Flow where
  | next | ret (w : W) | brk | cont

/-! ### slots -/
def get (ρ : Ro) (i : Nat) : Option Sv := (ρ[i]?).join
/-- a slot's list, read and let go: nothing may change it from now on -/
def leak (ρ : Ro) (i : Nat) : Option (D × Ro) :=
  match get ρ i with
  | some (.dat d) => some (d, ρ)
  | some (.own xs) => some (.list xs, ρ.set i (some (.dat (.list xs))))
  | _ => none
def setD (ρ : Ro) (i : Nat) (w : W) : Option Ro :=
  match ρ[i]? with
  | some (some (.io _)) => none
  | some _ => some (ρ.set i (some w.sv))
  | none => none
def setDs (ρ : Ro) : List Nat → List D → Option Ro
  | [], [] => some ρ
  | i :: is, d :: ds => (setD ρ i (.dat d)).bind fun ρ' => setDs ρ' is ds
  | _, _ => none
def bindT : Tg → D → Ro → Option Ro
  | .one i, d, ρ => setD ρ i (.dat d)
  | .many is, .tuple ds, ρ => setDs ρ is ds
  | .many _, _, _ => none
def wipeR (ρ : Ro) (is : List Nat) : Ro := is.foldr (fun i r => r.set i none) ρ
/-- the slots is as they were in ρ0 -/
def backR (ρ0 ρ : Ro) (is : List Nat) : Ro := is.foldr (fun i r => r.set i ((ρ0[i]?).join)) ρ

/-- an operand: a slot that is looked at when all operands are there, or a value -/
inductive Opd where
  | slot (i : Nat) | val (w : W)
def Opd.rd (ρ : Ro) : Opd → Option D
  | .slot i => (get ρ i).map Sv.d
  | .val w => some w.d
def rdAll (ρ : Ro) : List Opd → Option (List D)
  | [] => some []
  | o :: os => (o.rd ρ).bind fun d => (rdAll ρ os).map (d :: ·)

/-! ### items of what is walked -/
def rangeD (a b : Int) : List D := (List.range (b - a).toNat).map fun (i : Nat) => .int (a + i)
def downD (a b : Int) : List D := (List.range (a - b).toNat).map fun (i : Nat) => .int (a + i * (-1))
def small62 (i : Int) : Bool := decide (-(2 ^ 62) ≤ i) && decide (i < 2 ^ 62)
def seqD : D → Option (List D)
  | .list xs => some xs
  | .tuple xs => some xs
  | .str x => if x.length ≤ sizeLine then some (chars x) else none
  | _ => none
def enumD (xs : List D) : List D := (xs.zipIdx).map fun p => .tuple [.int p.2, p.1]
def zipD (xs ys : List D) : List D := (xs.zip ys).map fun p => .tuple [p.1, p.2]

def sIx (n d : Nat) : Option Int → Nat
  | none => d
  | some v => if v < 0 then ((v + n).toNat) else min v.toNat n
def cutD (xs : List D) (lo hi : Option Int) : List D := (xs.drop (sIx xs.length 0 lo)).take (sIx xs.length xs.length hi - sIx xs.length 0 lo)
def ixN (n : Nat) (i : Int) : Option Nat := if 0 ≤ i then (if i < n then some i.toNat else none) else if -(n : Int) ≤ i then some (i + n).toNat else none
def atD (xs : List D) (i : Int) : Option D := (ixN xs.length i).bind fun j => xs[j]?
def idxD : D → D → Option D
  | .list xs, .int i => atD xs i
  | .tuple xs, .int i => atD xs i
  | .str x, .int i => if x.length ≤ sizeLine then (ixN x.length i).bind fun j => (x.cps[j]?).map fun c => .str ⟨#[c]⟩ else none
  | _, _ => none
def slcD : D → Option Int → Option Int → Option W
  | .list xs, lo, hi => some (.new (cutD xs lo hi))
  | .tuple xs, lo, hi => some (.dat (.tuple (cutD xs lo hi)))
  | _, _, _ => none

def revD : D → Option W
  | .list xs => some (.new xs.reverse)
  | .tuple xs => some (.dat (.tuple xs.reverse))
  | _ => none
/-! ### loops -/
/-- no exception leaves a comprehension -/
def noExc {α : Type} : Res α → Res α
  | .ok a => .ok a
  | .exc _ _ => .stuck
  | .stuck => .stuck
def compL (bnd : D → Ro → Option Ro) (test : Ro → Res (Bool × Ro)) (elt : Ro → Res (D × Ro)) (is : List Nat) : List D → Ro → List D → Res (List D × Ro)
  | [], ρ, acc => .ok (acc, ρ)
  | x :: xs, ρ, acc => (Res.of (bnd x ρ)).bind fun ρ1 => (noExc (test ρ1)).bind fun p =>
      if p.1 then (noExc (elt p.2)).bind fun q => compL bnd test elt is xs (wipeR q.2 is) (acc ++ [q.1])
      else compL bnd test elt is xs (wipeR p.2 is) acc
def compL2 (bnd : D → Ro → Option Ro) (test : Ro → Res (Bool × Ro)) (inner : Ro → List D → Res (List D × Ro)) (is : List Nat) : List D → Ro → List D → Res (List D × Ro)
  | [], ρ, acc => .ok (acc, ρ)
  | x :: xs, ρ, acc => (Res.of (bnd x ρ)).bind fun ρ1 => (noExc (test ρ1)).bind fun p =>
      if p.1 then (noExc (inner p.2 acc)).bind fun q => compL2 bnd test inner is xs (wipeR q.2 is) q.1
      else compL2 bnd test inner is xs (wipeR p.2 is) acc
def forL (bnd : D → Ro → Option Ro) (body : Ro → Res (Flow × Ro)) : List D → Ro → Res (Flow × Ro)
  | [], ρ => .ok (.next, ρ)
  | x :: xs, ρ => (Res.of (bnd x ρ)).bind fun ρ1 => (body ρ1).bind fun p =>
      match p.1 with
      | .next => forL bnd body xs p.2
      | .cont => forL bnd body xs p.2
      | .brk => .ok (.next, p.2)
      | .ret w => .ok (.ret w, p.2)
def whileL (test : Ro → Res (Bool × Ro)) (body : Ro → Res (Flow × Ro)) : Nat → Ro → Res (Flow × Ro)
  | 0, _ => .stuck
  | n + 1, ρ => (test ρ).bind fun q =>
      if q.1 then (body q.2).bind fun p =>
        match p.1 with
        | .next => whileL test body n p.2
        | .cont => whileL test body n p.2
        | .brk => .ok (.next, p.2)
        | .ret w => .ok (.ret w, p.2)
      else .ok (.next, q.2)

/-! ### calls -/
/-- the function's table: name, how many parameters, which of them is handed in to be changed, how many slots, the body -/
structure Fn where
  name : Str
  np : Nat
  io : Option Nat
  ns : Nat
  body : Ss
def isListSlot (ρ : Ro) (i : Nat) : Bool := match get ρ i with | some (.own _) => true | some (.io _) => true | _ => false
def isOwnSlot (ρ : Ro) (i : Nat) : Bool := match get ρ i with | some (.own _) => true | _ => false
/-- one place on -/
def down : Option Nat → Option Nat
  | some (n + 1) => some n
  | _ => none
/-- the slots whose own lists are lent (passed where nothing is to be changed) -/
def lentOf (ρ : Ro) : List Opd → Option Nat → List Nat
  | [], _ => []
  | o :: os, io => (if io = some 0 then [] else match o with | .slot i => if isListSlot ρ i then [i] else [] | _ => []) ++ lentOf ρ os (down io)
/-- the slot that is handed in to be changed (none: a new list, or nothing) -/
def ioOf (ρ : Ro) (os : List Opd) : Option Nat → Option (Option Nat)
  | none => some none
  | some j => match os[j]? with
    | some (.slot i) => if isListSlot ρ i then some (some i) else none
    | some (.val (.new _)) => some none
    | _ => none
def putIo (ρ : Ro) : Option Nat → Option (List D) → Ro
  | some i, some xs => match get ρ i with
    | some (.own _) => ρ.set i (some (.own xs))
    | some (.io _) => ρ.set i (some (.io xs))
    | _ => ρ
  | _, _ => ρ
/-- a lent list may have got into the answer: nothing may change it any more -/
def frzSv : Option Sv → Option Sv
  | some (.own xs) => some (.dat (.list xs))
  | s => s
def frzR (lent : List Nat) (ρ : Ro) : Ro := ρ.mapIdx fun i s => if lent.contains i then frzSv s else s
def lfW : W → Bool
  | .dat d => lf d
  | .new xs => lfs xs
def clean (w : W) (io : Option (List D)) : Bool := lfW w && (match io with | some xs => lfs xs | none => true)
def notLent : Option Nat → List Nat → Bool
  | some i, lent => !lent.contains i
  | none, _ => true
def callE (fn : Fn) (cl : List D → FRes) (os : List Opd) (ρ : Ro) : Res (W × Ro) :=
  match rdAll ρ os, ioOf ρ os fn.io with
  | some ds, some io =>
    let lent := lentOf ρ os fn.io
    if notLent io lent then
      match cl ds with
      | .ok w r => if clean w r then .ok (w, putIo ρ io r) else if lent.all (isOwnSlot ρ) then .ok (w, frzR lent (putIo ρ io r)) else .stuck
      | .exc x r => if lent.all (isOwnSlot ρ) then .exc x (frzR lent (putIo ρ io r)) else .stuck
      | .stuck => .stuck
    else .stuck
  | _, _ => .stuck

def tru : D → Option Bool
  | .none => some false
  | .bool b => some b
  | .int i => some (i != 0)
  | .str _ => none
  | .list xs => some (!xs.isEmpty)
  | .tuple xs => some (!xs.isEmpty)
  | .dict _ => none

def intO : D → Option Int
  | .int i => some i
  | _ => none
def boolO : D → Option Bool
  | .bool b => some b
  | _ => none

/-! ### expressions -/
section
variable (F : Nat → Option Fn) (cl : Nat → List D → FRes)
/-- a method on a slot's list -/
def methE (m : Me) (i : Nat) (ds : List D) (ρ : Ro) : Res (W × Ro) :=
  match get ρ i with
  | some (.own xs) =>
    match m, ds with
    | .append, [d] => if xs.length < sizeLine then .ok (.dat .none, ρ.set i (some (.own (xs ++ [d])))) else .stuck
    | .extend, [d] => match items d with
      | some ys => if xs.length + ys.length ≤ sizeLine then .ok (.dat .none, ρ.set i (some (.own (xs ++ ys)))) else .stuck
      | none => .stuck
    | .popAt, [.int k] => match ixN xs.length k with
      | some j => match xs[j]? with
        | some d => .ok (.dat d, ρ.set i (some (.own (xs.eraseIdx j))))
        | none => .stuck
      | none => .stuck
    | _, _ => .stuck
  | _ => .stuck
/-- an operand: a name is looked at later -/
def opdOf (r : Ro → Res (W × Ro)) : E → Ro → Res (Opd × Ro)
  | .var i, ρ => (Res.of (get ρ i)).bind fun _ => .ok (.slot i, ρ)
  | _, ρ => (r ρ).bind fun p => .ok (.val p.1, p.2)
/-- an operand that is data, or a slot -/
def opdD (r : Ro → Res (W × Ro)) : E → Ro → Res (Opd × Ro)
  | .var i, ρ => (Res.of (get ρ i)).bind fun _ => .ok (.slot i, ρ)
  | _, ρ => (r ρ).bind fun p => .ok (.val (.dat p.1.d), p.2)
def datOf (r : Ro → Res (W × Ro)) (ρ : Ro) : Res (D × Ro) := (r ρ).bind fun p => .ok (p.1.d, p.2)
def testOf (r : Ro → Res (W × Ro)) (ρ : Ro) : Res (Bool × Ro) := (r ρ).bind fun p => (Res.of (boolO p.1.d)).bind fun b => .ok (b, p.2)
mutual
def ev : E → Ro → Res (W × Ro)
  | .var i, ρ => (Res.of (leak ρ i)).bind fun p => .ok (.dat p.1, p.2)
  | .cst d, ρ => .ok (.dat d, ρ)
  | .op2 o a b, ρ => (opdOf (ev a) a ρ).bind fun p => (opdOf (ev b) b p.2).bind fun q =>
      match p.1.rd q.2, q.1.rd q.2 with
      | some d, some e => (Res.of (op2 o d e)).bind fun w => .ok (w, q.2)
      | _, _ => .stuck
  | .op1 o a, ρ => (opdOf (ev a) a ρ).bind fun p => (Res.of ((p.1.rd p.2).bind (op1 o))).bind fun w => .ok (w, p.2)
  | .chain o o' a b c, ρ => (opdOf (ev a) a ρ).bind fun p => (opdOf (ev b) b p.2).bind fun q =>
      match p.1.rd q.2, q.1.rd q.2 with
      | some d, some e =>
        match op2 o d e with
        | some (.dat (.bool true)) => (opdOf (ev c) c q.2).bind fun r =>
          match q.1.rd r.2, r.1.rd r.2 with
          | some e, some g => (Res.of (op2 o' e g)).bind fun w => .ok (w, r.2)
          | _, _ => .stuck
        | some (.dat (.bool false)) => .ok (.dat (.bool false), q.2)
        | _ => .stuck
      | _, _ => .stuck
  | .bop k es, ρ => evB k es ρ
  | .not a, ρ => (testOf (ev a) ρ).bind fun p => .ok (.dat (.bool (!p.1)), p.2)
  | .orT a b, ρ => (ev a ρ).bind fun p => match tru p.1.d with
      | some true => .ok p
      | some false => ev b p.2
      | none => .stuck
  | .ite c a b, ρ => (testOf (ev c) ρ).bind fun p => if p.1 then ev a p.2 else ev b p.2
  | .tup es, ρ => (evL es ρ).bind fun p => if p.1.length ≤ sizeLine then .ok (.dat (.tuple p.1), p.2) else .stuck
  | .lst es, ρ => (evL es ρ).bind fun p => if p.1.length ≤ sizeLine then .ok (.new p.1, p.2) else .stuck
  | .idx a b, ρ => (opdOf (ev a) a ρ).bind fun p => (opdOf (ev b) b p.2).bind fun q =>
      match p.1.rd q.2, q.1.rd q.2 with
      | some d, some e => (Res.of (idxD d e)).bind fun w => .ok (.dat w, q.2)
      | _, _ => .stuck
  | .slc a lo hi, ρ => (opdOf (ev a) a ρ).bind fun p => (evI lo p.2).bind fun q => (evI hi q.2).bind fun r =>
      match p.1.rd r.2 with
      | some d => (Res.of (slcD d q.1 r.1)).bind fun w => .ok (w, r.2)
      | none => .stuck
  | .call f es, ρ => match F f with
      | some fn => (evCA es fn.io ρ).bind fun p => callE fn (cl f) p.1 p.2
      | none => .stuck
  | .bi b es, ρ => (evA es ρ).bind fun p => (Res.of ((rdAll p.2 p.1).bind (bi b))).bind fun w => .ok (w, p.2)
  | .rep a b, ρ => (ev a ρ).bind fun p => (opdOf (ev b) b p.2).bind fun q => match p.1, q.1.rd q.2 with
      | .new xs, some (.int k) => if 0 ≤ k ∧ k < 2 ^ 30 ∧ xs.length * k.toNat ≤ sizeLine then .ok (.new (List.replicate k.toNat xs).flatten, q.2) else .stuck
      | _, _ => .stuck
  | .isi a ts _, ρ => (opdOf (ev a) a ρ).bind fun p => match p.1.rd p.2 with
      | some d => .ok (.dat (.bool (ts.any fun t => t.has d)), p.2)
      | none => .stuck
  | .comp t it c e, ρ => (evIt it ρ).bind fun p => (compL (bindT t) (evC c) (datOf (ev e)) t.slots p.1 (wipeR p.2 t.slots) []).bind fun q => .ok (.new q.1, backR p.2 q.2 t.slots)
  | .comp2 t it c t' it' c' e, ρ => (evIt it ρ).bind fun p =>
      (compL2 (bindT t) (evC c) (fun ρ1 acc => (evIt it' ρ1).bind fun q => compL (bindT t') (evC c') (datOf (ev e)) t'.slots q.1 (wipeR q.2 t'.slots) acc) (t.slots ++ t'.slots) p.1 (wipeR p.2 (t.slots ++ t'.slots)) []).bind fun q =>
        if q.1.length ≤ sizeLine then .ok (.new q.1, backR p.2 q.2 (t.slots ++ t'.slots)) else .stuck
  | .meth m i es, ρ => if isOwnSlot ρ i then (evL es ρ).bind fun p => methE m i p.1 p.2 else .stuck
  | .rev a, ρ => (opdOf (ev a) a ρ).bind fun p => (Res.of ((p.1.rd p.2).bind revD)).bind fun w => .ok (w, p.2)
  | .glo _ d, ρ => .ok (.dat d, ρ)
  | .call0 f, ρ => match F f with
      | some fn => callE fn (cl f) [] ρ
      | none => .stuck
  | .callK f perm es, ρ => match F f with
      | some fn => if fn.io = none then (evCA es none ρ).bind fun p => callE fn (cl f) (perm.filterMap fun i => p.1[i]?) p.2 else .stuck
      | none => .stuck
/-- all of them data -/
def evL : Es → Ro → Res (List D × Ro)
  | .nil, ρ => .ok ([], ρ)
  | .cons e r, ρ => (datOf (ev e) ρ).bind fun p => (evL r p.2).bind fun q => .ok (p.1 :: q.1, q.2)
  | .star e r, ρ => (opdOf (ev e) e ρ).bind fun p => match (p.1.rd p.2).bind items with
      | some xs => (evL r p.2).bind fun q => .ok (xs ++ q.1, q.2)
      | none => .stuck
/-- operands -/
def evA : Es → Ro → Res (List Opd × Ro)
  | .nil, ρ => .ok ([], ρ)
  | .cons e r, ρ => (opdOf (ev e) e ρ).bind fun p => (evA r p.2).bind fun q => .ok (p.1 :: q.1, q.2)
  | .star _ _, _ => .stuck
/-- a call's arguments: the one that is to be changed may be a new list, all others are data or slots -/
def evCA : Es → Option Nat → Ro → Res (List Opd × Ro)
  | .nil, _, ρ => .ok ([], ρ)
  | .cons e r, io, ρ => ((if io = some 0 then opdOf (ev e) e else opdD (ev e) e) ρ).bind fun p => (evCA r (down io) p.2).bind fun q => .ok (p.1 :: q.1, q.2)
  | .star _ _, _, _ => .stuck
/-- and, or -/
def evB (k : Bool) : Es → Ro → Res (W × Ro)
  | .nil, _ => .stuck
  | .star _ _, _ => .stuck
  | .cons e .nil, ρ => ev e ρ
  | .cons e r, ρ => (testOf (ev e) ρ).bind fun p => if p.1 == k then evB k r p.2 else .ok (.dat (.bool p.1), p.2)
/-- a slice's part -/
def evI : Eo → Ro → Res (Option Int × Ro)
  | .no, ρ => .ok (none, ρ)
  | .yes e, ρ => (datOf (ev e) ρ).bind fun p => (Res.of (intO p.1)).bind fun i => .ok (some i, p.2)
/-- a comprehension's test -/
def evC : Eo → Ro → Res (Bool × Ro)
  | .no, ρ => .ok (true, ρ)
  | .yes e, ρ => testOf (ev e) ρ
/-- what is walked -/
def evIt : It → Ro → Res (List D × Ro)
  | .seq e, ρ => (datOf (ev e) ρ).bind fun p => (Res.of (seqD p.1)).bind fun xs => .ok (xs, p.2)
  | .range1 e, ρ => (datOf (ev e) ρ).bind fun p => match p.1 with
      | .int j => if small62 j && decide (j ≤ sizeLine) then .ok (rangeD 0 j, p.2) else .stuck
      | _ => .stuck
  | .range2 a b, ρ => (datOf (ev a) ρ).bind fun p => (datOf (ev b) p.2).bind fun q => match p.1, q.1 with
      | .int i, .int j => if small62 i && small62 j && decide (j - i ≤ sizeLine) then .ok (rangeD i j, q.2) else .stuck
      | _, _ => .stuck
  | .down a b, ρ => (datOf (ev a) ρ).bind fun p => (datOf (ev b) p.2).bind fun q => match p.1, q.1 with
      | .int i, .int j => if small62 i && small62 j && decide (i - j ≤ sizeLine) then .ok (downD i j, q.2) else .stuck
      | _, _ => .stuck
  | .enum e, ρ => (datOf (ev e) ρ).bind fun p => (Res.of (items p.1)).bind fun xs => .ok (enumD xs, p.2)
  | .zip a b, ρ => (datOf (ev a) ρ).bind fun p => (datOf (ev b) p.2).bind fun q => match p.1, q.1 with
      | .list xs, .list ys => .ok (zipD xs ys, q.2)
      | .tuple xs, .tuple ys => .ok (zipD xs ys, q.2)
      | _, _ => .stuck
end
end
/-! ### statements -/
section
variable (F : Nat → Option Fn) (cl : Nat → List D → FRes)
def setAll (ρ : Ro) : List Nat → List W → Option Ro
  | [], [] => some ρ
  | i :: is, w :: ws => (setD ρ i w).bind fun ρ' => setAll ρ' is ws
  | _, _ => none
def evWs : Es → Ro → Res (List W × Ro)
  | .nil, ρ => .ok ([], ρ)
  | .cons e r, ρ => (ev F cl e ρ).bind fun p => (evWs r p.2).bind fun q => .ok (p.1 :: q.1, q.2)
  | .star _ _, _ => .stuck
/-- x[k] = d -/
def subD (i : Nat) (k d : D) (ρ : Ro) : Option Ro :=
  match k with
  | .int j =>
    match get ρ i with
    | some (.own xs) => (ixN xs.length j).map fun n => ρ.set i (some (.own (xs.set n d)))
    | some (.io xs) => (ixN xs.length j).map fun n => ρ.set i (some (.io (xs.set n d)))
    | _ => none
  | _ => none
/-- a returned name: its list leaves with it -/
def retOf (r : Ro → Res (W × Ro)) : E → Ro → Res (W × Ro)
  | .var i, ρ => match get ρ i with
      | some (.own xs) => .ok (.new xs, ρ.set i none)
      | _ => r ρ
  | _, ρ => r ρ
/-- the clauses of a try -/
def catchX (x : Exn) (ρ : Ro) : List Hd → Res (Flow × Ro)
  | [] => .exc x ρ
  | h :: r => if h.cls == x.cls then
      match ρ[h.i]?, hItems x h.its with
      | some _, some ds => (Res.of (setD (ρ.set h.i none) h.t (.new ds))).bind fun ρ' => .ok (.next, ρ')
      | _, _ => .stuck
    else catchX x ρ r
def catchL (hs : List Hd) : Res (Flow × Ro) → Res (Flow × Ro)
  | .exc x ρ => catchX x ρ hs
  | r => r
mutual
def exec : S → Ro → Res (Flow × Ro)
  | .asg i e, ρ => (ev F cl e ρ).bind fun p => (Res.of (setD p.2 i p.1)).bind fun ρ' => .ok (.next, ρ')
  | .asgT is e, ρ => (datOf (ev F cl e) ρ).bind fun p => match p.1 with
      | .tuple ds => (Res.of (setDs p.2 is ds)).bind fun ρ' => .ok (.next, ρ')
      | _ => .stuck
  | .par is es, ρ => (evWs F cl es ρ).bind fun p => (Res.of (setAll p.2 is p.1)).bind fun ρ' => .ok (.next, ρ')
  | .sub i k v, ρ => if isListSlot ρ i = false then .stuck else (datOf (ev F cl v) ρ).bind fun p => (datOf (ev F cl k) p.2).bind fun q => (Res.of (subD i q.1 p.1 q.2)).bind fun ρ' => .ok (.next, ρ')
  | .expr e, ρ => (ev F cl e ρ).bind fun p => .ok (.next, p.2)
  | .ret e, ρ => (retOf (ev F cl e) e ρ).bind fun p => .ok (.ret p.1, p.2)
  | .retN, ρ => .ok (.ret (.dat .none), ρ)
  | .ite c a b, ρ => (testOf (ev F cl c) ρ).bind fun p => if p.1 then execs a p.2 else execs b p.2
  | .for_ t it b, ρ => (evIt F cl it ρ).bind fun p => forL (bindT t) (execs b) p.1 p.2
  | .while_ n c b, ρ => whileL (testOf (ev F cl c)) (execs b) n ρ
  | .raise c e, ρ => match e with
      | .no => .exc ⟨c, none⟩ ρ
      | .yes e => (datOf (ev F cl e) ρ).bind fun p => .exc ⟨c, some p.1⟩ p.2
  | .try_ b hs, ρ => catchL hs (execs b ρ)
  | .pass, ρ => .ok (.next, ρ)
  | .brk, ρ => .ok (.brk, ρ)
  | .cont, ρ => .ok (.cont, ρ)
def execs : Ss → Ro → Res (Flow × Ro)
  | .nil, ρ => .ok (.next, ρ)
  | .cons s r, ρ => (exec s ρ).bind fun p => match p.1 with
      | .next => execs r p.2
      | f => .ok (f, p.2)
end
end

/-- the slots at the entry -/
def start : List D → Option Nat → Option Ro
  | [], _ => some []
  | d :: ds, io => (start ds (down io)).bind fun ρ => if io = some 0 then (match d with | .list xs => some (some (.io xs) :: ρ) | _ => none) else some (some (.dat d) :: ρ)
def ioEnd (ρ : Ro) : Option Nat → Option (Option (List D))
  | none => some none
  | some j => match get ρ j with | some (.io xs) => some (some xs) | _ => none
def finish (io : Option Nat) (w : W) (ρ : Ro) : FRes := match ioEnd ρ io with
  | some r => .ok w r
  | none => .stuck
def finishX (io : Option Nat) (x : Exn) (ρ : Ro) : FRes := match ioEnd ρ io with
  | some r => .exc x r
  | none => .stuck
def runFn (F : Nat → Option Fn) (cl : Nat → List D → FRes) (fn : Fn) (ds : List D) : FRes :=
  if ds.length = fn.np then
    match start ds fn.io with
    | none => .stuck
    | some ρ =>
      match execs F cl fn.body (ρ ++ List.replicate (fn.ns - fn.np) none) with
      | .ok (.next, ρ') => finish fn.io (.dat .none) ρ'
      | .ok (.ret w, ρ') => finish fn.io w ρ'
      | .ok _ => .stuck
      | .exc x ρ' => finishX fn.io x ρ'
      | .stuck => .stuck
  else .stuck
def callN (F : Nat → Option Fn) : Nat → Nat → List D → FRes
  | 0, _, _ => .stuck
  | n + 1, f, ds => match F f with
    | none => .stuck
    | some fn => runFn F (callN F n) fn ds
end EV

end
section
set_option linter.all false
set_option Elab.async false
/-! EV: the order of data, sorting by insertion -/
namespace EV
open PySem PyProof.Rows
theorem dLt_irrefl (x : D) : W.dataLt x x = false := lex_irrefl (O := itemOrd) _
theorem dLt_trans {x y z : D} (h : W.dataLt x y = true) (h' : W.dataLt y z = true) : W.dataLt x z = true := lex_trans (O := itemOrd) _ _ _ h h'
theorem dLt_asymm {x y : D} (h : W.dataLt x y = true) : W.dataLt y x = false := by
  cases e : W.dataLt y x with
  | false => rfl
  | true => rw [← dLt_irrefl x, dLt_trans h e]
theorem dLe_trans (a b c : D) (h : dLe a b = true) (h' : dLe b c = true) : dLe a c = true := by
  simp only [dLe, Bool.not_eq_true'] at h h' ⊢
  cases e : W.dataLt c a with
  | false => rfl
  | true =>
    rcases lex_negTrans (O := itemOrd) _ (W.keyToks b) _ e with q | q
    · have q : W.dataLt c b = true := q
      rw [h'] at q; cases q
    · have q : W.dataLt b a = true := q
      rw [h] at q; cases q
theorem dLe_total (a b : D) : (dLe a b || dLe b a) = true := by
  simp only [dLe, Bool.or_eq_true, Bool.not_eq_true']
  cases e : W.dataLt b a with
  | false => exact .inl rfl
  | true => exact .inr (dLt_asymm e)
theorem insD_at (a : D) : ∀ (l₁ l₂ : List D), (∀ b ∈ l₁, (!dLe a b) = true) → (∀ b ∈ l₂, dLe a b = true) → insD a (l₁ ++ l₂) = l₁ ++ a :: l₂
  | [], [], _, _ => rfl
  | [], b :: l, _, h => by
    show (if dLe a b then _ else _) = _
    rw [if_pos (h b List.mem_cons_self)]; rfl
  | b :: l₁, l₂, h, h' => by
    show (if dLe a b then _ else _) = _
    have q := h b List.mem_cons_self
    simp only [Bool.not_eq_true'] at q
    rw [if_neg (by rw [q]; exact Bool.false_ne_true)]
    exact congrArg (b :: ·) (insD_at a l₁ l₂ (fun c hc => h c (List.mem_cons_of_mem _ hc)) h')
theorem sortD_eq : ∀ xs : List D, xs.mergeSort dLe = sortD xs
  | [] => by simp [sortD]
  | a :: l => by
    obtain ⟨l₁, l₂, h1, h2, h3⟩ := List.mergeSort_cons dLe_trans dLe_total a l
    have p := List.pairwise_mergeSort dLe_trans dLe_total (a :: l)
    rw [h1] at p ⊢
    have e : sortD (a :: l) = insD a (sortD l) := rfl
    rw [e, ← sortD_eq l, h2, insD_at a l₁ l₂ h3]
    exact (List.pairwise_cons.mp (List.pairwise_append.mp p).2.1).1
theorem sortD_perm (xs : List D) : (sortD xs).Perm xs := by rw [← sortD_eq]; exact List.mergeSort_perm xs dLe
theorem sortD_sorted (xs : List D) : (sortD xs).Pairwise (fun a b => dLe a b = true) := by rw [← sortD_eq]; exact List.pairwise_mergeSort dLe_trans dLe_total xs
/-- strictly rising -/
def Rise (l : List D) : Prop := l.Pairwise fun a b => W.dataLt a b = true
theorem Rise.ext : ∀ {l m : List D}, Rise l → Rise m → (∀ x, x ∈ l ↔ x ∈ m) → l = m
  | [], [], _, _, _ => rfl
  | [], y :: m, _, _, h => nomatch (h y).mpr List.mem_cons_self
  | x :: l, [], _, _, h => nomatch (h x).mp List.mem_cons_self
  | x :: l, y :: m, hl, hm, h => by
    obtain ⟨a1, a2⟩ := List.pairwise_cons.mp hl
    obtain ⟨b1, b2⟩ := List.pairwise_cons.mp hm
    have e : x = y := by
      rcases List.mem_cons.mp ((h x).mp List.mem_cons_self) with q | q
      · exact q
      · rcases List.mem_cons.mp ((h y).mpr List.mem_cons_self) with r | r
        · exact r.symm
        · have u := dLt_asymm (b1 x q)
          rw [a1 y r] at u; cases u
    subst e
    have t : ∀ z, z ∈ l ↔ z ∈ m := fun z => by
      constructor
      · intro hz
        rcases List.mem_cons.mp ((h z).mp (List.mem_cons_of_mem _ hz)) with q | q
        · subst q; have := a1 z hz; rw [dLt_irrefl] at this; cases this
        · exact q
      · intro hz
        rcases List.mem_cons.mp ((h z).mpr (List.mem_cons_of_mem _ hz)) with q | q
        · subst q; have := b1 z hz; rw [dLt_irrefl] at this; cases this
        · exact q
    rw [Rise.ext a2 b2 t]
theorem addD_mem (x : D) : ∀ (l : List D) (z : D), z ∈ addD x l → z = x ∨ z ∈ l
  | [], z, h => .inl (List.mem_singleton.mp h)
  | y :: r, z, h => by
    unfold addD at h
    split at h
    · exact List.mem_cons.mp h
    · split at h
      · rcases List.mem_cons.mp h with q | q
        · exact .inr (q ▸ List.mem_cons_self)
        · rcases addD_mem x r z q with q | q
          · exact .inl q
          · exact .inr (List.mem_cons_of_mem _ q)
      · exact .inr h
theorem addD_rise (x : D) : ∀ (l : List D), Rise l → Rise (addD x l)
  | [], _ => List.pairwise_singleton _ _
  | y :: r, h => by
    obtain ⟨h1, h2⟩ := List.pairwise_cons.mp h
    unfold addD
    split
    · rename_i c
      exact List.pairwise_cons.mpr ⟨fun z hz => by
        rcases List.mem_cons.mp hz with q | q
        · exact q ▸ c
        · exact dLt_trans c (h1 z q), h⟩
    · split
      · rename_i c
        exact List.pairwise_cons.mpr ⟨fun z hz => by
          rcases addD_mem x r z hz with q | q
          · exact q ▸ c
          · exact h1 z q, addD_rise x r h2⟩
      · exact h
theorem addD_keep (x : D) : ∀ (l : List D) (z : D), z ∈ l → z ∈ addD x l
  | y :: r, z, h => by
    unfold addD
    split
    · exact List.mem_cons_of_mem _ h
    · split
      · rcases List.mem_cons.mp h with q | q
        · exact q ▸ List.mem_cons_self
        · exact List.mem_cons_of_mem _ (addD_keep x r z q)
      · exact h
theorem addD_self (x : D) : ∀ (l : List D), (∀ y ∈ l, W.dataLt x y = false → W.dataLt y x = false → x = y) → x ∈ addD x l
  | [], _ => List.mem_singleton.mpr rfl
  | y :: r, h => by
    unfold addD
    split
    · exact List.mem_cons_self
    · rename_i c
      split
      · exact List.mem_cons_of_mem _ (addD_self x r fun z hz => h z (List.mem_cons_of_mem _ hz))
      · rename_i c'
        rw [h y List.mem_cons_self (by simpa using c) (by simpa using c')]
        exact List.mem_cons_self
theorem uniqD_rise : ∀ xs : List D, Rise (uniqD xs)
  | [] => List.Pairwise.nil
  | x :: xs => addD_rise x _ (uniqD_rise xs)
theorem uniqD_sub : ∀ (xs : List D) (z : D), z ∈ uniqD xs → z ∈ xs
  | x :: xs, z, h => by
    rcases addD_mem x _ z h with q | q
    · exact q ▸ List.mem_cons_self
    · exact List.mem_cons_of_mem _ (uniqD_sub xs z q)
/-- neither is less: the same -/
def Tot (xs : List D) : Prop := ∀ x ∈ xs, ∀ y ∈ xs, W.dataLt x y = false → W.dataLt y x = false → x = y
theorem uniqD_mem : ∀ {xs : List D}, Tot xs → ∀ z, z ∈ uniqD xs ↔ z ∈ xs
  | [], _, z => Iff.rfl
  | x :: xs, t, z => by
    have t' : Tot xs := fun a ha b hb => t a (List.mem_cons_of_mem _ ha) b (List.mem_cons_of_mem _ hb)
    refine ⟨uniqD_sub _ z, fun h => ?_⟩
    show z ∈ addD x (uniqD xs)
    rcases List.mem_cons.mp h with q | q
    · subst q
      exact addD_self z _ fun y hy => t z List.mem_cons_self y (List.mem_cons_of_mem _ (uniqD_sub xs y hy))
    · exact addD_keep x _ z ((uniqD_mem t' z).mpr q)
theorem sortD_rise {es : List D} (t : Tot es) (nd : es.Nodup) : Rise (sortD es) := by
  have p := sortD_perm es
  have nd' : (sortD es).Nodup := p.nodup_iff.mpr nd
  refine ((sortD_sorted es).and nd').imp_of_mem fun {a b} ha hb h => ?_
  obtain ⟨h1, h2⟩ := h
  cases e : W.dataLt a b with
  | true => rfl
  | false => exact absurd (t a (p.mem_iff.mp ha) b (p.mem_iff.mp hb) e (by simpa [dLe] using h1)) h2
theorem uniq_eq {xs es : List D} (t : Tot xs) (nd : es.Nodup) (hm : ∀ x, x ∈ es ↔ x ∈ xs) : sortD es = uniqD xs := by
  refine Rise.ext (sortD_rise (fun x hx y hy => t x ((hm x).mp hx) y ((hm y).mp hy)) nd) (uniqD_rise xs) fun x => ?_
  rw [(sortD_perm es).mem_iff, uniqD_mem t, hm]
theorem tot_ints (ns : List Int) : Tot (ns.map .int) := by
  intro x hx y hy h1 h2
  obtain ⟨i, _, rfl⟩ := List.mem_map.mp hx
  obtain ⟨j, _, rfl⟩ := List.mem_map.mp hy
  rw [W.dataLt_int] at h1 h2
  have h1 := of_decide_eq_false h1
  have h2 := of_decide_eq_false h2
  congr 1; omega
def rowT (ns : List Int) : D := .tuple (ns.map .int)
theorem dLt_rows (a b : List Int) : W.dataLt (rowT a) (rowT b) = decide (a < b) := by
  rw [rowT, rowT, W.dataLt_tuple]; exact W.dataLt_ints a b
theorem tot_rows (ks : List (List Int)) : Tot (ks.map rowT) := by
  intro x hx y hy h1 h2
  obtain ⟨i, _, rfl⟩ := List.mem_map.mp hx
  obtain ⟨j, _, rfl⟩ := List.mem_map.mp hy
  rw [dLt_rows] at h1 h2
  have h1 := of_decide_eq_false h1
  have h2 := of_decide_eq_false h2
  have e : i = j := List.le_antisymm (by simpa using h2) (by simpa using h1)
  rw [e]
theorem intL_some : ∀ {xs : List D} {ns : List Int}, intL xs = some ns → xs = ns.map .int
  | [], ns, h => by cases h; rfl
  | x :: xs, ns, h => by
    cases x with
    | int i =>
      simp only [intL, Option.map_eq_some_iff] at h
      obtain ⟨a, h1, rfl⟩ := h
      rw [intL_some h1]; rfl
    | _ => cases h
end EV

end
section
set_option linter.all false
set_option maxRecDepth 100000
set_option Elab.async false
/-! EV: set(x) of a list or a tuple, whatever its items; sorted of a set -/
namespace EVK
open PySem PySem.Spec PyProof.Rows L2
section
variable {P : Program} {w : World} {A : Around} {E : Value → Shared → Prop} {s : Shared}
/-- how the set at S takes the values one by one; J i: i of them are there -/
structure Takes (P : Program) (w : World) (A : Around) (S : Addr) (h0 : Heap) (n : Nat) (Pv : Nat → Value → Prop) (J : Nat → Heap → Prop) : Prop where
  keep : ∀ i h h', J i h → (∀ o, h.get? S = some o → h'.get? S = some o) → (∀ b o, h0.get? b = some o → h'.get? b = some o) → J i h'
  add : ∀ i v (s : Shared) (Q : Bool → Shared → Prop) (E : Value → Shared → Prop), i < n → Pv i v → J i s.heap → (∀ b o, h0.get? b = some o → s.heap.get? b = some o) →
    (∀ b h' tk, Heap.SameBut S s.heap h' → s.toks ≤ tk → J (i + 1) h' → Q b { s with heap := h', toks := tk }) → wpAny (model P w) A (setAdd S v) Q E s
theorem loop {I : Addr} {fp wr : List Addr} {G : Array GenState → Array GenState → Prop} {n : Nat} {Pv : Nat → Value → Prop} {St : Nat → Shared → Prop} {R : Result → Shared → Prop} {J : Nat → Heap → Prop} {h0 : Heap}
    (W : WalksS P w A.in1 I fp wr G n Pv St) (S : Addr) (hSf : S ∉ fp) (hS0 : h0.get? S = none) (hw0 : ∀ b ∈ wr, h0.get? b = none) (T : Takes P w A.in1 S h0 n Pv J) :
    ∀ (k i : Nat) (s : Shared), n - i = k → i ≤ n → St i s → (∀ b o, h0.get? b = some o → s.heap.get? b = some o) → J i s.heap →
      (∀ s', Moved (S :: wr) G s s' → J n s'.heap → (∀ b o, h0.get? b = some o → s'.heap.get? b = some o) → R (.ok (.ret .none)) s') →
      codeAny (model P w) A (.builtin "set.update.loop" ⟨[.ref S, .ref I], []⟩) R s := by
  have nw : S ∉ wr := fun z => hSf (W.sub _ z)
  have up : ∀ b ∈ wr, b ∈ S :: wr := fun b z => List.mem_cons_of_mem _ z
  have kp : ∀ {s s' : Shared}, Moved wr G s s' → (∀ b o, h0.get? b = some o → s.heap.get? b = some o) → ∀ b o, h0.get? b = some o → s'.heap.get? b = some o := fun m q b o e =>
    m.heap b o (fun z => by rw [hw0 b z] at e; cases e) (q b o e)
  intro k
  induction k with
  | zero =>
    intro i s hk' hi hst hkp hJ hR
    obtain rfl : i = n := by omega
    refine codeAny_builtin F.entry_set_update_loop ?_
    rw [Around.under_plainId F.plain_set_update_loop _]
    show wpAny _ A.in1 (pyNext (.ref I) >>= _) _ _ s
    refine wpAny_bind (W.done s _ _ hst fun s1 m => ?_)
    show wpAny _ A.in1 (ret Value.none) _ _ s1
    exact wpAny_pure (hR s1 (m.mono up) (T.keep i _ _ hJ (fun o e => m.heap S o nw e) (kp m hkp)) (kp m hkp))
  | succ k ih =>
    intro i s hk' hi hst hkp hJ hR
    have lt : i < n := by omega
    refine codeAny_builtin F.entry_set_update_loop ?_
    rw [Around.under_plainId F.plain_set_update_loop _]
    show wpAny _ A.in1 (pyNext (.ref I) >>= _) _ _ s
    refine wpAny_bind (W.item i s _ _ lt hst fun v s1 hv st1 m => ?_)
    have k1 := kp m hkp
    have J1 := T.keep i _ _ hJ (fun o e => m.heap S o nw e) k1
    show wpAny _ A.in1 (holding [v] (setAdd S v) >>= _) _ _ s1
    refine wpAny_bind (wpAny_holding (T.add i v s1 _ _ lt hv J1 k1 fun b h2 tk sb ht J2 => ?_))
    have k2 : ∀ b o, h0.get? b = some o → h2.get? b = some o := fun b o e => (sb.2 b (fun z => by rw [z, hS0] at e; cases e)).trans (k1 b o e)
    refine wpAny_pure ⟨plainId_quiet F.plain_set_update_loop _, ih (i + 1) _ (by omega) lt (W.frame _ s1 _ _ st1 ht fun b hb o e => ?_) k2 J2 fun s3 m3 J3 k3 => ?_⟩
    · rw [sb.2 b (fun z : b = S => hSf (z ▸ hb))]; exact e
    · refine hR s3 (Moved.trans W.gtrans ((m.mono up).then_heap ht fun b o hb e => ?_) m3) J3 k3
      rw [sb.2 b (fun z : b = S => hb (z ▸ List.mem_cons_self))]; exact e

/-- where the items are -/
def Src (h : Heap) (l : Addr) (items : Array Value) : Bool → Prop
  | true => h.IsTuple l items
  | false => h.IsList l items
set_option maxHeartbeats 3200000 in
theorem call_set {l : Addr} {items : Array Value} {Q : Value → Shared → Prop} {J : Nat → Heap → Prop} (tp : Bool) (hh : A.handled = none) (hl : Src s.heap l items tp)
    (T : Takes P w A.in1.in1.in1 s.heap.objs.size s.heap items.size (fun i v => items[i]? = some v) J) (hJ0 : ∀ h, h.get? s.heap.objs.size = some ({ cls := .type "set", dict := none, data := .set #[] 0 (.fresh 0 0 (!w.params.followText "set-order")) } : Obj) → J 0 h)
    (h : ∀ (h' : Heap) (tk : Nat), J items.size h' → (∀ b o, s.heap.get? b = some o → h'.get? b = some o) → Q (.ref s.heap.objs.size) { s with heap := h', toks := tk }) :
    wpAny (model P w) A (call (.type "set") [.ref l]) Q E s := by
  obtain ⟨c, tl, hmro⟩ := F.called_set.mro
  have a1 := F.called_set.made
  have a2 := F.called_set.sub
  refine wpAny_call (codeAny_of_tree ?_)
  show wpAny _ _ (callAny (.type "set") _) _ _ _
  refine wpAny_pure ⟨Code.quiet_builtin _ (by decide +kernel), codeAny_builtin F.entry_type_call ?_⟩
  rw [Around.under_plain (weight_type_call_type "set" [.ref l] []) rfl]
  have a3 := F.called_set.notType
  have a4 := F.called_set.canCreate
  have a5 := F.typeCall_set_1 (.ref l)
  repeat (any_goals (first | assumption | wp_step))
  refine codeAny_mono (code_set_led1 (.ref l) (E := E) (Q₁ := fun obj s₁ => obj = .ref s.heap.objs.size ∧ s₁ = { s with heap := s.heap.push ({ cls := .type "set", dict := none, data := .set #[] 0 (.fresh 0 0 (!w.params.followText "set-order")) } : Obj) }) ⟨rfl, rfl⟩) fun r s₁ hr => ?_
  cases r with
  | error e => exact hr
  | ok fl =>
    cases fl with
    | ret obj =>
      obtain ⟨rfl, rfl⟩ := hr
      have g0 : (s.heap.push ({ cls := .type "set", dict := none, data := .set #[] 0 (.fresh 0 0 (!w.params.followText "set-order")) } : Obj)).get? s.heap.objs.size = some ({ cls := .type "set", dict := none, data := .set #[] 0 (.fresh 0 0 (!w.params.followText "set-order")) } : Obj) := Heap.get?_push_size _ rfl
      have t0 : Shared.TypeIs { s with heap := s.heap.push ({ cls := .type "set", dict := none, data := .set #[] 0 (.fresh 0 0 (!w.params.followText "set-order")) } : Obj) } (.ref s.heap.objs.size) "set" := ⟨_, g0, rfl⟩
      have a6 := F.called_set.init.lookup
      have a7 := F.called_set.init.bind (.ref s.heap.objs.size)
      repeat (any_goals (first | assumption | wp_step))
      refine codeAny_mono (codeAny_call_builtin (R := wants (fun r s₂ => r = .none ∧ ∃ h' tk, s₂ = { s with heap := h', toks := tk } ∧ J items.size h' ∧ (∀ b o, s.heap.get? b = some o → h'.get? b = some o)) E) F.called_set.init.plain F.entry_set_init (check_set_init_1 t0 ?_)) fun r₂ s₂ hr₂ => ?_
      · have free : ∀ b, s.heap.objs.size ≤ b → s.heap.get? b = none := fun b hb => by
          cases q : s.heap.get? b with
          | none => rfl
          | some o => exact absurd (Nat.lt_of_lt_of_le (Heap.lt_size q) hb) (Nat.lt_irrefl _)
        have h3 : A.in1.in1.in1.handled = none := by simp [hh]
        have sz1 : (s.heap.push ({ cls := .type "set", dict := none, data := .set #[] 0 (.fresh 0 0 (!w.params.followText "set-order")) } : Obj)).objs.size = s.heap.objs.size + 1 := Heap.size_push ..
        cases tp with
        | true =>
          obtain ⟨ol, hol, hcl, nl, hdl⟩ := hl
          obtain ⟨ocls, odict, odata, oslots⟩ := ol
          simp only at hcl hdl
          subst hcl; subst hdl
          have b1 : (s.heap.push ({ cls := .type "set", dict := none, data := .set #[] 0 (.fresh 0 0 (!w.params.followText "set-order")) } : Obj)).get? l = some { cls := .type "tuple", dict := odict, data := .seq items nl, slots := oslots } := Heap.get?_push_of_some _ hol
          have b2 := F.sub_tuple_set
          have b3 := F.sub_tuple_frozenset
          have b4 : (Value.type "tuple" == Value.type "dict") = false := by decide
          have b5 : (s.heap.push ({ cls := .type "set", dict := none, data := .set #[] 0 (.fresh 0 0 (!w.params.followText "set-order")) } : Obj)).IsTuple l items := ⟨_, b1, rfl, nl, rfl⟩
          unfold Builtin.«set.__init__» noKeywords Builtin.Frozenset.updateFrom
          generalize hPI : pyIter = PI
          wp_walk
          subst hPI
          refine wpAny_pyIter_tuple b5 ?_
          refine wpAny_bind (wpAny_runValue ?_)
          have lt : l < s.heap.objs.size := Heap.lt_size hol
          refine loop (h0 := s.heap) (Walks.tuple h3 (s.heap.push ({ cls := .type "set", dict := none, data := .set #[] 0 (.fresh 0 0 (!w.params.followText "set-order")) } : Obj)).objs.size l (by rw [sz1]; exact Nat.ne_of_lt (Nat.lt_succ_of_lt lt)) items).toS s.heap.objs.size ?_ (free _ (Nat.le_refl _)) (fun b hb => free b (by rw [List.mem_singleton.mp hb, sz1]; omega)) T (items.size - 0) 0 _ rfl (Nat.zero_le _)
            ⟨⟨_, Heap.get?_push_size _ rfl, rfl, rfl⟩, (b5.push _)⟩ (fun b o e => Heap.get?_push_of_some _ (Heap.get?_push_of_some _ e)) (hJ0 _ (Heap.get?_push_of_some _ g0)) ?_
          · rw [sz1]; simp only [List.mem_cons, List.not_mem_nil, or_false, not_or]; exact ⟨Nat.ne_of_lt (Nat.lt_succ_self _), Nat.ne_of_gt lt⟩
          · intro s2 m J2 k2
            obtain ⟨h', g2, d', tk', os'⟩ := s2
            have e1 : g2 = s.gens := m.gens
            have e2 : d' = s.drawn := m.drawn
            have e3 : os' = s.os := m.os
            subst e1; subst e2; subst e3
            show wpAny _ _ _ _ _ _
            refine wpAny_pure ?_
            show wpAny _ _ (ret Value.none) _ _ _
            exact wpAny_pure ⟨rfl, h', tk', rfl, J2, k2⟩
        | false =>
          obtain ⟨ol, hol, hcl, nl, hdl⟩ := hl
          obtain ⟨ocls, odict, odata, oslots⟩ := ol
          simp only at hcl hdl
          subst hcl; subst hdl
          have b1 : (s.heap.push ({ cls := .type "set", dict := none, data := .set #[] 0 (.fresh 0 0 (!w.params.followText "set-order")) } : Obj)).get? l = some { cls := .type "list", dict := odict, data := .seq items nl, slots := oslots } := Heap.get?_push_of_some _ hol
          have b2 := F.sub_list_set
          have b3 := F.sub_list_frozenset
          have b4 : (Value.type "list" == Value.type "dict") = false := by decide
          have b5 : (s.heap.push ({ cls := .type "set", dict := none, data := .set #[] 0 (.fresh 0 0 (!w.params.followText "set-order")) } : Obj)).IsList l items := ⟨_, b1, rfl, nl, rfl⟩
          unfold Builtin.«set.__init__» noKeywords Builtin.Frozenset.updateFrom
          generalize hPI : pyIter = PI
          wp_walk
          subst hPI
          refine wpAny_pyIter_list b5 ?_
          refine wpAny_bind (wpAny_runValue ?_)
          have lt : l < s.heap.objs.size := Heap.lt_size hol
          refine loop (h0 := s.heap) (Walks.list h3 (s.heap.push ({ cls := .type "set", dict := none, data := .set #[] 0 (.fresh 0 0 (!w.params.followText "set-order")) } : Obj)).objs.size l (by rw [sz1]; exact Nat.ne_of_lt (Nat.lt_succ_of_lt lt)) items).toS s.heap.objs.size ?_ (free _ (Nat.le_refl _)) (fun b hb => free b (by rw [List.mem_singleton.mp hb, sz1]; omega)) T (items.size - 0) 0 _ rfl (Nat.zero_le _)
            ⟨⟨_, Heap.get?_push_size _ rfl, rfl, rfl⟩, (b5.push _)⟩ (fun b o e => Heap.get?_push_of_some _ (Heap.get?_push_of_some _ e)) (hJ0 _ (Heap.get?_push_of_some _ g0)) ?_
          · rw [sz1]; simp only [List.mem_cons, List.not_mem_nil, or_false, not_or]; exact ⟨Nat.ne_of_lt (Nat.lt_succ_self _), Nat.ne_of_gt lt⟩
          · intro s2 m J2 k2
            obtain ⟨h', g2, d', tk', os'⟩ := s2
            have e1 : g2 = s.gens := m.gens
            have e2 : d' = s.drawn := m.drawn
            have e3 : os' = s.os := m.os
            subst e1; subst e2; subst e3
            show wpAny _ _ _ _ _ _
            refine wpAny_pure ?_
            show wpAny _ _ (ret Value.none) _ _ _
            exact wpAny_pure ⟨rfl, h', tk', rfl, J2, k2⟩
      · cases r₂ with
        | error e => exact hr₂
        | ok fl₂ =>
          cases fl₂ with
          | ret r =>
            obtain ⟨rfl, h', tk, rfl, J2, k2⟩ := hr₂
            repeat (any_goals (first | assumption | wp_step))
            exact h _ _ J2 k2
          | _ => exact hr₂.elim
    | _ => exact hr.elim
end
end EVK

end
section
set_option linter.all false
set_option maxRecDepth 100000
set_option Elab.async false
/-! EV: sets of ints, of tuples of ints; sorted(set) -/
namespace EVK
open PySem PySem.Spec PyProof.Rows L2 PySem.W
section
variable {P : Program} {w : World} {A : Around} {E : Value → Shared → Prop} {s : Shared}
theorem takes_ints {S : Addr} {h0 : Heap} {items : Array Value} {ns : List Int} (hit : IntsAre items.toList ns) (hb : ns.length + 1 < scanBound) :
    Takes P w A S h0 items.size (fun i v => items[i]? = some v) (fun i h => ∃ c, c ≤ i ∧ SetR w h S (fun j => decide (j ∈ ns.take i)) c) where
  keep := fun i h h' ⟨c, hc, R⟩ k _ => ⟨c, hc, R.at k⟩
  add := by
    intro i v s Q E hi hv ⟨c, hc, R⟩ _ hQ
    have hl : items.size = ns.length := by
      have q := IntsAre.length hit
      rwa [Array.length_toList] at q
    have hi' : i < ns.length := by omega
    obtain ⟨t, rfl⟩ := PyProof.Rows.IntsAre.int_at hit i v (by rw [Array.getElem?_toList]; exact hv)
    have hz : ns[i]? = some (ns.getD i 0) := by rw [List.getD_eq_getElem?_getD, List.getElem?_eq_getElem hi'] ; rfl
    unfold setAdd
    refine wpAny_holding (wpAny_bind ((intKind P w).pyHash (k := ns.getD i 0) (intKind_is _ _ _ _) ?_))
    refine setR_add_hashed (s := { s with toks := s.toks + 1 }) R (by omega) fun h' sb R2 => ?_
    refine hQ _ h' _ sb (Nat.le_succ _) ⟨_, ?_, R2.congr fun j => ?_⟩
    · split <;> omega
    · rw [List.take_add_one, hz]
      simp [List.mem_append]
theorem takes_rows {S : Addr} {h0 : Heap} {items : Array Value} {ks : List (Addr × List Int)} (hit : items.toList = ks.map fun p => Value.ref p.1) (hk : ∀ p ∈ ks, IsT P w h0 p.2 p.1) (hfew : ks.length < 64) (hu : A.units < cLine) :
    Takes P w A S h0 items.size (fun i v => items[i]? = some v) (fun i h => ∃ L es ep t, SetTR P w h S L es ep t ∧ Got ks i L) where
  keep := fun i h h' ⟨L, es, ep, t, R, g⟩ k k0 => ⟨L, es, ep, t, R.keep k fun p hp => isT_keep (hk p (List.mem_of_mem_take (g.sub p hp))) k0, g⟩
  add := by
    intro i v s Q E hi hv ⟨L, es, ep, t, R, g⟩ k0 hQ
    have q : items.toList[i]? = some v := by rw [Array.getElem?_toList]; exact hv
    rw [hit, List.getElem?_map] at q
    cases hp : ks[i]? with
    | none => rw [hp] at q; cases q
    | some p =>
      rw [hp] at q
      cases q
      have hx : IsT P w s.heap p.2 p.1 := isT_keep (hk p (List.mem_of_getElem? hp)) k0
      unfold setAdd
      refine wpAny_holding (wpAny_bind (wpAny_pyHash_tuple hu hx ?_))
      have hl := (List.getElem?_eq_some_iff.mp hp).1
      refine add_at (s := { s with toks := s.toks + (p.2.length + 1) }) R hx hu (by have := g.len; omega) fun b h' L' es' ep' t' sb R2 c1 c2 => ?_
      refine hQ b h' _ sb (Nat.le_add_right _ _) ⟨L', es', ep', t', R2, ?_⟩
      rcases Classical.em (p.2 ∈ L.map (·.2)) with c | c
      · rw [c1 c]; exact g.same hp c
      · exact g.more hp (c2 c)
/-- the set at a: its values in some order -/
def SetV (w : World) (us : List Value) (h : Heap) (a : Addr) : Prop := ∃ es ep t, SetAt h a es ep t ∧ t.fits es.size = true ∧ es.size < scanBound ∧ Ris t.place.toList ∧ (w.params.followText "set-order" = true ∨ t.led = true) ∧ es.toList.map (·.2) = us
theorem SetV.at {us : List Value} {h h' : Heap} {a : Addr} (x : SetV w us h a) (k : ∀ o, h.get? a = some o → h'.get? a = some o) : SetV w us h' a := by
  obtain ⟨es, ep, t, h1, r⟩ := x
  exact ⟨es, ep, t, h1.at k, r⟩
theorem ints_keys : ∀ {l : List (Int × Value)}, (∀ e ∈ l, GoodE e) → IntsAre (l.map (·.2)) (l.map keyOf)
  | [], _ => .nil
  | e :: l, g => by
    obtain ⟨k, t, h1, h2⟩ := g e List.mem_cons_self
    have r := ints_keys (l := l) fun e he => g e (List.mem_cons_of_mem _ he)
    have hk : keyOf e = k := by unfold keyOf; rw [h1]
    rw [List.map_cons, List.map_cons, h1, hk]
    exact .cons k t r
theorem call_set_ints {l : Addr} {items : Array Value} {ns : List Int} {Q : Value → Shared → Prop} (tp : Bool) (hh : A.handled = none) (hl : Src s.heap l items tp) (hit : IntsAre items.toList ns) (hb : ns.length + 1 < scanBound)
    (h : ∀ (h' : Heap) (tk : Nat) (us : List Value) (ks : List Int), SetV w us h' s.heap.objs.size → IntsAre us ks → ks.Nodup → (∀ k, k ∈ ks ↔ k ∈ ns) → (∀ b o, s.heap.get? b = some o → h'.get? b = some o) → Q (.ref s.heap.objs.size) { s with heap := h', toks := tk }) :
    wpAny (model P w) A (call (.type "set") [.ref l]) Q E s := by
  refine call_set tp hh hl (takes_ints hit hb) (fun h1 g => ⟨0, Nat.le_refl 0, setR_new_at g⟩) fun h' tk ⟨c, hc, R⟩ k => ?_
  obtain ⟨o, es, ep, t, ho, hex, hd, g, nd, hm, hb2, hf, hn, hr, hl2⟩ := R
  have hl : items.size = ns.length := by
    have q := IntsAre.length hit
    rwa [Array.length_toList] at q
  refine h h' tk _ _ ⟨es, ep, t, ⟨o, ho, hex.1, hd⟩, hf, hb2, hr, hl2, rfl⟩ (ints_keys g) nd (fun z => ?_) k
  rw [← hm z, decide_eq_true_eq, List.take_of_length_le (by omega)]
theorem call_set_rows {l : Addr} {items : Array Value} (ks : List (Addr × List Int)) {Q : Value → Shared → Prop} (tp : Bool) (hh : A.handled = none) (hl : Src s.heap l items tp) (hit : items.toList = ks.map fun p => Value.ref p.1)
    (hk : ∀ p ∈ ks, IsT P w s.heap p.2 p.1) (hfew : ks.length < 64) (hu : A.units + 3 < cLine)
    (h : ∀ (h' : Heap) (tk : Nat) (L : List (Addr × List Int)), SetV w (L.map fun p => Value.ref p.1) h' s.heap.objs.size → (L.map (·.2)).Nodup → (∀ p ∈ L, p ∈ ks) → (∀ p ∈ ks, p.2 ∈ L.map (·.2)) → (∀ b o, s.heap.get? b = some o → h'.get? b = some o) → Q (.ref s.heap.objs.size) { s with heap := h', toks := tk }) :
    wpAny (model P w) A (call (.type "set") [.ref l]) Q E s := by
  have hl2 : items.size = ks.length := by
    have q := congrArg List.length hit
    rwa [Array.length_toList, List.length_map] at q
  refine call_set tp hh hl (takes_rows hit hk hfew hu) (fun h1 g => ⟨[], #[], 0, _, setTR_fresh g, Got.zero ks⟩) fun h' tk ⟨L, es, ep, t, R, g⟩ k => ?_
  obtain ⟨o, ho, hex, hd⟩ := R.ob
  have hfew2 := R.few
  have hsz := SetTR.size (s := { s with heap := h' }) R
  refine h h' tk L ⟨es, ep, t, ⟨o, ho, hex.1, hd⟩, SetTR.fits (s := { s with heap := h' }) R, by unfold scanBound; omega, R.tab.ris, R.led, ?_⟩ R.nd (fun p hp => List.mem_of_mem_take (g.sub p hp)) (fun p hp => g.all p (by rw [hl2, List.take_length]; exact hp)) k
  rw [R.rows]
  unfold L2.rowsOf
  rw [List.map_map]
  rfl
theorem each_perm {R : Value → PyData → Prop} {us vs : List Value} (p : vs.Perm us) : ∀ {bs : List PyData}, EachIs R us bs → ∃ cs, cs.Perm bs ∧ EachIs R vs cs := by
  induction p with
  | nil => intro bs e; cases e; exact ⟨[], .nil, .nil⟩
  | cons x p ih =>
    intro bs e
    cases e with
    | cons h t =>
      obtain ⟨cs, q, e⟩ := ih t
      exact ⟨_ :: cs, q.cons _, .cons h e⟩
  | swap x y l =>
    intro bs e
    cases e with
    | cons h t =>
      cases t with
      | cons h2 t => exact ⟨_, .swap _ _ _, .cons h2 (.cons h t)⟩
  | trans p q ih1 ih2 =>
    intro bs e
    obtain ⟨cs, q1, e1⟩ := ih2 e
    obtain ⟨cs2, q2, e2⟩ := ih1 e1
    exact ⟨cs2, q2.trans q1, e2⟩
theorem each_both {R R' : Value → PyData → Prop} : ∀ {us : List Value} {bs : List PyData}, EachIs R us bs → EachIs R' us bs → EachIs (fun v b => R v b ∧ R' v b) us bs
  | _, _, .nil, .nil => .nil
  | _, _, .cons h t, .cons h' t' => .cons ⟨h, h'⟩ (each_both t t')
theorem sorted_setV {a : Addr} {us : List Value} {bs : List PyData} {R : Value → PyData → Prop} {Q : Value → Shared → Prop} (S : SetV w us s.heap a) (hh : A.handled = none) (e : EachIs R us bs) (er : EachIs (fun v b => ∃ as, Reads s.heap v b as) us bs)
    (hal : AllAlike bs) (hn : ∀ d ∈ bs, d ≠ .none) (hL : bs.length ≤ sizeLine) (hu : ∀ b, b ∈ bs → A.units + 2 + b.depth < cLine)
    (h : ∀ s' p out c (cs : List PyData), (∀ b o, s.heap.get? b = some o → s'.heap.get? b = some o) → s'.gens = s.gens → s'.os = s.os → s.heap.objs.size ≤ p → s'.heap.get? p = some (seqObj "list" (List.toArray out) c) → cs.Perm bs → EachIs R out (cs.mergeSort (dataLe false fun d => d)) → Q (.ref p) s') :
    wpAny (model P w) A (call (.builtin "sorted") [.ref a]) Q E s := by
  obtain ⟨es, ep, t, ha, hf, hsz, hr, hl, rfl⟩ := S
  refine Calls.call_function_entry kind_sorted plain_sorted entry_sorted (args_sorted1 _) ?_
  unfold Builtin.«sorted»
  refine wpAny_bind (m := checkCount "sorted" 1 1 _) (wpAny_pure ?_)
  refine wpAny_bind (collect_set (A := A.in1) hh ha hf hsz hr hl fun s1 vs k1 hz g1 o1 pm => ?_)
  obtain ⟨cs, hp, e2⟩ := each_perm pm (each_both e er)
  have hlen : vs.length = bs.length := by rw [e2.length, hp.length_eq]
  refine wpAny_bind (wpAny_newList ?_ (by omega))
  have ho : (s1.heap.push (seqObj "list" vs.toArray 0)).get? s1.heap.objs.size = some (seqObj "list" vs.toArray 0) := Heap.get?_push_size _ rfl
  have er2 : EachIs (fun v b => ∃ as, Reads (sortingHeap (s1.heap.push (seqObj "list" vs.toArray 0)) s1.heap.objs.size vs) v b as) vs cs := e2.mono fun v b ⟨_, as, r⟩ =>
    ⟨as, PyProof.Rows.Reads.keeps (fun b o q => by
      have q1 := k1 b o q
      exact sortingHeap_old (Nat.ne_of_lt (Heap.lt_size q1)) (Heap.get?_push_of_some _ q1)) r⟩
  have hm : cs.map (fun d => d) = cs := by simp
  have key := sortVals_data (h' := sortingHeap (s1.heap.push (seqObj "list" vs.toArray 0)) s1.heap.objs.size vs) (R := R) (enc := fun d => d) (vs := vs) (bs := cs) false (e2.mono fun _ _ q => q.1) er2 (by rw [hm]; exact fun d hd d' hd' => hal d (hp.mem_iff.mp hd) d' (hp.mem_iff.mp hd'))
  rw [hm] at key
  refine wpAny_bind (wpAny_holding (wpAny_call_entry slot_list_sort ⟨_, ho, rfl⟩ entry_list_sort (list_sort_vals (s := { s1 with heap := s1.heap.push (seqObj "list" vs.toArray 0) }) (κ := dataKind (sortingHeap (s1.heap.push (seqObj "list" vs.toArray 0)) s1.heap.objs.size vs) cs) ho
    (EVS.sorts_any (s := { s1 with heap := sortingHeap (s1.heap.push (seqObj "list" vs.toArray 0)) s1.heap.objs.size vs }) er2 (fun d hd d' hd' => hal d (hp.mem_iff.mp hd) d' (hp.mem_iff.mp hd')) (fun d hd => hn d (hp.mem_iff.mp hd)) (fun d hd => by have := hu d (hp.mem_iff.mp hd); exact this)) (by omega) ⟨_, rfl, ?_⟩) (args_list_sort _)))
  obtain ⟨c, hc⟩ := sortedHeap_at (vs := vs) (out := (sortVals (dataKind (sortingHeap (s1.heap.push (seqObj "list" vs.toArray 0)) s1.heap.objs.size vs) cs) false vs vs).toArray) ho
  refine wpAny_pure ⟨_, rfl, h _ s1.heap.objs.size _ c cs (fun b u q => ?_) g1 o1 hz hc hp key⟩
  have q1 := k1 b u q
  have hlt := Heap.lt_size q1
  show (sortedHeap (s1.heap.push (seqObj "list" vs.toArray 0)) s1.heap.objs.size vs _).get? b = some u
  rw [sortedHeap_old (Nat.ne_of_lt hlt) (by rw [size_push']; exact Nat.lt_succ_of_lt hlt)]
  exact Heap.get?_push_of_some _ q1
end
end EVK

end
section
set_option linter.all false
set_option maxRecDepth 100000
set_option maxHeartbeats 1000000
set_option Elab.async false
/-! EV: sets of tuples of texts, ints, tuples (keys of any shape to depth 8) -/
namespace EVN
open PySem PySem.Spec PyProof.Rows L2 EVK
/-- a tuple's place and what it is -/
abbrev Rw := Addr × NestedKey
def ent (w : World) (r : Rw) : Int × Value := (r.2.hash w, .ref r.1)
abbrev hsh (w : World) (r : Rw) : Int := r.2.hash w
/-- the tuple is there -/
structure At (h : Heap) (r : Rw) : Prop where
  is : NestedIs h r.2 (.ref r.1)
  deep : r.2.depth ≤ 8
theorem At.keep {h h' : Heap} {r : Rw} (q : At h r) (k : ∀ c o, h.get? c = some o → h'.get? c = some o) : At h' r := ⟨NestedIs.at (fun a o _ _ e _ => k a o e) _ _ q.is, q.deep⟩
/-- the set is no tuple -/
theorem At.beside {h h' : Heap} {r : Rw} {a : Addr} {o : Obj} {es : Array (Int × Value)} {ep : Nat} {t : SetTable} (q : At h r) (ho : h.get? a = some o) (hd : o.data = .set es ep t) (sb : Heap.SameBut a h h') : At h' r :=
  ⟨NestedIs.at (fun b u vs n e e2 => (sb.2 b (fun z => by subst z; rw [ho] at e; cases e; rw [hd] at e2; cases e2)).trans e) _ _ q.is, q.deep⟩
structure NSet (w : World) (h : Heap) (a : Addr) (L : List Rw) (es : Array (Int × Value)) (ep : Nat) (t : SetTable) : Prop where
  ob : ∃ o, h.get? a = some o ∧ o.ExactSet ∧ o.data = .set es ep t
  rows : es.toList = L.map (ent w)
  tab : TabOk t (L.map (hsh w))
  nd : (L.map (·.2)).Nodup
  tup : ∀ r ∈ L, At h r
  led : w.params.followText "set-order" = true ∨ t.led = true
  room : L.length * 5 < t.mask * 3
  few : L.length < 64
section
variable {P : Program} {w : World} {A : Around} {E : Value → Shared → Prop} {s : Shared} {h : Heap} {a : Addr} {L : List Rw} {es : Array (Int × Value)} {ep : Nat} {t : SetTable}
theorem len_of (q : es.toList = L.map (ent w)) : es.size = L.length := by
  have z := congrArg List.length q
  simpa using z
theorem NSet.len (R : NSet w h a L es ep t) : es.size = L.length := len_of R.rows
theorem fits_of (h1 : t.place.size = L.length) (h2 : t.dummies = #[]) (h3 : es.size = L.length) (h4 : L.length ≤ t.mask) : t.fits es.size = true := by
  unfold SetTable.fits SetTable.fill
  rw [h2, h3]
  simp
  omega
theorem NSet.psz (R : NSet w h a L es ep t) : t.place.size = L.length := by have := R.tab.sz; simpa using this
theorem NSet.fits (R : NSet w h a L es ep t) : t.fits es.size = true := fits_of R.psz R.tab.dm R.len (by have := R.room; omega)
theorem ent_at (q : es.toList = L.map (ent w)) {i : Nat} {r : Rw} (e : L[i]? = some r) : es[i]? = some (ent w r) := by
  rw [← Array.getElem?_toList, q, List.getElem?_map, e]; rfl
/-! ### small questions -/
def NoCls (P : Program) (w : World) (n : Nat) (s : Shared) (v : Value) : Prop := ∀ (A : Around) (E : Value → Shared → Prop) (Q : Bool → Shared → Prop), Q false s → wpAny (model P w) A (ofAClassStatement n v) Q E s
def ByVal (P : Program) (w : World) (n : Nat) (s : Shared) (v : Value) : Prop := ∀ (A : Around) (E : Value → Shared → Prop) (Q : Bool → Shared → Prop), (∀ b, Q b s) → wpAny (model P w) A (hashByValue n v) Q E s
theorem noCls_tup {n : Nat} {b : Addr} {o : Obj} {vs : Array Value} {m : Nat} (ho : s.heap.get? b = some o) (hc : o.cls = .type "tuple") (hd : o.data = .seq vs m) (hv : ∀ v ∈ vs.toList, NoCls P w n s v) : NoCls P w (n + 1) s (.ref b) := fun A E Q hq => by
  unfold ofAClassStatement
  refine wpAny_bind (wpAny_typeOf ⟨o, ho, hc⟩ ?_)
  dsimp only
  simp only [show (("tuple" : String) == "tuple") = true from by decide, if_true, Bool.not_true, Bool.false_eq_true, if_false]
  try refine wpAny_bind (wpAny_pure ?_)
  try simp only [Bool.not_true, Bool.false_eq_true, if_false]
  show wpAny _ _ (seqItems? (.ref b) >>= _) _ _ s
  refine wpAny_bind (wpAny_seqItems ho hd ?_)
  dsimp only
  refine wpAny_bind ?_
  show wpAny _ _ (forIn vs _ _) _ _ s
  rw [← Array.forIn_toList]
  refine wpAny_forIn_list _ (fun l r z => r.1 = none ∧ z = s ∧ ∀ v ∈ l, NoCls P w n s v) _ (fun v l r z ⟨_, e, al⟩ => ?_) (fun r z ⟨e1, e, _⟩ => ?_) _ _ ⟨rfl, rfl, hv⟩
  · subst e
    refine wpAny_bind (al v List.mem_cons_self _ _ _ ?_)
    simp only [Bool.false_eq_true, if_false]
    exact wpAny_pure ⟨rfl, rfl, fun u m => al u (List.mem_cons_of_mem _ m)⟩
  · subst e
    obtain ⟨r1, r2⟩ := r
    cases (show r1 = none from e1)
    exact wpAny_pure hq
theorem byVal_tup {n : Nat} {b : Addr} {o : Obj} {vs : Array Value} {m : Nat} (ho : s.heap.get? b = some o) (hc : o.cls = .type "tuple") (hd : o.data = .seq vs m) (hv : ∀ v ∈ vs.toList, ByVal P w n s v) : ByVal P w (n + 1) s (.ref b) := fun A E Q hq => by
  unfold hashByValue
  refine wpAny_bind (wpAny_specialOf ⟨o, ho, hc⟩ F.slot_tuple_hash.lookup ?_)
  show wpAny _ _ (seqItems? (.ref b) >>= _) _ _ s
  refine wpAny_bind (wpAny_seqItems ho hd ?_)
  refine wpAny_bind ?_
  show wpAny _ _ (forIn vs _ _) _ _ s
  rw [← Array.forIn_toList]
  refine wpAny_forIn_list _ (fun l r z => r.1 = none ∧ z = s ∧ ∀ v ∈ l, ByVal P w n s v) _ (fun v l r z ⟨_, e, al⟩ => ?_) (fun r z ⟨e1, e, _⟩ => ?_) _ _ ⟨rfl, rfl, hv⟩
  · subst e
    refine wpAny_bind (al v List.mem_cons_self _ _ _ fun b => ?_)
    cases b with
    | true =>
      simp only [Bool.not_true, Bool.false_eq_true, if_false]
      exact wpAny_pure ⟨rfl, rfl, fun u m => al u (List.mem_cons_of_mem _ m)⟩
    | false =>
      simp only [Bool.not_false, if_true]
      exact wpAny_pure (wpAny_pure (hq _))
  · subst e
    obtain ⟨r1, r2⟩ := r
    cases (show r1 = none from e1)
    exact wpAny_pure (hq _)
mutual
theorem noCls_key : ∀ (k : NestedKey) (v : Value) (n : Nat) (s : Shared), NestedIs s.heap k v → k.depth ≤ n → NoCls P w n s v
  | .none, _, n, s, q, _ => by cases q; intro A E Q hq; cases n <;> exact wpAny_pure hq
  | .num _, _, n, s, q, _ => by cases q <;> (intro A E Q hq; cases n <;> exact wpAny_pure hq)
  | .text _, _, n, s, q, _ => by cases q; intro A E Q hq; cases n <;> exact wpAny_pure hq
  | .tup ks, _, n, s, q, hn => by
    cases q with
    | tup g1 g2 g3 g4 =>
      cases n with
      | zero => simp [NestedKey.depth] at hn
      | succ n => exact noCls_tup g1 g2 g3 (noCls_keys ks _ n s g4 (by simpa [NestedKey.depth] using hn))
theorem noCls_keys : ∀ (ks : List NestedKey) (vs : List Value) (n : Nat) (s : Shared), NestedAll s.heap ks vs → NestedKey.depthAll ks ≤ n → ∀ v ∈ vs, NoCls P w n s v
  | [], _, _, _, q, _, v, m => by cases q; cases m
  | k :: ks, _, n, s, q, hn, v, m => by
    cases q with
    | cons g1 g2 =>
      have hn : max k.depth (NestedKey.depthAll ks) ≤ n := hn
      rcases List.mem_cons.mp m with rfl | m
      · exact noCls_key k _ n s g1 (by omega)
      · exact noCls_keys ks _ n s g2 (by omega) v m
end
mutual
theorem byVal_key : ∀ (k : NestedKey) (v : Value) (n : Nat) (s : Shared), NestedIs s.heap k v → k.depth ≤ n → ByVal P w n s v
  | .none, _, n, s, q, _ => by cases q; intro A E Q hq; cases n <;> exact wpAny_pure (hq _)
  | .num _, _, n, s, q, _ => by cases q <;> (intro A E Q hq; cases n <;> exact wpAny_pure (hq _))
  | .text _, _, n, s, q, _ => by cases q; intro A E Q hq; cases n <;> exact wpAny_pure (hq _)
  | .tup ks, _, n, s, q, hn => by
    cases q with
    | tup g1 g2 g3 g4 =>
      cases n with
      | zero => simp [NestedKey.depth] at hn
      | succ n => exact byVal_tup g1 g2 g3 (byVal_keys ks _ n s g4 (by simpa [NestedKey.depth] using hn))
theorem byVal_keys : ∀ (ks : List NestedKey) (vs : List Value) (n : Nat) (s : Shared), NestedAll s.heap ks vs → NestedKey.depthAll ks ≤ n → ∀ v ∈ vs, ByVal P w n s v
  | [], _, _, _, q, _, v, m => by cases q; cases m
  | k :: ks, _, n, s, q, hn, v, m => by
    cases q with
    | cons g1 g2 =>
      have hn : max k.depth (NestedKey.depthAll ks) ≤ n := hn
      rcases List.mem_cons.mp m with rfl | m
      · exact byVal_key k _ n s g1 (by omega)
      · exact byVal_keys ks _ n s g2 (by omega) v m
end
/-- a search among tuples shows nothing -/
theorem seen_rw {r : Rw} {Q : Bool → Shared → Prop} (hr : At s.heap r) {ys : List Value} (hy : ∀ y ∈ ys, ∃ q : Rw, y = .ref q.1 ∧ At s.heap q) (hq : Q false s) : wpAny (model P w) A (searchCouldBeSeen (.ref r.1) ys) Q E s := by
  unfold searchCouldBeSeen
  refine wpAny_bind ?_
  refine wpAny_forIn_list _ (fun l b z => b.1 = none ∧ z = s ∧ ∀ y ∈ l, ∃ q : Rw, y = .ref q.1 ∧ At s.heap q) _ (fun v l b z ⟨_, e, al⟩ => ?_) (fun b z ⟨e1, e, _⟩ => ?_) _ _ ⟨rfl, rfl, hy⟩
  · subst e
    obtain ⟨q, rfl, hqq⟩ := al v List.mem_cons_self
    have tl : ∀ y ∈ l, ∃ q : Rw, y = .ref q.1 ∧ At z.heap q := fun u m => al u (List.mem_cons_of_mem _ m)
    dsimp only
    by_cases c : (r.1 == q.1 || (carriedByValue (.ref r.1) && carriedByValue (.ref q.1))) = true
    · exact wp_if_pos c (wpAny_pure ⟨rfl, rfl, tl⟩)
    · refine wp_if_neg c (wpAny_bind (quiet_key _ _ 8 z hr.is hr.deep _ _ _ ?_))
      simp only [Bool.not_true, Bool.false_eq_true, if_false]
      refine wpAny_bind (quiet_key _ _ 8 z hqq.is hqq.deep _ _ _ ?_)
      simp only [Bool.not_true, Bool.false_eq_true, if_false]
      refine wpAny_bind (noCls_key _ _ 8 z hr.is hr.deep _ _ _ ?_)
      simp only [Bool.false_eq_true, if_false]
      refine wpAny_bind (noCls_key _ _ 8 z hqq.is hqq.deep _ _ _ ?_)
      simp only [Bool.false_eq_true, if_false]
      exact wpAny_pure ⟨rfl, rfl, tl⟩
  · subst e
    obtain ⟨b1, b2⟩ := b
    cases (show b1 = none from e1)
    exact wpAny_pure hq
/-- == of two keys -/
theorem eq_rw {p r : Rw} {Q : Bool → Shared → Prop} (hp : At s.heap p) (hr : At s.heap r) (hu : A.units + 8 < cLine) (hq : Q (decide (p.2 = r.2)) s) : wpAny (model P w) A (eqBool (.ref p.1) (.ref r.1)) Q E s :=
  eqAt_key p.2 r.2 A s _ _ hp.is hr.is (by have := hp.deep; omega) _ _ _ _ (by rw [← NestedKey.decide_eq]; exact hq)
/-! ### the search -/
/-- the way's stations -/
abbrev stn (m : Nat) (h : Int) (c : Nat) : SetTable.Probe := nth m (runAt m (SetTable.bits h % (m + 1)) (SetTable.bits h)) c
theorem stn_add (m : Nat) (h : Int) (c q : Nat) : nth m (stn m h c) q = stn m h (c + q) := (nth_add m c _ q).symm
theorem stn_clear (m : Nat) : ∀ (n : Nat) (p : SetTable.Probe), p.dummy = none → (nth m p n).dummy = none
  | 0, p, e => e
  | n + 1, p, e => stn_clear m n (adv m p) (by unfold adv; split <;> exact e)
theorem find_from (R : NSet w s.heap a L es ep t) {r : Rw} (hr : At s.heap r) (hu : A.units + 8 < cLine) {N : Nat} (hN : N < 10 * SetTable.turns t.mask) (he : way t.mask (hsh w r) N ∉ t.place.toList)
    (hf : ∀ c, c < N → way t.mask (hsh w r) c ∈ t.place.toList) {Q : SetFound → Shared → Prop} (hin : r.2 ∈ L.map (·.2) → Q (.there none) s) (hout : r.2 ∉ L.map (·.2) → Q (.free (way t.mask (hsh w r) N) false) s) :
    ∀ (f c : Nat) (o : Option SetTable.Probe), o.getD (t.probeStart (hsh w r)) = stn t.mask (hsh w r) c → c ≤ N → N - c < f →
      (∀ (i : Nat) (p : Rw), L[i]? = some p → p.2 = r.2 → ∃ d, c ≤ d ∧ d < N ∧ t.place.toList[i]? = some (way t.mask (hsh w r) d)) → wpAny (model P w) A (setSearchFrom a (.ref r.1) (hsh w r) true f o) Q E s
  | 0, c, o, _, _, z, _ => absurd z (Nat.not_lt_zero _)
  | f + 1, c, o, e0, hc, z, al => by
    obtain ⟨ob, ho, hx, hd⟩ := R.ob
    have gw : ¬ t.gaveWay = true := by unfold SetTable.gaveWay; rw [mask_odd R.tab.mok]; decide
    rw [setSearchFrom_succ]
    refine wpAny_bind (wpAny_setState_of ho hd R.fits ?_)
    dsimp only
    refine wp_if_neg gw ?_
    try refine wpAny_bind (wpAny_pure ?_)
    have hj : ∀ q, (nth t.mask (stn t.mask (hsh w r) c) q).j = way t.mask (hsh w r) (c + q) := fun q => congrArg SetTable.Probe.j (stn_add _ _ c q)
    have sp := go_spec t R.tab.ris R.tab.dm (fun i => (es[i]?.map (·.1)).getD 0) (hsh w r) (10 * SetTable.turns t.mask) (N - c) (stn t.mask (hsh w r) c) (stn_clear _ c _ rfl) (by omega)
      (fun q hq => by rw [hj]; exact hf (c + q) (by omega)) (by rw [hj, show c + (N - c) = N from by omega]; exact he)
    have ha : ∀ (i : Nat) (p : Rw), L[i]? = some p → (es[i]?.map (·.1)).getD 0 = hsh w p := fun i p q => by rw [ent_at R.rows q]; rfl
    rcases sp with ⟨q, i, hq, hi, hh, no, pr⟩ | ⟨no, pr⟩
    · have pr : t.probe (fun i => (es[i]?.map (·.1)).getD 0) (hsh w r) (o.getD (t.probeStart (hsh w r))) = some (.candidate (way t.mask (hsh w r) (c + q)) i (stn t.mask (hsh w r) (c + (q + 1)))) := by
        rw [e0, ← hj, ← stn_add]; exact pr
      rw [pr]
      dsimp only
      rw [hj] at hi
      have hil : i < L.length := by
        have := (List.getElem?_eq_some_iff.mp hi).1
        have := R.psz
        simp at *
        omega
      obtain ⟨p, hp⟩ : ∃ p, L[i]? = some p := ⟨_, List.getElem?_eq_getElem hil⟩
      have mp : p ∈ L := List.mem_of_getElem? hp
      have on : wpAny (model P w) A (searchRest a (.ref r.1) (hsh w r) true f es t (way t.mask (hsh w r) (c + q)) i (stn t.mask (hsh w r) (c + (q + 1)))) Q E s := by
        unfold searchRest
        rw [ent_at R.rows hp]
        unfold ent
        dsimp only
        refine wpAny_bind (wpAny_holding (eq_rw (R.tup p mp) hr hu ?_))
        refine wpAny_bind (wpAny_setState_of ho hd R.fits ?_)
        dsimp only
        by_cases c2 : p.2 = r.2
        · exact wp_if_pos (by simp [c2]) (wpAny_pure (hin (List.mem_map.mpr ⟨p, mp, c2⟩)))
        · refine wp_if_neg (by simp [c2]) ?_
          try refine wpAny_bind (wpAny_pure ?_)
          rw [sameMem]
          dsimp only
          have lv : t.slot (way t.mask (hsh w r) (c + q)) = .live i := slot_live R.tab.ris hi
          have en := ent_at R.rows hp
          unfold ent at en
          simp only [if_true, lv, en]
          refine wpAny_bind (wpAny_isSame_ref_self (wpAny_bind (wpAny_pure ?_)))
          simp only [if_true]
          refine wp_if_neg (by simp [c2]) (find_from R hr hu hN he hf hin hout f (c + (q + 1)) _ rfl (by omega) (by omega) fun i0 p0 g0 k0 => ?_)
          obtain ⟨d, d1, d2, d3⟩ := al i0 p0 g0 k0
          refine ⟨d, ?_, d2, d3⟩
          by_cases d4 : c + (q + 1) ≤ d
          · exact d4
          · exfalso
            by_cases d5 : d = c + q
            · subst d5
              have l2 := slot_live R.tab.ris d3
              rw [lv] at l2
              injection l2 with l2
              subst l2
              rw [hp] at g0
              cases g0
              exact c2 k0
            · refine no (d - c) i0 (by omega) (by rw [hj, show c + (d - c) = d from by omega]; exact d3) ?_
              exact (ha i0 p0 g0).trans (congrArg (NestedKey.hash w) k0)
      by_cases ld : t.led = true
      · refine wp_if_neg (by simp [ld]) ?_
        try refine wpAny_bind (wpAny_pure ?_)
        exact on
      · refine wp_if_pos (by simp [ld]) (wpAny_bind (seen_rw hr (fun y my => ?_) ?_))
        · obtain ⟨e, me, ee⟩ := List.mem_map.mp my
          have m1 : e ∈ es ∧ e.1 = hsh w r := by simpa using me
          have m2 : e ∈ es.toList := by simpa using m1.1
          rw [R.rows] at m2
          obtain ⟨p2, q2, e2⟩ := List.mem_map.mp m2
          exact ⟨p2, by rw [← ee, ← e2]; rfl, R.tup p2 q2⟩
        · refine wp_if_neg (by decide) ?_
          try refine wpAny_bind (wpAny_pure ?_)
          exact on
    · have pr : t.probe (fun i => (es[i]?.map (·.1)).getD 0) (hsh w r) (o.getD (t.probeStart (hsh w r))) = some (.empty (way t.mask (hsh w r) N) none) := by
        have e2 : way t.mask (hsh w r) N = (nth t.mask (stn t.mask (hsh w r) c) (N - c)).j := by rw [hj, show c + (N - c) = N from by omega]
        rw [e0, e2]; exact pr
      rw [pr]
      dsimp only
      refine wpAny_pure (hout fun m => ?_)
      obtain ⟨p0, m0, k0⟩ := List.mem_map.mp m
      obtain ⟨i0, g0⟩ := List.getElem?_of_mem m0
      obtain ⟨d, d1, d2, d3⟩ := al i0 p0 g0 k0
      refine no (d - c) i0 (by omega) (by rw [hj, show c + (d - c) = d from by omega]; exact d3) ?_
      exact (ha i0 p0 g0).trans (congrArg (NestedKey.hash w) k0)
theorem find_at (R : NSet w s.heap a L es ep t) {r : Rw} (hr : At s.heap r) (hu : A.units + 8 < cLine) {Q : SetFound → Shared → Prop} (hin : r.2 ∈ L.map (·.2) → Q (.there none) s)
    (hout : ∀ N, r.2 ∉ L.map (·.2) → way t.mask (hsh w r) N ∉ t.place.toList → (∀ c, c < N → way t.mask (hsh w r) c ∈ t.place.toList) → Q (.free (way t.mask (hsh w r) N) false) s) :
    wpAny (model P w) A (setSearch a (.ref r.1) (hsh w r) true) Q E s := by
  obtain ⟨N, n1, n2, n3⟩ := R.tab.first (by have := R.room; simp; omega) (hsh w r)
  have big : N < 100000 := by
    unfold SetTable.turns at n1
    rcases R.tab.mok with e | e | e <;> rw [e] at n1 <;> omega
  unfold setSearch
  refine find_from R hr hu n1 n2 n3 hin (fun z => hout N z n2 n3) 100000 0 none rfl (Nat.zero_le _) (by omega) fun i p g e => ?_
  have g2 : (L.map (hsh w))[i]? = some (hsh w r) := by rw [List.getElem?_map, g]; exact congrArg some (congrArg (NestedKey.hash w) e)
  have hil : i < t.place.toList.length := by
    have := (List.getElem?_eq_some_iff.mp g).1
    have := R.psz
    simp at *
    omega
  have g3 := List.getElem?_eq_getElem hil
  obtain ⟨c, c1, c2⟩ := R.tab.before n2 g2 g3
  exact ⟨c, Nat.zero_le _, c1, by rw [g3, c2]⟩
end
end EVN

end
section
set_option linter.all false
set_option maxRecDepth 100000
set_option maxHeartbeats 1000000
set_option Elab.async false
/-! EV: adding to a set of tuples -/
namespace EVN
open PySem PySem.Spec PyProof.Rows L2 EVK
section
variable {P : Program} {w : World} {A : Around} {E : Value → Shared → Prop} {s : Shared} {h : Heap} {a : Addr} {L : List Rw} {es : Array (Int × Value)} {ep : Nat} {t : SetTable}
theorem pick_all {α : Type} (l : List α) : ∀ n, n ≤ l.length → (List.range n).filterMap (fun i => l[i]?) = l.take n
  | 0, _ => rfl
  | n + 1, hn => by
    have lt : n < l.length := hn
    rw [List.range_succ, List.filterMap_append, pick_all l n (Nat.le_of_lt lt), List.take_add_one, List.getElem?_eq_getElem lt]
    simp [List.getElem?_eq_getElem lt]
theorem ent_get (q : es.toList = L.map (ent w)) (i : Nat) : es[i]? = (L[i]?).map (ent w) := by
  rw [← Array.getElem?_toList, q, List.getElem?_map]
theorem laid (q : es.toList = L.map (ent w)) {order : Array Nat} (hp : order.toList.Perm (List.range L.length)) :
    ∃ L2 : List Rw, (order.filterMap (es[·]?)).toList = L2.map (ent w) ∧ L2.Perm L ∧ L2.map (hsh w) = order.toList.map fun i => (es.map (·.1)).getD i 0 := by
  refine ⟨order.toList.filterMap (fun i => L[i]?), ?_, ?_, ?_⟩
  · rw [Array.toList_filterMap, List.map_filterMap]
    exact congrArg (fun f => List.filterMap f order.toList) (funext fun i => ent_get q i)
  · have e := hp.filterMap fun i => L[i]?
    rw [pick_all L L.length (Nat.le_refl _), List.take_length] at e
    exact e
  · have lt : ∀ i ∈ order.toList, i < L.length := fun i m => List.mem_range.mp (hp.mem_iff.mp m)
    generalize order.toList = l at lt
    induction l with
    | nil => rfl
    | cons i l ih =>
      have hi := lt i List.mem_cons_self
      have e1 : (es.map (·.1)).getD i 0 = hsh w L[i] := by
        rw [Array.getD_eq_getD_getElem?, Array.getElem?_map, ent_get q, List.getElem?_eq_getElem hi]
        rfl
      rw [List.filterMap_cons_some (List.getElem?_eq_getElem hi), List.map_cons, List.map_cons, ih fun j m => lt j (List.mem_cons_of_mem _ m), e1]
/-- the table laid anew, larger -/
theorem relay {o : Obj} (ho : s.heap.get? a = some o) (hx : o.ExactSet) (hd : o.data = .set es ep t) (q : es.toList = L.map (ent w)) (z1 : t.place.size = L.length) (z2 : t.dummies = #[]) (z3 : L.length ≤ t.mask)
    (nd : (L.map (·.2)).Nodup) (tp : ∀ r ∈ L, At s.heap r) (ld : w.params.followText "set-order" = true ∨ t.led = true) (fw : L.length < 64) {wn M : Nat}
    (m1 : SetTable.sizeAbove wn - 1 = M) (m2 : MaskOk M) (m3 : SetTable.sizeAbove wn ≤ 128) (m4 : L.length * 5 < M * 3) {Q : Unit → Shared → Prop}
    (hQ : ∀ h' L' es' ep' t', Heap.SameBut a s.heap h' → NSet w h' a L' es' ep' t' → L'.Perm L → Q () { s with heap := h' }) : wpAny (model P w) A (setRelay a wn) Q E s := by
  have ln := len_of q
  obtain ⟨t', order, e, hp, T, em, el, _, ed⟩ := relaid_ok t (hs := es.map (·.1)) (wanted := wn) m1 m2 (by rw [Array.size_map, ln]; omega)
  rw [Array.size_map, ln] at hp
  obtain ⟨L2, r1, r2, r3⟩ := laid q hp
  rw [← r3] at T
  have l2 : (order.filterMap (es[·]?)).size = es.size := by rw [len_of r1, r2.length_eq, ln]
  rw [setRelay_eq]
  refine wpAny_bind (wpAny_setState_of ho hd (fits_of z1 z2 ln z3) ?_)
  dsimp only
  refine wp_if_neg (by rw [sizeLine_eq]; omega) ?_
  try refine wpAny_bind (wpAny_pure ?_)
  rw [e]
  dsimp only
  refine wpAny_bind (wp_if_neg (by rw [l2]; simp) ?_)
  try refine wpAny_bind (wpAny_pure ?_)
  refine wpAny_pure ?_
  dsimp only
  refine wpAny_storeSet_of ho hd ?_ (by rw [l2, ln, sizeLine_eq]; omega)
  have sb : Heap.SameBut a s.heap (s.heap.update a (Obj.putSet (order.filterMap (es[·]?)) t')) := Heap.SameBut.update ..
  exact hQ _ L2 _ (ep + 1) t' sb ⟨⟨_, store_at ho hd, ⟨hx.1, hx.2.1, hx.2.2⟩, rfl⟩, r1, T, (r2.map (·.2)).nodup_iff.mpr nd, fun r m => (tp r (r2.mem_iff.mp m)).beside ho hd sb, by rw [el]; exact ld, by rw [r2.length_eq, em]; exact m4, by rw [r2.length_eq]; exact fw⟩ r2
theorem put_in (L : List Rw) (p : Nat) (r : Rw) : (L.take p ++ r :: L.drop p).Perm (r :: L) := by
  have e : (L.take p ++ r :: L.drop p).Perm (r :: (L.take p ++ L.drop p)) := List.perm_middle
  rwa [List.take_append_drop] at e
/-- behind the store: the set with one more -/
theorem grown {r : Rw} {L1 : List Rw} {es1 : Array (Int × Value)} {t1 : SetTable} {o : Obj} (ho : s.heap.get? a = some o) (hx : o.ExactSet) (hd : o.data = .set es1 ep t1) (q : es1.toList = L1.map (ent w)) (T : TabOk t1 (L1.map (hsh w)))
    (nd : (L1.map (·.2)).Nodup) (tp : ∀ r ∈ L1, At s.heap r) (ld : w.params.followText "set-order" = true ∨ t1.led = true) (fw : L1.length < 64) (fl : t1.fill = L1.length) (rm : (L1.length - 1) * 5 < t1.mask * 3) (ps : 0 < L1.length) {Q : Bool → Shared → Prop}
    (hQ : ∀ h' L' es' ep' t', Heap.SameBut a s.heap h' → NSet w h' a L' es' ep' t' → L'.Perm L1 → Q true { s with heap := h' }) :
    wpAny (model P w) A (do
      if !false && t1.tooFull then setRelay a (SetTable.grown L1.length)
      return true) Q E s := by
  by_cases c : t1.tooFull = true
  · have full : L1.length * 5 ≥ t1.mask * 3 := by
      unfold SetTable.tooFull at c
      rw [decide_eq_true_eq, fl] at c
      exact c
    have two : (t1.mask = 7 ∧ L1.length = 5) ∨ (t1.mask = 31 ∧ L1.length = 19) := by
      rcases T.mok with e | e | e <;> rw [e] at full rm
      · left; exact ⟨e, by omega⟩
      · right; exact ⟨e, by omega⟩
      · omega
    have sz : t1.place.size = L1.length := by have := T.sz; simpa using this
    have go : ∀ M, SetTable.sizeAbove (SetTable.grown L1.length) - 1 = M → MaskOk M → SetTable.sizeAbove (SetTable.grown L1.length) ≤ 128 → L1.length * 5 < M * 3 → wpAny (model P w) A (setRelay a (SetTable.grown L1.length)) (fun _ z => wpAny (model P w) A (pure true) Q E z) E s := fun M g1 g2 g3 g4 =>
      relay ho hx hd q sz T.dm (by rcases two with ⟨e, e2⟩ | ⟨e, e2⟩ <;> omega) nd tp ld fw g1 g2 g3 g4 fun h' L' es' ep' t' sb R pm => wpAny_pure (hQ h' L' es' ep' t' sb R pm)
    simp only [c, Bool.not_false, Bool.and_self, if_true]
    refine wpAny_bind ?_
    rcases two with ⟨_, e2⟩ | ⟨_, e2⟩
    · exact go 31 (by rw [e2, size_20]) (.inr (.inl rfl)) (by rw [e2, size_20]; decide) (by omega)
    · exact go 127 (by rw [e2, size_76]) (.inr (.inr rfl)) (by rw [e2, size_76]; decide) (by omega)
  · have c' : t1.tooFull = false := by simpa using c
    simp only [c', Bool.and_false, Bool.false_eq_true, if_false]
    try refine wpAny_bind (wpAny_pure ?_)
    refine wpAny_pure (hQ s.heap L1 es1 ep t1 (Heap.SameBut.refl a s.heap) ⟨⟨o, ho, hx, hd⟩, q, T, nd, tp, ld, ?_, fw⟩ (List.Perm.refl _))
    unfold SetTable.tooFull at c'
    rw [decide_eq_false_iff_not, fl] at c'
    omega
theorem tab_plain {t1 : SetTable} {hs : List Int} (b : Bool) (T : TabOk t1 hs) : TabOk (if b = true then t1 else { t1 with plain := false }) hs := by
  cases b
  · exact ⟨T.ris, T.dm, T.sz, T.mok, T.bd, T.reach⟩
  · exact T
/-- adding -/
theorem add_rw (R : NSet w s.heap a L es ep t) {r : Rw} (hr : At s.heap r) (hu : A.units + 8 < cLine) (fw : L.length + 1 < 64) {Q : Bool → Shared → Prop}
    (hQ : ∀ b h' L' es' ep' t', Heap.SameBut a s.heap h' → NSet w h' a L' es' ep' t' → (r.2 ∈ L.map (·.2) → L' = L) → (r.2 ∉ L.map (·.2) → L'.Perm (r :: L)) → Q b { s with heap := h' }) :
    wpAny (model P w) A (setAddHashed a (.ref r.1) (hsh w r)) Q E s := by
  obtain ⟨o, ho, hx, hd⟩ := R.ob
  have rm := R.room
  unfold setAddHashed
  refine wpAny_holding ?_
  rw [show (100000 : Nat) = 99999 + 1 from rfl, setAddHashedIn_succ]
  refine wpAny_bind (wpAny_setState_of ho hd R.fits ?_)
  dsimp only
  refine wp_if_neg (by simp [byScan, Value.scannable]) ?_
  try refine wpAny_bind (wpAny_pure ?_)
  refine wpAny_bind (find_at R hr hu (fun m => ?_) fun N m n1 n2 => ?_)
  · dsimp only
    exact wpAny_pure (hQ false s.heap L es ep t (Heap.SameBut.refl a s.heap) R (fun _ => rfl) fun z => absurd m z)
  · dsimp only
    refine wpAny_bind (wpAny_setState_of ho hd R.fits ?_)
    dsimp only
    obtain ⟨q1, q2, q3, q4, q5, q6, q7, q8, q9⟩ := R.tab.put n1 n2
    generalize t.put (way t.mask (hsh w r) N) = pt at q1 q3 q4 q5 q6 q7 q8 q9 ⊢
    obtain ⟨t1, p⟩ := pt
    dsimp only at q1 q3 q4 q5 q6 q7 q8 q9 ⊢
    subst q1
    have pm := put_in L (SetTable.below t.place (way t.mask (hsh w r) N)) r
    have rows : (SetTable.insertAt es (SetTable.below t.place (way t.mask (hsh w r) N)) (hsh w r, Value.ref r.1)).toList = (L.take (SetTable.below t.place (way t.mask (hsh w r) N)) ++ r :: L.drop (SetTable.below t.place (way t.mask (hsh w r) N))).map (ent w) := by
      rw [SetTable.toList_insertAt, R.rows, List.map_append, List.map_cons, List.map_take, List.map_drop]
      rfl
    have hs : (L.take (SetTable.below t.place (way t.mask (hsh w r) N)) ++ r :: L.drop (SetTable.below t.place (way t.mask (hsh w r) N))).map (hsh w) = (L.map (hsh w)).take (SetTable.below t.place (way t.mask (hsh w r) N)) ++ hsh w r :: (L.map (hsh w)).drop (SetTable.below t.place (way t.mask (hsh w r) N)) := by
      rw [List.map_append, List.map_cons, List.map_take, List.map_drop]
    rw [← hs] at q3
    generalize L.take (SetTable.below t.place (way t.mask (hsh w r) N)) ++ r :: L.drop (SetTable.below t.place (way t.mask (hsh w r) N)) = L1 at pm rows q3
    generalize SetTable.insertAt es (SetTable.below t.place (way t.mask (hsh w r) N)) (hsh w r, Value.ref r.1) = es1 at rows ⊢
    have ln : L1.length = L.length + 1 := pm.length_eq
    have le := len_of rows
    have fin : ∀ b : Bool, wpAny (model P w) A (do
        storeSet a es1 (if b = true then t1 else { t1 with plain := false })
        if !false && (if b = true then t1 else { t1 with plain := false }).tooFull then setRelay a (SetTable.grown (es.size + 1))
        return true) Q E s := fun b => by
      have T := tab_plain b q3
      have e1 : (if b = true then t1 else { t1 with plain := false }).led = t.led := by cases b <;> exact q5
      have e2 : (if b = true then t1 else { t1 with plain := false }).mask = t.mask := by cases b <;> exact q4
      have e3 : (if b = true then t1 else { t1 with plain := false }).fill = L.length + 1 := by cases b <;> (refine Eq.trans ?_ (q9.trans (by simp)); rfl)
      generalize (if b = true then t1 else { t1 with plain := false }) = t2 at T e1 e2 e3 ⊢
      refine wpAny_bind (wpAny_storeSet_of ho hd ?_ (by rw [le, ln, sizeLine_eq]; omega))
      have sb : Heap.SameBut a s.heap (s.heap.update a (Obj.putSet es1 t2)) := Heap.SameBut.update ..
      have ho1 := store_at (es' := es1) (t' := t2) ho hd
      generalize s.heap.update a (Obj.putSet es1 t2) = h1 at sb ho1 ⊢
      rw [R.len, ← ln]
      refine grown (r := r) (s := { s with heap := h1 }) ho1 ⟨hx.1, hx.2.1, hx.2.2⟩ rfl rows T ((pm.map (·.2)).nodup_iff.mpr ?_) (fun u mu => ?_) (by rw [e1]; exact R.led) (by omega) (by rw [e3, ln]) (by rw [e2, ln]; omega) (by omega) fun h' L' es' ep' t' sb2 R2 pm2 => hQ true h' L' es' ep' t' (sb.trans sb2) R2 (fun z => absurd z m) fun _ => pm2.trans pm
      · rw [List.map_cons]; exact List.nodup_cons.mpr ⟨m, R.nd⟩
      · rcases List.mem_cons.mp (pm.mem_iff.mp mu) with rfl | mu
        · exact hr.beside ho hd sb
        · exact (R.tup u mu).beside ho hd sb
    by_cases pl : t1.plain = true
    · first
        | (refine wpAny_bind ?_; refine wp_if_pos pl ?_; exact byVal_key _ _ 8 s hr.is hr.deep _ _ _ fun b => fin b)
        | exact wp_if_pos pl (wpAny_bind (byVal_key _ _ 8 s hr.is hr.deep _ _ _ fun b => fin b))
    · first
        | (refine wpAny_bind ?_; refine wp_if_neg pl ?_; exact wpAny_pure (fin true))
        | exact wp_if_neg pl (wpAny_bind (wpAny_pure (fin true)))
end
end EVN

end
section
set_option linter.all false
set_option maxRecDepth 100000
set_option maxHeartbeats 1000000
set_option Elab.async false
/-! EV: sets of texts; set(x) of texts, of tuples -/
namespace EVN
open PySem PySem.Spec PyProof.Rows L2 EVK
def txt (e : Int × Value) : Str := match e.2 with
  | .str x _ => x
  | _ => Str.empty
def gTx (w : World) (e : Int × Value) : Prop := ∃ x t, e = (hashStr w x, Value.str x t)
/-- the set at a holds the texts xs -/
structure TSet (w : World) (h : Heap) (a : Addr) (xs : List Str) (es : Array (Int × Value)) (ep : Nat) (t : SetTable) : Prop where
  ob : ∃ o, h.get? a = some o ∧ o.ExactSet ∧ o.data = .set es ep t
  good : ∀ e ∈ es.toList, gTx w e
  nd : (es.toList.map txt).Nodup
  mem : ∀ x, x ∈ es.toList.map txt ↔ x ∈ xs
  fits : t.fits es.size = true
  ris : Ris t.place.toList
  led : w.params.followText "set-order" = true ∨ t.led = true
section
variable {P : Program} {w : World} {A : Around} {E : Value → Shared → Prop} {s : Shared} {h : Heap} {a : Addr} {xs : List Str} {es : Array (Int × Value)} {ep : Nat} {t : SetTable}
theorem gTx.el {l : List (Int × Value)} (g : ∀ e ∈ l, gTx w e) : ElemsOf (strKind P w) l := fun e m => by
  obtain ⟨x, u, rfl⟩ := g e m
  exact ⟨⟨x, by show Value.isStrOf x (.str x u) = true; simp [Value.isStrOf], rfl⟩, rfl⟩
theorem gTx.is {e : Int × Value} (g : gTx w e) (x : Str) : (strKind P w).is x e.2 = true ↔ txt e = x := by
  obtain ⟨y, u, rfl⟩ := g
  show Value.isStrOf x (.str y u) = true ↔ y = x
  unfold Value.isStrOf
  exact beq_iff_eq
theorem stored {o : Obj} {es1 : Array (Int × Value)} {t1 : SetTable} {wd : Bool} {gv : Bool → Sem Unit} (hg : ∀ (b : Bool) (z : Shared) (Q : Unit → Shared → Prop), Q () z → wpAny (model P w) A (gv b) Q E z) (ho : s.heap.get? a = some o) (hx : o.ExactSet) (hd : o.data = .set es ep t)
    (good : ∀ e ∈ es1.toList, gTx w e) (nd : (es1.toList.map txt).Nodup) (mem : ∀ x, x ∈ es1.toList.map txt ↔ x ∈ xs) (fit : t1.fits es1.size = true) (ris : Ris t1.place.toList) (led : w.params.followText "set-order" = true ∨ t1.led = true) (bd : es1.size < scanBound)
    {R : Option Bool → Shared → Prop} (hR : ∀ h' es' ep' t', Heap.SameBut a s.heap h' → es'.size = es1.size → TSet w h' a xs es' ep' t' → R (some true) { s with heap := h' }) :
    wpAny (model P w) A (do
      storeSet a es1 t1
      if (!wd && t1.tooFull) = true then do
          gv (relayAll t1 es1 (SetTable.grown es1.size)).2.2
          storeSet a (relayAll t1 es1 (SetTable.grown es1.size)).1 (relayAll t1 es1 (SetTable.grown es1.size)).2.1
          pure (some true)
        else pure (some true)) R E s := by
  refine wpAny_bind (wpAny_storeSet_of ho hd ?_ (fits_of_scanBound bd))
  have o1 := store_at (es' := es1) (t' := t1) ho hd
  have sb := Heap.SameBut.update s.heap a (Obj.putSet es1 t1)
  split
  · have pm := relayAll_perm t1 es1 (SetTable.grown es1.size)
    have f3 := relayAll_fits t1 es1 (SetTable.grown es1.size)
    have r3 := relayAll_ris t1 es1 (SetTable.grown es1.size)
    have l3 := relayAll_led t1 es1 (SetTable.grown es1.size)
    generalize relayAll t1 es1 (SetTable.grown es1.size) = Z at pm f3 r3 l3 ⊢
    obtain ⟨es2, t2, gave⟩ := Z
    dsimp only at pm f3 r3 l3 ⊢
    have sz : es2.size = es1.size := by have := pm.length_eq; simpa using this
    refine wpAny_bind (hg _ _ _ ?_)
    refine wpAny_bind (wpAny_storeSet_of o1 rfl ?_ (fits_of_scanBound (by rw [sz]; exact bd)))
    have o2 := store_at (es' := es2) (t' := t2) o1 rfl
    exact wpAny_pure (hR _ es2 _ t2 (sb.trans (Heap.SameBut.update _ a _)) sz ⟨⟨_, o2, hx, rfl⟩, fun e m => good e (pm.mem_iff.mp m), (pm.map txt).nodup_iff.mpr nd, fun x => (pm.map txt).mem_iff.trans (mem x), f3, r3, led.imp id fun z => by rw [l3]; exact z⟩)
  · exact wpAny_pure (hR _ es1 _ t1 sb rfl ⟨⟨_, o1, hx, rfl⟩, good, nd, mem, fit, ris, led⟩)
theorem add_tx (R : TSet w s.heap a xs es ep t) {x : Str} {u : Tok} (bd : es.size + 1 < scanBound) {Q : Bool → Shared → Prop}
    (hQ : ∀ b h' es' ep' t', Heap.SameBut a s.heap h' → es'.size ≤ es.size + 1 → TSet w h' a (xs ++ [x]) es' ep' t' → Q b { s with heap := h' }) : wpAny (model P w) A (setAddHashed a (.str x u) (hashStr w x)) Q E s := by
  obtain ⟨o, ho, hx, hd⟩ := R.ob
  have ky : (strKind P w).is x (.str x u) = true := by show Value.isStrOf x (.str x u) = true; simp [Value.isStrOf]
  have el : ElemsOf (strKind P w) es.toList := gTx.el R.good
  unfold setAddHashed setAddHashedIn
  refine wpAny_holding (wpAny_bind (wpAny_setState_of ho hd R.fits ?_))
  dsimp only
  rw [byScan_of (show (Value.str x u).scannable = true from rfl) (show es.size < scanBound from by omega) el]
  simp only [↓reduceIte]
  unfold setAddByScan
  refine wpAny_bind (wpAny_bind (wpAny_rule ?_))
  refine wpAny_bind (wpAny_setScan_of ky ho hd R.fits el ?_)
  cases hf : List.findIdx? (fun e => (strKind P w).is x e.2) es.toList with
  | some j =>
    dsimp only
    obtain ⟨hj, pj, _⟩ := List.findIdx?_eq_some_iff_getElem.mp hf
    have mj : es.toList[j] ∈ es.toList := List.getElem_mem hj
    have mx : x ∈ es.toList.map txt := List.mem_map.mpr ⟨_, mj, ((R.good _ mj).is x).mp pj⟩
    refine wpAny_pure (wpAny_pure (hQ _ s.heap es ep t (Heap.SameBut.refl a s.heap) (Nat.le_succ _) ⟨R.ob, R.good, R.nd, fun y => ?_, R.fits, R.ris, R.led⟩))
    rw [R.mem, List.mem_append, List.mem_singleton]
    exact ⟨.inl, fun z => z.elim id fun e => e ▸ (R.mem x).mp mx⟩
  | none =>
    dsimp only
    have nx : x ∉ es.toList.map txt := fun z => by
      obtain ⟨e, m, q⟩ := List.mem_map.mp z
      have c := List.findIdx?_eq_none_iff.mp hf e m
      rw [((R.good e m).is x).mpr q] at c
      cases c
    have gw : ∀ (b : Bool) (z : Shared) (Q' : Unit → Shared → Prop), Q' () z → wpAny (model P w) A (match b with | true => rule "set.scan.the-table-gave-way" | false => pure ()) Q' E z := fun b z Q' q => by
      cases b
      · exact wpAny_pure q
      · exact wpAny_rule q
    have pm := layNew_perm t es (hashStr w x) (.str x u)
    have f1 := layNew_fits t es (hashStr w x) (.str x u)
    have r1 := layNew_ris t es (hashStr w x) (.str x u) R.ris
    have l1 := layNew_led t es (hashStr w x) (.str x u)
    show wpAny _ _ _ _ _ _
    change wpAny _ _ (_ >>= _) _ _ _
    have hh : (strKind P w).hash x = hashStr w x := rfl
    generalize layNew t es (hashStr w x) (.str x u) = Z at pm f1 r1 l1 ⊢
    obtain ⟨es1, t1, wd, gave⟩ := Z
    dsimp only at pm f1 r1 l1 ⊢
    rw [Array.toList_push] at pm
    have pc : es1.toList.Perm ((hashStr w x, Value.str x u) :: es.toList) := pm.trans (List.perm_append_singleton _ _)
    have good : ∀ e ∈ es1.toList, gTx w e := fun e m => by
      rcases List.mem_cons.mp (pc.mem_iff.mp m) with rfl | m
      · exact ⟨x, u, rfl⟩
      · exact R.good e m
    have pk : (es1.toList.map txt).Perm (x :: es.toList.map txt) := pc.map txt
    have mem : ∀ y, y ∈ es1.toList.map txt ↔ y ∈ xs ++ [x] := fun y => by
      rw [pk.mem_iff, List.mem_cons, R.mem, List.mem_append, List.mem_singleton]
      exact Or.comm
    have sz : es1.size = es.size + 1 := by have := pc.length_eq; simpa using this
    have led : w.params.followText "set-order" = true ∨ t1.led = true := R.led.imp id fun z => by rw [l1]; exact z
    have nd : (es1.toList.map txt).Nodup := pk.nodup_iff.mpr (List.nodup_cons.mpr ⟨nx, R.nd⟩)
    refine wpAny_bind (gw _ _ _ ?_)
    split
    · refine wpAny_bind ?_
      rw [hashByValue_scannable 8 (show (Value.str x u).scannable = true from rfl)]
      refine wpAny_pure ?_
      refine stored gw ho hx hd good nd mem ?_ ?_ ?_ (by omega) fun h' es' ep' t' sb e1 T => wpAny_pure (hQ _ h' es' ep' t' sb (by omega) T)
      · first | (split <;> first | exact f1 | exact SetTable.fits_plain_off f1) | exact f1
      · first | (split <;> exact r1) | exact r1
      · first | (split <;> exact led) | exact led
    · refine wpAny_bind (wpAny_pure ?_)
      simp only [↓reduceIte]
      exact stored gw ho hx hd good nd mem f1 r1 led (by omega) fun h' es' ep' t' sb e1 T => wpAny_pure (hQ _ h' es' ep' t' sb (by omega) T)
end
end EVN

end
section
set_option linter.all false
set_option maxRecDepth 100000
set_option maxHeartbeats 1000000
set_option Elab.async false
/-! EV: set(x) of texts, of tuples; keys of data -/
namespace EVN
open PySem PySem.Spec PyProof.Rows L2 EVK
section
variable {P : Program} {w : World} {A : Around} {E : Value → Shared → Prop} {s : Shared}
theorem takes_txts {S : Addr} {h0 : Heap} {items : Array Value} {U : List (Str × Tok)} (hit : items.toList = U.map fun p => Value.str p.1 p.2) (bd : U.length + 1 < scanBound) :
    Takes P w A S h0 items.size (fun i v => items[i]? = some v) (fun i h => ∃ es ep t, TSet w h S ((U.map (·.1)).take i) es ep t ∧ es.size ≤ i) where
  keep := fun i h h' ⟨es, ep, t, T, z⟩ k _ => by
    obtain ⟨o, ho, r⟩ := T.ob
    exact ⟨es, ep, t, ⟨⟨o, k o ho, r⟩, T.good, T.nd, T.mem, T.fits, T.ris, T.led⟩, z⟩
  add := by
    intro i v s Q E hi hv ⟨es, ep, t, T, z⟩ _ hQ
    have e : items.toList[i]? = some v := by rw [Array.getElem?_toList]; exact hv
    rw [hit, List.getElem?_map] at e
    obtain ⟨p, hp, rfl⟩ := Option.map_eq_some_iff.mp e
    have lt := (List.getElem?_eq_some_iff.mp hp).1
    unfold setAdd
    refine wpAny_holding (wpAny_bind (wpAny_pyHash_str ?_))
    refine add_tx (s := { s with toks := s.toks + 1 }) T (by omega) fun b h' es' ep' t' sb le T' => hQ b h' _ sb (Nat.le_succ _) ⟨es', ep', t', ?_, by omega⟩
    rw [List.take_add_one, List.getElem?_map, hp]
    exact T'
/-- what the set has got of the first i -/
structure GotR (ks : List Rw) (i : Nat) (L : List Rw) : Prop where
  sub : ∀ p ∈ L, p ∈ ks
  all : ∀ p ∈ ks.take i, p.2 ∈ L.map (·.2)
  len : L.length ≤ i
theorem takes_rws {S : Addr} {h0 : Heap} {items : Array Value} {ks : List Rw} (hit : items.toList = ks.map fun p => Value.ref p.1) (hk : ∀ p ∈ ks, At h0 p) (fw : ks.length < 64) (hu : A.units + 8 < cLine) :
    Takes P w A S h0 items.size (fun i v => items[i]? = some v) (fun i h => ∃ L es ep t, NSet w h S L es ep t ∧ GotR ks i L) where
  keep := fun i h h' ⟨L, es, ep, t, R, g⟩ k k0 => by
    obtain ⟨o, ho, r⟩ := R.ob
    exact ⟨L, es, ep, t, ⟨⟨o, k o ho, r⟩, R.rows, R.tab, R.nd, fun p m => (hk p (g.sub p m)).keep k0, R.led, R.room, R.few⟩, g⟩
  add := by
    intro i v s Q E hi hv ⟨L, es, ep, t, R, g⟩ k0 hQ
    have e : items.toList[i]? = some v := by rw [Array.getElem?_toList]; exact hv
    rw [hit, List.getElem?_map] at e
    obtain ⟨p, hp, rfl⟩ := Option.map_eq_some_iff.mp e
    have lt := (List.getElem?_eq_some_iff.mp hp).1
    have mp : p ∈ ks := List.mem_of_getElem? hp
    have ap : At s.heap p := (hk p mp).keep k0
    unfold setAdd
    refine wpAny_holding (wpAny_bind (pyHash_key p.2 _ A s _ ap.is (by have := ap.deep; omega) ?_))
    refine add_rw (s := { s with toks := s.toks + p.2.draws }) R ap hu (by have := g.len; omega) fun b h' L' es' ep' t' sb R' c1 c2 => hQ b h' _ sb (Nat.le_add_right _ _) ⟨L', es', ep', t', R', ?_⟩
    have tk : ks.take (i + 1) = ks.take i ++ [p] := by rw [List.take_add_one, hp]; rfl
    by_cases c : p.2 ∈ L.map (·.2)
    · rw [c1 c]
      refine ⟨g.sub, fun q m => ?_, Nat.le_succ_of_le g.len⟩
      rw [tk] at m
      rcases List.mem_append.mp m with m | m
      · exact g.all q m
      · rw [List.mem_singleton.mp m]; exact c
    · have pm := c2 c
      refine ⟨fun q m => ?_, fun q m => ?_, by rw [pm.length_eq]; exact Nat.succ_le_succ g.len⟩
      · rcases List.mem_cons.mp (pm.mem_iff.mp m) with rfl | m
        · exact mp
        · exact g.sub q m
      · rw [(pm.map (·.2)).mem_iff, List.map_cons]
        rw [tk] at m
        rcases List.mem_append.mp m with m | m
        · exact List.mem_cons_of_mem _ (g.all q m)
        · rw [List.mem_singleton.mp m]; exact List.mem_cons_self
theorem vals_good {l : List (Int × Value)} (g : ∀ e ∈ l, gTx w e) : ∃ U : List (Str × Tok), l.map (·.2) = U.map (fun p => Value.str p.1 p.2) ∧ l.map txt = U.map (·.1) := by
  induction l with
  | nil => exact ⟨[], rfl, rfl⟩
  | cons e l ih =>
    obtain ⟨U, e1, e2⟩ := ih fun x m => g x (List.mem_cons_of_mem _ m)
    obtain ⟨x, u, rfl⟩ := g e List.mem_cons_self
    exact ⟨(x, u) :: U, by simp [e1], by simp [e2, txt]⟩
theorem call_set_txts {l : Addr} {items : Array Value} {U : List (Str × Tok)} {Q : Value → Shared → Prop} (tp : Bool) (hh : A.handled = none) (hl : Src s.heap l items tp) (hit : items.toList = U.map fun p => Value.str p.1 p.2) (bd : U.length + 1 < scanBound)
    (h : ∀ (h' : Heap) (tk : Nat) (V : List (Str × Tok)), SetV w (V.map fun p => Value.str p.1 p.2) h' s.heap.objs.size → (V.map (·.1)).Nodup → (∀ x, x ∈ V.map (·.1) ↔ x ∈ U.map (·.1)) → (∀ b o, s.heap.get? b = some o → h'.get? b = some o) → Q (.ref s.heap.objs.size) { s with heap := h', toks := tk }) :
    wpAny (model P w) A (call (.type "set") [.ref l]) Q E s := by
  have ln : items.size = U.length := by have q := congrArg List.length hit; simpa using q
  refine call_set tp hh hl (takes_txts hit bd) (fun h1 g => ⟨#[], 0, _, ⟨⟨_, g, ⟨rfl, rfl, rfl⟩, rfl⟩, fun e m => (by simp at m), (by simp), fun x => (by simp), rfl, List.Pairwise.nil, ?_⟩, Nat.le_refl _⟩) fun h' tk ⟨es, ep, t, T, z⟩ k => ?_
  · show _ ∨ (!w.params.followText "set-order") = true
    cases w.params.followText "set-order" <;> simp
  · obtain ⟨V, e1, e2⟩ := vals_good T.good
    obtain ⟨o, ho, hx, hd⟩ := T.ob
    refine h h' tk V ⟨es, ep, t, ⟨o, ho, hx.1, hd⟩, T.fits, by omega, T.ris, T.led, e1⟩ (by rw [← e2]; exact T.nd) (fun x => ?_) k
    rw [← e2, T.mem, List.take_of_length_le (by simp; omega)]
theorem call_set_rws {l : Addr} {items : Array Value} {ks : List Rw} {Q : Value → Shared → Prop} (tp : Bool) (hh : A.handled = none) (hl : Src s.heap l items tp) (hit : items.toList = ks.map fun p => Value.ref p.1) (hk : ∀ p ∈ ks, At s.heap p) (fw : ks.length < 64) (hu : A.units + 11 < cLine)
    (h : ∀ (h' : Heap) (tk : Nat) (L : List Rw), SetV w (L.map fun p => Value.ref p.1) h' s.heap.objs.size → (L.map (·.2)).Nodup → (∀ p ∈ L, p ∈ ks) → (∀ p ∈ ks, p.2 ∈ L.map (·.2)) → (∀ b o, s.heap.get? b = some o → h'.get? b = some o) → Q (.ref s.heap.objs.size) { s with heap := h', toks := tk }) :
    wpAny (model P w) A (call (.type "set") [.ref l]) Q E s := by
  have ln : items.size = ks.length := by have q := congrArg List.length hit; simpa using q
  refine call_set tp hh hl (takes_rws hit hk fw (by show A.units + 1 + 1 + 1 + 8 < cLine; omega)) (fun h1 g => ⟨[], #[], 0, _, ⟨⟨_, g, ⟨rfl, rfl, rfl⟩, rfl⟩, rfl, (setTR_fresh (P := P) g).tab, List.nodup_nil, fun p m => (nomatch m), (setTR_fresh (P := P) g).led, (setTR_fresh (P := P) g).room, (setTR_fresh (P := P) g).few⟩, ⟨fun p m => (nomatch m), fun p m => (by simp at m), Nat.le_refl _⟩⟩) fun h' tk ⟨L, es, ep, t, R, g⟩ k => ?_
  obtain ⟨o, ho, hx, hd⟩ := R.ob
  have := R.few
  have := R.len
  refine h h' tk L ⟨es, ep, t, ⟨o, ho, hx.1, hd⟩, R.fits, by unfold scanBound; omega, R.tab.ris, R.led, ?_⟩ R.nd g.sub (fun p m => g.all p (by rw [List.take_of_length_le (by omega)]; exact m)) k
  rw [R.rows, List.map_map]
  rfl
end
end EVN
namespace EV
open PySem PyProof.Rows
/-! ### data as keys -/
mutual
def key : D → NestedKey
  | .int i => .num i
  | .str x => .text x
  | .tuple xs => .tup (keys xs)
  | .none | .bool _ | .list _ | .dict _ => .none
def keys : List D → List NestedKey
  | [] => []
  | x :: xs => key x :: keys xs
end
mutual
theorem key_inj : ∀ (x y : D), keyed x = true → keyed y = true → key x = key y → x = y
  | .int i, y, _, hy, e => by cases y <;> first | (cases hy; done) | (cases e; rfl) | (cases e; done)
  | .str i, y, _, hy, e => by cases y <;> first | (cases hy; done) | (cases e; rfl) | (cases e; done)
  | .tuple xs, y, hx, hy, e => by
    cases y with
    | tuple ys =>
      have e : NestedKey.tup (keys xs) = .tup (keys ys) := e
      injection e with e
      rw [keys_inj xs ys hx hy e]
    | int _ => cases e
    | str _ => cases e
    | _ => cases hy
  | .none, _, h, _, _ => nomatch h
  | .bool _, _, h, _, _ => nomatch h
  | .list _, _, h, _, _ => nomatch h
  | .dict _, _, h, _, _ => nomatch h
theorem keys_inj : ∀ (xs ys : List D), keyeds xs = true → keyeds ys = true → keys xs = keys ys → xs = ys
  | [], [], _, _, _ => rfl
  | [], _ :: _, _, _, e => nomatch e
  | _ :: _, [], _, _, e => nomatch e
  | x :: xs, y :: ys, hx, hy, e => by
    have hx : (keyed x && keyeds xs) = true := hx
    have hy : (keyed y && keyeds ys) = true := hy
    rw [Bool.and_eq_true] at hx hy
    have e : key x :: keys xs = key y :: keys ys := e
    injection e with e1 e2
    rw [key_inj x y hx.1 hy.1 e1, keys_inj xs ys hx.2 hy.2 e2]
end
mutual
theorem key_depth : ∀ x : D, keyed x = true → (key x).depth ≤ x.depth
  | .int _, _ => by simp [key, NestedKey.depth]
  | .str _, _ => by simp [key, NestedKey.depth]
  | .tuple xs, h => by
    have := keys_depth xs h
    simp only [key, NestedKey.depth, PyData.depth]
    omega
  | .none, h => nomatch h
  | .bool _, h => nomatch h
  | .list _, h => nomatch h
  | .dict _, h => nomatch h
theorem keys_depth : ∀ xs : List D, keyeds xs = true → NestedKey.depthAll (keys xs) ≤ PyData.depthAll xs
  | [], _ => by simp [keys, NestedKey.depthAll]
  | x :: xs, h => by
    have h : (keyed x && keyeds xs) = true := h
    rw [Bool.and_eq_true] at h
    have h1 := key_depth x h.1
    have h2 := keys_depth xs h.2
    simp only [keys, NestedKey.depthAll, PyData.depthAll]
    omega
end
mutual
theorem reads_key {h : Heap} : ∀ (d : D) (u : Value) (as : List Addr), keyed d = true → Reads h u d as → NestedIs h (key d) u
  | .int _, _, _, _, r => by cases r; exact .int _ _
  | .str _, _, _, _, r => by cases r; exact .text _ _
  | .tuple xs, _, _, hk, r => by
    cases r with
    | tuple h1 h2 h3 h4 => exact .tup h1 h2 h3 (reads_keys xs _ _ hk h4)
  | .none, _, _, h, _ => nomatch h
  | .bool _, _, _, h, _ => nomatch h
  | .list _, _, _, h, _ => nomatch h
  | .dict _, _, _, h, _ => nomatch h
theorem reads_keys {h : Heap} : ∀ (ds : List D) (us : List Value) (as : List Addr), keyeds ds = true → ReadsAll h us ds as → NestedAll h (keys ds) us
  | [], _, _, _, r => by cases r; exact .nil
  | d :: ds, _, _, hk, r => by
    have hk : (keyed d && keyeds ds) = true := hk
    rw [Bool.and_eq_true] at hk
    cases r with
    | cons h1 h2 => exact .cons (reads_key d _ _ hk.1 h1) (reads_keys ds _ _ hk.2 h2)
end
/-! ### the order of keys is total -/
mutual
theorem toks_inj : ∀ (x y : D) (l m : List (Int ⊕ List Nat)), keyed x = true → keyed y = true → W.alike x y = true → W.keyToks x ++ l = W.keyToks y ++ m → x = y ∧ l = m
  | .int i, y, l, m, _, hy, ha, e => by
    cases y with
    | int j => simp [W.keyToks] at e; exact ⟨by rw [e.1], e.2⟩
    | _ => simp [W.alike] at ha
  | .str i, y, l, m, _, hy, ha, e => by
    cases y with
    | str j =>
      simp [W.keyToks] at e
      have e1 : i = j := W.str_of_cps (by simpa using e.1)
      exact ⟨by rw [e1], e.2⟩
    | _ => simp [W.alike] at ha
  | .tuple xs, y, l, m, hx, hy, ha, e => by
    cases y with
    | tuple ys =>
      rw [W.keyToks, W.keyToks] at e
      rw [W.alike] at ha
      obtain ⟨h1, h2⟩ := tokss_inj xs ys l m hx hy ha e
      exact ⟨by rw [h1], h2⟩
    | _ => simp [W.alike] at ha
  | .none, _, _, _, h, _, _, _ => nomatch h
  | .bool _, _, _, _, h, _, _, _ => nomatch h
  | .list _, _, _, _, h, _, _, _ => nomatch h
  | .dict _, _, _, _, h, _, _, _ => nomatch h
theorem tokss_inj : ∀ (xs ys : List D) (l m : List (Int ⊕ List Nat)), keyeds xs = true → keyeds ys = true → W.alikeAll xs ys = true → W.keyToksAll xs ++ l = W.keyToksAll ys ++ m → xs = ys ∧ l = m
  | [], [], l, m, _, _, _, e => by simp [W.keyToksAll] at e; exact ⟨rfl, e⟩
  | [], y :: ys, l, m, _, _, _, e => by simp [W.keyToksAll] at e
  | x :: xs, [], l, m, _, _, _, e => by simp [W.keyToksAll] at e
  | x :: xs, y :: ys, l, m, hx, hy, ha, e => by
    have hx : (keyed x && keyeds xs) = true := hx
    have hy : (keyed y && keyeds ys) = true := hy
    rw [Bool.and_eq_true] at hx hy
    obtain ⟨a1, a2⟩ := W.alike_all_cons ha
    rw [W.toks_all_cons, W.toks_all_cons, List.cons_append, List.cons_append, List.append_assoc, List.append_assoc] at e
    injection e with _ e
    obtain ⟨h1, h2⟩ := toks_inj x y _ _ hx.1 hy.1 a1 e
    obtain ⟨h3, h4⟩ := tokss_inj xs ys _ _ hx.2 hy.2 a2 h2
    exact ⟨by rw [h1, h3], h4⟩
end
theorem tot_keyed {xs : List D} (hk : ∀ x ∈ xs, keyed x = true) (ha : ∀ x ∈ xs, ∀ y ∈ xs, W.alike x y = true) : Tot xs := fun x hx y hy h1 h2 => by
  have e : W.keyToks x = W.keyToks y := lex_total (O := itemOrd) _ _ h1 h2
  exact (toks_inj x y [] [] (hk x hx) (hk y hy) (ha x hx y hy) (by rw [e])).1
end EV

end
section
set_option linter.all false
set_option maxRecDepth 100000
set_option Elab.async false
/-! EV: sum(xs, []), xs a list of lists -/
namespace EVM
open PySem PyProof.Rows
section
variable {P : Program} {w : World} {A : Around} {E : Value → Shared → Prop} {s : Shared}
abbrev lob (xs : List Value) (c : Nat) : Obj := { cls := .type "list", dict := none, data := .seq xs.toArray c, slots := #[] }
def Kp (h h' : Heap) : Prop := ∀ b o, h.get? b = some o → h'.get? b = some o
theorem loop {I : Addr} {fp wr : List Addr} {G : Array GenState → Array GenState → Prop} {n : Nat} {Pv : Nat → Value → Prop} {St : Nat → Shared → Prop} {R : Result → Shared → Prop} {h0 : Heap}
    (W : WalksS P w A.in1 I fp wr G n Pv St) (S : Addr) (hSf : S ∉ fp) (hS0 : h0.objs.size ≤ S) (hw0 : ∀ b ∈ wr, h0.objs.size ≤ b) (xss : List (List Value)) (hn : n = xss.length)
    (hval : ∀ i v, Pv i v → ∃ b xs c, xss[i]? = some xs ∧ v = .ref b ∧ h0.get? b = some (lob xs c)) (hfp : ∀ b ∈ fp, b < S) :
    ∀ (k i : Nat) (s : Shared) (T : Addr) (c ct : Nat) (pre : List Value), n - i = k → i ≤ n → St i s → Kp h0 s.heap → S < s.heap.objs.size → T ≠ S → T ∉ wr → s.heap.get? S = some (lob [.ref T] c) → s.heap.get? T = some (lob pre ct) →
      pre.length + (xss.drop i).flatten.length ≤ sizeLine →
      (∀ s' T' c', Moved (S :: wr) G s s' → Kp h0 s'.heap → s'.heap.get? T' = some (lob (pre ++ (xss.drop i).flatten) c') → (T' = T ∧ i = n ∨ h0.objs.size ≤ T') → R (.ok (.ret (.ref T'))) s') →
      codeAny (model P w) A (.builtin "sum.loop" ⟨[.ref I, .ref S, rawInt 2, rawInt 0], []⟩) R s := by
  have nw : S ∉ wr := fun z => hSf (W.sub _ z)
  have up : ∀ b ∈ wr, b ∈ S :: wr := fun b z => List.mem_cons_of_mem _ z
  have kp : ∀ {s s' : Shared}, Moved wr G s s' → Kp h0 s.heap → Kp h0 s'.heap := fun m q b o e =>
    m.heap b o (fun z => absurd (Nat.lt_of_lt_of_le (Heap.lt_size e) (hw0 b z)) (Nat.lt_irrefl _)) (q b o e)
  intro k
  induction k with
  | zero =>
    intro i s T c ct pre hk hi hst hkp hSz hTS hTw hS hT hL hR
    obtain rfl : i = n := by omega
    refine codeAny_builtin F.entry_sum_loop ?_
    rw [Around.under_plainId F.plain_sum_loop _]
    show wpAny _ A.in1 (seqItems? (.ref S) >>= _) _ _ s
    refine wpAny_bind (wpAny_seqItems hS rfl ?_)
    show wpAny _ A.in1 (tryCatch (pyNext (.ref I)) _ >>= _) _ _ s
    refine wpAny_bind (wpAny_tryCatch (W.done s _ _ hst fun s1 m => ?_))
    have e : (xss.drop i).flatten = [] := by rw [List.drop_of_length_le (by omega)]; rfl
    refine wpAny_pure (hR s1 T ct (m.mono up) (kp m hkp) ?_ (.inl ⟨rfl, rfl⟩))
    rw [e, List.append_nil]
    exact m.heap T _ hTw hT
  | succ k ih =>
    intro i s T c ct pre hk hi hst hkp hSz hTS hTw hS hT hL hR
    have lt : i < n := by omega
    refine codeAny_builtin F.entry_sum_loop ?_
    rw [Around.under_plainId F.plain_sum_loop _]
    show wpAny _ A.in1 (seqItems? (.ref S) >>= _) _ _ s
    refine wpAny_bind (wpAny_seqItems hS rfl ?_)
    show wpAny _ A.in1 (tryCatch (pyNext (.ref I)) _ >>= _) _ _ s
    refine wpAny_bind (wpAny_tryCatch (W.item i s _ _ lt hst fun v s1 hv st1 m => ?_))
    obtain ⟨b, xs, cb, e1, rfl, hb⟩ := hval i v hv
    have S1 := m.heap S _ nw hS
    have T1 := m.heap T _ hTw hT
    have K1 := kp m hkp
    have B1 := K1 b _ hb
    have dr : xss.drop i = xs :: xss.drop (i + 1) := by
      rw [List.drop_eq_getElem_cons (by omega)]
      congr 1
      exact (List.getElem?_eq_some_iff.mp e1).2
    rw [dr, List.flatten_cons, List.length_append] at hL
    show wpAny _ A.in1 ((holding [Value.ref b] (binaryOp .Add (.ref T) (.ref b))).attempt >>= _) _ _ _
    refine wpAny_bind (wpAny_attempt (wpAny_holding (PySem.P.add_list T1 B1 ?_ (by rw [List.size_toArray, List.size_toArray]; omega))))
    have ea : pre.toArray ++ xs.toArray = (pre ++ xs).toArray := by simp
    rw [ea]
    have sl : S < s1.heap.objs.size := Heap.lt_size S1
    have S2 : (s1.heap.push (lob (pre ++ xs) 0)).get? S = some (lob [.ref T] c) := Heap.get?_push_of_some _ S1
    show wpAny _ A.in1 (updateSeq S (fun _ => #[.ref s1.heap.objs.size]) >>= _) _ _ _
    refine wpAny_bind (wpAny_updateSeq S2 rfl ?_)
    have S3 := Heap.get?_update_self (Obj.mapSeq fun _ => #[Value.ref s1.heap.objs.size]) S2 rfl
    refine wpAny_bind (wpAny_letGo ?_)
    refine wpAny_bind (wpAny_updateSeq S3 rfl (wpAny_pure ⟨plainId_quiet F.plain_sum_loop _, ?_⟩))
    have up2 : ∀ b o, b ≠ S → s1.heap.get? b = some o → (((s1.heap.push (lob (pre ++ xs) 0)).update S (Obj.mapSeq fun _ => #[Value.ref s1.heap.objs.size])).update S (Obj.mapSeq fun _ => #[Value.ref s1.heap.objs.size])).get? b = some o := fun b o hb e =>
      (Heap.get?_update_other _ _ (fun h : S = b => hb h.symm)).trans ((Heap.get?_update_other _ _ (fun h : S = b => hb h.symm)).trans (Heap.get?_push_of_some _ e))
    have nT : s1.heap.objs.size ≠ S := Nat.ne_of_gt sl
    have h0le : h0.objs.size ≤ s1.heap.objs.size := Nat.le_trans hS0 (Nat.le_of_lt sl)
    refine ih (i + 1) _ s1.heap.objs.size _ 0 (pre ++ xs) (by omega) lt (W.frame _ s1 _ _ st1 (Nat.le_refl _) fun b hb o e => up2 b o (fun z => hSf (z ▸ hb)) e) (fun b o e => up2 b o (fun z => absurd (Nat.lt_of_lt_of_le (Heap.lt_size e) hS0) (by rw [z]; exact Nat.lt_irrefl _)) (K1 b o e))
      (by rw [Heap.size_update, Heap.size_update, size_push']; exact Nat.lt_succ_of_lt sl) nT (fun z => absurd (hfp _ (W.sub _ z)) (Nat.not_lt_of_le (Nat.le_of_lt sl))) (Heap.get?_update_self _ S3 rfl) ?_ ?_ fun s3 T3 c3 m3 k3 g3 f3 => ?_
    · rw [Heap.get?_update_other _ _ nT.symm, Heap.get?_update_other _ _ nT.symm]
      exact Heap.get?_push_size _ rfl
    · rw [List.length_append]; omega
    · refine hR s3 T3 c3 (Moved.trans W.gtrans ((m.mono up).then_heap (Nat.le_refl _) fun b o hb e => up2 b o (fun z => hb (z ▸ List.mem_cons_self)) e) m3) k3 ?_ (.inr ?_)
      · rw [dr, List.flatten_cons, ← List.append_assoc]; exact g3
      · rcases f3 with ⟨z, _⟩ | z
        · rw [z]; exact h0le
        · exact z
theorem args_sum2 (a b : Value) : argsOk "sum" ⟨[a, b], []⟩ := by unfold argsOk; kernel_rfl
theorem call_sum {l p : Addr} {vs : List Value} {xss : List (List Value)} {cl cp : Nat} {Q : Value → Shared → Prop} (hh : A.handled = none) (hl : s.heap.get? l = some (lob vs cl)) (hp : s.heap.get? p = some (lob [] cp)) (hn : vs.length = xss.length)
    (hit : ∀ (i : Nat) v, vs[i]? = some v → ∃ b xs c, xss[i]? = some xs ∧ v = .ref b ∧ s.heap.get? b = some (lob xs c)) (hz : xss.flatten.length ≤ sizeLine)
    (h0 : vs = [] → ∀ (h' : Heap) (tk : Nat), Kp s.heap h' → Q (.ref p) { s with heap := h', toks := tk }) (h1 : ∀ (h' : Heap) (tk : Nat) T c, Kp s.heap h' → s.heap.objs.size ≤ T → h'.get? T = some (lob xss.flatten c) → Q (.ref T) { s with heap := h', toks := tk }) :
    wpAny (model P w) A (call (.builtin "sum") [.ref l, .ref p]) Q E s := by
  refine call_function_tree F.kind_sum F.plain_sum F.entry_sum (args_sum2 _ _) ?_
  unfold Builtin.«sum»
  simp only [List.length_cons, List.length_nil]
  rw [if_neg (by decide)]
  refine wpAny_bind (wpAny_of_eq (show Builtin.Builtins.bindParams "sum" ["start"] 0 ⟨[.ref p], []⟩ = pure [some (.ref p)] from rfl) ?_)
  refine wpAny_bind (wpAny_pyIter_list (l := l) (items := vs.toArray) ⟨_, hl, rfl, cl, rfl⟩ ?_)
  have hti : Shared.TypeIs { s with heap := s.heap.push { cls := .type "list_iterator", data := .fields #[.ref l, .int 0 0] } } (.ref p) "list" := ⟨_, Heap.get?_push_of_some _ hp, rfl⟩
  refine wpAny_bind (wpAny_pure ?_)
  simp only [List.forIn_cons, List.forIn_nil]
  refine wpAny_bind (wpAny_bind (wpAny_bind (wpAny_isInstance (T := "list") (b := false) hti F.sub_list_str ?_)))
  simp only [Bool.false_eq_true, if_false]
  refine wpAny_pure (wpAny_bind (wpAny_bind (wpAny_isInstance (T := "list") (b := false) hti F.sub_list_bytes ?_)))
  simp only [Bool.false_eq_true, if_false]
  refine wpAny_pure (wpAny_bind (wpAny_bind (wpAny_isInstance (T := "list") (b := false) hti F.sub_list_bytearray ?_)))
  simp only [Bool.false_eq_true, if_false]
  refine wpAny_pure (wpAny_pure ?_)
  refine wpAny_bind (wpAny_newObj_type ?_)
  have lt : l < s.heap.objs.size := Heap.lt_size hl
  have pt : p < s.heap.objs.size := Heap.lt_size hp
  have sz1 : (s.heap.push { cls := .type "list_iterator", data := .fields #[.ref l, .int 0 0] }).objs.size = s.heap.objs.size + 1 := Heap.size_push ..
  have hh2 : A.in1.handled = none := by simp [hh]
  have W := (Walks.list (prog := P) (w := w) hh2 s.heap.objs.size l (Nat.ne_of_lt lt) vs.toArray).toS
  have li : (s.heap.push { cls := .type "list_iterator", data := .fields #[.ref l, .int 0 0] }).IsList l vs.toArray := ⟨_, Heap.get?_push_of_some _ hl, rfl, cl, rfl⟩
  refine wpAny_pure ⟨plainId_quiet F.plain_sum_loop _, ?_⟩
  show codeAny _ _ (.builtin "sum.loop" ⟨[.ref s.heap.objs.size, .ref (s.heap.push { cls := .type "list_iterator", data := .fields #[.ref l, .int 0 0] }).objs.size, rawInt 2, rawInt 0], []⟩) _ _
  refine loop (h0 := s.heap) W (s.heap.push { cls := .type "list_iterator", data := .fields #[.ref l, .int 0 0] }).objs.size ?_ (by rw [sz1]; exact Nat.le_succ _) (fun b hb => by rw [List.mem_singleton.mp hb]; exact Nat.le_refl _) xss (by rw [List.size_toArray]; exact hn) (fun i v hv => hit i v (by rw [List.getElem?_toArray] at hv; exact hv)) ?_ (vs.toArray.size - 0) 0 { s with heap := (s.heap.push { cls := .type "list_iterator", data := .fields #[.ref l, .int 0 0] }).push (lob [.ref p] 0) } p 0 cp [] rfl (Nat.zero_le _)
    ⟨⟨_, Heap.get?_push_of_some _ (Heap.get?_push_size _ rfl), rfl, rfl⟩, li.push _⟩ (fun b o e => Heap.get?_push_of_some _ (Heap.get?_push_of_some _ e)) ?hsz (by rw [sz1]; exact Nat.ne_of_lt (Nat.lt_succ_of_lt pt)) (fun z => by rw [List.mem_singleton.mp z] at pt; exact Nat.lt_irrefl _ pt)
    (Heap.get?_push_size _ rfl) (Heap.get?_push_of_some _ (Heap.get?_push_of_some _ hp)) (by simpa using hz) fun s2 T c m k g f => ?_
  case hsz => exact Nat.lt_of_lt_of_eq (Nat.lt_succ_self _) (size_push' _ _).symm
  · rw [sz1]; simp only [List.mem_cons, List.not_mem_nil, or_false, not_or]; exact ⟨Nat.ne_of_gt (Nat.lt_succ_self _), Nat.ne_of_gt (Nat.lt_succ_of_lt lt)⟩
  · intro b hb
    rw [sz1]
    rcases List.mem_cons.mp hb with z | z
    · rw [z]; exact Nat.lt_succ_self _
    · rw [List.mem_singleton.mp z]; exact Nat.lt_succ_of_lt lt
  · obtain ⟨h', g2, d', tk', os'⟩ := s2
    have e1 : g2 = s.gens := m.gens
    have e2 : d' = s.drawn := m.drawn
    have e3 : os' = s.os := m.os
    subst e1; subst e2; subst e3
    simp only [List.drop_zero, List.nil_append] at g
    rcases f with ⟨rfl, z⟩ | z
    · have ev : vs = [] := List.eq_nil_of_length_eq_zero (by rw [List.size_toArray] at z; omega)
      exact h0 ev h' tk' k
    · exact h1 h' tk' T c k z g
end
end EVM

end
section
set_option linter.all false
set_option maxRecDepth 100000
set_option Elab.async false
/-! EV, part 1: data in the abstract heap, the frame's slots -/
namespace EV
open PySem L2

abbrev AS := Addr → Prop
section
variable (K : PySem.W.Frag)
mutual
inductive Dat (M : AS) (H : Hp) : V → D → Prop
  | non : Dat M H .non .none
  | bl (b : Bool) : Dat M H (.bl b) (.bool b)
  | int (i : Int) : Dat M H (.int i) (.int i)
  | str (x : Str) : Dat M H (.str x) (.str x)
  | lst {a : Addr} {xs : List V} {ds : List D} : Rd H a (.lst xs) → ¬ M a → DatA M H xs ds → Dat M H (.ref a) (.list ds)
  | tup {a : Addr} {xs : List V} {ds : List D} : SqT K H a xs → DatA M H xs ds → Dat M H (.ref a) (.tuple ds)
inductive DatA (M : AS) (H : Hp) : List V → List D → Prop
  | nil : DatA M H [] []
  | cons {v : V} {vs : List V} {d : D} {ds : List D} : Dat M H v d → DatA M H vs ds → DatA M H (v :: vs) (d :: ds)
end
end
/-- from (M, H) to (M', H'): what stands outside O stays -/
structure Stp (O M : AS) (H : Hp) (M' : AS) (H' : Hp) : Prop where
  keep : ∀ a o, H a = some o → ¬ O a → H' a = some o
  new : ∀ a, M' a → M a ∨ H a = none
  old : ∀ a, M a → ¬ O a → M' a
  there : ∀ a o, H a = some o → ∃ o', H' a = some o'
/-- lists of one's own -/
structure OwL (O M : AS) (H : Hp) : Prop where
  sub : ∀ a, O a → M a
  lst : ∀ a, O a → ∃ xs, H a = some (.lst xs)
variable {K : PySem.W.Frag} {O O' M M' M0 : AS} {H H' : Hp}
theorem rd_keep {a : Addr} {xs : List V} (r : Rd H a (.lst xs)) (n : ¬ M a) (w : OwL O M H) (k : ∀ a o, H a = some o → ¬ O a → H' a = some o) : Rd H' a (.lst xs) := by
  have nO : ¬ O a := fun z => n (w.sub a z)
  rcases r with r | ⟨o, r⟩
  · exact .inl (k a _ r nO)
  · exact .inr ⟨o, k a _ r nO⟩
theorem sqt_keep {a : Addr} {xs : List V} (r : SqT K H a xs) (w : OwL O M H) (k : ∀ a o, H a = some o → ¬ O a → H' a = some o) : SqT K H' a xs := by
  rcases r with (r | ⟨o, r⟩) | r
  · refine .inl (.inl (k a _ r fun z => ?_))
    obtain ⟨ys, e⟩ := w.lst a z
    rw [r] at e; cases e
  · refine .inl (.inr ⟨o, k a _ r fun z => ?_⟩)
    obtain ⟨ys, e⟩ := w.lst a z
    rw [r] at e; cases e
  · exact .inr r
theorem rd_some {a : Addr} {u : HO} (r : Rd H a u) : ∃ o, H a = some o := by
  rcases r with r | ⟨o, r⟩
  · exact ⟨_, r⟩
  · exact ⟨_, r⟩
mutual
theorem Dat.step {v : V} {d : D} (w : OwL O M H) (s : Stp O M H M' H') : Dat K M H v d → Dat K M' H' v d
  | .non => .non
  | .bl b => .bl b
  | .int i => .int i
  | .str x => .str x
  | .lst r n h => .lst (rd_keep r n w s.keep) (fun z => by
      rcases s.new _ z with q | q
      · exact n q
      · obtain ⟨o, e⟩ := rd_some r
        rw [q] at e; cases e) (DatA.step w s h)
  | .tup r h => .tup (sqt_keep r w s.keep) (DatA.step w s h)
theorem DatA.step {vs : List V} {ds : List D} (w : OwL O M H) (s : Stp O M H M' H') : DatA K M H vs ds → DatA K M' H' vs ds
  | .nil => .nil
  | .cons h t => .cons (Dat.step w s h) (DatA.step w s t)
end
mutual
/-- fewer addresses to be avoided -/
theorem Dat.less {v : V} {d : D} (s : ∀ a, M' a → M a) : Dat K M H v d → Dat K M' H v d
  | .non => .non
  | .bl b => .bl b
  | .int i => .int i
  | .str x => .str x
  | .lst r n h => .lst r (fun z => n (s _ z)) (DatA.less s h)
  | .tup r h => .tup r (DatA.less s h)
theorem DatA.less {vs : List V} {ds : List D} (s : ∀ a, M' a → M a) : DatA K M H vs ds → DatA K M' H vs ds
  | .nil => .nil
  | .cons h t => .cons (Dat.less s h) (DatA.less s t)
end
mutual
/-- without lists nothing is to be avoided -/
theorem Dat.lf {v : V} {d : D} (l : EV.lf d = true) (h : Dat K M H v d) : Dat K M' H v d := by
  cases h with
  | non => exact .non
  | bl b => exact .bl b
  | int i => exact .int i
  | str x => exact .str x
  | lst r n h => simp [EV.lf] at l
  | tup r h => exact .tup r (DatA.lf (by simpa [EV.lf] using l) h)
theorem DatA.lf {vs : List V} {ds : List D} (l : EV.lfs ds = true) (h : DatA K M H vs ds) : DatA K M' H vs ds := by
  cases h with
  | nil => exact .nil
  | cons h t =>
    simp only [EV.lfs, Bool.and_eq_true] at l
    exact .cons (Dat.lf l.1 h) (DatA.lf l.2 t)
end
mutual
theorem Dat.dp {v : V} {d : D} : Dat K M H v d → Dp K H v d
  | .non => .non
  | .bl b => .bl b
  | .int i => .int i
  | .str x => .str x
  | .lst r n h => .lst (.inl r) (DatA.dp h)
  | .tup r h => .tup r (DatA.dp h)
theorem DatA.dp {vs : List V} {ds : List D} : DatA K M H vs ds → DpAll K H vs ds
  | .nil => .nil
  | .cons h t => .cons (Dat.dp h) (DatA.dp t)
end
theorem DatA.length {vs : List V} {ds : List D} (h : DatA K M H vs ds) : vs.length = ds.length := by
  induction ds generalizing vs with
  | nil => cases h; rfl
  | cons d ds ih => cases h with | cons h t => simp [ih t]
theorem DatA.get {vs : List V} {ds : List D} {i : Nat} (h : DatA K M H vs ds) {d : D} (e : ds[i]? = some d) : ∃ v, vs[i]? = some v ∧ Dat K M H v d := by
  induction ds generalizing vs i with
  | nil => simp at e
  | cons x ds ih =>
    cases h with
    | cons h t =>
      cases i with
      | zero => simp at e; subst e; exact ⟨_, rfl, h⟩
      | succ i => simp at e; obtain ⟨v, e1, e2⟩ := ih t e; exact ⟨v, by simpa using e1, e2⟩
theorem DatA.getV {vs : List V} {ds : List D} {i : Nat} (h : DatA K M H vs ds) {v : V} (e : vs[i]? = some v) : ∃ d, ds[i]? = some d ∧ Dat K M H v d := by
  induction ds generalizing vs i with
  | nil => cases h; simp at e
  | cons x ds ih =>
    cases h with
    | cons h t =>
      cases i with
      | zero => simp at e; subst e; exact ⟨_, rfl, h⟩
      | succ i => simp at e; obtain ⟨v, e1, e2⟩ := ih t e; exact ⟨v, by simpa using e1, e2⟩
theorem DatA.append {vs ws : List V} {ds es : List D} (h : DatA K M H vs ds) (h' : DatA K M H ws es) : DatA K M H (vs ++ ws) (ds ++ es) := by
  induction ds generalizing vs with
  | nil => cases h; exact h'
  | cons d ds ih => cases h with | cons h t => exact .cons h (ih t)
theorem DatA.drop {vs : List V} {ds : List D} (n : Nat) (h : DatA K M H vs ds) : DatA K M H (vs.drop n) (ds.drop n) := by
  induction n generalizing vs ds with
  | zero => exact h
  | succ n ih => cases h with
    | nil => exact .nil
    | cons h t => exact ih t
theorem DatA.take {vs : List V} {ds : List D} (n : Nat) (h : DatA K M H vs ds) : DatA K M H (vs.take n) (ds.take n) := by
  induction n generalizing vs ds with
  | zero => exact .nil
  | succ n ih => cases h with
    | nil => exact .nil
    | cons h t => exact .cons h (ih t)
theorem DatA.set {vs : List V} {ds : List D} {v : V} {d : D} (n : Nat) (h : DatA K M H vs ds) (q : Dat K M H v d) : DatA K M H (vs.set n v) (ds.set n d) := by
  induction ds generalizing vs n with
  | nil => cases h; exact .nil
  | cons x ds ih => cases h with
    | cons h t => cases n with
      | zero => exact .cons q t
      | succ n => exact .cons h (ih n t)
theorem DatA.eraseIdx {vs : List V} {ds : List D} (n : Nat) (h : DatA K M H vs ds) : DatA K M H (vs.eraseIdx n) (ds.eraseIdx n) := by
  induction ds generalizing vs n with
  | nil => cases h; exact .nil
  | cons x ds ih => cases h with
    | cons h t => cases n with
      | zero => exact t
      | succ n => exact .cons h (ih n t)
theorem DatA.rep {vs : List V} {ds : List D} (h : DatA K M H vs ds) : ∀ k : Nat, DatA K M H (List.replicate k vs).flatten (List.replicate k ds).flatten
  | 0 => .nil
  | k + 1 => by simpa [List.replicate_succ] using h.append (DatA.rep h k)

/-! ### slots -/
def Sv.lst? : Sv → Option (List D)
  | .dat _ => none
  | .own xs => some xs
  | .io xs => some xs
/-- the addresses of a frame's own lists and of those handed in -/
def Ow (ρ : Ro) (σ : St) : AS := fun a => ∃ (i : Nat) (s : Sv) (xs : List D), ρ[i]? = some (some s) ∧ s.lst? = some xs ∧ σ[i]? = some (some (V.ref a))
structure Rep (K : PySem.W.Frag) (M0 M : AS) (ρ : Ro) (σ : St) (H : Hp) : Prop where
  len : ρ.length = σ.length
  dom : ∀ a, M a → ∃ o, H a = some o
  sub : ∀ a, M0 a → M a
  dat : ∀ (i : Nat) (d : D), ρ[i]? = some (some (.dat d)) → ∃ v, σ[i]? = some (some v) ∧ Dat K M H v d
  lst : ∀ (i : Nat) (s : Sv) (xs : List D), ρ[i]? = some (some s) → s.lst? = some xs → ∃ a vs, σ[i]? = some (some (.ref a)) ∧ H a = some (.lst vs) ∧ DatA K M H vs xs ∧ M a
  own : ∀ (i : Nat) (xs : List D) (a : Addr), ρ[i]? = some (some (.own xs)) → σ[i]? = some (some (.ref a)) → ¬ M0 a
  io : ∀ (i : Nat) (xs : List D) (a : Addr), ρ[i]? = some (some (.io xs)) → σ[i]? = some (some (.ref a)) → M0 a
  inj : ∀ (i j : Nat) (a : Addr) (s t : Sv) (xs ys : List D), ρ[i]? = some (some s) → ρ[j]? = some (some t) → s.lst? = some xs → t.lst? = some ys → σ[i]? = some (some (.ref a)) → σ[j]? = some (some (.ref a)) → i = j
variable {ρ ρ' ρ1 : Ro} {σ : St}
theorem Rep.owl (r : Rep K M0 M ρ σ H) : OwL (Ow ρ σ) M H where
  sub := fun a ⟨i, s, xs, h1, h2, h3⟩ => by
    obtain ⟨b, vs, e1, _, _, q⟩ := r.lst i s xs h1 h2
    rw [h3] at e1; cases e1; exact q
  lst := fun a ⟨i, s, xs, h1, h2, h3⟩ => by
    obtain ⟨b, vs, e1, e2, _, q⟩ := r.lst i s xs h1 h2
    rw [h3] at e1; cases e1; exact ⟨vs, e2⟩
theorem Stp.refl : Stp O M H M H := ⟨fun _ _ e _ => e, fun _ h => .inl h, fun _ h _ => h, fun _ o e => ⟨o, e⟩⟩
theorem Stp.trans {M1 M2 : AS} {H1 H2 : Hp} (hs : ∀ a, O' a → O a) (s : Stp O M H M1 H1) (t : Stp O' M1 H1 M2 H2) : Stp O M H M2 H2 where
  keep := fun a o e n => t.keep a o (s.keep a o e n) fun z => n (hs a z)
  new := fun a z => by
    rcases t.new a z with q | q
    · exact s.new a q
    · cases e : H a with
      | none => exact .inr rfl
      | some o => obtain ⟨o', e'⟩ := s.there a o e; rw [e'] at q; cases q
  old := fun a z n => t.old a (s.old a z n) fun z => n (hs a z)
  there := fun a o e => by
    obtain ⟨o', e'⟩ := s.there a o e
    exact t.there a o' e'
theorem Stp.wide (hs : ∀ a, O' a → O a) (s : Stp O' M H M' H') : Stp O M H M' H' := ⟨fun a o e n => s.keep a o e fun z => n (hs a z), s.new, fun a z n => s.old a z fun q => n (hs a q), s.there⟩
/-- nothing that stands is changed -/
structure Stp0 (M : AS) (H : Hp) (M' : AS) (H' : Hp) : Prop where
  keep : ∀ a o, H a = some o → H' a = some o
  new : ∀ a, M' a → M a ∨ H a = none
  old : ∀ a, M a → M' a
  dom : (∀ a, M a → ∃ o, H a = some o) → ∀ a, M' a → ∃ o, H' a = some o
theorem Stp0.stp (s : Stp0 M H M' H') : Stp O M H M' H' := ⟨fun a o e _ => s.keep a o e, s.new, fun a h _ => s.old a h, fun a o e => ⟨o, s.keep a o e⟩⟩
theorem Stp0.refl : Stp0 M H M H := ⟨fun _ _ e => e, fun _ h => .inl h, fun _ h => h, fun h => h⟩
theorem Stp0.trans {M1 M2 : AS} {H1 H2 : Hp} (s : Stp0 M H M1 H1) (t : Stp0 M1 H1 M2 H2) : Stp0 M H M2 H2 where
  keep := fun a o e => t.keep a o (s.keep a o e)
  new := fun a z => by
    rcases t.new a z with q | q
    · exact s.new a q
    · cases e : H a with
      | none => exact .inr rfl
      | some o => rw [s.keep a o e] at q; cases q
  old := fun a z => t.old a (s.old a z)
  dom := fun h => t.dom (s.dom h)
/-- a new object -/
theorem Stp0.laid {p : Addr} {o : HO} (hp : H p = none) : Stp0 M H M (upd H p o) := ⟨fun a u e => by rw [upd_ne (ne_of_none e hp)]; exact e, fun _ h => .inl h, fun _ h => h, fun h a z => by
  obtain ⟨u, e⟩ := h a z
  exact ⟨u, by rw [upd_ne (ne_of_none e hp)]; exact e⟩⟩
/-- a new list of one's own -/
theorem Stp0.lnew {p : Addr} {xs : List V} (hp : H p = none) : Stp0 M H (fun a => M a ∨ a = p) (upd H p (.lst xs)) := ⟨fun a u e => by rw [upd_ne (ne_of_none e hp)]; exact e, fun a h => by
    rcases h with h | h
    · exact .inl h
    · subst h; exact .inr hp, fun _ h => .inl h, fun h a z => by
  rcases z with z | z
  · obtain ⟨u, e⟩ := h a z
    exact ⟨u, by rw [upd_ne (ne_of_none e hp)]; exact e⟩
  · subst z; exact ⟨_, upd_same⟩⟩
theorem owl0 : OwL (fun _ => False) M H := ⟨fun _ z => z.elim, fun _ z => z.elim⟩
theorem Dat.step0 {v : V} {d : D} (s : Stp0 M H M' H') (h : Dat K M H v d) : Dat K M' H' v d := h.step owl0 s.stp
theorem DatA.step0 {vs : List V} {ds : List D} (s : Stp0 M H M' H') (h : DatA K M H vs ds) : DatA K M' H' vs ds := h.step owl0 s.stp
/-- the slots behind a step that changes none of them -/
theorem Rep.step0 (r : Rep K M0 M ρ σ H) (s : Stp0 M H M' H') : Rep K M0 M' ρ σ H' where
  len := r.len
  dom := s.dom r.dom
  sub := fun a z => s.old a (r.sub a z)
  dat := fun i d e => by
    obtain ⟨v, h1, h2⟩ := r.dat i d e
    exact ⟨v, h1, h2.step0 s⟩
  lst := fun i t xs e l => by
    obtain ⟨a, vs, h1, h2, h3, h4⟩ := r.lst i t xs e l
    exact ⟨a, vs, h1, s.keep a _ h2, h3.step0 s, s.old a h4⟩
  own := r.own
  io := r.io
  inj := r.inj
/-- a value that is looked at: a list, whoever has it; or data -/
def Pk (K : PySem.W.Frag) (M : AS) (H : Hp) (v : V) (d : D) : Prop := match d with
  | .list ds => ∃ a vs, v = .ref a ∧ Rd H a (.lst vs) ∧ DatA K M H vs ds
  | d => Dat K M H v d
theorem Dat.pk {v : V} {d : D} (h : Dat K M H v d) : Pk K M H v d := by
  cases h with
  | non => exact .non
  | bl b => exact .bl b
  | int i => exact .int i
  | str x => exact .str x
  | lst r n h => exact ⟨_, _, rfl, r, h⟩
  | tup r h => exact .tup r h
theorem Pk.dp {v : V} {d : D} (h : Pk K M H v d) : Dp K H v d := by
  cases d with
  | list ds => obtain ⟨a, vs, rfl, r, q⟩ := h; exact .lst (.inl r) q.dp
  | none => exact Dat.dp h
  | bool _ => exact Dat.dp h
  | int _ => exact Dat.dp h
  | str _ => exact Dat.dp h
  | tuple _ => exact Dat.dp h
  | dict _ => exact Dat.dp h
/-- a sequence that is looked at -/
theorem Pk.seq {v : V} {d : D} {ds : List D} (h : Pk K M H v d) (e : items d = some ds) : ∃ a vs, v = .ref a ∧ (SqL K H a vs ∨ SqT K H a vs) ∧ DatA K M H vs ds := by
  cases d with
  | list xs => cases e; obtain ⟨a, vs, rfl, r, q⟩ := h; exact ⟨a, vs, rfl, .inl (.inl r), q⟩
  | tuple xs => cases e; cases h with | tup r q => exact ⟨_, _, rfl, .inr r, q⟩
  | none => cases e
  | bool _ => cases e
  | int _ => cases e
  | str _ => cases e
  | dict _ => cases e
/-- what an operator leaves -/
def VW0 (K : PySem.W.Frag) (H : Hp) (M' : AS) (H' : Hp) (v : V) : W → Prop
  | .dat d => Dat K M' H' v d
  | .new xs => ∃ a vs, v = .ref a ∧ H a = none ∧ H' a = some (.lst vs) ∧ DatA K M' H' vs xs ∧ M' a
def Rs (K : PySem.W.Frag) (M : AS) (H : Hp) (Q : VK) (w : W) : Prop := ∀ M' H' v, Stp0 M H M' H' → VW0 K H M' H' v w → Q v H'
theorem Rs.scalar {Q : VK} {v : V} {d : D} (h : Rs K M H Q (.dat d)) (q : Dat K M H v d) : Q v H := h M H v .refl q
theorem Rs.tup {Q : VK} {ds : List D} {vs : List V} {p : Addr} (h : Rs K M H Q (.dat (.tuple ds))) (q : DatA K M H vs ds) (hp : H p = none) : Q (.ref p) (upd H p (.tup vs)) :=
  h M _ _ (.laid hp) (.tup (.inl (.inl upd_same)) (q.step0 (.laid hp)))
theorem Rs.lst {Q : VK} {ds : List D} {vs : List V} {p : Addr} (h : Rs K M H Q (.new ds)) (q : DatA K M H vs ds) (hp : H p = none) : Q (.ref p) (upd H p (.lst vs)) :=
  h _ _ _ (.lnew hp) ⟨p, vs, rfl, hp, upd_same, q.step0 (.lnew hp), .inr rfl⟩
theorem VW0.pk {v : V} {w : W} (h : VW0 K H M' H' v w) : Pk K M' H' v w.d := by
  cases w with
  | dat d => exact Dat.pk h
  | new xs => obtain ⟨a, vs, e, _, h1, h2, _⟩ := h; exact ⟨a, vs, e, .inl h1, h2⟩
/-- what is new behind a step is not one of the slots' own -/
theorem Rep.fresh {a : Addr} (r : Rep K M0 M ρ σ H) (n : H a = none) : ¬ M a ∧ ¬ M0 a ∧ ¬ Ow ρ σ a := by
  have na : ¬ M a := fun z => by obtain ⟨o, q⟩ := r.dom a z; rw [n] at q; cases q
  exact ⟨na, fun z => na (r.sub a z), fun z => na (r.owl.sub a z)⟩
/-- a pending value behind a further step -/
theorem VW0.step {v : V} {w : W} {M1 M2 : AS} {H1 H2 : Hp} (r : Rep K M0 M ρ σ H) (o : OwL O M1 H1) (hs : ∀ a, O a → Ow ρ σ a) (s : Stp O M1 H1 M2 H2) (h : VW0 K H M1 H1 v w) : VW0 K H M2 H2 v w := by
  cases w with
  | dat d => exact Dat.step o s h
  | new xs =>
    obtain ⟨a, vs, e, n, h1, h2, h3⟩ := h
    have nO : ¬ O a := fun z => (r.fresh n).2.2 (hs a z)
    exact ⟨a, vs, e, n, s.keep a _ h1 nO, h2.step o s, s.old a h3 nO⟩
/-- seen from an earlier start -/
theorem VW0.from {v : V} {w : W} {H1 : Hp} {M2 : AS} {H2 : Hp} (t : ∀ a o, H a = some o → ∃ o', H1 a = some o') (h : VW0 K H1 M2 H2 v w) : VW0 K H M2 H2 v w := by
  cases w with
  | dat d => exact h
  | new xs =>
    obtain ⟨a, vs, e, n, h⟩ := h
    refine ⟨a, vs, e, ?_, h⟩
    cases q : H a with
    | none => rfl
    | some o => obtain ⟨o', e'⟩ := t a o q; rw [n] at e'; cases e'
theorem Rep.less {M' : AS} (r : Rep K M0 M ρ σ H) (s : ∀ a, M' a → M a) (k : ∀ a, Ow ρ σ a → M' a) (k0 : ∀ a, M0 a → M' a) : Rep K M0 M' ρ σ H where
  len := r.len
  dom := fun a z => r.dom a (s a z)
  sub := k0
  dat := fun i d e => by
    obtain ⟨v, h1, h2⟩ := r.dat i d e
    exact ⟨v, h1, h2.less s⟩
  lst := fun i t xs e l => by
    obtain ⟨a, vs, h1, h2, h3, h4⟩ := r.lst i t xs e l
    exact ⟨a, vs, h1, h2, h3.less s, k a ⟨i, t, xs, e, l, h1⟩⟩
  own := r.own
  io := r.io
  inj := r.inj
/-- a temporary becomes data -/
theorem VW0.freeze {v : V} {w : W} {M1 : AS} {H1 : Hp} (r : Rep K M0 M ρ σ H) (s : Stp (Ow ρ σ) M H M1 H1) (r1 : Rep K M0 M1 ρ1 σ H1) (hs : ∀ a, Ow ρ1 σ a → Ow ρ σ a) (h : VW0 K H M1 H1 v w) :
    ∃ M2, Stp (Ow ρ σ) M H M2 H1 ∧ Rep K M0 M2 ρ1 σ H1 ∧ Dat K M2 H1 v w.d ∧ (∀ a, M2 a → M1 a) ∧ ∀ a, M a → M1 a → M2 a := by
  cases w with
  | dat d => exact ⟨M1, s, r1, h, fun _ z => z, fun _ _ z => z⟩
  | new xs =>
    obtain ⟨a, vs, rfl, n, h1, h2, h3⟩ := h
    obtain ⟨f1, f2, f3⟩ := r.fresh n
    refine ⟨fun b => M1 b ∧ b ≠ a, ⟨s.keep, fun b z => s.new b z.1, fun b z nO => ⟨s.old b z nO, fun e => f1 (e ▸ z)⟩, s.there⟩, r1.less (fun b z => z.1) (fun b z => ⟨r1.owl.sub b z, fun e => f3 (e ▸ hs b z)⟩) (fun b z => ⟨r1.sub b z, fun e => f2 (e ▸ z)⟩), ?_, fun b z => z.1, fun b z q => ⟨q, fun e => f1 (e ▸ z)⟩⟩
    exact .lst (.inl h1) (fun z => z.2 rfl) (h2.less fun b z => z.1)
/-- an operand's value -/
def VO (K : PySem.W.Frag) (H : Hp) (M' : AS) (H' : Hp) (σ : St) (v : V) : Opd → Prop
  | .slot i => σ[i]? = some (some v)
  | .val w => VW0 K H M' H' v w
theorem VO.step {v : V} {o : Opd} {M1 M2 : AS} {H1 H2 : Hp} (r : Rep K M0 M ρ σ H) (w : OwL O M1 H1) (hs : ∀ a, O a → Ow ρ σ a) (s : Stp O M1 H1 M2 H2) (h : VO K H M1 H1 σ v o) : VO K H M2 H2 σ v o := by
  cases o with
  | slot i => exact h
  | val w' => exact VW0.step r w hs s h
theorem VO.from {v : V} {o : Opd} {H1 : Hp} {M2 : AS} {H2 : Hp} (t : ∀ a o, H a = some o → ∃ o', H1 a = some o') (h : VO K H1 M2 H2 σ v o) : VO K H M2 H2 σ v o := by
  cases o with
  | slot i => exact h
  | val w => exact VW0.from t h
theorem get_some {i : Nat} {s : Sv} (h : get ρ i = some s) : ρ[i]? = some (some s) := by
  unfold get at h
  cases e : ρ[i]? with
  | none => rw [e] at h; cases h
  | some x => rw [e] at h; simp only [Option.join_some] at h; rw [h]
theorem Rep.pk {i : Nat} {s : Sv} {v : V} (r : Rep K M0 M ρ σ H) (h : get ρ i = some s) (hv : σ[i]? = some (some v)) : Pk K M H v s.d := by
  have e := get_some h
  cases s with
  | dat d =>
    obtain ⟨u, h1, h2⟩ := r.dat i d e
    rw [hv] at h1; cases h1
    exact h2.pk
  | own xs =>
    obtain ⟨a, vs, h1, h2, h3, _⟩ := r.lst i _ xs e rfl
    rw [hv] at h1; cases h1
    exact ⟨a, vs, rfl, .inl h2, h3⟩
  | io xs =>
    obtain ⟨a, vs, h1, h2, h3, _⟩ := r.lst i _ xs e rfl
    rw [hv] at h1; cases h1
    exact ⟨a, vs, rfl, .inl h2, h3⟩
theorem VO.pk {v : V} {o : Opd} {d : D} {M1 : AS} {H1 : Hp} (r : Rep K M0 M1 ρ1 σ H1) (h : VO K H M1 H1 σ v o) (e : o.rd ρ1 = some d) : Pk K M1 H1 v d := by
  cases o with
  | slot i =>
    simp only [Opd.rd, Option.map_eq_some_iff] at e
    obtain ⟨s, e1, rfl⟩ := e
    exact r.pk e1 h
  | val w =>
    simp only [Opd.rd, Option.some.injEq] at e
    subst e
    exact VW0.pk h

/-! ### what follows -/
/-- an exception: its class, its own dict -/
abbrev XR := AS → Hp → Value → Option Addr → Exn → Prop
structure Ctx where
  K : PySem.W.Frag
  M0 : AS
  H0 : Hp
  R : XR
  Wx : Value → Option Addr → St → Hp → Prop
def After (C : Ctx) {α : Type} (σ : St) (M : AS) (H : Hp) (ρ : Ro) (r : Res (α × Ro)) (k : AS → Hp → α → Ro → Prop) : Prop :=
  match r with
  | .ok (a, ρ') => ∀ M' H', Stp (Ow ρ σ) M H M' H' → Rep C.K C.M0 M' ρ' σ H' → (∀ a, Ow ρ' σ a → Ow ρ σ a) → k M' H' a ρ'
  | .exc x ρ' => ∀ M' H' cls d, Stp (Ow ρ σ) M H M' H' → Rep C.K C.M0 M' ρ' σ H' → (∀ a, Ow ρ' σ a → Ow ρ σ a) → C.R M' H' cls d x → C.Wx cls d σ H'
  | .stuck => False
variable {C : Ctx} {α β : Type}
theorem After.mono {r : Res (α × Ro)} {k k' : AS → Hp → α → Ro → Prop} (h : After C σ M H ρ r k)
    (f : ∀ M' H' a ρ', Stp (Ow ρ σ) M H M' H' → Rep C.K C.M0 M' ρ' σ H' → (∀ a, Ow ρ' σ a → Ow ρ σ a) → k M' H' a ρ' → k' M' H' a ρ') : After C σ M H ρ r k' := by
  cases r with
  | ok p => exact fun M' H' s r' hs => f M' H' _ _ s r' hs (h M' H' s r' hs)
  | exc x ρ' => exact h
  | stuck => exact h
theorem After.bind {r : Res (α × Ro)} {f : α × Ro → Res (β × Ro)} {k : AS → Hp → β → Ro → Prop} (h : After C σ M H ρ (r.bind f) k) :
    After C σ M H ρ r (fun M1 H1 a ρ1 => After C σ M1 H1 ρ1 (f (a, ρ1)) fun M2 H2 b ρ2 => k M2 H2 b ρ2) := by
  cases r with
  | ok p =>
    intro M1 H1 s1 r1 hs1
    have h : After C σ M H ρ (f p) k := h
    show After C σ M1 H1 p.2 (f p) _
    cases e : f p with
    | ok q =>
      rw [e] at h
      intro M2 H2 s2 r2 hs2
      exact h M2 H2 (s1.trans hs1 s2) r2 fun a z => hs1 a (hs2 a z)
    | exc x ρ' =>
      rw [e] at h
      intro M2 H2 cls d s2 r2 hs2 hR
      exact h M2 H2 cls d (s1.trans hs1 s2) r2 (fun a z => hs1 a (hs2 a z)) hR
    | stuck => rw [e] at h; exact h
  | exc x ρ' => exact h
  | stuck => exact h
theorem After.of {o : Option α} {f : α → Res (β × Ro)} {k : AS → Hp → β → Ro → Prop} (h : After C σ M H ρ ((Res.of o).bind f) k) : ∃ a, o = some a ∧ After C σ M H ρ (f a) k := by
  cases o with
  | none => exact h.elim
  | some a => exact ⟨a, rfl, h⟩
/-- the end, where nothing was done any more -/
theorem After.now {a : α} {k : AS → Hp → α → Ro → Prop} (r : Rep C.K C.M0 M ρ σ H) (h : After C σ M H ρ (.ok (a, ρ)) k) : k M H a ρ := h M H .refl r fun _ z => z
theorem After.now0 {a : α} {k : AS → Hp → α → Ro → Prop} {M' : AS} {H' : Hp} (r : Rep C.K C.M0 M ρ σ H) (s : Stp0 M H M' H') (h : After C σ M H ρ (.ok (a, ρ)) k) : k M' H' a ρ := h M' H' s.stp (r.step0 s) fun _ z => z
/-- readings -/
def tW (C : Ctx) (f : Ro → Res (W × Ro)) : TE := fun σ H Q => ∃ M ρ, Rep C.K C.M0 M ρ σ H ∧ After C σ M H ρ (f ρ) fun M' H' w _ => ∀ v, VW0 C.K H M' H' v w → Q v H'
def tD (C : Ctx) (f : Ro → Res (D × Ro)) : TE := fun σ H Q => ∃ M ρ, Rep C.K C.M0 M ρ σ H ∧ After C σ M H ρ (f ρ) fun M' H' d _ => ∀ v, Dat C.K M' H' v d → Q v H'
def tO (C : Ctx) (f : Ro → Res (Opd × Ro)) : TE := fun σ H Q => ∃ M ρ, Rep C.K C.M0 M ρ σ H ∧ After C σ M H ρ (f ρ) fun M' H' o _ => ∀ v, VO C.K H M' H' σ v o → Q v H'
def tT (C : Ctx) (f : Ro → Res (Bool × Ro)) : TT := fun σ H Q => ∃ M ρ, Rep C.K C.M0 M ρ σ H ∧ After C σ M H ρ (f ρ) fun _ H' b _ => Q b H'
variable {X : Cx} {e : Expr}
theorem PE_imp {t t' : TE} (h : PE X e t) (f : ∀ σ H Q, t' σ H Q → t σ H Q) : PE X e t' := ⟨fun pins s σ H Q I q => h.run pins s σ H Q I (f σ H Q q)⟩
theorem PT_imp {t t' : TT} (h : PT X e t) (f : ∀ σ H Q, t' σ H Q → t σ H Q) : PT X e t' := ⟨fun pins s σ H Q I q => h.run pins s σ H Q I (f σ H Q q)⟩
theorem PA_imp {es : List Expr} {t t' : TA} (h : PA X es t) (f : ∀ σ H Q, t' σ H Q → t σ H Q) : PA X es t' := ⟨fun pos pins s σ H Q I q => h.run pos pins s σ H Q I (f σ H Q q)⟩
/-- data out of a value -/
theorem After.dat {f : Ro → Res (W × Ro)} {k : AS → Hp → D → Ro → Prop} (r : Rep C.K C.M0 M ρ σ H) (a : After C σ M H ρ (datOf f ρ) k) :
    After C σ M H ρ (f ρ) fun M1 H1 w ρ1 => ∀ v, VW0 C.K H M1 H1 v w → ∃ M2, Stp (Ow ρ σ) M H M2 H1 ∧ Rep C.K C.M0 M2 ρ1 σ H1 ∧ Dat C.K M2 H1 v w.d ∧ k M2 H1 w.d ρ1 := by
  unfold datOf at a
  cases e : f ρ with
  | ok p =>
    rw [e] at a
    intro M1 H1 s1 r1 hs1 v hv
    obtain ⟨M2, s2, r2, d2, l2, _⟩ := hv.freeze r s1 r1 hs1
    exact ⟨M2, s2, r2, d2, a M2 H1 s2 r2 hs1⟩
  | exc x ρ' => rw [e] at a; exact a
  | stuck => rw [e] at a; exact a
theorem tD_of {f : Ro → Res (W × Ro)} (h : PE X e (tW C f)) : PE X e (tD C (datOf f)) := by
  refine PE_imp h fun σ H Q ⟨M, ρ, r, a⟩ => ⟨M, ρ, r, ?_⟩
  refine (After.dat r a).mono fun M1 H1 w ρ1 s1 r1 hs1 h v hv => ?_
  obtain ⟨M2, s2, r2, d2, q⟩ := h v hv
  exact q v d2
end EV

end
section
set_option linter.all false
set_option maxRecDepth 100000
set_option Elab.async false
/-! EV, part 2: operators and built-in functions over data -/
namespace EV
open PySem L2 PyProof.Rows
variable {K : PySem.W.Frag} {M : AS} {H : Hp} {X : Cx} {pins : List (Addr × Obj)} {σ : L2.St} {s : Shared}
def rOp (K : PySem.W.Frag) (o : Op2) : R2 := fun x y H Q => ∃ M d e w, Pk K M H x d ∧ Pk K M H y e ∧ op2 o d e = some w ∧ Rs K M H Q w
def rUn (K : PySem.W.Frag) (o : Op1) : V → Hp → VK → Prop := fun x H Q => ∃ M d w, Pk K M H x d ∧ op1 o d = some w ∧ Rs K M H Q w
/-- a list that is read -/
theorem lstR {l : Addr} {xs : List V} (I : Inv X pins σ H s) (r : Rd H l (.lst xs)) : xs.length ≤ sizeLine ∧ ∃ (its : List Value) (n : Nat), Vals xs its ∧ xs.length = its.length ∧ s.heap.get? l = some { cls := .type "list", data := .seq its.toArray n } := by
  obtain ⟨z, its, n, h1, h2⟩ := (show ObjOk X.prog X.w H s.heap l (.lst xs) from L2.Rd.ok r I.hok)
  exact ⟨z, its, n, h1, h1.length, h2⟩
/-! ### shapes -/
theorem Pk.int {v : V} {i : Int} (h : Pk K M H v (.int i)) : v = .int i := by cases (show Dat K M H v (.int i) from h); rfl
theorem Pk.bool {v : V} {b : Bool} (h : Pk K M H v (.bool b)) : v = .bl b := by cases (show Dat K M H v (.bool b) from h); rfl
theorem Pk.str {v : V} {x : Str} (h : Pk K M H v (.str x)) : v = .str x := by cases (show Dat K M H v (.str x) from h); rfl
theorem Pk.non {v : V} (h : Pk K M H v .none) : v = .non := by cases (show Dat K M H v .none from h); rfl
theorem Pk.lst {v : V} {ds : List D} (h : Pk K M H v (.list ds)) : ∃ a vs, v = .ref a ∧ Rd H a (.lst vs) ∧ DatA K M H vs ds := h
theorem Pk.tup {v : V} {ds : List D} (h : Pk K M H v (.tuple ds)) : ∃ a vs, v = .ref a ∧ SqT K H a vs ∧ DatA K M H vs ds := by
  cases (show Dat K M H v (.tuple ds) from h) with | tup r q => exact ⟨_, _, rfl, r, q⟩
theorem Pk.dict {v : V} {ds : List (D × D)} (h : Pk K M H v (.dict ds)) : False := by
  cases (show Dat K M H v (.dict ds) from h)
theorem some_ite {α : Type} {c : Prop} [Decidable c] {a w : α} (h : (if c then some a else none) = some w) : c ∧ a = w := by
  split at h
  · rename_i hc; exact ⟨hc, Option.some.inj h⟩
  · cases h
/-! ### arithmetic -/
theorem o_add : OpR X (binaryOp .Add) (rOp X.K .add) := by
  intro pins s σ H x y v u Q I rx ry h
  obtain ⟨M, d, e, w, hd, he, hw, hR⟩ := h
  cases d with
  | int i =>
    cases e with
    | int j => cases hw; exact op_add pins s σ H x y v u Q I rx ry ⟨i, j, hd.int, he.int, hR.scalar (.int _)⟩
    | _ => cases hw
  | str a =>
    cases e with
    | str b => obtain ⟨z, rfl⟩ := some_ite hw; exact op_add_str pins s σ H x y v u Q I rx ry ⟨a, b, hd.str, he.str, z, hR.scalar (.str _)⟩
    | _ => cases hw
  | list xs =>
    cases e with
    | list ys =>
      obtain ⟨z, rfl⟩ := some_ite hw
      obtain ⟨l, vs, rfl, r1, q1⟩ := hd.lst
      obtain ⟨b, ws, rfl, r2, q2⟩ := he.lst
      cases rx
      cases ry
      obtain ⟨z1, its, n, r, hl, e⟩ := lstR I r1
      obtain ⟨z2, its2, n2, r2, hl2, e2⟩ := lstR I r2
      have h1 := q1.length
      have h2 := q2.length
      refine PySem.P.add_list e e2 ?_ (by rw [List.size_toArray, List.size_toArray]; omega)
      have ea : its.toArray ++ its2.toArray = (its ++ its2).toArray := by simp
      rw [ea]
      exact ⟨.ref _, _, I.lnew (t' := s.toks) (r.append r2) (by rw [List.length_append]; omega), rfl, hR.lst (q1.append q2) I.fresh⟩
    | _ => cases hw
  | tuple xs =>
    cases e with
    | tuple ys =>
      obtain ⟨z, rfl⟩ := some_ite hw
      obtain ⟨l, vs, rfl, r1, q1⟩ := hd.tup
      obtain ⟨b, ws, rfl, r2, q2⟩ := he.tup
      have h1 := q1.length
      have h2 := q2.length
      refine op_catA pins s σ H _ _ v u Q I rx ry ⟨l, b, vs, ws, rfl, rfl, r1, r2, by omega, fun ev => ?_, fun _ ew => ?_, fun _ _ p hp => hR.tup (q1.append q2) hp⟩
      · subst ev
        cases q1
        exact hR.scalar (.tup r2 q2)
      · subst ew
        cases q2
        rw [List.append_nil] at hR
        exact hR.scalar (.tup r1 q1)
    | _ => cases hw
  | _ => cases e <;> cases hw
theorem o_sub : OpR X (binaryOp .Sub) (rOp X.K .sub) := by
  intro pins s σ H x y v u Q I rx ry h
  obtain ⟨M, d, e, w, hd, he, hw, hR⟩ := h
  cases d with
  | int i =>
    cases e with
    | int j => cases hw; exact op_sub pins s σ H x y v u Q I rx ry ⟨i, j, hd.int, he.int, hR.scalar (.int _)⟩
    | bool b =>
      cases hw
      cases hd.int
      cases he.bool
      obtain ⟨t, rfl⟩ := rx
      cases ry
      exact PySem.IntBool.sub_int_bool ⟨.int (i - EV.b2i b), H, I.tok _, ⟨_, rfl⟩, hR.scalar (.int _)⟩
    | _ => cases hw
  | _ => cases e <;> cases hw
theorem small64_of {i : Int} (h : small64 i = true) : -(2 ^ 64) < i ∧ i < 2 ^ 64 := by
  unfold small64 at h
  rw [Bool.and_eq_true] at h
  exact ⟨of_decide_eq_true h.1, of_decide_eq_true h.2⟩
theorem o_mul : OpR X (binaryOp .Mult) (rOp X.K .mul) := by
  intro pins s σ H x y v u Q I rx ry h
  obtain ⟨M, d, e, w, hd, he, hw, hR⟩ := h
  cases d with
  | int i =>
    cases e with
    | int j =>
      obtain ⟨z, rfl⟩ := some_ite hw
      rw [Bool.or_eq_true] at z
      exact op_mul pins s σ H x y v u Q I rx ry ⟨i, j, hd.int, he.int, z.imp small64_of small64_of, hR.scalar (.int _)⟩
    | _ => cases hw
  | _ => cases e <;> cases hw
theorem o_fdiv : OpR X (binaryOp .FloorDiv) (rOp X.K .fdiv) := by
  intro pins s σ H x y v u Q I rx ry h
  obtain ⟨M, d, e, w, hd, he, hw, hR⟩ := h
  cases d with
  | int i =>
    cases e with
    | int j => obtain ⟨z, rfl⟩ := some_ite hw; exact op_fdiv pins s σ H x y v u Q I rx ry ⟨i, j, hd.int, he.int, z, hR.scalar (.int _)⟩
    | _ => cases hw
  | _ => cases e <;> cases hw
theorem o_mod : OpR X (binaryOp .Mod) (rOp X.K .mod) := by
  intro pins s σ H x y v u Q I rx ry h
  obtain ⟨M, d, e, w, hd, he, hw, hR⟩ := h
  cases d with
  | int i =>
    cases e with
    | int j => obtain ⟨z, rfl⟩ := some_ite hw; exact op_mod pins s σ H x y v u Q I rx ry ⟨i, j, hd.int, he.int, z, hR.scalar (.int _)⟩
    | _ => cases hw
  | _ => cases e <;> cases hw
theorem o_pow : OpR X (binaryOp .Pow) (rOp X.K .pow) := by
  intro pins s σ H x y v u Q I rx ry h
  obtain ⟨M, d, e, w, hd, he, hw, hR⟩ := h
  cases d with
  | int i =>
    cases e with
    | int j => obtain ⟨z, rfl⟩ := some_ite hw; exact op_pow pins s σ H x y v u Q I rx ry ⟨i, j, hd.int, he.int, z, hR.scalar (.int _)⟩
    | _ => cases hw
  | _ => cases e <;> cases hw
/-! ### comparisons -/
theorem o_eq (hu : X.A.units + 65 < cLine) : OpR X (compareOp .Eq) (rOp X.K .eq) := by
  intro pins s σ H x y v u Q I rx ry h
  obtain ⟨M, d, e, w, hd, he, hw, hR⟩ := h
  obtain ⟨z, rfl⟩ := some_ite (show (if eqOk d e = true then some (W.dat (.bool (PyData.eqv d e))) else none) = some w from hw)
  simp only [eqOk, Bool.and_eq_true] at z
  exact op_eqD (by omega) pins s σ H x y v u Q I rx ry ⟨d, e, hd.dp, he.dp, z.1, z.2, hR.scalar (.bl _)⟩
theorem o_ne (hu : X.A.units + 65 < cLine) : OpR X (compareOp .NotEq) (rOp X.K .ne) := by
  intro pins s σ H x y v u Q I rx ry h
  obtain ⟨M, d, e, w, hd, he, hw, hR⟩ := h
  obtain ⟨z, rfl⟩ := some_ite (show (if eqOk d e = true then some (W.dat (.bool (!PyData.eqv d e))) else none) = some w from hw)
  simp only [eqOk, Bool.and_eq_true] at z
  exact op_neD (by omega) pins s σ H x y v u Q I rx ry ⟨d, e, hd.dp, he.dp, z.1, z.2, hR.scalar (.bl _)⟩
theorem o_lt (hu : X.A.units + 65 < cLine) : OpR X (compareOp .Lt) (rOp X.K .lt) := by
  intro pins s σ H x y v u Q I rx ry h
  obtain ⟨M, d, e, w, hd, he, hw, hR⟩ := h
  obtain ⟨z, rfl⟩ := some_ite (show (if ltOk d e = true then some (W.dat (.bool (PySem.W.dataLt d e))) else none) = some w from hw)
  have hz : PySem.W.alike d e = true ∧ d.depth ≤ 64 ∧ d ≠ .none := by
    cases d <;> simp_all [ltOk]
  obtain ⟨as, r1⟩ := Dp.reads I d x v hd.dp rx
  obtain ⟨bs, r2⟩ := Dp.reads I e y u he.dp ry
  have hl := PySem.W.rcLt_alike d e X.A s v u as bs r1 r2 hz.1 hz.2.2 (by have := Nat.min_le_left d.depth e.depth; omega)
  exact hl X.prog X.w X.xe _ ⟨.bl _, H, I, rfl, hR.scalar (.bl _)⟩
theorem o_le : OpR X (compareOp .LtE) (rOp X.K .le) := by
  intro pins s σ H x y v u Q I rx ry h
  obtain ⟨M, d, e, w, hd, he, hw, hR⟩ := h
  cases d with
  | int i =>
    cases e with
    | int j => cases hw; exact op_le pins s σ H x y v u Q I rx ry ⟨i, j, hd.int, he.int, hR.scalar (.bl _)⟩
    | _ => cases hw
  | _ => cases e <;> cases hw
theorem o_gt : OpR X (compareOp .Gt) (rOp X.K .gt) := by
  intro pins s σ H x y v u Q I rx ry h
  obtain ⟨M, d, e, w, hd, he, hw, hR⟩ := h
  cases d with
  | int i =>
    cases e with
    | int j => cases hw; exact op_gt pins s σ H x y v u Q I rx ry ⟨i, j, hd.int, he.int, hR.scalar (.bl _)⟩
    | _ => cases hw
  | _ => cases e <;> cases hw
theorem o_ge : OpR X (compareOp .GtE) (rOp X.K .ge) := by
  intro pins s σ H x y v u Q I rx ry h
  obtain ⟨M, d, e, w, hd, he, hw, hR⟩ := h
  cases d with
  | int i =>
    cases e with
    | int j => cases hw; exact op_ge pins s σ H x y v u Q I rx ry ⟨i, j, hd.int, he.int, hR.scalar (.bl _)⟩
    | _ => cases hw
  | _ => cases e <;> cases hw
theorem room_in {A : Around} {d : D} {xs : List D} (sd : SeqAt.shaped d = true) (hu : A.units + 65 < cLine) : A.units + 1 + min (PyData.depthAll xs) d.depth < cLine := by
  have h : d.depth ≤ 64 := by
    simp only [SeqAt.shaped, Bool.and_eq_true, decide_eq_true_eq] at sd
    exact sd.2
  have := Nat.min_le_right (PyData.depthAll xs) d.depth
  omega
theorem o_in (hu : X.A.units + 65 < cLine) : OpR X (compareOp .In) (rOp X.K .isin) := by
  intro pins s σ H x y v u Q I rx ry h
  obtain ⟨M, d, e, w, hd, he, hw, hR⟩ := h
  cases e with
  | str b =>
    cases d with
    | str a => cases hw; exact op_in_str pins s σ H x y v u Q I rx ry ⟨a, b, hd.str, he.str, hR.scalar (.bl _)⟩
    | _ => cases hw
  | list xs =>
    obtain ⟨z, rfl⟩ := some_ite (show (if (SeqAt.shaped d && SeqAt.shaped (.list xs)) = true then some (W.dat (.bool (inD d xs))) else none) = some w by cases d <;> exact hw)
    rw [Bool.and_eq_true] at z
    obtain ⟨as, r1⟩ := Dp.reads I d x v hd.dp rx
    obtain ⟨bs, r2⟩ := Dp.reads I (.list xs) y u he.dp ry
    exact SeqAt.in_list_reads r2 r1 (SeqAt.canLay_of_shaped z.2) (SeqAt.canLay_of_shaped z.1) (room_in z.1 hu) ⟨.bl _, H, I, rfl, hR.scalar (.bl _)⟩
  | tuple xs =>
    obtain ⟨z, rfl⟩ := some_ite (show (if (SeqAt.shaped d && SeqAt.shaped (.tuple xs)) = true then some (W.dat (.bool (inD d xs))) else none) = some w by cases d <;> exact hw)
    rw [Bool.and_eq_true] at z
    obtain ⟨as, r1⟩ := Dp.reads I d x v hd.dp rx
    obtain ⟨bs, r2⟩ := Dp.reads I (.tuple xs) y u he.dp ry
    exact SeqAt.in_tuple_reads r2 r1 (SeqAt.canLay_of_shaped z.2) (SeqAt.canLay_of_shaped z.1) (room_in z.1 hu) ⟨.bl _, H, I, rfl, hR.scalar (.bl _)⟩
  | _ => cases d <;> cases hw
theorem o_notin (hu : X.A.units + 65 < cLine) : OpR X (compareOp .NotIn) (rOp X.K .notin) := by
  intro pins s σ H x y v u Q I rx ry h
  obtain ⟨M, d, e, w, hd, he, hw, hR⟩ := h
  cases e with
  | str b =>
    cases d with
    | str a => cases hw; exact L2.op_notIn_str pins s σ H x y v u Q I rx ry ⟨a, b, hd.str, he.str, hR.scalar (.bl _)⟩
    | _ => cases hw
  | list xs =>
    obtain ⟨z, rfl⟩ := some_ite (show (if (SeqAt.shaped d && SeqAt.shaped (.list xs)) = true then some (W.dat (.bool (!inD d xs))) else none) = some w by cases d <;> exact hw)
    rw [Bool.and_eq_true] at z
    obtain ⟨as, r1⟩ := Dp.reads I d x v hd.dp rx
    obtain ⟨bs, r2⟩ := Dp.reads I (.list xs) y u he.dp ry
    exact SeqAt.notIn_list_reads r2 r1 (SeqAt.canLay_of_shaped z.2) (SeqAt.canLay_of_shaped z.1) (room_in z.1 hu) ⟨.bl _, H, I, rfl, hR.scalar (.bl _)⟩
  | tuple xs =>
    obtain ⟨z, rfl⟩ := some_ite (show (if (SeqAt.shaped d && SeqAt.shaped (.tuple xs)) = true then some (W.dat (.bool (!inD d xs))) else none) = some w by cases d <;> exact hw)
    rw [Bool.and_eq_true] at z
    obtain ⟨as, r1⟩ := Dp.reads I d x v hd.dp rx
    obtain ⟨bs, r2⟩ := Dp.reads I (.tuple xs) y u he.dp ry
    exact SeqAt.notIn_tuple_reads r2 r1 (SeqAt.canLay_of_shaped z.2) (SeqAt.canLay_of_shaped z.1) (room_in z.1 hu) ⟨.bl _, H, I, rfl, hR.scalar (.bl _)⟩
  | _ => cases d <;> cases hw
/-! ### one operand -/
theorem o_neg : UnR X (unaryOp .USub) (rUn X.K .neg) := by
  intro pins s σ H x v Q I rx h
  obtain ⟨M, d, w, hd, hw, hR⟩ := h
  cases d with
  | int i => cases hw; exact un_neg pins s σ H x v Q I rx ⟨i, hd.int, hR.scalar (.int _)⟩
  | _ => cases hw
theorem isNone_of {v : V} {d : D} (h : Pk K M H v d) : decide (v = .non) = isNone d := by
  cases d with
  | none => cases h.non; rfl
  | bool b => cases h.bool; rfl
  | int i => cases h.int; rfl
  | str x => cases h.str; rfl
  | list xs => obtain ⟨a, vs, rfl, _⟩ := h.lst; rfl
  | tuple xs => obtain ⟨a, vs, rfl, _⟩ := h.tup; rfl
  | dict xs => exact (h.dict).elim
/-! ### built-in functions -/
def PkA (K : PySem.W.Frag) (M : AS) (H : Hp) : List V → List D → Prop := Paired fun v d => Pk K M H v d
def rBi (K : PySem.W.Frag) (b : Bi) : List V → Hp → VK → Prop := fun vs H Q => ∃ M ds w, PkA K M H vs ds ∧ bi b ds = some w ∧ Rs K M H Q w
theorem PkA.one {vs : List V} {d : D} (h : PkA K M H vs [d]) : ∃ v, vs = [v] ∧ Pk K M H v d := by
  cases h with | cons a t => cases t; exact ⟨_, rfl, a⟩
theorem bi_one {b : Bi} {ds : List D} {w : W} (h : bi b ds = some w) : ∃ d, ds = [d] := by
  match ds with
  | [] => cases b <;> cases h
  | [d] => exact ⟨d, rfl⟩
  | d :: e :: r => cases b <;> cases d <;> cases h
theorem c_len : CallR X (.builtin "len") (rBi X.K .len) := by
  intro pins s σ H vs us Q I r h
  obtain ⟨M, ds, w, hd, hw, hR⟩ := h
  obtain ⟨d, rfl⟩ := bi_one hw
  obtain ⟨v, rfl, hv⟩ := hd.one
  cases d with
  | list xs =>
    cases hw
    obtain ⟨a, ys, rfl, r1, q1⟩ := hv.lst
    refine call_len_seq pins s σ H _ us Q I r ⟨a, ys, rfl, .inl (.inl r1), ?_⟩
    rw [q1.length]
    exact hR.scalar (.int _)
  | tuple xs =>
    cases hw
    obtain ⟨a, ys, rfl, r1, q1⟩ := hv.tup
    refine call_len_seq pins s σ H _ us Q I r ⟨a, ys, rfl, .inr r1, ?_⟩
    rw [q1.length]
    exact hR.scalar (.int _)
  | str x =>
    obtain ⟨z, rfl⟩ := some_ite hw
    exact call_len_str pins s σ H _ us Q I r ⟨x, by rw [hv.str], z, hR.scalar (.int _)⟩
  | _ => cases hw
theorem c_abs : CallR X (.builtin "abs") (rBi X.K .abs) := by
  intro pins s σ H vs us Q I r h
  obtain ⟨M, ds, w, hd, hw, hR⟩ := h
  obtain ⟨d, rfl⟩ := bi_one hw
  obtain ⟨v, rfl, hv⟩ := hd.one
  cases d with
  | int i => cases hw; exact call_abs pins s σ H _ us Q I r ⟨i, by rw [hv.int], hR.scalar (.int _)⟩
  | _ => cases hw
theorem c_int : CallR X (.type "int") (rBi X.K .int) := by
  intro pins s σ H vs us Q I r h
  obtain ⟨M, ds, w, hd, hw, hR⟩ := h
  obtain ⟨d, rfl⟩ := bi_one hw
  obtain ⟨v, rfl, hv⟩ := hd.one
  cases d with
  | int i => cases hw; exact call_int1 pins s σ H _ us Q I r (.inl ⟨i, by rw [hv.int], hR.scalar (.int _)⟩)
  | bool b => cases hw; exact call_int1 pins s σ H _ us Q I r (.inr ⟨b, by rw [hv.bool], hR.scalar (.int _)⟩)
  | _ => cases hw
theorem signs_vals : ∀ (us : List Value) (cs : List Nat), us.length = cs.length → (∀ (j : Nat) (v : Value), us[j]? = some v → ∃ c u, cs[j]? = some c ∧ v = .str ⟨#[c]⟩ u) → Vals (cs.map fun c => V.str ⟨#[c]⟩) us
  | [], [], _, _ => .nil
  | [], _ :: _, h, _ => nomatch h
  | _ :: _, [], h, _ => nomatch h
  | v :: us, c :: cs, h, q => by
    obtain ⟨c', u, e, rfl⟩ := q 0 v rfl
    cases e
    exact .cons ⟨u, rfl⟩ (signs_vals us cs (by simpa using h) fun j w hw => q (j + 1) w hw)
theorem signs_dat : ∀ cs : List Nat, DatA K M H (cs.map fun c => V.str ⟨#[c]⟩) (cs.map fun c => PyData.str ⟨#[c]⟩)
  | [] => .nil
  | c :: cs => .cons (.str _) (signs_dat cs)
theorem chars_at {x : Str} {acc : Array Value} (h : ItemsOf (SignAt x) acc x.cps.size) : ∃ vs, Vals vs acc.toList ∧ DatA K M H vs (chars x) := by
  refine ⟨x.cps.toList.map fun c => V.str ⟨#[c]⟩, signs_vals _ _ (by simpa using h.1) fun j v hv => ?_, signs_dat _⟩
  obtain ⟨c, u, e1, e2⟩ := h.2 j v (by simpa using hv)
  exact ⟨c, u, by simpa using e1, e2⟩
theorem c_list (hc : X.calm = true) : CallR X (.type "list") (rBi X.K .list) := by
  intro pins s σ H vs us Q I r h
  obtain ⟨M, ds, w, hd, hw, hR⟩ := h
  obtain ⟨d, rfl⟩ := bi_one hw
  obtain ⟨v, rfl, hv⟩ := hd.one
  cases d with
  | list xs =>
    cases hw
    obtain ⟨a, ys, rfl, r1, q1⟩ := hv.lst
    exact call_list_of pins s σ H _ us Q I r ⟨a, ys, rfl, .inl (.inl r1), fun l hl => hR.lst q1 hl⟩
  | tuple xs =>
    cases hw
    obtain ⟨a, ys, rfl, r1, q1⟩ := hv.tup
    exact call_list_of pins s σ H _ us Q I r ⟨a, ys, rfl, .inr r1, fun l hl => hR.lst q1 hl⟩
  | str x =>
    obtain ⟨hz, rfl⟩ := some_ite hw
    obtain ⟨u, rfl, ru⟩ := Vals.one r
    cases hv
    obtain ⟨t, rfl⟩ := ru
    refine call_list_str (I.ok.hd hc) x t (fun h' tk acc' c' hk hS hacc => ?_) hz
    obtain ⟨vs, h1, h2⟩ := chars_at (K := X.K) (M := M) (H := H) hacc
    have hp : H s.heap.objs.size = none := I.hok.fresh (Nat.le_refl _)
    have hl := h2.length
    refine ⟨.ref _, upd H s.heap.objs.size (.lst vs), I.laid (t' := tk) hk (Nat.le_refl _) ?_, rfl, hR.lst h2 hp⟩
    exact ⟨by rw [hl]; simpa [chars, Str.length] using hz, acc'.toList, c', h1, by simpa using hS⟩
  | _ => cases hw
theorem c_tuple : CallR X (.type "tuple") (rBi X.K .tuple) := by
  intro pins s σ H vs us Q I r h
  obtain ⟨M, ds, w, hd, hw, hR⟩ := h
  obtain ⟨d, rfl⟩ := bi_one hw
  obtain ⟨v, rfl, hv⟩ := hd.one
  cases d with
  | list xs =>
    cases hw
    obtain ⟨a, ys, rfl, r1, q1⟩ := hv.lst
    exact call_tuple_of pins s σ H _ us Q I r ⟨a, ys, rfl, .inl ⟨.inl r1, fun l hl => hR.tup q1 hl⟩⟩
  | tuple xs =>
    cases hw
    obtain ⟨a, ys, rfl, r1, q1⟩ := hv.tup
    exact call_tuple_of pins s σ H _ us Q I r ⟨a, ys, rfl, .inr ⟨r1, hR.scalar (.tup r1 q1)⟩⟩
  | _ => cases hw
theorem bools_of : ∀ {ds : List D} {bs : List Bool} {vs : List V}, bools ds = some bs → DatA K M H vs ds → vs = bs.map V.bl
  | [], bs, vs, h, q => by cases h; cases q; rfl
  | .bool b :: r, bs, vs, h, q => by
    simp only [bools, Option.map_eq_some_iff] at h
    obtain ⟨bs', h, rfl⟩ := h
    cases q with
    | cons q t => cases q; rw [bools_of h t]; rfl
  | .none :: _, _, _, h, _ => by cases h
  | .int _ :: _, _, _, h, _ => by cases h
  | .str _ :: _, _, _, h, _ => by cases h
  | .list _ :: _, _, _, h, _ => by cases h
  | .tuple _ :: _, _, _, h, _ => by cases h
  | .dict _ :: _, _, _, h, _ => by cases h
theorem ints_of : ∀ {ds : List D} {ns : List Int} {vs : List V}, intL ds = some ns → DatA K M H vs ds → vs = ns.map V.int
  | [], bs, vs, h, q => by cases h; cases q; rfl
  | .int b :: r, bs, vs, h, q => by
    simp only [intL, Option.map_eq_some_iff] at h
    obtain ⟨bs', h, rfl⟩ := h
    cases q with
    | cons q t => cases q; rw [ints_of h t]; rfl
  | .none :: _, _, _, h, _ => by cases h
  | .bool _ :: _, _, _, h, _ => by cases h
  | .str _ :: _, _, _, h, _ => by cases h
  | .list _ :: _, _, _, h, _ => by cases h
  | .tuple _ :: _, _, _, h, _ => by cases h
  | .dict _ :: _, _, _, h, _ => by cases h
theorem c_all (hc : X.calm = true) : CallR X (.builtin "all") (rBi X.K .all) := by
  intro pins s σ H vs us Q I r h
  obtain ⟨M, ds, w, hd, hw, hR⟩ := h
  obtain ⟨d, rfl⟩ := bi_one hw
  obtain ⟨v, rfl, hv⟩ := hd.one
  cases d with
  | list xs =>
    simp only [bi, Option.map_eq_some_iff] at hw
    obtain ⟨bs, hb, rfl⟩ := hw
    obtain ⟨a, ys, rfl, r1, q1⟩ := hv.lst
    cases bools_of hb q1
    exact cr_all hc pins s σ H _ us Q I r ⟨a, bs, rfl, .inl r1, hR.scalar (.bl _)⟩
  | _ => cases hw
theorem c_any (hc : X.calm = true) : CallR X (.builtin "any") (rBi X.K .any) := by
  intro pins s σ H vs us Q I r h
  obtain ⟨M, ds, w, hd, hw, hR⟩ := h
  obtain ⟨d, rfl⟩ := bi_one hw
  obtain ⟨v, rfl, hv⟩ := hd.one
  cases d with
  | list xs =>
    simp only [bi, Option.map_eq_some_iff] at hw
    obtain ⟨bs, hb, rfl⟩ := hw
    obtain ⟨a, ys, rfl, r1, q1⟩ := hv.lst
    cases bools_of hb q1
    exact cr_any hc pins s σ H _ us Q I r ⟨a, bs, rfl, .inl r1, hR.scalar (.bl _)⟩
  | _ => cases hw
theorem c_sum (hc : X.calm = true) : CallR X (.builtin "sum") (rBi X.K .sum) := by
  intro pins s σ H vs us Q I r h
  obtain ⟨M, ds, w, hd, hw, hR⟩ := h
  obtain ⟨d, rfl⟩ := bi_one hw
  obtain ⟨v, rfl, hv⟩ := hd.one
  cases d with
  | list xs =>
    simp only [bi, Option.map_eq_some_iff] at hw
    obtain ⟨bs, hb, rfl⟩ := hw
    obtain ⟨a, ys, rfl, r1, q1⟩ := hv.lst
    cases ints_of hb q1
    exact cr_sum hc pins s σ H _ us Q I r ⟨a, bs, rfl, .inl r1, hR.scalar (.int _)⟩
  | _ => cases hw
/-! ### sorted -/
theorem reads_each (I : Inv X pins σ H s) : ∀ {vs : List V} {ds : List D} {us : List Value}, DatA X.K M H vs ds → Vals vs us → PySem.W.EachIs (fun u d => (∃ v, RelV v u ∧ Dat X.K M H v d) ∧ ∃ as, Reads s.heap u d as) us ds
  | _, _, _, .nil, .nil => .nil
  | _, _, _, .cons h t, .cons r q => .cons ⟨⟨_, r, h⟩, Dp.reads I _ _ _ h.dp r⟩ (reads_each I t q)
theorem each_vals : ∀ {us : List Value} {ds : List D}, PySem.W.EachIs (fun u d => ∃ v, RelV v u ∧ Dat K M H v d) us ds → ∃ vs, Vals vs us ∧ DatA K M H vs ds
  | _, _, .nil => ⟨[], .nil, .nil⟩
  | _, _, .cons ⟨v, r, h⟩ t => by
    obtain ⟨vs, h1, h2⟩ := each_vals t
    exact ⟨v :: vs, .cons r h1, .cons h h2⟩
theorem sortOk_of {xs : List D} (h : sortOk xs = true) : PySem.W.AllAlike xs ∧ (∀ x ∈ xs, x ≠ .none) ∧ ∀ x ∈ xs, x.depth ≤ 64 := by
  simp only [sortOk, Bool.and_eq_true, allAlike, depthOk, List.all_eq_true, decide_eq_true_eq] at h
  obtain ⟨⟨h1, h2⟩, h3⟩ := h
  refine ⟨fun d hd d' hd' => h1 d hd d' hd', fun d hd z => ?_, h2⟩
  have q := h3 d hd
  subst z
  cases q
theorem dLe_eq : (PySem.W.dataLe false fun d : D => d) = dLe := by
  rw [PySem.W.dataLe_eq]; rfl
/-- what sorted leaves: a new list -/
theorem sorted_left {l : Addr} {vs : List V} {ds : List D} {its : List Value} {Q : VK} (I : Inv X pins σ H s) (hl : s.heap.IsList l its.toArray) (q1 : DatA X.K M H vs ds) (r : Vals vs its) (hz : vs.length ≤ sizeLine) (ok : sortOk ds = true) (hu : X.A.units + 67 < cLine)
    (hQ : ∀ ws, DatA X.K M H ws (sortD ds) → ∀ p, H p = none → Q (.ref p) (upd H p (.lst ws))) : wpAny (model X.prog X.w) X.A (call (.builtin "sorted") [.ref l]) (EP X pins σ Q) X.xe s := by
  obtain ⟨h1, h2, h3⟩ := sortOk_of ok
  have hlen := q1.length
  have hr := reads_each I q1 r
  refine EVS.sorted_any (R := fun u d => ∃ v, RelV v u ∧ Dat X.K M H v d) hl (hr.mono fun _ _ q => q.1) (hr.mono fun _ _ q => q.2) h1 h2 (by omega) (fun d hd => by have := h3 d hd; omega) fun out ho eo => ?_
  rw [dLe_eq, sortD_eq] at eo
  obtain ⟨ws, hw, hd⟩ := each_vals eo
  obtain ⟨e, he⟩ := sortedAll_at s.heap its out.toArray
  have sz : H (s.heap.objs.size + 1) = none := I.hok.fresh (Nat.le_succ _)
  have e1 := hw.length
  refine ⟨.ref _, upd H (s.heap.objs.size + 1) (.lst ws), I.laid (t' := s.toks) (fun b o q => sortedAll_old q) (Nat.le_succ _) ?_, rfl, hQ ws hd _ sz⟩
  exact ⟨by omega, out, e, hw, he⟩
theorem c_sorted (hu : X.A.units + 67 < cLine) : CallR X (.builtin "sorted") (rBi X.K .sorted) := by
  intro pins s σ H vs us Q I r h
  obtain ⟨M, ds, w, hd, hw, hR⟩ := h
  obtain ⟨d, rfl⟩ := bi_one hw
  obtain ⟨v, rfl, hv⟩ := hd.one
  cases d with
  | list xs =>
    obtain ⟨z, rfl⟩ := some_ite hw
    obtain ⟨a, ys, rfl, r1, q1⟩ := hv.lst
    obtain ⟨u, rfl, ru⟩ := Vals.one r
    cases ru
    obtain ⟨hz, its, n, rv, hl, e⟩ := lstR I r1
    exact sorted_left I ⟨_, e, rfl, n, rfl⟩ q1 rv hz z hu fun ws hw p hp => hR.lst hw hp
  | _ => cases hw
/-! ### sorted(set(x)) -/
def SetVO (w : World) (us : List Value) (a : Addr) : HO := .ext fun h => EVK.SetV w us h a
theorem setVO_new {w : World} {P : Program} {H : Hp} {h : Heap} {a : Addr} {us : List Value} (R : EVK.SetV w us h a) : ObjOk P w H h a (SetVO w us a) := by
  have ⟨es, ep, t, ⟨o, ho, r⟩, q⟩ := R
  exact ⟨R, ⟨o, ho⟩, fun h1 h2 p k => EVK.SetV.at p k⟩
def rSetD (K : PySem.W.Frag) (w : World) : List V → Hp → VK → Prop := fun vs H Q => ∃ M d ds, PkA K M H vs [d] ∧ items d = some ds ∧ setOk ds = true ∧
  ∀ a us ws es, H a = none → Vals ws us → DatA K M H ws es → es.Nodup → (∀ x, x ∈ es ↔ x ∈ ds) → Q (.ref a) (upd H a (SetVO w us a))
theorem alike_int {i : Int} {d : D} (h : PySem.W.alike (.int i) d = true) : ∃ j, d = .int j := by
  cases d <;> first | exact ⟨_, rfl⟩ | (simp [PySem.W.alike] at h)
theorem alike_str {x : Str} {d : D} (h : PySem.W.alike (.str x) d = true) : ∃ y, d = .str y := by
  cases d <;> first | exact ⟨_, rfl⟩ | (simp [PySem.W.alike] at h)
theorem alike_tup {xs : List D} {d : D} (h : PySem.W.alike (.tuple xs) d = true) : ∃ ys, d = .tuple ys := by
  cases d <;> first | exact ⟨_, rfl⟩ | (simp [PySem.W.alike] at h)
theorem all_of {α : Type} {f : α → D} : ∀ {ds : List D}, (∀ d ∈ ds, ∃ x, d = f x) → ∃ xs : List α, ds = xs.map f
  | [], _ => ⟨[], rfl⟩
  | d :: ds, h => by
    obtain ⟨x, rfl⟩ := h d List.mem_cons_self
    obtain ⟨xs, rfl⟩ := all_of fun d hd => h d (List.mem_cons_of_mem _ hd)
    exact ⟨x :: xs, rfl⟩
structure SetOk (ds : List D) : Prop where
  len : ds.length < 64
  alike : ∀ x ∈ ds, ∀ y ∈ ds, PySem.W.alike x y = true
  key : ∀ x ∈ ds, keyed x = true
  depth : ∀ x ∈ ds, x.depth ≤ 8
  kind : (∃ ns : List Int, ds = ns.map .int) ∨ (∃ xs : List Str, ds = xs.map .str) ∨ ∀ d ∈ ds, ∃ xs, d = PyData.tuple xs
theorem setOk_of {ds : List D} (h : setOk ds = true) : SetOk ds := by
  simp only [setOk, allAlike, Bool.and_eq_true, List.all_eq_true, decide_eq_true_eq] at h
  obtain ⟨⟨⟨h1, h2⟩, h3⟩, h4⟩ := h
  refine ⟨h1, h2, h3, h4, ?_⟩
  cases ds with
  | nil => exact .inl ⟨[], rfl⟩
  | cons d ds =>
    have al := h2 d List.mem_cons_self
    have kd := h3 d List.mem_cons_self
    cases d with
    | int i => exact .inl (all_of fun x hx => alike_int (al x hx))
    | str i => exact .inr (.inl (all_of fun x hx => alike_str (al x hx)))
    | tuple i => exact .inr (.inr fun x hx => alike_tup (al x hx))
    | _ => cases kd
theorem setOk_tot {ds : List D} (h : setOk ds = true) : Tot ds := tot_keyed (setOk_of h).key (setOk_of h).alike
theorem dat_ints : ∀ {ns : List Int} {vs : List V}, DatA K M H vs (ns.map .int) → vs = ns.map V.int
  | [], _, h => by cases h; rfl
  | n :: ns, _, h => by
    cases h with
    | cons h t =>
      cases h
      rw [dat_ints t]; rfl
theorem ints_dat : ∀ (ns : List Int), DatA K M H (ns.map V.int) (ns.map .int)
  | [] => .nil
  | n :: ns => .cons (.int n) (ints_dat ns)
theorem intsAre_of : ∀ {ns : List Int} {us : List Value}, Vals (ns.map V.int) us → PyProof.Rows.IntsAre us ns
  | [], _, .nil => .nil
  | n :: ns, _, .cons r t => by
    obtain ⟨tk, rfl⟩ := r
    exact .cons n tk (intsAre_of t)
theorem vals_ints : ∀ {ns : List Int} {us : List Value}, PyProof.Rows.IntsAre us ns → Vals (ns.map V.int) us
  | _, _, .nil => .nil
  | _, _, .cons n tk t => .cons ⟨tk, rfl⟩ (vals_ints t)
theorem dat_strs : ∀ {xs : List Str} {vs : List V}, DatA K M H vs (xs.map .str) → vs = xs.map V.str
  | [], _, h => by cases h; rfl
  | n :: ns, _, h => by
    cases h with
    | cons h t =>
      cases h
      rw [dat_strs t]; rfl
theorem strs_dat : ∀ (xs : List Str), DatA K M H (xs.map V.str) (xs.map .str)
  | [] => .nil
  | n :: ns => .cons (.str n) (strs_dat ns)
theorem strs_of : ∀ {xs : List Str} {us : List Value}, Vals (xs.map V.str) us → ∃ U : List (Str × Tok), us = U.map (fun p => Value.str p.1 p.2) ∧ xs = U.map (·.1)
  | [], _, .nil => ⟨[], rfl, rfl⟩
  | n :: ns, _, .cons r t => by
    obtain ⟨tk, rfl⟩ := r
    obtain ⟨U, e1, e2⟩ := strs_of t
    exact ⟨(n, tk) :: U, by rw [e1]; rfl, by rw [e2]; rfl⟩
theorem vals_strs : ∀ (U : List (Str × Tok)), Vals ((U.map (·.1)).map V.str) (U.map fun p => Value.str p.1 p.2)
  | [] => .nil
  | p :: U => .cons ⟨p.2, rfl⟩ (vals_strs U)
/-- tuples: their places and data -/
theorem dat_tups : ∀ {ds : List D} {vs : List V}, (∀ d ∈ ds, ∃ xs, d = PyData.tuple xs) → DatA K M H vs ds → ∃ L : List (Addr × D), ds = L.map (·.2) ∧ vs = L.map (fun p => V.ref p.1) ∧ ∀ p ∈ L, Dat K M H (.ref p.1) p.2
  | [], _, _, h => by cases h; exact ⟨[], rfl, rfl, fun p hp => nomatch hp⟩
  | d :: ds, _, hd, h => by
    cases h with
    | cons h t =>
      obtain ⟨L, e1, e2, e3⟩ := dat_tups (fun x hx => hd x (List.mem_cons_of_mem _ hx)) t
      obtain ⟨xs, rfl⟩ := hd d List.mem_cons_self
      have hh := h
      cases h with
      | tup r q =>
        refine ⟨(_, .tuple xs) :: L, by rw [e1]; rfl, by rw [e2]; rfl, fun p hp => ?_⟩
        rcases List.mem_cons.mp hp with z | z
        · subst z; exact hh
        · exact e3 p z
theorem tups_dat : ∀ (L : List (Addr × D)), (∀ p ∈ L, Dat K M H (.ref p.1) p.2) → DatA K M H (L.map fun p => V.ref p.1) (L.map (·.2))
  | [], _ => .nil
  | p :: L, h => .cons (h p List.mem_cons_self) (tups_dat L fun q hq => h q (List.mem_cons_of_mem _ hq))
theorem tups_vals : ∀ (L : List (Addr × D)), Vals (L.map fun p => V.ref p.1) (L.map fun p => Value.ref p.1)
  | [] => .nil
  | p :: L => .cons rfl (tups_vals L)
theorem vals_tups : ∀ {L : List (Addr × D)} {us : List Value}, Vals (L.map fun p => V.ref p.1) us → us = L.map fun p => Value.ref p.1
  | [], _, .nil => rfl
  | p :: L, _, .cons r t => by rw [vals_tups t]; cases r; rfl
/-- rows of a table traced back -/
theorem traced {α β : Type} {f : α → β} {T : List α} : ∀ {L : List β}, (∀ r ∈ L, r ∈ T.map f) → ∃ T2 : List α, L = T2.map f ∧ ∀ p ∈ T2, p ∈ T
  | [], _ => ⟨[], rfl, fun p hp => nomatch hp⟩
  | r :: L, h => by
    obtain ⟨T2, e, h2⟩ := traced fun r hr => h r (List.mem_cons_of_mem _ hr)
    obtain ⟨p, hp, rfl⟩ := List.mem_map.mp (h r List.mem_cons_self)
    refine ⟨p :: T2, by rw [e]; rfl, fun q hq => ?_⟩
    rcases List.mem_cons.mp hq with rfl | hq
    · exact hp
    · exact h2 q hq
theorem int_inj {i j : Int} (h : (PyData.int i) = .int j) : i = j := by cases h; rfl
theorem nodup_map {α β : Type} {f : α → β} (hf : ∀ a b, f a = f b → a = b) {l : List α} (h : l.Nodup) : (l.map f).Nodup := List.pairwise_map.mpr (List.Pairwise.imp (fun {a b} n e => n (hf a b e)) h)
theorem c_set (hc : X.calm = true) (hu : X.A.units + 67 < cLine) : CallR X (.type "set") (rSetD X.K X.w) := by
  intro pins s σ H vs us Q I r h
  obtain ⟨M, d, ds, hd, hi, hok, q⟩ := h
  obtain ⟨v, rfl, hv⟩ := hd.one
  have hn : H s.heap.objs.size = none := I.hok.fresh (Nat.le_refl _)
  have SO := setOk_of hok
  have hl := SO.len
  have main : ∀ (a : Addr) (xs : List V) (its : List Value) (tp : Bool), v = .ref a → Vals xs its → DatA X.K M H xs ds → EVK.Src s.heap a its.toArray tp → wpAny (model X.prog X.w) X.A (call (.type "set") us) (EP X pins σ Q) X.xe s := by
    intro a xs its tp ev rv dv sr
    subst ev
    rw [Vals.ref1 r]
    rcases SO.kind with ⟨ns, e0⟩ | ⟨xs, e0⟩ | ht
    · subst e0
      cases dat_ints dv
      rw [List.length_map] at hl
      refine EVK.call_set_ints tp (I.ok.hd hc) sr (ns := ns) (intsAre_of rv) (by unfold scanBound; omega) fun h' tk us2 ks hS hi nd hm k => ?_
      refine ⟨.ref _, upd H s.heap.objs.size (SetVO X.w us2 s.heap.objs.size), I.laid (t' := tk) k (Nat.le_refl _) (setVO_new hS), rfl, q _ us2 (ks.map V.int) (ks.map .int) hn (vals_ints hi) (ints_dat ks) (nodup_map (fun _ _ => int_inj) nd) fun x => ?_⟩
      simp only [List.mem_map, hm]
    · subst e0
      cases dat_strs dv
      rw [List.length_map] at hl
      obtain ⟨U, e1, e2⟩ := strs_of rv
      subst e1 e2
      rw [List.length_map] at hl
      refine EVN.call_set_txts tp (I.ok.hd hc) sr (U := U) (by simp) (by unfold scanBound; omega) fun h' tk Vs hS nd hm k => ?_
      refine ⟨.ref _, upd H s.heap.objs.size (SetVO X.w _ s.heap.objs.size), I.laid (t' := tk) k (Nat.le_refl _) (setVO_new hS), rfl, q _ _ ((Vs.map (·.1)).map V.str) ((Vs.map (·.1)).map .str) hn (vals_strs Vs) (strs_dat _) (nodup_map (fun _ _ e => by cases e; rfl) nd) fun x => ?_⟩
      constructor
      · intro m
        obtain ⟨y, m2, rfl⟩ := List.mem_map.mp m
        exact List.mem_map.mpr ⟨y, (hm y).mp m2, rfl⟩
      · intro m
        obtain ⟨y, m2, rfl⟩ := List.mem_map.mp m
        exact List.mem_map.mpr ⟨y, (hm y).mpr m2, rfl⟩
    · obtain ⟨T, e1, e2, hT⟩ := dat_tups ht dv
      subst e1 e2
      have ei := vals_tups rv
      subst ei
      have kd : ∀ p ∈ T, keyed p.2 = true := fun p hp => SO.key _ (List.mem_map.mpr ⟨p, hp, rfl⟩)
      have dp : ∀ p ∈ T, p.2.depth ≤ 8 := fun p hp => SO.depth _ (List.mem_map.mpr ⟨p, hp, rfl⟩)
      rw [List.length_map] at hl
      refine EVN.call_set_rws (ks := T.map fun p => (p.1, key p.2)) tp (I.ok.hd hc) sr (by simp) (fun p hp => ?_) (by simpa using hl) (by omega) fun h' tk L2 hS nd h1 h2 k => ?_
      · obtain ⟨r, hr, rfl⟩ := List.mem_map.mp hp
        obtain ⟨as, rd⟩ := Dp.reads I _ _ _ (hT r hr).dp (show RelV (.ref r.1) (.ref r.1) from rfl)
        exact ⟨reads_key _ _ as (kd r hr) rd, Nat.le_trans (key_depth _ (kd r hr)) (dp r hr)⟩
      · obtain ⟨T2, e1, h3⟩ := traced h1
        subst e1
        rw [List.map_map] at hS nd h2
        refine ⟨.ref _, upd H s.heap.objs.size (SetVO X.w _ s.heap.objs.size), I.laid (t' := tk) k (Nat.le_refl _) (setVO_new hS), rfl, q _ _ (T2.map fun p => V.ref p.1) (T2.map (·.2)) hn (tups_vals T2) (tups_dat T2 fun p hp => hT p (h3 p hp)) ?_ fun x => ?_⟩
        · exact List.pairwise_map.mpr (List.Pairwise.imp (fun {a b} n e => n (congrArg key e)) (List.pairwise_map.mp nd))
        · constructor
          · intro m
            obtain ⟨p, hp, rfl⟩ := List.mem_map.mp m
            exact List.mem_map.mpr ⟨p, h3 p hp, rfl⟩
          · intro m
            obtain ⟨p, hp, rfl⟩ := List.mem_map.mp m
            obtain ⟨p2, hp2, e⟩ := List.mem_map.mp (h2 (p.1, key p.2) (List.mem_map.mpr ⟨p, hp, rfl⟩))
            have e : key p2.2 = key p.2 := e
            exact List.mem_map.mpr ⟨p2, hp2, key_inj _ _ (kd p2 (h3 p2 hp2)) (kd p hp) e⟩
  cases d with
  | list xs =>
    cases hi
    obtain ⟨a, ys, rfl, r1, q1⟩ := hv.lst
    obtain ⟨hz, its, n, rv, hl, e⟩ := lstR I r1
    exact main a ys its false rfl rv q1 ⟨_, e, rfl, n, rfl⟩
  | tuple xs =>
    cases hi
    obtain ⟨a, ys, rfl, r1, q1⟩ := hv.tup
    obtain ⟨its, rv, ⟨o, ho, hc, n, hd⟩, _⟩ := I.tuple r1
    exact main a ys its true rfl rv q1 ⟨o, ho, hc, n, hd⟩
  | _ => cases hi
def rSortV (K : PySem.W.Frag) (w : World) : List V → Hp → VK → Prop := fun vs H Q => ∃ a us ws es M, vs = [.ref a] ∧ H a = some (SetVO w us a) ∧ Vals ws us ∧ DatA K M H ws es ∧ sortOk es = true ∧ es.length < 64 ∧
  ∀ ws' cs, cs.Perm es → DatA K M H ws' (sortD cs) → ∀ p, H p = none → Q (.ref p) (upd H p (.lst ws'))
theorem c_sortV (hc : X.calm = true) (hu : X.A.units + 67 < cLine) : CallR X (.builtin "sorted") (rSortV X.K X.w) := by
  intro pins s σ H vs us Q I r h
  obtain ⟨a, us2, ws, es, M, rfl, ha, hv, hd, hok, hl, q⟩ := h
  have S : EVK.SetV X.w us2 s.heap a := (I.hok a _ ha).1
  rw [Vals.ref1 r]
  obtain ⟨h1, h2, h3⟩ := sortOk_of hok
  have hr := reads_each I hd hv
  refine EVK.sorted_setV (R := fun u d => ∃ v, RelV v u ∧ Dat X.K M H v d) S (I.ok.hd hc) (hr.mono fun _ _ q => q.1) (hr.mono fun _ _ q => q.2) h1 h2 (by rw [sizeLine_eq]; omega) (fun d hd => by have := h3 d hd; omega) fun s' p out c cs k g o hp hg hperm eo => ?_
  rw [dLe_eq, sortD_eq] at eo
  obtain ⟨ws2, hw, hd2⟩ := each_vals eo
  have hn : H p = none := I.hok.fresh hp
  have hlen : ws2.length ≤ sizeLine := by
    rw [hd2.length, (sortD_perm cs).length_eq, hperm.length_eq, sizeLine_eq]; omega
  have J : Inv X pins σ (upd H p (.lst ws2)) { s with heap := s'.heap, gens := s'.gens, drawn := s'.drawn, toks := s'.toks } :=
    I.call (ch := []) (Un.laid k hp hn) (I.hok.laid k hp ⟨hlen, out, c, hw, hg⟩) (by rw [g]; exact I.bare) (fun _ z => nomatch z)
  have e : s' = { s with heap := s'.heap, gens := s'.gens, drawn := s'.drawn, toks := s'.toks } := by
    cases s'
    cases s
    cases o
    rfl
  rw [e]
  exact ⟨.ref p, _, J, rfl, q ws2 cs hperm hd2 p hn⟩
/-! ### sum(xs, []) -/
def rSumL (K : PySem.W.Frag) : List V → Hp → VK → Prop := fun vs H Q => ∃ M v p xs ls, vs = [v, .ref p] ∧ Pk K M H v (.list xs) ∧ H p = some (.lst []) ∧ listL xs = some ls ∧ ls.flatten.length ≤ sizeLine ∧
  (ls.flatten = [] → Q (.ref p) H) ∧ ∀ ws q, DatA K M H ws ls.flatten → H q = none → Q (.ref q) (upd H q (.lst ws))
theorem lists_dat (I : Inv X pins σ H s) : ∀ {xs : List D} {ls : List (List D)} {vs : List V} {us : List Value}, listL xs = some ls → DatA X.K M H vs xs → Vals vs us →
    ∃ (zss : List (List Value)) (wss : List (List V)), us.length = zss.length ∧ (∀ (i : Nat) v, us[i]? = some v → ∃ b zs c, zss[i]? = some zs ∧ v = .ref b ∧ s.heap.get? b = some (EVM.lob zs c)) ∧ Vals wss.flatten zss.flatten ∧ DatA X.K M H wss.flatten ls.flatten
  | [], ls, _, _, e, .nil, .nil => by
    cases e
    exact ⟨[], [], rfl, fun i v h => by simp at h, .nil, .nil⟩
  | x :: xs, ls, _, _, e, .cons h t, .cons r q => by
    cases x with
    | list ys =>
      simp only [listL, Option.map_eq_some_iff] at e
      obtain ⟨ls', e1, rfl⟩ := e
      obtain ⟨zss, wss, a1, a2, a3, a4⟩ := lists_dat I e1 t q
      cases h with
      | lst r1 n q1 =>
        cases r
        obtain ⟨hz, its, n, rv, hl, e⟩ := lstR I r1
        refine ⟨its :: zss, _ :: wss, by simp [a1], fun i v h => ?_, rv.append a3, q1.append a4⟩
        cases i with
        | zero => simp at h; exact ⟨_, its, n, rfl, h.symm, e⟩
        | succ i => exact a2 i v (by simpa using h)
    | _ => cases e
theorem c_sumL (hc : X.calm = true) : CallR X (.builtin "sum") (rSumL X.K) := by
  intro pins s σ H vs us Q I r h
  obtain ⟨M, v, p, xs, ls, rfl, hv, hp, hls, hz, q0, q1⟩ := h
  obtain ⟨a, ys, rfl, r1, d1⟩ := hv.lst
  cases r with
  | cons ra t =>
    cases t with
    | cons rp t =>
      cases t
      cases ra
      cases rp
      obtain ⟨hz1, its, n, rv, hl, e⟩ := lstR I r1
      obtain ⟨hz2, its2, n2, rv2, hl2, e2⟩ := lstR I (.inl hp)
      cases rv2
      obtain ⟨zss, wss, a1, a2, a3, a4⟩ := lists_dat I hls d1 rv
      have hlen : zss.flatten.length ≤ sizeLine := by rw [← a3.length, a4.length]; exact hz
      refine EVM.call_sum (I.ok.hd hc) e e2 a1 a2 hlen (fun ev h' tk k => ?_) fun h' tk T c k hT g => ?_
      · subst ev
        have z0 : zss = [] := List.eq_nil_of_length_eq_zero (by simpa using a1.symm)
        subst z0
        have w0 : wss.flatten = [] := by
          cases hw : wss.flatten with
          | nil => rfl
          | cons x y => rw [hw] at a3; cases a3
        rw [w0] at a4
        have l0 : ls.flatten = [] := by
          cases hw : ls.flatten with
          | nil => rfl
          | cons x y => rw [hw] at a4; cases a4
        exact ⟨.ref p, H, I.kept (t' := tk) k, rfl, q0 l0⟩
      · have hn : H T = none := I.hok.fresh hT
        exact ⟨.ref T, upd H T (.lst wss.flatten), I.laid (t' := tk) k hT ⟨by rw [a3.length]; exact hlen, _, c, a3, g⟩, rfl, q1 _ T a4 hn⟩
end EV

end
section
set_option linter.all false
set_option maxRecDepth 100000
set_option Elab.async false
/-! EV, part 3: expressions -/
namespace EV
open PySem L2 PyProof.Rows
abbrev St := L2.St
/-! ### the text and the language side by side -/
def Fn.ioOk (fn : Fn) : Bool := match fn.io with | some j => decide (j < fn.np) | none => true
structure Gam where
  T : List Fn
  N : List Str
  /-- the module's constants -/
  G : List (Str × D)
  /-- calls by names: the def, the names as they stand, where each parameter's value stands -/
  W : List (Nat × List Str × List Nat)
  /-- the exception classes -/
  E : List XC
def Gam.F (Γ : Gam) (i : Nat) : Option Fn := Γ.T[i]?
def visC (sc : Scope) (x : Str) : Bool := match sc.names.lookup x with
  | some .local => true
  | some .cell => true
  | some .free => true
  | _ => false
def glC (sc : Scope) (x : Str) : Bool := match sc.names.lookup x with
  | some .globalImplicit => true
  | _ => false
def nmC (x : Str) : Bool := decide (x ≠ ("__debug__" : Str)) && decide (x ≠ ("__classdict__" : Str)) && decide (x ≠ ("__name__" : Str))
def cstC : D → Const → Bool
  | .none, .none => true
  | .bool a, .bool b => a == b
  | .int a, .int b => decide (a = b)
  | .str a, .str b => decide (a = b)
  | _, _ => false
def opC : Op2 → Operator → Bool
  | .add, .Add | .sub, .Sub | .mul, .Mult | .fdiv, .FloorDiv | .mod, .Mod | .pow, .Pow => true
  | _, _ => false
def cmpC : Op2 → CmpOp → Bool
  | .eq, .Eq | .ne, .NotEq | .lt, .Lt | .le, .LtE | .gt, .Gt | .ge, .GtE | .isin, .In | .notin, .NotIn => true
  | _, _ => false
def biName : Bi → Str
  | .len => "len" | .abs => "abs" | .int => "int" | .list => "list" | .tuple => "tuple" | .sorted => "sorted" | .sortset => "sorted" | .all => "all" | .any => "any" | .sum => "sum" | .sumL => "sum"
def tyName : Ty → Str
  | .int => "int" | .bool => "bool" | .str => "str" | .list => "list" | .tuple => "tuple"
/-- the built-in names that may be met -/
def biNames : List Str := ["len", "abs", "int", "list", "tuple", "sorted", "set", "all", "any", "sum", "bool", "str", "isinstance", "range", "enumerate", "zip", "LookupError", "ValueError", "super"]
/-- built-ins that are met in one form alone -/
def Bi.odd : Bi → Bool
  | .sortset | .sumL => true
  | _ => false
def argsOf : Bi → List Expr → List Expr
  | .sortset, [.Call _ ys _ _] => ys
  | .sumL, [x, _] => [x]
  | .sortset, _ => []
  | .sumL, _ => []
  | _, xs => xs
def oddC (sc : Scope) : Bi → List Expr → Bool
  | .sortset, [.Call (.Name y _) [_] [] _] => decide (y = "set") && glC sc y
  | .sumL, [_, .List [] _] => true
  | .sortset, _ => false
  | .sumL, _ => false
  | _, _ => true
def isSlice : Expr → Bool
  | .Slice .. => true
  | _ => false
def tysC (sc : Scope) : List Ty → List Expr → Bool
  | [], [] => true
  | t :: ts, .Name x _ :: es => decide (x = tyName t) && glC sc x && tysC sc ts es
  | _, _ => false
def ownOf (N : List Str) (is : List Nat) : List (Str × Nat) := is.map fun i => (N.getD i "", i)
/-- a comprehension's target: names of its own -/
def locC (scope : Scope) (x : Str) : Bool := match scope.names.lookup x with
  | some .local => true
  | some .cell => true
  | _ => false
def nameC (N : List Str) (scope : Scope) (i : Nat) : Expr → Bool
  | .Name x _ => decide (N[i]? = some x) && locC scope x
  | _ => false
def namesC (N : List Str) (scope : Scope) : List Nat → List Expr → Bool
  | [], [] => true
  | i :: is, e :: es => nameC N scope i e && namesC N scope is es
  | _, _ => false
def tgC (N : List Str) (scope : Scope) : Tg → Expr → Bool
  | .one i, e => nameC N scope i e
  | .many is, .Tuple es _ _ => namesC N scope is es
  | _, _ => false
def isTuple : Expr → Bool
  | .Tuple .. => true
  | _ => false
def methName : Me → Str
  | .append => "append" | .extend => "extend" | .popAt => "pop"
def isNC (op : CmpOp) : List CmpOp → List Expr → Bool
  | [o], [.Constant .none _ _] => decide (o = op)
  | _, _ => false
theorem isNC_of {op : CmpOp} {ops : List CmpOp} {ys : List Expr} (h : isNC op ops ys = true) : ∃ k p, ops = [op] ∧ ys = [.Constant .none k p] := by
  unfold isNC at h
  split at h
  · rename_i o k p
    cases (of_decide_eq_true h)
    exact ⟨k, p, rfl, rfl⟩
  · cases h
def headC (f : Expr → Bool) : List Expr → Bool
  | x :: _ => f x
  | [] => false
def soleC (sc : Scope) (t : Str) : List Ty → Bool
  | [ty] => decide (t = tyName ty) && glC sc t
  | _ => false
def clsC (sc : Scope) (ts : List Ty) : Bool → Expr → Bool
  | true, .Name t _ => soleC sc t ts
  | false, .Tuple tys _ _ => tysC sc ts tys && decide (ts.length ≤ 10)
  | _, _ => false
def isiC (sc : Scope) (ts : List Ty) (b : Bool) : Expr → List Expr → List Keyword → Bool
  | .Name f _, [_, t], [] => decide (f = "isinstance") && glC sc f && clsC sc ts b t
  | _, _, _ => false
def cstEq : D → D → Bool
  | .none, .none => true
  | .bool a, .bool b => a == b
  | .int a, .int b => decide (a = b)
  | .str a, .str b => decide (a = b)
  | _, _ => false
theorem cstEq_eq {a b : D} (h : cstEq a b = true) : a = b := by
  cases a <;> cases b <;> simp_all [cstEq]
def kwNames : List Keyword → Option (List Str)
  | [] => some []
  | ⟨some x, _, _⟩ :: r => (kwNames r).map (x :: ·)
  | ⟨none, _, _⟩ :: _ => none
def kwVals : List Keyword → List Expr
  | [] => []
  | ⟨_, e, _⟩ :: r => e :: kwVals r
def gloC (Γ : Gam) (sc : Scope) (k : Nat) (d : D) (x : Str) : Bool := (match Γ.G[k]? with | some p => decide (p.1 = x) && cstEq p.2 d | none => false) && glC sc x && nmC x
def kwC (Γ : Gam) (f : Nat) (perm : List Nat) (kws : List Keyword) : Bool := match kwNames kws with
  | some ks => Γ.W.any fun p => decide (p = (f, ks, perm))
  | none => false
def methC (N : List Str) (sc : Scope) (m : Me) (i : Nat) : Expr → Pos → Bool
  | .Attribute (.Name x _) nm ap, p => decide (nm = methName m) && decide (N[i]? = some x) && visC sc x && nmC x && (ap.endLine == p.line)
  | _, _ => false
/-- -1 -/
def negC : Expr → Bool
  | .UnaryOp .USub (.Constant (.int n) _ _) _ => decide (n = 1)
  | _ => false
/-- ::-1 -/
def revC : Expr → Bool
  | .Slice none none (some z) _ => negC z
  | _ => false
mutual
def okE (Γ : Gam) : E → Scope → Expr → Bool
  | .var i, sc, .Name x _ => decide (Γ.N[i]? = some x) && visC sc x && nmC x
  | .cst d, _, .Constant c _ _ => cstC d c
  | .op2 o a b, sc, .BinOp x op y _ => opC o op && okE Γ a sc x && okE Γ b sc y
  | .op2 o a b, sc, .Compare x [op] [y] _ => cmpC o op && !behindInMarks op y && okE Γ a sc x && okE Γ b sc y
  | .op1 .neg a, sc, .UnaryOp .USub x _ => okE Γ a sc x
  | .op1 .isN a, sc, .Compare x ops ys _ => isNC .Is ops ys && okE Γ a sc x
  | .op1 .notN a, sc, .Compare x ops ys _ => isNC .IsNot ops ys && okE Γ a sc x
  | .chain o o' a b c, sc, .Compare x [op, op'] [y, z] _ => cmpC o op && cmpC o' op' && !behindInMarks op y && !behindInMarks op' z && okE Γ a sc x && okE Γ b sc y && okE Γ c sc z
  | .bop k es, sc, .BoolOp op xs _ => (k == decide (op = .And)) && okB Γ es sc xs
  | .not a, sc, .UnaryOp .Not x _ => okE Γ a sc x
  | .orT a b, sc, .BoolOp .Or [x, y] _ => okE Γ a sc x && okE Γ b sc y
  | .ite c a b, sc, .IfExp t x y _ => okT Γ c sc t && okE Γ a sc x && okE Γ b sc y
  | .tup es, sc, .Tuple xs _ _ => okEs Γ es sc xs
  | .lst es, sc, .List xs _ => okEs Γ es sc xs
  | .idx a b, sc, .Subscript x y _ => !isSlice y && okE Γ a sc x && okE Γ b sc y
  | .slc a lo hi, sc, .Subscript x (.Slice l h none _) _ => okE Γ a sc x && okO Γ lo sc l && okO Γ hi sc h
  | .call f es, sc, .Call (.Name x _) xs [] _ => (match Γ.F f with | some fn => decide (fn.name = x) && fn.ioOk && decide (xs.length = fn.np) | none => false) && glC sc x && nmC x && !xs.isEmpty && okEs Γ es sc xs
  | .bi b es, sc, .Call (.Name x _) xs [] _ => decide (x = biName b) && oddC sc b xs && glC sc x && okEs Γ es sc (argsOf b xs)
  | .rep a b, sc, .BinOp x .Mult y _ => okE Γ a sc x && okE Γ b sc y
  | .isi a ts b, sc, .Call f xs ks _ => isiC sc ts b f xs ks && headC (okE Γ a sc) xs
  | .meth m i es, sc, .Call f xs [] p => methC Γ.N sc m i f p && decide (xs.length = 1) && okEs Γ es sc xs
  | .comp2 t it c t' it' c' e, sc, .ListComp elt [⟨tg, iter, ifs, 0⟩, ⟨tg1, iter1, ifs1, 0⟩] scope _ => okIt Γ it sc iter (isTuple tg) && tgC Γ.N scope t tg && okC Γ c (relS scope sc) ifs && okIt Γ it' (relS scope sc) iter1 (isTuple tg1) && tgC Γ.N scope t' tg1 && okC Γ c' (relS scope sc) ifs1 && okE Γ e (relS scope sc) elt && blkC Γ.N sc scope (ownOf Γ.N (t.slots ++ t'.slots))
  | .rev a, sc, .Subscript x y _ => revC y && okE Γ a sc x
  | .glo k d, sc, .Name x _ => gloC Γ sc k d x
  | .call0 f, sc, .Call (.Name x _) [] [] _ => (match Γ.F f with | some fn => decide (fn.name = x) && fn.ioOk && decide (0 = fn.np) | none => false) && glC sc x && nmC x
  | .callK f perm es, sc, .Call (.Name x _) [] kws _ => (match Γ.F f with | some fn => decide (fn.name = x) && decide (fn.io = none) && decide (perm.length = fn.np) && perm.all (fun i => decide (i < kws.length)) | none => false) && glC sc x && nmC x && kwC Γ f perm kws && okEs Γ es sc (kwVals kws)
  | .comp t it c e, sc, .ListComp elt [⟨tg, iter, ifs, 0⟩] scope _ => okIt Γ it sc iter (isTuple tg) && tgC Γ.N scope t tg && okC Γ c (relS scope sc) ifs && okE Γ e (relS scope sc) elt && blkC Γ.N sc scope (ownOf Γ.N t.slots)
  | _, _, _ => false
/-- in a test -/
def okT (Γ : Gam) : E → Scope → Expr → Bool
  | .var i, sc, .Name x _ => decide (Γ.N[i]? = some x) && visC sc x && nmC x
  | .cst d, _, .Constant c _ _ => cstC d c
  | .op2 o a b, sc, .Compare x [op] [y] _ => cmpC o op && !behindInMarks op y && okE Γ a sc x && okE Γ b sc y
  | .op1 .isN a, sc, .Compare x ops ys _ => isNC .Is ops ys && okE Γ a sc x
  | .op1 .notN a, sc, .Compare x ops ys _ => isNC .IsNot ops ys && okE Γ a sc x
  | .chain o o' a b c, sc, .Compare x [op, op'] [y, z] _ => cmpC o op && cmpC o' op' && !behindInMarks op y && !behindInMarks op' z && okE Γ a sc x && okE Γ b sc y && okE Γ c sc z
  | .bop k es, sc, .BoolOp op xs _ => (k == decide (op = .And)) && okTB Γ es sc xs
  | .not a, sc, .UnaryOp .Not x _ => okT Γ a sc x
  | .idx a b, sc, .Subscript x y _ => !isSlice y && okE Γ a sc x && okE Γ b sc y
  | .call f es, sc, .Call (.Name x _) xs [] _ => (match Γ.F f with | some fn => decide (fn.name = x) && fn.ioOk && decide (xs.length = fn.np) | none => false) && glC sc x && nmC x && !xs.isEmpty && okEs Γ es sc xs
  | .bi b es, sc, .Call (.Name x _) xs [] _ => decide (x = biName b) && oddC sc b xs && glC sc x && okEs Γ es sc (argsOf b xs)
  | .isi a ts b, sc, .Call f xs ks _ => isiC sc ts b f xs ks && headC (okE Γ a sc) xs
  | .call0 f, sc, .Call (.Name x _) [] [] _ => (match Γ.F f with | some fn => decide (fn.name = x) && fn.ioOk && decide (0 = fn.np) | none => false) && glC sc x && nmC x
  | _, _, _ => false
def okEs (Γ : Gam) : Es → Scope → List Expr → Bool
  | .nil, _, [] => true
  | .cons e r, sc, x :: xs => okE Γ e sc x && okEs Γ r sc xs
  | _, _, _ => false
def okB (Γ : Gam) : Es → Scope → List Expr → Bool
  | .cons e .nil, sc, [x] => okE Γ e sc x
  | .cons e r, sc, x :: y :: xs => okE Γ e sc x && okB Γ r sc (y :: xs)
  | _, _, _ => false
def okTB (Γ : Gam) : Es → Scope → List Expr → Bool
  | .cons e .nil, sc, [x] => okT Γ e sc x
  | .cons e r, sc, x :: y :: xs => okT Γ e sc x && okTB Γ r sc (y :: xs)
  | _, _, _ => false
def okO (Γ : Gam) : Eo → Scope → Option Expr → Bool
  | .no, _, none => true
  | .yes e, sc, some x => okE Γ e sc x
  | _, _, _ => false
def okC (Γ : Gam) : Eo → Scope → List Expr → Bool
  | .no, _, [] => true
  | .yes e, sc, [x] => okT Γ e sc x
  | _, _, _ => false
def okIt (Γ : Gam) : It → Scope → Expr → Bool → Bool
  | .seq e, sc, x, _ => okE Γ e sc x
  | .range1 e, sc, .Call (.Name f _) [x] [] _, _ => decide (f = "range") && glC sc f && okE Γ e sc x
  | .range2 a b, sc, .Call (.Name f _) [x, y] [] _, _ => decide (f = "range") && glC sc f && okE Γ a sc x && okE Γ b sc y
  | .down a b, sc, .Call (.Name f _) [x, y, z] [] _, _ => decide (f = "range") && glC sc f && okE Γ a sc x && okE Γ b sc y && negC z
  | .enum e, sc, .Call (.Name f _) [x] [] _, true => decide (f = "enumerate") && glC sc f && okE Γ e sc x
  | .zip a b, sc, .Call (.Name f _) [x, y] [] _, true => decide (f = "zip") && glC sc f && okE Γ a sc x && okE Γ b sc y
  | _, _, _, _ => false
end

/-! ### what a def promises -/
def Io (io : Option Nat) (vs : List V) : AS := fun a => ∃ j : Nat, io = some j ∧ vs[j]? = some (V.ref a)
structure Args (K : PySem.W.Frag) (M : AS) (H : Hp) (io : Option Nat) (vs : List V) (ds : List D) : Prop where
  len : vs.length = ds.length
  dat : ∀ (j : Nat) (v : V) (d : D), io ≠ some j → vs[j]? = some v → ds[j]? = some d → Dat K M H v d
  io : ∀ (j : Nat), io = some j → ∃ a us xs, vs[j]? = some (V.ref a) ∧ ds[j]? = some (.list xs) ∧ H a = some (.lst us) ∧ DatA K M H us xs ∧ M a
/-- the list that was handed in, as it is left -/
def IoEnd (K : PySem.W.Frag) (M : AS) (H : Hp) (io : Option Nat) (vs : List V) (r : Option (List D)) : Prop := match io with
  | none => r = none
  | some j => ∃ a us xs, vs[j]? = some (V.ref a) ∧ r = some xs ∧ H a = some (.lst us) ∧ DatA K M H us xs ∧ M a
def spOf (R : XR) (K : PySem.W.Frag) (fn : Fn) (call : List D → FRes) : Sp := fun vs H Q E => ∃ (M : AS) (ds : List D), vs.length = fn.np ∧ Args K M H fn.io vs ds ∧ (∀ a, M a → ∃ o, H a = some o) ∧
  match call ds with
  | .ok w r => ∀ M' H' v, Stp (Io fn.io vs) M H M' H' → (∀ a, M' a → ∃ o, H' a = some o) → IoEnd K M' H' fn.io vs r → VW0 K H M' H' v w → Q v H'
  | .exc x r => ∀ M' H' cls d, Stp (Io fn.io vs) M H M' H' → (∀ a, M' a → ∃ o, H' a = some o) → IoEnd K M' H' fn.io vs r → R M' H' cls d x → E cls d H'
  | .stuck => False
/-- how a call by names binds -/
def KwOk (K : PySem.W.Frag) (fd : FuncData) (ps ks : List Str) (perm : List Nat) : Prop := ∀ (s : Shared) (ws : List Value), K.In s.heap → ws.length = ks.length → BindsTo s fd ⟨[], ks.zip ws⟩ (ps.zip (perm.filterMap fun i => ws[i]?))
/-- the context of code -/
structure Lk (Γ : Gam) (cl : Nat → List D → FRes) (X : Cx) (C : Ctx) (sc : Scope) : Prop where
  K : X.K = C.K
  N : X.N = Γ.N
  nd : Γ.N.Nodup
  calm : X.calm = true
  scope : X.env.scope = sc
  kind : sc.kind = .function
  room : X.A.units + 200 < cLine
  takes : Takes X C.Wx
  bi : ∀ x, x ∈ biNames → X.mg x = none
  call : ∀ i fn, Γ.F i = some fn → ∃ k a fd ps, X.mg fn.name = some (.ref a) ∧ PySem.W.keepIn X.K (.ref a) = true ∧ (Binds X.K fd ps [] ∧ ∀ ks perm, (i, ks, perm) ∈ Γ.W → KwOk X.K fd ps ks perm) ∧ Room k X.A ∧ FnOk X.prog X.w X.K X.mg X.base (CX X.prog X.w) k a fd ps (spOf C.R X.K fn (cl i))
  glo : ∀ x d, (x, d) ∈ Γ.G → ∃ u v, X.mg x = some u ∧ RelV v u ∧ ∀ M H, Dat X.K M H v d
variable {Γ : Gam} {cl : Nat → List D → FRes} {X : Cx} {C : Ctx} {sc : Scope} {K : PySem.W.Frag} {M M' : AS} {H H' : Hp} {σ : St} {ρ ρ' ρ1 : Ro}
abbrev evG (Γ : Gam) (cl : Nat → List D → FRes) (E : E) : Ro → Res (W × Ro) := ev Γ.F cl E
/-- an expression of the language tells what its text does -/
structure SE (Γ : Gam) (cl : Nat → List D → FRes) (E : E) : Prop where
  pe : ∀ X C sc e, Lk Γ cl X C sc → okE Γ E sc e = true → PE X e (tW C (evG Γ cl E))
  pt : ∀ X C sc e, Lk Γ cl X C sc → okT Γ E sc e = true → PT X e (tT C (testOf (evG Γ cl E)))
theorem visC_of {x : Str} (h : visC sc x = true) : Vis sc x := by
  unfold visC at h
  split at h
  · exact .inl (by assumption)
  · exact .inr (.inl (by assumption))
  · exact .inr (.inr (by assumption))
  · cases h
theorem glC_of {x : Str} (L : Lk Γ cl X C sc) (h : glC sc x = true) : Gl X x := by
  unfold glC at h
  split at h
  · show X.env.scope.names.lookup x = _
    rw [L.scope]
    assumption
  · cases h
theorem nmC_of {x : Str} (h : nmC x = true) : (x == ("__debug__" : Str)) = false ∧ (x == ("__classdict__" : Str)) = false ∧ x ≠ "__name__" := by
  simp only [nmC, Bool.and_eq_true, decide_eq_true_eq] at h
  exact ⟨by simpa using h.1.1, by simpa using h.1.2, h.2⟩
/-! ### a name -/
theorem var_pe {i : Nat} {x : Str} {pos : Pos} (L : Lk Γ cl X C sc) (h : (decide (Γ.N[i]? = some x) && visC sc x && nmC x) = true) : PE X (.Name x pos) (tVar i) := by
  simp only [Bool.and_eq_true, decide_eq_true_eq] at h
  obtain ⟨⟨h1, h2⟩, h3⟩ := h
  obtain ⟨n1, n2, _⟩ := nmC_of h3
  exact pe_var (by rw [L.N]; exact h1) (by rw [L.scope]; exact visC_of h2) n1 n2
theorem Rep.at {i : Nat} {s : Sv} {M0 : AS} (r : Rep K M0 M ρ σ H) (h : get ρ i = some s) : ∃ v, σ[i]? = some (some v) := by
  have e := get_some h
  cases s with
  | dat d => obtain ⟨v, h1, _⟩ := r.dat i d e; exact ⟨v, h1⟩
  | own xs => obtain ⟨a, _, h1, _⟩ := r.lst i _ xs e rfl; exact ⟨_, h1⟩
  | io xs => obtain ⟨a, _, h1, _⟩ := r.lst i _ xs e rfl; exact ⟨_, h1⟩
theorem set_get {i j : Nat} {x : Option Sv} {s : Option Sv} (h : (ρ.set i x)[j]? = some s) : (j = i ∧ s = x) ∨ (j ≠ i ∧ ρ[j]? = some s) := by
  by_cases e : i = j
  · subst e
    by_cases hl : i < ρ.length
    · rw [List.getElem?_set_self hl] at h; cases h; exact .inl ⟨rfl, rfl⟩
    · rw [List.getElem?_eq_none (by simpa using hl)] at h; cases h
  · rw [List.getElem?_set_ne e] at h
    exact .inr ⟨fun z => e z.symm, h⟩
/-- a slot's own list becomes data -/
theorem Rep.frz {i : Nat} {xs : List D} {a : Addr} {M0 : AS} (r : Rep K M0 M ρ σ H) (h : ρ[i]? = some (some (.own xs))) (ha : σ[i]? = some (some (.ref a))) :
    Rep K M0 (fun b => M b ∧ b ≠ a) (ρ.set i (some (.dat (.list xs)))) σ H ∧ Dat K (fun b => M b ∧ b ≠ a) H (.ref a) (.list xs) ∧ (∀ b, Ow (ρ.set i (some (.dat (.list xs)))) σ b → Ow ρ σ b ∧ b ≠ a) ∧ Ow ρ σ a := by
  obtain ⟨a', us, h1, h2, h3, h4⟩ := r.lst i _ xs h rfl
  rw [ha] at h1; cases h1
  have hd : Dat K (fun b => M b ∧ b ≠ a) H (.ref a) (.list xs) := .lst (.inl h2) (fun z => z.2 rfl) (h3.less fun b z => z.1)
  have n0 := r.own i xs a h ha
  refine ⟨⟨by simpa using r.len, fun b z => r.dom b z.1, fun b z => ⟨r.sub b z, fun e => n0 (e ▸ z)⟩, fun j d e => ?_, fun j t ys e l => ?_, fun j ys b e q => ?_, fun j ys b e q => ?_, fun j k b t u ys zs e1 e2 l1 l2 q1 q2 => ?_⟩, hd, fun b ⟨j, t, ys, e, l, q⟩ => ?_, ⟨i, _, xs, h, rfl, ha⟩⟩
  · rcases set_get e with ⟨rfl, e'⟩ | ⟨hj, e⟩
    · cases e'; exact ⟨_, ha, hd⟩
    · obtain ⟨v, q1, q2⟩ := r.dat j d e; exact ⟨v, q1, q2.less fun b z => z.1⟩
  · rcases set_get e with ⟨rfl, e'⟩ | ⟨hj, e⟩
    · cases e'; cases l
    · obtain ⟨b, ws, q1, q2, q3, q4⟩ := r.lst j t ys e l
      exact ⟨b, ws, q1, q2, q3.less fun b z => z.1, q4, fun z => hj (r.inj j i a t _ ys xs e h l rfl (z ▸ q1) ha)⟩
  · rcases set_get e with ⟨rfl, e'⟩ | ⟨hj, e⟩
    · cases e'
    · exact r.own j ys b e q
  · rcases set_get e with ⟨rfl, e'⟩ | ⟨hj, e⟩
    · cases e'
    · exact r.io j ys b e q
  · rcases set_get e1 with ⟨rfl, e'⟩ | ⟨_, e1⟩
    · cases e'; cases l1
    · rcases set_get e2 with ⟨rfl, e'⟩ | ⟨_, e2⟩
      · cases e'; cases l2
      · exact r.inj j k b t u ys zs e1 e2 l1 l2 q1 q2
  · rcases set_get e with ⟨rfl, e'⟩ | ⟨hj, e⟩
    · cases e'; cases l
    · exact ⟨⟨j, t, ys, e, l, q⟩, fun z => hj (r.inj j i a t _ ys xs e h l rfl (z ▸ q) ha)⟩
theorem boolO_of {w : W} {b : Bool} (h : boolO w.d = some b) : w = .dat (.bool b) := by
  cases w with
  | new xs => cases h
  | dat d => cases d <;> cases h; rfl
/-- a value as a test -/
theorem After.test {f : Ro → Res (W × Ro)} {Q : Bool → Hp → Prop} (a : After C σ M H ρ (testOf f ρ) fun _ H' b _ => Q b H') :
    After C σ M H ρ (f ρ) fun M1 H1 w ρ1 => ∀ v, VW0 C.K H M1 H1 v w → ∃ c, v = .bl c ∧ w = .dat (.bool c) ∧ Q c H1 := by
  refine (After.bind a).mono fun M1 H1 w ρ1 s1 r1 hs1 h v hv => ?_
  obtain ⟨b, hb, q⟩ := h.of
  cases boolO_of hb
  cases (show Dat C.K M1 H1 v (.bool b) from hv)
  exact ⟨b, rfl, rfl, q.now r1⟩
theorem pt_of_pe {f : Ro → Res (W × Ro)} {e : Expr} (h : PE X e (tW C f)) (he : ∀ whole, isTrue e X.env whole = (do let v ← whole; standAt e.pos; holding [v] (truthy v))) : PT X e (tT C (testOf f)) := by
  refine PT_imp (pt_val h he) fun σ H Q ⟨M, ρ, r, a⟩ => ⟨M, ρ, r, ?_⟩
  refine a.test.mono fun M1 H1 w ρ1 s1 r1 hs1 h v hv => ?_
  obtain ⟨c, h1, _, h2⟩ := h v hv
  exact ⟨c, h1, h2⟩
theorem se_var {i : Nat} : SE Γ cl (.var i) := by
  have main : ∀ X C sc x pos, Lk Γ cl X C sc → (decide (Γ.N[i]? = some x) && visC sc x && nmC x) = true → PE X (.Name x pos) (tW C (evG Γ cl (.var i))) := by
    intro X C sc x pos L h
    refine PE_imp (var_pe L h) fun σ H Q ⟨M, ρ, r, a⟩ => ?_
    have a : After C σ M H ρ ((Res.of (leak ρ i)).bind fun p => .ok (W.dat p.1, p.2)) _ := a
    obtain ⟨p, e, a⟩ := a.of
    unfold leak at e
    split at e
    · rename_i d hd
      cases e
      obtain ⟨v, h1, h2⟩ := r.dat i d (get_some hd)
      exact ⟨v, h1, a.now r v h2⟩
    · rename_i xs hd
      cases e
      obtain ⟨b, us, h1, h2, h3, h4⟩ := r.lst i _ xs (get_some hd) rfl
      obtain ⟨r', d', s', o'⟩ := Rep.frz r (get_some hd) h1
      exact ⟨_, h1, a _ H ⟨fun _ _ e _ => e, fun _ z => .inl z.1, fun b z n => ⟨z, fun e => n (e ▸ o')⟩, fun _ o e => ⟨o, e⟩⟩ r' (fun b z => (s' b z).1) _ d'⟩
    · cases e
  refine ⟨fun X C sc e L h => ?_, fun X C sc e L h => ?_⟩
  · cases e with
    | Name x pos => exact main X C sc x pos L h
    | _ => cases h
  · cases e with
    | Name x pos => exact pt_of_pe (main X C sc x pos L h) fun _ => rfl
    | _ => cases h
/-! ### a constant -/
theorem cst_pe {d : D} {c : Const} {k : Nat} {pos : Pos} (h : cstC d c = true) : ∃ v, PE X (.Constant c k pos) (tC v) ∧ ∀ K M H, Dat K M H v d := by
  cases d with
  | none => cases c with
    | none => exact ⟨_, pe_non, fun _ _ _ => .non⟩
    | _ => cases h
  | bool a => cases c with
    | bool b => cases (show a = b by simpa [cstC] using h); exact ⟨_, pe_bl, fun _ _ _ => .bl _⟩
    | _ => cases h
  | int a => cases c with
    | int b => cases (show a = b by simpa [cstC] using h); exact ⟨_, pe_int, fun _ _ _ => .int _⟩
    | _ => cases h
  | str a => cases c with
    | str b => cases (show a = b by simpa [cstC] using h); exact ⟨_, pe_str, fun _ _ _ => .str _⟩
    | _ => cases h
  | list xs => cases c <;> cases h
  | tuple xs => cases c <;> cases h
  | dict xs => cases c <;> cases h
theorem se_cst {d : D} : SE Γ cl (.cst d) := by
  have main : ∀ X C c k pos, cstC d c = true → PE X (.Constant c k pos) (tW C (evG Γ cl (.cst d))) := by
    intro X C c k pos h
    obtain ⟨v, h1, h2⟩ := cst_pe (X := X) (k := k) (pos := pos) h
    exact PE_imp h1 fun σ H Q ⟨M, ρ, r, a⟩ => After.now r a v (h2 _ _ _)
  refine ⟨fun X C sc e L h => ?_, fun X C sc e L h => ?_⟩
  · cases e with
    | Constant c k pos => exact main X C c k pos h
    | _ => cases h
  · cases e with
    | Constant c k pos => exact pt_of_pe (main X C c k pos h) fun _ => rfl
    | _ => cases h
/-! ### operands -/
theorem opd_pe {E : E} {e : Expr} (s : SE Γ cl E) (L : Lk Γ cl X C sc) (h : okE Γ E sc e = true) : PE X e (tO C (opdOf (evG Γ cl E) E)) := by
  have other : opdOf (evG Γ cl E) E = (fun ρ => (evG Γ cl E ρ).bind fun p => .ok (.val p.1, p.2)) → PE X e (tO C (opdOf (evG Γ cl E) E)) := by
    intro eq
    rw [eq]
    refine PE_imp (s.pe X C sc e L h) fun σ H Q ⟨M, ρ, r, a⟩ => ⟨M, ρ, r, ?_⟩
    refine (After.bind a).mono fun M1 H1 w ρ1 s1 r1 hs1 h v hv => h.now r1 v hv
  cases E with
  | var i =>
    cases e with
    | Name x pos =>
      refine PE_imp (var_pe L h) fun σ H Q ⟨M, ρ, r, a⟩ => ?_
      have a : After C σ M H ρ ((Res.of (get ρ i)).bind fun _ => .ok (Opd.slot i, ρ)) _ := a
      obtain ⟨s, e, a⟩ := a.of
      obtain ⟨v, hv⟩ := r.at e
      exact ⟨v, hv, a.now r v hv⟩
    | _ => cases h
  | _ => exact other rfl
/-! ### two operands -/
/-- both operands are there -/
theorem two_opd {a b : E} {ta tb : TE} {x y : Expr} (ha : PE X x (tO C (opdOf (evG Γ cl a) a))) (hb : PE X y (tO C (opdOf (evG Γ cl b) b))) {R : R2} {σ : St} {Q : VK} {r : Rep C.K C.M0 M ρ σ H}
    {f : Opd × Ro → Opd × Ro → Res (W × Ro)} {k : AS → Hp → W → Ro → Prop} (h : After C σ M H ρ ((opdOf (evG Γ cl a) a ρ).bind fun p => (opdOf (evG Γ cl b) b p.2).bind fun q => f p q) k)
    (fin : ∀ M2 H2 p q v u, Stp (Ow ρ σ) M H M2 H2 → Rep C.K C.M0 M2 q.2 σ H2 → (∀ a, Ow q.2 σ a → Ow ρ σ a) → VO C.K H M2 H2 σ v p.1 → VO C.K H M2 H2 σ u q.1 → After C σ M2 H2 q.2 (f p q) k → R v u H2 Q) :
    tO C (opdOf (evG Γ cl a) a) σ H fun v H1 => tO C (opdOf (evG Γ cl b) b) σ H1 fun u H2 => R v u H2 Q := by
  refine ⟨M, ρ, r, (After.bind h).mono fun M1 H1 o1 ρ1 s1 r1 hs1 h1 v hv => ⟨M1, ρ1, r1, (After.bind h1).mono fun M2 H2 o2 ρ2 s2 r2 hs2 h2 u hu => ?_⟩⟩
  refine fin M2 H2 (o1, ρ1) (o2, ρ2) v u (s1.trans hs1 s2) r2 (fun a z => hs1 a (hs2 a z)) ?_ ?_ h2
  · exact hv.step r r1.owl hs1 s2
  · exact hu.from s1.there

theorem rs_of {w : W} {Q : VK} {M2 : AS} {H2 : Hp} {ρ2 : Ro} (st : ∀ a o, H a = some o → ∃ o', H2 a = some o') (r2 : Rep C.K C.M0 M2 ρ2 σ H2) (h : After C σ M2 H2 ρ2 (.ok (w, ρ2)) fun M' H' w _ => ∀ v, VW0 C.K H M' H' v w → Q v H') : Rs C.K M2 H2 Q w :=
  fun M' H' v s hv => h M' H' s.stp (r2.step0 s) (fun _ z => z) v (hv.from st)
theorem bin_rule (L : Lk Γ cl X C sc) {o : Op2} {op : Operator} (h : opC o op = true) : OpR X (binaryOp op) (rOp C.K o) := by
  rw [← L.K]
  cases o <;> cases op <;> first | exact absurd h (by decide) | skip
  · exact o_add
  · exact o_sub
  · exact o_mul
  · exact o_fdiv
  · exact o_mod
  · exact o_pow
theorem cmp_rule (L : Lk Γ cl X C sc) {o : Op2} {op : CmpOp} (h : cmpC o op = true) : OpR X (compareOp op) (rOp C.K o) := by
  rw [← L.K]
  have hu := L.room
  cases o <;> cases op <;> first | exact absurd h (by decide) | skip
  · exact o_eq (by omega)
  · exact o_ne (by omega)
  · exact o_lt (by omega)
  · exact o_le
  · exact o_gt
  · exact o_ge
  · exact o_in (by omega)
  · exact o_notin (by omega)
/-- the reading of an operator over two operands -/
theorem op2_read {a b : E} {o : Op2} {Q : VK} (h : tW C (evG Γ cl (.op2 o a b)) σ H Q) : tOp (rOp C.K o) (tO C (opdOf (evG Γ cl a) a)) (tO C (opdOf (evG Γ cl b) b)) σ H Q := by
  obtain ⟨M, ρ, r, h⟩ := h
  refine ⟨M, ρ, r, (After.bind h).mono fun M1 H1 o1 ρ1 s1 r1 hs1 h1 v hv => ⟨M1, ρ1, r1, (After.bind h1).mono fun M2 H2 o2 ρ2 s2 r2 hs2 h2 u hu => ?_⟩⟩
  have hv' := hv.step r r1.owl hs1 s2
  have st := (s1.trans hs1 s2).there
  simp only at h2
  split at h2
  · rename_i d e e1 e2
    obtain ⟨w, hw, q⟩ := h2.of
    exact ⟨M2, d, e, w, hv'.pk r2 e1, hu.pk r2 e2, hw, rs_of st r2 q⟩
  · exact h2.elim
theorem okE_op2 {o : Op2} {a b : E} {x : Expr} {ops : List CmpOp} {ys : List Expr} {pos : Pos} (h : okE Γ (.op2 o a b) sc (.Compare x ops ys pos) = true) :
    ∃ op y, ops = [op] ∧ ys = [y] ∧ cmpC o op = true ∧ behindInMarks op y = false ∧ okE Γ a sc x = true ∧ okE Γ b sc y = true := by
  match ops, ys with
  | [op], [y] =>
    have h : (cmpC o op && !behindInMarks op y && okE Γ a sc x && okE Γ b sc y) = true := h
    simp only [Bool.and_eq_true, Bool.not_eq_true'] at h
    exact ⟨op, y, rfl, rfl, h.1.1.1, h.1.1.2, h.1.2, h.2⟩
  | [], _ => exact nomatch h
  | [_], [] => exact nomatch h
  | [_], _ :: _ :: _ => exact nomatch h
  | _ :: _ :: _, _ => exact nomatch h
theorem okT_op2 {o : Op2} {a b : E} {x : Expr} {ops : List CmpOp} {ys : List Expr} {pos : Pos} (h : okT Γ (.op2 o a b) sc (.Compare x ops ys pos) = true) : okE Γ (.op2 o a b) sc (.Compare x ops ys pos) = true := by
  match ops, ys with
  | [op], [y] => exact h
  | [], _ => exact nomatch h
  | [_], [] => exact nomatch h
  | [_], _ :: _ :: _ => exact nomatch h
  | _ :: _ :: _, _ => exact nomatch h
theorem se_op2 {o : Op2} {a b : E} (ha : SE Γ cl a) (hb : SE Γ cl b) : SE Γ cl (.op2 o a b) := by
  refine ⟨fun X C sc e L h => ?_, fun X C sc e L h => ?_⟩
  · cases e with
    | BinOp x op y pos =>
      have h : (opC o op && okE Γ a sc x && okE Γ b sc y) = true := h
      simp only [Bool.and_eq_true] at h
      exact PE_imp (pe_op (bin_rule L h.1.1) (opd_pe ha L h.1.2) (opd_pe hb L h.2)) fun σ H Q q => op2_read q
    | Compare x ops ys pos =>
      obtain ⟨op, y, rfl, rfl, h1, h2, h3, h4⟩ := okE_op2 h
      exact PE_imp (pe_cmpR (cmp_rule L h1) (opd_pe ha L h3) (opd_pe hb L h4) h2) fun σ H Q q => op2_read q
    | _ => exact nomatch h
  · cases e with
    | Compare x ops ys pos =>
      obtain ⟨op, y, rfl, rfl, h1, h2, h3, h4⟩ := okE_op2 (okT_op2 h)
      refine PT_imp (pt_cmpR (cmp_rule L h1) (opd_pe ha L h3) (opd_pe hb L h4) h2) fun σ H Q q => ?_
      obtain ⟨M, ρ, r, q⟩ := q
      refine op2_read (Γ := Γ) (cl := cl) ⟨M, ρ, r, q.test.mono fun M1 H1 w ρ1 s1 r1 hs1 h v hv => ?_⟩
      obtain ⟨c, h1, _, h2⟩ := h v hv
      exact ⟨c, h1, h2⟩
    | _ => exact nomatch h
/-! ### one operand -/
theorem op1_val {o : Op1} {a : E} {Q : VK} (h : tW C (evG Γ cl (.op1 o a)) σ H Q) : tO C (opdOf (evG Γ cl a) a) σ H fun v H1 => ∃ M1 d w, Pk C.K M1 H1 v d ∧ op1 o d = some w ∧ Rs C.K M1 H1 Q w := by
  obtain ⟨M, ρ, r, h⟩ := h
  refine ⟨M, ρ, r, (After.bind h).mono fun M1 H1 o1 ρ1 s1 r1 hs1 h1 v hv => ?_⟩
  obtain ⟨w, hw, q⟩ := h1.of
  simp only [Option.bind_eq_some_iff] at hw
  obtain ⟨d, e1, e2⟩ := hw
  exact ⟨M1, d, w, hv.pk r1 e1, e2, rs_of s1.there r1 q⟩
theorem isN_read {a : E} {Q : VK} (h : tW C (evG Γ cl (.op1 .isN a)) σ H Q) : tIsN (tO C (opdOf (evG Γ cl a) a)) σ H Q := by
  obtain ⟨M, ρ, r, q⟩ := op1_val h
  refine ⟨M, ρ, r, q.mono fun M1 H1 o1 ρ1 s1 r1 hs1 h1 v hv => ?_⟩
  obtain ⟨M2, d, w, hp, hw, hR⟩ := h1 v hv
  cases hw
  rw [isNone_of hp]
  exact hR.scalar (.bl _)
theorem notN_read {a : E} {Q : VK} (h : tW C (evG Γ cl (.op1 .notN a)) σ H Q) : tNotN (tO C (opdOf (evG Γ cl a) a)) σ H Q := by
  obtain ⟨M, ρ, r, q⟩ := op1_val h
  refine ⟨M, ρ, r, q.mono fun M1 H1 o1 ρ1 s1 r1 hs1 h1 v hv => ?_⟩
  obtain ⟨M2, d, w, hp, hw, hR⟩ := h1 v hv
  cases hw
  rw [isNone_of hp]
  exact hR.scalar (.bl _)
/-- a test out of a reading of a value -/
theorem test_read {E : E} {Q : Bool → Hp → Prop} (h : tT C (testOf (evG Γ cl E)) σ H Q) : tW C (evG Γ cl E) σ H fun x H1 => ∃ c, x = .bl c ∧ Q c H1 := by
  obtain ⟨M, ρ, r, q⟩ := h
  refine ⟨M, ρ, r, q.test.mono fun M1 H1 w ρ1 s1 r1 hs1 h v hv => ?_⟩
  obtain ⟨c, h1, _, h2⟩ := h v hv
  exact ⟨c, h1, h2⟩
theorem se_op1 {o : Op1} {a : E} (ha : SE Γ cl a) : SE Γ cl (.op1 o a) := by
  cases o with
  | neg =>
    refine ⟨fun X C sc e L h => ?_, fun X C sc e L h => by cases e <;> exact nomatch h⟩
    cases e with
    | UnaryOp op x pos =>
      cases op with
      | USub =>
        have h : okE Γ a sc x = true := h
        refine PE_imp (pe_un (o_neg (X := X)) (opd_pe ha L h)) fun σ H Q q => ?_
        have q := op1_val q
        rw [← L.K] at q
        exact q
      | _ => exact nomatch h
    | _ => exact nomatch h
  | isN =>
    refine ⟨fun X C sc e L h => ?_, fun X C sc e L h => ?_⟩
    · cases e with
      | Compare x ops ys pos =>
        have h : (isNC .Is ops ys && okE Γ a sc x) = true := h
        rw [Bool.and_eq_true] at h
        obtain ⟨k, p, rfl, rfl⟩ := isNC_of h.1
        exact PE_imp (pe_cmp (pc_isN (opd_pe ha L h.2)) rfl) fun σ H Q q => isN_read q
      | _ => exact nomatch h
    · cases e with
      | Compare x ops ys pos =>
        have h : (isNC .Is ops ys && okE Γ a sc x) = true := h
        rw [Bool.and_eq_true] at h
        obtain ⟨k, p, rfl, rfl⟩ := isNC_of h.1
        exact PT_imp (pt_cmp (pc_isN (opd_pe ha L h.2)) rfl) fun σ H Q q => isN_read (test_read q)
      | _ => exact nomatch h
  | notN =>
    refine ⟨fun X C sc e L h => ?_, fun X C sc e L h => ?_⟩
    · cases e with
      | Compare x ops ys pos =>
        have h : (isNC .IsNot ops ys && okE Γ a sc x) = true := h
        rw [Bool.and_eq_true] at h
        obtain ⟨k, p, rfl, rfl⟩ := isNC_of h.1
        exact PE_imp (pe_cmp (pc_notN (opd_pe ha L h.2)) rfl) fun σ H Q q => notN_read q
      | _ => exact nomatch h
    · cases e with
      | Compare x ops ys pos =>
        have h : (isNC .IsNot ops ys && okE Γ a sc x) = true := h
        rw [Bool.and_eq_true] at h
        obtain ⟨k, p, rfl, rfl⟩ := isNC_of h.1
        exact PT_imp (pt_cmp (pc_notN (opd_pe ha L h.2)) rfl) fun σ H Q q => notN_read (test_read q)
      | _ => exact nomatch h
/-! ### a chain -/
theorem After.later {α : Type} {q : Res (α × Ro)} {k : AS → Hp → α → Ro → Prop} {M3 : AS} {H3 : Hp} (s : Stp (Ow ρ σ) M H M3 H3) (h : After C σ M H ρ q k) : After C σ M3 H3 ρ q k := by
  cases q with
  | ok p => exact fun M' H' s' r' hs' => h M' H' (s.trans (fun _ z => z) s') r' hs'
  | exc x ρ' => exact fun M' H' cls d s' r' hs' => h M' H' cls d (s.trans (fun _ z => z) s') r' hs'
  | stuck => exact h
theorem chain_read {o o' : Op2} {a b c : E} {Q : VK} (h : tW C (evG Γ cl (.chain o o' a b c)) σ H Q) :
    tChain (rOp C.K o) (rOp C.K o') (tO C (opdOf (evG Γ cl a) a)) (tO C (opdOf (evG Γ cl b) b)) (tO C (opdOf (evG Γ cl c) c)) σ H Q := by
  obtain ⟨M, ρ, r, h⟩ := h
  refine ⟨M, ρ, r, (After.bind h).mono fun M1 H1 o1 ρ1 s1 r1 hs1 h1 v hv => ⟨M1, ρ1, r1, (After.bind h1).mono fun M2 H2 o2 ρ2 s2 r2 hs2 h2 u hu => ?_⟩⟩
  have hv' := hv.step r r1.owl hs1 s2
  have s12 := s1.trans hs1 s2
  have hs12 : ∀ a, Ow ρ2 σ a → Ow ρ σ a := fun a z => hs1 a (hs2 a z)
  simp only at h2
  split at h2
  · rename_i d e e1 e2
    split at h2
    · rename_i hw
      refine ⟨M2, d, e, _, hv'.pk r2 e1, hu.pk r2 e2, hw, fun M3 H3 z s3 hz => ?_⟩
      cases (show Dat C.K M3 H3 z (.bool true) from hz)
      refine ⟨true, rfl, ?_⟩
      rw [if_pos rfl]
      have r3 := r2.step0 s3
      refine ⟨M3, ρ2, r3, (After.bind (h2.later s3.stp)).mono fun M4 H4 o4 ρ4 s4 r4 hs4 h4 y hy => ?_⟩
      have hu4 := (hu.from s1.there).step r r2.owl hs12 ((s3.stp (O := Ow ρ2 σ)).trans (fun _ z => z) s4)
      have st := s12.trans hs12 ((s3.stp (O := Ow ρ2 σ)).trans (fun _ z => z) s4)
      simp only at h4
      split at h4
      · rename_i e' g e3 e4
        obtain ⟨w, hw', q⟩ := h4.of
        exact ⟨M4, e', g, w, hu4.pk r4 e3, hy.pk r4 e4, hw', rs_of st.there r4 q⟩
      · exact h4.elim
    · rename_i hw
      refine ⟨M2, d, e, _, hv'.pk r2 e1, hu.pk r2 e2, hw, fun M3 H3 z s3 hz => ?_⟩
      cases (show Dat C.K M3 H3 z (.bool false) from hz)
      refine ⟨false, rfl, ?_⟩
      rw [if_neg Bool.false_ne_true]
      exact h2 M3 H3 s3.stp (r2.step0 s3) (fun _ z => z) _ (.bl _)
    · exact h2.elim
  · exact h2.elim
theorem okE_chain {o o' : Op2} {a b c : E} {x : Expr} {ops : List CmpOp} {ys : List Expr} {pos : Pos} (h : okE Γ (.chain o o' a b c) sc (.Compare x ops ys pos) = true) :
    ∃ op op' y z, ops = [op, op'] ∧ ys = [y, z] ∧ cmpC o op = true ∧ cmpC o' op' = true ∧ behindInMarks op y = false ∧ behindInMarks op' z = false ∧ okE Γ a sc x = true ∧ okE Γ b sc y = true ∧ okE Γ c sc z = true := by
  match ops, ys with
  | [op, op'], [y, z] =>
    have h : (cmpC o op && cmpC o' op' && !behindInMarks op y && !behindInMarks op' z && okE Γ a sc x && okE Γ b sc y && okE Γ c sc z) = true := h
    simp only [Bool.and_eq_true, Bool.not_eq_true'] at h
    exact ⟨op, op', y, z, rfl, rfl, h.1.1.1.1.1.1, h.1.1.1.1.1.2, h.1.1.1.1.2, h.1.1.1.2, h.1.1.2, h.1.2, h.2⟩
  | [], _ => exact nomatch h
  | [_], _ => exact nomatch h
  | [_, _], [] => exact nomatch h
  | [_, _], [_] => exact nomatch h
  | [_, _], _ :: _ :: _ :: _ => exact nomatch h
  | _ :: _ :: _ :: _, _ => exact nomatch h
theorem okT_chain {o o' : Op2} {a b c : E} {x : Expr} {ops : List CmpOp} {ys : List Expr} {pos : Pos} (h : okT Γ (.chain o o' a b c) sc (.Compare x ops ys pos) = true) : okE Γ (.chain o o' a b c) sc (.Compare x ops ys pos) = true := by
  match ops, ys with
  | [op, op'], [y, z] => exact h
  | [], _ => exact nomatch h
  | [_], _ => exact nomatch h
  | [_, _], [] => exact nomatch h
  | [_, _], [_] => exact nomatch h
  | [_, _], _ :: _ :: _ :: _ => exact nomatch h
  | _ :: _ :: _ :: _, _ => exact nomatch h
theorem se_chain {o o' : Op2} {a b c : E} (ha : SE Γ cl a) (hb : SE Γ cl b) (hc : SE Γ cl c) : SE Γ cl (.chain o o' a b c) := by
  refine ⟨fun X C sc e L h => ?_, fun X C sc e L h => ?_⟩
  · cases e with
    | Compare x ops ys pos =>
      obtain ⟨op, op', y, z, rfl, rfl, h1, h2, h3, h4, h5, h6, h7⟩ := okE_chain h
      exact PE_imp (pe_chain (cmp_rule L h1) (cmp_rule L h2) (opd_pe ha L h5) (opd_pe hb L h6) (opd_pe hc L h7) h4) fun σ H Q q => chain_read q
    | _ => exact nomatch h
  · cases e with
    | Compare x ops ys pos =>
      obtain ⟨op, op', y, z, rfl, rfl, h1, h2, h3, h4, h5, h6, h7⟩ := okE_chain (okT_chain h)
      exact PT_imp (pt_chain (cmp_rule L h1) (cmp_rule L h2) (opd_pe ha L h5) (opd_pe hb L h6) (opd_pe hc L h7) h4) fun σ H Q q => chain_read (test_read q)
    | _ => exact nomatch h
/-! ### not -/
theorem bl_of {c : Bool} {v : V} {w : W} {K : PySem.W.Frag} {M1 : AS} {H1 : Hp} (h : VW0 K H M1 H1 v w) (e : boolO w.d = some c) : v = .bl c := by
  cases boolO_of e
  cases (show Dat K M1 H1 v (.bool c) from h)
  rfl
theorem se_not {a : E} (ha : SE Γ cl a) : SE Γ cl (.not a) := by
  refine ⟨fun X C sc e L h => ?_, fun X C sc e L h => ?_⟩
  · cases e with
    | UnaryOp op x pos =>
      cases op with
      | Not =>
        refine PE_imp (pe_not (ha.pe X C sc x L h)) fun σ H Q q => ?_
        obtain ⟨M, ρ, r, q⟩ := q
        refine test_read (Q := fun c H1 => Q (.bl (!c)) H1) ⟨M, ρ, r, (After.bind q).mono fun M1 H1 b ρ1 s1 r1 hs1 h1 => ?_⟩
        exact h1.now r1 _ (.bl _)
      | _ => exact nomatch h
    | _ => exact nomatch h
  · cases e with
    | UnaryOp op x pos =>
      cases op with
      | Not =>
        refine PT_imp (pt_not (ha.pt X C sc x L h)) fun σ H Q q => ?_
        obtain ⟨M, ρ, r, q⟩ := q
        have q := After.bind q
        refine ⟨M, ρ, r, ?_⟩
        have q : After C σ M H ρ ((testOf (evG Γ cl a) ρ).bind fun p => .ok (W.dat (.bool (!p.1)), p.2)) _ := q
        refine (After.bind q).mono fun M1 H1 b ρ1 s1 r1 hs1 h1 => ?_
        have h2 := h1.now r1
        exact h2.now r1
      | _ => exact nomatch h
    | _ => exact nomatch h
/-! ### and, or -/
def SAll (Γ : Gam) (cl : Nat → List D → FRes) : Es → Prop
  | .nil => True
  | .cons e r => SE Γ cl e ∧ SAll Γ cl r
  | .star e r => SE Γ cl e ∧ SAll Γ cl r
abbrev evBG (Γ : Gam) (cl : Nat → List D → FRes) (k : Bool) (es : Es) : Ro → Res (W × Ro) := evB Γ.F cl k es
theorem evB_cons {k : Bool} {e e' : E} {r : Es} : evBG Γ cl k (.cons e (.cons e' r)) ρ = (testOf (evG Γ cl e) ρ).bind fun p => if p.1 == k then evBG Γ cl k (.cons e' r) p.2 else .ok (.dat (.bool p.1), p.2) := rfl
theorem evB_one {k : Bool} {e : E} : evBG Γ cl k (.cons e .nil) ρ = evG Γ cl e ρ := rfl
theorem bop_pe (L : Lk Γ cl X C sc) {op : BoolOp} {k : Bool} (hk : k = decide (op = .And)) {pos : Pos} : ∀ (es : Es) (xs : List Expr), SAll Γ cl es → okB Γ es sc xs = true → PE X (.BoolOp op xs pos) (tW C (evBG Γ cl k es))
  | .nil, xs, _, h => by cases xs <;> exact nomatch h
  | .star _ _, xs, _, h => by cases xs <;> exact nomatch h
  | .cons e .nil, xs, s, h => by
    match xs with
    | [x] => exact pe_one (s.1.pe X C sc x L h)
    | [] => exact nomatch h
    | x :: y :: r =>
      have h : (okE Γ e sc x && okB Γ .nil sc (y :: r)) = true := h
      rw [Bool.and_eq_true] at h
      exact nomatch h.2
  | .cons e (.star e' r), xs, s, h => by
    match xs with
    | [x] => exact nomatch h
    | [] => exact nomatch h
    | x :: y :: ys =>
      have h : (okE Γ e sc x && okB Γ (.star e' r) sc (y :: ys)) = true := h
      rw [Bool.and_eq_true] at h
      cases ys <;> exact nomatch h.2
  | .cons e (.cons e' r), xs, s, h => by
    match xs with
    | [x] => exact nomatch h
    | [] => exact nomatch h
    | x :: y :: ys =>
      have h : (okE Γ e sc x && okB Γ (.cons e' r) sc (y :: ys)) = true := h
      rw [Bool.and_eq_true] at h
      have ih := bop_pe L hk (pos := pos) (.cons e' r) (y :: ys) s.2 h.2
      have he := s.1.pe X C sc x L h.1
      cases op with
      | And =>
        cases hk
        refine PE_imp (pe_and he ih) fun σ H Q ⟨M, ρ, r0, q⟩ => ?_
        simp only [evB_cons] at q
        refine test_read (Q := fun c H1 => if c = true then tW C (evBG Γ cl true (.cons e' r)) σ H1 Q else Q (.bl false) H1) ⟨M, ρ, r0, (After.bind q).mono fun M1 H1 b ρ1 s1 r1 hs1 h1 => ?_⟩
        cases b with
        | true =>
          rw [if_pos rfl]
          exact ⟨M1, ρ1, r1, After.mono (h1 : After C σ M1 H1 ρ1 (evBG Γ cl true (.cons e' r) ρ1) _) fun M2 H2 w ρ2 s2 r2 hs2 h2 v hv => h2 v (hv.from s1.there)⟩
        | false =>
          rw [if_neg Bool.false_ne_true]
          exact After.now (a := W.dat (.bool false)) r1 h1 _ (.bl _)
      | Or =>
        cases hk
        refine PE_imp (pe_or he ih) fun σ H Q ⟨M, ρ, r0, q⟩ => ?_
        simp only [evB_cons] at q
        refine test_read (Q := fun c H1 => if c = true then Q (.bl true) H1 else tW C (evBG Γ cl false (.cons e' r)) σ H1 Q) ⟨M, ρ, r0, (After.bind q).mono fun M1 H1 b ρ1 s1 r1 hs1 h1 => ?_⟩
        cases b with
        | false =>
          rw [if_neg Bool.false_ne_true]
          exact ⟨M1, ρ1, r1, After.mono (h1 : After C σ M1 H1 ρ1 (evBG Γ cl false (.cons e' r) ρ1) _) fun M2 H2 w ρ2 s2 r2 hs2 h2 v hv => h2 v (hv.from s1.there)⟩
        | true =>
          rw [if_pos rfl]
          exact After.now (a := W.dat (.bool true)) r1 h1 _ (.bl _)
theorem testB_cons {k : Bool} {e e' : E} {r : Es} : testOf (evBG Γ cl k (.cons e (.cons e' r))) ρ = (testOf (evG Γ cl e) ρ).bind fun p => if p.1 == k then testOf (evBG Γ cl k (.cons e' r)) p.2 else .ok (p.1, p.2) := by
  unfold testOf
  rw [evB_cons]
  unfold testOf
  cases evG Γ cl e ρ with
  | ok p =>
    show (((Res.of (boolO p.1.d)).bind fun b => Res.ok (b, p.2)).bind _).bind _ = ((Res.of (boolO p.1.d)).bind fun b => Res.ok (b, p.2)).bind _
    cases boolO p.1.d with
    | none => rfl
    | some b =>
      show Res.bind (if (b == k) = true then _ else _) _ = if (b == k) = true then _ else _
      cases b <;> cases k <;> rfl
  | exc x ρ' => rfl
  | stuck => rfl
theorem bop_pt (L : Lk Γ cl X C sc) {op : BoolOp} {k : Bool} (hk : k = decide (op = .And)) {pos : Pos} : ∀ (es : Es) (xs : List Expr), SAll Γ cl es → okTB Γ es sc xs = true → PW X (.BoolOp op xs pos) (tT C (testOf (evBG Γ cl k es)))
  | .nil, xs, _, h => by cases xs <;> exact nomatch h
  | .star _ _, xs, _, h => by cases xs <;> exact nomatch h
  | .cons e .nil, xs, s, h => by
    match xs with
    | [x] =>
      cases op with
      | And => exact pw_and1 (s.1.pt X C sc x L h)
      | Or => exact pw_or1 (s.1.pt X C sc x L h)
    | [] => exact nomatch h
    | x :: y :: r =>
      have h : (okT Γ e sc x && okTB Γ .nil sc (y :: r)) = true := h
      rw [Bool.and_eq_true] at h
      exact nomatch h.2
  | .cons e (.star e' r), xs, s, h => by
    match xs with
    | [x] => exact nomatch h
    | [] => exact nomatch h
    | x :: y :: ys =>
      have h : (okT Γ e sc x && okTB Γ (.star e' r) sc (y :: ys)) = true := h
      rw [Bool.and_eq_true] at h
      cases ys <;> exact nomatch h.2
  | .cons e (.cons e' r), xs, s, h => by
    match xs with
    | [x] => exact nomatch h
    | [] => exact nomatch h
    | x :: y :: ys =>
      have h : (okT Γ e sc x && okTB Γ (.cons e' r) sc (y :: ys)) = true := h
      rw [Bool.and_eq_true] at h
      have ih := bop_pt L hk (pos := pos) (.cons e' r) (y :: ys) s.2 h.2
      have he := s.1.pt X C sc x L h.1
      cases op with
      | And =>
        cases hk
        refine ⟨fun wh pins st σ H Q I q => (pw_and he ih).run wh pins st σ H Q I ?_⟩
        obtain ⟨M, ρ, r0, q⟩ := q
        simp only [testB_cons] at q
        refine ⟨M, ρ, r0, (After.bind q).mono fun M1 H1 b ρ1 s1 r1 hs1 h1 => ?_⟩
        cases b with
        | true =>
          rw [if_pos rfl]
          exact ⟨M1, ρ1, r1, h1⟩
        | false =>
          rw [if_neg Bool.false_ne_true]
          exact After.now (a := false) r1 h1
      | Or =>
        cases hk
        refine ⟨fun wh pins st σ H Q I q => (pw_or he ih).run wh pins st σ H Q I ?_⟩
        obtain ⟨M, ρ, r0, q⟩ := q
        simp only [testB_cons] at q
        refine ⟨M, ρ, r0, (After.bind q).mono fun M1 H1 b ρ1 s1 r1 hs1 h1 => ?_⟩
        cases b with
        | false =>
          rw [if_neg Bool.false_ne_true]
          exact ⟨M1, ρ1, r1, h1⟩
        | true =>
          rw [if_pos rfl]
          exact After.now (a := true) r1 h1
theorem se_bop {k : Bool} {es : Es} (hs : SAll Γ cl es) : SE Γ cl (.bop k es) := by
  refine ⟨fun X C sc e L h => ?_, fun X C sc e L h => ?_⟩
  · cases e with
    | BoolOp op xs pos =>
      have h : ((k == decide (op = .And)) && okB Γ es sc xs) = true := h
      rw [Bool.and_eq_true] at h
      exact bop_pe L (by simpa using h.1) es xs hs h.2
    | _ => exact nomatch h
  · cases e with
    | BoolOp op xs pos =>
      have h : ((k == decide (op = .And)) && okTB Γ es sc xs) = true := h
      rw [Bool.and_eq_true] at h
      exact (bop_pt L (by simpa using h.1) es xs hs h.2).pt
    | _ => exact nomatch h
end EV

end
section
set_option linter.all false
set_option maxRecDepth 100000
set_option Elab.async false
namespace EV
open PySem L2 PyProof.Rows
variable {Γ : Gam} {cl : Nat → List D → FRes} {X : Cx} {C : Ctx} {sc : Scope} {K : PySem.W.Frag} {M M' : AS} {H H' : Hp} {σ : EV.St} {ρ ρ' ρ1 : Ro}
/-! ### x or y by truth, a if t else b -/
theorem tru_of {v : V} {d : D} {b : Bool} (h : Pk K M H v d) (e : tru d = some b): TruV K v H b := by
  cases d with
  | none => cases h.non; cases e; rfl
  | bool c => cases h.bool; cases e; rfl
  | int i => cases h.int; cases e; rfl
  | str x =>
    cases e
  | list xs =>
    obtain ⟨a, vs, rfl, r, q⟩ := h.lst
    cases e
    refine .inl ⟨vs, .inl r, ?_⟩
    cases q <;> rfl
  | tuple xs =>
    obtain ⟨a, vs, rfl, r, q⟩ := h.tup
    cases e
    refine .inr (.inl ⟨vs, r, ?_⟩)
    cases q <;> rfl
  | dict xs => cases e
theorem se_orT {a b : E} (ha : SE Γ cl a) (hb : SE Γ cl b) : SE Γ cl (.orT a b) := by
  refine ⟨fun X C sc e L h => ?_, fun X C sc e L h => by cases e <;> exact nomatch h⟩
  cases e with
  | BoolOp op xs pos =>
    match op, xs with
    | .Or, [x, y] =>
      have h : (okE Γ a sc x && okE Γ b sc y) = true := h
      rw [Bool.and_eq_true] at h
      refine PE_imp (pe_orT (ha.pe X C sc x L h.1) (pe_one (hb.pe X C sc y L h.2))) fun σ H Q ⟨M, ρ, r, q⟩ => ?_
      refine ⟨M, ρ, r, (After.bind q).mono fun M1 H1 w ρ1 s1 r1 hs1 h1 v hv => ?_⟩
      simp only at h1
      split at h1
      · rename_i hw
        rw [L.K]
        exact ⟨true, tru_of hv.pk hw, by rw [if_pos rfl]; exact h1.now r1 v hv⟩
      · rename_i hw
        rw [L.K]
        refine ⟨false, tru_of hv.pk hw, ?_⟩
        rw [if_neg Bool.false_ne_true]
        exact ⟨M1, ρ1, r1, h1.mono fun M2 H2 w ρ2 s2 r2 hs2 h2 v hv => h2 v (hv.from s1.there)⟩
      · exact h1.elim
    | .And, _ => exact nomatch h
    | .Or, [] => exact nomatch h
    | .Or, [_] => exact nomatch h
    | .Or, _ :: _ :: _ :: _ => exact nomatch h
  | _ => exact nomatch h
theorem se_ite {c a b : E} (hc : SE Γ cl c) (ha : SE Γ cl a) (hb : SE Γ cl b) : SE Γ cl (.ite c a b) := by
  refine ⟨fun X C sc e L h => ?_, fun X C sc e L h => by cases e <;> exact nomatch h⟩
  cases e with
  | IfExp t x y pos =>
    have h : (okT Γ c sc t && okE Γ a sc x && okE Γ b sc y) = true := h
    simp only [Bool.and_eq_true] at h
    refine PE_imp (pe_ifExp (hc.pt X C sc t L h.1.1) (ha.pe X C sc x L h.1.2) (hb.pe X C sc y L h.2)) fun σ H Q ⟨M, ρ, r, q⟩ => ?_
    refine ⟨M, ρ, r, (After.bind q).mono fun M1 H1 k ρ1 s1 r1 hs1 h1 => ?_⟩
    cases k with
    | true =>
      rw [if_pos rfl]
      exact ⟨M1, ρ1, r1, After.mono (h1 : After C σ M1 H1 ρ1 (evG Γ cl a ρ1) _) fun M2 H2 w ρ2 s2 r2 hs2 h2 v hv => h2 v (hv.from s1.there)⟩
    | false =>
      rw [if_neg Bool.false_ne_true]
      exact ⟨M1, ρ1, r1, After.mono (h1 : After C σ M1 H1 ρ1 (evG Γ cl b ρ1) _) fun M2 H2 w ρ2 s2 r2 hs2 h2 v hv => h2 v (hv.from s1.there)⟩
  | _ => exact nomatch h
/-! ### items and slices -/
theorem ixN_same : EV.ixN = L2.ixN := rfl
theorem at_of {vs : List V} {ds : List D} {i : Int} {d : D} (q : DatA K M H vs ds) (e : atD ds i = some d) : ∃ v, atI vs i = some v ∧ Dat K M H v d := by
  unfold atD at e
  unfold atI
  rw [q.length]
  cases h : EV.ixN ds.length i with
  | none => rw [h] at e; cases e
  | some j =>
    rw [h] at e
    obtain ⟨v, h1, h2⟩ := q.get (i := j) e
    rw [ixN_same] at h
    rw [h]
    exact ⟨v, h1, h2⟩
def rIdx (K : PySem.W.Frag) : R2 := fun x y H Q => ∃ M d e g, Pk K M H x d ∧ Pk K M H y e ∧ idxD d e = some g ∧ Rs K M H Q (.dat g)
theorem ix_data : IxR X (rIdx X.K) := by
  intro value slice pins s σ H x y v u Q I rx ry h hsl
  obtain ⟨M, d, e, g, hd, he, hg, hR⟩ := h
  cases d with
  | list xs =>
    cases e with
    | int i =>
      obtain ⟨a, vs, rfl, r, q⟩ := hd.lst
      obtain ⟨w, h1, h2⟩ := at_of q hg
      exact ix_list value slice pins s σ H _ y v u Q I rx ry ⟨a, vs, i, w, rfl, he.int, .inl r, h1, hR.scalar h2⟩ hsl
    | _ => cases hg
  | tuple xs =>
    cases e with
    | int i =>
      obtain ⟨a, vs, rfl, r, q⟩ := hd.tup
      obtain ⟨w, h1, h2⟩ := at_of q hg
      exact ix_tup value slice pins s σ H _ y v u Q I rx ry ⟨a, vs, i, w, rfl, he.int, r, h1, hR.scalar h2⟩ hsl
    | _ => cases hg
  | str x =>
    cases e with
    | int i =>
      have hg : (if x.length ≤ sizeLine then (EV.ixN x.length i).bind fun j => (x.cps[j]?).map fun c => PyData.str ⟨#[c]⟩ else none) = some g := hg
      split at hg
      · rename_i hz
        simp only [Option.bind_eq_some_iff, Option.map_eq_some_iff] at hg
        obtain ⟨j, hj, c, hc, rfl⟩ := hg
        refine ix_str value slice pins s σ H _ y v u Q I rx ry ⟨x, i, c, hd.str, he.int, hz, ?_, hR.scalar (.str _)⟩ hsl
        unfold atI
        have e1 : x.cps.toList.length = x.length := by simp [Str.length]
        rw [e1, ← ixN_same, hj]
        simpa using hc
      · cases hg
    | _ => cases hg
  | _ => cases e <;> cases hg
theorem plainIx {y : Expr} (h : isSlice y = false) : PlainIx y := by
  intro o i
  cases y <;> first | rfl | cases h
theorem se_idx {a b : E} (ha : SE Γ cl a) (hb : SE Γ cl b) : SE Γ cl (.idx a b) := by
  have main : ∀ X C sc x y pos, Lk Γ cl X C sc → (!isSlice y && okE Γ a sc x && okE Γ b sc y) = true → PE X (.Subscript x y pos) (tW C (evG Γ cl (.idx a b))) := by
    intro X C sc x y pos L h
    simp only [Bool.and_eq_true, Bool.not_eq_true'] at h
    refine PE_imp (pe_ix (ix_data (X := X)) (opd_pe ha L h.1.2) (opd_pe hb L h.2) (plainIx h.1.1)) fun σ H Q ⟨M, ρ, r, q⟩ => ?_
    refine ⟨M, ρ, r, (After.bind q).mono fun M1 H1 o1 ρ1 s1 r1 hs1 h1 v hv => ⟨M1, ρ1, r1, (After.bind h1).mono fun M2 H2 o2 ρ2 s2 r2 hs2 h2 u hu => ?_⟩⟩
    have hv' := hv.step r r1.owl hs1 s2
    have st := (s1.trans hs1 s2).there
    rw [L.K]
    simp only at h2
    split at h2
    · rename_i d e e1 e2
      obtain ⟨g, hg, q⟩ := h2.of
      exact ⟨M2, d, e, g, hv'.pk r2 e1, hu.pk r2 e2, hg, rs_of st r2 q⟩
    · exact h2.elim
  refine ⟨fun X C sc e L h => ?_, fun X C sc e L h => ?_⟩
  · cases e with
    | Subscript x y pos =>
      cases y <;> first | exact main X C sc x _ pos L h | exact nomatch h
    | _ => exact nomatch h
  · cases e with
    | Subscript x y pos => exact pt_of_pe (main X C sc x y pos L h) fun _ => rfl
    | _ => exact nomatch h
theorem sIx_same (n d : Nat) (o : Option Int) (hd : d ≤ n) : EV.sIx n d o = HT.sIx n d o := by
  cases o with
  | none => rfl
  | some v =>
    have e := HT.clip_eq v n d
    show (if v < 0 then (v + n).toNat else min v.toNat n) = _
    split at e <;> split <;> omega
theorem cut_of {vs : List V} {ds : List D} {lo hi : Option Int} (q : DatA K M H vs ds) : DatA K M H (cutV vs lo hi) (cutD ds lo hi) := by
  unfold cutV cutD
  rw [q.length, ← sIx_same _ _ lo (Nat.zero_le _), ← sIx_same _ _ hi (Nat.le_refl _)]
  exact (q.drop _).take _
def rSlc (K : PySem.W.Frag) : V → Option Int → Option Int → Hp → VK → Prop := fun x lo hi H Q => ∃ M d w, Pk K M H x d ∧ slcD d lo hi = some w ∧ Rs K M H Q w
theorem sl_data : SlR X (rSlc X.K) := by
  intro pins s σ H x v vl vu lo hi sl Q I rx hs pl pu h
  obtain ⟨M, d, w, hd, hw, hR⟩ := h
  cases d with
  | list xs =>
    cases hw
    obtain ⟨a, vs, rfl, r, q⟩ := hd.lst
    exact sl_list pins s σ H _ v vl vu lo hi sl Q I rx hs pl pu ⟨a, vs, rfl, .inl r, fun p hp => hR.lst (cut_of q) hp⟩
  | tuple xs =>
    cases hw
    obtain ⟨a, vs, rfl, r, q⟩ := hd.tup
    refine sl_tupA pins s σ H _ v vl vu lo hi sl Q I rx hs pl pu ⟨a, vs, rfl, r, fun hz => ?_, fun _ p hp => hR.tup (cut_of q) hp⟩
    have e : cutD xs lo hi = xs := by
      unfold cutD
      rw [sIx_same _ _ lo (Nat.zero_le _), sIx_same _ _ hi (Nat.le_refl _), ← q.length, hz.1, hz.2]
      rw [q.length]
      simp
    rw [e] at hR
    exact hR.scalar (.tup r q)
  | _ => cases hw
theorem part_po {lo : Eo} {l : Option Expr} (hlo : ∀ e, lo = .yes e → SE Γ cl e) (L : Lk Γ cl X C sc) (h : okO Γ lo sc l = true) :
    PO X l (fun σ H Q => ∃ M ρ, Rep C.K C.M0 M ρ σ H ∧ After C σ M H ρ (evI Γ.F cl lo ρ) fun _ H' i _ => Q i H') := by
  cases lo with
  | no =>
    cases l with
    | none => exact ⟨fun pins s σ H Q I ⟨M, ρ, r, q⟩ => po_none.run pins s σ H Q I (After.now (a := (none : Option Int)) r q)⟩
    | some x => exact nomatch h
  | yes e =>
    cases l with
    | none => exact nomatch h
    | some x =>
      refine ⟨fun pins s σ H Q I ⟨M, ρ, r, q⟩ => (po_some (tD_of ((hlo e rfl).pe X C sc x L h))).run pins s σ H Q I ⟨M, ρ, r, ?_⟩⟩
      refine (After.bind q).mono fun M1 H1 d ρ1 s1 r1 hs1 h1 v hv => ?_
      obtain ⟨i, hi, q⟩ := h1.of
      cases d with
      | int j => cases hi; cases hv; exact ⟨i, rfl, q.now r1⟩
      | _ => cases hi
theorem se_slc {a : E} {lo hi : Eo} (ha : SE Γ cl a) (hlo : ∀ e, lo = .yes e → SE Γ cl e) (hhi : ∀ e, hi = .yes e → SE Γ cl e) : SE Γ cl (.slc a lo hi) := by
  refine ⟨fun X C sc e L h => ?_, fun X C sc e L h => by cases e <;> exact nomatch h⟩
  cases e with
  | Subscript x y pos =>
    cases y with
    | Slice l u st pos' =>
      cases st with
      | none =>
        have h : (okE Γ a sc x && okO Γ lo sc l && okO Γ hi sc u) = true := h
        simp only [Bool.and_eq_true] at h
        refine PE_imp (pe_slice (sl_data (X := X)) (opd_pe ha L h.1.1) (part_po hlo L h.1.2) (part_po hhi L h.2)) fun σ H Q ⟨M, ρ, r, q⟩ => ?_
        refine ⟨M, ρ, r, (After.bind q).mono fun M1 H1 o1 ρ1 s1 r1 hs1 h1 v hv => ⟨M1, ρ1, r1, (After.bind h1).mono fun M2 H2 i ρ2 s2 r2 hs2 h2 => ⟨M2, ρ2, r2, (After.bind h2).mono fun M3 H3 j ρ3 s3 r3 hs3 h3 => ?_⟩⟩⟩
        have s23 := s2.trans hs2 s3
        have hv' := hv.step r r1.owl hs1 s23
        have st := (s1.trans hs1 s23).there
        rw [L.K]
        simp only at h3
        split at h3
        · rename_i d e1
          obtain ⟨w, hw, q⟩ := h3.of
          exact ⟨M3, d, w, hv'.pk r3 e1, hw, rs_of st r3 q⟩
        · exact h3.elim
      | some z => exact nomatch h
    | _ => exact nomatch h
  | _ => exact nomatch h
/-! ### argument lists -/
theorem star_of {E : E} {e : Expr} (h : okE Γ E sc e = true) (es : List Expr) (env : Env) : starEach (e :: es) env = (false, eval e env) :: starEach es env := by
  cases e with
  | Starred x p =>
    cases E with
    | op1 o a => cases o <;> exact nomatch h
    | _ => exact nomatch h
  | _ => rfl
theorem nostar (pos : Pos) (env : Env) : ∀ {es : Es} {xs : List Expr}, okEs Γ es sc xs = true → (backTo pos (starEach xs env)).any (·.1) = false
  | .nil, [], _ => rfl
  | .nil, _ :: _, h => nomatch h
  | .star _ _, xs, h => by cases xs <;> exact nomatch h
  | .cons e es, [], h => nomatch h
  | .cons e es, x :: xs, h => by
    have h : (okE Γ e sc x && okEs Γ es sc xs) = true := h
    rw [Bool.and_eq_true] at h
    rw [star_of h.1]
    have ih := nostar pos env h.2
    simpa [backTo] using ih
/-- all data -/
theorem pa_L (L : Lk Γ cl X C sc) : ∀ (es : Es) (xs : List Expr), SAll Γ cl es → okEs Γ es sc xs = true →
    PA X xs (fun σ H Q => ∃ M ρ, Rep C.K C.M0 M ρ σ H ∧ After C σ M H ρ (evL Γ.F cl es ρ) fun M' H' ds _ => ∀ vs, DatA C.K M' H' vs ds → Q vs H')
  | .nil, [], _, _ => PA_imp pa_nil fun σ H Q ⟨M, ρ, r, q⟩ => After.now (a := ([] : List D)) r q [] .nil
  | .nil, _ :: _, _, h => nomatch h
  | .star _ _, xs, _, h => by cases xs <;> exact nomatch h
  | .cons e es, [], _, h => nomatch h
  | .cons e es, x :: xs, s, h => by
    have h : (okE Γ e sc x && okEs Γ es sc xs) = true := h
    rw [Bool.and_eq_true] at h
    refine PA_imp (pa_cons (tD_of (s.1.pe X C sc x L h.1)) (pa_L L es xs s.2 h.2) (star_of h.1 xs X.env)) fun σ H Q ⟨M, ρ, r, q⟩ => ?_
    refine ⟨M, ρ, r, (After.bind q).mono fun M1 H1 d ρ1 s1 r1 hs1 h1 v hv => ⟨M1, ρ1, r1, (After.bind h1).mono fun M2 H2 ds ρ2 s2 r2 hs2 h2 vs hvs => ?_⟩⟩
    exact h2.now r2 (v :: vs) (.cons (hv.step r1.owl s2) hvs)
theorem se_tup {es : Es} (hs : SAll Γ cl es) : SE Γ cl (.tup es) := by
  refine ⟨fun X C sc e L h => ?_, fun X C sc e L h => by cases e <;> exact nomatch h⟩
  cases e with
  | Tuple xs k pos =>
    refine PE_imp (pe_tup (pa_L L es xs hs h)) fun σ H Q ⟨M, ρ, r, q⟩ => ⟨M, ρ, r, (After.bind q).mono fun M1 H1 ds ρ1 s1 r1 hs1 h1 vs hvs => ?_⟩
    simp only at h1
    split at h1
    · rename_i hz
      exact ⟨by rw [hvs.length]; exact hz, fun p hp => (rs_of s1.there r1 h1).tup hvs hp⟩
    · exact h1.elim
  | _ => exact nomatch h
theorem se_lst {es : Es} (hs : SAll Γ cl es) : SE Γ cl (.lst es) := by
  refine ⟨fun X C sc e L h => ?_, fun X C sc e L h => by cases e <;> exact nomatch h⟩
  cases e with
  | List xs pos =>
    refine PE_imp (pe_lst (pa_L L es xs hs h)) fun σ H Q ⟨M, ρ, r, q⟩ => ⟨M, ρ, r, (After.bind q).mono fun M1 H1 ds ρ1 s1 r1 hs1 h1 vs hvs => ?_⟩
    simp only at h1
    split at h1
    · rename_i hz
      exact ⟨by rw [hvs.length]; exact hz, fun p hp => (rs_of s1.there r1 h1).lst hvs hp⟩
    · exact h1.elim
  | _ => exact nomatch h
/-! ### operands as arguments -/
/-- values of operands, each as it was when it came -/
def VOs (K : PySem.W.Frag) (H : Hp) (M : AS) (H' : Hp) (σ : St) : List V → List Opd → Prop := Paired fun v o => VO K H M H' σ v o
theorem VOs.step {M0 M1 M2 : AS} {H1 H2 : Hp} {O : AS} {vs : List V} {os : List Opd} (r : Rep K M0 M ρ σ H) (w : OwL O M1 H1) (hs : ∀ a, O a → Ow ρ σ a) (s : Stp O M1 H1 M2 H2) : VOs K H M1 H1 σ vs os → VOs K H M2 H2 σ vs os := fun h => Paired.mapP h fun _ _ q => q.step r w hs s
theorem VOs.from {H1 : Hp} {M2 : AS} {H2 : Hp} {vs : List V} {os : List Opd} (t : ∀ a o, H a = some o → ∃ o', H1 a = some o') : VOs K H1 M2 H2 σ vs os → VOs K H M2 H2 σ vs os := fun h => Paired.mapP h fun _ _ q => q.from t
theorem pa_A (L : Lk Γ cl X C sc) : ∀ (es : Es) (xs : List Expr), SAll Γ cl es → okEs Γ es sc xs = true →
    PA X xs (fun σ H Q => ∃ M ρ, Rep C.K C.M0 M ρ σ H ∧ After C σ M H ρ (evA Γ.F cl es ρ) fun M' H' os _ => ∀ vs, VOs C.K H M' H' σ vs os → Q vs H')
  | .nil, [], _, _ => PA_imp pa_nil fun σ H Q ⟨M, ρ, r, q⟩ => After.now (a := ([] : List Opd)) r q [] .nil
  | .nil, _ :: _, _, h => nomatch h
  | .star _ _, xs, _, h => by cases xs <;> exact nomatch h
  | .cons e es, [], _, h => nomatch h
  | .cons e es, x :: xs, s, h => by
    have h : (okE Γ e sc x && okEs Γ es sc xs) = true := h
    rw [Bool.and_eq_true] at h
    refine PA_imp (pa_cons (opd_pe s.1 L h.1) (pa_A L es xs s.2 h.2) (star_of h.1 xs X.env)) fun σ H Q ⟨M, ρ, r, q⟩ => ?_
    refine ⟨M, ρ, r, (After.bind q).mono fun M1 H1 d ρ1 s1 r1 hs1 h1 v hv => ⟨M1, ρ1, r1, (After.bind h1).mono fun M2 H2 ds ρ2 s2 r2 hs2 h2 vs hvs => ?_⟩⟩
    exact h2.now r2 (v :: vs) (.cons (hv.step r r1.owl hs1 s2) (hvs.from s1.there))
theorem VOs.pk {M0 M1 : AS} {H1 : Hp} (r : Rep K M0 M1 ρ1 σ H1) : ∀ {vs : List V} {os : List Opd} {ds : List D}, VOs K H M1 H1 σ vs os → rdAll ρ1 os = some ds → PkA K M1 H1 vs ds
  | _, _, ds, .nil, e => by cases e; exact .nil
  | _, _, ds, .cons (b := o) h t, e => by
    simp only [rdAll, Option.bind_eq_some_iff, Option.map_eq_some_iff] at e
    obtain ⟨d, e1, ds', e2, rfl⟩ := e
    exact .cons (h.pk r e1) (VOs.pk r t e2)
/-! ### built-in functions -/
theorem bi_mem (b : Bi) : biName b ∈ biNames := by cases b <;> decide
theorem bi_rule (L : Lk Γ cl X C sc) {b : Bi} (hb : b.odd = false) : (∃ id, CallR X (.builtin id) (rBi C.K b) ∧ bootBuiltins (biName b) = some (.builtin id)) ∨ (∃ T, CallR X (.type T) (rBi C.K b) ∧ bootBuiltins (biName b) = some (.type T)) := by
  rw [← L.K]
  have hu := L.room
  cases b with
  | len => exact .inl ⟨_, c_len, by decide +kernel⟩
  | abs => exact .inl ⟨_, c_abs, by decide +kernel⟩
  | int => exact .inr ⟨_, c_int, by decide +kernel⟩
  | list => exact .inr ⟨_, c_list L.calm, by decide +kernel⟩
  | tuple => exact .inr ⟨_, c_tuple, by decide +kernel⟩
  | sorted => exact .inl ⟨_, c_sorted (by omega), by decide +kernel⟩
  | sortset => cases hb
  | sumL => cases hb
  | all => exact .inl ⟨_, c_all L.calm, by decide +kernel⟩
  | any => exact .inl ⟨_, c_any L.calm, by decide +kernel⟩
  | sum => exact .inl ⟨_, c_sum L.calm, by decide +kernel⟩
theorem bi_nm (b : Bi) : biName b ≠ "__name__" ∧ (biName b == ("__debug__" : Str)) = false := by cases b <;> decide
theorem odd_args {b : Bi} (h : b.odd = false) (sc : Scope) (xs : List Expr) : argsOf b xs = xs ∧ oddC sc b xs = true := by
  cases b <;> first | (cases h; done) | exact ⟨rfl, rfl⟩
theorem sort_read {C : Ctx} {Q : VK} {w : World} {M1 : AS} {H1 : Hp} {vs : List V} {d : D} {u : W} (hv : PkA C.K M1 H1 vs [d]) (hw : bi .sortset [d] = some u) (q : Rs C.K M1 H1 Q u) : rSetD C.K w vs H1 fun x H2 => tNil (σ : St) H2 fun xs H3 => rSortV C.K w (x :: xs) H3 Q := by
  obtain ⟨ds, hi, hok, rfl⟩ : ∃ ds, items d = some ds ∧ setOk ds = true ∧ u = .new (uniqD ds) := by
    cases d with
    | list xs => obtain ⟨z, rfl⟩ := some_ite hw; exact ⟨xs, rfl, z, rfl⟩
    | tuple xs => obtain ⟨z, rfl⟩ := some_ite hw; exact ⟨xs, rfl, z, rfl⟩
    | _ => cases hw
  refine ⟨M1, d, ds, hv, hi, hok, fun a us ws es ha hvs hd nd hm => ?_⟩
  have s1 : Stp0 M1 H1 M1 (upd H1 a (SetVO w us a)) := .laid ha
  have hlen : es.length < 64 := by
    have h1 := (setOk_of hok).len
    have h2 : (uniqD ds).length ≤ ds.length := by
      have r : ∀ l : List D, (uniqD l).length ≤ l.length := by
        intro l
        induction l with
        | nil => exact Nat.le_refl _
        | cons x l ih =>
          have : ∀ m : List D, (addD x m).length ≤ m.length + 1 := by
            intro m
            induction m with
            | nil => exact Nat.le_refl _
            | cons y m ih2 =>
              unfold addD
              split
              · simp
              · split
                · simp only [List.length_cons]; omega
                · simp
          have h := this (uniqD l)
          show (addD x (uniqD l)).length ≤ l.length + 1
          omega
      exact r ds
    have h3 := congrArg List.length (uniq_eq (setOk_tot hok) nd hm)
    rw [(sortD_perm es).length_eq] at h3
    omega
  have sok : sortOk es = true := by
    simp only [sortOk, allAlike, depthOk, Bool.and_eq_true, List.all_eq_true, decide_eq_true_eq]
    have SO := setOk_of hok
    refine ⟨⟨fun x hx y hy => SO.alike x ((hm x).mp hx) y ((hm y).mp hy), fun x hx => Nat.le_trans (SO.depth x ((hm x).mp hx)) (by decide)⟩, fun x hx => ?_⟩
    have := SO.key x ((hm x).mp hx)
    cases x <;> first | rfl | (cases this; done)
  refine ⟨a, us, ws, es, M1, rfl, upd_same, hvs, hd.step0 s1, sok, hlen, fun ws' cs hp hd2 p hp2 => ?_⟩
  have e : sortD cs = uniqD ds := uniq_eq (setOk_tot hok) (hp.nodup_iff.mpr nd) fun x => (hp.mem_iff).trans (hm x)
  rw [e] at hd2
  have hpn : H1 p = none := by
    cases hh : H1 p with
    | none => rfl
    | some o => have := s1.keep p o hh; rw [hp2] at this; cases this
  exact q _ _ _ (s1.trans (.lnew hp2)) ⟨p, ws', rfl, hpn, upd_same, hd2.step0 (.lnew hp2), .inr rfl⟩
theorem sum_read {C : Ctx} {Q : VK} {M1 : AS} {H1 : Hp} {v : V} {d : D} {u : W} (hv : Pk C.K M1 H1 v d) (hw : bi .sumL [d] = some u) (q : Rs C.K M1 H1 Q u) (p : Addr) (hp : H1 p = none) : rSumL C.K [v, .ref p] (upd H1 p (.lst [])) Q := by
  cases d with
  | list xs =>
    simp only [bi, Option.bind_eq_some_iff] at hw
    obtain ⟨ls, h1, h2⟩ := hw
    obtain ⟨hz, rfl⟩ := some_ite h2
    have s1 : Stp0 M1 H1 M1 (upd H1 p (.lst [])) := .laid hp
    refine ⟨M1, v, p, xs, ls, rfl, ?_, upd_same, h1, hz, fun e => ?_, fun ws r hd hr => ?_⟩
    · obtain ⟨a, ys, rfl, r1, q1⟩ := hv.lst
      refine ⟨a, ys, rfl, ?_, q1.step0 s1⟩
      rcases r1 with r | ⟨o, r⟩
      · exact .inl (s1.keep _ _ r)
      · exact .inr ⟨o, s1.keep _ _ r⟩
    · rw [e] at q
      exact q _ _ _ (.lnew hp) ⟨p, [], rfl, hp, upd_same, .nil, .inr rfl⟩
    · have hrn : H1 r = none := by
        cases hh : H1 r with
        | none => rfl
        | some o => have := s1.keep r o hh; rw [hr] at this; cases this
      exact q _ _ _ (s1.trans (.lnew hr)) ⟨r, ws, rfl, hrn, upd_same, hd.step0 (.lnew hr), .inr rfl⟩
  | _ => cases hw
theorem se_bi {b : Bi} {es : Es} (hs : SAll Γ cl es) : SE Γ cl (.bi b es) := by
  have main : ∀ X C sc f xs ks pos, Lk Γ cl X C sc → okE Γ (.bi b es) sc (.Call f xs ks pos) = true → PE X (.Call f xs ks pos) (tW C (evG Γ cl (.bi b es))) := by
    intro X C sc f xs ks pos L h
    cases f with
    | Name x p =>
      cases ks with
      | cons _ _ => exact nomatch h
      | nil =>
        have h : (decide (x = biName b) && oddC sc b xs && glC sc x && okEs Γ es sc (argsOf b xs)) = true := h
        simp only [Bool.and_eq_true, decide_eq_true_eq] at h
        obtain ⟨⟨⟨rfl, h2⟩, h3⟩, h4⟩ := h
        obtain ⟨n1, n2⟩ := bi_nm b
        have hu := L.room
        cases hodd : b.odd with
        | false =>
          rw [(odd_args hodd sc xs).1] at h4
          have read : ∀ σ H Q, tW C (evG Γ cl (.bi b es)) σ H Q → tCB (rBi C.K b) (fun σ H Q => ∃ M ρ, Rep C.K C.M0 M ρ σ H ∧ After C σ M H ρ (evA Γ.F cl es ρ) fun M' H' os _ => ∀ vs, VOs C.K H M' H' σ vs os → Q vs H') σ H Q := by
            intro σ H Q ⟨M, ρ, r, q⟩
            refine ⟨M, ρ, r, (After.bind q).mono fun M1 H1 os ρ1 s1 r1 hs1 h1 vs hvs => ?_⟩
            obtain ⟨w, hw, q⟩ := h1.of
            simp only [Option.bind_eq_some_iff] at hw
            obtain ⟨ds, e1, e2⟩ := hw
            exact ⟨M1, ds, w, hvs.pk r1 e1, e2, rs_of s1.there r1 q⟩
          match xs, es, hs, h4 with
          | [], .nil, _, _ =>
            exact ⟨fun pins s σ H Q I q => by
              obtain ⟨M, ρ, r, q⟩ := q
              have q : After C σ M H ρ ((Res.of (bi b [])).bind fun w => .ok (w, ρ)) _ := q
              obtain ⟨w, hw, _⟩ := q.of
              cases b <;> cases hw⟩
          | y :: ys, .cons e r, hs, h4 =>
            have h5 : (okE Γ e sc y && okEs Γ r sc ys) = true := h4
            rw [Bool.and_eq_true] at h5
            rcases bi_rule L hodd with ⟨id, c1, c2⟩ | ⟨T, c1, c2⟩
            · exact PE_imp (pe_callB c1 (glC_of L h3) (L.bi _ (bi_mem b)) c2 (pa_A L (.cons e r) (y :: ys) hs h4) n1 n2 (star_of h5.1 ys X.env) (nostar pos X.env h5.2)) read
            · exact PE_imp (pe_callTy c1 (glC_of L h3) (L.bi _ (bi_mem b)) c2 (pa_A L (.cons e r) (y :: ys) hs h4) n1 n2 (star_of h5.1 ys X.env) (nostar pos X.env h5.2)) read
        | true =>
          have two : b = .sortset ∨ b = .sumL := by cases b <;> first | (cases hodd; done) | exact .inl rfl | exact .inr rfl
          rcases two with rfl | rfl
          · match xs, h2, h4 with
            | [.Call (.Name y p2) [z] [] pos2], h2, h4 =>
              have h2 : (decide (y = "set") && glC sc y) = true := h2
              simp only [Bool.and_eq_true, decide_eq_true_eq] at h2
              obtain ⟨rfl, hg⟩ := h2
              have h4 : okEs Γ es sc [z] = true := h4
              match es, hs, h4 with
              | .cons e (.cons _ _), hs, h4 =>
                have h5 : (okE Γ e sc z && false) = true := h4
                rw [Bool.and_false] at h5; cases h5
              | .cons e (.star _ _), hs, h4 =>
                have h5 : (okE Γ e sc z && false) = true := h4
                rw [Bool.and_false] at h5; cases h5
              | .cons e .nil, hs, h4 =>
                have h5 : (okE Γ e sc z && true) = true := h4
                rw [Bool.and_true] at h5
                have cs : CallR X (.type "set") (rSetD C.K X.w) := by rw [← L.K]; exact c_set L.calm (by omega)
                have cv : CallR X (.builtin "sorted") (rSortV C.K X.w) := by rw [← L.K]; exact c_sortV L.calm (by omega)
                have pin : PE X (.Call (.Name "set" p2) [z] [] pos2) _ := pe_callTy cs (glC_of L hg) (L.bi _ (by decide)) (by decide +kernel) (pa_A L (.cons e .nil) [z] hs h4) (by decide) (by decide) (star_of h5 [] X.env) rfl
                refine PE_imp (pe_callB cv (glC_of L h3) (L.bi _ (bi_mem .sortset)) (by decide +kernel) (pa_cons pin pa_nil rfl) n1 n2 rfl rfl) ?_
                intro σ H Q ⟨M, ρ, r, q⟩
                refine ⟨M, ρ, r, (After.bind q).mono fun M1 H1 os ρ1 s1 r1 hs1 h1 vs hvs => ?_⟩
                obtain ⟨w, hw, q⟩ := h1.of
                simp only [Option.bind_eq_some_iff] at hw
                obtain ⟨ds, e1, e2⟩ := hw
                obtain ⟨d, rfl⟩ := bi_one e2
                exact sort_read (σ := σ) (hvs.pk r1 e1) e2 (rs_of s1.there r1 q)
          · match xs, h2, h4 with
            | [z, .List [] pos2], h2, h4 =>
              have h4 : okEs Γ es sc [z] = true := h4
              match es, hs, h4 with
              | .cons e (.cons _ _), hs, h4 =>
                have h5 : (okE Γ e sc z && false) = true := h4
                rw [Bool.and_false] at h5; cases h5
              | .cons e (.star _ _), hs, h4 =>
                have h5 : (okE Γ e sc z && false) = true := h4
                rw [Bool.and_false] at h5; cases h5
              | .cons e .nil, hs, h4 =>
                have h5 : (okE Γ e sc z && true) = true := h4
                rw [Bool.and_true] at h5
                have cv : CallR X (.builtin "sum") (rSumL C.K) := by rw [← L.K]; exact c_sumL L.calm
                refine PE_imp (pe_callB cv (glC_of L h3) (L.bi _ (bi_mem .sumL)) (by decide +kernel) (pa_cons (opd_pe hs.1 L h5) (pa_cons (pe_lst pa_nil) pa_nil rfl) (star_of h5 [.List [] pos2] X.env)) n1 n2 (star_of h5 [.List [] pos2] X.env) rfl) ?_
                intro σ H Q ⟨M, ρ, r, q⟩
                have q1 : After C σ M H ρ (((opdOf (evG Γ cl e) e ρ).bind fun p => (.ok ([p.1], p.2) : Res (List Opd × Ro))).bind fun p => (Res.of ((rdAll p.2 p.1).bind (bi .sumL))).bind fun w => .ok (w, p.2)) _ := q
                refine ⟨M, ρ, r, (After.bind (After.bind q1)).mono fun M1 H1 o ρ1 s1 r1 hs1 h1 v hv => ?_⟩
                have h2 : After C σ M1 H1 ρ1 ((Res.of ((rdAll ρ1 [o]).bind (bi .sumL))).bind fun w => .ok (w, ρ1)) _ := h1.now r1
                obtain ⟨w, hw, q⟩ := h2.of
                simp only [Option.bind_eq_some_iff] at hw
                obtain ⟨ds, e1, e2⟩ := hw
                obtain ⟨d, rfl⟩ := bi_one e2
                refine ⟨Nat.zero_le _, fun p hp => ?_⟩
                obtain ⟨v', ev, hv'⟩ := PkA.one (VOs.pk r1 (.cons hv .nil) e1)
                cases ev
                exact sum_read hv' e2 (rs_of s1.there r1 q) p hp
    | _ => exact nomatch h
  refine ⟨fun X C sc e L h => ?_, fun X C sc e L h => ?_⟩
  · cases e with
    | Call f xs ks pos => exact main X C sc f xs ks pos L h
    | _ => exact nomatch h
  · cases e with
    | Call f xs ks pos =>
      refine pt_of_pe (main X C sc f xs ks pos L ?_) fun _ => rfl
      cases f with
      | Name x p => cases ks with
        | cons _ _ => exact nomatch h
        | nil => exact h
      | _ => exact nomatch h
    | _ => exact nomatch h
/-! ### [..] * k -/
theorem se_rep {a b : E} (ha : SE Γ cl a) (hb : SE Γ cl b) : SE Γ cl (.rep a b) := by
  refine ⟨fun X C sc e L h => ?_, fun X C sc e L h => by cases e <;> exact nomatch h⟩
  cases e with
  | BinOp x op y pos =>
    cases op with
    | Mult =>
      have h : (okE Γ a sc x && okE Γ b sc y) = true := h
      rw [Bool.and_eq_true] at h
      refine PE_imp (pe_op op_rep (ha.pe X C sc x L h.1) (opd_pe hb L h.2)) fun σ H Q ⟨M, ρ, r, q⟩ => ?_
      refine ⟨M, ρ, r, (After.bind q).mono fun M1 H1 w ρ1 s1 r1 hs1 h1 v hv => ⟨M1, ρ1, r1, (After.bind h1).mono fun M2 H2 o2 ρ2 s2 r2 hs2 h2 u hu => ?_⟩⟩
      have hv' := VW0.step r r1.owl hs1 s2 hv
      have st := (s1.trans hs1 s2).there
      simp only at h2
      split at h2
      · rename_i xs k e2
        split at h2
        · rename_i hz
          obtain ⟨p, vs, rfl, hn, hp, hd, hm⟩ := hv'
          have hk := (hu.pk r2 e2).int
          have hl := hd.length
          exact ⟨p, k, vs, rfl, hk, hp, by omega, by omega, by rw [hl]; exact hz.2.2, fun q hq => (rs_of st r2 h2).lst (hd.rep _) hq⟩
        · exact h2.elim
      · exact h2.elim
    | _ => exact nomatch h
  | _ => exact nomatch h
/-! ### isinstance -/
def dTy : D → String
  | .none => "NoneType"
  | .bool _ => "bool"
  | .int _ => "int"
  | .str _ => "str"
  | .list _ => "list"
  | .tuple _ => "tuple"
  | .dict _ => "dict"
def tyStr : Ty → String
  | .int => "int" | .bool => "bool" | .str => "str" | .list => "list" | .tuple => "tuple"
theorem kit_has (t : Ty) (d : D) : kitB (dTy d) (tyStr t) = some (t.has d) := by
  cases d <;> cases t <;> (simp only [dTy, tyStr, Ty.has]; decide +kernel)
theorem Pk.step0 {v : V} {d : D} (s : Stp0 M H M' H') (h : Pk K M H v d) : Pk K M' H' v d := by
  cases d with
  | list xs =>
    obtain ⟨a, vs, rfl, r, q⟩ := h.lst
    refine ⟨a, vs, rfl, ?_, q.step0 s⟩
    rcases r with r | ⟨o, r⟩
    · exact .inl (s.keep _ _ r)
    · exact .inr ⟨o, s.keep _ _ r⟩
  | none => exact Dat.step0 s h
  | bool _ => exact Dat.step0 s h
  | int _ => exact Dat.step0 s h
  | str _ => exact Dat.step0 s h
  | tuple _ => exact Dat.step0 s h
  | dict _ => exact Dat.step0 s h
theorem ty_of {v : V} {d : D} (h : Pk K M H v d) : TyX K H v (.type (dTy d)) := by
  cases d with
  | none => cases h.non; exact .base .non
  | bool b => cases h.bool; exact .base (.bl _)
  | int i => cases h.int; exact .base (.int _)
  | str x => cases h.str; exact .base (.str _)
  | list xs =>
    obtain ⟨a, vs, rfl, r, q⟩ := h.lst
    rcases r with r | ⟨o, r⟩
    · exact .base (.lst r)
    · exact .base (.frz r)
  | tuple xs =>
    obtain ⟨a, vs, rfl, r, q⟩ := h.tup
    rcases r with (r | ⟨o, r⟩) | ⟨o, its, n, h1, h2, h3⟩
    · exact .base (.tup r)
    · exact .fTuple r
    · exact .kTuple h1 h2
  | dict xs => exact h.dict.elim
theorem kits_has (d : D) : ∀ ts : List Ty, PySem.W.kitAny K (.type (dTy d)) (ts.map fun t => Value.type (tyStr t)) = some (ts.any fun t => t.has d)
  | [] => kitAny_nil
  | t :: ts => by
    refine kitAny_cons (kit_ty (kit_has t d)) (fun hf => ?_) fun ht => ?_
    · rw [List.any_cons, hf, Bool.false_or]
      exact kits_has d ts
    · rw [List.any_cons, ht, Bool.true_or]
theorem ty_mem (t : Ty) : tyName t ∈ biNames ∧ bootBuiltins (tyName t) = some (.type (tyStr t)) ∧ tyName t ≠ "__name__" ∧ (tyName t == ("__debug__" : Str)) = false := by
  cases t <;> exact ⟨by decide, by decide +kernel, by decide, by decide⟩
theorem ty_pe (L : Lk Γ cl X C sc) {t : Ty} {pos : Pos} (h : glC sc (tyName t) = true) : PE X (.Name (tyName t) pos) (tC (.ty (tyStr t))) := by
  obtain ⟨h1, h2, h3, h4⟩ := ty_mem t
  exact pe_bltn (glC_of L h) (L.bi _ h1) h2 rfl h3 h4
theorem tys_pa (L : Lk Γ cl X C sc) : ∀ (ts : List Ty) (xs : List Expr), tysC sc ts xs = true → PA X xs (fun _ H Q => Q (ts.map fun t => V.ty (tyStr t)) H)
  | [], [], _ => pa_nil
  | [], _ :: _, h => nomatch h
  | _ :: _, [], h => nomatch h
  | t :: ts, .Name x p :: xs, h => by
    have h : (decide (x = tyName t) && glC sc x && tysC sc ts xs) = true := h
    simp only [Bool.and_eq_true, decide_eq_true_eq] at h
    obtain ⟨⟨rfl, h2⟩, h3⟩ := h
    exact pa_cons (ty_pe L h2) (tys_pa L ts xs h3)
theorem paired_cls : ∀ ts : List Ty, Paired ClsV (ts.map fun t => V.ty (tyStr t)) (ts.map fun t => Value.type (tyStr t))
  | [] => .nil
  | t :: ts => .cons (.ty _) (paired_cls ts)
theorem isi_read {a : E} {ts : List Ty} {b : Bool} {Q : VK} (h : tW C (evG Γ cl (.isi a ts b)) σ H Q) : tO C (opdOf (evG Γ cl a) a) σ H fun v H1 => ∃ M1 d, Pk C.K M1 H1 v d ∧ Rs C.K M1 H1 Q (.dat (.bool (ts.any fun t => t.has d))) := by
  obtain ⟨M, ρ, r, h⟩ := h
  refine ⟨M, ρ, r, (After.bind h).mono fun M1 H1 o1 ρ1 s1 r1 hs1 h1 v hv => ?_⟩
  simp only at h1
  split at h1
  · rename_i d e1
    exact ⟨M1, d, hv.pk r1 e1, rs_of s1.there r1 h1⟩
  · exact h1.elim
theorem isiC_of {ts : List Ty} {b : Bool} {f : Expr} {xs : List Expr} {ks : List Keyword} (h : isiC sc ts b f xs ks = true) :
    ∃ p x t, f = .Name "isinstance" p ∧ ks = [] ∧ xs = [x, t] ∧ glC sc "isinstance" = true ∧ ((∃ ty p', ts = [ty] ∧ t = .Name (tyName ty) p' ∧ glC sc (tyName ty) = true) ∨ ∃ tys k p', t = .Tuple tys k p' ∧ tysC sc ts tys = true ∧ ts.length ≤ 10) := by
  unfold isiC at h
  split at h
  · rename_i g p x t
    simp only [Bool.and_eq_true, decide_eq_true_eq] at h
    obtain ⟨⟨rfl, h2⟩, h4⟩ := h
    refine ⟨p, x, t, rfl, rfl, rfl, h2, ?_⟩
    unfold clsC at h4
    split at h4
    · rename_i y p'
      unfold soleC at h4
      split at h4
      · rename_i ty
        simp only [Bool.and_eq_true, decide_eq_true_eq] at h4
        obtain ⟨rfl, h5⟩ := h4
        exact .inl ⟨ty, p', rfl, rfl, h5⟩
      · cases h4
    · rename_i tys k p'
      simp only [Bool.and_eq_true, decide_eq_true_eq] at h4
      exact .inr ⟨tys, k, p', rfl, h4.1, h4.2⟩
    · cases h4
  · cases h
theorem se_isi {a : E} {ts : List Ty} {b : Bool} (ha : SE Γ cl a) : SE Γ cl (.isi a ts b) := by
  have main : ∀ X C sc f xs ks pos, Lk Γ cl X C sc → okE Γ (.isi a ts b) sc (.Call f xs ks pos) = true → PE X (.Call f xs ks pos) (tW C (evG Γ cl (.isi a ts b))) := by
    intro X C sc f xs ks pos L h
    have h : (isiC sc ts b f xs ks && headC (okE Γ a sc) xs) = true := h
    rw [Bool.and_eq_true] at h
    obtain ⟨p, x, t, rfl, rfl, rfl, h2, h4⟩ := isiC_of h.1
    have h3 : okE Γ a sc x = true := h.2
    have hm := L.bi "isinstance" (by decide)
    have hv : bootBuiltins "isinstance" = some (.builtin "isinstance") := by decide +kernel
    rcases h4 with ⟨ty, p', rfl, rfl, h5⟩ | ⟨tys, k, p', rfl, h5, h6⟩
    · refine PE_imp (pe_callB (call_isi (X := X)) (glC_of L h2) hm hv (pa_cons (opd_pe ha L h3) (pa_cons (ty_pe L h5) pa_nil) (star_of h3 _ _)) (he := star_of h3 _ _)) fun σ H Q q => ?_
      obtain ⟨M, ρ, r, q⟩ := isi_read q
      refine ⟨M, ρ, r, q.mono fun M1 H1 o1 ρ1 s1 r1 hs1 h1 v hv => ?_⟩
      obtain ⟨M2, d, hp, hR⟩ := h1 v hv
      rw [L.K]
      refine ⟨v, _, _, _, _, rfl, .ty _, ty_of hp, kit_ty (kit_has ty d), ?_⟩
      have e : ([ty].any fun t => t.has d) = ty.has d := by simp
      rw [e] at hR
      exact hR.scalar (.bl _)
    · refine PE_imp (pe_callB (call_isiT (X := X)) (glC_of L h2) hm hv (pa_cons (opd_pe ha L h3) (pa_cons (pe_tup (tys_pa L ts tys h5)) pa_nil) (star_of h3 _ _)) (he := star_of h3 _ _)) fun σ H Q q => ?_
      obtain ⟨M, ρ, r, q⟩ := isi_read q
      refine ⟨M, ρ, r, q.mono fun M1 H1 o1 ρ1 s1 r1 hs1 h1 v hv => ?_⟩
      obtain ⟨M2, d, hp, hR⟩ := h1 v hv
      rw [L.K]
      refine ⟨by rw [List.length_map, sizeLine_eq]; omega, fun p hpn => ?_⟩
      have st : Stp0 M2 H1 M2 (upd H1 p (.tup (ts.map fun t => V.ty (tyStr t)))) := .laid hpn
      exact ⟨v, p, _, _, _, _, rfl, upd_same, paired_cls ts, ty_of (hp.step0 st), kits_has d ts, hR M2 _ _ st (.bl _)⟩
  refine ⟨fun X C sc e L h => ?_, fun X C sc e L h => ?_⟩
  · cases e with
    | Call f xs ks pos => exact main X C sc f xs ks pos L h
    | _ => exact nomatch h
  · cases e with
    | Call f xs ks pos =>
      exact pt_of_pe (main X C sc f xs ks pos L h) fun _ => rfl
    | _ => exact nomatch h
/-! ### x[::-1] -/
theorem none_of {H H' : Hp} {p : Addr} (t : ∀ a o, H a = some o → ∃ o', H' a = some o') (h : H' p = none) : H p = none := by
  cases e : H p with
  | none => rfl
  | some o => obtain ⟨o', e'⟩ := t p o e; rw [h] at e'; cases e'
theorem DatA.reverse {vs : List V} {ds : List D} (h : DatA K M H vs ds) : DatA K M H vs.reverse ds.reverse := by
  induction vs generalizing ds with
  | nil => cases h; exact .nil
  | cons v vs ih =>
    cases h with
    | cons a b =>
      rw [List.reverse_cons, List.reverse_cons]
      exact (ih b).append (.cons a .nil)
theorem se_rev {a : E} (ha : SE Γ cl a) : SE Γ cl (.rev a) := by
  refine ⟨fun X C sc e L h => ?_, fun X C sc e L h => by cases e <;> exact nomatch h⟩
  cases e with
  | Subscript x y pos =>
    have h : (revC y && okE Γ a sc x) = true := by cases y <;> exact h
    rw [Bool.and_eq_true] at h
    obtain ⟨h1, h2⟩ := h
    have shape : ∃ k p1 p2 p3, y = .Slice none none (some (.UnaryOp .USub (.Constant (.int 1) k p1) p2)) p3 := by
      unfold revC at h1
      split at h1
      · unfold negC at h1
        split at h1
        · cases (of_decide_eq_true h1)
          exact ⟨_, _, _, _, rfl⟩
        · cases h1
      · cases h1
    obtain ⟨k, p1, p2, p3, rfl⟩ := shape
    refine PE_imp (EVR.pe_rev (opd_pe ha L h2)) fun σ H Q ⟨M, ρ, r, q⟩ => ?_
    refine ⟨M, ρ, r, (After.bind q).mono fun M1 H1 o ρ1 s1 r1 hs1 q1 v hv => ?_⟩
    obtain ⟨w, e1, q2⟩ := q1.of
    obtain ⟨d, e2, e3⟩ := Option.bind_eq_some_iff.mp e1
    have hd := hv.pk r1 e2
    rw [L.K]
    cases d with
    | list xs =>
      cases e3
      obtain ⟨b, vs, rfl, z1, z2⟩ := hd.lst
      exact ⟨b, vs, rfl, .inl ⟨.inl z1, fun p hp => q2.now0 r1 (.lnew hp) _ ⟨p, _, rfl, none_of s1.there hp, upd_same, z2.reverse.step0 (.lnew hp), .inr rfl⟩⟩⟩
    | tuple xs =>
      cases e3
      obtain ⟨b, vs, rfl, z1, z2⟩ := hd.tup
      exact ⟨b, vs, rfl, .inr ⟨z1, fun p hp => q2.now0 r1 (.laid hp) _ (.tup (.inl (.inl upd_same)) (z2.reverse.step0 (.laid hp)))⟩⟩
    | _ => cases e3
  | _ => exact nomatch h
end EV

end
section
set_option linter.all false
set_option maxRecDepth 100000
set_option Elab.async false
namespace EV
open PySem L2 PyProof.Rows
variable {Γ : Gam} {cl : Nat → List D → FRes} {X : Cx} {C : Ctx} {sc : Scope} {K : PySem.W.Frag} {M M' M0 M1 : AS} {H H' H1 : Hp} {σ : EV.St} {ρ ρ' ρ1 : Ro}
/-! ### the slots behind a call -/
def lentA (σ : EV.St) (lent : List Nat) : AS := fun a => ∃ i ∈ lent, σ[i]? = some (some (V.ref a))
theorem frzR_get {lent : List Nat} {j : Nat} {s : Option Sv} (h : (frzR lent ρ)[j]? = some s) : ∃ s1, ρ[j]? = some s1 ∧ s = if j ∈ lent then frzSv s1 else s1 := by
  unfold frzR at h
  rw [List.getElem?_mapIdx, Option.map_eq_some_iff] at h
  obtain ⟨s1, h1, rfl⟩ := h
  exact ⟨s1, h1, by simp⟩
theorem putIo_get {io : Option Nat} {r : Option (List D)} {j : Nat} {s : Option Sv} (h : (putIo ρ io r)[j]? = some s) :
    (∃ xs t, io = some j ∧ r = some xs ∧ ρ[j]? = some (some t) ∧ ((∃ ys, t = .own ys ∧ s = some (.own xs)) ∨ ∃ ys, t = .io ys ∧ s = some (.io xs))) ∨ ((∀ xs, r = some xs → io = some j → ∀ t ys, ρ[j]? = some (some t) → t.lst? = some ys → False) ∧ ρ[j]? = some s) := by
  unfold putIo at h
  split at h
  · rename_i i xs
    split at h
    · rename_i ys hg
      rcases set_get h with ⟨rfl, rfl⟩ | ⟨hj, h⟩
      · exact .inl ⟨xs, _, rfl, rfl, get_some hg, .inl ⟨ys, rfl, rfl⟩⟩
      · exact .inr ⟨fun _ _ z => absurd (Option.some.inj z).symm hj, h⟩
    · rename_i ys hg
      rcases set_get h with ⟨rfl, rfl⟩ | ⟨hj, h⟩
      · exact .inl ⟨xs, _, rfl, rfl, get_some hg, .inr ⟨ys, rfl, rfl⟩⟩
      · exact .inr ⟨fun _ _ z => absurd (Option.some.inj z).symm hj, h⟩
    · rename_i h1 h2
      refine .inr ⟨fun _ _ z t ys e l => ?_, h⟩
      cases z
      cases t with
      | dat d => cases l
      | own zs => exact h1 zs (by unfold get; rw [e]; rfl)
      | io zs => exact h2 zs (by unfold get; rw [e]; rfl)
  · rename_i hn
    refine .inr ⟨fun xs e1 e2 => (hn _ _ e2 e1).elim, h⟩
theorem putIo_len {io : Option Nat} {r : Option (List D)} : (putIo ρ io r).length = ρ.length := by
  unfold putIo
  split
  · split <;> simp
  · rfl
theorem frzR_len {lent : List Nat} : (frzR lent ρ).length = ρ.length := by unfold frzR; simp
/-- how the list that is handed in lies in the slots -/
structure IoSlot (K : PySem.W.Frag) (M0 : AS) (ρ : Ro) (σ : EV.St) (IoA : AS) (lent : List Nat) (M' : AS) (H' : Hp) (io : Option Nat) (r : Option (List D)) : Prop where
  at_ : ∀ i, io = some i → i ∉ lent ∧ ∃ s ys xs a us, ρ[i]? = some (some s) ∧ s.lst? = some ys ∧ r = some xs ∧ σ[i]? = some (some (V.ref a)) ∧ (∀ b, IoA b → b = a) ∧ H' a = some (.lst us) ∧ DatA K M' H' us xs ∧ M' a
  no : io = none → ∀ b, IoA b → ¬ M0 b ∧ ¬ Ow ρ σ b
theorem Rep.called {IoA : AS} {lent : List Nat} {io : Option Nat} {r : Option (List D)} (r1 : Rep K M0 M1 ρ1 σ H1) (hl : ∀ i ∈ lent, ∃ xs, ρ1[i]? = some (some (.own xs))) (wI : OwL IoA (fun a => M1 a ∧ ¬ lentA σ lent a) H1)
    (SS : Stp IoA (fun a => M1 a ∧ ¬ lentA σ lent a) H1 M' H') (hio : IoSlot K M0 ρ1 σ IoA lent M' H' io r) (dom' : ∀ a, M' a → ∃ o, H' a = some o) :
    Rep K M0 M' (frzR lent (putIo ρ1 io r)) σ H' ∧ ∀ a, Ow (frzR lent (putIo ρ1 io r)) σ a → Ow ρ1 σ a := by
  have lessD : ∀ {v d}, Dat K M1 H1 v d → Dat K M' H' v d := fun h => (h.less (fun _ z => z.1)).step wI SS
  have lessA : ∀ {v d}, DatA K M1 H1 v d → DatA K M' H' v d := fun h => (h.less (fun _ z => z.1)).step wI SS
  -- a list slot of the new frame
  have back : ∀ (j : Nat) (s : Sv) (xs : List D), (frzR lent (putIo ρ1 io r))[j]? = some (some s) → s.lst? = some xs →
      j ∉ lent ∧ ∃ t ys, ρ1[j]? = some (some t) ∧ t.lst? = some ys ∧ ((∃ z, t = .own z) ↔ ∃ z, s = .own z) ∧ ((io = some j ∧ r = some xs) ∨ (io ≠ some j ∧ t = s)) := by
    intro j s xs h l
    obtain ⟨s1, h1, h2⟩ := frzR_get h
    have notl : j ∉ lent := by
      intro hj
      rw [if_pos hj] at h2
      obtain ⟨zs, hz⟩ := hl j hj
      rcases putIo_get h1 with ⟨ys, t, e1, _⟩ | ⟨_, h1⟩
      · exact (hio.at_ j e1).1 hj
      · rw [hz] at h1; cases h1
        cases h2
        cases l
    rw [if_neg notl] at h2
    subst h2
    refine ⟨notl, ?_⟩
    rcases putIo_get h1 with ⟨ys, t, e1, e2, e3, e4⟩ | ⟨hn, h1⟩
    · rcases e4 with ⟨zs, rfl, e5⟩ | ⟨zs, rfl, e5⟩
      · cases e5; cases l
        exact ⟨_, zs, e3, rfl, ⟨fun _ => ⟨_, rfl⟩, fun _ => ⟨_, rfl⟩⟩, .inl ⟨e1, e2⟩⟩
      · cases e5; cases l
        exact ⟨_, zs, e3, rfl, ⟨fun ⟨_, z⟩ => (nomatch z), fun ⟨_, z⟩ => (nomatch z)⟩, .inl ⟨e1, e2⟩⟩
    · refine ⟨s, xs, h1, l, Iff.rfl, ?_⟩
      by_cases e : io = some j
      · obtain ⟨_, _, _, zs, _, _, _, _, e2, _⟩ := hio.at_ j e
        exact (hn zs e2 e s xs h1 l).elim
      · exact .inr ⟨e, rfl⟩
  -- an address of another list slot
  have other : ∀ (j : Nat) (t : Sv) (ys : List D) (a : Addr), ρ1[j]? = some (some t) → t.lst? = some ys → σ[j]? = some (some (V.ref a)) → io ≠ some j → ¬ IoA a := by
    intro j t ys a e l q hj z
    cases eio : io with
    | none => exact (hio.no eio a z).2 ⟨j, t, ys, e, l, q⟩
    | some i =>
      obtain ⟨_, s, zs, xs, b, us, e1, l1, _, q1, hb, _⟩ := hio.at_ i eio
      have := hb a z
      subst this
      exact hj (by rw [eio, r1.inj i j _ s t zs ys e1 e l1 l q1 q])
  refine ⟨⟨by rw [frzR_len, putIo_len]; exact r1.len, dom', fun a z => ?_, fun j d e => ?_, fun j s xs e l => ?_, fun j xs a e q => ?_, fun j xs a e q => ?_, fun i j a s t xs ys e1 e2 l1 l2 q1 q2 => ?_⟩, fun a ⟨j, s, xs, e, l, q⟩ => ?_⟩
  · by_cases hI : IoA a
    · cases eio : io with
      | none => exact absurd z (hio.no eio a hI).1
      | some i =>
        obtain ⟨_, s, zs, xs, b, us, e1, l1, _, q1, hb, _, _, hm⟩ := hio.at_ i eio
        rw [hb a hI]; exact hm
    · refine SS.old a ⟨r1.sub a z, fun ⟨i, hi, q⟩ => ?_⟩ hI
      obtain ⟨zs, hz⟩ := hl i hi
      exact r1.own i zs a hz q z
  · obtain ⟨s1, h1, h2⟩ := frzR_get e
    by_cases hj : j ∈ lent
    · rw [if_pos hj] at h2
      obtain ⟨zs, hz⟩ := hl j hj
      have h1' : ρ1[j]? = some s1 := by
        rcases putIo_get h1 with ⟨ys, t, e1, _⟩ | ⟨_, h1⟩
        · exact absurd hj (hio.at_ j e1).1
        · exact h1
      rw [hz] at h1'; cases h1'
      cases h2
      obtain ⟨a, us, q1, q2, q3, q4⟩ := r1.lst j _ zs hz rfl
      have nI : ¬ IoA a := other j _ zs a hz rfl q1 fun z => (hio.at_ j z).1 hj
      refine ⟨_, q1, .lst (.inl (SS.keep a _ q2 nI)) (fun z => ?_) (lessA q3)⟩
      rcases SS.new a z with z | z
      · exact z.2 ⟨j, hj, q1⟩
      · rw [q2] at z; cases z
    · rw [if_neg hj] at h2
      subst h2
      rcases putIo_get h1 with ⟨ys, t, e1, e2, e3, e4⟩ | ⟨_, h1⟩
      · rcases e4 with ⟨zs, rfl, e5⟩ | ⟨zs, rfl, e5⟩ <;> cases e5
      · obtain ⟨v, q1, q2⟩ := r1.dat j d h1
        exact ⟨v, q1, lessD q2⟩
  · obtain ⟨notl, t, ys, e1, l1, _, hc⟩ := back j s xs e l
    obtain ⟨a, us, q1, q2, q3, q4⟩ := r1.lst j t ys e1 l1
    rcases hc with ⟨e2, e3⟩ | ⟨e2, rfl⟩
    · obtain ⟨_, s', zs, xs', b, us', f1, f2, f3, f4, _, f6, f7, f8⟩ := hio.at_ j e2
      rw [q1] at f4; cases f4
      rw [e3] at f3; cases f3
      exact ⟨a, us', q1, f6, f7, f8⟩
    · have nI := other j t ys a e1 l1 q1 e2
      rw [l] at l1; cases l1
      refine ⟨a, us, q1, SS.keep a _ q2 nI, lessA q3, SS.old a ⟨q4, fun ⟨i, hi, q⟩ => ?_⟩ nI⟩
      obtain ⟨zs, hz⟩ := hl i hi
      exact notl (r1.inj i j a _ t zs xs hz e1 rfl l q q1 ▸ hi)
  · obtain ⟨_, t, ys, e1, l1, hk, _⟩ := back j _ xs e rfl
    obtain ⟨zs, rfl⟩ := hk.mpr ⟨xs, rfl⟩
    exact r1.own j zs a e1 q
  · obtain ⟨_, t, ys, e1, l1, hk, _⟩ := back j _ xs e rfl
    cases t with
    | dat d => cases l1
    | own zs => obtain ⟨_, z⟩ := hk.mp ⟨zs, rfl⟩; cases z
    | io zs => exact r1.io j zs a e1 q
  · obtain ⟨_, t1, ys1, f1, g1, _⟩ := back i s xs e1 l1
    obtain ⟨_, t2, ys2, f2, g2, _⟩ := back j t ys e2 l2
    exact r1.inj i j a t1 t2 ys1 ys2 f1 f2 g1 g2 q1 q2
  · obtain ⟨_, t, ys, e1, l1, _⟩ := back j s xs e l
    exact ⟨j, t, ys, e1, l1, q⟩
/-! ### a call's arguments -/
/-- what is not to be changed is data or a slot -/
def OsOk : List Opd → Option Nat → Prop
  | [], _ => True
  | o :: os, io => (io ≠ some 0 → ∀ xs, o ≠ .val (.new xs)) ∧ OsOk os (down io)
theorem opdD_pe {E : E} {e : Expr} (s : SE Γ cl E) (L : Lk Γ cl X C sc) (h : okE Γ E sc e = true) : PE X e (tO C (opdD (evG Γ cl E) E)) := by
  have other : opdD (evG Γ cl E) E = (fun ρ => (evG Γ cl E ρ).bind fun p => .ok (.val (.dat p.1.d), p.2)) → PE X e (tO C (opdD (evG Γ cl E) E)) := by
    intro eq
    rw [eq]
    refine PE_imp (s.pe X C sc e L h) fun σ H Q ⟨M, ρ, r, a⟩ => ⟨M, ρ, r, ?_⟩
    change After C σ M H ρ ((evG Γ cl E ρ).bind fun p => .ok (Opd.val (W.dat p.1.d), p.2)) _ at a
    cases e : evG Γ cl E ρ with
    | ok p =>
      rw [e] at a
      intro M1 H1 s1 r1 hs1 v hv
      obtain ⟨M2, s2, r2, d2, l2, _⟩ := hv.freeze r s1 r1 hs1
      exact a M2 H1 s2 r2 hs1 v d2
    | exc x ρ' => rw [e] at a; exact a
    | stuck => rw [e] at a; exact a
  cases E with
  | var i => exact opd_pe s L h
  | _ => exact other rfl
theorem pa_CA (L : Lk Γ cl X C sc) : ∀ (es : Es) (xs : List Expr) (io : Option Nat), SAll Γ cl es → okEs Γ es sc xs = true →
    PA X xs (fun σ H Q => ∃ M ρ, Rep C.K C.M0 M ρ σ H ∧ After C σ M H ρ (evCA Γ.F cl es io ρ) fun M' H' os _ => ∀ vs, VOs C.K H M' H' σ vs os → Q vs H')
  | .nil, [], _, _, _ => PA_imp pa_nil fun σ H Q ⟨M, ρ, r, q⟩ => After.now (a := ([] : List Opd)) r q [] .nil
  | .nil, _ :: _, _, _, h => nomatch h
  | .star _ _, xs, _, _, h => by cases xs <;> exact nomatch h
  | .cons e es, [], _, _, h => nomatch h
  | .cons e es, x :: xs, io, s, h => by
    have h : (okE Γ e sc x && okEs Γ es sc xs) = true := h
    rw [Bool.and_eq_true] at h
    have head : PE X x (tO C (if io = some 0 then opdOf (evG Γ cl e) e else opdD (evG Γ cl e) e)) := by
      split
      · exact opd_pe s.1 L h.1
      · exact opdD_pe s.1 L h.1
    refine PA_imp (pa_cons head (pa_CA L es xs (down io) s.2 h.2) (star_of h.1 xs X.env)) fun σ H Q ⟨M, ρ, r, q⟩ => ?_
    refine ⟨M, ρ, r, (After.bind q).mono fun M1 H1 d ρ1 s1 r1 hs1 h1 v hv => ⟨M1, ρ1, r1, (After.bind h1).mono fun M2 H2 ds ρ2 s2 r2 hs2 h2 vs hvs => ?_⟩⟩
    exact h2.now r2 (v :: vs) (.cons (hv.step r r1.owl hs1 s2) (hvs.from s1.there))
theorem bind_ok {α β : Type} {r : Res α} {f : α → Res β} {b : β} (h : r.bind f = .ok b) : ∃ a, r = .ok a ∧ f a = .ok b := by
  cases r with
  | ok a => exact ⟨a, rfl, h⟩
  | exc x ρ => cases h
  | stuck => cases h
theorem opdD_val {f : Ro → Res (W × Ro)} {e : E} {p : Opd × Ro} (h : opdD f e ρ = .ok p) (xs : List D) : p.1 ≠ .val (.new xs) := by
  have other : (f ρ).bind (fun q => .ok (Opd.val (W.dat q.1.d), q.2)) = .ok p → p.1 ≠ .val (.new xs) := by
    intro h
    obtain ⟨_, _, h5⟩ := bind_ok h
    cases h5
    exact fun z => nomatch z
  cases e with
  | var i =>
    obtain ⟨_, _, h5⟩ := bind_ok (show (Res.of (get ρ i)).bind (fun _ => .ok (Opd.slot i, ρ)) = .ok p from h)
    cases h5
    exact fun z => nomatch z
  | _ => exact other h
theorem evCA_ok : ∀ (es : Es) (io : Option Nat) (os : List Opd) (ρ ρ' : Ro), evCA Γ.F cl es io ρ = .ok (os, ρ') → OsOk os io := by
  intro es io os ρ ρ' h
  match es with
  | .nil => cases h; exact trivial
  | .star _ _ => cases h
  | .cons e r =>
    obtain ⟨p, h1, h2⟩ := bind_ok h
    obtain ⟨q, h3, h4⟩ := bind_ok h2
    cases h4
    refine ⟨fun hio xs hx => ?_, evCA_ok r (down io) _ _ _ h3⟩
    rw [if_neg hio] at h1
    exact opdD_val h1 xs hx
theorem After.bindS {α β : Type} {r : Res (α × Ro)} {f : α × Ro → Res (β × Ro)} {k : AS → Hp → β → Ro → Prop} (h : After C σ M H ρ (r.bind f) k) :
    After C σ M H ρ r (fun _ _ a ρ1 => r = .ok (a, ρ1) ∧ After C σ M H ρ (f (a, ρ1)) k) := by
  cases r with
  | ok p => exact fun _ _ _ _ _ => ⟨rfl, h⟩
  | exc x ρ' => exact h
  | stuck => exact h
theorem lent_list : ∀ {os : List Opd} {io : Option Nat} {i : Nat}, i ∈ lentOf ρ os io → isListSlot ρ i = true
  | [], _, _, h => by cases h
  | o :: os, io, i, h => by
    unfold lentOf at h
    rcases List.mem_append.mp h with h | h
    · split at h
      · cases h
      · split at h
        · split at h
          · rename_i hs
            cases List.mem_singleton.mp h
            exact hs
          · cases h
        · cases h
    · exact lent_list h
theorem lent_has : ∀ {os : List Opd} {io : Option Nat} {j i : Nat}, os[j]? = some (.slot i) → io ≠ some j → isListSlot ρ i = true → i ∈ lentOf ρ os io
  | [], _, _, _, h, _, _ => by simp at h
  | o :: os, io, 0, i, h, hio, hs => by
    simp at h
    subst h
    unfold lentOf
    rw [if_neg hio]
    exact List.mem_append_left _ (by simp [hs])
  | o :: os, io, j + 1, i, h, hio, hs => by
    unfold lentOf
    refine List.mem_append_right _ (lent_has (j := j) (by simpa using h) (fun e => hio ?_) hs)
    cases io with
    | none => cases e
    | some n => cases n with
      | zero => cases e
      | succ m => cases e; rfl
theorem OsOk.at : ∀ {os : List Opd} {io : Option Nat} {j : Nat} {o : Opd}, OsOk os io → os[j]? = some o → io ≠ some j → ∀ xs, o ≠ .val (.new xs)
  | [], _, _, _, _, h, _ => by simp at h
  | o' :: os, io, 0, o, k, h, hio => by simp at h; subst h; exact k.1 hio
  | o' :: os, io, j + 1, o, k, h, hio => OsOk.at (j := j) k.2 (by simpa using h) fun e => hio (by
    cases io with
    | none => cases e
    | some n => cases n with
      | zero => cases e
      | succ m => cases e; rfl)
theorem rdAll_len : ∀ {os : List Opd} {ds : List D}, rdAll ρ os = some ds → os.length = ds.length
  | [], ds, e => by cases e; rfl
  | o :: os, ds, e => by
    simp only [rdAll, Option.bind_eq_some_iff, Option.map_eq_some_iff] at e
    obtain ⟨d, e1, ds', e2, rfl⟩ := e
    simp [rdAll_len e2]
theorem rdAll_at : ∀ {os : List Opd} {ds : List D} {j : Nat} {d : D}, rdAll ρ os = some ds → ds[j]? = some d → ∃ o, os[j]? = some o ∧ o.rd ρ = some d
  | [], ds, j, d, e, h => by cases e; simp at h
  | o :: os, ds, j, d, e, h => by
    simp only [rdAll, Option.bind_eq_some_iff, Option.map_eq_some_iff] at e
    obtain ⟨d', e1, ds', e2, rfl⟩ := e
    cases j with
    | zero => simp at h; subst h; exact ⟨o, rfl, e1⟩
    | succ j => simp at h; obtain ⟨o', q1, q2⟩ := rdAll_at e2 h; exact ⟨o', by simpa using q1, q2⟩
theorem rdAll_op : ∀ {os : List Opd} {ds : List D} {j : Nat} {o : Opd}, rdAll ρ os = some ds → os[j]? = some o → ∃ d, ds[j]? = some d ∧ o.rd ρ = some d
  | [], ds, j, d, e, h => by simp at h
  | o :: os, ds, j, d, e, h => by
    simp only [rdAll, Option.bind_eq_some_iff, Option.map_eq_some_iff] at e
    obtain ⟨d', e1, ds', e2, rfl⟩ := e
    cases j with
    | zero => simp at h; subst h; exact ⟨_, rfl, e1⟩
    | succ j => simp at h; obtain ⟨o', q1, q2⟩ := rdAll_op e2 h; exact ⟨o', by simpa using q1, q2⟩
theorem paired_at {α β : Type} {R : α → β → Prop} : ∀ {xs : List α} {ys : List β} {j : Nat} {x : α} {y : β}, Paired R xs ys → xs[j]? = some x → ys[j]? = some y → R x y
  | _, _, _, _, _, .nil, h, _ => by simp at h
  | _, _, 0, _, _, .cons r t, h, h' => by simp at h h'; subst h; subst h'; exact r
  | _, _, j + 1, _, _, .cons r t, h, h' => paired_at (j := j) t (by simpa using h) (by simpa using h')
theorem paired_get {α β : Type} {R : α → β → Prop} : ∀ {xs : List α} {ys : List β} {j : Nat} {y : β}, Paired R xs ys → ys[j]? = some y → ∃ x, xs[j]? = some x ∧ R x y
  | _, _, _, _, .nil, h => by simp at h
  | _, _, 0, _, .cons r t, h => by simp at h; subst h; exact ⟨_, rfl, r⟩
  | _, _, j + 1, _, .cons r t, h => by obtain ⟨x, h1, h2⟩ := paired_get (j := j) t (by simpa using h); exact ⟨x, by simpa using h1, h2⟩
theorem listSlot {i : Nat} (h : isListSlot ρ i = true) : ∃ s xs, ρ[i]? = some (some s) ∧ s.lst? = some xs ∧ get ρ i = some s := by
  unfold isListSlot at h
  split at h
  · rename_i xs hg; exact ⟨_, xs, get_some hg, rfl, hg⟩
  · rename_i xs hg; exact ⟨_, xs, get_some hg, rfl, hg⟩
  · cases h
theorem ownSlot {i : Nat} (h : isOwnSlot ρ i = true) : ∃ xs, ρ[i]? = some (some (.own xs)) := by
  unfold isOwnSlot at h
  split at h
  · rename_i xs hg; exact ⟨xs, get_some hg⟩
  · cases h
theorem evCA_len : ∀ (es : Es) (xs : List Expr) (io : Option Nat) (os : List Opd) (ρ ρ' : Ro), okEs Γ es sc xs = true → evCA Γ.F cl es io ρ = .ok (os, ρ') → os.length = xs.length
  | .nil, [], _, os, ρ, ρ', _, h => by cases h; rfl
  | .nil, _ :: _, _, _, _, _, h, _ => nomatch h
  | .star _ _, xs, _, _, _, _, h, _ => by cases xs <;> exact nomatch h
  | .cons _ _, [], _, _, _, _, h, _ => nomatch h
  | .cons e r, x :: xs, io, os, ρ, ρ', h, h' => by
    have h : (okE Γ e sc x && okEs Γ r sc xs) = true := h
    rw [Bool.and_eq_true] at h
    obtain ⟨p, h1, h2⟩ := bind_ok h'
    obtain ⟨q, h3, h4⟩ := bind_ok h2
    cases h4
    simp [evCA_len r xs (down io) q.1 p.2 q.2 h.2 h3]
/-- from the arguments to the promise -/
theorem call_read {fn : Fn} {g : List D → FRes} {Q : VK} {os : List Opd} {vs : List V} (hioOk : fn.ioOk = true) (hnp : vs.length = fn.np) (r : Rep C.K C.M0 M ρ σ H) (s1 : Stp (Ow ρ σ) M H M1 H1) (r1 : Rep C.K C.M0 M1 ρ1 σ H1) (hs1 : ∀ a, Ow ρ1 σ a → Ow ρ σ a) (hos : OsOk os fn.io)
    (hv : VOs C.K H M1 H1 σ vs os) (h : After C σ M H ρ (callE fn g os ρ1) fun M' H' w _ => ∀ v, VW0 C.K H M' H' v w → Q v H') : spOf C.R C.K fn g vs H1 Q (WE C.Wx σ) := by
  unfold callE at h
  split at h
  · rename_i ds io e1 e2
    simp only at h
    split at h
    · rename_i hnl
      generalize hlent : lentOf ρ1 os fn.io = lent at h hnl
      -- the address that is handed in
      have hIo : ∀ a, Io fn.io vs a → (∃ i, io = some i ∧ σ[i]? = some (some (V.ref a)) ∧ isListSlot ρ1 i = true) ∨ (io = none ∧ H a = none ∧ ∃ us xs, H1 a = some (.lst us) ∧ DatA C.K M1 H1 us xs ∧ M1 a) := by
        rintro a ⟨j, hj, hva⟩
        rw [hj] at e2
        simp only [ioOf] at e2
        split at e2
        · rename_i i ho
          split at e2
          · rename_i hs
            cases e2
            exact .inl ⟨i, rfl, (show VO C.K H M1 H1 σ (V.ref a) (.slot i) from paired_at (R := fun v o => VO C.K H M1 H1 σ v o) hv hva ho), hs⟩
          · cases e2
        · rename_i xs ho
          cases e2
          obtain ⟨b, us, q1, q2, q3, q4, q5⟩ := (show VO C.K H M1 H1 σ (V.ref a) (.val (.new xs)) from paired_at (R := fun v o => VO C.K H M1 H1 σ v o) hv hva ho)
          cases q1
          exact .inr ⟨rfl, q2, us, xs, q3, q4, q5⟩
        · cases e2
      have lentNot : ∀ i, io = some i → i ∉ lent := by
        rintro i rfl
        simpa [notLent] using hnl
      have ioUniq : ∀ a b, Io fn.io vs a → Io fn.io vs b → a = b := by
        rintro a b ⟨j, h1, h2⟩ ⟨j', h1', h2'⟩
        rw [h1] at h1'; cases h1'
        rw [h2] at h2'; cases h2'; rfl
      have lentOw : ∀ a, lentA σ lent a → Ow ρ1 σ a := by
        rintro a ⟨i, hi, q⟩
        obtain ⟨s, xs, q1, q2, _⟩ := listSlot (lent_list (hlent ▸ hi))
        exact ⟨i, s, xs, q1, q2, q⟩
      -- a list that is handed in is not lent
      have ioNotLent : ∀ a, Io fn.io vs a → ¬ lentA σ lent a := by
        intro a ha hl
        rcases hIo a ha with ⟨i, hi, q1, hs⟩ | ⟨_, q1, _⟩
        · obtain ⟨i', hi', q2⟩ := hl
          obtain ⟨s, xs, f1, f2, _⟩ := listSlot hs
          obtain ⟨s', xs', g1, g2, _⟩ := listSlot (lent_list (hlent ▸ hi'))
          have := r1.inj i i' a s s' xs xs' f1 g1 f2 g2 q1 q2
          subst this
          exact lentNot i hi hi'
        · exact (r.fresh q1).2.2 (hs1 a (lentOw a hl))
      have wI : OwL (Io fn.io vs) (fun a => M1 a ∧ ¬ lentA σ lent a) H1 := by
        refine ⟨fun a ha => ⟨?_, ioNotLent a ha⟩, fun a ha => ?_⟩
        · rcases hIo a ha with ⟨i, hi, q1, hs⟩ | ⟨_, q1, us, xs, q2, q3, q4⟩
          · obtain ⟨s, xs, f1, f2, _⟩ := listSlot hs
            exact r1.owl.sub a ⟨i, s, xs, f1, f2, q1⟩
          · exact q4
        · rcases hIo a ha with ⟨i, hi, q1, hs⟩ | ⟨_, q1, us, xs, q2, q3, q4⟩
          · obtain ⟨s, xs, f1, f2, _⟩ := listSlot hs
            exact r1.owl.lst a ⟨i, s, xs, f1, f2, q1⟩
          · exact ⟨us, q2⟩
      have hargs : Args C.K (fun a => M1 a ∧ ¬ lentA σ lent a) H1 fn.io vs ds := by
        refine ⟨by rw [Paired.length hv, rdAll_len e1], fun j v d hj hvj hdj => ?_, fun j hj => ?_⟩
        · obtain ⟨o, ho, hrd⟩ := rdAll_at e1 hdj
          have hvo := paired_at hv hvj ho
          cases o with
          | slot i =>
            simp only [Opd.rd, Option.map_eq_some_iff] at hrd
            obtain ⟨s, hg, rfl⟩ := hrd
            have hvo : σ[i]? = some (some v) := hvo
            cases s with
            | dat d =>
              obtain ⟨u, q1, q2⟩ := r1.dat i d (get_some hg)
              rw [hvo] at q1; cases q1
              exact q2.less fun _ z => z.1
            | own xs =>
              obtain ⟨a, us, q1, q2, q3, q4⟩ := r1.lst i _ xs (get_some hg) rfl
              rw [hvo] at q1; cases q1
              have hin : i ∈ lent := hlent ▸ lent_has ho hj (by unfold isListSlot; rw [hg])
              exact .lst (.inl q2) (fun z => z.2 ⟨i, hin, hvo⟩) (q3.less fun _ z => z.1)
            | io xs =>
              obtain ⟨a, us, q1, q2, q3, q4⟩ := r1.lst i _ xs (get_some hg) rfl
              rw [hvo] at q1; cases q1
              have hin : i ∈ lent := hlent ▸ lent_has ho hj (by unfold isListSlot; rw [hg])
              exact .lst (.inl q2) (fun z => z.2 ⟨i, hin, hvo⟩) (q3.less fun _ z => z.1)
          | val w =>
            simp only [Opd.rd, Option.some.injEq] at hrd
            subst hrd
            cases w with
            | dat d => exact Dat.less (fun _ z => z.1) hvo
            | new xs => exact absurd rfl (hos.at ho hj xs)
        · rw [hj] at e2
          simp only [ioOf] at e2
          split at e2
          · rename_i i ho
            split at e2
            · rename_i hs
              obtain ⟨s, xs, f1, f2, f3⟩ := listSlot hs
              obtain ⟨a, us, q1, q2, q3, q4⟩ := r1.lst i s xs f1 f2
              obtain ⟨v, hvj, hvo⟩ := paired_get hv ho
              have hvo : σ[i]? = some (some v) := hvo
              rw [q1] at hvo; cases hvo
              obtain ⟨d, hd1, hd2⟩ := rdAll_op e1 ho
              have ha : Io fn.io vs a := ⟨j, hj, hvj⟩
              refine ⟨a, us, xs, hvj, ?_, q2, q3.less fun _ z => z.1, q4, ioNotLent a ha⟩
              simp only [Opd.rd, Option.map_eq_some_iff] at hd2
              obtain ⟨s', hg', rfl⟩ := hd2
              rw [f3] at hg'; cases hg'
              rw [hd1]
              cases s <;> cases f2 <;> rfl
            · cases e2
          · rename_i xs ho
            obtain ⟨v, hvj, hvo⟩ := paired_get hv ho
            obtain ⟨a, us, q1, q2, q3, q4, q5⟩ := (show VW0 C.K H M1 H1 v (.new xs) from hvo)
            subst q1
            obtain ⟨d, hd1, hd2⟩ := rdAll_op e1 ho
            cases hd2
            exact ⟨a, us, xs, hvj, hd1, q3, q4.less fun _ z => z.1, q5, ioNotLent a ⟨j, hj, hvj⟩⟩
          · cases e2
      -- the slots behind it
      have slots : ∀ {lent' : List Nat} {M' : AS} {H' : Hp} {rr : Option (List D)}, (∀ i ∈ lent', i ∈ lent) → IoEnd C.K M' H' fn.io vs rr → IoSlot C.K C.M0 ρ1 σ (Io fn.io vs) lent' M' H' io rr := by
        intro lent' M' H' rr hsub hend
        refine ⟨fun i hi => ⟨fun z => lentNot i hi (hsub i z), ?_⟩, fun hi b hb => ?_⟩
        · cases hfio : fn.io with
          | none => rw [hfio] at e2; simp only [ioOf] at e2; cases e2; cases hi
          | some j =>
            rw [hfio] at hend
            obtain ⟨a, us, xs, g1, g2, g3, g4, g5⟩ := hend
            have ha : Io fn.io vs a := ⟨j, hfio, g1⟩
            rcases hIo a ha with ⟨i', hi', q1, hs⟩ | ⟨hn, _⟩
            · rw [hi] at hi'; cases hi'
              obtain ⟨s, ys, f1, f2, f3⟩ := listSlot hs
              exact ⟨s, ys, xs, a, us, f1, f2, g2, q1, fun b hb => ioUniq b a (hfio ▸ hb) ha, g3, g4, g5⟩
            · rw [hn] at hi; cases hi
        · rcases hIo b hb with ⟨i', hi', _⟩ | ⟨_, q1, _⟩
          · rw [hi] at hi'; cases hi'
          · exact ⟨(r.fresh q1).2.1, fun z => (r.fresh q1).2.2 (hs1 b z)⟩
      -- seen from the start
      have whole : ∀ {M' : AS} {H' : Hp}, Stp (Io fn.io vs) M1 H1 M' H' → Stp (Ow ρ σ) M H M' H' := by
        intro M' H' s2
        have nIo : ∀ a o, H a = some o → ¬ Ow ρ σ a → ¬ Io fn.io vs a := by
          intro a o e n z
          rcases hIo a z with ⟨i, _, q1, hs⟩ | ⟨_, q1, _⟩
          · obtain ⟨s, xs, f1, f2, _⟩ := listSlot hs
            exact n (hs1 a ⟨i, s, xs, f1, f2, q1⟩)
          · rw [e] at q1; cases q1
        refine ⟨fun a o e n => s2.keep a o (s1.keep a o e n) (nIo a o e n), fun a z => ?_, fun a z n => ?_, fun a o e => ?_⟩
        · rcases s2.new a z with z | z
          · exact s1.new a z
          · cases q : H a with
            | none => exact .inr rfl
            | some o => obtain ⟨o', e'⟩ := s1.there a o q; rw [z] at e'; cases e'
        · obtain ⟨o, e⟩ := r.dom a z
          exact s2.old a (s1.old a z n) (nIo a o e n)
        · obtain ⟨o', e'⟩ := s1.there a o e
          exact s2.there a o' e'
      -- where something lent may have stayed in the answer
      have frozen : ∀ {M' : AS} {H' : Hp} {rr : Option (List D)}, lent.all (isOwnSlot ρ1) = true → Stp (Io fn.io vs) (fun a => M1 a ∧ ¬ lentA σ lent a) H1 M' H' → (∀ a, M' a → ∃ o, H' a = some o) → IoEnd C.K M' H' fn.io vs rr →
          Stp (Ow ρ σ) M H M' H' ∧ Rep C.K C.M0 M' (frzR lent (putIo ρ1 io rr)) σ H' ∧ ∀ a, Ow (frzR lent (putIo ρ1 io rr)) σ a → Ow ρ σ a := by
        intro M' H' rr hall s2 dom' hend
        have hl : ∀ i ∈ lent, ∃ xs, ρ1[i]? = some (some (.own xs)) := fun i hi => ownSlot (List.all_eq_true.mp hall i hi)
        obtain ⟨q1, q2⟩ := Rep.called r1 hl wI s2 (slots (fun _ z => z) hend) dom'
        refine ⟨?_, q1, fun a z => hs1 a (q2 a z)⟩
        have nIo : ∀ a o, H a = some o → ¬ Ow ρ σ a → ¬ Io fn.io vs a := by
          intro a o e n z
          rcases hIo a z with ⟨i, _, q1, hs⟩ | ⟨_, q1, _⟩
          · obtain ⟨s, xs, f1, f2, _⟩ := listSlot hs
            exact n (hs1 a ⟨i, s, xs, f1, f2, q1⟩)
          · rw [e] at q1; cases q1
        refine ⟨fun a o e n => s2.keep a o (s1.keep a o e n) (nIo a o e n), fun a z => ?_, fun a z n => ?_, fun a o e => ?_⟩
        · rcases s2.new a z with z | z
          · exact s1.new a z.1
          · cases q : H a with
            | none => exact .inr rfl
            | some o => obtain ⟨o', e'⟩ := s1.there a o q; rw [z] at e'; cases e'
        · obtain ⟨o, e⟩ := r.dom a z
          exact s2.old a ⟨s1.old a z n, fun q => n (hs1 a (lentOw a q))⟩ (nIo a o e n)
        · obtain ⟨o', e'⟩ := s1.there a o e
          exact s2.there a o' e'
      refine ⟨_, ds, hnp, hargs, fun a z => r1.dom a z.1, ?_⟩
      cases hg : g ds with
      | stuck => rw [hg] at h; exact h
      | exc x rr =>
        rw [hg] at h
        simp only at h ⊢
        split at h
        · rename_i hall
          intro M' H' cls d s2 dom' hend hR
          obtain ⟨q1, q2, q3⟩ := frozen hall s2 dom' hend
          exact h M' H' cls d q1 q2 q3 hR
        · exact h.elim
      | ok w rr =>
        rw [hg] at h
        simp only at h ⊢
        intro M' H' v s2 dom' hend hw
        split at h
        · rename_i hcl
          simp only [clean, Bool.and_eq_true] at hcl
          -- the lent ones are the slots' own again
          have s2' : Stp (Io fn.io vs) M1 H1 (fun a => M' a ∨ lentA σ lent a) H' := by
            refine ⟨s2.keep, fun a z => ?_, fun a z n => ?_, s2.there⟩
            · rcases z with z | z
              · rcases s2.new a z with q | q
                · exact .inl q.1
                · exact .inr q
              · exact .inl (r1.owl.sub a (lentOw a z))
            · by_cases q : lentA σ lent a
              · exact .inr q
              · exact .inl (s2.old a ⟨z, q⟩ n)
          have dom2 : ∀ a, (M' a ∨ lentA σ lent a) → ∃ o, H' a = some o := by
            rintro a (z | z)
            · exact dom' a z
            · obtain ⟨us, e⟩ := r1.owl.lst a (lentOw a z)
              exact s2.there a _ e
          have e0 : ∀ a, (M1 a ∧ ¬ lentA σ [] a) ↔ M1 a := fun a => ⟨fun z => z.1, fun z => ⟨z, fun ⟨i, hi, _⟩ => by cases hi⟩⟩
          have e1' : (fun a => M1 a ∧ ¬ lentA σ [] a) = M1 := funext fun a => propext (e0 a)
          have hend' : IoEnd C.K (fun a => M' a ∨ lentA σ lent a) H' fn.io vs rr := by
            unfold IoEnd at hend ⊢
            split at hend
            · exact hend
            · obtain ⟨a, us, xs, g1, g2, g3, g4, g5⟩ := hend
              rw [g2] at hcl
              exact ⟨a, us, xs, g1, g2, g3, g4.lf hcl.2, .inl g5⟩
          obtain ⟨q1, q2⟩ := Rep.called (lent := []) (M' := fun a => M' a ∨ lentA σ lent a) r1 (fun i hi => by cases hi) (by rw [e1']; exact ⟨fun a z => (wI.sub a z).1, wI.lst⟩) (by rw [e1']; exact s2') (slots (fun i hi => by cases hi) hend') dom2
          have ef : frzR [] (putIo ρ1 io rr) = putIo ρ1 io rr := by
            unfold frzR
            apply List.ext_getElem?
            intro j
            rw [List.getElem?_mapIdx]
            cases (putIo ρ1 io rr)[j]? <;> simp
          rw [ef] at q1 q2
          refine h _ H' (whole s2') q1 (fun a z => hs1 a (q2 a z)) v (VW0.from s1.there ?_)
          cases w with
          | dat d => exact Dat.lf hcl.1 hw
          | new xs =>
            obtain ⟨a, us, g1, g2, g3, g4, g5⟩ := hw
            exact ⟨a, us, g1, g2, g3, g4.lf hcl.1, .inl g5⟩
        · split at h
          · rename_i hall
            obtain ⟨q1, q2, q3⟩ := frozen hall s2 dom' hend
            exact h M' H' q1 q2 q3 v (VW0.from s1.there hw)
          · exact h.elim
    · exact h.elim
  · exact h.elim
theorem se_call {f : Nat} {es : Es} (hs : SAll Γ cl es) : SE Γ cl (.call f es) := by
  have main : ∀ X C sc g xs ks pos, Lk Γ cl X C sc → okE Γ (.call f es) sc (.Call g xs ks pos) = true → PE X (.Call g xs ks pos) (tW C (evG Γ cl (.call f es))) := by
    intro X C sc g xs ks pos L h
    cases g with
    | Name x p =>
      cases ks with
      | cons _ _ => exact nomatch h
      | nil =>
        have h : ((match Γ.F f with | some fn => decide (fn.name = x) && fn.ioOk && decide (xs.length = fn.np) | none => false) && glC sc x && nmC x && !xs.isEmpty && okEs Γ es sc xs) = true := h
        cases hF : Γ.F f with
        | none => rw [hF] at h; simp at h
        | some fn =>
          rw [hF] at h
          simp only [Bool.and_eq_true, decide_eq_true_eq] at h
          obtain ⟨⟨⟨⟨⟨⟨rfl, hio⟩, hnp⟩, h3⟩, h4⟩, h5⟩, h6⟩ := h
          obtain ⟨k, a, fd, ps, mg, keep, ⟨binds, _⟩, room, F⟩ := L.call f fn hF
          obtain ⟨n1, n2, n3⟩ := nmC_of h4
          match xs, es, hs, h6, h5, hnp with
          | y :: ys, .cons e r, hs, h6, _, hnp =>
            have h7 : (okE Γ e sc y && okEs Γ r sc ys) = true := h6
            rw [Bool.and_eq_true] at h7
            refine PE_imp (pe_callSD (dvs := []) F room (glC_of L h3) mg keep binds .nil (passAt L.takes) (pa_CA L (.cons e r) (y :: ys) fn.io hs h6) n1 (star_of h7.1 ys X.env) (nostar pos X.env h7.2)) fun σ H Q ⟨M, ρ, r0, q⟩ => ?_
            have q : After C σ M H ρ (match Γ.F f with | some fn => (evCA Γ.F cl (.cons e r) fn.io ρ).bind fun p => callE fn (cl f) p.1 p.2 | none => .stuck) fun M' H' w _ => ∀ v, VW0 C.K H M' H' v w → Q v H' := q
            rw [hF] at q
            refine ⟨M, ρ, r0, (After.bindS q).mono fun M1 H1 os ρ1 s1 r1 hs1 h1 vs hvs => ?_⟩
            show spOf C.R X.K fn (cl f) (vs ++ []) H1 Q (WE C.Wx σ)
            rw [List.append_nil, L.K]
            have hos := evCA_ok _ _ _ _ _ h1.1
            have hl : vs.length = fn.np := by
              rw [Paired.length hvs, ← hnp]
              exact (evCA_len (.cons e r) (y :: ys) fn.io os ρ ρ1 h6 h1.1)
            exact call_read hio hl r0 s1 r1 hs1 hos hvs h1.2
          | [], _, _, _, h5, _ => simp at h5
    | _ => exact nomatch h
  refine ⟨fun X C sc e L h => ?_, fun X C sc e L h => ?_⟩
  · cases e with
    | Call g xs ks pos => exact main X C sc g xs ks pos L h
    | _ => exact nomatch h
  · cases e with
    | Call g xs ks pos =>
      refine pt_of_pe (main X C sc g xs ks pos L ?_) fun _ => rfl
      cases g with
      | Name x p => cases ks with
        | cons _ _ => exact nomatch h
        | nil => exact h
      | _ => exact nomatch h
    | _ => exact nomatch h
theorem se_glo {k : Nat} {d : D} : SE Γ cl (.glo k d) := by
  refine ⟨fun X C sc e L h => ?_, fun X C sc e L h => by cases e <;> exact nomatch h⟩
  cases e with
  | Name x pos =>
    have h : ((match Γ.G[k]? with | some p => decide (p.1 = x) && cstEq p.2 d | none => false) && glC sc x && nmC x) = true := h
    simp only [Bool.and_eq_true] at h
    obtain ⟨⟨h1, h2⟩, h3⟩ := h
    cases hG : Γ.G[k]? with
    | none => rw [hG] at h1; cases h1
    | some p =>
      rw [hG] at h1
      simp only [Bool.and_eq_true, decide_eq_true_eq] at h1
      obtain ⟨rfl, h1⟩ := h1
      cases cstEq_eq h1
      obtain ⟨u, v, g1, g2, g3⟩ := L.glo p.1 p.2 (List.mem_of_getElem? hG)
      refine PE_imp (pe_glob (glC_of L h2) g1 g2 (nmC_of h3).1) fun σ H Q ⟨M, ρ, r, q⟩ => ?_
      exact After.now (a := W.dat p.2) r q v (L.K ▸ g3 M H)
  | _ => exact nomatch h
theorem pe_call0S {CX : CXT} {k : Nat} {f : Addr} {fd : FuncData} {ps : List Str} {sp : Sp} {E : L2.St → XK} {x : Str} {p pos : Pos} (F : FnOk X.prog X.w X.K X.mg X.base CX k f fd ps sp) (hr : Room k X.A) (hg : Gl X x) (hm : X.mg x = some (.ref f)) (hk : PySem.W.keepIn X.K (.ref f) = true) (hb : Binds X.K fd ps []) (hx : ∀ σ, PassesAt CX X σ (E σ))
    (hdb : (x == ("__debug__" : Str)) = false) : PE X (.Call (.Name x p) [] [] pos) (tCallS sp E tNil) := by
  refine ⟨fun pins s σ H Q I h => ?_⟩
  refine wpAny_Call_Name_kw (ld_glob I hg hm ?_ hdb)
  exact PySem.W.callWith_K0 I.kIn hk (run_fnS (us := []) F hr hb (hx σ) I .nil h)
theorem se_call0 {f : Nat} : SE Γ cl (.call0 f) := by
  have main : ∀ X C sc g xs ks pos, Lk Γ cl X C sc → okE Γ (.call0 f) sc (.Call g xs ks pos) = true → PE X (.Call g xs ks pos) (tW C (evG Γ cl (.call0 f))) := by
    intro X C sc g xs ks pos L h
    match g, xs, ks, h with
    | .Name x p, [], [], h =>
      have h : ((match Γ.F f with | some fn => decide (fn.name = x) && fn.ioOk && decide (0 = fn.np) | none => false) && glC sc x && nmC x) = true := h
      cases hF : Γ.F f with
      | none => rw [hF] at h; simp at h
      | some fn =>
        rw [hF] at h
        simp only [Bool.and_eq_true, decide_eq_true_eq] at h
        obtain ⟨⟨⟨⟨rfl, hio⟩, hnp⟩, h3⟩, h4⟩ := h
        obtain ⟨k, a, fd, ps, mg, keep, ⟨binds, _⟩, room, F⟩ := L.call f fn hF
        refine PE_imp (pe_call0S F room (glC_of L h3) mg keep binds (passAt L.takes) (nmC_of h4).1) fun σ H Q ⟨M, ρ, r0, q⟩ => ?_
        have q : After C σ M H ρ (match Γ.F f with | some fn => callE fn (cl f) [] ρ | none => .stuck) fun M' H' w _ => ∀ v, VW0 C.K H M' H' v w → Q v H' := q
        rw [hF] at q
        show spOf C.R X.K fn (cl f) [] H Q (WE C.Wx σ)
        rw [L.K]
        exact call_read (os := []) hio hnp r0 .refl r0 (fun _ z => z) (show OsOk [] fn.io from trivial) .nil q
    | .Name _ _, _ :: _, _, h => exact nomatch h
    | .Name _ _, [], _ :: _, h => exact nomatch h
  refine ⟨fun X C sc e L h => ?_, fun X C sc e L h => ?_⟩
  · cases e with
    | Call g xs ks pos => exact main X C sc g xs ks pos L h
    | _ => exact nomatch h
  · cases e with
    | Call g xs ks pos =>
      refine pt_of_pe (main X C sc g xs ks pos L ?_) fun _ => rfl
      match g, xs, ks, h with
      | .Name x p, [], [], h => exact h
      | .Name _ _, _ :: _, _, h => exact nomatch h
      | .Name _ _, [], _ :: _, h => exact nomatch h
    | _ => exact nomatch h
/-! ### calls by names -/
theorem kw_each (pos : Pos) (env : Env) : ∀ {kws : List Keyword} {ks : List Str}, kwNames kws = some ks → (backToKw pos (keywordEach kws env)).all (·.1.isSome) = true ∧ (backToKw pos (keywordEach kws env)).filterMap (·.1) = ks ∧ (backToKw pos (keywordEach kws env)).any (·.1.isNone) = false
  | [], ks, h => by cases h; exact ⟨rfl, rfl, rfl⟩
  | ⟨none, _, _⟩ :: _, _, h => nomatch h
  | ⟨some x, e, p⟩ :: r, ks, h => by
    have h : (kwNames r).map (x :: ·) = some ks := h
    obtain ⟨ks', h1, rfl⟩ := Option.map_eq_some_iff.mp h
    obtain ⟨g1, g2, g3⟩ := kw_each pos env h1
    refine ⟨?_, ?_, ?_⟩
    · show (true && (backToKw pos (keywordEach r env)).all (·.1.isSome)) = true
      rw [g1]; rfl
    · show x :: (backToKw pos (keywordEach r env)).filterMap (·.1) = _
      rw [g2]
    · show (false || (backToKw pos (keywordEach r env)).any (·.1.isNone)) = false
      rw [g3]; rfl
theorem pk_CA (L : Lk Γ cl X C sc) : ∀ (es : Es) (kws : List Keyword), SAll Γ cl es → okEs Γ es sc (kwVals kws) = true →
    PK X kws (fun σ H Q => ∃ M ρ, Rep C.K C.M0 M ρ σ H ∧ After C σ M H ρ (evCA Γ.F cl es none ρ) fun M' H' os _ => ∀ vs, VOs C.K H M' H' σ vs os → Q vs H')
  | .nil, [], _, _ => ⟨fun pos pins s σ H Q I ⟨M, ρ, r, q⟩ => pk_nil.run pos pins s σ H Q I (After.now (a := ([] : List Opd)) r q [] .nil)⟩
  | .nil, ⟨_, _, _⟩ :: _, _, h => nomatch h
  | .star _ _, kws, _, h => by
    cases kws with
    | nil => exact nomatch h
    | cons k r => cases k; exact nomatch h
  | .cons e es, [], _, h => nomatch h
  | .cons e es, ⟨nm, x, kp⟩ :: xs, s, h => by
    have h : (okE Γ e sc x && okEs Γ es sc (kwVals xs)) = true := h
    rw [Bool.and_eq_true] at h
    have rule := pk_cons (nm := nm) (kpos := kp) (opdD_pe (C := C) s.1 L h.1) (pk_CA L es xs s.2 h.2)
    refine ⟨fun pos pins s σ H Q I ⟨M, ρ, r, q⟩ => rule.run pos pins s σ H Q I ?_⟩
    refine ⟨M, ρ, r, (After.bind q).mono fun M1 H1 d ρ1 s1 r1 hs1 h1 v hv => ⟨M1, ρ1, r1, (After.bind h1).mono fun M2 H2 ds ρ2 s2 r2 hs2 h2 vs hvs => ?_⟩⟩
    exact h2.now r2 (v :: vs) (.cons (hv.step r r1.owl hs1 s2) (hvs.from s1.there))
theorem vals_perm {vs : List V} {us : List Value} (r : Vals vs us) : ∀ perm : List Nat, Vals (perm.filterMap fun i => vs[i]?) (perm.filterMap fun i => us[i]?)
  | [] => .nil
  | i :: is => by
    cases e : vs[i]? with
    | none =>
      have e2 : us[i]? = none := by
        rw [List.getElem?_eq_none_iff] at e ⊢
        rw [← r.length]; exact e
      rw [List.filterMap_cons_none e, List.filterMap_cons_none e2]
      exact vals_perm r is
    | some v =>
      obtain ⟨u, h1, h2⟩ := r.get e
      rw [List.filterMap_cons_some e, List.filterMap_cons_some h1]
      exact .cons h2 (vals_perm r is)
theorem vos_perm {M : AS} {H H' : Hp} {σ : EV.St} {vs : List V} {os : List Opd} (r : VOs K H M H' σ vs os) : ∀ perm : List Nat, VOs K H M H' σ (perm.filterMap fun i => vs[i]?) (perm.filterMap fun i => os[i]?)
  | [] => .nil
  | i :: is => by
    cases e : os[i]? with
    | none =>
      have e2 : vs[i]? = none := by
        rw [List.getElem?_eq_none_iff] at e ⊢
        rw [Paired.length r]; exact e
      rw [List.filterMap_cons_none e, List.filterMap_cons_none e2]
      exact vos_perm r is
    | some o =>
      obtain ⟨v, h1, h2⟩ := paired_get r e
      rw [List.filterMap_cons_some e, List.filterMap_cons_some h1]
      exact .cons h2 (vos_perm r is)
theorem perm_len {α : Type} {xs : List α} : ∀ {perm : List Nat}, perm.all (fun i => decide (i < xs.length)) = true → (perm.filterMap fun i => xs[i]?).length = perm.length
  | [], _ => rfl
  | i :: is, h => by
    simp only [List.all_cons, Bool.and_eq_true, decide_eq_true_eq] at h
    rw [List.filterMap_cons_some (List.getElem?_eq_getElem h.1)]
    simp [perm_len h.2]
theorem osOk_none : ∀ {os : List Opd}, (∀ o ∈ os, ∀ xs, o ≠ .val (.new xs)) → OsOk os none
  | [], _ => trivial
  | o :: os, h => ⟨fun _ => h o (List.mem_cons_self ..), osOk_none fun o' ho => h o' (List.mem_cons_of_mem _ ho)⟩
theorem kwVals_len : ∀ {kws : List Keyword}, (kwVals kws).length = kws.length
  | [] => rfl
  | ⟨_, _, _⟩ :: r => by
    show (kwVals r).length + 1 = r.length + 1
    rw [kwVals_len]
theorem kwNames_len : ∀ {kws : List Keyword} {ks : List Str}, kwNames kws = some ks → ks.length = kws.length
  | [], ks, h => by cases h; rfl
  | ⟨none, _, _⟩ :: _, _, h => nomatch h
  | ⟨some x, e, p⟩ :: r, ks, h => by
    have h : (kwNames r).map (x :: ·) = some ks := h
    obtain ⟨ks', h1, rfl⟩ := Option.map_eq_some_iff.mp h
    simp [kwNames_len h1]
theorem osOk_all : ∀ {os : List Opd}, OsOk os none → ∀ o ∈ os, ∀ xs, o ≠ .val (.new xs)
  | o :: os, ⟨h1, h2⟩, o', ho => by
    rcases List.mem_cons.mp ho with rfl | ho
    · exact h1 (fun z => nomatch z)
    · exact osOk_all h2 o' ho
def tCallN (sp : Sp) (E : L2.St → XK) (perm : List Nat) (t : TA) : TE := fun σ H Q => t σ H fun vs H1 => vs.length = vs.length ∧ sp (perm.filterMap fun i => vs[i]?) H1 Q (E σ)
theorem pe_callN {CX : CXT} {k : Nat} {f : Addr} {fd : FuncData} {ps ks : List Str} {sp : Sp} {E : L2.St → XK} {x : Str} {p pos : Pos} {kws : List Keyword} {perm : List Nat} {t : TA} (F : FnOk X.prog X.w X.K X.mg X.base CX k f fd ps sp) (hr : Room k X.A) (hg : Gl X x) (hm : X.mg x = some (.ref f)) (hk : PySem.W.keepIn X.K (.ref f) = true)
    (hb : KwOk X.K fd ps ks perm) (hn : kwNames kws = some ks) (hx : ∀ σ, PassesAt CX X σ (E σ)) (hkw : PK X kws t) (hdb : (x == ("__debug__" : Str)) = false)
    (hlen : ∀ σ H Q, t σ H Q → t σ H fun vs H1 => vs.length = kws.length ∧ Q vs H1) : PE X (.Call (.Name x p) [] kws pos) (tCallN sp E perm t) := by
  refine ⟨fun pins s σ H Q I h => ?_⟩
  obtain ⟨g1, g2, g3⟩ := kw_each pos X.env hn
  refine wpAny_Call_Name_kw (ld_glob I hg hm ?_ hdb)
  refine PySem.W.callWith_KW0 (h₀ := X.base) I.ok.mod.kin hk g1 ?_ (by rw [g3]; rfl)
  refine thn (hkw.run pos pins s σ H _ I (hlen σ H _ h)) fun ws s2 ⟨zs, H2, I2, rz, hl, _, q2⟩ => ⟨I2.kIn, ?_⟩
  rw [g2]
  have r2 := vals_perm rz perm
  have b := hb s2 ws I2.kIn (by rw [← rz.length, hl, kwNames_len hn])
  refine wpAny_call (codeAny_mono (F.run X.A X.stack s2 H2 ⟨[], ks.zip ws⟩ _ _ Q (E σ) hr I2.env0 b r2 q2) fun r s' hq => ?_)
  cases r with
  | error e => exact hx σ pins H2 s2 e s' I2 hq
  | ok fl =>
    cases fl with
    | ret u => exact I2.after hq
    | next => exact False.elim hq
    | brk => exact False.elim hq
    | cont => exact False.elim hq
theorem se_callK {f : Nat} {perm : List Nat} {es : Es} (hs : SAll Γ cl es) : SE Γ cl (.callK f perm es) := by
  refine ⟨fun X C sc e L h => ?_, fun X C sc e L h => by cases e <;> exact nomatch h⟩
  cases e with
  | Call g xs kws pos =>
    match g, xs, h with
    | .Name x p, [], h =>
      have h : ((match Γ.F f with | some fn => decide (fn.name = x) && decide (fn.io = none) && decide (perm.length = fn.np) && perm.all (fun i => decide (i < kws.length)) | none => false) && glC sc x && nmC x && kwC Γ f perm kws && okEs Γ es sc (kwVals kws)) = true := by
        cases kws <;> exact h
      cases hF : Γ.F f with
      | none => rw [hF] at h; simp at h
      | some fn =>
        rw [hF] at h
        simp only [Bool.and_eq_true, decide_eq_true_eq] at h
        obtain ⟨⟨⟨⟨⟨⟨⟨rfl, hio⟩, hnp⟩, hp⟩, h3⟩, h4⟩, h5⟩, h6⟩ := h
        obtain ⟨k, a, fd, ps, mg, keep, ⟨_, binds⟩, room, F⟩ := L.call f fn hF
        unfold kwC at h5
        cases hn : kwNames kws with
        | none => rw [hn] at h5; cases h5
        | some ks =>
          rw [hn] at h5
          have hmem : (f, ks, perm) ∈ Γ.W := by
            rw [List.any_eq_true] at h5
            obtain ⟨q, q1, q2⟩ := h5
            rw [of_decide_eq_true q2] at q1
            exact q1
          refine PE_imp (pe_callN F room (glC_of L h3) mg keep (binds ks perm hmem) hn (passAt L.takes) (pk_CA L es kws hs h6) (nmC_of h4).1 fun σ H Q ⟨M, ρ, r, q⟩ => ?_) fun σ H Q ⟨M, ρ, r0, q⟩ => ?_
          · refine ⟨M, ρ, r, ?_⟩
            cases e : evCA Γ.F cl es none ρ with
            | ok pr =>
              rw [e] at q
              refine fun M1 H1 s1 r1 hs1 vs hvs => ⟨?_, q M1 H1 s1 r1 hs1 vs hvs⟩
              rw [Paired.length hvs, evCA_len es (kwVals kws) none pr.1 ρ pr.2 h6 e, kwVals_len]
            | exc x ρ' => rw [e] at q; exact q
            | stuck => rw [e] at q; exact q
          · have q : After C σ M H ρ (match Γ.F f with | some fn => (if fn.io = none then (evCA Γ.F cl es none ρ).bind fun p => callE fn (cl f) (perm.filterMap fun i => p.1[i]?) p.2 else .stuck) | none => .stuck) fun M' H' w _ => ∀ v, VW0 C.K H M' H' v w → Q v H' := q
            rw [hF] at q
            dsimp only at q
            rw [if_pos hio] at q
            refine ⟨M, ρ, r0, (After.bindS q).mono fun M1 H1 os ρ1 s1 r1 hs1 h1 vs hvs => ⟨rfl, ?_⟩⟩
            show spOf C.R X.K fn (cl f) _ H1 Q (WE C.Wx σ)
            rw [L.K]
            have hos := osOk_all (evCA_ok _ _ _ _ _ h1.1)
            have hvl : vs.length = kws.length := by rw [Paired.length hvs, evCA_len es (kwVals kws) none os ρ ρ1 h6 h1.1, kwVals_len]
            have hl : (perm.filterMap fun i => vs[i]?).length = fn.np := by
              rw [perm_len (by rw [hvl]; exact hp)]
              exact hnp
            have hio' : fn.ioOk = true := by unfold Fn.ioOk; rw [hio]
            refine call_read hio' hl r0 s1 r1 hs1 ?_ (vos_perm hvs perm) h1.2
            rw [hio]
            refine osOk_none fun o ho => ?_
            obtain ⟨i, hi, q⟩ := List.mem_filterMap.mp ho
            exact hos o (List.mem_of_getElem? q)
    | .Name _ _, _ :: _, h => cases kws <;> exact nomatch h
  | _ => exact nomatch h
end EV

end
section
set_option linter.all false
set_option maxRecDepth 100000
set_option Elab.async false
namespace EV
open PySem L2 PyProof.Rows
variable {Γ : Gam} {cl : Nat → List D → FRes} {X : Cx} {C : Ctx} {sc : Scope} {K : PySem.W.Frag} {M M' M0 M1 : AS} {H H' H1 : Hp} {σ : EV.St} {ρ ρ' ρ1 : Ro}
/-! ### what is walked -/
/-- J gives the items ds, from (M, H) on, whatever else is done -/
def ItR (K : PySem.W.Frag) (M : AS) (H : Hp) (J : L2.It) (ds : List D) : Prop := ∃ n G Y, n = ds.length ∧ Walk J n G Y ∧ (∀ O M' H', OwL O M H → Stp O M H M' H' → G H') ∧
  ∀ O M1 H1 i x H2, OwL O M H → Stp O M H M1 H1 → i < ds.length → Y i H1 x H2 → Stp0 M1 H1 M1 H2 ∧ ∃ d, ds[i]? = some d ∧ Dat K M1 H2 x d
def tIt (C : Ctx) (f : Ro → Res (List D × Ro)) : TI := fun σ H R => ∃ M ρ, Rep C.K C.M0 M ρ σ H ∧ After C σ M H ρ (f ρ) fun M' H' ds _ => ∀ J, ItR C.K M' H' J ds → ds.length ≤ sizeLine → R J H'
/-- no list, no tuple is too long -/
def HZ (H : Hp) : Prop := ∀ a xs, Rd H a (.lst xs) ∨ Rd H a (.tup xs) → xs.length ≤ sizeLine
theorem hz_of {pins : List (Addr × Obj)} {s : Shared} (I : Inv X pins σ H s) : HZ H := fun a xs h => by
  rcases h with h | h
  · obtain ⟨_, _, _, z⟩ := I.list (.inl h); exact z
  · obtain ⟨_, _, _, z⟩ := I.tuple (.inl h); exact z
theorem PI_hz {tg iter : Expr} {t t' : TI} (h : PI X tg iter t) (f : ∀ σ H R, t' σ H R → t σ H (fun J H' => HZ H' → R J H')) : PI X tg iter t' :=
  ⟨fun pins s σ H R I q => thn (h.run pins s σ H _ I (f σ H R q)) fun v s1 h1 => thn h1 fun itv s2 ⟨it, fp, tn, J, H2, e, I2, T, st2, f2, q2⟩ => ⟨it, fp, tn, J, H2, e, I2, T, st2, f2, q2 (hz_of I2)⟩⟩
theorem PI_imp {tg iter : Expr} {t t' : TI} (h : PI X tg iter t) (f : ∀ σ H R, t' σ H R → t σ H R) : PI X tg iter t' := ⟨fun pins s σ H R I q => h.run pins s σ H R I (f σ H R q)⟩
theorem itr_list {a : Addr} {vs : List V} {ds : List D} (r : Rd H a (.lst vs)) (n : ¬ M a) (q : DatA K M H vs ds) : ItR K M H (Itl K a) ds := by
  have hl := q.length
  refine ⟨_, _, _, hl, walk_list (K := K) (a := a) (xs := vs), fun O M' H' w s => .inl (rd_keep r n w s.keep), fun O M1 H1 i x H2 w s hi y => ?_⟩
  obtain ⟨rfl, hx⟩ := y
  obtain ⟨d, h1, h2⟩ := (q.step w s).getV hx
  exact ⟨.refl, d, h1, h2⟩
theorem itr_tup {a : Addr} {vs : List V} {ds : List D} (r : SqT K H a vs) (q : DatA K M H vs ds) : ItR K M H (Itt K a) ds := by
  have hl := q.length
  refine ⟨_, _, _, hl, walk_tup (K := K) (a := a) (xs := vs), fun O M' H' w s => sqt_keep r w s.keep, fun O M1 H1 i x H2 w s hi y => ?_⟩
  obtain ⟨rfl, hx⟩ := y
  obtain ⟨d, h1, h2⟩ := (q.step w s).getV hx
  exact ⟨.refl, d, h1, h2⟩
theorem itr_range {lo : Int} {n : Nat} : ItR K M H (Itr lo n) ((List.range n).map fun (i : Nat) => .int (lo + i)) := by
  have hl : ((List.range n).map fun (i : Nat) => PyData.int (lo + i)).length = n := by simp
  refine ⟨_, _, _, hl.symm, walk_range (lo := lo) (n := n), fun O M' H' w s => trivial, fun O M1 H1 i x H2 w s hi y => ?_⟩
  obtain ⟨rfl, rfl⟩ := y
  have hi' : i < n := by simpa using hi
  exact ⟨.refl, .int (lo + i), by simp [hi'], .int _⟩
theorem itr_str {z : Str} : ItR K M H (Its z) (chars z) := by
  have hl : (chars z).length = z.cps.size := by simp [chars]
  refine ⟨_, _, _, hl.symm, walk_str (z := z), fun O M' H' w s => trivial, fun O M1 H1 i x H2 w s hi y => ?_⟩
  obtain ⟨rfl, c, hc, rfl⟩ := y
  refine ⟨.refl, .str ⟨#[c]⟩, ?_, .str _⟩
  unfold chars
  rw [List.getElem?_map, Array.getElem?_toList, hc]
  rfl
/-- a new pair -/
theorem dat_pair {M1 : AS} {H1 H2 : Hp} {T : Addr} {v u : V} {d e : D} (hT : H1 T = none) (h2 : H2 = upd H1 T (.tup [v, u])) (hv : Dat K M1 H1 v d) (hu : Dat K M1 H1 u e) : Stp0 M1 H1 M1 H2 ∧ Dat K M1 H2 (.ref T) (.tuple [d, e]) := by
  subst h2
  exact ⟨.laid hT, .tup (.inl (.inl upd_same)) (.cons (hv.step0 (.laid hT)) (.cons (hu.step0 (.laid hT)) .nil))⟩
theorem enumD_at (ds : List D) (i : Nat) : (enumD ds)[i]? = (ds[i]?).map fun d => .tuple [.int (i : Nat), d] := by
  unfold enumD
  rw [List.getElem?_map, List.getElem?_zipIdx]
  cases ds[i]? <;> simp
theorem itr_enum {a : Addr} {vs : List V} {ds : List D} (r : Rd H a (.lst vs)) (n : ¬ M a) (q : DatA K M H vs ds) : ItR K M H (Ite K a) (enumD ds) := by
  have hl : vs.length = (enumD ds).length := by rw [q.length]; simp [enumD]
  refine ⟨_, _, _, hl, walk_enum (K := K) (a := a) (xs := vs), fun O M' H' w s => .inl (rd_keep r n w s.keep), fun O M1 H1 i x H2 w s hi y => ?_⟩
  obtain ⟨T, v, u, rfl, hT, h2, e1, e2⟩ := y
  obtain ⟨d, g1, g2⟩ := (q.step w s).getV e2
  cases e1
  obtain ⟨s0, hd⟩ := dat_pair hT h2 (.int _) g2
  exact ⟨s0, _, by rw [enumD_at, g1]; rfl, hd⟩
theorem itr_enumT {a : Addr} {vs : List V} {ds : List D} (r : SqT K H a vs) (q : DatA K M H vs ds) : ItR K M H (EVI.IteT K a) (enumD ds) := by
  have hl : vs.length = (enumD ds).length := by rw [q.length]; simp [enumD]
  refine ⟨_, _, _, hl, EVI.walk_enumT (K := K) (a := a) (xs := vs), fun O M' H' w s => sqt_keep r w s.keep, fun O M1 H1 i x H2 w s hi y => ?_⟩
  obtain ⟨T, v, u, rfl, hT, h2, e1, e2⟩ := y
  obtain ⟨d, g1, g2⟩ := (q.step w s).getV e2
  cases e1
  obtain ⟨s0, hd⟩ := dat_pair hT h2 (.int _) g2
  exact ⟨s0, _, by rw [enumD_at, g1]; rfl, hd⟩
theorem zipD_at : ∀ (xs ys : List D) (i : Nat), (zipD xs ys)[i]? = (xs[i]?).bind fun x => (ys[i]?).map fun y => .tuple [x, y]
  | [], ys, i => by simp [zipD]
  | x :: xs, [], i => by
    simp only [zipD, List.zip_nil_right, List.map_nil, List.getElem?_nil, Option.map_none]
    cases (x :: xs)[i]? <;> rfl
  | x :: xs, y :: ys, 0 => by simp [zipD]
  | x :: xs, y :: ys, i + 1 => by
    have := zipD_at xs ys i
    simpa [zipD] using this
theorem itr_zip {a b : Addr} {vs us : List V} {ds es : List D} (r : Rd H a (.lst vs)) (n : ¬ M a) (q : DatA K M H vs ds) (r' : Rd H b (.lst us)) (n' : ¬ M b) (q' : DatA K M H us es) : ItR K M H (Itz K a b) (zipD ds es) := by
  have hl : min vs.length us.length = (zipD ds es).length := by rw [q.length, q'.length]; simp [zipD]
  refine ⟨_, _, _, hl, walk_zip (K := K) (a := a) (b := b) (xs := vs) (ys := us) rfl, fun O M' H' w s => ⟨.inl (rd_keep r n w s.keep), .inl (rd_keep r' n' w s.keep)⟩, fun O M1 H1 i x H2 w s hi y => ?_⟩
  obtain ⟨T, v, u, rfl, hT, h2, e1, e2⟩ := y
  obtain ⟨d, g1, g2⟩ := (q.step w s).getV e1
  obtain ⟨e, g3, g4⟩ := (q'.step w s).getV e2
  obtain ⟨s0, hd⟩ := dat_pair hT h2 g2 g4
  exact ⟨s0, _, by rw [zipD_at, g1, g3]; rfl, hd⟩
theorem walk_zipT {K : PySem.W.Frag} {a b : Addr} {xs ys : List V} : Walk (RZ.ItzT K a b) (min xs.length ys.length) (fun H => SqT K H a xs ∧ SqT K H b ys) (YPair (fun i => xs[i]?) (fun i => ys[i]?)) := by
  refine ⟨fun i _ hi q => ?_, fun _ q => ⟨xs, ys, q.1, q.2, by omega⟩, fun i H v H' _ q y => ?_⟩
  · have h1 : i < xs.length := by omega
    have h2 : i < ys.length := by omega
    exact ⟨xs, ys, xs[i], ys[i], q.1, q.2, by simp [h1], by simp [h2]⟩
  · obtain ⟨T, x, z, h1, h2, h3, h4, h5⟩ := y
    exact ⟨T, x, z, h1, h2, h3, h4 xs q.1, h5 ys q.2⟩
theorem itr_zipT {a b : Addr} {vs us : List V} {ds es : List D} (r : SqT K H a vs) (q : DatA K M H vs ds) (r' : SqT K H b us) (q' : DatA K M H us es) : ItR K M H (RZ.ItzT K a b) (zipD ds es) := by
  have hl : min vs.length us.length = (zipD ds es).length := by rw [q.length, q'.length]; simp [zipD]
  refine ⟨_, _, _, hl, walk_zipT (K := K) (a := a) (b := b) (xs := vs) (ys := us), fun O M' H' w s => ⟨sqt_keep r w s.keep, sqt_keep r' w s.keep⟩, fun O M1 H1 i x H2 w s hi y => ?_⟩
  obtain ⟨T, v, u, rfl, hT, h2, e1, e2⟩ := y
  obtain ⟨d, g1, g2⟩ := (q.step w s).getV e1
  obtain ⟨e, g3, g4⟩ := (q'.step w s).getV e2
  obtain ⟨s0, hd⟩ := dat_pair hT h2 g2 g4
  exact ⟨s0, _, by rw [zipD_at, g1, g3]; rfl, hd⟩
/-! ### how walks begin -/
theorem iter_data {pins : List (Addr × Obj)} {s : Shared} {v : V} {u : Value} {d : D} {ds : List D} {tg : Expr} {R : L2.It → Hp → Prop} (I : Inv X pins σ H s) (rv : RelV v u) (hd : Dat X.K M H v d) (e : seqD d = some ds)
    (hR : ∀ J, ItR X.K M H J ds → ds.length ≤ sizeLine → R J H) : wpAny (model X.prog X.w) X.A (pyIter u) (PIE X pins σ tg R) X.xe s := by
  cases hd with
  | non => cases e
  | bl b => cases e
  | int i => cases e
  | str x =>
    obtain ⟨hz, rfl⟩ := some_ite (show (if x.length ≤ sizeLine then some (chars x) else none) = some ds from e)
    have hz : (chars x).length ≤ sizeLine := by simpa [chars, Str.length] using hz
    obtain ⟨t, rfl⟩ := rv
    cases ha : x.cps.all (· < 128)
    · exact wpAny_pyIter_wide ha (pi_one (tk := s.toks) I _ (turn_str _ x t "str_iterator" (.inr rfl)) ⟨_, Heap.get?_push_size _ rfl, rfl, rfl⟩ (hR _ itr_str hz))
    · exact wpAny_pyIter_ascii ha (pi_one (tk := s.toks) I _ (turn_str _ x t "str_ascii_iterator" (.inl rfl)) ⟨_, Heap.get?_push_size _ rfl, rfl, rfl⟩ (hR _ itr_str hz))
  | lst r n q =>
    cases e
    cases rv
    obtain ⟨its, _, p, hz⟩ := I.list (.inl r)
    exact wpAny_pyIter_list p.isList (pi_one (tk := s.toks) I _ (turn_list _ _) ⟨_, Heap.get?_push_size _ rfl, rfl, rfl⟩ (hR _ (itr_list r n q) (by rw [← q.length]; exact hz)))
  | tup r q =>
    cases e
    cases rv
    obtain ⟨its, _, p, hz⟩ := I.tuple r
    exact wpAny_pyIter_tuple (show s.heap.IsTuple _ its.toArray from p) (pi_one (tk := s.toks) I _ (turn_tuple _ _) ⟨_, Heap.get?_push_size _ rfl, rfl, rfl⟩ (hR _ (itr_tup r q) (by rw [← q.length]; exact hz)))
theorem pi_seq {tg e : Expr} {f : Ro → Res (D × Ro)} (L : X.K = C.K) (h : PE X e (tD C f)) : PI X tg e (tIt C fun ρ => (f ρ).bind fun p => (Res.of (seqD p.1)).bind fun xs => .ok (xs, p.2)) := by
  refine ⟨fun pins s σ H R I ⟨M, ρ, r, q⟩ => ?_⟩
  have q' : tD C f σ H fun v H1 => ∃ M1 d ds, Dat C.K M1 H1 v d ∧ seqD d = some ds ∧ ∀ J, ItR C.K M1 H1 J ds → ds.length ≤ sizeLine → R J H1 := by
    refine ⟨M, ρ, r, (After.bind q).mono fun M1 H1 d ρ1 s1 r1 hs1 h1 v hv => ?_⟩
    obtain ⟨ds, e1, h2⟩ := h1.of
    exact ⟨M1, d, ds, hv, e1, h2.now r1⟩
  refine thn (h.run pins s σ H _ I q') fun u s1 ⟨v, H1, I1, rv, M1, d, ds, hd, e1, hR⟩ => ?_
  rw [← L] at hd hR
  exact iter_data I1 rv hd e1 hR
structure SIt (Γ : Gam) (cl : Nat → List D → FRes) (it : It) : Prop where
  pi : ∀ X C sc tg iter, Lk Γ cl X C sc → okIt Γ it sc iter (isTuple tg) = true → PI X tg iter (tIt C (evIt Γ.F cl it))
theorem sit_seq {e : E} (h : SE Γ cl e) : SIt Γ cl (.seq e) := ⟨fun X C sc tg iter L ok => pi_seq L.K (tD_of (h.pe X C sc iter L ok))⟩
/-- one data argument -/
theorem pa_one {e : E} {x : Expr} (L : Lk Γ cl X C sc) (h : SE Γ cl e) (ok : okE Γ e sc x = true) : PA X [x] (tCons (tD C (datOf (evG Γ cl e))) tNil) := pa_cons (tD_of (h.pe X C sc x L ok)) pa_nil (star_of ok [] X.env)
theorem pa_two {a b : E} {x y : Expr} (L : Lk Γ cl X C sc) (ha : SE Γ cl a) (hb : SE Γ cl b) (oka : okE Γ a sc x = true) (okb : okE Γ b sc y = true) : PA X [x, y] (tCons (tD C (datOf (evG Γ cl a))) (tCons (tD C (datOf (evG Γ cl b))) tNil)) :=
  pa_cons (tD_of (ha.pe X C sc x L oka)) (pa_one L hb okb) (star_of oka [y] X.env)
theorem small62_of {i : Int} (h : small62 i = true) : -(2 ^ 62) ≤ i ∧ i < 2 ^ 62 := by
  unfold small62 at h
  rw [Bool.and_eq_true] at h
  exact ⟨of_decide_eq_true h.1, of_decide_eq_true h.2⟩
theorem sit_range1 {e : E} (h : SE Γ cl e) : SIt Γ cl (.range1 e) := by
  refine ⟨fun X C sc tg iter L ok => ?_⟩
  have inv : ∃ f p x pos, iter = .Call (.Name f p) [x] [] pos ∧ (decide (f = "range") && glC sc f && okE Γ e sc x) = true := by
    unfold okIt at ok
    split at ok <;> first | contradiction | skip
    all_goals first | (rename_i heq _; cases heq; exact ⟨_, _, _, _, rfl, ok⟩) | (rename_i heq; cases heq; exact ⟨_, _, _, _, rfl, ok⟩) | skip
  obtain ⟨f, p, x, pos, rfl, ok'⟩ := inv
  simp only [Bool.and_eq_true, decide_eq_true_eq] at ok'
  obtain ⟨⟨rfl, h2⟩, h3⟩ := ok'
  refine PI_imp (pi_range1 (glC_of L h2) (L.bi _ (by decide)) (pa_one L h h3) (star_of h3 [] X.env)) fun σ H R ⟨M, ρ, r, q⟩ => ?_
  refine ⟨M, ρ, r, (After.bind q).mono fun M1 H1 d ρ1 s1 r1 hs1 h1 v hv => ?_⟩
  cases d with
  | int j =>
    cases hv
    have h1 : After C σ M1 H1 ρ1 (if (small62 j && decide (j ≤ sizeLine)) = true then .ok (rangeD 0 j, ρ1) else .stuck) _ := h1
    split at h1
    · rename_i hz
      rw [Bool.and_eq_true] at hz
      obtain ⟨z1, z2⟩ := small62_of hz.1
      have hj := of_decide_eq_true hz.2
      have : rangeD 0 j = (List.range j.toNat).map fun (i : Nat) => PyData.int (0 + i) := by unfold rangeD; simp
      rw [this] at h1
      exact ⟨j, rfl, z1, z2, h1.now r1 _ itr_range (by simp; omega)⟩
    · exact h1.elim
  | _ => exact h1.elim
theorem sit_range2 {a b : E} (ha : SE Γ cl a) (hb : SE Γ cl b) : SIt Γ cl (.range2 a b) := by
  refine ⟨fun X C sc tg iter L ok => ?_⟩
  have inv : ∃ f p x y pos, iter = .Call (.Name f p) [x, y] [] pos ∧ (decide (f = "range") && glC sc f && okE Γ a sc x && okE Γ b sc y) = true := by
    unfold okIt at ok
    split at ok <;> first | contradiction | skip
    all_goals first | (rename_i heq _; cases heq; exact ⟨_, _, _, _, _, rfl, ok⟩) | (rename_i heq; cases heq; exact ⟨_, _, _, _, _, rfl, ok⟩) | skip
  obtain ⟨f, p, x, y, pos, rfl, ok'⟩ := inv
  simp only [Bool.and_eq_true, decide_eq_true_eq] at ok'
  obtain ⟨⟨⟨rfl, h2⟩, h3⟩, h4⟩ := ok'
  refine PI_imp (pi_range2 (glC_of L h2) (L.bi _ (by decide)) (pa_two L ha hb h3 h4) (by rw [star_of h3, star_of h4]; rfl) (star_of h4 [] X.env)) fun σ H R ⟨M, ρ, r, q⟩ => ?_
  refine ⟨M, ρ, r, (After.bind q).mono fun M1 H1 d ρ1 s1 r1 hs1 h1 v hv => ⟨M1, ρ1, r1, (After.bind h1).mono fun M2 H2 e ρ2 s2 r2 hs2 h2 u hu => ?_⟩⟩
  have hv' := hv.step r1.owl s2
  cases d with
  | int i =>
    cases e with
    | int j =>
      cases hv'
      cases hu
      have h2 : After C σ M2 H2 ρ2 (if (small62 i && small62 j && decide (j - i ≤ sizeLine)) = true then .ok (rangeD i j, ρ2) else .stuck) _ := h2
      split at h2
      · rename_i hz
        simp only [Bool.and_eq_true] at hz
        have z1 := small62_of hz.1.1
        have z2 := small62_of hz.1.2
        have hj := of_decide_eq_true hz.2
        exact ⟨i, j, rfl, ⟨z1.1, z1.2, z2.1, z2.2⟩, h2.now r2 _ itr_range (by unfold rangeD; simp; omega)⟩
      · exact h2.elim
    | _ => exact h2.elim
  | _ => cases e <;> exact h2.elim
theorem itr_down {lo : Int} {n : Nat} : ItR K M H (Itc lo (-1) n) ((List.range n).map fun (i : Nat) => .int (lo + i * (-1))) := by
  have hl : ((List.range n).map fun (i : Nat) => PyData.int (lo + i * (-1))).length = n := by simp
  refine ⟨_, _, _, hl.symm, walk_rangeC (lo := lo) (c := -1) (n := n), fun O M' H' w s => trivial, fun O M1 H1 i x H2 w s hi y => ?_⟩
  obtain ⟨rfl, rfl⟩ := y
  have hi' : i < n := by simpa using hi
  exact ⟨.refl, .int (lo + i * (-1)), by simp [hi'], .int _⟩
theorem neg_pe (L : Lk Γ cl X C sc) {z : Expr} (h : negC z = true) : PE X z (tD C (datOf (evG Γ cl (.op1 .neg (.cst (.int 1)))))) ∧ okE Γ (.op1 .neg (.cst (.int 1))) sc z = true := by
  have ok : okE Γ (.op1 .neg (.cst (.int 1))) sc z = true := by
    unfold negC at h
    split at h
    · cases (of_decide_eq_true h)
      rfl
    · cases h
  exact ⟨tD_of ((se_op1 se_cst).pe X C sc z L ok), ok⟩
theorem sit_down {a b : E} (ha : SE Γ cl a) (hb : SE Γ cl b) : SIt Γ cl (.down a b) := by
  refine ⟨fun X C sc tg iter L ok => ?_⟩
  have inv : ∃ f p x y z pos, iter = .Call (.Name f p) [x, y, z] [] pos ∧ (decide (f = "range") && glC sc f && okE Γ a sc x && okE Γ b sc y && negC z) = true := by
    unfold okIt at ok
    split at ok <;> first | contradiction | skip
    all_goals first | (rename_i heq _; cases heq; exact ⟨_, _, _, _, _, _, rfl, ok⟩) | (rename_i heq; cases heq; exact ⟨_, _, _, _, _, _, rfl, ok⟩) | skip
  obtain ⟨f, p, x, y, z, pos, rfl, ok'⟩ := inv
  simp only [Bool.and_eq_true, decide_eq_true_eq] at ok'
  obtain ⟨⟨⟨⟨rfl, h2⟩, h3⟩, h4⟩, h5⟩ := ok'
  obtain ⟨nz, okz⟩ := neg_pe (C := C) L h5
  have pz : PA X [z] (tCons (tD C (datOf (evG Γ cl (.op1 .neg (.cst (.int 1)))))) tNil) := pa_cons nz pa_nil (star_of okz [] X.env)
  refine PI_imp (pi_range3 (glC_of L h2) (L.bi _ (by decide)) (pa_cons (tD_of (ha.pe X C sc x L h3)) (pa_cons (tD_of (hb.pe X C sc y L h4)) pz (star_of h4 [z] X.env)) (star_of h3 [y, z] X.env)) (star_of h3 _ X.env) (by rw [star_of h4, star_of okz]; rfl)) fun σ H R ⟨M, ρ, r, q⟩ => ?_
  refine ⟨M, ρ, r, (After.bind q).mono fun M1 H1 d ρ1 s1 r1 hs1 h1 v hv => ⟨M1, ρ1, r1, (After.bind h1).mono fun M2 H2 e ρ2 s2 r2 hs2 h2 u hu => ?_⟩⟩
  have hv' := hv.step r1.owl s2
  refine ⟨M2, ρ2, r2, ?_⟩
  show After C σ M2 H2 ρ2 (Res.ok (PyData.int (-1), ρ2)) _
  intro M3 H3 s3 r3 hs3 w hw
  have hw : w = .int (-1) := by cases hw; rfl
  subst hw
  cases d with
  | int i =>
    cases e with
    | int j =>
      cases hv'
      cases hu
      have h2 : After C σ M2 H2 ρ2 (if (small62 i && small62 j && decide (i - j ≤ sizeLine)) = true then .ok (downD i j, ρ2) else .stuck) _ := h2
      split at h2
      · rename_i hz
        simp only [Bool.and_eq_true] at hz
        have z1 := small62_of hz.1.1
        have z2 := small62_of hz.1.2
        have hj := of_decide_eq_true hz.2
        exact ⟨i, j, -1, (i - j).toNat, rfl, RgC.neg z1.1 z1.2 z2.1 z2.2, h2 M3 H3 s3 r3 hs3 _ itr_down (by unfold downD; simp; omega)⟩
      · exact h2.elim
    | _ => exact h2.elim
  | _ => cases e <;> exact h2.elim
theorem dat_items {v : V} {d : D} {ds : List D} (h : Dat K M H v d) (e : items d = some ds) : (∃ a vs, v = .ref a ∧ d = .list ds ∧ Rd H a (.lst vs) ∧ ¬ M a ∧ DatA K M H vs ds) ∨ ∃ a vs, v = .ref a ∧ d = .tuple ds ∧ SqT K H a vs ∧ DatA K M H vs ds := by
  cases h with
  | lst r n q => cases e; exact .inl ⟨_, _, rfl, rfl, r, n, q⟩
  | tup r q => cases e; exact .inr ⟨_, _, rfl, rfl, r, q⟩
  | _ => cases e
theorem tuple_of {e : Expr} (h : isTuple e = true) : ∃ es k p, e = .Tuple es k p := by
  cases e with
  | Tuple es k p => exact ⟨es, k, p, rfl⟩
  | _ => exact nomatch h
theorem sqt_len {a : Addr} {xs : List V} (hz : HZ H) (h : SqT K H a xs) : xs.length ≤ sizeLine := by
  rcases h with h | ⟨o, its, n, _, _, _, h1, h2⟩
  · exact hz a xs (.inr h)
  · rw [Paired.length h2]
    simpa using h1
theorem sit_enum {e : E} (h : SE Γ cl e) : SIt Γ cl (.enum e) := by
  refine ⟨fun X C sc tg iter L ok => ?_⟩
  have inv : isTuple tg = true ∧ ∃ f p x pos, iter = .Call (.Name f p) [x] [] pos ∧ (decide (f = "enumerate") && glC sc f && okE Γ e sc x) = true := by
    cases hb : isTuple tg with
    | false => rw [hb] at ok; unfold okIt at ok; split at ok <;> contradiction
    | true =>
      rw [hb] at ok
      refine ⟨rfl, ?_⟩
      unfold okIt at ok
      split at ok <;> first | contradiction | skip
      all_goals first | (rename_i heq _ _; cases heq; exact ⟨_, _, _, _, rfl, ok⟩) | (rename_i heq _; cases heq; exact ⟨_, _, _, _, rfl, ok⟩) | (rename_i heq; cases heq; exact ⟨_, _, _, _, rfl, ok⟩) | skip
  obtain ⟨ht, f, p, x, pos, rfl, ok'⟩ := inv
  obtain ⟨es, k, tp, rfl⟩ := tuple_of ht
  simp only [Bool.and_eq_true, decide_eq_true_eq] at ok'
  obtain ⟨⟨rfl, h2⟩, h3⟩ := ok'
  refine PI_hz (EVI.pi_enumA (glC_of L h2) (L.bi _ (by decide)) (pa_one L h h3) (star_of h3 [] X.env)) fun σ H R ⟨M, ρ, r, q⟩ => ?_
  refine ⟨M, ρ, r, (After.bind q).mono fun M1 H1 d ρ1 s1 r1 hs1 h1 v hv => ?_⟩
  obtain ⟨ds, e1, h1⟩ := h1.of
  rw [L.K]
  rcases dat_items hv e1 with ⟨a, vs, rfl, _, q1, q2, q3⟩ | ⟨a, vs, rfl, _, q1, q3⟩
  · exact ⟨a, vs, rfl, .inl ⟨.inl q1, fun hz => h1.now r1 _ (itr_enum q1 q2 q3) (by have := hz a vs (.inl q1); rw [q3.length] at this; simpa [enumD] using this)⟩⟩
  · exact ⟨a, vs, rfl, .inr ⟨q1, fun hz => h1.now r1 _ (itr_enumT q1 q3) (by have := sqt_len hz q1; rw [q3.length] at this; simpa [enumD] using this)⟩⟩
theorem sit_zip {a b : E} (ha : SE Γ cl a) (hb : SE Γ cl b) : SIt Γ cl (.zip a b) := by
  refine ⟨fun X C sc tg iter L ok => ?_⟩
  have inv : isTuple tg = true ∧ ∃ f p x y pos, iter = .Call (.Name f p) [x, y] [] pos ∧ (decide (f = "zip") && glC sc f && okE Γ a sc x && okE Γ b sc y) = true := by
    cases hb : isTuple tg with
    | false => rw [hb] at ok; unfold okIt at ok; split at ok <;> contradiction
    | true =>
      rw [hb] at ok
      refine ⟨rfl, ?_⟩
      unfold okIt at ok
      split at ok <;> first | contradiction | skip
      all_goals first | (rename_i heq _ _; cases heq; exact ⟨_, _, _, _, _, rfl, ok⟩) | (rename_i heq _; cases heq; exact ⟨_, _, _, _, _, rfl, ok⟩) | (rename_i heq; cases heq; exact ⟨_, _, _, _, _, rfl, ok⟩) | skip
  obtain ⟨ht, f, p, x, y, pos, rfl, ok'⟩ := inv
  obtain ⟨es, k, tp, rfl⟩ := tuple_of ht
  simp only [Bool.and_eq_true, decide_eq_true_eq] at ok'
  obtain ⟨⟨⟨rfl, h2⟩, h3⟩, h4⟩ := ok'
  refine PI_hz (RZ.pi_zipA (glC_of L h2) (L.bi _ (by decide)) (pa_two L ha hb h3 h4) (star_of h3 _ _) (by rw [star_of h4]; rfl)) fun σ H R ⟨M, ρ, r, q⟩ => ?_
  refine ⟨M, ρ, r, (After.bind q).mono fun M1 H1 d ρ1 s1 r1 hs1 h1 v hv => ⟨M1, ρ1, r1, (After.bind h1).mono fun M2 H2 e ρ2 s2 r2 hs2 h2 u hu => ?_⟩⟩
  have hv' := hv.step r1.owl s2
  rw [L.K]
  cases hv' with
  | lst q1 q2 q3 =>
    cases hu with
    | lst p1 p2 p3 => exact ⟨_, _, _, _, rfl, .inl ⟨.inl q1, .inl p1, fun hz => After.now (a := zipD _ _) r2 h2 _ (itr_zip q1 q2 q3 p1 p2 p3) (by have := hz _ _ (.inl q1); rw [q3.length] at this; simp [zipD]; omega)⟩⟩
    | _ => exact h2.elim
  | tup q1 q3 =>
    cases hu with
    | tup p1 p3 => exact ⟨_, _, _, _, rfl, .inr ⟨q1, p1, fun hz => After.now (a := zipD _ _) r2 h2 _ (itr_zipT q1 q3 p1 p3) (by have := sqt_len hz q1; rw [q3.length] at this; simp [zipD]; omega)⟩⟩
    | _ => exact h2.elim
  | _ => cases e <;> exact h2.elim
theorem folded {it : It} {iter : Expr} {b : Bool} (h : okIt Γ it sc iter b = true) (env : Env) (x : Value) : foldedSetIterable iter env x = pure x := by
  cases iter with
  | Set es k p =>
    cases it with
    | seq e => cases e with
      | op1 o a => cases o <;> exact nomatch h
      | _ => exact nomatch h
    | _ => exact nomatch h
  | _ => rfl
/-! ### a comprehension's own names -/
theorem wipeR_len (is : List Nat) : (wipeR ρ is).length = ρ.length := by
  unfold wipeR
  induction is with
  | nil => rfl
  | cons i is ih => simp [List.foldr_cons, ih]
theorem wipeR_get (is : List Nat) (j : Nat) : (wipeR ρ is)[j]? = if j ∈ is then (ρ[j]?).map (fun _ => none) else ρ[j]? := by
  unfold wipeR
  induction is with
  | nil => simp
  | cons i is ih =>
    rw [List.foldr_cons]
    by_cases e : i = j
    · subst e
      rw [if_pos List.mem_cons_self]
      by_cases hl : i < (List.foldr (fun i r => r.set i none) ρ is).length
      · rw [List.getElem?_set_self hl]
        have hl' : i < ρ.length := by
          have := wipeR_len (ρ := ρ) is
          unfold wipeR at this
          omega
        rw [List.getElem?_eq_getElem hl']
        rfl
      · have hl' : ¬ i < ρ.length := by
          have := wipeR_len (ρ := ρ) is
          unfold wipeR at this
          omega
        rw [List.getElem?_eq_none (by simpa using hl), List.getElem?_eq_none (by omega)]
        rfl
    · rw [List.getElem?_set_ne e, ih]
      have e2 : (j ∈ i :: is) ↔ j ∈ is := by
        constructor
        · intro z
          rcases List.mem_cons.mp z with z | z
          · exact absurd z.symm e
          · exact z
        · exact List.mem_cons_of_mem _
      by_cases hj : j ∈ is
      · rw [if_pos hj, if_pos (e2.mpr hj)]
      · rw [if_neg hj, if_neg (fun z => hj (e2.mp z))]
theorem wipe_get (is : List Nat) (j : Nat) : (wipe σ is)[j]? = if j ∈ is then (σ[j]?).map (fun _ => none) else σ[j]? := by
  induction is with
  | nil => simp [wipe]
  | cons i is ih =>
    unfold wipe
    by_cases e : i = j
    · subst e
      rw [if_pos List.mem_cons_self]
      by_cases hl : i < (wipe σ is).length
      · rw [List.getElem?_set_self hl]
        rw [wipe_length] at hl
        rw [List.getElem?_eq_getElem hl]
        rfl
      · rw [List.getElem?_eq_none (by simpa using hl)]
        rw [wipe_length] at hl
        rw [List.getElem?_eq_none (by omega)]
        rfl
    · rw [List.getElem?_set_ne e, ih]
      have e2 : (j ∈ i :: is) ↔ j ∈ is := by
        constructor
        · intro z
          rcases List.mem_cons.mp z with z | z
          · exact absurd z.symm e
          · exact z
        · exact List.mem_cons_of_mem _
      by_cases hj : j ∈ is
      · rw [if_pos hj, if_pos (e2.mpr hj)]
      · rw [if_neg hj, if_neg (fun z => hj (e2.mp z))]
theorem wipeR_some {is : List Nat} {j : Nat} {s : Sv} (h : (wipeR ρ is)[j]? = some (some s)) : j ∉ is ∧ ρ[j]? = some (some s) := by
  rw [wipeR_get] at h
  split at h
  · cases q : ρ[j]? <;> rw [q] at h <;> cases h
  · exact ⟨by assumption, h⟩
/-- the slots within a comprehension -/
theorem Rep.wipe (is : List Nat) (r : Rep K M0 M ρ σ H) : Rep K M0 M (wipeR ρ is) (L2.wipe σ is) H ∧ ∀ a, Ow (wipeR ρ is) (L2.wipe σ is) a → Ow ρ σ a := by
  have sg : ∀ {j : Nat}, j ∉ is → (L2.wipe σ is)[j]? = σ[j]? := fun {j} hj => by rw [wipe_get, if_neg hj]
  refine ⟨⟨by rw [wipeR_len, wipe_length]; exact r.len, r.dom, r.sub, fun j d e => ?_, fun j s xs e l => ?_, fun j xs a e q => ?_, fun j xs a e q => ?_, fun i j a s t xs ys e1 e2 l1 l2 q1 q2 => ?_⟩, fun a ⟨j, s, xs, e, l, q⟩ => ?_⟩
  · obtain ⟨hj, e⟩ := wipeR_some e
    rw [sg hj]
    exact r.dat j d e
  · obtain ⟨hj, e⟩ := wipeR_some e
    rw [sg hj]
    exact r.lst j s xs e l
  · obtain ⟨hj, e⟩ := wipeR_some e
    rw [sg hj] at q
    exact r.own j xs a e q
  · obtain ⟨hj, e⟩ := wipeR_some e
    rw [sg hj] at q
    exact r.io j xs a e q
  · obtain ⟨hi, e1⟩ := wipeR_some e1
    obtain ⟨hj, e2⟩ := wipeR_some e2
    rw [sg hi] at q1
    rw [sg hj] at q2
    exact r.inj i j a s t xs ys e1 e2 l1 l2 q1 q2
  · obtain ⟨hj, e⟩ := wipeR_some e
    rw [sg hj] at q
    exact ⟨j, s, xs, e, l, q⟩
theorem backR_len {ρ0 : Ro} (is : List Nat) : (backR ρ0 ρ is).length = ρ.length := by
  unfold backR
  induction is with
  | nil => rfl
  | cons i is ih => simp [List.foldr_cons, ih]
theorem backR_get {ρ0 : Ro} (is : List Nat) (j : Nat) : (backR ρ0 ρ is)[j]? = if j ∈ is then (ρ[j]?).map (fun _ => (ρ0[j]?).join) else ρ[j]? := by
  unfold backR
  induction is with
  | nil => simp
  | cons i is ih =>
    rw [List.foldr_cons]
    by_cases e : i = j
    · subst e
      rw [if_pos List.mem_cons_self]
      by_cases hl : i < (List.foldr (fun i r => r.set i ((ρ0[i]?).join)) ρ is).length
      · rw [List.getElem?_set_self hl]
        have hl' : i < ρ.length := by
          have := backR_len (ρ := ρ) (ρ0 := ρ0) is
          unfold backR at this
          omega
        rw [List.getElem?_eq_getElem hl']
        rfl
      · have hl' : ¬ i < ρ.length := by
          have := backR_len (ρ := ρ) (ρ0 := ρ0) is
          unfold backR at this
          omega
        rw [List.getElem?_eq_none (by simpa using hl), List.getElem?_eq_none (l := ρ) (by omega)]
        rfl
    · rw [List.getElem?_set_ne e, ih]
      have e2 : (j ∈ i :: is) ↔ j ∈ is := by
        constructor
        · intro z
          rcases List.mem_cons.mp z with z | z
          · exact absurd z.symm e
          · exact z
        · exact List.mem_cons_of_mem _
      by_cases hj : j ∈ is
      · rw [if_pos hj, if_pos (e2.mpr hj)]
      · rw [if_neg hj, if_neg (fun z => hj (e2.mp z))]
/-- out of it: the own names are as they were, the others as they are -/
theorem Rep.back {is : List Nat} (r1 : Rep K M0 M1 ρ1 σ H1) (s : Stp (Ow (wipeR ρ1 is) (L2.wipe σ is)) M1 H1 M H) (hs : ∀ a, Ow ρ (L2.wipe σ is) a → Ow (wipeR ρ1 is) (L2.wipe σ is) a) (r : Rep K M0 M ρ (L2.wipe σ is) H) :
    Rep K M0 M (backR ρ1 ρ is) σ H ∧ ∀ a, Ow (backR ρ1 ρ is) σ a → Ow ρ1 σ a := by
  have sg : ∀ {j : Nat}, j ∉ is → (L2.wipe σ is)[j]? = σ[j]? := fun {j} hj => by rw [wipe_get, if_neg hj]
  obtain ⟨rw1, sw1⟩ := r1.wipe is
  have from' : ∀ {j : Nat} {x : Sv}, (backR ρ1 ρ is)[j]? = some (some x) → (j ∈ is ∧ ρ1[j]? = some (some x)) ∨ (j ∉ is ∧ ρ[j]? = some (some x)) := by
    intro j x h
    rw [backR_get] at h
    split at h
    · rename_i hj
      refine .inl ⟨hj, ?_⟩
      cases q : ρ[j]? with
      | none => rw [q] at h; cases h
      | some y =>
        rw [q] at h
        simp only [Option.map_some, Option.some.injEq] at h
        cases q2 : ρ1[j]? with
        | none => rw [q2] at h; cases h
        | some z => rw [q2] at h; simp only [Option.join_some] at h; rw [h]
    · rename_i hj
      exact .inr ⟨hj, h⟩
  -- a list hidden within is not touched
  have hidden : ∀ {j : Nat} {x : Sv} {xs : List D} {a : Addr}, j ∈ is → ρ1[j]? = some (some x) → x.lst? = some xs → σ[j]? = some (some (V.ref a)) → ¬ Ow (wipeR ρ1 is) (L2.wipe σ is) a := by
    rintro j x xs a hj e l q ⟨i, t, ys, e', l', q'⟩
    obtain ⟨hi, e'⟩ := wipeR_some e'
    rw [sg hi] at q'
    have := r1.inj i j a t x ys xs e' e l' l q' q
    subst this
    exact hi hj
  refine ⟨⟨by rw [backR_len, r.len, wipe_length], r.dom, r.sub, fun j d e => ?_, fun j x xs e l => ?_, fun j xs a e q => ?_, fun j xs a e q => ?_, fun i j a x t xs ys e1 e2 l1 l2 q1 q2 => ?_⟩, fun a ⟨j, x, xs, e, l, q⟩ => ?_⟩
  · rcases from' e with ⟨hj, e⟩ | ⟨hj, e⟩
    · obtain ⟨v, h1, h2⟩ := r1.dat j d e
      exact ⟨v, h1, h2.step rw1.owl s⟩
    · rw [← sg hj]
      exact r.dat j d e
  · rcases from' e with ⟨hj, e⟩ | ⟨hj, e⟩
    · obtain ⟨a, vs, h1, h2, h3, h4⟩ := r1.lst j x xs e l
      have nh := hidden hj e l h1
      exact ⟨a, vs, h1, s.keep a _ h2 nh, h3.step rw1.owl s, s.old a h4 nh⟩
    · rw [← sg hj]
      exact r.lst j x xs e l
  · rcases from' e with ⟨hj, e⟩ | ⟨hj, e⟩
    · exact r1.own j xs a e q
    · rw [← sg hj] at q
      exact r.own j xs a e q
  · rcases from' e with ⟨hj, e⟩ | ⟨hj, e⟩
    · exact r1.io j xs a e q
    · rw [← sg hj] at q
      exact r.io j xs a e q
  · rcases from' e1 with ⟨hi, e1⟩ | ⟨hi, e1⟩
    · rcases from' e2 with ⟨hj, e2⟩ | ⟨hj, e2⟩
      · exact r1.inj i j a x t xs ys e1 e2 l1 l2 q1 q2
      · rw [← sg hj] at q2
        exact (hidden hi e1 l1 q1 (hs a ⟨j, t, ys, e2, l2, q2⟩)).elim
    · rcases from' e2 with ⟨hj, e2⟩ | ⟨hj, e2⟩
      · rw [← sg hi] at q1
        exact (hidden hj e2 l2 q2 (hs a ⟨i, x, xs, e1, l1, q1⟩)).elim
      · rw [← sg hi] at q1
        rw [← sg hj] at q2
        exact r.inj i j a x t xs ys e1 e2 l1 l2 q1 q2
  · rcases from' e with ⟨hj, e⟩ | ⟨hj, e⟩
    · exact ⟨j, x, xs, e, l, q⟩
    · rw [← sg hj] at q
      exact sw1 a (hs a ⟨j, x, xs, e, l, q⟩)
/-! ### targets -/
theorem setD_some {i : Nat} {w : W} (h : setD ρ i w = some ρ') : i < ρ.length ∧ (∀ xs, ρ[i]? ≠ some (some (.io xs))) ∧ ρ' = ρ.set i (some w.sv) := by
  unfold setD at h
  split at h
  · cases h
  · rename_i s hn e
    refine ⟨?_, fun xs z => ?_, (Option.some.inj h).symm⟩
    · exact (List.getElem?_eq_some_iff.mp e).1
    · rw [e] at z
      cases z
      exact hn xs rfl
  · cases h
theorem st_set {i j : Nat} {x : Option V} {v : Option V} (h : (σ.set i x)[j]? = some v) : (j = i ∧ v = x) ∨ (j ≠ i ∧ σ[j]? = some v) := by
  by_cases e : i = j
  · subst e
    by_cases hl : i < σ.length
    · rw [List.getElem?_set_self hl] at h; cases h; exact .inl ⟨rfl, rfl⟩
    · rw [List.getElem?_eq_none (by simpa using hl)] at h; cases h
  · rw [List.getElem?_set_ne e] at h
    exact .inr ⟨fun z => e z.symm, h⟩
/-- data stored in a slot -/
theorem Rep.setDat {i : Nat} {v : V} {d : D} (r : Rep K M0 M ρ σ H) (hv : Dat K M H v d) (h : setD ρ i (.dat d) = some ρ') : Rep K M0 M ρ' (σ.set i (some v)) H ∧ ∀ a, Ow ρ' (σ.set i (some v)) a → Ow ρ σ a := by
  obtain ⟨hl, hio, rfl⟩ := setD_some h
  have hlσ : i < σ.length := by rw [← r.len]; exact hl
  have ne : ∀ {j : Nat}, j ≠ i → (σ.set i (some v))[j]? = σ[j]? := fun hj => List.getElem?_set_ne (Ne.symm hj)
  refine ⟨⟨by simpa using r.len, r.dom, r.sub, fun j d' e => ?_, fun j s xs e l => ?_, fun j xs a e q => ?_, fun j xs a e q => ?_, fun j k a s t xs ys e1 e2 l1 l2 q1 q2 => ?_⟩, fun a ⟨j, s, xs, e, l, q⟩ => ?_⟩
  · rcases set_get e with ⟨rfl, e'⟩ | ⟨hj, e⟩
    · cases e'; exact ⟨v, List.getElem?_set_self hlσ, hv⟩
    · rw [ne hj]; exact r.dat j d' e
  · rcases set_get e with ⟨rfl, e'⟩ | ⟨hj, e⟩
    · cases e'; cases l
    · rw [ne hj]; exact r.lst j s xs e l
  · rcases set_get e with ⟨rfl, e'⟩ | ⟨hj, e⟩
    · cases e'
    · rw [ne hj] at q; exact r.own j xs a e q
  · rcases set_get e with ⟨rfl, e'⟩ | ⟨hj, e⟩
    · cases e'
    · rw [ne hj] at q; exact r.io j xs a e q
  · rcases set_get e1 with ⟨rfl, e'⟩ | ⟨hj, e1⟩
    · cases e'; cases l1
    · rcases set_get e2 with ⟨rfl, e'⟩ | ⟨hk, e2⟩
      · cases e'; cases l2
      · rw [ne hj] at q1; rw [ne hk] at q2
        exact r.inj j k a s t xs ys e1 e2 l1 l2 q1 q2
  · rcases set_get e with ⟨rfl, e'⟩ | ⟨hj, e⟩
    · cases e'; cases l
    · rw [ne hj] at q; exact ⟨j, s, xs, e, l, q⟩
theorem wipe_set {is : List Nat} {i : Nat} (h : i ∈ is) (x : Option V) : L2.wipe (σ.set i x) is = L2.wipe σ is := by
  apply List.ext_getElem?
  intro j
  rw [wipe_get, wipe_get]
  split
  · by_cases e : i = j
    · subst e
      by_cases hl : i < σ.length
      · rw [List.getElem?_set_self hl, List.getElem?_eq_getElem hl]; rfl
      · rw [List.getElem?_eq_none (by simpa using hl), List.getElem?_eq_none (l := σ) (by omega)]
    · rw [List.getElem?_set_ne e]
  · rename_i hj
    rw [List.getElem?_set_ne (fun (e : i = j) => hj (e ▸ h))]
/-- a target's reading -/
def gTg (K : PySem.W.Frag) : Tg → TG
  | .one i => gName i
  | .many is => gTup K is.length (is.foldr (fun i u => gCons (gName i) u) gNil)
theorem gTg_many {is : List Nat} {vs : List V} {ds : List D} {all : List Nat} {Q : St → Hp → Prop} (r : Rep K M0 M ρ σ H) (hd : DatA K M H vs ds) (h : setDs ρ is ds = some ρ') (hall : ∀ i ∈ is, i ∈ all)
    (hQ : ∀ σ', Rep K M0 M ρ' σ' H → (∀ a, Ow ρ' σ' a → Ow ρ σ a) → L2.wipe σ' all = L2.wipe σ all → Q σ' H) : (is.foldr (fun i u => gCons (gName i) u) gNil) vs σ H Q := by
  induction is generalizing vs ds ρ σ with
  | nil =>
    cases ds with
    | nil => cases hd; cases h; exact ⟨rfl, hQ σ r (fun _ z => z) rfl⟩
    | cons _ _ => cases h
  | cons i is ih =>
    cases ds with
    | nil => cases h
    | cons d ds =>
      cases hd with
      | @cons v vs _ _ h1 h2 =>
        simp only [setDs, Option.bind_eq_some_iff] at h
        obtain ⟨ρ1, e1, e2⟩ := h
        obtain ⟨r1, s1⟩ := r.setDat h1 e1
        refine ⟨v, vs, rfl, ?_⟩
        refine ih r1 h2 e2 (fun j hj => hall j (List.mem_cons_of_mem _ hj)) fun σ' r' s' w' => hQ σ' r' (fun a z => s1 a (s' a z)) ?_
        rw [w', wipe_set (hall i List.mem_cons_self)]
theorem setDs_len : ∀ {is : List Nat} {ds : List D} {ρ ρ' : Ro}, setDs ρ is ds = some ρ' → is.length = ds.length
  | [], [], _, _, _ => rfl
  | [], _ :: _, _, _, h => by cases h
  | _ :: _, [], _, _, h => by cases h
  | i :: is, d :: ds, ρ, ρ', h => by
    simp only [setDs, Option.bind_eq_some_iff] at h
    obtain ⟨ρ1, e1, e2⟩ := h
    simp [setDs_len e2]
theorem gTg_read {t : Tg} {v : V} {d : D} {Q : St → Hp → Prop} (r : Rep K M0 M ρ σ H) (hd : Dat K M H v d) (h : bindT t d ρ = some ρ') 
    (hQ : ∀ σ', Rep K M0 M ρ' σ' H → (∀ a, Ow ρ' σ' a → Ow ρ σ a) → L2.wipe σ' t.slots = L2.wipe σ t.slots → Q σ' H) : gTg K t v σ H Q := by
  cases t with
  | one i =>
    obtain ⟨r1, s1⟩ := r.setDat hd h
    exact hQ _ r1 s1 (wipe_set (by simp [Tg.slots]) _)
  | many is =>
    cases d with
    | tuple ds =>
      cases hd with
      | tup hr hq => exact ⟨_, _, rfl, hr, by rw [hq.length, ← setDs_len h], gTg_many r hq h (fun i hi => hi) hQ⟩
    | _ => cases h
end EV

end
section
set_option linter.all false
set_option maxRecDepth 100000
set_option Elab.async false
namespace EV
open PySem L2 PyProof.Rows
variable {Γ : Gam} {cl : Nat → List D → FRes} {X : Cx} {C : Ctx} {sc : Scope} {K : PySem.W.Frag} {M M' M0 M1 : AS} {H H' H1 : Hp} {σ : EV.St} {ρ ρ' ρ1 : Ro}
/-! ### list comprehensions -/
/-- the wish within a comprehension -/
def Ctx.calm (C : Ctx) : Ctx := { C with Wx := fun _ _ _ _ => False }
theorem takes_no {X : Cx} : Takes X (fun _ _ _ _ => False) := fun _ _ ⟨_, _, _, _, _, _, _, _, _, _, _, _, _, _, _, _, w⟩ => w.elim
theorem Lk.blk (L : Lk Γ cl X C sc) {scope : Scope} (hk : scope.kind = .function) (s : Shared) (H : Hp) (Cc : Addr) (cls : List (Str × Addr)) (fp : List Addr) : Lk Γ cl (X.blk s H scope (compEnvC scope cls Cc X.env) fp) C.calm (relS scope sc) where
  K := L.K
  N := L.N
  nd := L.nd
  calm := L.calm
  scope := by
    show relS scope X.env.scope = relS scope sc
    rw [L.scope]
  kind := hk
  room := L.room
  takes := takes_no
  bi := L.bi
  call := L.call
  glo := L.glo
theorem blk_kind {N : List Str} {scope : Scope} {own : List (Str × Nat)} (h : blkC N sc scope own = true) : scope.kind = .function := (blkOk_by h).kind
theorem own_snd (N : List Str) (is : List Nat) : (ownOf N is).map (·.2) = is := by
  unfold ownOf
  rw [List.map_map]
  exact List.map_id _
theorem relS_at {scope : Scope} {x : Str} {k : NameKind} (hk : k ≠ .free) (h : scope.names.lookup x = some k) : (relS scope sc).names.lookup x = some k := lookup_relS_keep hk h
theorem locC_of {scope : Scope} {x : Str} (h : locC scope x = true) : scope.names.lookup x = some .local ∨ scope.names.lookup x = some .cell := by
  unfold locC at h
  split at h
  · exact .inl (by assumption)
  · exact .inr (by assumption)
  · cases h
theorem pg_own (L : Lk Γ cl X C sc) {scope : Scope} (hk : scope.kind = .function) {i : Nat} {e : Expr} (h : nameC Γ.N scope i e = true) (s : Shared) (H : Hp) (Cc : Addr) (cls : List (Str × Addr)) (fp : List Addr) :
    PG (X.blk s H scope (compEnvC scope cls Cc X.env) fp) e (gName i) := by
  cases e with
  | Name x p =>
    have h : (decide (Γ.N[i]? = some x) && locC scope x) = true := h
    simp only [Bool.and_eq_true, decide_eq_true_eq] at h
    have LB := L.blk hk s H Cc cls fp
    refine pg_name (by rw [LB.N]; exact LB.nd) (by rw [LB.N]; exact h.1) ?_ ?_
    · rw [LB.scope]
      exact (locC_of h.2).imp (relS_at (by decide)) (relS_at (by decide))
    · rcases locC_of h.2 with q | q
      · right
        rw [LB.scope]
        exact relS_at (by decide) q
      · left
        show (scope.names.lookup x == some .cell) = true
        rw [q]; rfl
  | _ => exact nomatch h
theorem pgs_own (L : Lk Γ cl X C sc) {scope : Scope} (hk : scope.kind = .function) (s : Shared) (H : Hp) (Cc : Addr) (cls : List (Str × Addr)) (fp : List Addr) : ∀ (is : List Nat) (es : List Expr), namesC Γ.N scope is es = true →
    PGs (X.blk s H scope (compEnvC scope cls Cc X.env) fp) es (is.foldr (fun i u => gCons (gName i) u) gNil) ∧ (assignEach es (compEnvC scope cls Cc X.env)).length = is.length ∧ (assignEach es (compEnvC scope cls Cc X.env)).findIdx? (·.1) = none
  | [], [], _ => ⟨pgs_nil, rfl, rfl⟩
  | [], _ :: _, h => nomatch h
  | _ :: _, [], h => nomatch h
  | i :: is, e :: es, h => by
    have h : (nameC Γ.N scope i e && namesC Γ.N scope is es) = true := h
    rw [Bool.and_eq_true] at h
    obtain ⟨g1, g2, g3⟩ := pgs_own L hk s H Cc cls fp is es h.2
    cases e with
    | Name x p =>
      refine ⟨pgs_cons (pg_own L hk h.1 s H Cc cls fp) g1 rfl, ?_, ?_⟩
      · show (assignEach (Expr.Name x p :: es) _).length = _
        rw [show assignEach (Expr.Name x p :: es) (compEnvC scope cls Cc X.env) = (false, assign (Expr.Name x p) (compEnvC scope cls Cc X.env)) :: assignEach es (compEnvC scope cls Cc X.env) from rfl]
        simp [g2]
      · rw [show assignEach (Expr.Name x p :: es) (compEnvC scope cls Cc X.env) = (false, assign (Expr.Name x p) (compEnvC scope cls Cc X.env)) :: assignEach es (compEnvC scope cls Cc X.env) from rfl]
        rw [List.findIdx?_cons]
        simp [g3]
    | _ => exact nomatch h.1
theorem pg_tg (L : Lk Γ cl X C sc) {scope : Scope} (hk : scope.kind = .function) {t : Tg} {e : Expr} (h : tgC Γ.N scope t e = true) (s : Shared) (H : Hp) (Cc : Addr) (cls : List (Str × Addr)) (fp : List Addr) :
    PG (X.blk s H scope (compEnvC scope cls Cc X.env) fp) e (gTg C.K t) := by
  cases t with
  | one i => exact pg_own L hk h s H Cc cls fp
  | many is =>
    cases e with
    | Tuple es k p =>
      obtain ⟨g1, g2, g3⟩ := pgs_own L hk s H Cc cls fp is es h
      rw [← L.K]
      exact pg_tup (X := X.blk s H scope (compEnvC scope cls Cc X.env) fp) L.calm g1 g2 g3
    | _ => exact nomatch h
/-- a result that is known -/
theorem After.ok {α : Type} {q : Res (α × Ro)} {a : α} {k : AS → Hp → α → Ro → Prop} (e : q = .ok (a, ρ'))
    (f : ∀ M' H', Stp (Ow ρ σ) M H M' H' → Rep C.K C.M0 M' ρ' σ H' → (∀ a, Ow ρ' σ a → Ow ρ σ a) → k M' H' a ρ') : After C σ M H ρ q k := by
  rw [e]; exact f
/-- a list of one's own that is no slot's is changed -/
theorem Rep.touch {p : Addr} {us vs : List V} (r : Rep K M0 M ρ σ H) (hp : H p = some (.lst us)) (hm : M p) (hn : ¬ Ow ρ σ p) : Rep K M0 M ρ σ (upd H p (.lst vs)) ∧ Stp (fun a => a = p) M H M (upd H p (.lst vs)) ∧ OwL (fun a => a = p) M H := by
  have s : Stp (fun a => a = p) M H M (upd H p (.lst vs)) := by
    refine ⟨fun a o e n => by rw [upd_ne n]; exact e, fun a z => .inl z, fun a z _ => z, fun a o e => ?_⟩
    by_cases q : a = p
    · subst q; exact ⟨_, upd_same⟩
    · exact ⟨o, by rw [upd_ne q]; exact e⟩
  have w : OwL (fun a => a = p) M H := ⟨fun a z => z ▸ hm, fun a z => ⟨us, z ▸ hp⟩⟩
  refine ⟨⟨r.len, fun a z => ?_, r.sub, fun j d e => ?_, fun j t xs e l => ?_, r.own, r.io, r.inj⟩, s, w⟩
  · obtain ⟨o, e⟩ := r.dom a z
    exact s.there a o e
  · obtain ⟨v, h1, h2⟩ := r.dat j d e
    exact ⟨v, h1, h2.step w s⟩
  · obtain ⟨a, ws, h1, h2, h3, h4⟩ := r.lst j t xs e l
    have ne : a ≠ p := fun z => hn (by rw [← z]; exact ⟨j, t, xs, e, l, h1⟩)
    exact ⟨a, ws, h1, by rw [upd_ne ne]; exact h2, h3.step w s, h4⟩
/-- the slots of the block's own names forgotten again -/
theorem Rep.rewipe {is : List Nat} {σ' : EV.St} (r : Rep K M0 M ρ σ' H) (hw : L2.wipe σ' is = L2.wipe σ is) : Rep K M0 M (wipeR ρ is) (L2.wipe σ is) H ∧ ∀ a, Ow (wipeR ρ is) (L2.wipe σ is) a → Ow ρ σ' a := by
  rw [← hw]
  exact r.wipe is
theorem bind_not_stuck {α β : Type} {r : Res α} {f : α → Res β} (h : r.bind f ≠ .stuck) (h' : ∀ x ρ, r ≠ .exc x ρ) : ∃ a, r = .ok a ∧ f a ≠ .stuck := by
  cases r with
  | ok a => exact ⟨a, rfl, h⟩
  | exc x ρ => exact absurd rfl (h' x ρ)
  | stuck => exact absurd rfl h
theorem noExc_ne {α : Type} (r : Res α) (x : Exn) (ρ : Ro) : noExc r ≠ .exc x ρ := by cases r <;> exact fun z => nomatch z
theorem noExc_ok {α : Type} {r : Res α} {a : α} (h : noExc r = .ok a) : r = .ok a := by cases r <;> first | exact h | cases h
theorem of_ne {α : Type} (o : Option α) (x : Exn) (ρ : Ro) : Res.of o ≠ .exc x ρ := by cases o <;> exact fun z => nomatch z
theorem of_ok {α : Type} {o : Option α} {a : α} (h : Res.of o = .ok a) : o = some a := by cases o <;> cases h; rfl
theorem compL_noexc {bnd : D → Ro → Option Ro} {test : Ro → Res (Bool × Ro)} {elt : Ro → Res (D × Ro)} {is : List Nat} : ∀ (xs : List D) (ρ : Ro) (acc : List D) (x : Exn) (ρ' : Ro), compL bnd test elt is xs ρ acc ≠ .exc x ρ'
  | [], _, _, _, _ => fun z => nomatch z
  | d :: xs, ρ, acc, x, ρ' => by
    intro h
    unfold compL at h
    cases e1 : bnd d ρ with
    | none => rw [e1] at h; cases h
    | some ρ1 =>
      rw [e1] at h
      simp only [Res.of, Res.bind] at h
      split at h
      · split at h
        · split at h
          · exact compL_noexc xs _ _ x ρ' h
          · rename_i q; exact noExc_ne _ _ _ q
          · cases h
        · exact compL_noexc xs _ _ x ρ' h
      · rename_i q; exact noExc_ne _ _ _ q
      · cases h
theorem wipe_wipe {is : List Nat} : L2.wipe (L2.wipe σ is) is = L2.wipe σ is := by
  apply List.ext_getElem?
  intro j
  rw [wipe_get, wipe_get]
  split
  · cases σ[j]? <;> rfl
  · rfl
/-- the turns of a comprehension -/
theorem comp_turns {t : Tg} {J : L2.It} {items : List D} {test : Ro → Res (Bool × Ro)} {elt : Ro → Res (D × Ro)} {Dd : Addr} {Qd : Hp → Prop}
    (r1 : Rep C.K C.M0 M1 ρ1 σ H1) (hJ : ItR C.K M1 H1 J items) (hD : H1 Dd = none) (hz : items.length ≤ sizeLine)
    (hne : compL (bindT t) test elt t.slots items (wipeR ρ1 t.slots) [] ≠ .stuck)
    (hend : ∀ M H' ρ acc vacc, compL (bindT t) test elt t.slots items (wipeR ρ1 t.slots) [] = .ok (acc, ρ) → Rep C.K C.M0 M ρ (L2.wipe σ t.slots) H' → Stp (Ow (wipeR ρ1 t.slots) (L2.wipe σ t.slots)) M1 H1 M H' → (∀ a, Ow ρ (L2.wipe σ t.slots) a → Ow (wipeR ρ1 t.slots) (L2.wipe σ t.slots) a) →
      H' Dd = some (.lst vacc) → DatA C.K M H' vacc acc → M Dd → Qd H') :
    ∃ W : Nat → Nat → Hp → Prop, (∃ m, W 0 m (upd H1 Dd (.lst []))) ∧ ∀ i m H, W i m H →
      (J.stop i H ∧ Qd H) ∨ (J.go i H ∧ ∃ Nx : Hp → Prop, (∀ H', Nx H' → ∃ m', m' < m ∧ W (i + 1) m' H') ∧ ∀ x H', J.yld i H x H' → gTg C.K t x (L2.wipe σ t.slots) H' fun σ2 H2 => L2.wipe σ2 t.slots = L2.wipe σ t.slots ∧ tT C.calm test σ2 H2 fun b H3 =>
        if b = true then tD C.calm elt σ2 H3 fun y H4 => ∃ acc, H4 Dd = some (.lst acc) ∧ acc.length < sizeLine ∧ Nx (upd H4 Dd (.lst (acc ++ [y]))) else Nx H3) := by
  obtain ⟨n, G, Y, hn, wk, hG, hY⟩ := hJ
  obtain ⟨rb, sb⟩ := r1.wipe t.slots
  obtain ⟨fD1, fD2, fD3⟩ := r1.fresh hD
  have owb := rb.owl
  have nD : ¬ Ow (wipeR ρ1 t.slots) (L2.wipe σ t.slots) Dd := fun z => fD3 (sb Dd z)
  have wv : L2.wipe (L2.wipe σ t.slots) t.slots = L2.wipe σ t.slots := wipe_wipe
  generalize htot : compL (bindT t) test elt t.slots items (wipeR ρ1 t.slots) [] = tot at hne hend
  refine lc_it wk (σ := σ) (vs := t.slots) (fun i H' => ∃ M ρ acc vacc, Rep C.K C.M0 M ρ (L2.wipe σ t.slots) H' ∧ Stp (Ow (wipeR ρ1 t.slots) (L2.wipe σ t.slots)) M1 H1 M H' ∧ (∀ a, Ow ρ (L2.wipe σ t.slots) a → Ow (wipeR ρ1 t.slots) (L2.wipe σ t.slots) a) ∧
    H' Dd = some (.lst vacc) ∧ DatA C.K M H' vacc acc ∧ M Dd ∧ acc.length ≤ i ∧ tot = compL (bindT t) test elt t.slots (items.drop i) ρ acc) ?_ ?_ ?_ ?_
  · exact ⟨fun a => M1 a ∨ a = Dd, wipeR ρ1 t.slots, [], [], rb.step0 (.lnew hD), (Stp0.lnew hD).stp, fun _ z => z, upd_same, .nil, .inr rfl, Nat.le_refl _, by rw [List.drop_zero, htot]⟩
  · rintro i H' hi ⟨M, ρ, acc, vacc, r, s, hs, _⟩
    exact hG _ M H' owb s
  · rintro i x H' H2 hi ⟨M, ρ, acc, vacc, r, s, hs, hDl, hDd, hDm, hlen, htt⟩ hy
    rw [hn] at hi
    obtain ⟨s0, d, hd1, hd2⟩ := hY _ M H' i x H2 owb s hi hy
    have hdrop : items.drop i = d :: items.drop (i + 1) := by
      rw [List.drop_eq_getElem_cons hi]
      rw [List.getElem?_eq_getElem hi] at hd1
      cases hd1
      rfl
    rw [hdrop] at htt
    unfold compL at htt
    rw [htt] at hne
    obtain ⟨ρ2, e2, hne2⟩ := bind_not_stuck hne (of_ne _)
    have r2 := r.step0 s0
    have hlt : acc.length < sizeLine := by omega
    refine gTg_read r2 hd2 (of_ok e2) fun σ3 r3 hs3 hw3 => ⟨hw3.trans wv, ?_⟩
    obtain ⟨⟨b, ρ4⟩, e4, hne4⟩ := bind_not_stuck hne2 (noExc_ne _)
    rw [e2] at htt
    simp only [Res.bind] at htt hne4
    rw [e4] at htt
    simp only at htt
    refine ⟨M, ρ2, r3, After.ok (noExc_ok e4) fun M4 H4 s4 r4 hs4 => ?_⟩
    -- the list so far, behind the test
    have sA : Stp (Ow (wipeR ρ1 t.slots) (L2.wipe σ t.slots)) M1 H1 M4 H4 := (s.trans (fun _ z => z) s0.stp).trans (fun a z => hs a (hs3 a z)) s4
    have nD2 : ¬ Ow ρ2 σ3 Dd := fun z => nD (hs Dd (hs3 Dd z))
    have hD4 : H4 Dd = some (.lst vacc) := s4.keep Dd _ (s0.keep _ _ hDl) nD2
    have hM4 : M4 Dd := s4.old Dd hDm nD2
    have hd4 : DatA C.K M4 H4 vacc acc := (hDd.step0 s0).step r3.owl s4
    cases b with
    | false =>
      show ite (false = true) _ _
      rw [if_neg Bool.false_ne_true]
      rw [if_neg Bool.false_ne_true] at htt
      obtain ⟨r5, s5⟩ := r4.rewipe (hw3.trans wv)
      exact ⟨M4, _, acc, vacc, r5, sA, fun a z => hs a (hs3 a (hs4 a (s5 a z))), hD4, hd4, hM4, by omega, htt⟩
    | true =>
      show ite (true = true) _ _
      rw [if_pos rfl]
      rw [if_pos rfl] at htt hne4
      obtain ⟨⟨dd, ρ5⟩, e5, hne5⟩ := bind_not_stuck hne4 (noExc_ne _)
      rw [e5] at htt
      simp only [Res.bind] at htt
      refine ⟨M4, ρ4, r4, After.ok (noExc_ok e5) fun M5 H5 s5 r5 hs5 y hy => ?_⟩
      have nD4 : ¬ Ow ρ4 σ3 Dd := fun z => nD2 (hs4 Dd z)
      have hD5 : H5 Dd = some (.lst vacc) := s5.keep Dd _ hD4 nD4
      have hM5 : M5 Dd := s5.old Dd hM4 nD4
      have hd5 : DatA C.K M5 H5 vacc acc := hd4.step r4.owl s5
      have nD5 : ¬ Ow ρ5 σ3 Dd := fun z => nD4 (hs5 Dd z)
      obtain ⟨r6, s6, w6⟩ := r5.touch (vs := vacc ++ [y]) hD5 hM5 nD5
      obtain ⟨r7, s7⟩ := r6.rewipe (hw3.trans wv)
      refine ⟨vacc, hD5, by rw [hd5.length]; exact hlt, M5, _, acc ++ [dd], vacc ++ [y], r7, ?_, fun a z => hs a (hs3 a (hs4 a (hs5 a (s7 a z)))), upd_same, ?_, hM5, by simp; omega, htt⟩
      · have sB := sA.trans (O' := Ow ρ4 σ3) (fun a z => hs a (hs3 a (hs4 a z))) s5
        refine ⟨fun a o e n => ?_, sB.new, sB.old, fun a o e => ?_⟩
        · rw [upd_ne (fun z => by rw [z, hD] at e; cases e)]
          exact sB.keep a o e n
        · obtain ⟨o', e'⟩ := sB.there a o e
          exact s6.there a o' e'
      · exact (hd5.append (.cons hy .nil)).step w6 s6
  · rintro H' ⟨M, ρ, acc, vacc, r, s, hs, hDl, hDd, hDm, hlen, htt⟩
    rw [hn, List.drop_length] at htt
    exact hend M H' ρ acc vacc htt r s hs hDl hDd hDm
theorem test_pts {c : Eo} {ifs : List Expr} (hc : ∀ e, c = .yes e → SE Γ cl e) (L : Lk Γ cl X C sc) (h : okC Γ c sc ifs = true) : PTs X ifs (tT C (evC Γ.F cl c)) := by
  cases c with
  | no =>
    match ifs with
    | [] => exact ⟨fun pins s σ H Q I ⟨M, ρ, r, q⟩ => pts_nil.run pins s σ H Q I (After.now (a := true) r q)⟩
    | _ :: _ => exact nomatch h
  | yes e =>
    match ifs with
    | [x] => exact pts_one ((hc e rfl).pt X C sc x L h)
    | [] => exact nomatch h
    | _ :: _ :: _ => exact nomatch h
theorem comp_read {t : Tg} {it : It} {c : Eo} {e : E} {Q : VK} (hit : SIt Γ cl it) (hc : ∀ e, c = .yes e → SE Γ cl e) (he : SE Γ cl e) (h : tW C (evG Γ cl (.comp t it c e)) σ H Q) :
    tLc (tIt C (evIt Γ.F cl it)) (gTg C.K t) (tT C.calm (evC Γ.F cl c)) (tD C.calm (datOf (evG Γ cl e))) t.slots σ H Q := by
  obtain ⟨M, ρ, r, q⟩ := h
  refine ⟨M, ρ, r, (After.bind q).mono fun M1 H1 items ρ1 s1 r1 hs1 q1 J hJ hz Dd hD => ?_⟩
  have q1 : After C σ M1 H1 ρ1 ((compL (bindT t) (evC Γ.F cl c) (datOf (evG Γ cl e)) t.slots items (wipeR ρ1 t.slots) []).bind fun q => .ok (W.new q.1, backR ρ1 q.2 t.slots)) _ := q1
  refine comp_turns r1 hJ hD hz (fun z => ?_) fun M2 H2 ρ2 acc vacc e2 r2 s2 hs2 hDl hDd hDm => ?_
  · rw [z] at q1
    exact q1
  · rw [e2] at q1
    obtain ⟨rb, sb⟩ := r1.wipe t.slots
    obtain ⟨r3, s3⟩ := Rep.back r1 s2 hs2 r2
    refine q1 M2 H2 (s2.wide sb) r3 s3 (.ref Dd) ⟨Dd, vacc, rfl, ?_, hDl, hDd, hDm⟩
    cases qd : H Dd with
    | none => rfl
    | some o => obtain ⟨o', e'⟩ := s1.there Dd o qd; rw [hD] at e'; cases e'
theorem se_comp {t : Tg} {it : It} {c : Eo} {e : E} (hit : SIt Γ cl it) (hc : ∀ e, c = .yes e → SE Γ cl e) (he : SE Γ cl e) : SE Γ cl (.comp t it c e) := by
  refine ⟨fun X C sc x L h => ?_, fun X C sc x L h => by cases x <;> exact nomatch h⟩
  cases x with
  | ListComp elt gens scope pos =>
    match gens with
    | [⟨tg, iter, ifs, 0⟩] =>
      have h : (okIt Γ it sc iter (isTuple tg) && tgC Γ.N scope t tg && okC Γ c (relS scope sc) ifs && okE Γ e (relS scope sc) elt && blkC Γ.N sc scope (ownOf Γ.N t.slots)) = true := h
      simp only [Bool.and_eq_true] at h
      obtain ⟨⟨⟨⟨h1, h2⟩, h3⟩, h4⟩, h5⟩ := h
      have hk := blk_kind h5
      have ok : BlkOk X.N X.env.scope scope (ownOf Γ.N t.slots) := by rw [L.N, L.scope]; exact blkOk_by h5
      have rule := pe_lc (pos := pos) L.calm (by rw [L.N]; exact L.nd) (hit.pi X C sc tg iter L h1) ok (fun s H Cc cls fp => pg_tg L hk h2 s H Cc cls fp)
        (fun s H Cc cls fp => test_pts hc (L.blk hk s H Cc cls fp) h3) (fun s H Cc cls fp => tD_of (he.pe _ _ _ elt (L.blk hk s H Cc cls fp) h4)) (folded h1 X.env)
      refine PE_imp rule fun σ H Q q => ?_
      rw [own_snd]
      exact comp_read hit hc he q
    | [] => exact nomatch h
    | [⟨_, _, _, .ofNat (_ + 1)⟩] => exact nomatch h
    | [⟨_, _, _, .negSucc _⟩] => exact nomatch h
    | ⟨_, _, _, .ofNat 0⟩ :: _ :: _ => exact nomatch h
    | ⟨_, _, _, .ofNat (_ + 1)⟩ :: _ :: _ => exact nomatch h
    | ⟨_, _, _, .negSucc _⟩ :: _ :: _ => exact nomatch h
  | _ => exact nomatch h
end EV

end
section
set_option linter.all false
set_option maxRecDepth 100000
set_option Elab.async false
namespace EV
open PySem L2 PyProof.Rows
variable {Γ : Gam} {cl : Nat → List D → FRes} {X : Cx} {C : Ctx} {sc : Scope} {K : PySem.W.Frag} {M M' M0 M1 : AS} {H H' H1 : Hp} {σ : EV.St} {ρ ρ' ρ1 : Ro}
/-! ### comprehensions with two fors -/
theorem compL_len {bnd : D → Ro → Option Ro} {test : Ro → Res (Bool × Ro)} {elt : Ro → Res (D × Ro)} {is : List Nat} : ∀ (xs : List D) (ρ : Ro) (acc acc' : List D) (ρ' : Ro), compL bnd test elt is xs ρ acc = .ok (acc', ρ') → acc.length ≤ acc'.length
  | [], ρ, acc, acc', ρ', h => by cases h; exact Nat.le_refl _
  | x :: xs, ρ, acc, acc', ρ', h => by
    unfold compL at h
    obtain ⟨ρ1, h1, h⟩ := bind_ok h
    obtain ⟨⟨b, ρ2⟩, h2, h⟩ := bind_ok h
    cases b with
    | true =>
      rw [if_pos rfl] at h
      obtain ⟨⟨d, ρ3⟩, h3, h⟩ := bind_ok h
      have := compL_len xs _ _ _ _ h
      simp at this
      omega
    | false =>
      rw [if_neg Bool.false_ne_true] at h
      exact compL_len xs _ _ _ _ h
/-- the turns of the inner for: the list is there already -/
theorem comp_turnsG {t : Tg} {J : L2.It} {items : List D} {test : Ro → Res (Bool × Ro)} {elt : Ro → Res (D × Ro)} {Dd : Addr} {Qd : Hp → Prop} {acc0 : List D} {vacc0 : List V}
    (r1 : Rep C.K C.M0 M1 ρ1 σ H1) (hJ : ItR C.K M1 H1 J items) (hD : H1 Dd = some (.lst vacc0)) (hDa : DatA C.K M1 H1 vacc0 acc0) (hDM : M1 Dd) (hDn : ¬ Ow ρ1 σ Dd)
    (hz : ∀ acc ρ, compL (bindT t) test elt t.slots items (wipeR ρ1 t.slots) acc0 = .ok (acc, ρ) → acc.length ≤ sizeLine)
    (hne : compL (bindT t) test elt t.slots items (wipeR ρ1 t.slots) acc0 ≠ .stuck)
    (hend : ∀ M H' ρ acc vacc, compL (bindT t) test elt t.slots items (wipeR ρ1 t.slots) acc0 = .ok (acc, ρ) → Rep C.K C.M0 M ρ (L2.wipe σ t.slots) H' → Stp (fun a => Ow ρ1 σ a ∨ a = Dd) M1 H1 M H' → (∀ a, Ow ρ (L2.wipe σ t.slots) a → Ow (wipeR ρ1 t.slots) (L2.wipe σ t.slots) a) →
      H' Dd = some (.lst vacc) → DatA C.K M H' vacc acc → M Dd → Qd H') :
    ∃ W : Nat → Nat → Hp → Prop, (∃ m, W 0 m H1) ∧ ∀ i m H, W i m H →
      (J.stop i H ∧ Qd H) ∨ (J.go i H ∧ ∃ Nx : Hp → Prop, (∀ H', Nx H' → ∃ m', m' < m ∧ W (i + 1) m' H') ∧ ∀ x H', J.yld i H x H' → gTg C.K t x (L2.wipe σ t.slots) H' fun σ2 H2 => L2.wipe σ2 t.slots = L2.wipe σ t.slots ∧ tT C.calm test σ2 H2 fun b H3 =>
        if b = true then tD C.calm elt σ2 H3 fun y H4 => ∃ acc, H4 Dd = some (.lst acc) ∧ acc.length < sizeLine ∧ Nx (upd H4 Dd (.lst (acc ++ [y]))) else Nx H3) := by
  obtain ⟨n, G, Y, hn, wk, hG, hY⟩ := hJ
  obtain ⟨rb, sb⟩ := r1.wipe t.slots
  have owb : OwL (fun a => Ow ρ1 σ a ∨ a = Dd) M1 H1 := ⟨fun a z => z.elim (r1.owl.sub a) fun e => e ▸ hDM, fun a z => z.elim (r1.owl.lst a) fun e => e ▸ ⟨_, hD⟩⟩
  have nD : ¬ Ow (wipeR ρ1 t.slots) (L2.wipe σ t.slots) Dd := fun z => hDn (sb Dd z)
  have wv : L2.wipe (L2.wipe σ t.slots) t.slots = L2.wipe σ t.slots := wipe_wipe
  generalize htot : compL (bindT t) test elt t.slots items (wipeR ρ1 t.slots) acc0 = tot at hne hend hz
  let Pv : Nat → Hp → Prop := fun i H' => ∃ M ρ acc vacc, Rep C.K C.M0 M ρ (L2.wipe σ t.slots) H' ∧ Stp (fun a => Ow ρ1 σ a ∨ a = Dd) M1 H1 M H' ∧ (∀ a, Ow ρ (L2.wipe σ t.slots) a → Ow (wipeR ρ1 t.slots) (L2.wipe σ t.slots) a) ∧
    H' Dd = some (.lst vacc) ∧ DatA C.K M H' vacc acc ∧ M Dd ∧ tot = compL (bindT t) test elt t.slots (items.drop i) ρ acc
  have h0 : Pv 0 H1 := ⟨M1, _, acc0, vacc0, rb, .refl, fun _ z => z, hD, hDa, hDM, by rw [List.drop_zero, htot]⟩
  have hGv : ∀ i H', Pv i H' → G H' := fun i H' ⟨M, ρ, acc, vacc, r, s, _⟩ => hG _ M H' owb s
  refine ⟨fun i m H => m = n - i ∧ i ≤ n ∧ Pv i H, ⟨n, by simp, Nat.zero_le _, h0⟩, ?_⟩
  rintro i m H' ⟨rfl, hi, hp⟩
  have q := hGv i H' hp
  by_cases hlt : i < n
  · refine .inr ⟨wk.goes i H' hlt q, Pv (i + 1), fun H2 p2 => ⟨n - (i + 1), by omega, rfl, hlt, p2⟩, fun x H2 y => ?_⟩
    have hy := wk.yields i H' x H2 hlt q y
    obtain ⟨M, ρ, acc, vacc, r, s, hs, hDl, hDd, hDm, htt⟩ := hp
    rw [hn] at hlt
    obtain ⟨s0, d, hd1, hd2⟩ := hY _ M H' i x H2 owb s hlt hy
    have hdrop : items.drop i = d :: items.drop (i + 1) := by
      rw [List.drop_eq_getElem_cons hlt]
      rw [List.getElem?_eq_getElem hlt] at hd1
      cases hd1
      rfl
    rw [hdrop] at htt
    unfold compL at htt
    rw [htt] at hne
    obtain ⟨ρ2, e2, hne2⟩ := bind_not_stuck hne (of_ne _)
    have r2 := r.step0 s0
    refine gTg_read r2 hd2 (of_ok e2) fun σ3 r3 hs3 hw3 => ⟨hw3.trans wv, ?_⟩
    obtain ⟨⟨b, ρ4⟩, e4, hne4⟩ := bind_not_stuck hne2 (noExc_ne _)
    rw [e2] at htt
    simp only [Res.bind] at htt hne4
    rw [e4] at htt
    simp only at htt
    refine ⟨M, ρ2, r3, After.ok (noExc_ok e4) fun M4 H4 s4 r4 hs4 => ?_⟩
    have sA : Stp (fun a => Ow ρ1 σ a ∨ a = Dd) M1 H1 M4 H4 := (s.trans (O' := fun _ => False) (fun _ z => z.elim) s0.stp).trans (fun a z => .inl (sb a (hs a (hs3 a z)))) s4
    have nD2 : ¬ Ow ρ2 σ3 Dd := fun z => nD (hs Dd (hs3 Dd z))
    have hD4 : H4 Dd = some (.lst vacc) := s4.keep Dd _ (s0.keep _ _ hDl) nD2
    have hM4 : M4 Dd := s4.old Dd hDm nD2
    have hd4 : DatA C.K M4 H4 vacc acc := (hDd.step0 s0).step r3.owl s4
    cases b with
    | false =>
      show ite (false = true) _ _
      rw [if_neg Bool.false_ne_true]
      rw [if_neg Bool.false_ne_true] at htt
      obtain ⟨r5, s5⟩ := r4.rewipe (hw3.trans wv)
      exact ⟨M4, _, acc, vacc, r5, sA, fun a z => hs a (hs3 a (hs4 a (s5 a z))), hD4, hd4, hM4, htt⟩
    | true =>
      show ite (true = true) _ _
      rw [if_pos rfl]
      rw [if_pos rfl] at htt hne4
      obtain ⟨⟨dd, ρ5⟩, e5, hne5⟩ := bind_not_stuck hne4 (noExc_ne _)
      rw [e5] at htt
      simp only [Res.bind] at htt
      have hlen : acc.length < sizeLine := by
        cases hr : tot with
        | ok p =>
          rw [hr] at htt
          have l1 := compL_len _ _ _ _ _ htt.symm
          have l2 := hz p.1 p.2 hr
          simp at l1
          omega
        | exc x ρ' => rw [hr] at htt; exact (compL_noexc _ _ _ _ _ htt.symm).elim
        | stuck => rw [← htt] at hne5; exact (hne5 hr).elim
      refine ⟨M4, ρ4, r4, After.ok (noExc_ok e5) fun M5 H5 s5 r5 hs5 y hy => ?_⟩
      have nD4 : ¬ Ow ρ4 σ3 Dd := fun z => nD2 (hs4 Dd z)
      have hD5 : H5 Dd = some (.lst vacc) := s5.keep Dd _ hD4 nD4
      have hM5 : M5 Dd := s5.old Dd hM4 nD4
      have hd5 : DatA C.K M5 H5 vacc acc := hd4.step r4.owl s5
      have nD5 : ¬ Ow ρ5 σ3 Dd := fun z => nD4 (hs5 Dd z)
      obtain ⟨r6, s6, w6⟩ := r5.touch (vs := vacc ++ [y]) hD5 hM5 nD5
      obtain ⟨r7, s7⟩ := r6.rewipe (hw3.trans wv)
      refine ⟨vacc, hD5, by rw [hd5.length]; exact hlen, M5, _, acc ++ [dd], vacc ++ [y], r7, ?_, fun a z => hs a (hs3 a (hs4 a (hs5 a (s7 a z)))), upd_same, ?_, hM5, htt⟩
      · have sB := sA.trans (O' := Ow ρ4 σ3) (fun a z => .inl (sb a (hs a (hs3 a (hs4 a z))))) s5
        exact sB.trans (O' := fun a => a = Dd) (fun a z => .inr z) s6
      · exact (hd5.append (.cons hy .nil)).step w6 s6
  · have e : i = n := by omega
    subst e
    refine .inl ⟨wk.stops H' q, ?_⟩
    obtain ⟨M, ρ, acc, vacc, r, s, hs, hDl, hDd, hDm, htt⟩ := hp
    rw [hn, List.drop_length] at htt
    exact hend M H' ρ acc vacc htt r s hs hDl hDd hDm
theorem wipe_sub {σ : EV.St} {is js : List Nat} (h : ∀ i ∈ js, i ∈ is) : L2.wipe (L2.wipe σ js) is = L2.wipe σ is := by
  apply List.ext_getElem?
  intro j
  rw [wipe_get, wipe_get]
  split
  · rw [wipe_get]
    split
    · cases σ[j]? <;> rfl
    · rfl
  · rename_i hj
    rw [wipe_get, if_neg fun z => hj (h j z), if_neg hj]
abbrev inL (Γ : Gam) (cl : Nat → List D → FRes) (t' : Tg) (it' : It) (c' : Eo) (e : E) (ρ1 : Ro) (acc : List D) : Res (List D × Ro) :=
  (evIt Γ.F cl it' ρ1).bind fun q => compL (bindT t') (evC Γ.F cl c') (datOf (evG Γ cl e)) t'.slots q.1 (wipeR q.2 t'.slots) acc
theorem compL2_len {bnd : D → Ro → Option Ro} {test : Ro → Res (Bool × Ro)} {t' : Tg} {it' : It} {c' : Eo} {e : E} {is : List Nat} : ∀ (xs : List D) (ρ : Ro) (acc acc' : List D) (ρ' : Ro), compL2 bnd test (inL Γ cl t' it' c' e) is xs ρ acc = .ok (acc', ρ') → acc.length ≤ acc'.length
  | [], ρ, acc, acc', ρ', h => by cases h; exact Nat.le_refl _
  | x :: xs, ρ, acc, acc', ρ', h => by
    unfold compL2 at h
    obtain ⟨ρ1, h1, h⟩ := bind_ok h
    obtain ⟨⟨b, ρ2⟩, h2, h⟩ := bind_ok h
    cases b with
    | true =>
      rw [if_pos rfl] at h
      obtain ⟨⟨d, ρ3⟩, h3, h⟩ := bind_ok h
      have l1 := compL2_len xs _ _ _ _ h
      obtain ⟨⟨its, ρ4⟩, h4, h5⟩ := bind_ok (noExc_ok h3)
      have l2 := compL_len _ _ _ _ _ h5
      dsimp only at l1
      omega
    | false =>
      rw [if_neg Bool.false_ne_true] at h
      exact compL2_len xs _ _ _ _ h
theorem compL2_noexc {bnd : D → Ro → Option Ro} {test : Ro → Res (Bool × Ro)} {inner : Ro → List D → Res (List D × Ro)} {is : List Nat} : ∀ (xs : List D) (ρ : Ro) (acc : List D) (x : Exn) (ρ' : Ro), compL2 bnd test inner is xs ρ acc ≠ .exc x ρ'
  | [], _, _, _, _ => fun z => nomatch z
  | d :: xs, ρ, acc, x, ρ' => by
    intro h
    unfold compL2 at h
    cases e1 : bnd d ρ with
    | none => rw [e1] at h; cases h
    | some ρ1 =>
      rw [e1] at h
      simp only [Res.of, Res.bind] at h
      split at h
      · split at h
        · split at h
          · exact compL2_noexc xs _ _ x ρ' h
          · rename_i q; exact noExc_ne _ _ _ q
          · cases h
        · exact compL2_noexc xs _ _ x ρ' h
      · rename_i q; exact noExc_ne _ _ _ q
      · cases h
theorem comp2_read {t t' : Tg} {it it' : It} {c c' : Eo} {e : E} {Q : VK} (h : tW C (evG Γ cl (.comp2 t it c t' it' c' e)) σ H Q) :
    tLc2 (tIt C (evIt Γ.F cl it)) (gTg C.K t) (tT C.calm (evC Γ.F cl c)) (tIt C.calm (evIt Γ.F cl it')) (gTg C.K t') (tT C.calm (evC Γ.F cl c')) (tD C.calm (datOf (evG Γ cl e))) (t.slots ++ t'.slots) t'.slots σ H Q := by
  obtain ⟨M, ρ, r, q⟩ := h
  refine ⟨M, ρ, r, (After.bind q).mono fun M1 H1 items ρ1 s1 r1 hs1 q1 J hJ hz Dd hD => ?_⟩
  have q1 : After C σ M1 H1 ρ1 ((compL2 (bindT t) (evC Γ.F cl c) (inL Γ cl t' it' c' e) (t.slots ++ t'.slots) items (wipeR ρ1 (t.slots ++ t'.slots)) []).bind fun q => if q.1.length ≤ sizeLine then .ok (W.new q.1, backR ρ1 q.2 (t.slots ++ t'.slots)) else .stuck) _ := q1
  generalize hvs : t.slots ++ t'.slots = vs at *
  have sub : ∀ i ∈ t.slots, i ∈ vs := fun i hi => by rw [← hvs]; exact List.mem_append_left _ hi
  have sub' : ∀ i ∈ t'.slots, i ∈ vs := fun i hi => by rw [← hvs]; exact List.mem_append_right _ hi
  obtain ⟨n, G, Y, hn, wk, hG, hY⟩ := hJ
  obtain ⟨rb, sb⟩ := r1.wipe vs
  obtain ⟨fD1, fD2, fD3⟩ := r1.fresh hD
  have owb := rb.owl
  have nD : ¬ Ow (wipeR ρ1 vs) (L2.wipe σ vs) Dd := fun z => fD3 (sb Dd z)
  have wv : L2.wipe (L2.wipe σ vs) vs = L2.wipe σ vs := wipe_wipe
  generalize htot : compL2 (bindT t) (evC Γ.F cl c) (inL Γ cl t' it' c' e) vs items (wipeR ρ1 vs) [] = tot at q1
  cases tot with
  | stuck => exact q1.elim
  | exc x ρ' => exact (compL2_noexc _ _ _ _ _ htot).elim
  | ok p =>
    obtain ⟨accF, ρF⟩ := p
    have q1 : After C σ M1 H1 ρ1 (if accF.length ≤ sizeLine then .ok (W.new accF, backR ρ1 ρF vs) else .stuck) _ := q1
    split at q1
    case isFalse => exact q1.elim
    rename_i hsz
    let Pv : Nat → Hp → Prop := fun i H' => ∃ M ρ acc vacc, Rep C.K C.M0 M ρ (L2.wipe σ vs) H' ∧ Stp (Ow (wipeR ρ1 vs) (L2.wipe σ vs)) M1 H1 M H' ∧ (∀ a, Ow ρ (L2.wipe σ vs) a → Ow (wipeR ρ1 vs) (L2.wipe σ vs) a) ∧
      H' Dd = some (.lst vacc) ∧ DatA C.K M H' vacc acc ∧ M Dd ∧ compL2 (bindT t) (evC Γ.F cl c) (inL Γ cl t' it' c' e) vs (items.drop i) ρ acc = .ok (accF, ρF)
    have h0 : Pv 0 (upd H1 Dd (.lst [])) := ⟨fun a => M1 a ∨ a = Dd, _, [], [], rb.step0 (.lnew hD), (Stp0.lnew hD).stp, fun _ z => z, upd_same, .nil, .inr rfl, by rw [List.drop_zero, htot]⟩
    have hGv : ∀ i H', Pv i H' → G H' := fun i H' ⟨M, ρ, acc, vacc, r, s, _⟩ => hG _ M H' owb s
    refine ⟨fun i m H => m = n - i ∧ i ≤ n ∧ Pv i H, ⟨n, by simp, Nat.zero_le _, h0⟩, ?_⟩
    rintro i m H' ⟨rfl, hi, hp⟩
    have qg := hGv i H' hp
    by_cases hlt : i < n
    · refine .inr ⟨wk.goes i H' hlt qg, Pv (i + 1), fun H2 p2 => ⟨n - (i + 1), by omega, rfl, hlt, p2⟩, fun x H2 y => ?_⟩
      have hy := wk.yields i H' x H2 hlt qg y
      obtain ⟨M, ρ, acc, vacc, r, s, hs, hDl, hDd, hDm, htt⟩ := hp
      rw [hn] at hlt
      obtain ⟨s0, d, hd1, hd2⟩ := hY _ M H' i x H2 owb s hlt hy
      have hdrop : items.drop i = d :: items.drop (i + 1) := by
        rw [List.drop_eq_getElem_cons hlt]
        rw [List.getElem?_eq_getElem hlt] at hd1
        cases hd1
        rfl
      rw [hdrop] at htt
      unfold compL2 at htt
      obtain ⟨ρ2, e2, htt⟩ := bind_ok htt
      obtain ⟨⟨b, ρ4⟩, e4, htt⟩ := bind_ok htt
      have r2 := r.step0 s0
      refine gTg_read r2 hd2 (of_ok e2) fun σ3 r3 hs3 hw3 => ?_
      have hw3' : L2.wipe σ3 vs = L2.wipe σ vs := by
        rw [← wipe_sub sub, hw3, wipe_sub sub, wv]
      refine ⟨hw3', M, ρ2, r3, After.ok (noExc_ok e4) fun M4 H4 s4 r4 hs4 => ?_⟩
      have sA : Stp (Ow (wipeR ρ1 vs) (L2.wipe σ vs)) M1 H1 M4 H4 := (s.trans (fun _ z => z) s0.stp).trans (fun a z => hs a (hs3 a z)) s4
      have nD2 : ¬ Ow ρ2 σ3 Dd := fun z => nD (hs Dd (hs3 Dd z))
      have hD4 : H4 Dd = some (.lst vacc) := s4.keep Dd _ (s0.keep _ _ hDl) nD2
      have hM4 : M4 Dd := s4.old Dd hDm nD2
      have hd4 : DatA C.K M4 H4 vacc acc := (hDd.step0 s0).step r3.owl s4
      cases b with
      | false =>
        show ite (false = true) _ _
        rw [if_neg Bool.false_ne_true]
        rw [if_neg Bool.false_ne_true] at htt
        obtain ⟨r5, s5⟩ := r4.rewipe hw3'
        exact ⟨M4, _, acc, vacc, r5, sA, fun a z => hs a (hs3 a (hs4 a (s5 a z))), hD4, hd4, hM4, htt⟩
      | true =>
        show ite (true = true) _ _
        rw [if_pos rfl]
        rw [if_pos rfl] at htt
        obtain ⟨⟨acc6, ρ6⟩, e6, htt⟩ := bind_ok htt
        obtain ⟨⟨items5, ρ5⟩, e5, e6'⟩ := bind_ok (noExc_ok e6)
        refine ⟨M4, ρ4, r4, After.ok e5 fun M5 H5 s5 r5 hs5 J1 hJ1 hz1 => ?_⟩
        have nD4 : ¬ Ow ρ4 σ3 Dd := fun z => nD2 (hs4 Dd z)
        have nD5 : ¬ Ow ρ5 σ3 Dd := fun z => nD4 (hs5 Dd z)
        have hlF := compL2_len _ _ _ _ _ htt
        refine comp_turnsG (C := C) r5 hJ1 (s5.keep Dd _ hD4 nD4) (hd4.step r4.owl s5) (s5.old Dd hM4 nD4) nD5 (fun acc' ρ' z => ?_) (fun z => ?_) fun M7 H7 ρ7 acc7 vacc7 e7 r7 s7 hs7 hD7 hd7 hM7 => ?_
        · rw [z] at e6'
          cases e6'
          dsimp only at hlF
          omega
        · rw [z] at e6'; cases e6'
        · rw [e7] at e6'
          cases e6'
          have ww : L2.wipe (L2.wipe σ3 t'.slots) vs = L2.wipe σ vs := by rw [wipe_sub sub', hw3']
          obtain ⟨r8, s8⟩ := r7.rewipe ww
          obtain ⟨_, sb5⟩ := r5.wipe t'.slots
          have toB : ∀ a, Ow ρ5 σ3 a → Ow (wipeR ρ1 vs) (L2.wipe σ vs) a := fun a z => hs a (hs3 a (hs4 a (hs5 a z)))
          have sB := sA.trans (O' := Ow ρ4 σ3) (fun a z => hs a (hs3 a (hs4 a z))) s5
          refine ⟨M7, _, _, vacc7, r8, ?_, fun a z => toB a (sb5 a (hs7 a (s8 a z))), hD7, hd7, hM7, htt⟩
          refine ⟨fun a o ea na => ?_, fun a z => ?_, fun a z na => ?_, fun a o ea => ?_⟩
          · have ne : a ≠ Dd := fun z => by rw [z, hD] at ea; cases ea
            exact s7.keep a o (sB.keep a o ea na) fun z => z.elim (fun z => na (toB a z)) ne
          · rcases s7.new a z with z | z
            · exact sB.new a z
            · right
              cases qa : H1 a with
              | none => rfl
              | some o => obtain ⟨o', e'⟩ := sB.there a o qa; rw [e'] at z; cases z
          · have ne : a ≠ Dd := fun q => fD1 (q ▸ z)
            exact s7.old a (sB.old a z na) fun z => z.elim (fun z => na (toB a z)) ne
          · obtain ⟨o', e'⟩ := sB.there a o ea
            exact s7.there a o' e'
    · have ei : i = n := by omega
      subst ei
      refine .inl ⟨wk.stops H' qg, ?_⟩
      obtain ⟨M2, ρ2, acc, vacc, r2, s2, hs2, hDl, hDd, hDm, htt⟩ := hp
      rw [hn, List.drop_length] at htt
      cases htt
      obtain ⟨r3, s3⟩ := Rep.back r1 s2 hs2 r2
      refine q1 M2 H' (s2.wide sb) r3 s3 (.ref Dd) ⟨Dd, vacc, rfl, ?_, hDl, hDd, hDm⟩
      cases qd : H Dd with
      | none => rfl
      | some o => obtain ⟨o', e'⟩ := s1.there Dd o qd; rw [hD] at e'; cases e'
theorem comp2_inv {t t' : Tg} {it it' : It} {c c' : Eo} {e : E} {v : Expr} (h : okE Γ (.comp2 t it c t' it' c' e) sc v = true) : ∃ elt tg iter ifs tg1 iter1 ifs1 scope pos, v = .ListComp elt [⟨tg, iter, ifs, 0⟩, ⟨tg1, iter1, ifs1, 0⟩] scope pos ∧
    okIt Γ it sc iter (isTuple tg) = true ∧ tgC Γ.N scope t tg = true ∧ okC Γ c (relS scope sc) ifs = true ∧ okIt Γ it' (relS scope sc) iter1 (isTuple tg1) = true ∧ tgC Γ.N scope t' tg1 = true ∧ okC Γ c' (relS scope sc) ifs1 = true ∧ okE Γ e (relS scope sc) elt = true ∧ blkC Γ.N sc scope (ownOf Γ.N (t.slots ++ t'.slots)) = true := by
  unfold okE at h
  split at h <;> first | contradiction | skip
  all_goals
    rename_i heq
    cases heq
    simp only [Bool.and_eq_true] at h
    obtain ⟨⟨⟨⟨⟨⟨⟨h1, h2⟩, h3⟩, h4⟩, h5⟩, h6⟩, h7⟩, h8⟩ := h
    exact ⟨_, _, _, _, _, _, _, _, _, rfl, h1, h2, h3, h4, h5, h6, h7, h8⟩
theorem se_comp2 {t t' : Tg} {it it' : It} {c c' : Eo} {e : E} (hit : SIt Γ cl it) (hc : ∀ e, c = .yes e → SE Γ cl e) (hit' : SIt Γ cl it') (hc' : ∀ e, c' = .yes e → SE Γ cl e) (he : SE Γ cl e) : SE Γ cl (.comp2 t it c t' it' c' e) := by
  refine ⟨fun X C sc x L h => ?_, fun X C sc x L h => by cases x <;> exact nomatch h⟩
  obtain ⟨elt, tg, iter, ifs, tg1, iter1, ifs1, scope, pos, rfl, h1, h2, h3, h4, h5, h6, h7, h8⟩ := comp2_inv h
  have hk := blk_kind h8
  have ok : BlkOk X.N X.env.scope scope (ownOf Γ.N (t.slots ++ t'.slots)) := by rw [L.N, L.scope]; exact blkOk_by h8
  have rule := pe_lc2 (pos := pos) (vs1 := t'.slots) L.calm (by rw [L.N]; exact L.nd) (hit.pi X C sc tg iter L h1) ok (fun i hi => by rw [own_snd]; exact List.mem_append_right _ hi) (fun s H Cc cls fp => pg_tg L hk h2 s H Cc cls fp)
    (fun s H Cc cls fp => test_pts hc (L.blk hk s H Cc cls fp) h3) (fun s H Cc cls fp => hit'.pi _ _ _ tg1 iter1 (L.blk hk s H Cc cls fp) h4) (fun s H Cc cls fp => pg_tg L hk h5 s H Cc cls fp) (fun s H Cc cls fp => test_pts hc' (L.blk hk s H Cc cls fp) h6)
    (fun s H Cc cls fp => tD_of (he.pe _ _ _ elt (L.blk hk s H Cc cls fp) h7)) (folded h1 X.env) (fun env x => folded h4 env x)
  refine PE_imp rule fun σ H Q q => ?_
  rw [own_snd]
  exact comp2_read q
end EV

end
section
set_option linter.all false
set_option maxRecDepth 100000
set_option maxHeartbeats 1000000
set_option Elab.async false
/-! EV: the exception classes of a program -/
namespace EV
open PySem L2 PyProof.Rows
def XC.B (x : XC) : String := if x.look then "LookupError" else "ValueError"
def XC.newId (x : XC) : String := if x.look then "LookupError.__new__" else "ValueError.__new__"
def XC.initId (x : XC) : String := if x.look then "LookupError.__init__" else "ValueError.__init__"
def XC.bm (x : XC) : List Value := if x.look then [.type "LookupError", .type "Exception", .type "BaseException", .type "object"] else [.type "ValueError", .type "Exception", .type "BaseException", .type "object"]
theorem XC.base (x : XC) : XBase x.B x.newId x.initId x.bm := by
  obtain ⟨n, f, l⟩ := x
  cases l
  · exact xbase_value
  · exact xbase_lookup
theorem XC.tail (x : XC) : PySem.W.excTail x.bm x.bm = true := by
  obtain ⟨n, f, l⟩ := x
  cases l <;> rfl
/-- what the known objects say of the class x at C -/
structure XcOk (prog : Program) (K : PySem.W.Frag) (mg : Str → Option Value) (x : XC) (C : Addr) : Prop where
  gC : mg x.name = some (.ref C)
  dbg : (x.name == ("__debug__" : Str)) = false
  fld : ∀ f, x.fld = some f → XName f ∧ ∃ fI cda cc, XTxt prog K f x.B x.newId x.initId x.bm C fI cda cc
  bare : x.fld = none → PySem.W.excIn K C x.bm x.newId = true
  kC : PySem.W.keepIn K (.ref C) = true
  tyC : PySem.W.typeIn K (.ref C) = some (.type "type")
  xf : XfC K C
  is : ExcC K C
  kitL : PySem.W.kitOne K (.ref C) (.type "LookupError") = some x.look
  kitV : PySem.W.kitOne K (.ref C) (.type "ValueError") = some (!x.look)
/-- the whole table -/
structure XTab (prog : Program) (K : PySem.W.Frag) (mg : Str → Option Value) (E : List XC) : Prop where
  ok : ∀ (i : Nat) (x : XC), E[i]? = some x → ∃ C, XcOk prog K mg x C
  exm : ∀ (i j : Nat) (x y : XC) (C D : Addr), E[i]? = some x → E[j]? = some y → mg x.name = some (.ref C) → mg y.name = some (.ref D) → PySem.W.exmOne K (.ref C) (.ref D) = some (j == i)
/-- an exception of the language beside one of the heap -/
def xR (E : List XC) (K : PySem.W.Frag) (mg : Str → Option Value) : XR := fun M H cls d x => ∃ xc C, E[x.cls]? = some xc ∧ mg xc.name = some (.ref C) ∧ cls = .ref C ∧
  ((xc.fld = none ∧ x.fld = none ∧ d = none) ∨ ∃ f v dd u, xc.fld = some f ∧ x.fld = some v ∧ d = some dd ∧ H dd = some (.xd [(f, u)]) ∧ Dat K M H u v)
section
variable {X : Cx}
/-- X() -/
theorem pmk_own0 {C : Addr} {bmB : List Value} {B newId initId : String} {x : Str} {p pos : Pos} (F : ExcBaseFacts B newId initId bmB) (q : PySem.W.excIn X.K C bmB newId = true) (gC : X.mg x = some (.ref C)) (kC : PySem.W.keepIn X.K (.ref C) = true) (r : Raises X (.ref C)) (hg : Gl X x) (hdb : (x == ("__debug__" : Str)) = false) :
    PMk X (.Call (.Name x p) [] [] pos) (fun σ H Q => Q (.ref C) none H) := by
  intro pins s σ H Q I h
  refine wpAny_Call_Name_kw (ld_glob I hg gC ?_ hdb)
  refine PySem.W.callWith_K0 I.kIn kC ?_
  show wpAny _ _ (call (.ref C) []) _ _ _
  obtain ⟨bm, N, nm, qn, bs, hdct, sn, sub, ab, col, dd, k0, k1, k2, k3, k5, mN, hC, hN, hni, T⟩ := exc_obj I.kIn q
  refine wpAny_call_exc_subT F T hC hN hni (fun h' e hm => ?_) (by show 0 ≤ sizeLine; omega)
  exact mk_of I hm r h (I.hok.gone hm.new)
/-- isinstance(error, B) of the exception that the suite holds -/
def rIsX (K : PySem.W.Frag) (cls : Value) (d : Option Addr) (a : Addr) (B : String) : List V → Hp → VK → Prop := fun xs H Q => ∃ (C : Addr) (b : Bool), xs = [.ref a, .ty B] ∧ cls = .ref C ∧ ExcC K C ∧ (d = none ∨ ∃ dd fs, d = some dd ∧ H dd = some (.xd fs)) ∧ PySem.W.kitOne K (.ref C) (.type B) = some b ∧ Q (.bl b) H
theorem call_isX {a : Addr} {cls : Value} {d : Option Addr} {oe : Obj} {B : String} {pn : List (Addr × Obj)} (hz : Zc cls d oe) (hf : ∃ vs, oe.data = .fields vs) : CallR (X.suite a ((a, oe) :: pn)) (.builtin "isinstance") (rIsX X.K cls d a B) := by
  intro pins s σ H xs us Q I r h
  obtain ⟨C, b, rfl, rfl, E, hd, e, q⟩ := h
  cases r with
  | cons rx rr =>
    cases rr with
    | cons rt rr =>
      cases rr
      cases rx
      cases rt
      obtain ⟨hget, _⟩ := I.pin (a, oe) (List.mem_append.mpr (.inl List.mem_cons_self))
      obtain ⟨vs, hv⟩ := hf
      have J : ∃ od, PySem.W.InstAt s.heap a oe C od := by
        rcases hd with rfl | ⟨dd, fs, rfl, ed⟩
        · exact ⟨none, hget, hz.1, by unfold PySem.W.notCls; rw [hv] <;> rfl, by rw [hz.2]; trivial⟩
        · obtain ⟨mA, hns, _⟩ := (show ObjOk X.prog X.w H s.heap dd (.xd fs) from I.hok dd _ ed)
          obtain ⟨od, ho, _⟩ := lookIn_ns hns
          exact ⟨some od, hget, hz.1, by unfold PySem.W.notCls; rw [hv] <;> rfl, by rw [hz.2]; exact ho⟩
      obtain ⟨od, J⟩ := J
      have hcl : (PySem.W.clsIn X.K C).isSome = true := by obtain ⟨cd, hc, _⟩ := PySem.W.any_some E.hd; rw [hc]; rfl
      exact PySem.W.kia_one (PySem.W.kitx_exc hcl E.hg E.hk E.hs E.ha E.hn E.ht E.hm) I.kIn J e (fun z => nomatch z) fun tk => ⟨.bl b, H, I.kept (t' := tk) fun _ _ z => z, rfl, q⟩
end
end EV

end
section
set_option linter.all false
set_option maxRecDepth 100000
set_option Elab.async false
namespace EV
open PySem L2 PyProof.Rows
variable {Γ : Gam} {cl : Nat → List D → FRes} {X : Cx} {C : Ctx} {sc : Scope} {K : PySem.W.Frag} {M M' M0 M1 : AS} {H H' H1 : Hp} {σ : EV.St} {ρ ρ' ρ1 : Ro}
/-! ### statements: the text beside the language -/
def lineC (sc scope : Scope) (y : Str) (py p : Pos) : Bool := (sc.names.lookup y == some .local && py.line == p.line) && !(scope.names.any fun (n, k) => n == y && (k == .local || k == .cell))
def isStarred : Expr → Bool
  | .Starred .. => true
  | _ => false
def swN (sc : Scope) (line : Nat) : Expr → Option Str
  | .Name id pos => if sc.names.lookup id == some .local && pos.line == line then some id else none
  | _ => none
/-- a, b = x, y: the names, where they are stored from the right -/
def swP (sc : Scope) (ts xs : List Expr) : Option (Option (List Str)) :=
  if (!(ts.length == 2 || ts.length == 3) || xs.length != ts.length) = true then some none
  else if xs.any isStarred = true then some none
  else
    let names := ts.filterMap (swN sc ((ts.head?.map (·.pos.line)).getD 0))
    if (names.length != ts.length || names.eraseDups.length != names.length) = true then some none
    else if xs.all (foldedForSure 8) = true then some none
    else if xs.all (constantsAlone 8) = true then none
    else some (some names)
def isComp : Expr → Bool
  | .ListComp .. => true
  | .SetComp .. => true
  | .DictComp .. => true
  | _ => false
/-- exception classes and clauses in the text -/
def xcC (Γ : Gam) (sc : Scope) (c : Nat) (x : Str) (f : Bool) : Bool := match Γ.E[c]? with
  | some xc => decide (xc.name = x) && glC sc x && (xc.fld.isSome == f)
  | none => false
def okHi (sc : Scope) (xc : XC) (n : Str) : Hi → Expr → Bool
  | .cst d, .Constant c _ _ => cstC d c
  | .fld, .Attribute (.Name m _) f _ => decide (m = n) && decide (xc.fld = some f)
  | .isi look b, .Call (.Name g _) [.Name m _, .Name B _] [] _ => decide (g = "isinstance") && glC sc g && decide (m = n) && decide (B = (if look then "LookupError" else "ValueError")) && glC sc B && (b == (xc.look == look))
  | _, _ => false
def okHis (sc : Scope) (xc : XC) (n : Str) : List Hi → List Expr → Bool
  | [], [] => true
  | h :: hs, x :: xs => okHi sc xc n h x && okHis sc xc n hs xs
  | _, _ => false
def okHd (Γ : Gam) (sc : Scope) (h : Hd) (x n y : Str) (xs : List Expr) : Bool :=
  (match Γ.E[h.cls]? with | some xc => decide (xc.name = x) && glC sc x && okHis sc xc n h.its xs && decide (h.its.length ≤ 1000) | none => false) && decide (Γ.N[h.i]? = some n) && decide (sc.names.lookup n = some .local) && nmC n && decide (Γ.N[h.t]? = some y) && locC sc y && decide (h.i ≠ h.t)
def okHs (Γ : Gam) (sc : Scope) : List Hd → List ExceptHandler → Bool
  | [], [] => true
  | h :: hs, .ExceptHandler (some (.Name x _)) (some n) [.Assign [.Name y _] (.List xs _) _] _ :: r => okHd Γ sc h x n y xs && okHs Γ sc hs r
  | _, _ => false
mutual
def okS (Γ : Gam) (sc : Scope) : S → Stmt → Bool
  | .asg i e, .Assign [.Name x _] v _ => decide (Γ.N[i]? = some x) && locC sc x && okE Γ e sc v
  | .asgT is e, .Assign [.Tuple ts _ _] v _ => namesC Γ.N sc is ts && !isTuple v && okE Γ e sc v
  | .par is es, .Assign [.Tuple ts _ _] (.Tuple xs _ _) _ => namesC Γ.N sc is ts && decide (is.Nodup) && okEs Γ es sc xs && decide (xs.length ≤ 3) && decide (xs.length = ts.length) && (swP sc ts xs).isSome
  | .sub i k e, .Assign [.Subscript (.Name x _) ix _] v _ => decide (Γ.N[i]? = some x) && visC sc x && nmC x && !isSlice ix && okE Γ k sc ix && okE Γ e sc v
  | .expr e, .Expr v _ => !isComp v && okE Γ e sc v
  | .ret e, .Return (some v) _ => okE Γ e sc v
  | .retN, .Return none _ => true
  | .ite c a b, .If t x y _ => okT Γ c sc t && okSs Γ sc a x && okSs Γ sc b y
  | .for_ t it b, .For tg iter body [] _ => okIt Γ it sc iter (isTuple tg) && tgC Γ.N sc t tg && okSs Γ sc b body
  | .while_ _ c b, .While t body [] _ => okT Γ c sc t && okSs Γ sc b body
  | .raise c .no, .Raise (some (.Call (.Name x _) [] [] _)) none _ => xcC Γ sc c x false
  | .raise c (.yes e), .Raise (some (.Call (.Name x _) [a] [] _)) none _ => xcC Γ sc c x true && okE Γ e sc a
  | .try_ b hs, .Try body (h :: r) [] [] _ => okSs Γ sc b body && okHs Γ sc hs (h :: r)
  | .pass, .Pass _ => true
  | .brk, .Break _ => true
  | .cont, .Continue _ => true
  | _, _ => false
def okSs (Γ : Gam) (sc : Scope) : Ss → List Stmt → Bool
  | .nil, [] => true
  | .cons s r, x :: xs => okS Γ sc s x && okSs Γ sc r xs
  | _, _ => false
end
/-- the slots of a def's frame -/
structure RepS (C : Ctx) (M : AS) (ρ : Ro) (σ : EV.St) (H : Hp) : Prop where
  rep : Rep C.K C.M0 M ρ σ H
  new0 : ∀ a, M a → C.M0 a ∨ C.H0 a = none
  there0 : ∀ a o, C.H0 a = some o → ∃ o', H a = some o'
/-- what the slots' own lists may be behind a statement -/
def OwS (ρ : Ro) (σ : EV.St) (H : Hp) (ρ' : Ro) (σ' : EV.St) : Prop := ∀ a, Ow ρ' σ' a → Ow ρ σ a ∨ H a = none
def ends (C : Ctx) (D : Ends) (M' : AS) (H' : Hp) (σ' : EV.St) : Flow → Prop
  | .next => D.nx σ' H'
  | .brk => D.bk σ' H'
  | .cont => D.ct σ' H'
  | .ret w => ∀ v, VW0 C.K C.H0 M' H' v w → D.rt v H'
def AfterS (C : Ctx) (σ : EV.St) (M : AS) (H : Hp) (ρ : Ro) (r : Res (Flow × Ro)) (D : Ends) : Prop := match r with
  | .ok (fl, ρ') => ∀ M' H' σ', Stp (Ow ρ σ) M H M' H' → RepS C M' ρ' σ' H' → OwS ρ σ H ρ' σ' → ends C D M' H' σ' fl
  | .exc x ρ' => ∀ M' H' σ' cls d, Stp (Ow ρ σ) M H M' H' → RepS C M' ρ' σ' H' → OwS ρ σ H ρ' σ' → C.R M' H' cls d x → C.Wx cls d σ' H'
  | .stuck => False
def tS (C : Ctx) (f : Ro → Res (Flow × Ro)) : TS := fun D σ H => ∃ M ρ, RepS C M ρ σ H ∧ AfterS C σ M H ρ (f ρ) D
theorem RepS.after (r : RepS C M ρ σ H) (s : Stp (Ow ρ σ) M H M' H') {σ' : EV.St} (r' : Rep C.K C.M0 M' ρ' σ' H') : RepS C M' ρ' σ' H' := by
  refine ⟨r', fun a z => ?_, fun a o e => ?_⟩
  · rcases s.new a z with q | q
    · exact r.new0 a q
    · right
      cases e : C.H0 a with
      | none => rfl
      | some o => obtain ⟨o', e'⟩ := r.there0 a o e; rw [q] at e'; cases e'
  · obtain ⟨o', e'⟩ := r.there0 a o e
    exact s.there a o' e'
theorem Stp.transS {M2 : AS} {H2 : Hp} {σ1 : EV.St} (r : Rep K M0 M ρ σ H) (hs : OwS ρ σ H ρ1 σ1) (s : Stp (Ow ρ σ) M H M1 H1) (t : Stp (Ow ρ1 σ1) M1 H1 M2 H2) : Stp (Ow ρ σ) M H M2 H2 := by
  have no : ∀ a o, H a = some o → ¬ Ow ρ σ a → ¬ Ow ρ1 σ1 a := fun a o e n z => by
    rcases hs a z with q | q
    · exact n q
    · rw [e] at q; cases q
  refine ⟨fun a o e n => t.keep a o (s.keep a o e n) (no a o e n), fun a z => ?_, fun a z n => ?_, fun a o e => ?_⟩
  · rcases t.new a z with q | q
    · exact s.new a q
    · cases e : H a with
      | none => exact .inr rfl
      | some o => obtain ⟨o', e'⟩ := s.there a o e; rw [e'] at q; cases q
  · obtain ⟨o, e⟩ := r.dom a z
    exact t.old a (s.old a z n) (no a o e n)
  · obtain ⟨o', e'⟩ := s.there a o e
    exact t.there a o' e'
theorem OwS.trans {σ1 σ2 : EV.St} {ρ2 : Ro} (th : ∀ a o, H a = some o → ∃ o', H1 a = some o') (a1 : OwS ρ σ H ρ1 σ1) (a2 : OwS ρ1 σ1 H1 ρ2 σ2) : OwS ρ σ H ρ2 σ2 := fun a z => by
  rcases a2 a z with q | q
  · exact a1 a q
  · right
    cases e : H a with
    | none => rfl
    | some o => obtain ⟨o', e'⟩ := th a o e; rw [q] at e'; cases e'
/-- an expression within a statement -/
theorem AfterS.expr {α : Type} {q : Res (α × Ro)} {f : α × Ro → Res (Flow × Ro)} {D : Ends} (r : RepS C M ρ σ H) (h : AfterS C σ M H ρ (q.bind f) D) :
    After C σ M H ρ q (fun M1 H1 a ρ1 => RepS C M1 ρ1 σ H1 ∧ AfterS C σ M H ρ (f (a, ρ1)) D) := by
  cases q with
  | ok p => exact fun M1 H1 s1 r1 hs1 => ⟨r.after s1 r1, h⟩
  | exc x ρ' => exact fun M1 H1 cls d s1 r1 hs1 hR => h M1 H1 σ cls d s1 (r.after s1 r1) (fun a z => .inl (hs1 a z)) hR
  | stuck => exact h
theorem AfterS.of {α : Type} {o : Option α} {f : α → Res (Flow × Ro)} {D : Ends} (h : AfterS C σ M H ρ ((Res.of o).bind f) D) : ∃ a, o = some a ∧ AfterS C σ M H ρ (f a) D := by
  cases o with
  | none => exact h.elim
  | some a => exact ⟨a, rfl, h⟩
theorem PS_imp {st : Stmt} {t t' : TS} (h : PS X st t) (f : ∀ D σ H, t' D σ H → t D σ H) : PS X st t' := ⟨fun pins s σ H D I q => h.run pins s σ H D I (f D σ H q)⟩
theorem PSs_imp {st : List Stmt} {t t' : TS} (h : PSs X st t) (f : ∀ D σ H, t' D σ H → t D σ H) : PSs X st t' := ⟨fun pins s σ H D I q => h.run pins s σ H D I (f D σ H q)⟩
/-- a def's frame -/
structure LkS (Γ : Gam) (cl : Nat → List D → FRes) (X : Cx) (C : Ctx) (sc : Scope) : Prop extends Lk Γ cl X C sc where
  pass : PassesOwn (model X.prog X.w) X.A X.env X.xe
  fnT : ∀ x, X.fn x = true
  deep : X.A.depth + 1 < recursionLimit
  stk : X.stack = X.env :: X.outer
  frm : X.env.frame = some X.env.locals
  tab : XTab X.prog X.K X.mg Γ.E
  rel : C.R = xR Γ.E X.K X.mg
structure SSt (Γ : Gam) (cl : Nat → List D → FRes) (s : S) : Prop where
  ps : ∀ X C sc st, LkS Γ cl X C sc → okS Γ sc s st = true → PS X st (tS C (exec Γ.F cl s))
structure SSts (Γ : Gam) (cl : Nat → List D → FRes) (s : Ss) : Prop where
  pss : ∀ X C sc st, LkS Γ cl X C sc → okSs Γ sc s st = true → PSs X st (tS C (execs Γ.F cl s))
/-- a value stored in a slot -/
theorem Rep.setW {i : Nat} {v : V} {w : W} (r0 : Rep K M0 M ρ σ H) (s : Stp (Ow ρ σ) M H M1 H1) (r : Rep K M0 M1 ρ1 σ H1) (hs : ∀ a, Ow ρ1 σ a → Ow ρ σ a) (hv : VW0 K H M1 H1 v w) (h : setD ρ1 i w = some ρ') :
    Rep K M0 M1 ρ' (σ.set i (some v)) H1 ∧ OwS ρ σ H ρ' (σ.set i (some v)) := by
  cases w with
  | dat d =>
    obtain ⟨q1, q2⟩ := r.setDat hv h
    exact ⟨q1, fun a z => .inl (hs a (q2 a z))⟩
  | new xs =>
    obtain ⟨p, us, rfl, hn, hp, hd, hm⟩ := hv
    obtain ⟨f1, f2, f3⟩ := r0.fresh hn
    have f4 : ¬ Ow ρ1 σ p := fun z => f3 (hs p z)
    obtain ⟨hl, hio, rfl⟩ := setD_some h
    have hlσ : i < σ.length := by rw [← r.len]; exact hl
    have ne : ∀ {j : Nat}, j ≠ i → (σ.set i (some (V.ref p)))[j]? = σ[j]? := fun hj => List.getElem?_set_ne (Ne.symm hj)
    have at_ : (σ.set i (some (V.ref p)))[i]? = some (some (V.ref p)) := List.getElem?_set_self hlσ
    refine ⟨⟨by simpa using r.len, r.dom, r.sub, fun j d' e => ?_, fun j t ys e l => ?_, fun j ys a e q => ?_, fun j ys a e q => ?_, fun j k a t u ys zs e1 e2 l1 l2 q1 q2 => ?_⟩, fun a ⟨j, t, ys, e, l, q⟩ => ?_⟩
    · rcases set_get e with ⟨rfl, e'⟩ | ⟨hj, e⟩
      · cases e'
      · rw [ne hj]; exact r.dat j d' e
    · rcases set_get e with ⟨rfl, e'⟩ | ⟨hj, e⟩
      · cases e'; cases l; exact ⟨p, us, at_, hp, hd, hm⟩
      · rw [ne hj]; exact r.lst j t ys e l
    · rcases set_get e with ⟨rfl, e'⟩ | ⟨hj, e⟩
      · rw [at_] at q; cases q; exact f2
      · rw [ne hj] at q; exact r.own j ys a e q
    · rcases set_get e with ⟨rfl, e'⟩ | ⟨hj, e⟩
      · cases e'
      · rw [ne hj] at q; exact r.io j ys a e q
    · rcases set_get e1 with ⟨hj, e'⟩ | ⟨hj, e1'⟩
      · rcases set_get e2 with ⟨hk, e''⟩ | ⟨hk, e2'⟩
        · rw [hj, hk]
        · rw [hj, at_] at q1; cases q1
          rw [ne hk] at q2
          exact (f4 ⟨k, u, zs, e2', l2, q2⟩).elim
      · rcases set_get e2 with ⟨hk, e''⟩ | ⟨hk, e2'⟩
        · rw [hk, at_] at q2; cases q2
          rw [ne hj] at q1
          exact (f4 ⟨j, t, ys, e1', l1, q1⟩).elim
        · rw [ne hj] at q1; rw [ne hk] at q2
          exact r.inj j k a t u ys zs e1' e2' l1 l2 q1 q2
    · rcases set_get e with ⟨rfl, e'⟩ | ⟨hj, e⟩
      · rw [at_] at q; cases q; exact .inr hn
      · rw [ne hj] at q; exact .inl (hs a ⟨j, t, ys, e, l, q⟩)
theorem locC_loc {x : Str} (L : Lk Γ cl X C sc) (h : locC sc x = true) : Loc X.env.scope x := by
  rw [L.scope]; exact locC_of h
theorem swaps_no {v : Expr} (h : isComp v = false) (tg : Option Expr) (l : Nat) (env : Env) : swapsWith v tg l env = pure false := by
  cases v <;> first | rfl | cases h
/-- x = e -/
theorem asg_read {i : Nat} {e : E} {D : Ends} (h : tS C (exec Γ.F cl (.asg i e)) D σ H) : tAsg (tW C (evG Γ cl e)) (gName i) D σ H := by
  obtain ⟨M, ρ, r, q⟩ := h
  refine ⟨M, ρ, r.rep, (AfterS.expr r q).mono fun M1 H1 w ρ1 s1 r1 hs1 ⟨rs1, h1⟩ v hv => ?_⟩
  obtain ⟨ρ2, e2, h2⟩ := h1.of
  obtain ⟨r2, o2⟩ := Rep.setW r.rep s1 r1 hs1 hv e2
  exact h2 M1 H1 _ s1 (r.after s1 r2) o2
/-- a comprehension stored: the rule by the text's own lines -/
theorem comp_set {t : Tg} {it : It} {c : Eo} {e : E} {i : Nat} {y : Str} {py spos pos : Pos} {elt : Expr} {gens : List Comprehension} {scope : Scope} (hit : SIt Γ cl it) (hc : ∀ e, c = .yes e → SE Γ cl e) (he : SE Γ cl e) (L : LkS Γ cl X C sc)
    (hi : Γ.N[i]? = some y) (hl : locC sc y = true) (h : okE Γ (.comp t it c e) sc (.ListComp elt gens scope pos) = true) :
    PS X (.Assign [.Name y py] (.ListComp elt gens scope pos) spos) (tAsg (tW C (evG Γ cl (.comp t it c e))) (gName i)) := by
  have hN : X.N[i]? = some y := by rw [L.N]; exact hi
  have nd : X.N.Nodup := by rw [L.N]; exact L.nd
  have plain := (se_comp (t := t) hit hc he).pe X C sc _ L.toLk h
  cases hb : lineC sc scope y py pos with
  | false =>
    refine ps_set nd hN (locC_loc L.toLk hl) plain ?_ (.inl (L.fnT y))
    unfold swapsWith
    have hbk : X.env.blockKind = .function := by unfold Env.blockKind; rw [L.scope, L.kind]; rfl
    have hky : X.env.kindOf y = sc.names.lookup y := by unfold Env.kindOf; rw [L.scope]
    simp only [hbk, hky, Expr.pos]
    unfold lineC at hb
    show (pure ((true && sc.names.lookup y == some NameKind.local && py.line == pos.line) && !(scope.names.any fun (n, k) => n == y && (k == .local || k == .cell))) : Sem Bool) = pure false
    rw [Bool.true_and, hb]
  | true =>
    unfold lineC at hb
    simp only [Bool.and_eq_true, Bool.not_eq_true'] at hb
    obtain ⟨⟨b1, b2⟩, b3⟩ := hb
    have b1 : sc.names.lookup y = some .local := by simpa using b1
    match gens with
    | [⟨tg, iter, ifs, 0⟩] =>
      have h' : (okIt Γ it sc iter (isTuple tg) && tgC Γ.N scope t tg && okC Γ c (relS scope sc) ifs && okE Γ e (relS scope sc) elt && blkC Γ.N sc scope (ownOf Γ.N t.slots)) = true := h
      simp only [Bool.and_eq_true] at h'
      obtain ⟨⟨⟨⟨h1, h2⟩, h3⟩, h4⟩, h5⟩ := h'
      have hk := blk_kind h5
      have ok : BlkOk X.N X.env.scope scope (ownOf Γ.N t.slots) := by rw [L.N, L.scope]; exact blkOk_by h5
      have rule := ps_setLc (pos := pos) (spos := spos) (py := py) L.calm nd hN (by rw [L.scope]; exact b1) (sw_true (by rw [L.scope]; exact L.kind) (by rw [L.scope]; exact b1) b2 b3) (hit.pi X C sc tg iter L.toLk h1) ok (fun s H Cc cls fp => pg_tg L.toLk hk h2 s H Cc cls fp)
        (fun s H Cc cls fp => test_pts hc (L.toLk.blk hk s H Cc cls fp) h3) (fun s H Cc cls fp => tD_of (he.pe _ _ _ elt (L.toLk.blk hk s H Cc cls fp) h4)) (folded h1 X.env)
      refine PS_imp rule fun D σ H q => ?_
      rw [own_snd]
      exact comp_read hit hc he q
    | [] => exact nomatch h
    | [⟨_, _, _, .ofNat (_ + 1)⟩] => exact nomatch h
    | [⟨_, _, _, .negSucc _⟩] => exact nomatch h
    | ⟨_, _, _, .ofNat 0⟩ :: _ :: _ => exact nomatch h
    | ⟨_, _, _, .ofNat (_ + 1)⟩ :: _ :: _ => exact nomatch h
    | ⟨_, _, _, .negSucc _⟩ :: _ :: _ => exact nomatch h
theorem comp2_set {t t' : Tg} {it it' : It} {c c' : Eo} {e : E} {i : Nat} {y : Str} {py spos : Pos} {v : Expr} (hit : SIt Γ cl it) (hc : ∀ e, c = .yes e → SE Γ cl e) (hit' : SIt Γ cl it') (hc' : ∀ e, c' = .yes e → SE Γ cl e) (he : SE Γ cl e) (L : LkS Γ cl X C sc)
    (hi : Γ.N[i]? = some y) (hl : locC sc y = true) (h : okE Γ (.comp2 t it c t' it' c' e) sc v = true) : PS X (.Assign [.Name y py] v spos) (tAsg (tW C (evG Γ cl (.comp2 t it c t' it' c' e))) (gName i)) := by
  have hN : X.N[i]? = some y := by rw [L.N]; exact hi
  have nd : X.N.Nodup := by rw [L.N]; exact L.nd
  have plain := (se_comp2 (t := t) (t' := t') hit hc hit' hc' he).pe X C sc _ L.toLk h
  obtain ⟨elt, tg, iter, ifs, tg1, iter1, ifs1, scope, pos, rfl, h1, h2, h3, h4, h5, h6, h7, h8⟩ := comp2_inv h
  cases hb : lineC sc scope y py pos with
  | false =>
    refine ps_set nd hN (locC_loc L.toLk hl) plain ?_ (.inl (L.fnT y))
    unfold swapsWith
    have hbk : X.env.blockKind = .function := by unfold Env.blockKind; rw [L.scope, L.kind]; rfl
    have hky : X.env.kindOf y = sc.names.lookup y := by unfold Env.kindOf; rw [L.scope]
    simp only [hbk, hky, Expr.pos]
    unfold lineC at hb
    show (pure ((true && sc.names.lookup y == some NameKind.local && py.line == pos.line) && !(scope.names.any fun (n, k) => n == y && (k == .local || k == .cell))) : Sem Bool) = pure false
    rw [Bool.true_and, hb]
  | true =>
    unfold lineC at hb
    simp only [Bool.and_eq_true, Bool.not_eq_true'] at hb
    obtain ⟨⟨b1, b2⟩, b3⟩ := hb
    have b1 : sc.names.lookup y = some .local := by simpa using b1
    have hk := blk_kind h8
    have ok : BlkOk X.N X.env.scope scope (ownOf Γ.N (t.slots ++ t'.slots)) := by rw [L.N, L.scope]; exact blkOk_by h8
    have rule := ps_setLc2 (pos := pos) (spos := spos) (py := py) (vs1 := t'.slots) L.calm nd hN (by rw [L.scope]; exact b1) (sw_true (by rw [L.scope]; exact L.kind) (by rw [L.scope]; exact b1) b2 b3) (hit.pi X C sc tg iter L.toLk h1) ok (fun i hi => by rw [own_snd]; exact List.mem_append_right _ hi)
      (fun s H Cc cls fp => pg_tg L.toLk hk h2 s H Cc cls fp) (fun s H Cc cls fp => test_pts hc (L.toLk.blk hk s H Cc cls fp) h3) (fun s H Cc cls fp => hit'.pi _ _ _ tg1 iter1 (L.toLk.blk hk s H Cc cls fp) h4) (fun s H Cc cls fp => pg_tg L.toLk hk h5 s H Cc cls fp)
      (fun s H Cc cls fp => test_pts hc' (L.toLk.blk hk s H Cc cls fp) h6) (fun s H Cc cls fp => tD_of (he.pe _ _ _ elt (L.toLk.blk hk s H Cc cls fp) h7)) (folded h1 X.env) (fun env x => folded h4 env x)
    refine PS_imp rule fun D σ H q => ?_
    rw [own_snd]
    exact comp2_read q
/-- what a statement x = e asks of e -/
def SSet (Γ : Gam) (cl : Nat → List D → FRes) (e : E) : Prop := ∀ X C sc i y py v spos, LkS Γ cl X C sc → Γ.N[i]? = some y → locC sc y = true → okE Γ e sc v = true → PS X (.Assign [.Name y py] v spos) (tAsg (tW C (evG Γ cl e)) (gName i))
theorem sset_plain {e : E} (h : SE Γ cl e) (hn : ∀ sc v, okE Γ e sc v = true → isComp v = false) : SSet Γ cl e := fun X C sc i y py v spos L hi hl ok =>
  ps_set (by rw [L.N]; exact L.nd) (by rw [L.N]; exact hi) (locC_loc L.toLk hl) (h.pe X C sc v L.toLk ok) (swaps_no (hn sc v ok) _ _ _) (.inl (L.fnT y))
theorem sset_comp {t : Tg} {it : It} {c : Eo} {e : E} (hit : SIt Γ cl it) (hc : ∀ e, c = .yes e → SE Γ cl e) (he : SE Γ cl e) : SSet Γ cl (.comp t it c e) := fun X C sc i y py v spos L hi hl ok => by
  cases v with
  | ListComp elt gens scope pos => exact comp_set hit hc he L hi hl ok
  | _ => exact nomatch ok
theorem st_asg {i : Nat} {e : E} (h : SSet Γ cl e) : SSt Γ cl (.asg i e) := by
  refine ⟨fun X C sc st L ok => ?_⟩
  have inv : ∃ y py v spos, st = .Assign [.Name y py] v spos ∧ (decide (Γ.N[i]? = some y) && locC sc y && okE Γ e sc v) = true := by
    unfold okS at ok
    split at ok <;> first | contradiction | skip
    all_goals first | (rename_i heq; cases heq; exact ⟨_, _, _, _, rfl, ok⟩) | (rename_i heq _; cases heq; exact ⟨_, _, _, _, rfl, ok⟩)
  obtain ⟨y, py, v, spos, rfl, ok'⟩ := inv
  simp only [Bool.and_eq_true, decide_eq_true_eq] at ok'
  exact PS_imp (h X C sc i y py v spos L ok'.1.1 ok'.1.2 ok'.2) fun D σ H q => asg_read q
theorem st_expr {e : E} (h : SE Γ cl e) : SSt Γ cl (.expr e) := by
  refine ⟨fun X C sc st L ok => ?_⟩
  cases st with
  | Expr v pos =>
    have ok : (!isComp v && okE Γ e sc v) = true := ok
    simp only [Bool.and_eq_true, Bool.not_eq_true'] at ok
    refine PS_imp (ps_expr (h.pe X C sc v L.toLk ok.2) (swaps_no ok.1 _ _ _)) fun D σ H ⟨M, ρ, r, q⟩ => ?_
    refine ⟨M, ρ, r.rep, (AfterS.expr r q).mono fun M1 H1 w ρ1 s1 r1 hs1 ⟨rs1, h1⟩ v hv => ?_⟩
    exact h1 M1 H1 σ s1 rs1 fun a z => .inl (hs1 a z)
  | _ => exact nomatch ok
theorem VW0.entry {v : V} {w : W} (r : RepS C M ρ σ H) (h : VW0 C.K H M' H' v w) : VW0 C.K C.H0 M' H' v w := h.from r.there0
theorem ret_other {e : E} {v : Expr} {pos : Pos} (h : PE X v (tW C (evG Γ cl e))) (heq : ∀ ρ, retOf (evG Γ cl e) e ρ = evG Γ cl e ρ) : PS X (.Return (some v) pos) (tS C (exec Γ.F cl (.ret e))) := by
  refine PS_imp (ps_ret h) fun D σ H ⟨M, ρ, r, q⟩ => ?_
  have q : AfterS C σ M H ρ ((retOf (evG Γ cl e) e ρ).bind fun p => .ok (.ret p.1, p.2)) D := q
  rw [heq] at q
  refine ⟨M, ρ, r.rep, (AfterS.expr r q).mono fun M1 H1 w ρ1 s1 r1 hs1 ⟨rs1, h1⟩ v hv => ?_⟩
  exact h1 M1 H1 σ s1 rs1 (fun a z => .inl (hs1 a z)) v (VW0.entry r hv)
/-- a slot is forgotten -/
theorem Rep.drop {i : Nat} (r : Rep K M0 M ρ σ H) : Rep K M0 M (ρ.set i none) σ H ∧ ∀ a, Ow (ρ.set i none) σ a → Ow ρ σ a := by
  refine ⟨⟨by simpa using r.len, r.dom, r.sub, fun j d e => ?_, fun j s xs e l => ?_, fun j xs a e q => ?_, fun j xs a e q => ?_, fun j k a s t xs ys e1 e2 l1 l2 q1 q2 => ?_⟩, fun a ⟨j, s, xs, e, l, q⟩ => ?_⟩
  · rcases set_get e with ⟨_, e'⟩ | ⟨hj, e⟩
    · cases e'
    · exact r.dat j d e
  · rcases set_get e with ⟨_, e'⟩ | ⟨hj, e⟩
    · cases e'
    · exact r.lst j s xs e l
  · rcases set_get e with ⟨_, e'⟩ | ⟨hj, e⟩
    · cases e'
    · exact r.own j xs a e q
  · rcases set_get e with ⟨_, e'⟩ | ⟨hj, e⟩
    · cases e'
    · exact r.io j xs a e q
  · rcases set_get e1 with ⟨_, e'⟩ | ⟨hj, e1⟩
    · cases e'
    · rcases set_get e2 with ⟨_, e'⟩ | ⟨hk, e2⟩
      · cases e'
      · exact r.inj j k a s t xs ys e1 e2 l1 l2 q1 q2
  · rcases set_get e with ⟨_, e'⟩ | ⟨hj, e⟩
    · cases e'
    · exact ⟨j, s, xs, e, l, q⟩
theorem st_ret {e : E} (h : SE Γ cl e) : SSt Γ cl (.ret e) := by
  refine ⟨fun X C sc st L ok => ?_⟩
  have inv : ∃ v pos, st = .Return (some v) pos ∧ okE Γ e sc v = true := by
    unfold okS at ok
    split at ok <;> first | contradiction | skip
    all_goals first | (rename_i heq; cases heq; exact ⟨_, _, rfl, ok⟩) | (rename_i heq _; cases heq; exact ⟨_, _, rfl, ok⟩)
  obtain ⟨v, pos, rfl, ok'⟩ := inv
  cases e with
  | var i =>
    cases v with
    | Name x p =>
      -- an own list leaves with the name
      refine PS_imp (ps_ret (var_pe L.toLk ok' : PE X (.Name x p) (tVar i))) fun D σ H ⟨M, ρ, r, q⟩ => ?_
      have q : AfterS C σ M H ρ ((retOf (evG Γ cl (.var i)) (.var i) ρ).bind fun p => .ok (.ret p.1, p.2)) D := q
      have q : AfterS C σ M H ρ ((match get ρ i with | some (.own xs) => .ok (.new xs, ρ.set i none) | _ => (Res.of (leak ρ i)).bind fun p => .ok (W.dat p.1, p.2) : Res (W × Ro)).bind fun p => .ok (.ret p.1, p.2)) D := q
      unfold leak at q
      cases hg : get ρ i with
      | none => rw [hg] at q; exact q.elim
      | some sv =>
        rw [hg] at q
        cases sv with
        | io xs => exact q.elim
        | dat d =>
          obtain ⟨v, h1, h2⟩ := r.rep.dat i d (get_some hg)
          exact ⟨v, h1, q M H σ .refl r (fun a z => .inl z) v h2⟩
        | own xs =>
          obtain ⟨b, us, h1, h2, h3, h4⟩ := r.rep.lst i _ xs (get_some hg) rfl
          obtain ⟨d1, d2⟩ := r.rep.drop (i := i)
          refine ⟨_, h1, q M H σ .refl ⟨d1, r.new0, r.there0⟩ (fun a z => .inl (d2 a z)) _ ⟨b, us, rfl, ?_, h2, h3, h4⟩⟩
          rcases r.new0 b h4 with z | z
          · exact (r.rep.own i xs b (get_some hg) h1 z).elim
          · exact z
    | _ => exact nomatch ok'
  | _ => exact ret_other (h.pe X C sc v L.toLk ok') fun _ => rfl
theorem st_retN : SSt Γ cl .retN := by
  refine ⟨fun X C sc st L ok => ?_⟩
  cases st with
  | Return v pos =>
    cases v with
    | none => exact PS_imp ps_retN fun D σ H ⟨M, ρ, r, q⟩ => q M H σ .refl r (fun a z => .inl z) _ (Dat.non)
    | some v => exact nomatch ok
  | _ => exact nomatch ok
end EV

end
section
set_option linter.all false
set_option maxRecDepth 100000
set_option Elab.async false
namespace EV
open PySem L2 PyProof.Rows
variable {Γ : Gam} {cl : Nat → List D → FRes} {X : Cx} {C : Ctx} {sc : Scope} {K : PySem.W.Frag} {M M' M0 M1 : AS} {H H' H1 : Hp} {σ : EV.St} {ρ ρ' ρ1 : Ro}
/-! ### statements one behind another -/
theorem AfterS.go {q : Res (Flow × Ro)} {D : Ends} {σ1 : EV.St} (r : RepS C M ρ σ H) (s : Stp (Ow ρ σ) M H M1 H1) (hs : OwS ρ σ H ρ1 σ1) (h : AfterS C σ M H ρ q D) : AfterS C σ1 M1 H1 ρ1 q D := by
  cases q with
  | ok p => exact fun M2 H2 σ2 s2 r2 hs2 => h M2 H2 σ2 (s.transS r.rep hs s2) r2 (hs.trans s.there hs2)
  | exc x ρ' => exact fun M2 H2 σ2 cls d s2 r2 hs2 => h M2 H2 σ2 cls d (s.transS r.rep hs s2) r2 (hs.trans s.there hs2)
  | stuck => exact h
theorem AfterS.bindS {q : Res (Flow × Ro)} {f : Flow × Ro → Res (Flow × Ro)} {D D' : Ends} (r : RepS C M ρ σ H) (h : AfterS C σ M H ρ (q.bind f) D)
    (hE : ∀ fl ρ1 M1 H1 σ1, q = .ok (fl, ρ1) → RepS C M1 ρ1 σ1 H1 → Stp (Ow ρ σ) M H M1 H1 → OwS ρ σ H ρ1 σ1 → AfterS C σ1 M1 H1 ρ1 (f (fl, ρ1)) D → ends C D' M1 H1 σ1 fl) : AfterS C σ M H ρ q D' := by
  cases q with
  | ok p => exact fun M1 H1 σ1 s1 r1 hs1 => hE p.1 p.2 M1 H1 σ1 rfl r1 s1 hs1 (AfterS.go r s1 hs1 h)
  | exc x ρ' => exact h
  | stuck => exact h
/-- an expression, then a statement -/
theorem AfterS.exprS {α : Type} {q : Res (α × Ro)} {f : α × Ro → Res (Flow × Ro)} {D : Ends} (r : RepS C M ρ σ H) (h : AfterS C σ M H ρ (q.bind f) D) :
    After C σ M H ρ q (fun M1 H1 a ρ1 => RepS C M1 ρ1 σ H1 ∧ AfterS C σ M1 H1 ρ1 (f (a, ρ1)) D) :=
  (AfterS.expr r h).mono fun M1 H1 a ρ1 s1 r1 hs1 ⟨rs, h1⟩ => ⟨rs, AfterS.go r s1 (fun a z => .inl (hs1 a z)) h1⟩
theorem AfterS.nowS {fl : Flow} {D : Ends} (r : RepS C M ρ σ H) (h : AfterS C σ M H ρ (.ok (fl, ρ)) D) : ends C D M H σ fl := h M H σ .refl r fun a z => .inl z
theorem st_pass : SSt Γ cl .pass := ⟨fun X C sc st L ok => by
  cases st with
  | Pass p => exact PS_imp ps_pass fun D σ H ⟨M, ρ, r, q⟩ => AfterS.nowS r q
  | _ => exact nomatch ok⟩
theorem st_brk : SSt Γ cl .brk := ⟨fun X C sc st L ok => by
  cases st with
  | Break p => exact PS_imp ps_break fun D σ H ⟨M, ρ, r, q⟩ => AfterS.nowS r q
  | _ => exact nomatch ok⟩
theorem st_cont : SSt Γ cl .cont := ⟨fun X C sc st L ok => by
  cases st with
  | Continue p => exact PS_imp ps_continue fun D σ H ⟨M, ρ, r, q⟩ => AfterS.nowS r q
  | _ => exact nomatch ok⟩
theorem st_ite {c : E} {a b : Ss} (hc : SE Γ cl c) (ha : SSts Γ cl a) (hb : SSts Γ cl b) : SSt Γ cl (.ite c a b) := by
  refine ⟨fun X C sc st L ok => ?_⟩
  cases st with
  | If t x y pos =>
    have ok : (okT Γ c sc t && okSs Γ sc a x && okSs Γ sc b y) = true := ok
    simp only [Bool.and_eq_true] at ok
    refine PS_imp (ps_if (hc.pt X C sc t L.toLk ok.1.1) (ha.pss X C sc x L ok.1.2) (hb.pss X C sc y L ok.2)) fun D σ H ⟨M, ρ, r, q⟩ => ?_
    refine ⟨M, ρ, r.rep, (AfterS.exprS r q).mono fun M1 H1 k ρ1 s1 r1 hs1 ⟨rs, h1⟩ => ?_⟩
    cases k with
    | true => exact ⟨M1, ρ1, rs, h1⟩
    | false => exact ⟨M1, ρ1, rs, h1⟩
  | _ => exact nomatch ok
theorem sts_nil : SSts Γ cl .nil := ⟨fun X C sc st L ok => by
  cases st with
  | nil => exact PSs_imp pss_nil fun D σ H ⟨M, ρ, r, q⟩ => AfterS.nowS r q
  | cons => exact nomatch ok⟩
theorem sts_cons {s : S} {rs : Ss} (h1 : SSt Γ cl s) (h2 : SSts Γ cl rs) : SSts Γ cl (.cons s rs) := ⟨fun X C sc st L ok => by
  cases st with
  | nil => exact nomatch ok
  | cons x xs =>
    have ok : (okS Γ sc s x && okSs Γ sc rs xs) = true := ok
    rw [Bool.and_eq_true] at ok
    refine PSs_imp (pss_cons (h1.ps X C sc x L ok.1) (h2.pss X C sc xs L ok.2)) fun D σ H ⟨M, ρ, r, q⟩ => ?_
    refine ⟨M, ρ, r, AfterS.bindS r q fun fl ρ1 M1 H1 σ1 e r1 s1 hs1 h => ?_⟩
    cases fl with
    | next => exact ⟨M1, ρ1, r1, h⟩
    | ret w => exact AfterS.nowS r1 h
    | brk => exact AfterS.nowS r1 h
    | cont => exact AfterS.nowS r1 h⟩
/-! ### targets in a def's own frame -/
theorem pg_fn (L : LkS Γ cl X C sc) {i : Nat} {e : Expr} (h : nameC Γ.N sc i e = true) : PG X e (gName i) := by
  cases e with
  | Name x p =>
    have h : (decide (Γ.N[i]? = some x) && locC sc x) = true := h
    simp only [Bool.and_eq_true, decide_eq_true_eq] at h
    exact pg_name (by rw [L.N]; exact L.nd) (by rw [L.N]; exact h.1) (locC_loc L.toLk h.2) (.inl (L.fnT x))
  | _ => exact nomatch h
theorem pgs_fn (L : LkS Γ cl X C sc) : ∀ (is : List Nat) (es : List Expr), namesC Γ.N sc is es = true →
    PGs X es (is.foldr (fun i u => gCons (gName i) u) gNil) ∧ (assignEach es X.env).length = is.length ∧ (assignEach es X.env).findIdx? (·.1) = none
  | [], [], _ => ⟨pgs_nil, rfl, rfl⟩
  | [], _ :: _, h => nomatch h
  | _ :: _, [], h => nomatch h
  | i :: is, e :: es, h => by
    have h : (nameC Γ.N sc i e && namesC Γ.N sc is es) = true := h
    rw [Bool.and_eq_true] at h
    obtain ⟨g1, g2, g3⟩ := pgs_fn L is es h.2
    cases e with
    | Name x p =>
      refine ⟨pgs_cons (pg_fn L h.1) g1 rfl, ?_, ?_⟩
      · rw [show assignEach (Expr.Name x p :: es) X.env = (false, assign (Expr.Name x p) X.env) :: assignEach es X.env from rfl]
        simp [g2]
      · rw [show assignEach (Expr.Name x p :: es) X.env = (false, assign (Expr.Name x p) X.env) :: assignEach es X.env from rfl]
        rw [List.findIdx?_cons]
        simp [g3]
    | _ => exact nomatch h.1
theorem pg_tgf (L : LkS Γ cl X C sc) {t : Tg} {e : Expr} (h : tgC Γ.N sc t e = true) : PG X e (gTg C.K t) := by
  cases t with
  | one i => exact pg_fn L h
  | many is =>
    cases e with
    | Tuple es k p =>
      obtain ⟨g1, g2, g3⟩ := pgs_fn L is es h
      rw [← L.K]
      exact pg_tup L.calm g1 g2 g3
    | _ => exact nomatch h
/-! ### loops -/
theorem st_while {n : Nat} {c : E} {b : Ss} (hc : SE Γ cl c) (hb : SSts Γ cl b) : SSt Γ cl (.while_ n c b) := by
  refine ⟨fun X C sc st L ok => ?_⟩
  have inv : ∃ t body pos, st = .While t body [] pos ∧ (okT Γ c sc t && okSs Γ sc b body) = true := by
    unfold okS at ok
    split at ok <;> first | contradiction | skip
    all_goals first | (rename_i heq; cases heq; exact ⟨_, _, _, rfl, ok⟩) | (rename_i heq _; cases heq; exact ⟨_, _, _, rfl, ok⟩)
  obtain ⟨t, body, pos, rfl, ok'⟩ := inv
  rw [Bool.and_eq_true] at ok'
  refine PS_imp (ps_while L.pass (hc.pt X C sc t L.toLk ok'.1) (hb.pss X C sc body L ok'.2)) fun D σ H ⟨M, ρ, r, q⟩ => ?_
  refine ⟨fun m σ' H' => ∃ M ρ, RepS C M ρ σ' H' ∧ AfterS C σ' M H' ρ (whileL (testOf (ev Γ.F cl c)) (execs Γ.F cl b) m ρ) D, ⟨n, M, ρ, r, q⟩, ?_⟩
  rintro m σ H ⟨M, ρ, r, q⟩
  cases m with
  | zero => exact q.elim
  | succ m =>
    unfold whileL at q
    refine ⟨M, ρ, r.rep, (AfterS.exprS r q).mono fun M1 H1 k ρ1 s1 r1 hs1 ⟨rs, h1⟩ => ?_⟩
    cases k with
    | true =>
      rw [if_pos rfl]
      refine ⟨fun σ' H' => ∃ M ρ, RepS C M ρ σ' H' ∧ AfterS C σ' M H' ρ (whileL (testOf (ev Γ.F cl c)) (execs Γ.F cl b) m ρ) D, fun σ' H' z => ⟨m, Nat.lt_succ_self _, z⟩, M1, ρ1, rs, AfterS.bindS (f := fun p => match p.1 with
        | .next => whileL (testOf (ev Γ.F cl c)) (execs Γ.F cl b) m p.2
        | .cont => whileL (testOf (ev Γ.F cl c)) (execs Γ.F cl b) m p.2
        | .brk => .ok (.next, p.2)
        | .ret w => .ok (.ret w, p.2)) rs h1 fun fl ρ2 M2 H2 σ2 e r2 s2 hs2 h => ?_⟩
      cases fl with
      | next => exact ⟨M2, ρ2, r2, h⟩
      | cont => exact ⟨M2, ρ2, r2, h⟩
      | brk => exact AfterS.nowS (fl := .next) r2 h
      | ret w => exact AfterS.nowS r2 h
    | false => exact AfterS.nowS (fl := .next) rs h1
theorem RepS.step0 (r : RepS C M ρ σ H) (s : Stp0 M H M1 H1) : RepS C M1 ρ σ H1 := r.after s.stp (r.rep.step0 s)
theorem st_for {t : Tg} {it : It} {b : Ss} (hit : SIt Γ cl it) (hb : SSts Γ cl b) : SSt Γ cl (.for_ t it b) := by
  refine ⟨fun X C sc st L ok => ?_⟩
  have inv : ∃ tg iter body pos, st = .For tg iter body [] pos ∧ (okIt Γ it sc iter (isTuple tg) && tgC Γ.N sc t tg && okSs Γ sc b body) = true := by
    unfold okS at ok
    split at ok <;> first | contradiction | skip
    all_goals first | (rename_i heq; cases heq; exact ⟨_, _, _, _, rfl, ok⟩) | (rename_i heq _; cases heq; exact ⟨_, _, _, _, rfl, ok⟩)
  obtain ⟨tg, iter, body, pos, rfl, ok'⟩ := inv
  simp only [Bool.and_eq_true] at ok'
  refine PS_imp (ps_for L.pass L.calm (hit.pi X C sc tg iter L.toLk ok'.1.1) (pg_tgf L ok'.1.2) (hb.pss X C sc body L ok'.2) (folded ok'.1.1 X.env)) fun D σ H ⟨M, ρ, r, q⟩ => ?_
  refine ⟨M, ρ, r.rep, (AfterS.exprS r q).mono fun M1 H1 items ρ1 s1 r1 hs1 ⟨rs, h1⟩ J hJ hz => ?_⟩
  obtain ⟨n, G, Y, hn, wk, hG, hY⟩ := hJ
  refine for_it wk (fun i σ' H' => ∃ M ρ, RepS C M ρ σ' H' ∧ Stp (Ow ρ1 σ) M1 H1 M H' ∧ OwS ρ1 σ H1 ρ σ' ∧ AfterS C σ' M H' ρ (forL (bindT t) (execs Γ.F cl b) (items.drop i) ρ) D) ?_ ?_ ?_ ?_
  · exact ⟨M1, ρ1, rs, .refl, fun a z => .inl z, h1⟩
  · rintro i σ' H' hi ⟨M2, ρ2, r2, s2, hs2, q2⟩
    exact hG _ M2 H' r1.owl s2
  · rintro i x σ' H' H2 hi ⟨M2, ρ2, r2, s2, hs2, q2⟩ hy
    rw [hn] at hi
    obtain ⟨s0, d, hd1, hd2⟩ := hY _ M2 H' i x H2 r1.owl s2 hi hy
    have hdrop : items.drop i = d :: items.drop (i + 1) := by
      rw [List.drop_eq_getElem_cons hi]
      rw [List.getElem?_eq_getElem hi] at hd1
      cases hd1
      rfl
    rw [hdrop] at q2
    unfold forL at q2
    obtain ⟨ρ3, e3, q3⟩ := q2.of
    have r2' := r2.step0 s0
    have sB : Stp (Ow ρ1 σ) M1 H1 M2 H2 := s2.trans (O' := fun _ => False) (fun _ z => z.elim) s0.stp
    refine gTg_read r2'.rep hd2 e3 fun σ3 r3 hs3 _ => ?_
    have r3' : RepS C M2 ρ3 σ3 H2 := ⟨r3, r2'.new0, r2'.there0⟩
    have o3 : OwS ρ2 σ' H' ρ3 σ3 := fun a z => .inl (hs3 a z)
    have q3' := AfterS.go r2 s0.stp o3 q3
    refine ⟨M2, ρ3, r3', AfterS.bindS r3' q3' fun fl ρ4 M4 H4 σ4 e r4 s4 hs4 h => ?_⟩
    have oB : OwS ρ1 σ H1 ρ3 σ3 := hs2.trans s2.there o3
    have cont : AfterS C σ4 M4 H4 ρ4 (forL (bindT t) (execs Γ.F cl b) (items.drop (i + 1)) ρ4) D → ∃ M ρ, RepS C M ρ σ4 H4 ∧ Stp (Ow ρ1 σ) M1 H1 M H4 ∧ OwS ρ1 σ H1 ρ σ4 ∧ AfterS C σ4 M H4 ρ (forL (bindT t) (execs Γ.F cl b) (items.drop (i + 1)) ρ) D :=
      fun h => ⟨M4, ρ4, r4, sB.transS r1 oB s4, oB.trans sB.there hs4, h⟩
    cases fl with
    | next => exact cont h
    | cont => exact cont h
    | brk => exact AfterS.nowS (fl := .next) r4 h
    | ret w => exact AfterS.nowS r4 h
  · rintro σ' H' ⟨M2, ρ2, r2, s2, hs2, q2⟩
    rw [hn, List.drop_length] at q2
    exact AfterS.nowS (fl := .next) r2 q2
end EV

end
section
set_option linter.all false
set_option maxRecDepth 100000
set_option Elab.async false
namespace EV
open PySem L2 PyProof.Rows
variable {Γ : Gam} {cl : Nat → List D → FRes} {X : Cx} {C : Ctx} {sc : Scope} {K : PySem.W.Frag} {M M' M0 M1 : AS} {H H' H1 : Hp} {σ : EV.St} {ρ ρ' ρ1 : Ro}
/-! ### a slot's list is changed -/
def Sv.put : Sv → List D → Sv
  | .dat d, _ => .dat d
  | .own _, ys => .own ys
  | .io _, ys => .io ys
theorem put_lst {s : Sv} {xs ys : List D} (h : s.lst? = some xs) : (s.put ys).lst? = some ys := by
  cases s with
  | dat d => cases h
  | own zs => rfl
  | io zs => rfl
theorem put_dat {s : Sv} {xs ys : List D} {d : D} (h : s.lst? = some xs) (e : s.put ys = .dat d) : False := by
  cases s with
  | dat d => cases h
  | own zs => cases e
  | io zs => cases e
theorem put_own {s : Sv} {xs ys zs : List D} (h : s.lst? = some xs) (e : s.put ys = .own zs) : s = .own xs ∧ zs = ys := by cases s <;> cases h <;> cases e <;> exact ⟨rfl, rfl⟩
theorem put_io {s : Sv} {xs ys zs : List D} (h : s.lst? = some xs) (e : s.put ys = .io zs) : s = .io xs ∧ zs = ys := by cases s <;> cases h <;> cases e <;> exact ⟨rfl, rfl⟩
theorem Rep.write {i : Nat} {s : Sv} {xs ys : List D} {a : Addr} {us vs : List V} (r : Rep K M0 M ρ σ H) (hi : ρ[i]? = some (some s)) (hl : s.lst? = some xs) (ha : σ[i]? = some (some (V.ref a))) (hH : H a = some (.lst us)) (hM : M a) (hd : DatA K M H vs ys) :
    Rep K M0 M (ρ.set i (some (s.put ys))) σ (upd H a (.lst vs)) ∧ Stp (Ow ρ σ) M H M (upd H a (.lst vs)) ∧ ∀ b, Ow (ρ.set i (some (s.put ys))) σ b → Ow ρ σ b := by
  have st : Stp (Ow ρ σ) M H M (upd H a (.lst vs)) := by
    refine ⟨fun b o e n => ?_, fun b z => .inl z, fun b z _ => z, fun b o e => ?_⟩
    · have ne : b ≠ a := fun z => n (z ▸ ⟨i, s, xs, hi, hl, ha⟩)
      rw [upd_ne ne]; exact e
    · by_cases q : b = a
      · subst q; exact ⟨_, upd_same⟩
      · exact ⟨o, by rw [upd_ne q]; exact e⟩
  have w := r.owl
  refine ⟨⟨by simpa using r.len, fun b z => ?_, r.sub, fun j d e => ?_, fun j t zs e l => ?_, fun j zs b e q => ?_, fun j zs b e q => ?_, fun j k b t u zs ws e1 e2 l1 l2 q1 q2 => ?_⟩, st, fun b ⟨j, t, zs, e, l, q⟩ => ?_⟩
  · obtain ⟨o, e⟩ := r.dom b z
    exact st.there b o e
  · rcases set_get e with ⟨rfl, e'⟩ | ⟨hj, e⟩
    · exact (put_dat hl (Option.some.inj e').symm).elim
    · obtain ⟨v, h1, h2⟩ := r.dat j d e
      exact ⟨v, h1, h2.step w st⟩
  · rcases set_get e with ⟨rfl, e'⟩ | ⟨hj, e⟩
    · cases e'
      rw [put_lst hl] at l
      cases l
      exact ⟨a, vs, ha, upd_same, hd.step w st, hM⟩
    · obtain ⟨b, ws, h1, h2, h3, h4⟩ := r.lst j t zs e l
      have ne : b ≠ a := fun z => hj (r.inj j i a t s zs xs e hi l hl (z ▸ h1) ha)
      exact ⟨b, ws, h1, by rw [upd_ne ne]; exact h2, h3.step w st, h4⟩
  · rcases set_get e with ⟨rfl, e'⟩ | ⟨hj, e⟩
    · obtain ⟨q1, _⟩ := put_own hl (Option.some.inj e').symm
      exact r.own j xs b (q1 ▸ hi) q
    · exact r.own j zs b e q
  · rcases set_get e with ⟨rfl, e'⟩ | ⟨hj, e⟩
    · obtain ⟨q1, _⟩ := put_io hl (Option.some.inj e').symm
      exact r.io j xs b (q1 ▸ hi) q
    · exact r.io j zs b e q
  · have old : ∀ {j : Nat} {t : Sv} {zs : List D}, (ρ.set i (some (s.put ys)))[j]? = some (some t) → t.lst? = some zs → ∃ t' zs', ρ[j]? = some (some t') ∧ t'.lst? = some zs' := fun {j t zs} e l => by
      rcases set_get e with ⟨rfl, e'⟩ | ⟨hj, e⟩
      · exact ⟨s, xs, hi, hl⟩
      · exact ⟨t, zs, e, l⟩
    obtain ⟨t', zs', e1', l1'⟩ := old e1 l1
    obtain ⟨u', ws', e2', l2'⟩ := old e2 l2
    exact r.inj j k b t' u' zs' ws' e1' e2' l1' l2' q1 q2
  · rcases set_get e with ⟨rfl, e'⟩ | ⟨hj, e⟩
    · exact ⟨_, s, xs, hi, hl, q⟩
    · exact ⟨j, t, zs, e, l, q⟩
/-! ### methods -/
theorem ext_seq {T : String} (hT : T = "list" ∨ T = "tuple") (l : Addr) (items : Array Value) (n : Nat) (b : Addr) (items2 : Array Value) (n2 : Nat) (dct : Option Addr) (sl : Array (Option Value)) (hs0 : ¬(!items.isEmpty && Builtin.List.listTooLong (items.size + items2.size)) = true) (hs1 : items.size ≤ sizeLine) (hs2 : items.size + items2.size ≤ sizeLine + 1) :
    Meets (Builtin.«list.extend» ⟨[.ref l, .ref b], []⟩) (fun _ R s => s.heap.get? l = some { cls := .type "list", dict := none, data := .seq items n, slots := #[] } ∧ s.heap.get? b = some { cls := .type T, dict := dct, data := .seq items2 n2, slots := sl } ∧ R (.ok (.ret Value.none)) { s with heap := s.heap.update l (Obj.mapSeq fun x => x ++ items2), toks := s.toks }) := by
  have hz' : (items ++ items2).size ≤ sizeLine + 1 := by rw [Array.size_append]; exact hs2
  have f1 := AutoSeq1.idx_int; have f2 := AutoSeq1.sub_tuple_tuple; have f3 := AutoSeq1.sub_list_list; have f4 := AutoSeq1.sub_tuple_list; have f5 := AutoSeq1.sub_list_tuple
  rcases hT with rfl | rfl
  · refine .of_wp fun prog w A R s h => ?_
    obtain ⟨hp, g, d, tk, os⟩ := s
    obtain ⟨hl, hb, h⟩ := h
    wp_walk using (wpAny_updateSeq hl rfl (hz := hs1) (_hz' := hz')), AutoSeq1.wpAny_loadPart' hl, AutoSeq1.wpAny_loadPart' hb; exact ⟨_, rfl, h⟩
  · refine .of_wp fun prog w A R s h => ?_
    obtain ⟨hp, g, d, tk, os⟩ := s
    obtain ⟨hl, hb, h⟩ := h
    wp_walk using (wpAny_updateSeq hl rfl (hz := hs1) (_hz' := hz')), AutoSeq1.wpAny_loadPart' hl, AutoSeq1.wpAny_loadPart' hb; exact ⟨_, rfl, h⟩
def rExt (K : PySem.W.Frag) : V → List V → Hp → VK → Prop := fun x vs H Q => ∃ M l us y d ys, x = .ref l ∧ vs = [y] ∧ H l = some (.lst us) ∧ Dat K M H y d ∧ items d = some ys ∧ us.length + ys.length ≤ sizeLine ∧ ∀ ws, DatA K M H ws ys → Q .non (upd H l (.lst (us ++ ws)))
theorem mt_ext : MtM X "list.extend" (rExt X.K) := by
  intro pins s σ H x vs v us' Q I rx rv h
  obtain ⟨M, l, xs, y, d, ys, rfl, rfl, hH, hd, hi, hz, q⟩ := h
  cases rx
  obtain ⟨u, rfl, ru⟩ := rv.one
  obtain ⟨z, its, n, r, hl, e⟩ := I.lstM hH
  have go : ∀ (T : String) (hT : T = "list" ∨ T = "tuple") (b : Addr) (ws : List V) (its2 : List Value) (o : Obj) (n2 : Nat), DatA X.K M H ws ys → Vals ws its2 → s.heap.get? b = some o → o.cls = .type T → o.data = .seq its2.toArray n2 → wpAny (model X.prog X.w) X.A (call (.builtin "list.extend") [.ref l, .ref b]) (EP X pins σ Q) X.xe s := by
    intro T hT b ws its2 o n2 hws r2 e2 hc hda
    have hl2 := r2.length
    have hl3 := hws.length
    have hsz : its.toArray.size + its2.toArray.size ≤ sizeLine := by rw [List.size_toArray, List.size_toArray]; omega
    have hlong : ¬ (!its.toArray.isEmpty && Builtin.List.listTooLong (its.toArray.size + its2.toArray.size)) = true := by
      rw [notLongL hsz, Bool.and_false]
      exact Bool.false_ne_true
    obtain ⟨c, dct, da, sl⟩ := o
    cases hc
    cases hda
    refine call_meets F.slot_list_extend ⟨_, e, rfl⟩ F.entry_list_extend (F.args_list_extend_2 _ _)
      (ext_seq hT l its.toArray n b its2.toArray n2 dct sl hlong (by rw [List.size_toArray]; omega) (by omega)) ⟨e, e2, ?_⟩
    refine ⟨.non, _, I.lset (its' := its ++ its2) hH e (by simp) (r.append r2) ?_, rfl, q ws hws⟩
    rw [List.length_append]
    omega
  cases hd with
  | lst rr nn qq =>
    cases hi
    cases ru
    obtain ⟨its2, r2, ⟨o, n2, p1, p2, p3, p4⟩, _⟩ := I.list (.inl rr)
    exact go "list" (.inl rfl) _ _ its2 o n2 qq r2 p1 p2 p4
  | tup rr qq =>
    cases hi
    cases ru
    obtain ⟨its2, r2, ⟨o, p1, p2, n2, p4⟩, _⟩ := I.tuple rr
    exact go "tuple" (.inr rfl) _ _ its2 o n2 qq r2 p1 p2 p4
  | _ => cases hi
def rPopK : V → List V → Hp → VK → Prop := fun x vs H Q => ∃ l xs i k y, x = .ref l ∧ vs = [.int i] ∧ H l = some (.lst xs) ∧ EV.ixN xs.length i = some k ∧ xs[k]? = some y ∧ Q y (upd H l (.lst (xs.eraseIdx k)))
theorem mt_popK : MtM X "list.pop" rPopK := by
  intro pins s σ H x vs v us Q I rx rv h
  obtain ⟨l, xs, i, k, y, e1, e2, hH, hk, hy, q⟩ := h
  obtain ⟨z, _⟩ := I.lstM hH
  obtain ⟨h1, h2, h3, h4⟩ := ixN_seq (ixN_same ▸ hk)
  have hn := line63
  exact mt_popAt pins s σ H x vs v us Q I rx rv ⟨l, xs, i, k, y, e1, e2, hH, by omega, by omega, h1, hy, q⟩
end EV

end
section
set_option linter.all false
set_option maxRecDepth 100000
set_option Elab.async false
namespace EV
open PySem L2 PyProof.Rows
variable {Γ : Gam} {cl : Nat → List D → FRes} {X : Cx} {C : Ctx} {sc : Scope} {K : PySem.W.Frag} {M M' M0 M1 : AS} {H H' H1 : Hp} {σ : EV.St} {ρ ρ' ρ1 : Ro}
/-! ### a method on a slot's list -/
theorem backTo_plain (pos : Pos) (env : Env) : ∀ {es : Es} {xs : List Expr}, okEs Γ es sc xs = true → (backTo pos (starEach xs env)).all (fun x => !x.1) = true
  | es, xs, h => by
    have := nostar pos env h
    rw [List.any_eq_false] at this
    rw [List.all_eq_true]
    intro x hx
    have q := this x hx
    cases e : x.1 with
    | false => rfl
    | true => exact absurd e q
def rMe (K : PySem.W.Frag) : Me → V → List V → Hp → VK → Prop
  | .append => rAppend
  | .extend => rExt K
  | .popAt => rPopK
theorem me_rule {m : Me} : ∃ id, Slot "list" (methName m) id ∧ typeOf (.builtin id) = pure (.type "method_descriptor") ∧ MtR X id (rMe X.K m) := by
  cases m with
  | append => exact ⟨_, F.slot_list_append, F.type_list_append, mt_append⟩
  | extend => exact ⟨_, F.slot_list_extend, F.type_list_extend, mt_ext⟩
  | popAt => exact ⟨_, F.slot_list_pop, F.type_list_pop, mt_popK⟩
theorem meth_read {m : Me} {i : Nat} {es : Es} {Q : VK} (h : tW C (evG Γ cl (.meth m i es)) σ H Q) :
    tBM C.K "list" (rMe C.K m) (tVar i) (fun σ H Q => ∃ M ρ, Rep C.K C.M0 M ρ σ H ∧ After C σ M H ρ (evL Γ.F cl es ρ) fun M' H' ds _ => ∀ vs, DatA C.K M' H' vs ds → Q vs H') σ H Q := by
  obtain ⟨M, ρ, r, q⟩ := h
  have q : After C σ M H ρ (if isOwnSlot ρ i then (evL Γ.F cl es ρ).bind fun p => methE m i p.1 p.2 else .stuck) _ := q
  split at q
  · rename_i ho
    obtain ⟨xs0, ho⟩ := ownSlot ho
    obtain ⟨a, us0, h1, h2, h3, h4⟩ := r.lst i _ xs0 ho rfl
    refine ⟨_, h1, .inl ⟨rfl, us0, .inl (.inl h2)⟩, M, ρ, r, (After.bind q).mono fun M1 H1 ds ρ1 s1 r1 hs1 q1 vs hvs => ?_⟩
    unfold methE at q1
    cases hg : get ρ1 i with
    | none => rw [hg] at q1; exact q1.elim
    | some sv =>
      rw [hg] at q1
      cases sv with
      | dat d => exact q1.elim
      | io d => exact q1.elim
      | own xs =>
        have hg' := get_some hg
        obtain ⟨a', us, g1, g2, g3, g4⟩ := r1.lst i _ xs hg' rfl
        rw [h1] at g1
        cases g1
        have hlen := g3.length
        cases m with
        | append =>
          match ds, hvs, q1 with
          | [d], .cons (v := y) hy .nil, q1 =>
            dsimp only at q1
            split at q1
            · rename_i hz
              obtain ⟨w1, w2, w3⟩ := r1.write hg' rfl h1 g2 g4 (g3.append (.cons hy .nil))
              exact ⟨a, us, y, rfl, rfl, g2, by omega, q1 M1 _ w2 w1 w3 _ .non⟩
            · exact q1.elim
          | [], _, q1 => exact q1.elim
          | _ :: _ :: _, _, q1 => exact q1.elim
        | extend =>
          match ds, hvs, q1 with
          | [d], .cons (v := y) hy .nil, q1 =>
            dsimp only at q1
            split at q1
            · rename_i ys hys
              split at q1
              · rename_i hz
                refine ⟨M1, a, us, y, d, ys, rfl, rfl, g2, hy, hys, by omega, fun ws hws => ?_⟩
                obtain ⟨w1, w2, w3⟩ := r1.write hg' rfl h1 g2 g4 (g3.append hws)
                exact q1 M1 _ w2 w1 w3 _ .non
              · exact q1.elim
            · exact q1.elim
          | [], _, q1 => exact q1.elim
          | _ :: _ :: _, _, q1 => exact q1.elim
        | popAt =>
          match ds, hvs, q1 with
          | [.int k], .cons (.int _) .nil, q1 =>
            dsimp only at q1
            split at q1
            · rename_i j hj
              split at q1
              · rename_i d hd
                obtain ⟨y, hy1, hy2⟩ := g3.get hd
                obtain ⟨w1, w2, w3⟩ := r1.write hg' rfl h1 g2 g4 (g3.eraseIdx j)
                exact ⟨a, us, k, j, y, rfl, rfl, g2, by rw [hlen]; exact hj, hy1, q1 M1 _ w2 w1 w3 _ (hy2.step r1.owl w2)⟩
              · exact q1.elim
            · exact q1.elim
          | [.none], _, q1 => exact q1.elim
          | [.bool _], _, q1 => exact q1.elim
          | [.str _], _, q1 => exact q1.elim
          | [.list _], _, q1 => exact q1.elim
          | [.tuple _], _, q1 => exact q1.elim
          | [.dict _], _, q1 => exact q1.elim
          | [], _, q1 => exact q1.elim
          | .int _ :: _ :: _, _, q1 => exact q1.elim
          | .none :: _ :: _, _, q1 => exact q1.elim
          | .bool _ :: _ :: _, _, q1 => exact q1.elim
          | .str _ :: _ :: _, _, q1 => exact q1.elim
          | .list _ :: _ :: _, _, q1 => exact q1.elim
          | .tuple _ :: _ :: _, _, q1 => exact q1.elim
          | .dict _ :: _ :: _, _, q1 => exact q1.elim
  · exact q.elim
theorem se_meth {m : Me} {i : Nat} {es : Es} (hs : SAll Γ cl es) : SE Γ cl (.meth m i es) := by
  refine ⟨fun X C sc e L h => ?_, fun X C sc e L h => by cases e <;> exact nomatch h⟩
  cases e with
  | Call f xs ks pos =>
    cases ks with
    | cons => exact nomatch h
    | nil =>
      have h : (methC Γ.N sc m i f pos && decide (xs.length = 1) && okEs Γ es sc xs) = true := h
      simp only [Bool.and_eq_true, decide_eq_true_eq] at h
      obtain ⟨⟨h1, h2⟩, h3⟩ := h
      cases f with
      | Attribute o nm ap =>
        cases o with
        | Name x p =>
          have h1 : (decide (nm = methName m) && decide (Γ.N[i]? = some x) && visC sc x && nmC x && (ap.endLine == pos.line)) = true := h1
          simp only [Bool.and_eq_true] at h1
          obtain ⟨⟨⟨⟨g1, g2⟩, g3⟩, g4⟩, g5⟩ := h1
          cases (of_decide_eq_true g1)
          match xs, h2 with
          | [y], _ =>
            obtain ⟨id, r1, r2, r3⟩ := me_rule (X := X) (m := m)
            match es, hs, h3 with
            | .cons e0 .nil, hs, h3 =>
              have h3' := h3
              have h3 : (okE Γ e0 sc y && true) = true := h3
              rw [Bool.and_true] at h3
              have star := star_of h3 [] X.env
              refine PE_imp (pe_bm F.plainAttrs_list r1 r2 r3 (var_pe L (by simp only [Bool.and_eq_true]; exact ⟨⟨g2, g3⟩, g4⟩) : PE X (.Name x p) (tVar i)) (pa_L L _ [y] hs h3') rfl ?_ g5 star rfl) fun σ H Q q => ?_
              · rw [backTo_plain pos X.env h3']; rfl
              · have := meth_read q
                rw [L.K]
                exact this
            | .nil, _, h3 => exact nomatch h3
            | .star _ _, _, h3 => exact nomatch h3
            | .cons _ (.cons _ _), _, h3 =>
              have h3 : (okE Γ _ sc y && false) = true := h3
              rw [Bool.and_false] at h3; cases h3
            | .cons _ (.star _ _), _, h3 =>
              have h3 : (okE Γ _ sc y && false) = true := h3
              rw [Bool.and_false] at h3; cases h3
        | _ => exact nomatch h1
      | _ => exact nomatch h1
  | _ => exact nomatch h
end EV

end
section
set_option linter.all false
set_option maxRecDepth 100000
set_option Elab.async false
namespace EV
open PySem L2 PyProof.Rows
variable {Γ : Gam} {cl : Nat → List D → FRes} {X : Cx} {C : Ctx} {sc : Scope} {K : PySem.W.Frag} {M M' M0 M1 : AS} {H H' H1 : Hp} {σ : EV.St} {ρ ρ' ρ1 : Ro}
/-! ### x[k] = v -/
theorem swaps_other {v tg : Expr} (h : ∀ x p, tg ≠ .Name x p) (l : Nat) (env : Env) : swapsWithSole [tg] v l env = pure false := by
  unfold swapsWithSole
  cases v <;> first | rfl | (unfold swapsWith; cases tg <;> first | rfl | (exact absurd rfl (h _ _)))
theorem sub_read {i : Nat} {k e : E} {D : Ends} (h : tS C (exec Γ.F cl (.sub i k e)) D σ H) : tAsg (tD C (datOf (evG Γ cl e))) (gSub (tVar i) (tD C (datOf (evG Γ cl k))) rSetL) D σ H := by
  obtain ⟨M, ρ, r, q⟩ := h
  have q : AfterS C σ M H ρ (if isListSlot ρ i = false then .stuck else (datOf (evG Γ cl e) ρ).bind fun p => (datOf (evG Γ cl k) p.2).bind fun q => (Res.of (subD i q.1 p.1 q.2)).bind fun ρ' => .ok (.next, ρ')) D := q
  cases hl : isListSlot ρ i with
  | false => rw [hl, if_pos rfl] at q; exact q.elim
  | true =>
    rw [hl, if_neg (by decide)] at q
    obtain ⟨s, xs0, e0, e1, e2⟩ := listSlot hl
    obtain ⟨a, us0, h1, h2, h3, h4⟩ := r.rep.lst i s xs0 e0 e1
    refine ⟨M, ρ, r.rep, (AfterS.exprS r q).mono fun M1 H1 d ρ1 s1 r1 hs1 ⟨rs1, q1⟩ v hv => ?_⟩
    refine ⟨_, h1, M1, ρ1, r1, (AfterS.exprS rs1 q1).mono fun M2 H2 kd ρ2 s2 r2 hs2 ⟨rs2, q2⟩ kv hkv => ?_⟩
    obtain ⟨ρ3, g1, q3⟩ := q2.of
    have hv2 := hv.step r1.owl s2
    have main : ∀ (j : Int) (t : Sv) (xs : List EV.D) (n : Nat), kd = .int j → get ρ2 i = some t → t.lst? = some xs → EV.ixN xs.length j = some n → ρ3 = ρ2.set i (some (t.put (xs.set n d))) → rSetL (.ref a) kv v H2 fun H3 => D.nx σ H3 := by
      intro j t xs n hk ht htl hn hρ
      subst hk
      cases hkv
      have ht' := get_some ht
      obtain ⟨a', us, z1, z2, z3, z4⟩ := r2.lst i t xs ht' htl
      rw [h1] at z1
      cases z1
      obtain ⟨w1, w2, w3⟩ := r2.write ht' htl h1 z2 z4 (z3.set n hv2)
      refine ⟨a, us, j, n, rfl, rfl, z2, by rw [z3.length]; exact hn, ?_⟩
      subst hρ
      exact q3 M2 _ σ w2 (rs2.after w2 w1) fun b z => .inl (w3 b z)
    unfold subD at g1
    split at g1
    · rename_i j hj
      split at g1
      · rename_i xs hx
        obtain ⟨n, hn, rfl⟩ := Option.map_eq_some_iff.mp g1
        exact main j _ xs n (by assumption) hx rfl hn rfl
      · rename_i xs hx
        obtain ⟨n, hn, rfl⟩ := Option.map_eq_some_iff.mp g1
        exact main j _ xs n (by assumption) hx rfl hn rfl
      · cases g1
    · cases g1
theorem st_sub {i : Nat} {k e : E} (hk : SE Γ cl k) (he : SE Γ cl e) : SSt Γ cl (.sub i k e) := by
  refine ⟨fun X C sc st L ok => ?_⟩
  have inv : ∃ x p ix p2 v pos, st = .Assign [.Subscript (.Name x p) ix p2] v pos ∧ (decide (Γ.N[i]? = some x) && visC sc x && nmC x && !isSlice ix && okE Γ k sc ix && okE Γ e sc v) = true := by
    unfold okS at ok
    split at ok <;> first | contradiction | skip
    all_goals first | (rename_i heq; cases heq; exact ⟨_, _, _, _, _, _, rfl, ok⟩) | (rename_i heq _; cases heq; exact ⟨_, _, _, _, _, _, rfl, ok⟩)
  obtain ⟨x, p, ix, p2, v, pos, rfl, ok'⟩ := inv
  simp only [Bool.and_eq_true, Bool.not_eq_true'] at ok'
  obtain ⟨⟨⟨⟨⟨g1, g2⟩, g3⟩, g4⟩, g5⟩, g6⟩ := ok'
  have name : PE X (.Name x p) (tVar i) := var_pe L.toLk (by simp only [Bool.and_eq_true]; exact ⟨⟨g1, g2⟩, g3⟩)
  refine PS_imp (ps_asg (tD_of (he.pe X C sc v L.toLk g6)) (pg_sub name (tD_of (hk.pe X C sc ix L.toLk g5)) set_list (by intro u; cases ix <;> first | rfl | cases g4)) (swaps_other (by intro x p h; cases h) _ _) rfl rfl) fun D σ H q => sub_read q
/-! ### a, b = e -/
theorem swS_no {ts : List Expr} {k : Nat} {p : Pos} {v : Expr} (h : isTuple v = false) (env : Env) : swappedStores [.Tuple ts k p] v env = pure none := by
  cases v <;> first | rfl | cases h
theorem asgT_read {is : List Nat} {e : E} {D : Ends} (h : tS C (exec Γ.F cl (.asgT is e)) D σ H) : tAsg (tD C (datOf (evG Γ cl e))) (gTg C.K (.many is)) D σ H := by
  obtain ⟨M, ρ, r, q⟩ := h
  refine ⟨M, ρ, r.rep, (AfterS.exprS r q).mono fun M1 H1 d ρ1 s1 r1 hs1 ⟨rs1, q1⟩ v hv => ?_⟩
  cases d with
  | tuple ds =>
    obtain ⟨ρ2, e2, q2⟩ := AfterS.of (o := setDs ρ1 is ds) q1
    exact gTg_read r1 hv (t := .many is) (d := .tuple ds) e2 fun σ2 r2 hs2 _ => q2 M1 H1 σ2 .refl ⟨r2, rs1.new0, rs1.there0⟩ fun a z => .inl (hs2 a z)
  | _ => exact q1.elim
theorem st_asgT {is : List Nat} {e : E} (he : SE Γ cl e) : SSt Γ cl (.asgT is e) := by
  refine ⟨fun X C sc st L ok => ?_⟩
  have inv : ∃ ts k p v pos, st = .Assign [.Tuple ts k p] v pos ∧ (namesC Γ.N sc is ts && !isTuple v && okE Γ e sc v) = true := by
    unfold okS at ok
    split at ok <;> first | contradiction | skip
    all_goals first | (rename_i heq; cases heq; exact ⟨_, _, _, _, _, rfl, ok⟩) | (rename_i heq _; cases heq; exact ⟨_, _, _, _, _, rfl, ok⟩)
  obtain ⟨ts, k, p, v, pos, rfl, ok'⟩ := inv
  simp only [Bool.and_eq_true, Bool.not_eq_true'] at ok'
  obtain ⟨⟨g1, g2⟩, g3⟩ := ok'
  exact PS_imp (ps_asg (tD_of (he.pe X C sc v L.toLk g3)) (pg_tgf (t := .many is) L g1) (swaps_other (by intro x p h; cases h) _ _) (swS_no g2 _) rfl) fun D σ H q => asgT_read q
/-! ### a, b = x, y -/
def VWs (K : PySem.W.Frag) (M : AS) (H' : Hp) : Hp → List V → List W → Prop
  | _, [], [] => True
  | H, v :: vs, w :: ws => VW0 K H M H' v w ∧ ∃ H1, (∀ a o, H a = some o → ∃ o', H1 a = some o') ∧ (∀ p xs, w = .new xs → v = .ref p → ∃ o, H1 p = some o) ∧ VWs K M H' H1 vs ws
  | _, _, _ => False
theorem VWs.from : ∀ {vs : List V} {ws : List W} {H H0 : Hp}, (∀ a o, H0 a = some o → ∃ o', H a = some o') → VWs K M H' H vs ws → VWs K M H' H0 vs ws
  | [], [], _, _, _, _ => trivial
  | v :: vs, w :: ws, H, H0, t, ⟨h1, H1, h2, h3, h4⟩ => ⟨h1.from t, H1, fun a o e => by obtain ⟨o', e'⟩ := t a o e; exact h2 a o' e', h3, h4⟩
theorem pa_W (L : Lk Γ cl X C sc) : ∀ (es : Es) (xs : List Expr), SAll Γ cl es → okEs Γ es sc xs = true →
    PA X xs (fun σ H Q => ∃ M ρ, Rep C.K C.M0 M ρ σ H ∧ After C σ M H ρ (evWs Γ.F cl es ρ) fun M' H' ws _ => ∀ vs, VWs C.K M' H' H vs ws → Q vs H')
  | .nil, [], _, _ => PA_imp pa_nil fun σ H Q ⟨M, ρ, r, q⟩ => After.now (a := ([] : List W)) r q [] trivial
  | .nil, _ :: _, _, h => nomatch h
  | .star _ _, xs, _, h => by cases xs <;> exact nomatch h
  | .cons e es, [], _, h => nomatch h
  | .cons e es, x :: xs, s, h => by
    have h : (okE Γ e sc x && okEs Γ es sc xs) = true := h
    rw [Bool.and_eq_true] at h
    refine PA_imp (pa_cons (s.1.pe X C sc x L h.1) (pa_W L es xs s.2 h.2) (star_of h.1 xs X.env)) fun σ H Q ⟨M, ρ, r, q⟩ => ?_
    refine ⟨M, ρ, r, (After.bind q).mono fun M1 H1 d ρ1 s1 r1 hs1 h1 v hv => ⟨M1, ρ1, r1, (After.bind h1).mono fun M2 H2 ds ρ2 s2 r2 hs2 h2 vs hvs => ?_⟩⟩
    refine h2.now r2 (v :: vs) ⟨hv.step r r1.owl hs1 s2, H1, s1.there, fun p ys ew ev => ?_, hvs⟩
    subst ew; subst ev
    obtain ⟨p', us, e1, e2, e3, e4, e5⟩ := hv
    cases e1
    exact ⟨_, e3⟩
theorem Rep.setNew {i : Nat} {p : Addr} {xs : List EV.D} {us : List V} (r : Rep K M0 M ρ σ H) (hp : H p = some (.lst us)) (hd : DatA K M H us xs) (hm : M p) (f2 : ¬ M0 p) (f4 : ¬ Ow ρ σ p) (h : setD ρ i (.new xs) = some ρ') :
    Rep K M0 M ρ' (σ.set i (some (V.ref p))) H ∧ ∀ a, Ow ρ' (σ.set i (some (V.ref p))) a → Ow ρ σ a ∨ a = p := by
  obtain ⟨hl, hio, rfl⟩ := setD_some h
  have hlσ : i < σ.length := by rw [← r.len]; exact hl
  have ne : ∀ {j : Nat}, j ≠ i → (σ.set i (some (V.ref p)))[j]? = σ[j]? := fun hj => List.getElem?_set_ne (Ne.symm hj)
  have at_ : (σ.set i (some (V.ref p)))[i]? = some (some (V.ref p)) := List.getElem?_set_self hlσ
  refine ⟨⟨by simpa using r.len, r.dom, r.sub, fun j d' e => ?_, fun j t ys e l => ?_, fun j ys a e q => ?_, fun j ys a e q => ?_, fun j k a t u ys zs e1 e2 l1 l2 q1 q2 => ?_⟩, fun a ⟨j, t, ys, e, l, q⟩ => ?_⟩
  · rcases set_get e with ⟨rfl, e'⟩ | ⟨hj, e⟩
    · cases e'
    · rw [ne hj]; exact r.dat j d' e
  · rcases set_get e with ⟨rfl, e'⟩ | ⟨hj, e⟩
    · cases e'; cases l; exact ⟨p, us, at_, hp, hd, hm⟩
    · rw [ne hj]; exact r.lst j t ys e l
  · rcases set_get e with ⟨rfl, e'⟩ | ⟨hj, e⟩
    · rw [at_] at q; cases q; exact f2
    · rw [ne hj] at q; exact r.own j ys a e q
  · rcases set_get e with ⟨rfl, e'⟩ | ⟨hj, e⟩
    · cases e'
    · rw [ne hj] at q; exact r.io j ys a e q
  · rcases set_get e1 with ⟨hj, e'⟩ | ⟨hj, e1'⟩
    · rcases set_get e2 with ⟨hk, e''⟩ | ⟨hk, e2'⟩
      · rw [hj, hk]
      · rw [hj, at_] at q1; cases q1
        rw [ne hk] at q2
        exact (f4 ⟨k, u, zs, e2', l2, q2⟩).elim
    · rcases set_get e2 with ⟨hk, e''⟩ | ⟨hk, e2'⟩
      · rw [hk, at_] at q2; cases q2
        rw [ne hj] at q1
        exact (f4 ⟨j, t, ys, e1', l1, q1⟩).elim
      · rw [ne hj] at q1; rw [ne hk] at q2
        exact r.inj j k a t u ys zs e1' e2' l1 l2 q1 q2
  · rcases set_get e with ⟨rfl, e'⟩ | ⟨hj, e⟩
    · rw [at_] at q; cases q; exact .inr rfl
    · rw [ne hj] at q; exact .inl ⟨j, t, ys, e, l, q⟩
theorem setAll_rep : ∀ (is : List Nat) {vs : List V} {ws : List W} {ρ ρ' : Ro} {σ : EV.St} {H0 : Hp} {Q : EV.St → Hp → Prop}, VWs K M H H0 vs ws → Rep K M0 M ρ σ H → (∀ a, Ow ρ σ a ∨ M0 a → ∃ o, H0 a = some o) → setAll ρ is ws = some ρ' →
    (∀ σ', Rep K M0 M ρ' σ' H → (∀ a, Ow ρ' σ' a → Ow ρ σ a ∨ H0 a = none) → Q σ' H) → (is.foldr (fun i u => gCons (gName i) u) gNil) vs σ H Q
  | [], [], [], ρ, ρ', σ, H0, Q, _, r, _, e, k => by cases e; exact ⟨rfl, k σ r fun a z => .inl z⟩
  | [], [], _ :: _, _, _, _, _, _, h, _, _, _, _ => h.elim
  | [], _ :: _, [], _, _, _, _, _, h, _, _, _, _ => h.elim
  | [], _ :: _, _ :: _, _, _, _, _, _, _, _, _, e, _ => nomatch e
  | _ :: _, [], [], _, _, _, _, _, _, _, _, e, _ => nomatch e
  | _ :: _, [], _ :: _, _, _, _, _, _, h, _, _, _, _ => h.elim
  | _ :: _, _ :: _, [], _, _, _, _, _, h, _, _, _, _ => h.elim
  | i :: is, v :: vs, w :: ws, ρ, ρ', σ, H0, Q, ⟨h1, H1, h2, h3, h4⟩, r, hd, e, k => by
    have e : ((setD ρ i w).bind fun ρ' => setAll ρ' is ws) = some ρ' := e
    obtain ⟨ρ1, e1, e2⟩ := Option.bind_eq_some_iff.mp e
    refine ⟨v, vs, rfl, ?_⟩
    cases w with
    | dat d =>
      obtain ⟨r1, o1⟩ := r.setDat h1 e1
      refine setAll_rep is h4 r1 (fun a z => ?_) e2 fun σ' r' o' => k σ' r' fun a z => ?_
      · obtain ⟨o, q⟩ := hd a (z.imp (o1 a) id); exact h2 a o q
      · rcases o' a z with q | q
        · exact .inl (o1 a q)
        · right
          cases e : H0 a with
          | none => rfl
          | some o => obtain ⟨o', e'⟩ := h2 a o e; rw [q] at e'; cases e'
    | new xs =>
      obtain ⟨p, us, rfl, hn, hp, hda, hm⟩ := h1
      have f2 : ¬ M0 p := fun z => by obtain ⟨o, q⟩ := hd p (.inr z); rw [hn] at q; cases q
      have f4 : ¬ Ow ρ σ p := fun z => by obtain ⟨o, q⟩ := hd p (.inl z); rw [hn] at q; cases q
      obtain ⟨r1, o1⟩ := r.setNew hp hda hm f2 f4 e1
      refine setAll_rep is h4 r1 (fun a z => ?_) e2 fun σ' r' o' => k σ' r' fun a z => ?_
      · rcases z with z | z
        · rcases o1 a z with q | q
          · obtain ⟨o, q⟩ := hd a (.inl q); exact h2 a o q
          · subst q; exact h3 a xs rfl rfl
        · obtain ⟨o, q⟩ := hd a (.inr z); exact h2 a o q
      · rcases o' a z with q | q
        · rcases o1 a q with q | q
          · exact .inl q
          · subst q; exact .inr hn
        · right
          cases e : H0 a with
          | none => rfl
          | some o => obtain ⟨o', e'⟩ := h2 a o e; rw [q] at e'; cases e'
theorem VWs.step0 {H2 : Hp} {M2 : AS} (s : Stp0 M H' M2 H2) : ∀ {vs : List V} {ws : List W} {H : Hp}, VWs K M H' H vs ws → VWs K M2 H2 H vs ws
  | [], [], _, h => h
  | [], _ :: _, _, h => h.elim
  | _ :: _, [], _, h => h.elim
  | v :: vs, w :: ws, H, ⟨h1, H1, h2, h3, h4⟩ => by
    refine ⟨?_, H1, h2, h3, VWs.step0 s h4⟩
    cases w with
    | dat d => exact Dat.step0 s h1
    | new xs =>
      obtain ⟨p, us, e, hn, hp, hda, hm⟩ := h1
      exact ⟨p, us, e, hn, s.keep _ _ hp, hda.step0 s, s.old _ hm⟩
theorem names_each {is : List Nat} {ts : List Expr} (h : namesC Γ.N sc is ts = true) : ∀ {i : Nat}, i < is.length → ∃ x p, ts[i]? = some (.Name x p) := by
  induction is generalizing ts with
  | nil => intro i hi; cases hi
  | cons j js ih =>
    cases ts with
    | nil => exact nomatch h
    | cons t ts =>
      have h : (nameC Γ.N sc j t && namesC Γ.N sc js ts) = true := h
      rw [Bool.and_eq_true] at h
      intro i hi
      cases i with
      | zero =>
        cases t with
        | Name x p => exact ⟨x, p, rfl⟩
        | _ => exact nomatch h.1
      | succ i => exact ih h.2 (by simpa using hi)
theorem sw_same {ts xs : List Expr} {k k2 : Nat} {p p2 : Pos} {o : Option (List Str)} (L : Lk Γ cl X C sc) (h : swP sc ts xs = some o) : swappedStores [.Tuple ts k p] (.Tuple xs k2 p2) X.env = pure o := by
  have hb : X.env.blockKind = .function := by unfold Env.blockKind; rw [L.scope, L.kind]; rfl
  have hk : ∀ x, X.env.kindOf x = sc.names.lookup x := fun x => by unfold Env.kindOf; rw [L.scope]
  unfold swappedStores
  unfold swP at h
  simp only [hb, hk]
  have e1 : (ScopeKind.function != ScopeKind.function) = false := by decide
  rw [e1, Bool.or_false]
  by_cases q1 : (!(ts.length == 2 || ts.length == 3) || xs.length != ts.length) = true
  · rw [if_pos q1] at h ⊢; cases h; rfl
  rw [if_neg q1] at h ⊢
  by_cases q2 : xs.any isStarred = true
  · rw [if_pos q2] at h
    cases h
    exact if_pos q2
  rw [if_neg q2] at h
  refine (if_neg q2).trans ?_
  dsimp only at h
  split at h
  · rename_i q3
    cases h
    exact if_pos q3
  · rename_i q3
    refine (if_neg q3).trans ?_
    split at h
    · rename_i q4
      cases h
      exact if_pos q4
    · rename_i q4
      refine (if_neg q4).trans ?_
      split at h
      · cases h
      · rename_i q5
        cases h
        exact if_neg q5
theorem filterMap_full {α β : Type} {f : α → Option β} : ∀ {ts : List α}, (ts.filterMap f).length = ts.length → ts.map f = (ts.filterMap f).map some
  | [], _ => rfl
  | t :: ts, h => by
    cases e : f t with
    | none =>
      rw [List.filterMap_cons_none e] at h
      have := List.length_filterMap_le f ts
      simp at h
      omega
    | some b =>
      rw [List.filterMap_cons_some e] at h ⊢
      simp only [List.length_cons, Nat.succ.injEq, List.map_cons] at h ⊢
      rw [e, filterMap_full (by omega)]
theorem swN_some {x y : Str} {p : Pos} {line : Nat} (h : swN sc line (.Name x p) = some y) : y = x ∧ sc.names.lookup x = some .local := by
  have h : (if sc.names.lookup x == some .local && p.line == line then some x else none) = some y := h
  split at h
  · rename_i q
    rw [Bool.and_eq_true] at q
    cases h
    exact ⟨rfl, by simpa using q.1⟩
  · cases h
theorem sw_names {ts xs : List Expr} {o : List Str} (h : swP sc ts xs = some (some o)) : ∃ line, ts.map (swN sc line) = o.map some := by
  unfold swP at h
  split at h
  · cases h
  split at h
  · cases h
  dsimp only at h
  split at h
  · cases h
  rename_i q
  split at h
  · cases h
  split at h
  · cases h
  cases h
  simp only [Bool.or_eq_true, not_or] at q
  have q := q.1
  exact ⟨_, filterMap_full (Decidable.byContradiction fun z => q (bne_iff_ne.mpr z))⟩
theorem sw_two {x y : Str} {px py : Pos} {xs : List Expr} {o : List Str} (h : swP sc [.Name x px, .Name y py] xs = some (some o)) : o = [x, y] ∧ sc.names.lookup x = some .local ∧ sc.names.lookup y = some .local := by
  obtain ⟨line, q⟩ := sw_names h
  match o, q with
  | [a, b], q =>
    simp only [List.map_cons, List.map_nil, List.cons.injEq, and_true] at q
    obtain ⟨rfl, h1⟩ := swN_some q.1
    obtain ⟨rfl, h2⟩ := swN_some q.2
    exact ⟨rfl, h1, h2⟩
  | [], q => simp at q
  | [_], q => simp at q
  | _ :: _ :: _ :: _, q => simp at q
theorem sw_three {x y z : Str} {px py pz : Pos} {xs : List Expr} {o : List Str} (h : swP sc [.Name x px, .Name y py, .Name z pz] xs = some (some o)) : o = [x, y, z] ∧ sc.names.lookup x = some .local ∧ sc.names.lookup y = some .local ∧ sc.names.lookup z = some .local := by
  obtain ⟨line, q⟩ := sw_names h
  match o, q with
  | [a, b, c], q =>
    simp only [List.map_cons, List.map_nil, List.cons.injEq, and_true] at q
    obtain ⟨rfl, h1⟩ := swN_some q.1
    obtain ⟨rfl, h2⟩ := swN_some q.2.1
    obtain ⟨rfl, h3⟩ := swN_some q.2.2
    exact ⟨rfl, h1, h2, h3⟩
  | [], q => simp at q
  | [_], q => simp at q
  | [_, _], q => simp at q
  | _ :: _ :: _ :: _ :: _, q => simp at q
/-- the slots behind a, b = x, y -/
theorem par_read {is : List Nat} {es : Es} {D : Ends} (h : tS C (exec Γ.F cl (.par is es)) D σ H) :
    ∃ M ρ, Rep C.K C.M0 M ρ σ H ∧ After C σ M H ρ (evWs Γ.F cl es ρ) fun M' H' ws _ => ∀ vs, VWs C.K M' H' H vs ws →
      (is.foldr (fun i u => gCons (gName i) u) gNil) vs σ H' D.nx ∧ ∀ p, H' p = none → (is.foldr (fun i u => gCons (gName i) u) gNil) vs σ (upd H' p (.tup vs)) D.nx := by
  obtain ⟨M, ρ, r, q⟩ := h
  refine ⟨M, ρ, r.rep, (AfterS.expr r q).mono fun M1 H1 ws ρ1 s1 r1 hs1 ⟨rs1, q1⟩ vs hvs => ?_⟩
  obtain ⟨ρ2, e2, q2⟩ := q1.of
  have dom : ∀ a, Ow ρ1 σ a ∨ C.M0 a → ∃ o, H a = some o := fun a z => by
    rcases z with z | z
    · exact r.rep.dom a (r.rep.owl.sub a (hs1 a z))
    · exact r.rep.dom a (r.rep.sub a z)
  refine ⟨setAll_rep is hvs r1 dom e2 fun σ2 r2 o2 => ?_, fun p hp => setAll_rep is (hvs.step0 (.laid hp)) (r1.step0 (.laid hp)) dom e2 fun σ2 r2 o2 => ?_⟩
  · exact q2 M1 H1 σ2 s1 (rs1.after .refl r2) fun a z => (o2 a z).imp (hs1 a) id
  · have s2 : Stp0 M1 H1 M1 (upd H1 p (.tup vs)) := .laid hp
    exact q2 M1 _ σ2 (s1.trans (O' := fun _ => False) (fun _ z => z.elim) s2.stp) (rs1.after (s2.stp) r2) fun a z => (o2 a z).imp (hs1 a) id
theorem len2 {α : Type} {l : List α} (h : l.length = 2) : ∃ a b, l = [a, b] := by
  match l, h with
  | [a, b], _ => exact ⟨a, b, rfl⟩
theorem len3 {α : Type} {l : List α} (h : l.length = 3) : ∃ a b c, l = [a, b, c] := by
  match l, h with
  | [a, b, c], _ => exact ⟨a, b, c, rfl⟩
theorem gFold_len : ∀ {is : List Nat} {vs : List V} {σ : EV.St} {Q : EV.St → Hp → Prop}, (is.foldr (fun i u => gCons (gName i) u) gNil) vs σ H Q → vs.length = is.length
  | [], vs, _, _, h => by obtain ⟨rfl, _⟩ := h; rfl
  | i :: is, vs, _, _, h => by
    obtain ⟨v, r, rfl, q⟩ := h
    simp [gFold_len q]
theorem names_len : ∀ {is : List Nat} {ts : List Expr}, namesC Γ.N sc is ts = true → is.length = ts.length
  | [], [], _ => rfl
  | [], _ :: _, h => nomatch h
  | _ :: _, [], h => nomatch h
  | i :: is, t :: ts, h => by
    have h : (nameC Γ.N sc i t && namesC Γ.N sc is ts) = true := h
    rw [Bool.and_eq_true] at h
    simp [names_len h.2]
theorem nameC_of {i : Nat} {t : Expr} (h : nameC Γ.N sc i t = true) : ∃ x p, t = .Name x p ∧ Γ.N[i]? = some x := by
  cases t with
  | Name x p =>
    have h : (decide (Γ.N[i]? = some x) && locC sc x) = true := h
    rw [Bool.and_eq_true] at h
    exact ⟨x, p, rfl, of_decide_eq_true h.1⟩
  | _ => exact nomatch h
theorem sw_len {ts xs : List Expr} {o : List Str} (h : swP sc ts xs = some (some o)) : ts.length = 2 ∨ ts.length = 3 := by
  unfold swP at h
  split at h
  · cases h
  · rename_i q
    simp only [Bool.or_eq_true, not_or, Bool.not_eq_true', Bool.not_eq_false', Bool.not_eq_false] at q
    simpa using q.1
theorem st_par {is : List Nat} {es : Es} (hs : SAll Γ cl es) : SSt Γ cl (.par is es) := by
  refine ⟨fun X C sc st L ok => ?_⟩
  have inv : ∃ ts k p xs k2 p2 pos, st = .Assign [.Tuple ts k p] (.Tuple xs k2 p2) pos ∧ (namesC Γ.N sc is ts && decide (is.Nodup) && okEs Γ es sc xs && decide (xs.length ≤ 3) && decide (xs.length = ts.length) && (swP sc ts xs).isSome) = true := by
    unfold okS at ok
    split at ok <;> first | contradiction | skip
    all_goals first | (rename_i heq; cases heq; exact ⟨_, _, _, _, _, _, _, rfl, ok⟩) | (rename_i heq _; cases heq; exact ⟨_, _, _, _, _, _, _, rfl, ok⟩)
  obtain ⟨ts, k, p, xs, k2, p2, pos, rfl, ok'⟩ := inv
  simp only [Bool.and_eq_true, decide_eq_true_eq] at ok'
  obtain ⟨⟨⟨⟨⟨g1, g2⟩, g3⟩, g4⟩, g5⟩, g6⟩ := ok'
  have pa := pa_W (C := C) L.toLk es xs hs g3
  obtain ⟨o, ho⟩ := Option.isSome_iff_exists.mp g6
  have hsw := sw_same (k := k) (k2 := k2) (p := p) (p2 := p2) L.toLk ho
  cases o with
  | none =>
    refine PS_imp (ps_asg (pe_tup pa) (pg_tgf (t := .many is) L (e := .Tuple ts k p) g1) (swaps_other (by intro x p h; cases h) _ _) hsw rfl) fun D σ H q => ?_
    obtain ⟨M, ρ, r, q⟩ := par_read q
    refine ⟨M, ρ, r, q.mono fun M1 H1 ws ρ1 s1 r1 hs1 q1 vs hvs => ?_⟩
    obtain ⟨q1, q2⟩ := q1 vs hvs
    have l1 := gFold_len q1
    have l2 := names_len g1
    have hz : vs.length ≤ sizeLine := by
      have : 3 ≤ sizeLine := by decide
      omega
    exact ⟨hz, fun p hp => ⟨p, vs, rfl, .inl (.inl upd_same), l1, q2 p hp⟩⟩
  | some names =>
    have l2 := names_len g1
    rcases sw_len ho with h2 | h3
    · obtain ⟨i, j, rfl⟩ := len2 (l2.trans h2)
      obtain ⟨t1, t2, rfl⟩ := len2 h2
      obtain ⟨e1, e2, rfl⟩ := len2 (g5.trans h2)
      · 
        have g1 : (nameC Γ.N sc i t1 && (nameC Γ.N sc j t2 && true)) = true := g1
        simp only [Bool.and_eq_true, and_true] at g1
        obtain ⟨x, px, rfl, hx⟩ := nameC_of g1.1
        obtain ⟨y, py, rfl, hy⟩ := nameC_of g1.2
        obtain ⟨rfl, k1, k2⟩ := sw_two ho
        have hij : i ≠ j := by simpa using g2
        refine PS_imp (ps_par L.calm (by rw [L.N]; exact L.nd) (by rw [L.N]; exact hx) (by rw [L.N]; exact hy) hij (by rw [L.scope]; exact k1) (by rw [L.scope]; exact k2) pa hsw (swaps_other (by intro x p h; cases h) _ _)) fun D σ H q => ?_
        obtain ⟨M, ρ, r, q⟩ := par_read q
        refine ⟨M, ρ, r, q.mono fun M1 H1 ws ρ1 s1 r1 hs1 q1 vs hvs => ?_⟩
        obtain ⟨v, _, rfl, w, _, rfl, rfl, q⟩ := (q1 vs hvs).1
        exact ⟨v, w, rfl, q⟩
    · obtain ⟨i, j, l, rfl⟩ := len3 (l2.trans h3)
      obtain ⟨t1, t2, t3, rfl⟩ := len3 h3
      obtain ⟨e1, e2, e3, rfl⟩ := len3 (g5.trans h3)
      · 
        have g1 : (nameC Γ.N sc i t1 && (nameC Γ.N sc j t2 && (nameC Γ.N sc l t3 && true))) = true := g1
        simp only [Bool.and_eq_true, and_true] at g1
        obtain ⟨x, px, rfl, hx⟩ := nameC_of g1.1
        obtain ⟨y, py, rfl, hy⟩ := nameC_of g1.2.1
        obtain ⟨z, pz, rfl, hz⟩ := nameC_of g1.2.2
        obtain ⟨rfl, k1, k2, k3⟩ := sw_three ho
        have hij : i ≠ j ∧ i ≠ l ∧ j ≠ l := by
          simp only [List.nodup_cons, List.mem_cons, List.not_mem_nil, or_false, not_or, List.nodup_nil, and_true, not_false_eq_true] at g2
          exact ⟨g2.1.1, g2.1.2, g2.2⟩
        refine PS_imp (ps_par3 L.calm (by rw [L.N]; exact L.nd) (by rw [L.N]; exact hx) (by rw [L.N]; exact hy) (by rw [L.N]; exact hz) hij.1 hij.2.1 hij.2.2 (by rw [L.scope]; exact k1) (by rw [L.scope]; exact k2) (by rw [L.scope]; exact k3) pa hsw (swaps_other (by intro x p h; cases h) _ _)) fun D σ H q => ?_
        obtain ⟨M, ρ, r, q⟩ := par_read q
        refine ⟨M, ρ, r, q.mono fun M1 H1 ws ρ1 s1 r1 hs1 q1 vs hvs => ?_⟩
        obtain ⟨v, _, rfl, w, _, rfl, u, _, rfl, rfl, q⟩ := (q1 vs hvs).1
        exact ⟨v, w, u, rfl, q⟩
end EV

end
section
set_option linter.all false
set_option maxRecDepth 100000
set_option maxHeartbeats 1000000
set_option Elab.async false
/-! EV: raise, try -/
namespace EV
open PySem L2 PyProof.Rows
variable {Γ : Gam} {cl : Nat → List D → FRes} {X : Cx} {C : Ctx} {sc : Scope} {K : PySem.W.Frag} {M M' M0 M1 : AS} {H H' H1 : Hp} {σ : EV.St} {ρ ρ' ρ1 : Ro}
theorem xcC_of {c : Nat} {x : Str} {f : Bool} (h : xcC Γ sc c x f = true) : ∃ xc, Γ.E[c]? = some xc ∧ xc.name = x ∧ glC sc x = true ∧ xc.fld.isSome = f := by
  unfold xcC at h
  split at h
  · rename_i xc e
    simp only [Bool.and_eq_true, decide_eq_true_eq, beq_iff_eq] at h
    exact ⟨xc, e, h.1.1, h.1.2, h.2⟩
  · cases h
theorem st_raise {c : Nat} {o : Eo} (h : ∀ e, o = .yes e → SE Γ cl e) : SSt Γ cl (.raise c o) := by
  refine ⟨fun X C sc st L ok => ?_⟩
  cases o with
  | no =>
    have inv : ∃ x p q r, st = .Raise (some (.Call (.Name x p) [] [] q)) none r ∧ xcC Γ sc c x false = true := by
      unfold okS at ok
      split at ok <;> first | contradiction | skip
      all_goals first | (rename_i heq; cases heq; exact ⟨_, _, _, _, rfl, ok⟩) | (rename_i heq; cases heq; done)
    obtain ⟨x, p, q, r, rfl, ok'⟩ := inv
    obtain ⟨xc, e1, rfl, hg, hf⟩ := xcC_of ok'
    obtain ⟨Ca, T⟩ := L.tab.ok c xc e1
    have hf : xc.fld = none := by simpa using hf
    refine PS_imp (ps_raise L.calm L.takes (pmk_own0 xc.base.base (T.bare hf) T.gC T.kC (raises_own T.xf.exC T.tyC) (glC_of L.toLk hg) T.dbg)) fun D σ H ⟨M, ρ, rs, q⟩ => ?_
    refine q M H σ (.ref Ca) none .refl rs (fun a z => .inl z) ?_
    rw [L.rel]
    exact ⟨xc, Ca, e1, T.gC, rfl, .inl ⟨hf, rfl, rfl⟩⟩
  | yes e =>
    have inv : ∃ x p a q r, st = .Raise (some (.Call (.Name x p) [a] [] q)) none r ∧ (xcC Γ sc c x true && okE Γ e sc a) = true := by
      unfold okS at ok
      split at ok <;> first | contradiction | skip
      all_goals first | (rename_i heq; cases heq; exact ⟨_, _, _, _, _, rfl, ok⟩) | (rename_i heq; cases heq; done)
    obtain ⟨x, p, a, q, r, rfl, ok'⟩ := inv
    rw [Bool.and_eq_true] at ok'
    obtain ⟨xc, e1, rfl, hg, hf⟩ := xcC_of ok'.1
    obtain ⟨Ca, T⟩ := L.tab.ok c xc e1
    obtain ⟨f, hf⟩ := Option.isSome_iff_exists.mp hf
    obtain ⟨XN, fI, cda, cc, TX⟩ := T.fld f hf
    have pe := tD_of ((h e rfl).pe X C sc a L.toLk ok'.2)
    refine PS_imp (ps_raise L.calm L.takes (pmk_x TX xc.base XN xc.tail L.deep (L.bi "super" (by decide)) T.gC pe (glC_of L.toLk hg) (star_of ok'.2 _ _) T.dbg)) fun D σ H ⟨M, ρ, rs, q⟩ => ?_
    refine ⟨M, ρ, rs.rep, ?_⟩
    have q : AfterS C σ M H ρ ((datOf (evG Γ cl e) ρ).bind fun p => .exc ⟨c, some p.1⟩ p.2) D := q
    refine (AfterS.expr rs q).mono fun M1 H1 d ρ1 s1 r1 hs1 ⟨rs1, h1⟩ v hv dd hdd => ?_
    have st : Stp0 M1 H1 M1 (upd H1 dd (.xd [(f, v)])) := .laid hdd
    have s2 : Stp (Ow ρ σ) M H M1 (upd H1 dd (.xd [(f, v)])) := s1.trans hs1 st.stp
    refine h1 M1 _ σ (.ref Ca) (some dd) s2 (rs.after s2 (r1.step0 st)) (fun a z => .inl (hs1 a z)) ?_
    rw [L.rel]
    exact ⟨xc, Ca, e1, T.gC, rfl, .inr ⟨f, d, dd, v, hf, rfl, rfl, upd_same, by have := hv.step0 st; rw [← L.K] at this; exact this⟩⟩
/-! ### the clauses -/
/-- a slot that holds nothing: whatever stands there -/
theorem Rep.blank {i : Nat} {u : Option V} (r : Rep K M0 M ρ σ H) (h : ρ[i]? = some none ∨ ρ[i]? = none) : Rep K M0 M ρ (σ.set i u) H ∧ ∀ a, Ow ρ (σ.set i u) a → Ow ρ σ a := by
  have ne : ∀ {j : Nat} {s : Sv}, ρ[j]? = some (some s) → (σ.set i u)[j]? = σ[j]? := fun {j s} e => by
    rw [List.getElem?_set_ne]
    intro z
    subst z
    rcases h with h | h <;> rw [h] at e <;> cases e
  refine ⟨⟨by simpa using r.len, r.dom, r.sub, fun j d e => ?_, fun j s xs e l => ?_, fun j xs a e q => ?_, fun j xs a e q => ?_, fun j k a s t xs ys e1 e2 l1 l2 q1 q2 => ?_⟩, fun a ⟨j, s, xs, e, l, q⟩ => ?_⟩
  · rw [ne e]; exact r.dat j d e
  · rw [ne e]; exact r.lst j s xs e l
  · rw [ne e] at q; exact r.own j xs a e q
  · rw [ne e] at q; exact r.io j xs a e q
  · rw [ne e1] at q1; rw [ne e2] at q2; exact r.inj j k a s t xs ys e1 e2 l1 l2 q1 q2
  · rw [ne e] at q; exact ⟨j, s, xs, e, l, q⟩
theorem set_none {i : Nat} : (ρ.set i none)[i]? = some none ∨ (ρ.set i none)[i]? = none := by
  by_cases h : i < ρ.length
  · exact .inl (by rw [List.getElem?_set_self h])
  · exact .inr (by rw [List.getElem?_eq_none (by simpa using h)])
/-- what an item tells -/
def tHi (Γ : Gam) (X : Cx) (i a : Nat) (cls : Value) (d : Option Addr) (xc : XC) {α β : Type} (f : Exn → Option α) (P : AS → Hp → β → α → Prop) : L2.St → Hp → (β → Hp → Prop) → Prop := fun σ H Q =>
  σ[i]? = some (some (.ref a)) ∧ ∃ M x e, Γ.E[x.cls]? = some xc ∧ xR Γ.E X.K X.mg M H cls d x ∧ f x = some e ∧ ∀ v, P M H v e → Q v H
theorem hi_pe {i : Nat} {n : Str} {xc : XC} {a : Addr} {oe : Obj} {cls : Value} {d : Option Addr} {pn : List (Addr × Obj)} (L : LkS Γ cl X C sc) (hn : Γ.N[i]? = some n) (hl : sc.names.lookup n = some .local) (nm : nmC n = true) (hz : Zc cls d oe) (hf : ∃ vs, oe.data = .fields vs) :
    ∀ (it : Hi) (e : Expr), okHi sc xc n it e = true → PE (X.suite a ((a, oe) :: pn)) e (tHi Γ X i a cls d xc (fun x => hItem x it) (fun M H v e => Dat X.K M H v e)) ∧ ∀ env, starEach [e] env = (false, eval e env) :: starEach [] env := by
  obtain ⟨n1, n2, _⟩ := nmC_of nm
  have var : ∀ p, PE (X.suite a ((a, oe) :: pn)) (.Name n p) (tVar i) := fun p => pe_var (by show X.N[i]? = some n; rw [L.N]; exact hn) (by show Vis X.env.scope n; rw [L.scope]; exact visC_of (by unfold visC; rw [hl])) n1 n2
  intro it e ok
  unfold okHi at ok
  split at ok
  · rename_i dd c k p
    obtain ⟨v, h1, h2⟩ := cst_pe (X := X.suite a ((a, oe) :: pn)) (k := k) (pos := p) ok
    exact ⟨PE_imp h1 fun σ H Q ⟨_, M, x, e, _, _, he, q⟩ => by cases he; exact q v (h2 _ _ _), fun _ => rfl⟩
  · rename_i m p f p'
    simp only [Bool.and_eq_true, decide_eq_true_eq] at ok
    obtain ⟨rfl, ef⟩ := ok
    refine ⟨?_, fun _ => rfl⟩
    by_cases hc : ∃ Ca, XcOk X.prog X.K X.mg xc Ca
    · obtain ⟨Ca, T⟩ := hc
      obtain ⟨XN, fI, cda, cc, TX⟩ := T.fld f ef
      refine PE_imp (pe_xf T.xf TX.noN hz hf (var p)) fun σ H Q ⟨hs, M, x, e, e1, hR, he, q⟩ => ?_
      obtain ⟨xc', C', e1', g1, rfl, hR⟩ := hR
      rw [e1] at e1'; cases e1'
      rw [T.gC] at g1; cases g1
      rcases hR with ⟨z, _⟩ | ⟨f', v, dd, u, z1, z2, rfl, z4, z5⟩
      · rw [ef] at z; cases z
      · rw [ef] at z1; cases z1
        have he : x.fld = some e := he
        rw [z2] at he; cases he
        exact ⟨_, hs, rfl, rfl, dd, _, u, rfl, z4, by simp [List.lookup], q u z5⟩
    · refine ⟨fun pins s σ H Q I ⟨hs, M, x, e, e1, _⟩ => absurd (L.tab.ok _ _ e1) hc⟩
  · rename_i look b g p m p1 B p2 p3
    simp only [Bool.and_eq_true, decide_eq_true_eq, beq_iff_eq] at ok
    obtain ⟨⟨⟨⟨⟨rfl, hg⟩, rfl⟩, rfl⟩, hB⟩, rfl⟩ := ok
    refine ⟨?_, fun _ => rfl⟩
    have tyb : ∃ n : String, bootBuiltins (Str.ofString (if look then "LookupError" else "ValueError")) = some (.type n) ∧ n = (if look then "LookupError" else "ValueError") := by
      cases look
      · exact ⟨_, by kernel_rfl, rfl⟩
      · exact ⟨_, by kernel_rfl, rfl⟩
    obtain ⟨nB, hb1, hb2⟩ := tyb
    have mB : X.mg (Str.ofString (if look then "LookupError" else "ValueError")) = none := by cases look <;> exact L.bi _ (by decide)
    have peB : PE (X.suite a ((a, oe) :: pn)) (.Name (Str.ofString (if look then "LookupError" else "ValueError")) p2) (tC (.ty nB)) :=
      pe_bltn (X := X.suite a ((a, oe) :: pn)) (glC_of (X := X) L.toLk hB) mB hb1 rfl (by cases look <;> decide) (by cases look <;> decide)
    refine PE_imp (pe_callB (call_isX (X := X) (B := nB) hz hf) (glC_of (X := X) L.toLk hg) (L.bi "isinstance" (by decide)) (by decide +kernel) (pa_cons (var p1) (pa_cons peB pa_nil))) fun σ H Q ⟨hs, M, x, e, e1, hR, he, q⟩ => ?_
    obtain ⟨xc', C', e1', g1, rfl, hR⟩ := hR
    rw [e1] at e1'; cases e1'
    obtain ⟨Ca, T⟩ := L.tab.ok _ _ e1
    rw [T.gC] at g1; cases g1
    cases he
    refine ⟨_, hs, _, _, rfl, rfl, T.is, ?_, ?_, q _ (.bl _)⟩
    · rcases hR with ⟨_, _, z⟩ | ⟨f', v, dd, u, _, _, z3, z4, _⟩
      · exact .inl z
      · exact .inr ⟨dd, _, z3, z4⟩
    · subst hb2
      cases look
      · rw [show (if false = true then "LookupError" else "ValueError") = "ValueError" from rfl, T.kitV]; cases xc.look <;> rfl
      · rw [show (if true = true then "LookupError" else "ValueError") = "LookupError" from rfl, T.kitL]; cases xc.look <;> rfl
  · cases ok
theorem his_pa {i : Nat} {n : Str} {xc : XC} {a : Addr} {oe : Obj} {cls : Value} {d : Option Addr} {pn : List (Addr × Obj)} (L : LkS Γ cl X C sc) (hn : Γ.N[i]? = some n) (hl : sc.names.lookup n = some .local) (nm : nmC n = true) (hz : Zc cls d oe) (hf : ∃ vs, oe.data = .fields vs) :
    ∀ (its : List Hi) (es : List Expr), okHis sc xc n its es = true → PA (X.suite a ((a, oe) :: pn)) es (tHi Γ X i a cls d xc (fun x => hItems x its) (fun M H v e => DatA X.K M H v e))
  | [], [], _ => PA_imp pa_nil fun σ H Q ⟨_, M, x, e, _, _, he, q⟩ => by cases he; exact q [] .nil
  | [], _ :: _, h => nomatch h
  | _ :: _, [], h => nomatch h
  | it :: its, e :: es, h => by
    have h : (okHi sc xc n it e && okHis sc xc n its es) = true := h
    rw [Bool.and_eq_true] at h
    obtain ⟨h1, h2⟩ := hi_pe (a := a) (oe := oe) (cls := cls) (d := d) (pn := pn) L hn hl nm hz hf it e h.1
    have st : starEach (e :: es) (X.suite a ((a, oe) :: pn)).env = (false, eval e (X.suite a ((a, oe) :: pn)).env) :: starEach es (X.suite a ((a, oe) :: pn)).env := by
      have q := h2 (X.suite a ((a, oe) :: pn)).env
      cases e <;> first | rfl | (exact absurd q (by intro z; cases z))
    refine PA_imp (pa_cons h1 (his_pa L hn hl nm hz hf its es h.2) st) fun σ H Q ⟨hs, M, x, ds, e1, hR, he, q⟩ => ?_
    have he : ((hItem x it).bind fun d => (hItems x its).map (d :: ·)) = some ds := he
    obtain ⟨d1, g1, g2⟩ := Option.bind_eq_some_iff.mp he
    obtain ⟨ds1, g3, rfl⟩ := Option.map_eq_some_iff.mp g2
    exact ⟨hs, M, x, d1, e1, hR, g1, fun v hv => ⟨hs, M, x, ds1, e1, hR, g3, fun vs hvs => q _ (.cons hv hvs)⟩⟩
/-- what a clause's suite tells -/
def hTs (Γ : Gam) (X : Cx) (h : Hd) (xc : XC) : Addr → Value → Option Addr → TS := fun a cls d => tAsg (tLst (tHi Γ X h.i a cls d xc (fun x => hItems x h.its) (fun M H v e => DatA X.K M H v e))) (gName h.t)
/-- a clause beside its text -/
def HdOk (Γ : Gam) (X : Cx) (k : Cls) (h : Hd) : Prop := ∃ xc Ca, Γ.E[h.cls]? = some xc ∧ X.mg xc.name = some (.ref Ca) ∧ k.c = .ref Ca ∧ k.i = h.i ∧ k.ts = hTs Γ X h xc ∧ h.its.length ≤ 1000 ∧ h.i ≠ h.t
theorem hds_ok (L : LkS Γ cl X C sc) : ∀ (hs : List Hd) (hds : List ExceptHandler), okHs Γ sc hs hds = true → ∃ l, ClOk X hds l ∧ Paired (HdOk Γ X) l hs
  | [], [], _ => ⟨[], .nil, .nil⟩
  | h :: hs, hd :: hds, ok => by
    have inv : ∃ x p n y p1 xs p2 p3 p4, hd = .ExceptHandler (some (.Name x p)) (some n) [.Assign [.Name y p1] (.List xs p2) p3] p4 ∧ (okHd Γ sc h x n y xs && okHs Γ sc hs hds) = true := by
      unfold okHs at ok
      split at ok
      · rename_i e1 e2; cases e1
      · rename_i e1 e2; cases e1; cases e2; exact ⟨_, _, _, _, _, _, _, _, _, rfl, ok⟩
      · cases ok
    obtain ⟨x, p, n, y, p1, xs, p2, p3, p4, rfl, ok'⟩ := inv
    rw [Bool.and_eq_true] at ok'
    obtain ⟨l, c1, c2⟩ := hds_ok L hs hds ok'.2
    have ok1 := ok'.1
    unfold okHd at ok1
    simp only [Bool.and_eq_true, decide_eq_true_eq] at ok1
    obtain ⟨⟨⟨⟨⟨⟨o1, o2⟩, o3⟩, o4⟩, o5⟩, o6⟩, o7⟩ := ok1
    split at o1
    · rename_i xc e1
      simp only [Bool.and_eq_true, decide_eq_true_eq] at o1
      obtain ⟨⟨⟨rfl, g2⟩, g3⟩, g4⟩ := o1
      obtain ⟨Ca, T⟩ := L.tab.ok _ _ e1
      refine ⟨⟨.ref Ca, h.i, hTs Γ X h xc⟩ :: l, .cons (k := ⟨.ref Ca, h.i, hTs Γ X h xc⟩) (by show X.N[h.i]? = some n; rw [L.N]; exact o2) (by show X.env.kindOf n = _; unfold Env.kindOf; rw [L.scope]; exact o3) ⟨glC_of L.toLk g2, T.dbg, .inl T.gC⟩ (fun a oe cls d pn hz hf => ?_) c1, .cons ⟨xc, Ca, e1, T.gC, rfl, rfl, rfl, g4, o7⟩ c2⟩
      refine pss_one ?_
      exact ps_set (X := X.suite a ((a, oe) :: pn)) (by show X.N.Nodup; rw [L.N]; exact L.nd) (by show X.N[h.t]? = some y; rw [L.N]; exact o5) (show Loc X.env.scope y from locC_loc L.toLk o6) (pe_lst (his_pa L o2 o3 o4 hz hf h.its xs g3)) (swaps_no rfl _ _ _) (.inl (L.fnT y))
    · cases o1
  | [], _ :: _, ok => nomatch ok
  | _ :: _, [], ok => nomatch ok
theorem hItems_len {x : Exn} : ∀ {hs : List Hi} {ds : List EV.D}, hItems x hs = some ds → ds.length = hs.length
  | [], ds, h => by cases h; rfl
  | h :: hs, ds, e => by
    have e : ((hItem x h).bind fun d => (hItems x hs).map (d :: ·)) = some ds := e
    obtain ⟨d1, g1, g2⟩ := Option.bind_eq_some_iff.mp e
    obtain ⟨ds1, g3, rfl⟩ := Option.map_eq_some_iff.mp g2
    simp [hItems_len g3]
/-- the clauses at an exception -/
theorem catch_ok (L : LkS Γ cl X C sc) {x : Exn} {D : Ends} {σ' : EV.St} {cls : Value} {d : Option Addr} (s : Stp (Ow ρ σ) M H M' H') (r : RepS C M' ρ' σ' H') (o : OwS ρ σ H ρ' σ') (hR : C.R M' H' cls d x) : ∀ {l : List Cls} {hs : List Hd}, Paired (HdOk Γ X) l hs → AfterS C σ M H ρ (catchX x ρ' hs) D → wCl X.K C.Wx D l cls d σ' H'
  | _, _, .nil, q => q M' H' σ' cls d s r o hR
  | k :: l, h :: hs, .cons ⟨xc, Ca, e1, g1, hc, hi, ht, hl, hne⟩ p, q => by
    have hR1 := hR
    rw [L.rel] at hR1
    obtain ⟨xc', C', e1', g1', hcls, hR2⟩ := id hR1
    have hex := L.tab.exm _ _ _ _ _ _ e1' e1 g1' g1
    have q : AfterS C σ M H ρ (if h.cls == x.cls then (match ρ'[h.i]?, hItems x h.its with
      | some _, some ds => (Res.of (setD (ρ'.set h.i none) h.t (.new ds))).bind fun ρ' => .ok (.next, ρ')
      | _, _ => .stuck) else catchX x ρ' hs) D := q
    refine ⟨h.cls == x.cls, by rw [hc, hcls]; exact hex, fun hb a na => ?_, fun hb => ?_⟩
    · rw [if_pos hb] at q
      have hxc : xc' = xc := by
        have : h.cls = x.cls := by simpa using hb
        rw [this, e1'] at e1; cases e1; rfl
      subst hxc
      split at q
      · rename_i u ds e2 e3
        obtain ⟨ρ2, e4, q⟩ := q.of
        have hlt : h.i < ρ'.length := (List.getElem?_eq_some_iff.mp e2).1
        have hlt' : h.i < σ'.length := by rw [← r.rep.len]; exact hlt
        rw [ht, hi]
        unfold hTs tAsg tLst tHi
        refine ⟨List.getElem?_set_self hlt', M', x, ds, e1', hR1, e3, fun vs hvs => ⟨?_, fun pp hpp => ?_⟩⟩
        · have := hvs.length
          rw [this, hItems_len e3]
          exact Nat.le_trans hl (by decide)
        · obtain ⟨d1, d2⟩ := r.rep.drop (i := h.i)
          obtain ⟨b1, b2⟩ := d1.blank (i := h.i) (u := some (.ref a)) set_none
          have hvs' : DatA C.K M' H' vs ds := by rw [← L.K]; exact hvs
          have s0 : Stp0 M' H' (fun a => M' a ∨ a = pp) (upd H' pp (.lst vs)) := .lnew hpp
          obtain ⟨w1, w2⟩ := Rep.setW b1 (s0.stp (O := Ow (ρ'.set h.i none) (σ'.set h.i (some (.ref a))))) (b1.step0 s0) (fun _ z => z) (v := .ref pp) (w := .new ds) ⟨pp, vs, rfl, hpp, upd_same, hvs'.step0 s0, .inr rfl⟩ e4
          have hb0 : ρ2[h.i]? = some none ∨ ρ2[h.i]? = none := by
            obtain ⟨_, _, rfl⟩ := setD_some e4
            rw [List.getElem?_set_ne (Ne.symm hne)]
            exact set_none
          obtain ⟨f1, f2⟩ := w1.blank (i := h.i) (u := none) hb0
          have s2 : Stp (Ow ρ σ) M H (fun a => M' a ∨ a = pp) (upd H' pp (.lst vs)) := s.trans (O' := fun _ => False) (fun _ z => z.elim) s0.stp
          refine q _ _ _ s2 (r.after (s0.stp) f1) ?_
          refine o.trans s.there fun a z => ?_
          rcases w2 a (f2 a z) with z1 | z1
          · exact .inl (d2 a (b2 a z1))
          · exact .inr z1
      · exact q.elim
    · rw [if_neg (by rw [hb]; decide)] at q
      exact catch_ok L s r o hR p q
theorem LkS.tr {pn : List (Addr × Obj)} {xe : Value → Shared → Prop} {Wx : WX} (L : LkS Γ cl X C sc) (tk : Takes (X.tr pn xe) Wx) (ps : PassesOwn (model X.prog X.w) X.A X.env xe) : LkS Γ cl (X.tr pn xe) { C with Wx := Wx } sc where
  K := L.K
  N := L.N
  nd := L.nd
  calm := L.calm
  scope := L.scope
  kind := L.kind
  room := L.room
  takes := tk
  bi := L.bi
  call := L.call
  glo := L.glo
  pass := ps
  fnT := L.fnT
  deep := L.deep
  stk := L.stk
  frm := L.frm
  tab := L.tab
  rel := L.rel
theorem st_try {b : Ss} {hs : List Hd} (hb : SSts Γ cl b) : SSt Γ cl (.try_ b hs) := by
  refine ⟨fun X C sc st L ok => ?_⟩
  have inv : ∃ body h r pos, st = .Try body (h :: r) [] [] pos ∧ (okSs Γ sc b body && okHs Γ sc hs (h :: r)) = true := by
    unfold okS at ok
    split at ok <;> first | contradiction | skip
    all_goals first | (rename_i heq; cases heq; exact ⟨_, _, _, _, rfl, ok⟩) | (rename_i heq _; cases heq; exact ⟨_, _, _, _, rfl, ok⟩)
  obtain ⟨body, h, rr, pos, rfl, ok'⟩ := inv
  rw [Bool.and_eq_true] at ok'
  obtain ⟨l, c1, c2⟩ := hds_ok L hs (h :: rr) ok'.2
  refine PS_imp (ps_try_cl (tb := fun W => tS { C with Wx := W } (execs Γ.F cl b)) L.stk L.frm (by rw [L.N]; exact L.nd) L.takes (fun W pn xe tk ps => hb.pss _ _ sc body (L.tr tk ps) ok'.1) c1) fun D σ H ⟨M, ρ, r, q⟩ => ?_
  refine ⟨M, ρ, ⟨r.rep, r.new0, r.there0⟩, ?_⟩
  have q : AfterS C σ M H ρ (catchL hs (execs Γ.F cl b ρ)) D := q
  cases hx : execs Γ.F cl b ρ with
  | stuck => rw [hx] at q; exact q.elim
  | ok p =>
    rw [hx] at q
    intro M' H' σ' s1 r1 o1
    have := q M' H' σ' s1 ⟨r1.rep, r1.new0, r1.there0⟩ o1
    obtain ⟨fl, ρ'⟩ := p
    cases fl <;> exact this
  | exc x ρ' =>
    rw [hx] at q
    intro M' H' σ' cls d s1 r1 o1 hR
    exact catch_ok L s1 ⟨r1.rep, r1.new0, r1.there0⟩ o1 hR c2 q
end EV

end
section
set_option linter.all false
set_option maxRecDepth 100000
set_option Elab.async false
namespace EV
open PySem L2 PyProof.Rows
variable {Γ : Gam} {cl : Nat → List D → FRes} {X : Cx} {C : Ctx} {sc : Scope} {K : PySem.W.Frag} {M M' M0 M1 : AS} {H H' H1 : Hp} {σ : EV.St} {ρ ρ' ρ1 : Ro}
/-! ### all of the language -/
mutual
theorem se_all : (e : E) → SE Γ cl e
  | .var i => se_var
  | .cst d => se_cst
  | .op2 o a b => se_op2 (se_all a) (se_all b)
  | .op1 o a => se_op1 (se_all a)
  | .chain o o' a b c => se_chain (se_all a) (se_all b) (se_all c)
  | .bop k es => se_bop (ses_all es)
  | .not a => se_not (se_all a)
  | .orT a b => se_orT (se_all a) (se_all b)
  | .ite c a b => se_ite (se_all c) (se_all a) (se_all b)
  | .tup es => se_tup (ses_all es)
  | .lst es => se_lst (ses_all es)
  | .idx a b => se_idx (se_all a) (se_all b)
  | .slc a lo hi => se_slc (se_all a) (seo_all lo) (seo_all hi)
  | .call f es => se_call (ses_all es)
  | .bi b es => se_bi (ses_all es)
  | .rep a b => se_rep (se_all a) (se_all b)
  | .isi a ts b => se_isi (se_all a)
  | .comp t it c e => se_comp (sit_all it) (seo_all c) (se_all e)
  | .comp2 t it c t' it' c' e => se_comp2 (sit_all it) (seo_all c) (sit_all it') (seo_all c') (se_all e)
  | .meth m i es => se_meth (ses_all es)
  | .rev a => se_rev (se_all a)
  | .glo k d => se_glo
  | .call0 f => se_call0
  | .callK f perm es => se_callK (ses_all es)
theorem ses_all : (es : Es) → SAll Γ cl es
  | .nil => trivial
  | .cons e r => ⟨se_all e, ses_all r⟩
  | .star e r => ⟨se_all e, ses_all r⟩
theorem seo_all : (o : Eo) → ∀ e, o = .yes e → SE Γ cl e
  | .no, _, h => nomatch h
  | .yes e, _, h => by cases h; exact se_all e
theorem sit_all : (it : It) → SIt Γ cl it
  | .seq e => sit_seq (se_all e)
  | .range1 e => sit_range1 (se_all e)
  | .range2 a b => sit_range2 (se_all a) (se_all b)
  | .down a b => sit_down (se_all a) (se_all b)
  | .enum e => sit_enum (se_all e)
  | .zip a b => sit_zip (se_all a) (se_all b)
end
def isCp : E → Bool
  | .comp .. => true
  | .comp2 .. => true
  | _ => false
theorem plain_of {e : E} (h : isCp e = false) (sc : Scope) (v : Expr) (ok : okE Γ e sc v = true) : isComp v = false := by
  cases v with
  | ListComp elt gens scope pos =>
    cases e with
    | comp t it c e => cases h
    | comp2 t it c t' it' c' e => cases h
    | op1 o a => cases o <;> exact nomatch ok
    | _ => exact nomatch ok
  | SetComp elt gens scope pos =>
    cases e with
    | op1 o a => cases o <;> exact nomatch ok
    | _ => exact nomatch ok
  | DictComp k elt gens scope pos =>
    cases e with
    | op1 o a => cases o <;> exact nomatch ok
    | _ => exact nomatch ok
  | _ => rfl
theorem sset_all (e : E) : SSet Γ cl e := by
  cases hc : isCp e with
  | false => exact sset_plain (se_all e) fun sc v ok => plain_of hc sc v ok
  | true =>
    cases e with
    | comp t it c e => exact sset_comp (sit_all it) (seo_all c) (se_all e)
    | comp2 t it c t' it' c' e => exact fun X C sc i y py v spos L hi hl ok => comp2_set (sit_all it) (seo_all c) (sit_all it') (seo_all c') (se_all e) L hi hl ok
    | _ => cases hc
theorem no_st {s : S} (h : ∀ sc st, okS Γ sc s st = false) : SSt Γ cl s := ⟨fun X C sc st L ok => by rw [h] at ok; cases ok⟩
mutual
theorem st_all : (s : S) → SSt Γ cl s
  | .asg i e => st_asg (sset_all e)
  | .asgT is e => st_asgT (se_all e)
  | .par is es => st_par (ses_all es)
  | .sub i k e => st_sub (se_all k) (se_all e)
  | .expr e => st_expr (se_all e)
  | .ret e => st_ret (se_all e)
  | .retN => st_retN
  | .ite c a b => st_ite (se_all c) (sts_all a) (sts_all b)
  | .for_ t it b => st_for (sit_all it) (sts_all b)
  | .while_ n c b => st_while (se_all c) (sts_all b)
  | .raise c e => st_raise (seo_all e)
  | .try_ b hs => st_try (sts_all b)
  | .pass => st_pass
  | .brk => st_brk
  | .cont => st_cont
theorem sts_all : (s : Ss) → SSts Γ cl s
  | .nil => sts_nil
  | .cons s r => sts_cons (st_all s) (sts_all r)
end
/-! ### a def -/
theorem start_len : ∀ {ds : List EV.D} {io : Option Nat} {ρ : Ro}, EV.start ds io = some ρ → ρ.length = ds.length
  | [], _, _, h => by cases h; rfl
  | d :: ds, io, ρ, h => by
    have h : ((EV.start ds (down io)).bind fun ρ => if io = some 0 then (match d with | .list xs => some (some (.io xs) :: ρ) | _ => none) else some (some (.dat d) :: ρ)) = some ρ := h
    obtain ⟨ρ1, h1, h2⟩ := Option.bind_eq_some_iff.mp h
    split at h2
    · split at h2
      · cases h2; simp [start_len h1]
      · cases h2
    · cases h2; simp [start_len h1]
theorem start_at : ∀ {ds : List EV.D} {io : Option Nat} {ρ : Ro} {j : Nat} {s : Option Sv}, EV.start ds io = some ρ → ρ[j]? = some s → ∃ d, ds[j]? = some d ∧ ((io ≠ some j ∧ s = some (.dat d)) ∨ (io = some j ∧ ∃ xs, d = .list xs ∧ s = some (.io xs)))
  | [], _, _, j, _, h, e => by cases h; cases e
  | d :: ds, io, ρ, j, s, h, e => by
    have h : ((EV.start ds (down io)).bind fun ρ => if io = some 0 then (match d with | .list xs => some (some (.io xs) :: ρ) | _ => none) else some (some (.dat d) :: ρ)) = some ρ := h
    obtain ⟨ρ1, h1, h2⟩ := Option.bind_eq_some_iff.mp h
    cases j with
    | zero =>
      refine ⟨d, rfl, ?_⟩
      split at h2
      · rename_i q
        split at h2
        · cases h2; cases e; exact .inr ⟨q, _, rfl, rfl⟩
        · cases h2
      · rename_i q
        cases h2; cases e; exact .inl ⟨q, rfl⟩
    | succ j =>
      have e1 : ρ1[j]? = some s := by
        split at h2
        · split at h2
          · cases h2; exact e
          · cases h2
        · cases h2; exact e
      obtain ⟨d', g1, g2⟩ := start_at h1 e1
      refine ⟨d', g1, g2.imp (fun ⟨a, b⟩ => ⟨fun z => a (by rw [z]; rfl), b⟩) fun ⟨a, b⟩ => ⟨?_, b⟩⟩
      cases io with
      | none => cases a
      | some n => cases n with
        | zero => cases a
        | succ n => have a : some n = some j := a; cases a; rfl
/-- the slots at the entry of a def -/
theorem entry {fn : Fn} {N : List Str} {vs : List V} {ds : List EV.D} {ρ : Ro} (hio : fn.ioOk = true) (hn : vs.length = fn.np) (hN : N.length = fn.ns) (a : Args K M H fn.io vs ds) (dom : ∀ a, M a → ∃ o, H a = some o) (h : EV.start ds fn.io = some ρ) :
    Rep K M M (ρ ++ List.replicate (fn.ns - fn.np) none) (L2.start N vs) H ∧ ∀ b, Ow (ρ ++ List.replicate (fn.ns - fn.np) none) (L2.start N vs) b → Io fn.io vs b := by
  have hl := start_len h
  have hvl := a.len
  have low : ∀ {j : Nat} {s : Sv}, (ρ ++ List.replicate (fn.ns - fn.np) none)[j]? = some (some s) → j < vs.length ∧ ρ[j]? = some (some s) := fun {j s} e => by
    by_cases hj : j < ρ.length
    · rw [List.getElem?_append_left hj] at e
      exact ⟨by omega, e⟩
    · rw [List.getElem?_append_right (by omega)] at e
      rw [List.getElem?_replicate] at e
      split at e <;> cases e
  have slot : ∀ {j : Nat}, j < vs.length → (L2.start N vs)[j]? = (vs[j]?).map some := fun {j} hj => by
    unfold L2.start
    rw [List.getElem?_append_left (by simpa using hj), List.getElem?_map]
  have lst : ∀ {j : Nat} {s : Sv} {xs : List EV.D}, (ρ ++ List.replicate (fn.ns - fn.np) none)[j]? = some (some s) → s.lst? = some xs → fn.io = some j ∧ s = .io xs ∧ ds[j]? = some (.list xs) := fun {j s xs} e l => by
    obtain ⟨hj, e⟩ := low e
    obtain ⟨d, h1, h2⟩ := start_at h e
    rcases h2 with ⟨_, h2⟩ | ⟨h2, ys, rfl, h3⟩
    · cases h2; cases l
    · cases h3; cases l; exact ⟨h2, rfl, h1⟩
  have at_ : ∀ {j : Nat} {b : Addr}, fn.io = some j → (L2.start N vs)[j]? = some (some (V.ref b)) → vs[j]? = some (.ref b) := fun {j b} hj e => by
    have hj' : j < vs.length := by
      obtain ⟨a', _, _, q, _⟩ := a.io j hj
      exact (List.getElem?_eq_some_iff.mp q).1
    rw [slot hj'] at e
    cases q : vs[j]? with
    | none => rw [q] at e; cases e
    | some v => rw [q] at e; cases e; rfl
  refine ⟨⟨?_, dom, fun _ z => z, fun j d e => ?_, fun j s xs e l => ?_, fun j xs b e q => ?_, fun j xs b e q => ?_, fun i j b s t xs ys e1 e2 l1 l2 q1 q2 => ?_⟩, fun b ⟨j, s, xs, e, l, q⟩ => ?_⟩
  · unfold L2.start
    simp only [List.length_append, List.length_map, List.length_replicate]
    omega
  · obtain ⟨hj, e⟩ := low e
    obtain ⟨d', h1, h2⟩ := start_at h e
    rcases h2 with ⟨h2, h3⟩ | ⟨_, ys, _, h3⟩
    · cases h3
      have q : vs[j]? = some vs[j] := List.getElem?_eq_getElem hj
      exact ⟨vs[j], by rw [slot hj, q]; rfl, a.dat j _ d h2 q h1⟩
    · cases h3
  · obtain ⟨h1, rfl, h3⟩ := lst e l
    obtain ⟨b, us, ys, g1, g2, g3, g4, g5⟩ := a.io j h1
    rw [h3] at g2
    cases g2
    have hj' : j < vs.length := (List.getElem?_eq_some_iff.mp g1).1
    exact ⟨b, us, by rw [slot hj', g1]; rfl, g3, g4, g5⟩
  · obtain ⟨_, h2, _⟩ := lst e rfl
    cases h2
  · obtain ⟨h1, _, _⟩ := lst e rfl
    have g := at_ h1 q
    obtain ⟨b', us, ys, g1, g2, g3, g4, g5⟩ := a.io j h1
    rw [g] at g1
    cases g1
    exact g5
  · obtain ⟨h1, _, _⟩ := lst e1 l1
    obtain ⟨h2, _, _⟩ := lst e2 l2
    rw [h1] at h2
    exact Option.some.inj h2
  · obtain ⟨h1, _, _⟩ := lst e l
    exact ⟨j, h1, at_ h1 q⟩
end EV

end
section
set_option linter.all false
set_option maxRecDepth 100000
set_option Elab.async false
namespace EV
open PySem L2 PyProof.Rows
/-! ### a def keeps what the language tells of it -/
structure DefOk (T : List Fn) (G : List (Str × D)) (W : List (Nat × List Str × List Nat)) (E : List XC) (fn : Fn) (N ps : List Str) (scope : Scope) (body : List Stmt) : Prop where
  sc : FnScope N ps scope
  np : ps.length = fn.np
  ns : N.length = fn.ns
  io : fn.ioOk = true
  ok : okSs ⟨T, N, G, W, E⟩ scope fn.body body = true
section
variable {P : Program} {w : World} {K : PySem.W.Frag} {mg : Str → Option Value} {base : Heap} {T : List Fn} {G : List (Str × D)} {W : List (Nat × List Str × List Nat)} {E : List XC} {R : XR} {cl : Nat → List D → FRes}
/-- what calls find -/
def Calls (P : Program) (w : World) (K : PySem.W.Frag) (mg : Str → Option Value) (base : Heap) (T : List Fn) (W : List (Nat × List Str × List Nat)) (R : XR) (cl : Nat → List D → FRes) (k : Nat) : Prop :=
  ∀ (i : Nat) (fn : Fn), T[i]? = some fn → ∃ a fd ps, mg fn.name = some (.ref a) ∧ PySem.W.keepIn K (.ref a) = true ∧ (Binds K fd ps [] ∧ ∀ ks perm, (i, ks, perm) ∈ W → KwOk K fd ps ks perm) ∧ FnOk P w K mg base (L2.CX P w) k a fd ps (spOf R K fn (cl i))
theorem fn_step {fn : Fn} {N ps : List Str} {qual : Str} {params : Arguments} {body : List Stmt} {scope : Scope} {f : Addr} {fd : FuncData} {k : Nat} (hd : DefOk T G W E fn N ps scope body) (F : FunD K fn.name qual params body scope [] [] f fd)
    (hbi : ∀ x, x ∈ biNames → mg x = none) (hG : ∀ x d, (x, d) ∈ G → ∃ u v, mg x = some u ∧ RelV v u ∧ ∀ M H, Dat K M H v d) (hc : Calls P w K mg base T W R cl k) (htab : XTab P K mg E) (hR : R = xR E K mg) : FnOk P w K mg base (L2.CX P w) (k + 1) f fd ps (spOf R K fn (runFn (Gam.F ⟨T, N, G, W, E⟩) cl fn)) := by
  refine F.ok hd.sc (fun vs H Q E ⟨M, ds, hl, _⟩ => hl.trans hd.np.symm) fun cdv A outer s H vs Q Ek hr ⟨M, ds, hl, ha, hdom, hq⟩ => ?_
  let C : Ctx := { K := K, M0 := M, H0 := H, R := R, Wx := fun cls d _ H' => Ek cls d H' }
  have L : LkS ⟨T, N, G, W, E⟩ cl (cxOf (L2.CX P w) P w K mg base N qual scope f cdv A outer s H Ek) C scope := {
    K := rfl
    N := rfl
    nd := hd.sc.nd
    calm := rfl
    scope := rfl
    kind := hd.sc.kind
    room := by have := hr.un; show (A.deeper (envOfC qual scope s.heap.objs.size f cdv)).units + 200 < cLine; omega
    takes := takes_of rfl rfl rfl (E := Ek) (E₁ := fun e' s'' => L2.CX P w outer H s Ek e' s'') rfl
    bi := hbi
    call := fun i fn' e => by
      obtain ⟨a, fd', ps', h1, h2, h3, h4⟩ := hc i fn' e
      exact ⟨k, a, fd', ps', h1, h2, h3, hr, h4⟩
    glo := hG
    pass := passes_of (K := fun e s'' => L2.CX P w outer H s Ek e s'') (E₁ := fun e' s'' => L2.CX P w outer H s Ek e' s'') rfl
    fnT := fun _ => rfl
    deep := by have := hr.dp; show (A.deeper (envOfC qual scope s.heap.objs.size f cdv)).depth + 1 < recursionLimit; omega
    stk := rfl
    frm := rfl
    tab := htab
    rel := hR }
  refine ⟨_, (sts_all fn.body).pss _ C scope body L hd.ok, ?_⟩
  unfold runFn at hq
  have hdl : ds.length = fn.np := by rw [← ha.len]; exact hl
  rw [if_pos hdl] at hq
  cases hst : EV.start ds fn.io with
  | none => rw [hst] at hq; exact hq.elim
  | some ρ =>
    rw [hst] at hq
    dsimp only at hq
    obtain ⟨r0, o0⟩ := entry hd.io hl hd.ns ha hdom hst
    have iow : ∀ {M' : AS} {H' : Hp}, Stp (Ow (ρ ++ List.replicate (fn.ns - fn.np) none) (L2.start N vs)) M H M' H' → Stp (Io fn.io vs) M H M' H' := fun s => s.wide o0
    have fin : ∀ {M' : AS} {H' : Hp} {ρ' : Ro} {σ' : EV.St} {r : Option (List EV.D)}, RepS C M' ρ' σ' H' → OwS (ρ ++ List.replicate (fn.ns - fn.np) none) (L2.start N vs) H ρ' σ' → ioEnd ρ' fn.io = some r → IoEnd K M' H' fn.io vs r := by
      intro M' H' ρ' σ' r rs os e
      unfold ioEnd at e
      unfold IoEnd
      cases hio : fn.io with
      | none => rw [hio] at e; cases e; rfl
      | some j =>
        rw [hio] at e
        dsimp only at e ⊢
        split at e
        · rename_i xs hg
          cases e
          obtain ⟨a, us, h1, h2, h3, h4⟩ := rs.rep.lst j _ xs (get_some hg) rfl
          have hm0 := rs.rep.io j xs a (get_some hg) h1
          rcases os a ⟨j, _, xs, get_some hg, rfl, h1⟩ with q | q
          · obtain ⟨j', hj', hv⟩ := o0 a q
            rw [hio] at hj'
            cases hj'
            exact ⟨a, us, xs, hv, rfl, h2, h3, h4⟩
          · obtain ⟨o, e⟩ := hdom a hm0
            rw [q] at e; cases e
        · cases e
    refine ⟨M, _, ⟨r0, fun a z => .inl z, fun a o e => ⟨o, e⟩⟩, ?_⟩
    show AfterS C _ M H _ (execs (Gam.F ⟨T, N, G, W, E⟩) cl fn.body (ρ ++ List.replicate (fn.ns - fn.np) none)) _
    cases hx : execs (Gam.F ⟨T, N, G, W, E⟩) cl fn.body (ρ ++ List.replicate (fn.ns - fn.np) none) with
    | stuck => rw [hx] at hq; exact hq.elim
    | exc x ρ' =>
      rw [hx] at hq
      dsimp only at hq
      unfold finishX at hq
      cases hi : ioEnd ρ' fn.io with
      | none => rw [hi] at hq; exact hq.elim
      | some r =>
        rw [hi] at hq
        exact fun M' H' σ' cls d s1 r1 o1 hR => hq M' H' cls d (iow s1) r1.rep.dom (fin r1 o1 hi) hR
    | ok p =>
      obtain ⟨fl, ρ'⟩ := p
      rw [hx] at hq
      cases fl with
      | brk => exact hq.elim
      | cont => exact hq.elim
      | next =>
        dsimp only at hq
        unfold finish at hq
        cases hi : ioEnd ρ' fn.io with
        | none => rw [hi] at hq; exact hq.elim
        | some r =>
          rw [hi] at hq
          exact fun M' H' σ' s1 r1 o1 => hq M' H' .non (iow s1) r1.rep.dom (fin r1 o1 hi) .non
      | ret u =>
        dsimp only at hq
        unfold finish at hq
        cases hi : ioEnd ρ' fn.io with
        | none => rw [hi] at hq; exact hq.elim
        | some r =>
          rw [hi] at hq
          exact fun M' H' σ' s1 r1 o1 v hv => hq M' H' v (iow s1) r1.rep.dom (fin r1 o1 hi) hv
/-- the table's defs, as the head tells them -/
def Tabled (K : PySem.W.Frag) (mg : Str → Option Value) (T : List Fn) (G : List (Str × D)) (W : List (Nat × List Str × List Nat)) (E : List XC) : Prop :=
  ∀ (i : Nat) (fn : Fn), T[i]? = some fn → ∃ N ps qual params body scope f fd, DefOk T G W E fn N ps scope body ∧ FunD K fn.name qual params body scope [] [] f fd ∧ mg fn.name = some (.ref f) ∧ (Binds K fd ps [] ∧ ∀ ks perm, (i, ks, perm) ∈ W → KwOk K fd ps ks perm)
theorem calls_all (ht : Tabled K mg T G W E) (htab : XTab P K mg E) (hR : R = xR E K mg) (hbi : ∀ x, x ∈ biNames → mg x = none) (hG : ∀ x d, (x, d) ∈ G → ∃ u v, mg x = some u ∧ RelV v u ∧ ∀ M H, Dat K M H v d) : ∀ n, Calls P w K mg base T W R (callN (fun i => T[i]?) n) n
  | 0 => fun i fn e => by
    obtain ⟨N, ps, qual, params, body, scope, f, fd, _, h2, h3, h4⟩ := ht i fn e
    exact ⟨f, fd, ps, h3, h2.kp, h4, ⟨fun vs H Q E ⟨M, ds, _, _, _, q⟩ => q.elim, fun A outer s H args us vs Q E hr e0 hb r ⟨M, ds, _, _, _, q⟩ => q.elim⟩⟩
  | n + 1 => fun i fn e => by
    obtain ⟨N, ps, qual, params, body, scope, f, fd, h1, h2, h3, h4⟩ := ht i fn e
    have step := fn_step (P := P) (w := w) (base := base) (R := R) h1 h2 hbi hG (calls_all ht htab hR hbi hG n) htab hR
    refine ⟨f, fd, ps, h3, h2.kp, h4, ?_⟩
    have e1 : callN (fun i => T[i]?) (n + 1) i = runFn (Gam.F ⟨T, N, G, W, E⟩) (callN (fun i => T[i]?) n) fn := by
      funext ds
      show (match T[i]? with | none => FRes.stuck | some fn => runFn (fun i => T[i]?) (callN (fun i => T[i]?) n) fn ds) = _
      rw [e]
      rfl
    rw [e1]
    exact step
end
end EV

end
section
set_option linter.all false
set_option maxRecDepth 100000
set_option maxHeartbeats 1000000
set_option Elab.async false
/-! EV: what the head reads of the exception classes -/
namespace EV
open PySem L2
/-- the text of an __init__ -/
def txtB (f : Str) (a : Arguments) (b : List Stmt) (sc : Scope) : Bool := decide (sc = xS f) && (match a, b with
  | ⟨[], [⟨s, none, _⟩, ⟨g, none, _⟩], none, [], [], none, []⟩, [.Expr (.Call (.Attribute (.Call (.Name s1 _) [] [] _) i a3) [.Name g1 _] [] a5) _, .Assign [.Attribute (.Name s2 _) g2 _] (.Name g3 _) _] =>
    decide (s = "self") && decide (g = f) && decide (s1 = "super") && decide (i = "__init__") && decide (g1 = f) && decide (s2 = "self") && decide (g2 = f) && decide (g3 = f) && (a3.endLine == a5.line)
  | _, _ => false)
theorem txtB_ok {f : Str} {a : Arguments} {b : List Stmt} {sc : Scope} (h : txtB f a b sc = true) : sc = xS f ∧ ∃ p1 p2 a1 a2 a3 a4 a5 a6 b1 b2 b3 b4, a = xA f p1 p2 ∧ b = xB f a1 a2 a3 a4 a5 a6 b1 b2 b3 b4 ∧ (a3.endLine == a5.line) = true := by
  unfold txtB at h
  rw [Bool.and_eq_true, decide_eq_true_eq] at h
  obtain ⟨h1, h2⟩ := h
  refine ⟨h1, ?_⟩
  split at h2
  · simp only [Bool.and_eq_true, decide_eq_true_eq] at h2
    obtain ⟨⟨⟨⟨⟨⟨⟨⟨rfl, rfl⟩, rfl⟩, rfl⟩, rfl⟩, rfl⟩, rfl⟩, rfl⟩, h⟩ := h2
    exact ⟨_, _, _, _, _, _, _, _, _, _, _, _, rfl, rfl, h⟩
  · cases h2
def nameB (f : Str) : Bool := decide (f = "number") || decide (f = "name") || decide (f = "word") || decide (f = "piece")
theorem nameB_ok {f : Str} (h : nameB f = true) : XName f := by
  unfold nameB at h
  simp only [Bool.or_eq_true, decide_eq_true_eq] at h
  rcases h with ((rfl | rfl) | rfl) | rfl
  · exact xname_number
  · exact xname_name
  · exact xname_word
  · exact xname_piece
/-- the class object -/
def xclB (K : PySem.W.Frag) (C : Addr) (bm : List Value) (newId : String) : Bool := match K.lookup C with
  | some ⟨.type t, _, .cls cd, sl⟩ => decide (t = "type") && (match sl.toList with
    | [_, _, _, _, some (.builtin n), _] => decide (n = newId)
    | _ => false) && decide (cd.mro = .ref C :: bm) && cd.hasDict && !cd.hasDel
  | _ => false
theorem xclB_ok {K : PySem.W.Frag} {C : Addr} {bm : List Value} {newId : String} (h : xclB K C bm newId = true) : ∃ nm q N bs sn sub ab col dd k0 k1 k2 k3 k5, K.lookup C = some (excClassObj nm q C N bs bm true sn sub ab col dd k0 k1 k2 k3 k5 newId) := by
  unfold xclB at h
  split at h
  · rename_i t dd cd sl ho
    simp only [Bool.and_eq_true, decide_eq_true_eq, Bool.not_eq_true'] at h
    obtain ⟨⟨⟨⟨rfl, h2⟩, h3⟩, h4⟩, h5⟩ := h
    split at h2
    · rename_i k0 k1 k2 k3 n k5 hs
      rw [decide_eq_true_eq] at h2
      subst h2
      obtain ⟨nm, bs, mro, ns, qn, hd, sn, sub, ab, col, del⟩ := cd
      dsimp only at h3 h4 h5
      subst h3 h4 h5
      have hsl : sl = #[k0, k1, k2, k3, some (.builtin n), k5] := by
        obtain ⟨l⟩ := sl
        simp only at hs
        rw [hs]
      subst hsl
      exact ⟨_, _, _, _, _, _, _, _, _, _, _, _, _, _, ho⟩
    · cases h2
  · cases h
def cdaOf (K : PySem.W.Frag) (fI : Addr) : Addr := match K.lookup fI with
  | some ⟨_, _, .func fd, _⟩ => (match fd.code with | .ref a => a | _ => 0)
  | _ => 0
def ccOf (K : PySem.W.Frag) (fI : Addr) : Addr := match K.lookup fI with
  | some ⟨_, _, .func fd, _⟩ => (match fd.closure with | [(_, a)] => a | _ => 0)
  | _ => 0
def bodyB (f : Str) (a : Arguments) (sc : Scope) : FuncBody → Bool
  | .stmts b => txtB f a b sc
  | _ => false
/-- the __init__ -/
def xfnB (K : PySem.W.Frag) (f : Str) (fI cda cc : Addr) : Bool := match K.lookup fI with
  | some ⟨_, _, .func fd, _⟩ => decide (fd.name = "__init__") && bodyB f fd.params fd.scope fd.body && decide (fd.globals = mainGlobals) && decide (fd.closure = [(("__class__" : Str), cc)]) && decide (fd.defaults = .none) && decide (fd.kwdefaults = .none) && decide (fd.code = .ref cda) && decide (fd.builtins = builtinsNs) && PySem.W.codeIn K (.ref cda) fd.qualname
  | _ => false
theorem xfnB_ok {K : PySem.W.Frag} {f : Str} {fI cda cc : Addr} (h : xfnB K f fI cda cc = true) : ∃ oc od qual doc pm an ct osl p1 p2 a1 a2 a3 a4 a5 a6 b1 b2 b3 b4,
    K.lookup fI = some ⟨oc, od, .func (PySem.W.ksFn "__init__" qual (xA f p1 p2) (xB f a1 a2 a3 a4 a5 a6 b1 b2 b3 b4) (xS f) .none .none doc pm an (.ref cda) ct cc), osl⟩ ∧ PySem.W.codeIn K (.ref cda) qual = true ∧ (a3.endLine == a5.line) = true := by
  unfold xfnB at h
  split at h
  · rename_i oc od fd osl ho
    obtain ⟨n1, n2, n3, n4, n5, n6, n7, n8, n9, n10, n11, n12, n13, n14, n15⟩ := fd
    simp only [Bool.and_eq_true, decide_eq_true_eq] at h
    obtain ⟨⟨⟨⟨⟨⟨⟨⟨rfl, h2⟩, rfl⟩, rfl⟩, rfl⟩, rfl⟩, rfl⟩, rfl⟩, h9⟩ := h
    cases n4 with
    | stmts b =>
      obtain ⟨rfl, p1, p2, a1, a2, a3, a4, a5, a6, b1, b2, b3, b4, rfl, rfl, hl⟩ := txtB_ok h2
      exact ⟨oc, od, n2, n10, n11, n12, n14, osl, p1, p2, a1, a2, a3, a4, a5, a6, b1, b2, b3, b4, ho, h9, hl⟩
    | _ => cases h2
  · cases h
def fileB (K : PySem.W.Frag) (cda : Addr) (file : Str) : Bool := match K.lookup cda with
  | some ⟨_, _, .fields vs, _⟩ => (match (vs[2]? : Option Value) with | some (Value.str x _) => file == x | _ => false)
  | _ => false
theorem fileB_ok {K : PySem.W.Frag} {cda : Addr} {fl : Str} (h : fileB K cda fl = true) : ∃ ccl cdd vs ccs file tf, K.lookup cda = some ⟨ccl, cdd, .fields vs, ccs⟩ ∧ vs[2]? = some (.str file tf) ∧ (fl == file) = true := by
  unfold fileB at h
  split at h
  · rename_i ccl cdd vs ccs ho
    split at h
    · rename_i x t hx
      exact ⟨_, _, _, _, _, _, ho, hx, h⟩
    · cases h
  · cases h
def cellB (K : PySem.W.Frag) (cc C : Addr) : Bool := match K.lookup cc with
  | some ⟨_, _, .cell (some (.ref D)), _⟩ => decide (D = C)
  | _ => false
theorem cellB_ok {K : PySem.W.Frag} {cc C : Addr} (h : cellB K cc C = true) : ∃ cl cld csl, K.lookup cc = some ⟨cl, cld, .cell (some (.ref C)), csl⟩ := by
  unfold cellB at h
  split at h
  · rename_i ho
    rw [decide_eq_true_eq] at h
    subst h
    exact ⟨_, _, _, ho⟩
  · cases h
def xtxtB (prog : Program) (K : PySem.W.Frag) (f : Str) (B newId initId : String) (bm : List Value) (C fI cda cc : Addr) : Bool :=
  xclB K C bm newId && (decide (PySem.W.findIn K (.ref C) "__setattr__" = some (some (.builtin "object.__setattr__"))) && (decide (PySem.W.findIn K (.ref C) f = some none) && (decide (PySem.W.findIn K (.ref C) "__init__" = some (some (.ref fI))) && (decide (PySem.W.typeIn K (.ref fI) = some (.type "function")) &&
  (PySem.W.keepIn K (.ref C) && (decide (PySem.W.subIn K (.ref C) (.type "BaseException") = some true) && (decide (PySem.W.typeIn K (.ref C) = some (.type "type")) && (decide (PySem.W.subIn K (.ref C) (.type B) = some true) && (decide (PySem.W.alongIn K "__init__" bm = some (some (.builtin initId))) &&
  (decide (PySem.W.nsIn K cStatics "thirdparty.any" = some none) && ((!(prog.main.scope.names.lookup ("super" : Str)).isSome) && (fileB K cda prog.main.file && (cellB K cc C && xfnB K f fI cda cc)))))))))))))
theorem xtxtB_ok {prog : Program} {K : PySem.W.Frag} {f : Str} {B newId initId : String} {bm : List Value} {C fI cda cc : Addr} (h : xtxtB prog K f B newId initId bm C fI cda cc = true) : XTxt prog K f B newId initId bm C fI cda cc := by
  unfold xtxtB at h
  simp only [Bool.and_eq_true, decide_eq_true_eq, Bool.not_eq_true'] at h
  obtain ⟨h1, h2, h3, h4, h5, h6, h7, h8, h9, h10, h11, h12, h13, h14, h15⟩ := h
  exact ⟨xclB_ok h1, h2, h3, h4, h5, h6, h7, h8, h9, h10, h11, h12, fileB_ok h13, cellB_ok h14, xfnB_ok h15⟩
def excCB (K : PySem.W.Frag) (C : Addr) : Bool := PySem.W.hasDictIn K C && (decide (PySem.W.findIn K (.ref C) "__class__" = some (some (.builtin "object.__class__"))) && (decide (PySem.W.specialIn K (.builtin "object.__class__") "__get__" = some (some (.builtin "getset_descriptor.__get__"))) && (decide (PySem.W.takesIn K (.builtin "object.__class__") = some true) && decide (PySem.W.mroIn K C (.type "object") = some true))))
def fldB (prog : Program) (K : PySem.W.Frag) (x : XC) (C : Addr) : Bool := match x.fld with
  | none => PySem.W.excIn K C x.bm x.newId
  | some f => nameB f && xtxtB prog K f x.B x.newId x.initId x.bm C (He.ma K C "__init__") (cdaOf K (He.ma K C "__init__")) (ccOf K (He.ma K C "__init__"))
def xcB (prog : Program) (K : PySem.W.Frag) (x : XC) (C : Addr) : Bool := He.eqO (PySem.W.nsIn K mainGlobals x.name) (some (some (.ref C))) && ((!(x.name == ("__debug__" : Str))) && (fldB prog K x C && (PySem.W.keepIn K (.ref C) && (decide (PySem.W.typeIn K (.ref C) = some (.type "type")) && (xfB K C && (excCB K C &&
  (decide (PySem.W.kitOne K (.ref C) (.type "LookupError") = some x.look) && decide (PySem.W.kitOne K (.ref C) (.type "ValueError") = some (!x.look)))))))))
theorem xcB_ok {prog : Program} {K : PySem.W.Frag} {h : Heap} {mg : Str → Option Value} {x : XC} {C : Addr} (X : K.In h) (G : h.Ns mainGlobals mg) (e : xcB prog K x C = true) : XcOk prog K mg x C := by
  unfold xcB at e
  simp only [Bool.and_eq_true, decide_eq_true_eq, Bool.not_eq_true'] at e
  obtain ⟨h1, h2, h3, h4, h5, h6, h7, h8, h9⟩ := e
  have xf := xfB_ok h6
  unfold excCB at h7
  simp only [Bool.and_eq_true, decide_eq_true_eq] at h7
  obtain ⟨g1, g2, g3, g4, g5⟩ := h7
  refine ⟨PySem.W.mg_of X G (He.eqO_ok h1), h2, fun f hf => ?_, fun hf => ?_, h4, h5, xf, ⟨xf.ga, xf.gg, xf.exC, g1, g2, g3, g4, g5⟩, h8, h9⟩
  · unfold fldB at h3
    rw [hf] at h3
    simp only [Bool.and_eq_true] at h3
    exact ⟨nameB_ok h3.1, _, _, _, xtxtB_ok h3.2⟩
  · unfold fldB at h3
    rw [hf] at h3
    exact h3
def xtB (prog : Program) (K : PySem.W.Frag) (E : List XC) : Bool := (E.all fun x => xcB prog K x (He.ga K x.name)) && (E.zipIdx.all fun p => E.zipIdx.all fun q => decide (PySem.W.exmOne K (.ref (He.ga K p.1.name)) (.ref (He.ga K q.1.name)) = some (q.2 == p.2)))
theorem xtB_ok {prog : Program} {K : PySem.W.Frag} {h : Heap} {mg : Str → Option Value} {E : List XC} (X : K.In h) (G : h.Ns mainGlobals mg) (e : xtB prog K E = true) : XTab prog K mg E := by
  unfold xtB at e
  rw [Bool.and_eq_true] at e
  have one : ∀ (i : Nat) (x : XC), E[i]? = some x → XcOk prog K mg x (He.ga K x.name) := fun i x hx => xcB_ok X G (List.all_eq_true.mp e.1 x (List.mem_of_getElem? hx))
  refine ⟨fun i x hx => ⟨_, one i x hx⟩, fun i j x y C D hx hy hC hD => ?_⟩
  have mx : (x, i) ∈ E.zipIdx := by rw [List.mem_zipIdx_iff_getElem?]; exact hx
  have my : (y, j) ∈ E.zipIdx := by rw [List.mem_zipIdx_iff_getElem?]; exact hy
  have := List.all_eq_true.mp (List.all_eq_true.mp e.2 _ mx) _ my
  rw [decide_eq_true_eq] at this
  have e1 := (one i x hx).gC
  have e2 := (one j y hy).gC
  rw [hC] at e1; cases e1
  rw [hD] at e2; cases e2
  exact this
end EV

end
section
set_option linter.all false
set_option maxRecDepth 100000
set_option Elab.async false
/-! EV: the evaluator's rules, head first -/
namespace EV
open PySem
/-- what an exception is to keep -/
class Xp where
  X : Exn → Ro → Prop
/-- none comes -/
instance noX : Xp := ⟨fun _ _ => False⟩
def Ok {α : Type} [Xp] (r : Res α) (Q : α → Prop) : Prop := match r with
  | .ok a => Q a
  | .exc x ρ => Xp.X x ρ
  | .stuck => False
section
variable {I : Xp}
def OkF (r : FRes) (Q : W → Option (List D) → Prop) : Prop := match r with
  | .ok w io => Q w io
  | _ => False
def OM {α : Type} (o : Option α) (k : α → Prop) : Prop := match o with
  | some a => k a
  | none => False
def OG (ρ : Ro) (i : Nat) (k : D → Prop) : Prop := OM (EV.get ρ i) fun s => k s.d
def OL (ρ : Ro) (i : Nat) (k : D → Ro → Prop) : Prop := OM (leak ρ i) fun p => k p.1 p.2
def OS (ρ : Ro) (i : Nat) (w : W) (k : Ro → Prop) : Prop := OM (setD ρ i w) k
def OSs (ρ : Ro) (is : List Nat) (ds : List D) (k : Ro → Prop) : Prop := OM (setDs ρ is ds) k
def OSw (ρ : Ro) (is : List Nat) (ds : List W) (k : Ro → Prop) : Prop := OM (setAll ρ is ds) k
def OU (ρ : Ro) (i : Nat) (e d : D) (k : Ro → Prop) : Prop := OM (subD i e d ρ) k
def OR (ρ : Ro) (o : Opd) (k : D → Prop) : Prop := OM (o.rd ρ) k
def ORs (ρ : Ro) (os : List Opd) (k : List D → Prop) : Prop := OM (rdAll ρ os) k
def OW (w : W) (k : D → Prop) : Prop := k w.d
def OB (d : D) (k : Bool → Prop) : Prop := OM (boolO d) k
def OI (b : Bool) (p q : Prop) : Prop := (b = true → p) ∧ (b = false → q)
def ON (b : Bool) (k : Bool → Prop) : Prop := k !b
def OX (xs : List D) (n : Nat) (d : D) (k : List D → Prop) : Prop := k (xs.set n d)
def OZ (xs : List D) (p : Prop) : Prop := xs.length ≤ sizeLine ∧ p
def OH (ts : List Ty) (d : D) (k : Bool → Prop) : Prop := k (ts.any fun t => t.has d)
def PI (ρ : Ro) (io : Option Nat) (r : Option (List D)) (k : Ro → Prop) : Prop := k (putIo ρ io r)
def BK (ρ0 ρ : Ro) (is : List Nat) (k : Ro → Prop) : Prop := k (backR ρ0 ρ is)
def OT (d : D) (k : List D → Prop) : Prop := match d with
  | .tuple ds => k ds
  | _ => False
def OO (ρ : Ro) (i : Nat) (p : Prop) : Prop := isOwnSlot ρ i = true ∧ p
def OLs (ρ : Ro) (i : Nat) (p : Prop) : Prop := isListSlot ρ i = true ∧ p
def ORt (ρ : Ro) (i : Nat) (k : W → Ro → Prop) : Prop := match EV.get ρ i with
  | some (.own xs) => k (.new xs) (ρ.set i none)
  | _ => OL ρ i fun d r => k (.dat d) r
def OE (ρ : Ro) (io : Option Nat) (k : Option (List D) → Prop) : Prop := OM (ioEnd ρ io) k
def Fin (io : Option Nat) (Q : W → Option (List D) → Prop) : EV.Flow × Ro → Prop
  | (.next, ρ) => OE ρ io (Q (.dat .none))
  | (.ret w, ρ) => OE ρ io (Q w)
  | _ => False
def KN [Xp] (F : Nat → Option Fn) (cl : Nat → List D → FRes) (r : Ss) (k : EV.Flow × Ro → Prop) : EV.Flow × Ro → Prop
  | (.next, ρ) => Ok (EV.execs F cl r ρ) k
  | (f, ρ) => k (f, ρ)
def rng1 : D → Option (List D)
  | .int j => if (small62 j && decide (j ≤ sizeLine)) = true then some (rangeD 0 j) else none
  | _ => none
def rng2 : D → D → Option (List D)
  | .int i, .int j => if (small62 i && small62 j && decide (j - i ≤ sizeLine)) = true then some (rangeD i j) else none
  | _, _ => none
def rngD : D → D → Option (List D)
  | .int i, .int j => if (small62 i && small62 j && decide (i - j ≤ sizeLine)) = true then some (downD i j) else none
  | _, _ => none
def zipO : D → D → Option (List D)
  | .list xs, .list ys => some (zipD xs ys)
  | .tuple xs, .tuple ys => some (zipD xs ys)
  | _, _ => none
def repD : W → D → Option W
  | .new xs, .int k => if 0 ≤ k ∧ k < 2 ^ 30 ∧ xs.length * k.toNat ≤ sizeLine then some (.new (List.replicate k.toNat xs).flatten) else none
  | _, _ => none
section
variable {α β : Type}
theorem ok_bind (r : Res α) (f : α → Res β) (Q : β → Prop) : Ok (r.bind f) Q = Ok r fun a => Ok (f a) Q := by cases r <;> rfl
theorem ok_noExc (r : Res α) (Q : α → Prop) : Ok (noExc r) Q = @Ok _ noX r Q := by cases r <;> rfl
theorem Ok.mono {r : Res α} {Q Q' : α → Prop} (h : Ok r Q) (f : ∀ a, Q a → Q' a) : Ok r Q' := by
  cases r with
  | ok a => exact f a h
  | _ => exact h
theorem Ok.monoN {r : Res α} {Q Q' : α → Prop} (h : @Ok _ noX r Q) (f : ∀ a, Q a → Q' a) : @Ok _ noX r Q' := by
  cases r with
  | ok a => exact f a h
  | _ => exact h
theorem Ok.widen {r : Res α} {Q : α → Prop} (h : @Ok _ noX r Q) : Ok r Q := by
  cases r with
  | ok a => exact h
  | _ => exact h.elim
theorem OkF.mono {r : FRes} {Q Q' : W → Option (List D) → Prop} (h : OkF r Q) (f : ∀ a b, Q a b → Q' a b) : OkF r Q' := by
  cases r with
  | ok a b => exact f a b h
  | _ => exact h
theorem om_ite {c : Prop} [Decidable c] (a : α) (k : α → Prop) : OM (if c then some a else none) k = (c ∧ k a) := by
  by_cases h : c
  · rw [if_pos h]; exact propext ⟨fun x => ⟨h, x⟩, fun x => x.2⟩
  · rw [if_neg h]; exact propext ⟨fun x => x.elim, fun x => (h x.1).elim⟩
theorem om_eq (x y : D) (k : W → Prop) : OM (op2 .eq x y) k = (eqOk x y = true ∧ k (.dat (.bool (PyData.eqv x y)))) := by
  have e : op2 .eq x y = if eqOk x y then some (.dat (.bool (PyData.eqv x y))) else none := by cases x <;> cases y <;> rfl
  rw [e]; exact om_ite _ _
theorem om_ne (x y : D) (k : W → Prop) : OM (op2 .ne x y) k = (eqOk x y = true ∧ k (.dat (.bool (!PyData.eqv x y)))) := by
  have e : op2 .ne x y = if eqOk x y then some (.dat (.bool (!PyData.eqv x y))) else none := by cases x <;> cases y <;> rfl
  rw [e]; exact om_ite _ _
end
theorem om_lt (i j : Int) (k : W → Prop) : OM (op2 .lt (.int i) (.int j)) k = k (.dat (.bool (decide (i < j)))) := by
  have e : op2 .lt (.int i) (.int j) = some (.dat (.bool (decide (i < j)))) := by
    rw [← PySem.W.dataLt_int]; rfl
  rw [e]; rfl
theorem om_p18 (k : W → Prop) : OM (op2 .pow (.int 10) (.int 18)) k = k (.dat (.int 1000000000000000000)) := by
  have e : op2 .pow (.int 10) (.int 18) = some (.dat (.int 1000000000000000000)) := by
    have h : (0 : Int) ≤ 18 ∧ (18 : Int) ≤ 1000000 ∧ (10 : Int).natAbs < 2 ^ 64 := by decide
    simp only [op2, if_pos h]; rfl
  rw [e]; rfl
theorem eqv_int (i j : Int) : PyData.eqv (.int i) (.int j) = decide (i = j) := by
  rw [PyData.eqv]
  by_cases h : i = j <;> simp [h]
theorem eqv_str (i j : Str) : PyData.eqv (.str i) (.str j) = decide (i = j) := by
  rw [PyData.eqv]
  by_cases h : i = j <;> simp [h]
theorem om_eqI (i j : Int) (k : W → Prop) : OM (op2 .eq (.int i) (.int j)) k = k (.dat (.bool (decide (i = j)))) := by
  rw [← eqv_int]; rfl
theorem om_neI (i j : Int) (k : W → Prop) : OM (op2 .ne (.int i) (.int j)) k = k (.dat (.bool (!decide (i = j)))) := by
  rw [← eqv_int]; rfl
theorem om_eqBB (a : Bool) (k : W → Prop) : OM (op2 .eq (.bool a) (.bool a)) k = k (.dat (.bool true)) := by
  cases a <;> rfl
theorem om_neBB (a : Bool) (k : W → Prop) : OM (op2 .ne (.bool a) (.bool a)) k = k (.dat (.bool false)) := by
  cases a <;> rfl
theorem shaped_str (i : Str) : SeqAt.shaped (.str i) = PyData.strOk i := by
  unfold SeqAt.shaped
  rw [PyData.canLay0, PyData.depth]; simp
theorem om_eqS (i j : Str) (k : W → Prop) : OM (op2 .eq (.str i) (.str j)) k = ((PyData.strOk i && PyData.strOk j) = true ∧ k (.dat (.bool (decide (i = j))))) := by
  rw [om_eq, eqv_str, eqOk, shaped_str, shaped_str]
theorem om_neS (i j : Str) (k : W → Prop) : OM (op2 .ne (.str i) (.str j)) k = ((PyData.strOk i && PyData.strOk j) = true ∧ k (.dat (.bool (!decide (i = j))))) := by
  rw [om_ne, eqv_str, eqOk, shaped_str, shaped_str]
theorem om_inL (x : D) (xs : List D) (k : W → Prop) : OM (op2 .isin x (.list xs)) k = ((SeqAt.shaped x && SeqAt.shaped (.list xs)) = true ∧ k (.dat (.bool (inD x xs)))) := by
  have e : op2 .isin x (.list xs) = if (SeqAt.shaped x && SeqAt.shaped (.list xs)) = true then some (.dat (.bool (inD x xs))) else none := by cases x <;> rfl
  rw [e]; exact om_ite _ _
theorem om_inT (x : D) (xs : List D) (k : W → Prop) : OM (op2 .isin x (.tuple xs)) k = ((SeqAt.shaped x && SeqAt.shaped (.tuple xs)) = true ∧ k (.dat (.bool (inD x xs)))) := by
  have e : op2 .isin x (.tuple xs) = if (SeqAt.shaped x && SeqAt.shaped (.tuple xs)) = true then some (.dat (.bool (inD x xs))) else none := by cases x <;> rfl
  rw [e]; exact om_ite _ _
theorem om_niL (x : D) (xs : List D) (k : W → Prop) : OM (op2 .notin x (.list xs)) k = ((SeqAt.shaped x && SeqAt.shaped (.list xs)) = true ∧ k (.dat (.bool (!inD x xs)))) := by
  have e : op2 .notin x (.list xs) = if (SeqAt.shaped x && SeqAt.shaped (.list xs)) = true then some (.dat (.bool (!inD x xs))) else none := by cases x <;> rfl
  rw [e]; exact om_ite _ _
theorem om_niT (x : D) (xs : List D) (k : W → Prop) : OM (op2 .notin x (.tuple xs)) k = ((SeqAt.shaped x && SeqAt.shaped (.tuple xs)) = true ∧ k (.dat (.bool (!inD x xs)))) := by
  have e : op2 .notin x (.tuple xs) = if (SeqAt.shaped x && SeqAt.shaped (.tuple xs)) = true then some (.dat (.bool (!inD x xs))) else none := by cases x <;> rfl
  rw [e]; exact om_ite _ _
theorem oi_true0 (p q : Prop) : OI true p q = p := propext ⟨fun h => h.1 rfl, fun h => ⟨fun _ => h, fun z => Bool.noConfusion z⟩⟩
theorem oi_false0 (p q : Prop) : OI false p q = q := propext ⟨fun h => h.2 rfl, fun h => ⟨fun z => Bool.noConfusion z, fun _ => h⟩⟩
theorem oi_t {b : Bool} {p q : Prop} (h : b = true) : OI b p q = p := by rw [h]; exact oi_true0 p q
theorem oi_f {b : Bool} {p q : Prop} (h : b = false) : OI b p q = q := by rw [h]; exact oi_false0 p q
theorem oz_small (xs : List D) (k : Prop) (h : xs.length ≤ 100) : OZ xs k = k := propext ⟨fun h => h.2, fun q => ⟨by rw [sizeLine_eq]; omega, q⟩⟩
theorem ixN_k (xs : List D) (n : Nat) (k : Nat → Prop) (h : n < xs.length) : OM (ixN xs.length (n : Int)) k = k n := by
  unfold ixN
  rw [if_pos (by omega), if_pos (by omega)]
  rfl
theorem atD_k (xs : List D) (n : Nat) (x : D) (k : D → Prop) (e : xs[n]? = some x) (h : n < xs.length) : OM (atD xs (n : Int)) k = k x := by
  unfold atD ixN
  rw [if_pos (by omega), if_pos (by omega)]
  show OM (xs[(n : Int).toNat]?) k = k x
  rw [Int.toNat_natCast, e]; rfl
theorem ol_s0 (x : Option Sv) (ρ : Ro) (n : Nat) (k : D → Ro → Prop) : OL (x :: ρ) (n + 1) k = OL ρ n fun d r => k d (x :: r) := by
  have e : EV.get (x :: ρ) (n + 1) = EV.get ρ n := rfl
  unfold OL leak
  rw [e]
  cases EV.get ρ n with
  | none => rfl
  | some s => cases s <;> rfl
theorem os_s0 (x : Option Sv) (ρ : Ro) (n : Nat) (w : W) (k : Ro → Prop) : OS (x :: ρ) (n + 1) w k = OS ρ n w fun r => k (x :: r) := by
  have e : (x :: ρ)[n + 1]? = ρ[n]? := rfl
  unfold OS setD
  rw [e]
  cases ρ[n]? with
  | none => rfl
  | some s =>
    cases s with
    | none => rfl
    | some s => cases s <;> rfl
theorem ou_s0 (x : Option Sv) (ρ : Ro) (n : Nat) (e d : D) (k : Ro → Prop) : OU (x :: ρ) (n + 1) e d k = OU ρ n e d fun r => k (x :: r) := by
  have g : EV.get (x :: ρ) (n + 1) = EV.get ρ n := rfl
  unfold OU subD
  rw [g]
  cases e with
  | int j =>
    dsimp only
    cases EV.get ρ n with
    | none => rfl
    | some s =>
      cases s with
      | dat _ => rfl
      | own xs => dsimp only; cases ixN xs.length j <;> rfl
      | io xs => dsimp only; cases ixN xs.length j <;> rfl
  | _ => rfl
theorem ou_own0 (xs : List D) (ρ : Ro) (j : Int) (d : D) (k : Ro → Prop) : OU (some (.own xs) :: ρ) 0 (.int j) d k = OM (ixN xs.length j) fun n => k (some (.own (xs.set n d)) :: ρ) := by
  show OM ((ixN xs.length j).map _) k = _
  cases ixN xs.length j <;> rfl
theorem ou_io0 (xs : List D) (ρ : Ro) (j : Int) (d : D) (k : Ro → Prop) : OU (some (.io xs) :: ρ) 0 (.int j) d k = OM (ixN xs.length j) fun n => k (some (.io (xs.set n d)) :: ρ) := by
  show OM ((ixN xs.length j).map _) k = _
  cases ixN xs.length j <;> rfl
theorem ors_cons0 (ρ : Ro) (o : Opd) (os : List Opd) (k : List D → Prop) : ORs ρ (o :: os) k = OR ρ o fun d => ORs ρ os fun ds => k (d :: ds) := by
  unfold ORs OR
  show OM ((o.rd ρ).bind _) k = _
  cases o.rd ρ with
  | none => rfl
  | some d =>
    show OM ((rdAll ρ os).map _) k = _
    cases rdAll ρ os <;> rfl
theorem or_slot0 (ρ : Ro) (i : Nat) (k : D → Prop) : OR ρ (.slot i) k = OG ρ i k := by
  show OM ((EV.get ρ i).map _) k = OM (EV.get ρ i) _
  cases EV.get ρ i <;> rfl
theorem oss_cons0 (ρ : Ro) (i : Nat) (is : List Nat) (d : D) (ds : List D) (k : Ro → Prop) : OSs ρ (i :: is) (d :: ds) k = OS ρ i (.dat d) fun ρ2 => OSs ρ2 is ds k := by
  show OM ((setD ρ i (.dat d)).bind _) k = OM (setD ρ i (.dat d)) _
  cases setD ρ i (.dat d) <;> rfl
theorem osw_cons0 (ρ : Ro) (i : Nat) (is : List Nat) (d : W) (ds : List W) (k : Ro → Prop) : OSw ρ (i :: is) (d :: ds) k = OS ρ i d fun ρ2 => OSw ρ2 is ds k := by
  show OM ((setD ρ i d).bind _) k = OM (setD ρ i d) _
  cases setD ρ i d <;> rfl
theorem oo_z0 (xs : List D) (ρ : Ro) (p : Prop) : OO (some (.own xs) :: ρ) 0 p = p := propext ⟨fun h => h.2, fun h => ⟨rfl, h⟩⟩
theorem ols_own0 (xs : List D) (ρ : Ro) (p : Prop) : OLs (some (.own xs) :: ρ) 0 p = p := propext ⟨fun h => h.2, fun h => ⟨rfl, h⟩⟩
theorem ols_io0 (xs : List D) (ρ : Ro) (p : Prop) : OLs (some (.io xs) :: ρ) 0 p = p := propext ⟨fun h => h.2, fun h => ⟨rfl, h⟩⟩
theorem ort_s0 (x : Option Sv) (ρ : Ro) (n : Nat) (k : W → Ro → Prop) : ORt (x :: ρ) (n + 1) k = ORt ρ n fun d r => k d (x :: r) := by
  have e : EV.get (x :: ρ) (n + 1) = EV.get ρ n := rfl
  unfold ORt
  rw [e, ol_s0]
  cases EV.get ρ n with
  | none => rfl
  | some s => cases s <;> rfl
section
variable (F : Nat → Option Fn) (cl : Nat → List D → FRes)
theorem e_var0 (i : Nat) (ρ : Ro) (k : W × Ro → Prop) : Ok (EV.ev F cl (.var i) ρ) k = OL ρ i fun d r => k (.dat d, r) := by
  show Ok ((Res.of (leak ρ i)).bind _) k = _
  rw [ok_bind]; unfold OL; cases leak ρ i <;> rfl
theorem p_var0 (i : Nat) (ρ : Ro) (k : Opd × Ro → Prop) : Ok (opdOf (EV.ev F cl (.var i)) (.var i) ρ) k = OG ρ i fun _ => k (.slot i, ρ) := by
  show Ok ((Res.of (EV.get ρ i)).bind _) k = _
  rw [ok_bind]; unfold OG; cases EV.get ρ i <;> rfl
theorem pd_var0 (i : Nat) (ρ : Ro) (k : Opd × Ro → Prop) : Ok (opdD (EV.ev F cl (.var i)) (.var i) ρ) k = OG ρ i fun _ => k (.slot i, ρ) := p_var0 F cl i ρ k
theorem two_rd (ρ : Ro) (o o' : Opd) {α : Type} (f : D → D → Res α) (k : α → Prop) : Ok (match o.rd ρ, o'.rd ρ with | some d, some e => f d e | _, _ => .stuck) k = OR ρ o fun d => OR ρ o' fun e => Ok (f d e) k := by
  unfold OR
  cases o.rd ρ <;> cases o'.rd ρ <;> rfl
theorem tru_ok (o : Option Bool) (r r' : Res (W × Ro)) (k : W × Ro → Prop) : Ok (match o with | some true => r | some false => r' | none => .stuck) k = OM o fun t => OI t (Ok r k) (Ok r' k) := by
  cases o with
  | none => rfl
  | some t =>
    cases t
    · exact (oi_false0 _ _).symm
    · exact (oi_true0 _ _).symm
theorem ok_ofM0 {α : Type} (o : Option α) (k : α → Prop) : Ok (Res.of o) k = OM o k := by cases o <;> rfl
theorem e_op20 (o : Op2) (a b : E) (ρ : Ro) (k : W × Ro → Prop) : Ok (EV.ev F cl (.op2 o a b) ρ) k = Ok (opdOf (EV.ev F cl a) a ρ) fun p => Ok (opdOf (EV.ev F cl b) b p.2) fun q => OR q.2 p.1 fun d => OR q.2 q.1 fun e => OM (op2 o d e) fun w => k (w, q.2) := by
  rw [EV.ev]
  rw [ok_bind]; congr 1; funext p
  rw [ok_bind]; congr 1; funext q
  refine (two_rd q.2 p.1 q.1 _ k).trans ?_
  simp only [ok_bind, ok_ofM0]; rfl
theorem e_idx0 (a b : E) (ρ : Ro) (k : W × Ro → Prop) : Ok (EV.ev F cl (.idx a b) ρ) k = Ok (opdOf (EV.ev F cl a) a ρ) fun p => Ok (opdOf (EV.ev F cl b) b p.2) fun q => OR q.2 p.1 fun d => OR q.2 q.1 fun e => OM (idxD d e) fun w => k (.dat w, q.2) := by
  rw [EV.ev]
  rw [ok_bind]; congr 1; funext p
  rw [ok_bind]; congr 1; funext q
  refine (two_rd q.2 p.1 q.1 _ k).trans ?_
  simp only [ok_bind, ok_ofM0]; rfl
theorem bind_om {α β : Type} (o : Option α) (f : α → Option β) (k : β → Prop) : OM (o.bind f) k = OM o fun a => OM (f a) k := by cases o <;> rfl
theorem e_op10 (o : Op1) (a : E) (ρ : Ro) (k : W × Ro → Prop) : Ok (EV.ev F cl (.op1 o a) ρ) k = Ok (opdOf (EV.ev F cl a) a ρ) fun p => OR p.2 p.1 fun d => OM (op1 o d) fun w => k (w, p.2) := by
  rw [EV.ev]
  simp only [ok_bind, ok_ofM0, bind_om]; rfl
theorem e_rev0 (a : E) (ρ : Ro) (k : W × Ro → Prop) : Ok (EV.ev F cl (.rev a) ρ) k = Ok (opdOf (EV.ev F cl a) a ρ) fun p => OR p.2 p.1 fun d => OM (revD d) fun w => k (w, p.2) := by
  rw [EV.ev]
  simp only [ok_bind, ok_ofM0, bind_om]; rfl
theorem e_bi0 (b : Bi) (es : Es) (ρ : Ro) (k : W × Ro → Prop) : Ok (EV.ev F cl (.bi b es) ρ) k = Ok (EV.evA F cl es ρ) fun p => ORs p.2 p.1 fun ds => OM (EV.bi b ds) fun w => k (w, p.2) := by
  rw [EV.ev]
  simp only [ok_bind, ok_ofM0, bind_om]; rfl
theorem t_test0 (e : E) (ρ : Ro) (k : Bool × Ro → Prop) : Ok (testOf (EV.ev F cl e) ρ) k = Ok (EV.ev F cl e ρ) fun p => OW p.1 fun d => OB d fun b => k (b, p.2) := by
  unfold testOf
  simp only [ok_bind, ok_ofM0]; rfl
theorem t_dat0 (e : E) (ρ : Ro) (k : D × Ro → Prop) : Ok (datOf (EV.ev F cl e) ρ) k = Ok (EV.ev F cl e ρ) fun p => OW p.1 fun d => k (d, p.2) := by
  unfold datOf
  simp only [ok_bind]; rfl
theorem ok_if {α : Type} (b : Bool) (r r' : Res α) (k : α → Prop) : Ok (if b = true then r else r') k = OI b (Ok r k) (Ok r' k) := by
  cases b
  · rw [oi_false0]; rfl
  · rw [oi_true0]; rfl
theorem e_bopT0 (e e2 : E) (r : Es) (ρ : Ro) (k : W × Ro → Prop) : Ok (EV.evB F cl true (.cons e (.cons e2 r)) ρ) k = Ok (testOf (EV.ev F cl e) ρ) fun p => OI p.1 (Ok (EV.evB F cl true (.cons e2 r) p.2) k) (k (.dat (.bool false), p.2)) := by
  rw [EV.evB]
  rw [ok_bind]; congr 1; funext p
  obtain ⟨b, ρ'⟩ := p
  cases b
  · rw [oi_false0]; rfl
  · rw [oi_true0]; rfl
  · intro z; cases z
theorem e_bopF0 (e e2 : E) (r : Es) (ρ : Ro) (k : W × Ro → Prop) : Ok (EV.evB F cl false (.cons e (.cons e2 r)) ρ) k = Ok (testOf (EV.ev F cl e) ρ) fun p => OI p.1 (k (.dat (.bool true), p.2)) (Ok (EV.evB F cl false (.cons e2 r) p.2) k) := by
  rw [EV.evB]
  rw [ok_bind]; congr 1; funext p
  obtain ⟨b, ρ'⟩ := p
  cases b
  · rw [oi_false0]; rfl
  · rw [oi_true0]; rfl
  · intro z; cases z
theorem e_not0 (a : E) (ρ : Ro) (k : W × Ro → Prop) : Ok (EV.ev F cl (.not a) ρ) k = Ok (testOf (EV.ev F cl a) ρ) fun p => ON p.1 fun b => k (.dat (.bool b), p.2) := by
  rw [EV.ev, ok_bind]; rfl
theorem e_ite0 (c a b : E) (ρ : Ro) (k : W × Ro → Prop) : Ok (EV.ev F cl (.ite c a b) ρ) k = Ok (testOf (EV.ev F cl c) ρ) fun p => OI p.1 (Ok (EV.ev F cl a p.2) k) (Ok (EV.ev F cl b p.2) k) := by
  rw [EV.ev, ok_bind]; congr 1; funext p; exact ok_if _ _ _ _
theorem e_orT0 (a b : E) (ρ : Ro) (k : W × Ro → Prop) : Ok (EV.ev F cl (.orT a b) ρ) k = Ok (EV.ev F cl a ρ) fun p => OW p.1 fun d => OM (tru d) fun t => OI t (k p) (Ok (EV.ev F cl b p.2) k) := by
  rw [EV.ev, ok_bind]; congr 1; funext p
  exact tru_ok (tru p.1.d) (.ok p) (EV.ev F cl b p.2) k
theorem ok_len {α : Type} (n : Nat) (a : α) (k : α → Prop) : Ok (if n ≤ sizeLine then .ok a else .stuck) k = (n ≤ sizeLine ∧ k a) := by
  by_cases h : n ≤ sizeLine
  · rw [if_pos h]; exact propext ⟨fun x => ⟨h, x⟩, fun x => x.2⟩
  · rw [if_neg h]; exact propext ⟨fun x => x.elim, fun x => (h x.1).elim⟩
theorem e_tup0 (es : Es) (ρ : Ro) (k : W × Ro → Prop) : Ok (EV.ev F cl (.tup es) ρ) k = Ok (EV.evL F cl es ρ) fun p => OZ p.1 (k (.dat (.tuple p.1), p.2)) := by
  rw [EV.ev, ok_bind]; congr 1; funext p; exact ok_len _ _ _
theorem e_lst0 (es : Es) (ρ : Ro) (k : W × Ro → Prop) : Ok (EV.ev F cl (.lst es) ρ) k = Ok (EV.evL F cl es ρ) fun p => OZ p.1 (k (.new p.1, p.2)) := by
  rw [EV.ev, ok_bind]; congr 1; funext p; exact ok_len _ _ _
theorem one_rd (ρ : Ro) (o : Opd) {α : Type} (f : D → Res α) (k : α → Prop) : Ok (match o.rd ρ with | some d => f d | none => .stuck) k = OR ρ o fun d => Ok (f d) k := by
  unfold OR
  cases o.rd ρ <;> rfl
theorem e_slc0 (a : E) (lo hi : Eo) (ρ : Ro) (k : W × Ro → Prop) : Ok (EV.ev F cl (.slc a lo hi) ρ) k = Ok (opdOf (EV.ev F cl a) a ρ) fun p => Ok (EV.evI F cl lo p.2) fun q => Ok (EV.evI F cl hi q.2) fun r => OR r.2 p.1 fun d => OM (slcD d q.1 r.1) fun w => k (w, r.2) := by
  rw [EV.ev]
  rw [ok_bind]; congr 1; funext p
  rw [ok_bind]; congr 1; funext q
  rw [ok_bind]; congr 1; funext r
  refine (one_rd r.2 p.1 _ k).trans ?_
  simp only [ok_bind, ok_ofM0]; rfl
theorem e_isi0 (a : E) (ts : List Ty) (b : Bool) (ρ : Ro) (k : W × Ro → Prop) : Ok (EV.ev F cl (.isi a ts b) ρ) k = Ok (opdOf (EV.ev F cl a) a ρ) fun p => OR p.2 p.1 fun d => OH ts d fun c => k (.dat (.bool c), p.2) := by
  rw [EV.ev]
  rw [ok_bind]; congr 1; funext p
  exact one_rd p.2 p.1 _ k
theorem e_rep0 (a b : E) (ρ : Ro) (k : W × Ro → Prop) : Ok (EV.ev F cl (.rep a b) ρ) k = Ok (EV.ev F cl a ρ) fun p => Ok (opdOf (EV.ev F cl b) b p.2) fun q => OR q.2 q.1 fun d => OM (repD p.1 d) fun w => k (w, q.2) := by
  rw [EV.ev]
  rw [ok_bind]; congr 1; funext p
  rw [ok_bind]; congr 1; funext q
  obtain ⟨w, ρ1⟩ := p
  obtain ⟨o, ρ2⟩ := q
  unfold OR
  dsimp only
  cases o.rd ρ2 with
  | none => cases w <;> rfl
  | some d =>
    show _ = OM (repD w d) _
    cases w with
    | dat e => cases d <;> rfl
    | new xs =>
      cases d with
      | int n =>
        dsimp only [repD]
        split
        · rfl
        · rfl
      | _ => rfl
theorem e_call0 (f : Nat) (es : Es) (ρ : Ro) (k : W × Ro → Prop) : Ok (EV.ev F cl (.call f es) ρ) k = OM (F f) fun fn => Ok (EV.evCA F cl es fn.io ρ) fun p => Ok (callE fn (cl f) p.1 p.2) k := by
  rw [EV.ev]
  cases F f with
  | none => rfl
  | some fn => exact ok_bind _ _ _
theorem e_call00 (f : Nat) (ρ : Ro) (k : W × Ro → Prop) : Ok (EV.ev F cl (.call0 f) ρ) k = OM (F f) fun fn => Ok (callE fn (cl f) [] ρ) k := by
  rw [EV.ev]
  cases F f <;> rfl
theorem e_comp0 (t : Tg) (it : It) (c : Eo) (e : E) (ρ : Ro) (k : W × Ro → Prop) : Ok (EV.ev F cl (.comp t it c e) ρ) k = Ok (EV.evIt F cl it ρ) fun p => Ok (compL (bindT t) (EV.evC F cl c) (datOf (EV.ev F cl e)) t.slots p.1 (wipeR p.2 t.slots) []) fun q => k (.new q.1, backR p.2 q.2 t.slots) := by
  rw [EV.ev, ok_bind]; congr 1; funext p; rw [ok_bind]; rfl
theorem e_meth0 (m : Me) (i : Nat) (es : Es) (ρ : Ro) (k : W × Ro → Prop) : Ok (EV.ev F cl (.meth m i es) ρ) k = OO ρ i (Ok (EV.evL F cl es ρ) fun p => Ok (methE m i p.1 p.2) k) := by
  rw [EV.ev]
  unfold OO
  cases isOwnSlot ρ i with
  | false => exact propext ⟨fun h => h.elim, fun h => nomatch h.1⟩
  | true =>
    rw [if_pos rfl, ok_bind]
    exact propext ⟨fun h => ⟨rfl, h⟩, fun h => h.2⟩
theorem l_cons0 (e : E) (r : Es) (ρ : Ro) (k : List D × Ro → Prop) : Ok (EV.evL F cl (.cons e r) ρ) k = Ok (EV.ev F cl e ρ) fun p => OW p.1 fun d => Ok (EV.evL F cl r p.2) fun q => k (d :: q.1, q.2) := by
  rw [EV.evL, ok_bind, t_dat0]; congr 1; funext p; simp only [ok_bind]; rfl
theorem a_cons0 (e : E) (r : Es) (ρ : Ro) (k : List Opd × Ro → Prop) : Ok (EV.evA F cl (.cons e r) ρ) k = Ok (opdOf (EV.ev F cl e) e ρ) fun p => Ok (EV.evA F cl r p.2) fun q => k (p.1 :: q.1, q.2) := by
  rw [EV.evA, ok_bind]; congr 1; funext p; simp only [ok_bind]; rfl
theorem c_cons00 (e : E) (r : Es) (ρ : Ro) (k : List Opd × Ro → Prop) : Ok (EV.evCA F cl (.cons e r) (some 0) ρ) k = Ok (opdOf (EV.ev F cl e) e ρ) fun p => Ok (EV.evCA F cl r none p.2) fun q => k (p.1 :: q.1, q.2) := by
  rw [EV.evCA, ok_bind, if_pos rfl]; congr 1; funext p; simp only [ok_bind]; rfl
theorem c_consN0 (e : E) (r : Es) (ρ : Ro) (k : List Opd × Ro → Prop) : Ok (EV.evCA F cl (.cons e r) none ρ) k = Ok (opdD (EV.ev F cl e) e ρ) fun p => Ok (EV.evCA F cl r none p.2) fun q => k (p.1 :: q.1, q.2) := by
  rw [EV.evCA, ok_bind, if_neg (by decide)]; congr 1; funext p; simp only [ok_bind]; rfl
theorem i_yes0 (e : E) (ρ : Ro) (k : Option Int × Ro → Prop) : Ok (EV.evI F cl (.yes e) ρ) k = Ok (EV.ev F cl e ρ) fun p => OW p.1 fun d => OM (intO d) fun i => k (some i, p.2) := by
  rw [EV.evI, ok_bind, t_dat0]; congr 1; funext p; simp only [ok_bind, ok_ofM0]; rfl
theorem it_seq0 (e : E) (ρ : Ro) (k : List D × Ro → Prop) : Ok (EV.evIt F cl (.seq e) ρ) k = Ok (EV.ev F cl e ρ) fun p => OW p.1 fun d => OM (seqD d) fun xs => k (xs, p.2) := by
  rw [EV.evIt, ok_bind, t_dat0]; congr 1; funext p; simp only [ok_bind, ok_ofM0]; rfl
theorem it_en0 (e : E) (ρ : Ro) (k : List D × Ro → Prop) : Ok (EV.evIt F cl (.enum e) ρ) k = Ok (EV.ev F cl e ρ) fun p => OW p.1 fun d => OM (items d) fun xs => k (enumD xs, p.2) := by
  rw [EV.evIt, ok_bind, t_dat0]; congr 1; funext p; simp only [ok_bind, ok_ofM0]; rfl
theorem ok_ifO {α β : Type} (c : Prop) [Decidable c] (a : α) (f : α → β) (k : β → Prop) : Ok (if c then .ok (f a) else .stuck) k = OM (if c then some a else none) fun x => k (f x) := by
  split <;> rfl
theorem it_r10 (e : E) (ρ : Ro) (k : List D × Ro → Prop) : Ok (EV.evIt F cl (.range1 e) ρ) k = Ok (EV.ev F cl e ρ) fun p => OW p.1 fun d => OM (rng1 d) fun xs => k (xs, p.2) := by
  rw [EV.evIt, ok_bind, t_dat0]; congr 1; funext p
  unfold OW
  cases p.1.d with
  | int j => exact ok_ifO _ _ (fun xs => (xs, p.2)) k
  | _ => rfl
theorem it_r20 (a b : E) (ρ : Ro) (k : List D × Ro → Prop) : Ok (EV.evIt F cl (.range2 a b) ρ) k = Ok (EV.ev F cl a ρ) fun p => OW p.1 fun d => Ok (EV.ev F cl b p.2) fun q => OW q.1 fun e => OM (rng2 d e) fun xs => k (xs, q.2) := by
  rw [EV.evIt, ok_bind, t_dat0]; congr 1; funext p
  unfold OW
  dsimp only
  rw [ok_bind, t_dat0]; congr 1; funext q
  unfold OW
  cases p.1.d with
  | int i =>
    cases q.1.d with
    | int j => exact ok_ifO _ _ (fun xs => (xs, q.2)) k
    | _ => rfl
  | _ => rfl
theorem it_dn0 (a b : E) (ρ : Ro) (k : List D × Ro → Prop) : Ok (EV.evIt F cl (.down a b) ρ) k = Ok (EV.ev F cl a ρ) fun p => OW p.1 fun d => Ok (EV.ev F cl b p.2) fun q => OW q.1 fun e => OM (rngD d e) fun xs => k (xs, q.2) := by
  rw [EV.evIt, ok_bind, t_dat0]; congr 1; funext p
  unfold OW
  dsimp only
  rw [ok_bind, t_dat0]; congr 1; funext q
  unfold OW
  cases p.1.d with
  | int i =>
    cases q.1.d with
    | int j => exact ok_ifO _ _ (fun xs => (xs, q.2)) k
    | _ => rfl
  | _ => rfl
theorem it_zp0 (a b : E) (ρ : Ro) (k : List D × Ro → Prop) : Ok (EV.evIt F cl (.zip a b) ρ) k = Ok (EV.ev F cl a ρ) fun p => OW p.1 fun d => Ok (EV.ev F cl b p.2) fun q => OW q.1 fun e => OM (zipO d e) fun xs => k (xs, q.2) := by
  rw [EV.evIt, ok_bind, t_dat0]; congr 1; funext p
  unfold OW
  dsimp only
  rw [ok_bind, t_dat0]; congr 1; funext q
  unfold OW
  cases p.1.d <;> cases q.1.d <;> rfl
theorem step (s : S) (r : Ss) (ρ : Ro) (k : EV.Flow × Ro → Prop) : Ok (EV.execs F cl (.cons s r) ρ) k = Ok (EV.exec F cl s ρ) (KN F cl r k) := by
  rw [EV.execs, ok_bind]; congr 1; funext p
  obtain ⟨f, ρ'⟩ := p
  cases f <;> rfl
theorem s_asg0 (i : Nat) (e : E) (r : Ss) (ρ : Ro) (k : EV.Flow × Ro → Prop) : Ok (EV.execs F cl (.cons (.asg i e) r) ρ) k = Ok (EV.ev F cl e ρ) fun p => OS p.2 i p.1 fun ρ2 => Ok (EV.execs F cl r ρ2) k := by
  rw [step, EV.exec, ok_bind]; congr 1; funext p; simp only [ok_bind, ok_ofM0]; rfl
theorem s_asgT0 (is : List Nat) (e : E) (r : Ss) (ρ : Ro) (k : EV.Flow × Ro → Prop) : Ok (EV.execs F cl (.cons (.asgT is e) r) ρ) k = Ok (EV.ev F cl e ρ) fun p => OW p.1 fun d => OT d fun ds => OSs p.2 is ds fun ρ2 => Ok (EV.execs F cl r ρ2) k := by
  rw [step, EV.exec, ok_bind, t_dat0]; congr 1; funext p
  unfold OW
  cases p.1.d with
  | tuple ds => dsimp only; simp only [ok_bind, ok_ofM0]; rfl
  | _ => rfl
theorem s_par0 (is : List Nat) (es : Es) (r : Ss) (ρ : Ro) (k : EV.Flow × Ro → Prop) : Ok (EV.execs F cl (.cons (.par is es) r) ρ) k = Ok (EV.evWs F cl es ρ) fun p => OSw p.2 is p.1 fun ρ2 => Ok (EV.execs F cl r ρ2) k := by
  rw [step, EV.exec, ok_bind]; congr 1; funext p; simp only [ok_bind, ok_ofM0]; rfl
theorem ws_cons0 (e : E) (r : Es) (ρ : Ro) (k : List W × Ro → Prop) : Ok (EV.evWs F cl (.cons e r) ρ) k = Ok (EV.ev F cl e ρ) fun p => Ok (EV.evWs F cl r p.2) fun q => k (p.1 :: q.1, q.2) := by
  rw [EV.evWs, ok_bind]; congr 1; funext p; simp only [ok_bind]; rfl
theorem s_sub0 (i : Nat) (x v : E) (r : Ss) (ρ : Ro) (k : EV.Flow × Ro → Prop) : Ok (EV.execs F cl (.cons (.sub i x v) r) ρ) k = OLs ρ i (Ok (EV.ev F cl v ρ) fun p => OW p.1 fun d => Ok (EV.ev F cl x p.2) fun q => OW q.1 fun e => OU q.2 i e d fun ρ2 => Ok (EV.execs F cl r ρ2) k) := by
  rw [step, EV.exec]
  unfold OLs
  cases isListSlot ρ i with
  | false => exact propext ⟨fun h => h.elim, fun h => nomatch h.1⟩
  | true =>
    rw [if_neg (by decide), ok_bind, t_dat0]
    have e : ∀ p q : Prop, p = q → p = (true = true ∧ q) := fun p q h => propext ⟨fun z => ⟨rfl, h ▸ z⟩, fun z => h ▸ z.2⟩
    apply e
    congr 1; funext p
    unfold OW
    dsimp only
    rw [ok_bind, t_dat0]
    congr 1; funext q
    unfold OW
    simp only [ok_bind, ok_ofM0]; rfl
theorem s_expr0 (e : E) (r : Ss) (ρ : Ro) (k : EV.Flow × Ro → Prop) : Ok (EV.execs F cl (.cons (.expr e) r) ρ) k = Ok (EV.ev F cl e ρ) fun p => Ok (EV.execs F cl r p.2) k := by
  rw [step, EV.exec, ok_bind]; rfl
theorem s_ret0 (e : E) (r : Ss) (ρ : Ro) (k : EV.Flow × Ro → Prop) : Ok (EV.execs F cl (.cons (.ret e) r) ρ) k = Ok (retOf (EV.ev F cl e) e ρ) fun p => k (.ret p.1, p.2) := by
  rw [step, EV.exec, ok_bind]; rfl
theorem s_ite0 (c : E) (a b r : Ss) (ρ : Ro) (k : EV.Flow × Ro → Prop) : Ok (EV.execs F cl (.cons (.ite c a b) r) ρ) k = Ok (testOf (EV.ev F cl c) ρ) fun p => OI p.1 (Ok (EV.execs F cl a p.2) (KN F cl r k)) (Ok (EV.execs F cl b p.2) (KN F cl r k)) := by
  rw [step, EV.exec, ok_bind]; congr 1; funext p; exact ok_if _ _ _ _
theorem s_for0 (t : Tg) (it : It) (b r : Ss) (ρ : Ro) (k : EV.Flow × Ro → Prop) : Ok (EV.execs F cl (.cons (.for_ t it b) r) ρ) k = Ok (EV.evIt F cl it ρ) fun p => Ok (forL (bindT t) (EV.execs F cl b) p.1 p.2) (KN F cl r k) := by
  rw [step, EV.exec, ok_bind]
theorem rt_var0 (i : Nat) (ρ : Ro) (k : W × Ro → Prop) : Ok (retOf (EV.ev F cl (.var i)) (.var i) ρ) k = ORt ρ i fun w r => k (w, r) := by
  have e := e_var0 (I := I) F cl i ρ k
  unfold ORt retOf
  dsimp only
  generalize EV.get ρ i = g
  cases g with
  | none => exact e
  | some s =>
    cases s with
    | own xs => rfl
    | _ => exact e
end
end
def Run (F : Nat → Option Fn) (k i : Nat) (ds : List D) (Q : W → Option (List D) → Prop) : Prop := ∀ n, k ≤ n → OkF (callN F n i ds) Q
theorem Run.of {F : Nat → Option Fn} {k i : Nat} {ds : List D} {Q : W → Option (List D) → Prop} {fn : Fn} {ρ : Ro} (hf : F i = some fn) (hl : ds.length = fn.np) (hs : start ds fn.io = some ρ)
    (h : ∀ n, k ≤ n → Ok (EV.execs F (callN F n) fn.body (ρ ++ List.replicate (fn.ns - fn.np) none)) (Fin fn.io Q)) : Run F (k + 1) i ds Q := by
  intro n hn
  cases n with
  | zero => omega
  | succ n =>
    show OkF (match F i with | none => .stuck | some fn => runFn F (callN F n) fn ds) Q
    rw [hf]
    show OkF (runFn F (callN F n) fn ds) Q
    have h := h n (by omega)
    unfold runFn
    rw [if_pos hl, hs]
    dsimp only
    cases e : EV.execs F (callN F n) fn.body (ρ ++ List.replicate (fn.ns - fn.np) none) with
    | ok p =>
      rw [e] at h
      obtain ⟨f, ρ'⟩ := p
      have key : ∀ w, OE ρ' fn.io (Q w) → OkF (finish fn.io w ρ') Q := fun w h => by
        unfold OE at h
        unfold finish
        cases hh : ioEnd ρ' fn.io with
        | none => rw [hh] at h; exact h.elim
        | some r => rw [hh] at h; exact h
      cases f with
      | next => exact key _ h
      | ret w => exact key _ h
      | _ => exact h.elim
    | _ => rw [e] at h; exact h.elim
theorem Run.mono {F : Nat → Option Fn} {k k' i : Nat} {ds : List D} {Q Q' : W → Option (List D) → Prop} (h : Run F k i ds Q) (hk : k ≤ k') (f : ∀ w r, Q w r → Q' w r) : Run F k' i ds Q' := fun n hn => (h n (by omega)).mono f
/-! ### calls -/
section
variable {I : Xp}
/-- behind a call: what is lent stays as it was, what was handed in is changed -/
theorem call_ok {fn : Fn} {cl : List D → FRes} {os : List Opd} {ρ : Ro} {ds : List D} {io : Option Nat} {Q : W → Option (List D) → Prop} {k : W × Ro → Prop} (h1 : rdAll ρ os = some ds) (h2 : ioOf ρ os fn.io = some io) (h3 : lentOf ρ os fn.io = [])
    (hc : OkF (cl ds) Q) (h : ∀ w r, Q w r → PI ρ io r fun ρ' => k (w, ρ')) : Ok (callE fn cl os ρ) k := by
  unfold callE
  rw [h1, h2, h3]
  dsimp only
  have e : notLent io [] = true := by cases io <;> rfl
  rw [if_pos e]
  cases hh : cl ds with
  | ok w r =>
    rw [hh] at hc
    dsimp only
    have q := h w r hc
    split
    · exact q
    · have fr : ∀ ρ : Ro, frzR [] ρ = ρ := fun ρ => by
        unfold frzR
        apply List.ext_getElem?
        intro i
        rw [List.getElem?_mapIdx]
        cases ρ[i]? <;> rfl
      simp only [List.all_nil, if_true, fr]
      exact q
  | _ => rw [hh] at hc; exact hc.elim
/-- the answer and what was handed in have no list within: what was lent comes back as it was -/
theorem call_okC {fn : Fn} {cl : List D → FRes} {os : List Opd} {ρ : Ro} {ds : List D} {io : Option Nat} {Q : W → Option (List D) → Prop} {k : W × Ro → Prop} (h1 : rdAll ρ os = some ds) (h2 : ioOf ρ os fn.io = some io) (h3 : notLent io (lentOf ρ os fn.io) = true)
    (hc : OkF (cl ds) Q) (h : ∀ w r, Q w r → clean w r = true ∧ PI ρ io r fun ρ' => k (w, ρ')) : Ok (callE fn cl os ρ) k := by
  unfold callE
  rw [h1, h2]
  dsimp only
  rw [if_pos h3]
  cases hh : cl ds with
  | ok w r =>
    rw [hh] at hc
    dsimp only
    have q := h w r hc
    rw [if_pos q.1]
    exact q.2
  | _ => rw [hh] at hc; exact hc.elim
theorem m_app0 (xs : List D) (d : D) (ρ : Ro) (k : W × Ro → Prop) : Ok (methE .append 0 [d] (some (.own xs) :: ρ)) k = (xs.length < sizeLine ∧ k (.dat .none, some (.own (xs ++ [d])) :: ρ)) := by
  show Ok (if xs.length < sizeLine then _ else _) k = _
  split
  · rename_i h; exact propext ⟨fun z => ⟨h, z⟩, fun z => z.2⟩
  · rename_i h; exact propext ⟨fun z => z.elim, fun z => (h z.1).elim⟩
theorem m_s0 (m : Me) (n : Nat) (ds : List D) (x : Option Sv) (ρ : Ro) (k : W × Ro → Prop) : Ok (methE m (n + 1) ds (x :: ρ)) k = Ok (methE m n ds ρ) fun p => k (p.1, x :: p.2) := by
  have g : EV.get (x :: ρ) (n + 1) = EV.get ρ n := rfl
  unfold methE
  rw [g]
  cases EV.get ρ n with
  | none => rfl
  | some s =>
    cases s with
    | dat _ => rfl
    | io _ => rfl
    | own xs =>
      dsimp only
      cases m with
      | append =>
        match ds with
        | [] => rfl
        | [d] => dsimp only; split <;> rfl
        | _ :: _ :: _ => rfl
      | extend =>
        match ds with
        | [] => rfl
        | [d] =>
          dsimp only
          cases items d with
          | none => rfl
          | some ys => dsimp only; split <;> rfl
        | _ :: _ :: _ => rfl
      | popAt =>
        match ds with
        | [] => rfl
        | [d] =>
          cases d with
          | int j =>
            dsimp only
            cases ixN xs.length j with
            | none => rfl
            | some q =>
              dsimp only
              cases xs[q]? <;> rfl
          | _ => rfl
        | d :: _ :: _ => cases d <;> rfl
theorem m_pop00 (y : D) (xs : List D) (ρ : Ro) (k : W × Ro → Prop) : Ok (methE .popAt 0 [.int 0] (some (.own (y :: xs)) :: ρ)) k = k (.dat y, some (.own xs) :: ρ) := by
  have e : ixN (y :: xs).length 0 = some 0 := by
    unfold ixN
    rw [if_pos (by omega), if_pos (by simp only [List.length_cons]; omega)]
    rfl
  show Ok (match ixN (y :: xs).length 0 with | some j => _ | none => _) k = _
  rw [e]; rfl
/-! ### loops -/
theorem for_ok {bnd : D → Ro → Option Ro} {body : Ro → Res (EV.Flow × Ro)} {k : EV.Flow × Ro → Prop} (I : List D → Ro → Prop) (h0 : ∀ ρ, I [] ρ → k (.next, ρ))
    (hs : ∀ x xs ρ, I (x :: xs) ρ → OM (bnd x ρ) fun ρ1 => Ok (body ρ1) fun p => match p.1 with
      | .next => I xs p.2
      | .cont => I xs p.2
      | .brk => k (.next, p.2)
      | .ret w => k (.ret w, p.2)) : ∀ xs ρ, I xs ρ → Ok (forL bnd body xs ρ) k
  | [], ρ, h => h0 ρ h
  | x :: xs, ρ, h => by
    have q := hs x xs ρ h
    unfold forL
    rw [ok_bind, ok_ofM0]
    cases hb : bnd x ρ with
    | none => rw [hb] at q; exact q
    | some ρ1 =>
      rw [hb] at q
      show Ok ((body ρ1).bind _) k
      rw [ok_bind]
      refine Ok.mono q fun p hp => ?_
      obtain ⟨f, ρ2⟩ := p
      cases f with
      | next => exact for_ok I h0 hs xs ρ2 hp
      | cont => exact for_ok I h0 hs xs ρ2 hp
      | brk => exact hp
      | ret w => exact hp
theorem comp_ok {bnd : D → Ro → Option Ro} {test : Ro → Res (Bool × Ro)} {elt : Ro → Res (D × Ro)} {is : List Nat} {k : List D × Ro → Prop} (I : List D → Ro → List D → Prop) (h0 : ∀ ρ acc, I [] ρ acc → k (acc, ρ))
    (hs : ∀ x xs ρ acc, I (x :: xs) ρ acc → OM (bnd x ρ) fun ρ1 => @Ok _ noX (test ρ1) fun p => OI p.1 (@Ok _ noX (elt p.2) fun q => I xs (wipeR q.2 is) (acc ++ [q.1])) (I xs (wipeR p.2 is) acc)) : ∀ xs ρ acc, I xs ρ acc → Ok (compL bnd test elt is xs ρ acc) k
  | [], ρ, acc, h => h0 ρ acc h
  | x :: xs, ρ, acc, h => by
    have q := hs x xs ρ acc h
    unfold compL
    rw [ok_bind, ok_ofM0]
    cases hb : bnd x ρ with
    | none => rw [hb] at q; exact q
    | some ρ1 =>
      rw [hb] at q
      show Ok ((noExc (test ρ1)).bind _) k
      rw [ok_bind, ok_noExc]
      have q : @Ok _ noX (test ρ1) _ := q
      refine Ok.monoN q fun p hp => ?_
      rw [ok_if]
      refine ⟨fun e => ?_, fun e => comp_ok I h0 hs xs _ _ (hp.2 e)⟩
      rw [ok_bind, ok_noExc]
      exact Ok.monoN (hp.1 e) fun q hq => comp_ok I h0 hs xs _ _ hq
theorem comp_pure {bnd : D → Ro → Option Ro} {test : Ro → Res (Bool × Ro)} {elt : Ro → Res (D × Ro)} {is : List Nat} {k : List D × Ro → Prop} (ρ0 : Ro) (g : D → Option D) : ∀ (xs acc : List D),
    (∀ x ∈ xs, OM (bnd x ρ0) fun ρ1 => @Ok _ noX (test ρ1) fun p => OI p.1 (@Ok _ noX (elt p.2) fun q => wipeR q.2 is = ρ0 ∧ g x = some q.1) (wipeR p.2 is = ρ0 ∧ g x = none)) → k (acc ++ xs.filterMap g, ρ0) → Ok (compL bnd test elt is xs ρ0 acc) k := by
  intro xs acc hs hk
  refine comp_ok (fun ys ρ ac => ρ = ρ0 ∧ (∀ y ∈ ys, y ∈ xs) ∧ ac ++ ys.filterMap g = acc ++ xs.filterMap g) ?h0 ?hs xs ρ0 acc ⟨rfl, fun _ h => h, rfl⟩
  case h0 =>
    rintro ρ ac ⟨rfl, _, e2⟩
    simp only [List.filterMap_nil, List.append_nil] at e2
    rw [e2]; exact hk
  case hs =>
    rintro y ys ρ ac ⟨rfl, e2, e3⟩
    have q := hs y (e2 y List.mem_cons_self)
    cases hb : bnd y ρ with
    | none => rw [hb] at q; exact q
    | some ρ1 =>
      rw [hb] at q
      have q : @Ok _ noX (test ρ1) _ := q
      refine Ok.monoN q fun p hp => ⟨fun e => Ok.monoN (hp.1 e) fun q hq => ⟨hq.1, fun z hz => e2 z (List.mem_cons_of_mem _ hz), ?_⟩, fun e => ⟨(hp.2 e).1, fun z hz => e2 z (List.mem_cons_of_mem _ hz), ?_⟩⟩
      · rw [← e3, List.filterMap_cons, hq.2]; simp
      · rw [← e3, List.filterMap_cons, (hp.2 e).2]
theorem bk_s0 (x y : Option Sv) (ρ ρ2 : Ro) (n : Nat) (k : Ro → Prop) : BK (x :: ρ) (y :: ρ2) [n + 1] k = BK ρ ρ2 [n] fun r => k (y :: r) := rfl
theorem bindM (is : List Nat) (ds : List D) (ρ : Ro) (k : Ro → Prop) : OM (bindT (.many is) (.tuple ds) ρ) k = OSs ρ is ds k := rfl
theorem e_chain0 (F : Nat → Option Fn) (cl : Nat → List D → FRes) (o o' : Op2) (a b c : E) (ρ : Ro) (k : W × Ro → Prop) : Ok (EV.ev F cl (.chain o o' a b c) ρ) k = Ok (opdOf (EV.ev F cl a) a ρ) fun p => Ok (opdOf (EV.ev F cl b) b p.2) fun q => OR q.2 p.1 fun d => OR q.2 q.1 fun e => OM (op2 o d e) fun w => OW w fun x => OB x fun t =>
    OI t (Ok (opdOf (EV.ev F cl c) c q.2) fun r => OR r.2 q.1 fun e => OR r.2 r.1 fun g => OM (op2 o' e g) fun w => k (w, r.2)) (k (.dat (.bool false), q.2)) := by
  rw [EV.ev]
  rw [ok_bind]; congr 1; funext p
  rw [ok_bind]; congr 1; funext q
  refine (two_rd q.2 p.1 q.1 _ k).trans ?_
  congr 1; funext d
  congr 1; funext e
  cases op2 o d e with
  | none => rfl
  | some w =>
    cases w with
    | new xs => rfl
    | dat x =>
      cases x with
      | bool t =>
        show _ = OI t _ _
        cases t
        · rw [oi_false0]; rfl
        · rw [oi_true0]
          show Ok ((opdOf (EV.ev F cl c) c q.2).bind _) k = _
          rw [ok_bind]; congr 1; funext r
          refine (two_rd r.2 q.1 r.1 _ k).trans ?_
          simp only [ok_bind, ok_ofM0]; rfl
      | _ => rfl
theorem s_raiseN0 (F : Nat → Option Fn) (cl : Nat → List D → FRes) (c : Nat) (r : Ss) (ρ : Ro) (k : EV.Flow × Ro → Prop) : Ok (EV.execs F cl (.cons (.raise c .no) r) ρ) k = Xp.X ⟨c, none⟩ ρ := by
  rw [step, EV.exec]; rfl
theorem s_raiseY0 (F : Nat → Option Fn) (cl : Nat → List D → FRes) (c : Nat) (e : E) (r : Ss) (ρ : Ro) (k : EV.Flow × Ro → Prop) : Ok (EV.execs F cl (.cons (.raise c (.yes e)) r) ρ) k = Ok (EV.ev F cl e ρ) fun p => OW p.1 fun d => Xp.X ⟨c, some d⟩ p.2 := by
  rw [step, EV.exec]
  show Ok ((datOf (EV.ev F cl e) ρ).bind _) _ = _
  rw [ok_bind, t_dat0]; rfl
/-- behind a try's body: the clauses -/
abbrev XT [Xp] (F : Nat → Option Fn) (cl : Nat → List D → FRes) (hs : List Hd) (r : Ss) (k : EV.Flow × Ro → Prop) : Xp := ⟨fun x ρ => Ok (catchX x ρ hs) (KN F cl r k)⟩
theorem s_try0 (F : Nat → Option Fn) (cl : Nat → List D → FRes) (b : Ss) (hs : List Hd) (r : Ss) (ρ : Ro) (k : EV.Flow × Ro → Prop) : Ok (EV.execs F cl (.cons (.try_ b hs) r) ρ) k = @Ok _ (XT F cl hs r k) (EV.execs F cl b ρ) (KN F cl r k) := by
  rw [step, EV.exec]
  cases EV.execs F cl b ρ <;> rfl
theorem catch_cons0 (c c' i t : Nat) (f : Option D) (its : List Hi) (hs : List Hd) (ρ : Ro) (k : EV.Flow × Ro → Prop) : Ok (catchX ⟨c, f⟩ ρ (⟨c', i, t, its⟩ :: hs)) k = OI (c' == c) (OM (ρ[i]?) fun _ => OM (hItems ⟨c, f⟩ its) fun ds => OS (ρ.set i none) t (.new ds) fun ρ2 => k (.next, ρ2)) (Ok (catchX ⟨c, f⟩ ρ hs) k) := by
  show Ok (if (c' == c) = true then _ else _) k = _
  rw [ok_if]
  congr 1
  cases ρ[i]? with
  | none => rfl
  | some o =>
    cases hItems ⟨c, f⟩ its with
    | none => rfl
    | some ds => dsimp only; rw [ok_bind, ok_ofM0]; rfl
theorem s_while0 (F : Nat → Option Fn) (cl : Nat → List D → FRes) (n : Nat) (c : E) (b r : Ss) (ρ : Ro) (k : EV.Flow × Ro → Prop) : Ok (EV.execs F cl (.cons (.while_ n c b) r) ρ) k = Ok (whileL (testOf (EV.ev F cl c)) (EV.execs F cl b) n ρ) (KN F cl r k) := by
  rw [step, EV.exec]
theorem while_ok {test : Ro → Res (Bool × Ro)} {body : Ro → Res (EV.Flow × Ro)} {k : EV.Flow × Ro → Prop} (I : Nat → Ro → Prop)
    (hs : ∀ m ρ, I m ρ → Ok (test ρ) fun p => OI p.1 (0 < m ∧ Ok (body p.2) fun q => match q.1 with
      | .next => I (m - 1) q.2
      | .cont => I (m - 1) q.2
      | .brk => k (.next, q.2)
      | .ret w => k (.ret w, q.2)) (k (.next, p.2))) : ∀ n m ρ, m < n → I m ρ → Ok (whileL test body n ρ) k
  | 0, m, ρ, hn, _ => absurd hn (Nat.not_lt_zero _)
  | n + 1, m, ρ, hn, h => by
    have q := hs m ρ h
    unfold whileL
    rw [ok_bind]
    refine Ok.mono q fun p hp => ?_
    rw [ok_if]
    refine ⟨fun e => ?_, fun e => hp.2 e⟩
    obtain ⟨h0, h1⟩ := hp.1 e
    rw [ok_bind]
    refine Ok.mono h1 fun q hq => ?_
    obtain ⟨f, ρ2⟩ := q
    cases f with
    | next => exact while_ok I hs n (m - 1) ρ2 (by omega) hq
    | cont => exact while_ok I hs n (m - 1) ρ2 (by omega) hq
    | brk => exact hq
    | ret w => exact hq
end
/-! ### functions that may raise -/
def OkFX (r : FRes) (Q : W → Option (List D) → Prop) (Y : Exn → Option (List D) → Prop) : Prop := match r with
  | .ok w io => Q w io
  | .exc x io => Y x io
  | .stuck => False
def RunX (F : Nat → Option Fn) (k i : Nat) (ds : List D) (Q : W → Option (List D) → Prop) (Y : Exn → Option (List D) → Prop) : Prop := ∀ n, k ≤ n → OkFX (callN F n i ds) Q Y
/-- what an exception is to keep at a def's end -/
abbrev XF (io : Option Nat) (Y : Exn → Option (List D) → Prop) : Xp := ⟨fun x ρ => OE ρ io (Y x)⟩
theorem RunX.of {F : Nat → Option Fn} {k i : Nat} {ds : List D} {Q : W → Option (List D) → Prop} {Y : Exn → Option (List D) → Prop} {fn : Fn} {ρ : Ro} (hf : F i = some fn) (hl : ds.length = fn.np) (hs : start ds fn.io = some ρ)
    (h : ∀ n, k ≤ n → @Ok _ (XF fn.io Y) (EV.execs F (callN F n) fn.body (ρ ++ List.replicate (fn.ns - fn.np) none)) (Fin fn.io Q)) : RunX F (k + 1) i ds Q Y := by
  intro n hn
  cases n with
  | zero => omega
  | succ n =>
    show OkFX (match F i with | none => .stuck | some fn => runFn F (callN F n) fn ds) Q Y
    rw [hf]
    show OkFX (runFn F (callN F n) fn ds) Q Y
    have h := h n (by omega)
    unfold runFn
    rw [if_pos hl, hs]
    dsimp only
    cases e : EV.execs F (callN F n) fn.body (ρ ++ List.replicate (fn.ns - fn.np) none) with
    | ok p =>
      rw [e] at h
      obtain ⟨f, ρ'⟩ := p
      have key : ∀ w, OE ρ' fn.io (Q w) → OkFX (finish fn.io w ρ') Q Y := fun w h => by
        unfold OE at h
        unfold finish
        cases hh : ioEnd ρ' fn.io with
        | none => rw [hh] at h; exact h.elim
        | some r => rw [hh] at h; exact h
      cases f with
      | next => exact key _ h
      | ret w => exact key _ h
      | _ => exact h.elim
    | exc x ρ' =>
      rw [e] at h
      have h : OE ρ' fn.io (Y x) := h
      unfold OE at h
      show OkFX (finishX fn.io x ρ') Q Y
      unfold finishX
      cases hh : ioEnd ρ' fn.io with
      | none => rw [hh] at h; exact h.elim
      | some r => rw [hh] at h; exact h
    | stuck => rw [e] at h; exact h.elim
theorem Run.toX {F : Nat → Option Fn} {k i : Nat} {ds : List D} {Q : W → Option (List D) → Prop} {Y : Exn → Option (List D) → Prop} (h : Run F k i ds Q) : RunX F k i ds Q Y := fun n hn => by
  have := h n hn
  cases hh : callN F n i ds with
  | ok w io => rw [hh] at this; exact this
  | _ => rw [hh] at this; exact this.elim
theorem RunX.run {F : Nat → Option Fn} {k i : Nat} {ds : List D} {Q : W → Option (List D) → Prop} {Y : Exn → Option (List D) → Prop} (h : RunX F k i ds Q Y) (hY : ∀ x r, Y x r → False) : Run F k i ds Q := fun n hn => by
  have := h n hn
  cases hh : callN F n i ds with
  | ok w io => rw [hh] at this; exact this
  | exc x r => rw [hh] at this; exact (hY x r this).elim
  | stuck => rw [hh] at this; exact this.elim
theorem RunX.mono {F : Nat → Option Fn} {k k' i : Nat} {ds : List D} {Q Q' : W → Option (List D) → Prop} {Y Y' : Exn → Option (List D) → Prop} (h : RunX F k i ds Q Y) (hk : k ≤ k') (f : ∀ w r, Q w r → Q' w r) (g : ∀ x r, Y x r → Y' x r) : RunX F k' i ds Q' Y' := fun n hn => by
  have := h n (by omega)
  cases hh : callN F n i ds with
  | ok w io => rw [hh] at this; exact f _ _ this
  | exc x r => rw [hh] at this; exact g _ _ this
  | stuck => rw [hh] at this; exact this.elim
section
variable {I : Xp}
theorem frz_nil (ρ : Ro) : frzR [] ρ = ρ := by
  unfold frzR
  apply List.ext_getElem?
  intro i
  rw [List.getElem?_mapIdx]
  cases ρ[i]? <;> rfl
theorem call_okX {fn : Fn} {cl : List D → FRes} {os : List Opd} {ρ : Ro} {ds : List D} {io : Option Nat} {Q : W → Option (List D) → Prop} {Y : Exn → Option (List D) → Prop} {k : W × Ro → Prop} (h1 : rdAll ρ os = some ds) (h2 : ioOf ρ os fn.io = some io) (h3 : lentOf ρ os fn.io = [])
    (hc : OkFX (cl ds) Q Y) (h : ∀ w r, Q w r → PI ρ io r fun ρ' => k (w, ρ')) (hx : ∀ x r, Y x r → PI ρ io r fun ρ' => Xp.X x ρ') : Ok (callE fn cl os ρ) k := by
  unfold callE
  rw [h1, h2, h3]
  dsimp only
  have e : notLent io [] = true := by cases io <;> rfl
  rw [if_pos e]
  cases hh : cl ds with
  | ok w r =>
    rw [hh] at hc
    dsimp only
    have q := h w r hc
    split
    · exact q
    · simp only [List.all_nil, if_true, frz_nil]
      exact q
  | exc x r =>
    rw [hh] at hc
    simp only [List.all_nil, if_true, frz_nil]
    exact hx x r hc
  | stuck => rw [hh] at hc; exact hc.elim
/-- lists are lent, and the answer has none within -/
theorem call_okXC {fn : Fn} {cl : List D → FRes} {os : List Opd} {ρ : Ro} {ds : List D} {io : Option Nat} {Q : W → Option (List D) → Prop} {Y : Exn → Option (List D) → Prop} {k : W × Ro → Prop} (h1 : rdAll ρ os = some ds) (h2 : ioOf ρ os fn.io = some io) (h3 : notLent io (lentOf ρ os fn.io) = true)
    (h4 : (lentOf ρ os fn.io).all (isOwnSlot ρ) = true) (hc : OkFX (cl ds) Q Y) (h : ∀ w r, Q w r → clean w r = true ∧ PI ρ io r fun ρ' => k (w, ρ')) (hx : ∀ x r, Y x r → PI ρ io r fun ρ' => Xp.X x (frzR (lentOf ρ os fn.io) ρ')) : Ok (callE fn cl os ρ) k := by
  unfold callE
  rw [h1, h2]
  dsimp only
  rw [if_pos h3]
  cases hh : cl ds with
  | ok w r =>
    rw [hh] at hc
    dsimp only
    have q := h w r hc
    rw [if_pos q.1]
    exact q.2
  | exc x r =>
    rw [hh] at hc
    dsimp only
    rw [if_pos h4]
    exact hx x r hc
  | stuck => rw [hh] at hc; exact hc.elim
end
variable {I : Xp}

theorem om_some {α : Type} (a : α) (k : α → Prop) : OM (some a) k = k a := (rfl)
theorem ok_ofM {α : Type} (o : Option α) (k : α → Prop) : Ok (Res.of o) k = OM o k := by cases o <;> rfl
theorem og_s (x : Option Sv) (ρ : Ro) (n : Nat) (k : D → Prop) : OG (x :: ρ) (n + 1) k = OG ρ n k := (rfl)
theorem og_dat (d : D) (ρ : Ro) (k : D → Prop) : OG (some (.dat d) :: ρ) 0 k = k d := (rfl)
theorem og_own (d : List D) (ρ : Ro) (k : D → Prop) : OG (some (.own d) :: ρ) 0 k = k (.list d) := (rfl)
theorem og_io (d : List D) (ρ : Ro) (k : D → Prop) : OG (some (.io d) :: ρ) 0 k = k (.list d) := (rfl)
theorem ol_s (x : Option Sv) (ρ : Ro) (n : Nat) (k : D → Ro → Prop) : OL (x :: ρ) (n + 1) k = OL ρ n fun d r => k d (x :: r) := ol_s0 x ρ n k
theorem ol_dat (d : D) (ρ : Ro) (k : D → Ro → Prop) : OL (some (.dat d) :: ρ) 0 k = k d (some (.dat d) :: ρ) := (rfl)
theorem ol_own (d : List D) (ρ : Ro) (k : D → Ro → Prop) : OL (some (.own d) :: ρ) 0 k = k (.list d) (some (.dat (.list d)) :: ρ) := (rfl)
theorem os_s (x : Option Sv) (ρ : Ro) (n : Nat) (w : W) (k : Ro → Prop) : OS (x :: ρ) (n + 1) w k = OS ρ n w fun r => k (x :: r) := os_s0 x ρ n w k
theorem os_nd (ρ : Ro) (d : D) (k : Ro → Prop) : OS (none :: ρ) 0 (.dat d) k = k (some (.dat d) :: ρ) := (rfl)
theorem os_nn (ρ : Ro) (d : List D) (k : Ro → Prop) : OS (none :: ρ) 0 (.new d) k = k (some (.own d) :: ρ) := (rfl)
theorem os_dd (ρ : Ro) (e d : D) (k : Ro → Prop) : OS (some (.dat e) :: ρ) 0 (.dat d) k = k (some (.dat d) :: ρ) := (rfl)
theorem os_dn (ρ : Ro) (e : D) (d : List D) (k : Ro → Prop) : OS (some (.dat e) :: ρ) 0 (.new d) k = k (some (.own d) :: ρ) := (rfl)
theorem os_od (ρ : Ro) (e : List D) (d : D) (k : Ro → Prop) : OS (some (.own e) :: ρ) 0 (.dat d) k = k (some (.dat d) :: ρ) := (rfl)
theorem os_on (ρ : Ro) (e d : List D) (k : Ro → Prop) : OS (some (.own e) :: ρ) 0 (.new d) k = k (some (.own d) :: ρ) := (rfl)
theorem or_slot (ρ : Ro) (i : Nat) (k : D → Prop) : OR ρ (.slot i) k = OG ρ i k := or_slot0 ρ i k
theorem or_dat (ρ : Ro) (d : D) (k : D → Prop) : OR ρ (.val (.dat d)) k = k d := (rfl)
theorem or_new (ρ : Ro) (d : List D) (k : D → Prop) : OR ρ (.val (.new d)) k = k (.list d) := (rfl)
theorem ors_nil (ρ : Ro) (k : List D → Prop) : ORs ρ [] k = k [] := (rfl)
theorem ors_cons (ρ : Ro) (o : Opd) (os : List Opd) (k : List D → Prop) : ORs ρ (o :: os) k = OR ρ o fun d => ORs ρ os fun ds => k (d :: ds) := ors_cons0 ρ o os k
theorem ow_dat (d : D) (k : D → Prop) : OW (.dat d) k = k d := (rfl)
theorem ow_new (d : List D) (k : D → Prop) : OW (.new d) k = k (.list d) := (rfl)
theorem ob_bool (b : Bool) (k : Bool → Prop) : OB (.bool b) k = k b := (rfl)
theorem oi_true (p q : Prop) : OI true p q = p := oi_true0 p q
theorem oi_false (p q : Prop) : OI false p q = q := oi_false0 p q
theorem oz0 (k : Prop) : OZ [] k = k := oz_small _ _ (by simp)
theorem oz1 (x0 : D) (k : Prop) : OZ [x0] k = k := oz_small _ _ (by simp)
theorem oz2 (x0 x1 : D) (k : Prop) : OZ [x0, x1] k = k := oz_small _ _ (by simp)
theorem oz3 (x0 x1 x2 : D) (k : Prop) : OZ [x0, x1, x2] k = k := oz_small _ _ (by simp)
theorem oz4 (x0 x1 x2 x3 : D) (k : Prop) : OZ [x0, x1, x2, x3] k = k := oz_small _ _ (by simp)
theorem oz5 (x0 x1 x2 x3 x4 : D) (k : Prop) : OZ [x0, x1, x2, x3, x4] k = k := oz_small _ _ (by simp)
theorem oz6 (x0 x1 x2 x3 x4 x5 : D) (k : Prop) : OZ [x0, x1, x2, x3, x4, x5] k = k := oz_small _ _ (by simp)
theorem oz7 (x0 x1 x2 x3 x4 x5 x6 : D) (k : Prop) : OZ [x0, x1, x2, x3, x4, x5, x6] k = k := oz_small _ _ (by simp)
theorem oz8 (x0 x1 x2 x3 x4 x5 x6 x7 : D) (k : Prop) : OZ [x0, x1, x2, x3, x4, x5, x6, x7] k = k := oz_small _ _ (by simp)
theorem oz9 (x0 x1 x2 x3 x4 x5 x6 x7 x8 : D) (k : Prop) : OZ [x0, x1, x2, x3, x4, x5, x6, x7, x8] k = k := oz_small _ _ (by simp)
theorem oz10 (x0 x1 x2 x3 x4 x5 x6 x7 x8 x9 : D) (k : Prop) : OZ [x0, x1, x2, x3, x4, x5, x6, x7, x8, x9] k = k := oz_small _ _ (by simp)
theorem oz11 (x0 x1 x2 x3 x4 x5 x6 x7 x8 x9 x10 : D) (k : Prop) : OZ [x0, x1, x2, x3, x4, x5, x6, x7, x8, x9, x10] k = k := oz_small _ _ (by simp)
theorem oz12 (x0 x1 x2 x3 x4 x5 x6 x7 x8 x9 x10 x11 : D) (k : Prop) : OZ [x0, x1, x2, x3, x4, x5, x6, x7, x8, x9, x10, x11] k = k := oz_small _ _ (by simp)
theorem oz13 (x0 x1 x2 x3 x4 x5 x6 x7 x8 x9 x10 x11 x12 : D) (k : Prop) : OZ [x0, x1, x2, x3, x4, x5, x6, x7, x8, x9, x10, x11, x12] k = k := oz_small _ _ (by simp)
theorem oz14 (x0 x1 x2 x3 x4 x5 x6 x7 x8 x9 x10 x11 x12 x13 : D) (k : Prop) : OZ [x0, x1, x2, x3, x4, x5, x6, x7, x8, x9, x10, x11, x12, x13] k = k := oz_small _ _ (by simp)
theorem oz15 (x0 x1 x2 x3 x4 x5 x6 x7 x8 x9 x10 x11 x12 x13 x14 : D) (k : Prop) : OZ [x0, x1, x2, x3, x4, x5, x6, x7, x8, x9, x10, x11, x12, x13, x14] k = k := oz_small _ _ (by simp)
theorem oz16 (x0 x1 x2 x3 x4 x5 x6 x7 x8 x9 x10 x11 x12 x13 x14 x15 : D) (k : Prop) : OZ [x0, x1, x2, x3, x4, x5, x6, x7, x8, x9, x10, x11, x12, x13, x14, x15] k = k := oz_small _ _ (by simp)
theorem oz17 (x0 x1 x2 x3 x4 x5 x6 x7 x8 x9 x10 x11 x12 x13 x14 x15 x16 : D) (k : Prop) : OZ [x0, x1, x2, x3, x4, x5, x6, x7, x8, x9, x10, x11, x12, x13, x14, x15, x16] k = k := oz_small _ _ (by simp)
theorem oz18 (x0 x1 x2 x3 x4 x5 x6 x7 x8 x9 x10 x11 x12 x13 x14 x15 x16 x17 : D) (k : Prop) : OZ [x0, x1, x2, x3, x4, x5, x6, x7, x8, x9, x10, x11, x12, x13, x14, x15, x16, x17] k = k := oz_small _ _ (by simp)
theorem oz19 (x0 x1 x2 x3 x4 x5 x6 x7 x8 x9 x10 x11 x12 x13 x14 x15 x16 x17 x18 : D) (k : Prop) : OZ [x0, x1, x2, x3, x4, x5, x6, x7, x8, x9, x10, x11, x12, x13, x14, x15, x16, x17, x18] k = k := oz_small _ _ (by simp)
theorem oz20 (x0 x1 x2 x3 x4 x5 x6 x7 x8 x9 x10 x11 x12 x13 x14 x15 x16 x17 x18 x19 : D) (k : Prop) : OZ [x0, x1, x2, x3, x4, x5, x6, x7, x8, x9, x10, x11, x12, x13, x14, x15, x16, x17, x18, x19] k = k := oz_small _ _ (by simp)
theorem oz21 (x0 x1 x2 x3 x4 x5 x6 x7 x8 x9 x10 x11 x12 x13 x14 x15 x16 x17 x18 x19 x20 : D) (k : Prop) : OZ [x0, x1, x2, x3, x4, x5, x6, x7, x8, x9, x10, x11, x12, x13, x14, x15, x16, x17, x18, x19, x20] k = k := oz_small _ _ (by simp)
theorem oz22 (x0 x1 x2 x3 x4 x5 x6 x7 x8 x9 x10 x11 x12 x13 x14 x15 x16 x17 x18 x19 x20 x21 : D) (k : Prop) : OZ [x0, x1, x2, x3, x4, x5, x6, x7, x8, x9, x10, x11, x12, x13, x14, x15, x16, x17, x18, x19, x20, x21] k = k := oz_small _ _ (by simp)
theorem oz23 (x0 x1 x2 x3 x4 x5 x6 x7 x8 x9 x10 x11 x12 x13 x14 x15 x16 x17 x18 x19 x20 x21 x22 : D) (k : Prop) : OZ [x0, x1, x2, x3, x4, x5, x6, x7, x8, x9, x10, x11, x12, x13, x14, x15, x16, x17, x18, x19, x20, x21, x22] k = k := oz_small _ _ (by simp)
theorem oz24 (x0 x1 x2 x3 x4 x5 x6 x7 x8 x9 x10 x11 x12 x13 x14 x15 x16 x17 x18 x19 x20 x21 x22 x23 : D) (k : Prop) : OZ [x0, x1, x2, x3, x4, x5, x6, x7, x8, x9, x10, x11, x12, x13, x14, x15, x16, x17, x18, x19, x20, x21, x22, x23] k = k := oz_small _ _ (by simp)
theorem oz25 (x0 x1 x2 x3 x4 x5 x6 x7 x8 x9 x10 x11 x12 x13 x14 x15 x16 x17 x18 x19 x20 x21 x22 x23 x24 : D) (k : Prop) : OZ [x0, x1, x2, x3, x4, x5, x6, x7, x8, x9, x10, x11, x12, x13, x14, x15, x16, x17, x18, x19, x20, x21, x22, x23, x24] k = k := oz_small _ _ (by simp)
theorem oz26 (x0 x1 x2 x3 x4 x5 x6 x7 x8 x9 x10 x11 x12 x13 x14 x15 x16 x17 x18 x19 x20 x21 x22 x23 x24 x25 : D) (k : Prop) : OZ [x0, x1, x2, x3, x4, x5, x6, x7, x8, x9, x10, x11, x12, x13, x14, x15, x16, x17, x18, x19, x20, x21, x22, x23, x24, x25] k = k := oz_small _ _ (by simp)
theorem oz27 (x0 x1 x2 x3 x4 x5 x6 x7 x8 x9 x10 x11 x12 x13 x14 x15 x16 x17 x18 x19 x20 x21 x22 x23 x24 x25 x26 : D) (k : Prop) : OZ [x0, x1, x2, x3, x4, x5, x6, x7, x8, x9, x10, x11, x12, x13, x14, x15, x16, x17, x18, x19, x20, x21, x22, x23, x24, x25, x26] k = k := oz_small _ _ (by simp)
theorem oz28 (x0 x1 x2 x3 x4 x5 x6 x7 x8 x9 x10 x11 x12 x13 x14 x15 x16 x17 x18 x19 x20 x21 x22 x23 x24 x25 x26 x27 : D) (k : Prop) : OZ [x0, x1, x2, x3, x4, x5, x6, x7, x8, x9, x10, x11, x12, x13, x14, x15, x16, x17, x18, x19, x20, x21, x22, x23, x24, x25, x26, x27] k = k := oz_small _ _ (by simp)
theorem oz29 (x0 x1 x2 x3 x4 x5 x6 x7 x8 x9 x10 x11 x12 x13 x14 x15 x16 x17 x18 x19 x20 x21 x22 x23 x24 x25 x26 x27 x28 : D) (k : Prop) : OZ [x0, x1, x2, x3, x4, x5, x6, x7, x8, x9, x10, x11, x12, x13, x14, x15, x16, x17, x18, x19, x20, x21, x22, x23, x24, x25, x26, x27, x28] k = k := oz_small _ _ (by simp)
theorem oz30 (x0 x1 x2 x3 x4 x5 x6 x7 x8 x9 x10 x11 x12 x13 x14 x15 x16 x17 x18 x19 x20 x21 x22 x23 x24 x25 x26 x27 x28 x29 : D) (k : Prop) : OZ [x0, x1, x2, x3, x4, x5, x6, x7, x8, x9, x10, x11, x12, x13, x14, x15, x16, x17, x18, x19, x20, x21, x22, x23, x24, x25, x26, x27, x28, x29] k = k := oz_small _ _ (by simp)
theorem oz31 (x0 x1 x2 x3 x4 x5 x6 x7 x8 x9 x10 x11 x12 x13 x14 x15 x16 x17 x18 x19 x20 x21 x22 x23 x24 x25 x26 x27 x28 x29 x30 : D) (k : Prop) : OZ [x0, x1, x2, x3, x4, x5, x6, x7, x8, x9, x10, x11, x12, x13, x14, x15, x16, x17, x18, x19, x20, x21, x22, x23, x24, x25, x26, x27, x28, x29, x30] k = k := oz_small _ _ (by simp)
theorem oz32 (x0 x1 x2 x3 x4 x5 x6 x7 x8 x9 x10 x11 x12 x13 x14 x15 x16 x17 x18 x19 x20 x21 x22 x23 x24 x25 x26 x27 x28 x29 x30 x31 : D) (k : Prop) : OZ [x0, x1, x2, x3, x4, x5, x6, x7, x8, x9, x10, x11, x12, x13, x14, x15, x16, x17, x18, x19, x20, x21, x22, x23, x24, x25, x26, x27, x28, x29, x30, x31] k = k := oz_small _ _ (by simp)
theorem oz33 (x0 x1 x2 x3 x4 x5 x6 x7 x8 x9 x10 x11 x12 x13 x14 x15 x16 x17 x18 x19 x20 x21 x22 x23 x24 x25 x26 x27 x28 x29 x30 x31 x32 : D) (k : Prop) : OZ [x0, x1, x2, x3, x4, x5, x6, x7, x8, x9, x10, x11, x12, x13, x14, x15, x16, x17, x18, x19, x20, x21, x22, x23, x24, x25, x26, x27, x28, x29, x30, x31, x32] k = k := oz_small _ _ (by simp)
theorem oz34 (x0 x1 x2 x3 x4 x5 x6 x7 x8 x9 x10 x11 x12 x13 x14 x15 x16 x17 x18 x19 x20 x21 x22 x23 x24 x25 x26 x27 x28 x29 x30 x31 x32 x33 : D) (k : Prop) : OZ [x0, x1, x2, x3, x4, x5, x6, x7, x8, x9, x10, x11, x12, x13, x14, x15, x16, x17, x18, x19, x20, x21, x22, x23, x24, x25, x26, x27, x28, x29, x30, x31, x32, x33] k = k := oz_small _ _ (by simp)
theorem oz35 (x0 x1 x2 x3 x4 x5 x6 x7 x8 x9 x10 x11 x12 x13 x14 x15 x16 x17 x18 x19 x20 x21 x22 x23 x24 x25 x26 x27 x28 x29 x30 x31 x32 x33 x34 : D) (k : Prop) : OZ [x0, x1, x2, x3, x4, x5, x6, x7, x8, x9, x10, x11, x12, x13, x14, x15, x16, x17, x18, x19, x20, x21, x22, x23, x24, x25, x26, x27, x28, x29, x30, x31, x32, x33, x34] k = k := oz_small _ _ (by simp)
theorem oz36 (x0 x1 x2 x3 x4 x5 x6 x7 x8 x9 x10 x11 x12 x13 x14 x15 x16 x17 x18 x19 x20 x21 x22 x23 x24 x25 x26 x27 x28 x29 x30 x31 x32 x33 x34 x35 : D) (k : Prop) : OZ [x0, x1, x2, x3, x4, x5, x6, x7, x8, x9, x10, x11, x12, x13, x14, x15, x16, x17, x18, x19, x20, x21, x22, x23, x24, x25, x26, x27, x28, x29, x30, x31, x32, x33, x34, x35] k = k := oz_small _ _ (by simp)
theorem oz37 (x0 x1 x2 x3 x4 x5 x6 x7 x8 x9 x10 x11 x12 x13 x14 x15 x16 x17 x18 x19 x20 x21 x22 x23 x24 x25 x26 x27 x28 x29 x30 x31 x32 x33 x34 x35 x36 : D) (k : Prop) : OZ [x0, x1, x2, x3, x4, x5, x6, x7, x8, x9, x10, x11, x12, x13, x14, x15, x16, x17, x18, x19, x20, x21, x22, x23, x24, x25, x26, x27, x28, x29, x30, x31, x32, x33, x34, x35, x36] k = k := oz_small _ _ (by simp)
theorem oz38 (x0 x1 x2 x3 x4 x5 x6 x7 x8 x9 x10 x11 x12 x13 x14 x15 x16 x17 x18 x19 x20 x21 x22 x23 x24 x25 x26 x27 x28 x29 x30 x31 x32 x33 x34 x35 x36 x37 : D) (k : Prop) : OZ [x0, x1, x2, x3, x4, x5, x6, x7, x8, x9, x10, x11, x12, x13, x14, x15, x16, x17, x18, x19, x20, x21, x22, x23, x24, x25, x26, x27, x28, x29, x30, x31, x32, x33, x34, x35, x36, x37] k = k := oz_small _ _ (by simp)
theorem oz39 (x0 x1 x2 x3 x4 x5 x6 x7 x8 x9 x10 x11 x12 x13 x14 x15 x16 x17 x18 x19 x20 x21 x22 x23 x24 x25 x26 x27 x28 x29 x30 x31 x32 x33 x34 x35 x36 x37 x38 : D) (k : Prop) : OZ [x0, x1, x2, x3, x4, x5, x6, x7, x8, x9, x10, x11, x12, x13, x14, x15, x16, x17, x18, x19, x20, x21, x22, x23, x24, x25, x26, x27, x28, x29, x30, x31, x32, x33, x34, x35, x36, x37, x38] k = k := oz_small _ _ (by simp)
theorem e_var (F : Nat → Option Fn) (cl : Nat → List D → FRes) (i : Nat) (ρ : Ro) (k : W × Ro → Prop) : Ok (EV.ev F cl (.var i) ρ) k = OL ρ i fun d r => k (.dat d, r) := e_var0 F cl i ρ k
theorem e_cst (F : Nat → Option Fn) (cl : Nat → List D → FRes) (d : D) (ρ : Ro) (k : W × Ro → Prop) : Ok (EV.ev F cl (.cst d) ρ) k = k (.dat d, ρ) := (rfl)
theorem e_glo (F : Nat → Option Fn) (cl : Nat → List D → FRes) (n : Nat) (d : D) (ρ : Ro) (k : W × Ro → Prop) : Ok (EV.ev F cl (.glo n d) ρ) k = k (.dat d, ρ) := (rfl)
theorem e_op2 (F : Nat → Option Fn) (cl : Nat → List D → FRes) (o : Op2) (a b : E) (ρ : Ro) (k : W × Ro → Prop) : Ok (EV.ev F cl (.op2 o a b) ρ) k = Ok (opdOf (EV.ev F cl a) a ρ) fun p => Ok (opdOf (EV.ev F cl b) b p.2) fun q => OR q.2 p.1 fun d => OR q.2 q.1 fun e => OM (op2 o d e) fun w => k (w, q.2) := e_op20 F cl o a b ρ k
theorem e_op1 (F : Nat → Option Fn) (cl : Nat → List D → FRes) (o : Op1) (a : E) (ρ : Ro) (k : W × Ro → Prop) : Ok (EV.ev F cl (.op1 o a) ρ) k = Ok (opdOf (EV.ev F cl a) a ρ) fun p => OR p.2 p.1 fun d => OM (op1 o d) fun w => k (w, p.2) := e_op10 F cl o a ρ k
theorem e_bop (F : Nat → Option Fn) (cl : Nat → List D → FRes) (c : Bool) (es : Es) (ρ : Ro) (k : W × Ro → Prop) : Ok (EV.ev F cl (.bop c es) ρ) k = Ok (EV.evB F cl c es ρ) k := (rfl)
theorem e_bop1 (F : Nat → Option Fn) (cl : Nat → List D → FRes) (c : Bool) (e : E) (ρ : Ro) (k : W × Ro → Prop) : Ok (EV.evB F cl c (.cons e .nil) ρ) k = Ok (EV.ev F cl e ρ) k := (rfl)
theorem e_bopT (F : Nat → Option Fn) (cl : Nat → List D → FRes) (e e2 : E) (r : Es) (ρ : Ro) (k : W × Ro → Prop) : Ok (EV.evB F cl true (.cons e (.cons e2 r)) ρ) k = Ok (testOf (EV.ev F cl e) ρ) fun p => OI p.1 (Ok (EV.evB F cl true (.cons e2 r) p.2) k) (k (.dat (.bool false), p.2)) := e_bopT0 F cl e e2 r ρ k
theorem e_bopF (F : Nat → Option Fn) (cl : Nat → List D → FRes) (e e2 : E) (r : Es) (ρ : Ro) (k : W × Ro → Prop) : Ok (EV.evB F cl false (.cons e (.cons e2 r)) ρ) k = Ok (testOf (EV.ev F cl e) ρ) fun p => OI p.1 (k (.dat (.bool true), p.2)) (Ok (EV.evB F cl false (.cons e2 r) p.2) k) := e_bopF0 F cl e e2 r ρ k
theorem e_not (F : Nat → Option Fn) (cl : Nat → List D → FRes) (a : E) (ρ : Ro) (k : W × Ro → Prop) : Ok (EV.ev F cl (.not a) ρ) k = Ok (testOf (EV.ev F cl a) ρ) fun p => ON p.1 fun b => k (.dat (.bool b), p.2) := e_not0 F cl a ρ k
theorem on_t (k : Bool → Prop) : ON true k = k false := (rfl)
theorem on_f (k : Bool → Prop) : ON false k = k true := (rfl)
theorem e_ite (F : Nat → Option Fn) (cl : Nat → List D → FRes) (c a b : E) (ρ : Ro) (k : W × Ro → Prop) : Ok (EV.ev F cl (.ite c a b) ρ) k = Ok (testOf (EV.ev F cl c) ρ) fun p => OI p.1 (Ok (EV.ev F cl a p.2) k) (Ok (EV.ev F cl b p.2) k) := e_ite0 F cl c a b ρ k
theorem e_orT (F : Nat → Option Fn) (cl : Nat → List D → FRes) (a b : E) (ρ : Ro) (k : W × Ro → Prop) : Ok (EV.ev F cl (.orT a b) ρ) k = Ok (EV.ev F cl a ρ) fun p => OW p.1 fun d => OM (tru d) fun t => OI t (k p) (Ok (EV.ev F cl b p.2) k) := e_orT0 F cl a b ρ k
theorem e_tup (F : Nat → Option Fn) (cl : Nat → List D → FRes) (es : Es) (ρ : Ro) (k : W × Ro → Prop) : Ok (EV.ev F cl (.tup es) ρ) k = Ok (EV.evL F cl es ρ) fun p => OZ p.1 (k (.dat (.tuple p.1), p.2)) := e_tup0 F cl es ρ k
theorem e_lst (F : Nat → Option Fn) (cl : Nat → List D → FRes) (es : Es) (ρ : Ro) (k : W × Ro → Prop) : Ok (EV.ev F cl (.lst es) ρ) k = Ok (EV.evL F cl es ρ) fun p => OZ p.1 (k (.new p.1, p.2)) := e_lst0 F cl es ρ k
theorem e_idx (F : Nat → Option Fn) (cl : Nat → List D → FRes) (a b : E) (ρ : Ro) (k : W × Ro → Prop) : Ok (EV.ev F cl (.idx a b) ρ) k = Ok (opdOf (EV.ev F cl a) a ρ) fun p => Ok (opdOf (EV.ev F cl b) b p.2) fun q => OR q.2 p.1 fun d => OR q.2 q.1 fun e => OM (idxD d e) fun w => k (.dat w, q.2) := e_idx0 F cl a b ρ k
theorem e_slc (F : Nat → Option Fn) (cl : Nat → List D → FRes) (a : E) (lo hi : Eo) (ρ : Ro) (k : W × Ro → Prop) : Ok (EV.ev F cl (.slc a lo hi) ρ) k = Ok (opdOf (EV.ev F cl a) a ρ) fun p => Ok (EV.evI F cl lo p.2) fun q => Ok (EV.evI F cl hi q.2) fun r => OR r.2 p.1 fun d => OM (slcD d q.1 r.1) fun w => k (w, r.2) := e_slc0 F cl a lo hi ρ k
theorem e_rev (F : Nat → Option Fn) (cl : Nat → List D → FRes) (a : E) (ρ : Ro) (k : W × Ro → Prop) : Ok (EV.ev F cl (.rev a) ρ) k = Ok (opdOf (EV.ev F cl a) a ρ) fun p => OR p.2 p.1 fun d => OM (revD d) fun w => k (w, p.2) := e_rev0 F cl a ρ k
theorem e_bi (F : Nat → Option Fn) (cl : Nat → List D → FRes) (b : Bi) (es : Es) (ρ : Ro) (k : W × Ro → Prop) : Ok (EV.ev F cl (.bi b es) ρ) k = Ok (EV.evA F cl es ρ) fun p => ORs p.2 p.1 fun ds => OM (EV.bi b ds) fun w => k (w, p.2) := e_bi0 F cl b es ρ k
theorem e_isi (F : Nat → Option Fn) (cl : Nat → List D → FRes) (a : E) (ts : List Ty) (b : Bool) (ρ : Ro) (k : W × Ro → Prop) : Ok (EV.ev F cl (.isi a ts b) ρ) k = Ok (opdOf (EV.ev F cl a) a ρ) fun p => OR p.2 p.1 fun d => OH ts d fun c => k (.dat (.bool c), p.2) := e_isi0 F cl a ts b ρ k
theorem e_rep (F : Nat → Option Fn) (cl : Nat → List D → FRes) (a b : E) (ρ : Ro) (k : W × Ro → Prop) : Ok (EV.ev F cl (.rep a b) ρ) k = Ok (EV.ev F cl a ρ) fun p => Ok (opdOf (EV.ev F cl b) b p.2) fun q => OR q.2 q.1 fun d => OM (repD p.1 d) fun w => k (w, q.2) := e_rep0 F cl a b ρ k
theorem e_call (F : Nat → Option Fn) (cl : Nat → List D → FRes) (f : Nat) (es : Es) (ρ : Ro) (k : W × Ro → Prop) : Ok (EV.ev F cl (.call f es) ρ) k = OM (F f) fun fn => Ok (EV.evCA F cl es fn.io ρ) fun p => Ok (callE fn (cl f) p.1 p.2) k := e_call0 F cl f es ρ k
theorem e_calz (F : Nat → Option Fn) (cl : Nat → List D → FRes) (f : Nat) (ρ : Ro) (k : W × Ro → Prop) : Ok (EV.ev F cl (.call0 f) ρ) k = OM (F f) fun fn => Ok (callE fn (cl f) [] ρ) k := e_call00 F cl f ρ k
theorem e_comp (F : Nat → Option Fn) (cl : Nat → List D → FRes) (t : Tg) (it : It) (c : Eo) (e : E) (ρ : Ro) (k : W × Ro → Prop) : Ok (EV.ev F cl (.comp t it c e) ρ) k = Ok (EV.evIt F cl it ρ) fun p => Ok (compL (bindT t) (EV.evC F cl c) (datOf (EV.ev F cl e)) t.slots p.1 (wipeR p.2 t.slots) []) fun q => BK p.2 q.2 t.slots fun r => k (.new q.1, r) := e_comp0 F cl t it c e ρ k
theorem e_meth (F : Nat → Option Fn) (cl : Nat → List D → FRes) (m : Me) (i : Nat) (es : Es) (ρ : Ro) (k : W × Ro → Prop) : Ok (EV.ev F cl (.meth m i es) ρ) k = OO ρ i (Ok (EV.evL F cl es ρ) fun p => Ok (methE m i p.1 p.2) k) := e_meth0 F cl m i es ρ k
theorem oo_s (x : Option Sv) (ρ : Ro) (n : Nat) (p : Prop) : OO (x :: ρ) (n + 1) p = OO ρ n p := (rfl)
theorem oo_z (xs : List D) (ρ : Ro) (p : Prop) : OO (some (.own xs) :: ρ) 0 p = p := oo_z0 xs ρ p
theorem l_nil (F : Nat → Option Fn) (cl : Nat → List D → FRes) (ρ : Ro) (k : List D × Ro → Prop) : Ok (EV.evL F cl .nil ρ) k = k ([], ρ) := (rfl)
theorem l_cons (F : Nat → Option Fn) (cl : Nat → List D → FRes) (e : E) (r : Es) (ρ : Ro) (k : List D × Ro → Prop) : Ok (EV.evL F cl (.cons e r) ρ) k = Ok (EV.ev F cl e ρ) fun p => OW p.1 fun d => Ok (EV.evL F cl r p.2) fun q => k (d :: q.1, q.2) := l_cons0 F cl e r ρ k
theorem a_nil (F : Nat → Option Fn) (cl : Nat → List D → FRes) (ρ : Ro) (k : List Opd × Ro → Prop) : Ok (EV.evA F cl .nil ρ) k = k ([], ρ) := (rfl)
theorem a_cons (F : Nat → Option Fn) (cl : Nat → List D → FRes) (e : E) (r : Es) (ρ : Ro) (k : List Opd × Ro → Prop) : Ok (EV.evA F cl (.cons e r) ρ) k = Ok (opdOf (EV.ev F cl e) e ρ) fun p => Ok (EV.evA F cl r p.2) fun q => k (p.1 :: q.1, q.2) := a_cons0 F cl e r ρ k
theorem c_nil (F : Nat → Option Fn) (cl : Nat → List D → FRes) (io : Option Nat) (ρ : Ro) (k : List Opd × Ro → Prop) : Ok (EV.evCA F cl .nil io ρ) k = k ([], ρ) := (rfl)
theorem c_cons0 (F : Nat → Option Fn) (cl : Nat → List D → FRes) (e : E) (r : Es) (ρ : Ro) (k : List Opd × Ro → Prop) : Ok (EV.evCA F cl (.cons e r) (some 0) ρ) k = Ok (opdOf (EV.ev F cl e) e ρ) fun p => Ok (EV.evCA F cl r none p.2) fun q => k (p.1 :: q.1, q.2) := c_cons00 F cl e r ρ k
theorem c_consN (F : Nat → Option Fn) (cl : Nat → List D → FRes) (e : E) (r : Es) (ρ : Ro) (k : List Opd × Ro → Prop) : Ok (EV.evCA F cl (.cons e r) none ρ) k = Ok (opdD (EV.ev F cl e) e ρ) fun p => Ok (EV.evCA F cl r none p.2) fun q => k (p.1 :: q.1, q.2) := c_consN0 F cl e r ρ k
theorem i_no (F : Nat → Option Fn) (cl : Nat → List D → FRes) (ρ : Ro) (k : Option Int × Ro → Prop) : Ok (EV.evI F cl .no ρ) k = k (none, ρ) := (rfl)
theorem i_yes (F : Nat → Option Fn) (cl : Nat → List D → FRes) (e : E) (ρ : Ro) (k : Option Int × Ro → Prop) : Ok (EV.evI F cl (.yes e) ρ) k = Ok (EV.ev F cl e ρ) fun p => OW p.1 fun d => OM (intO d) fun i => k (some i, p.2) := i_yes0 F cl e ρ k
theorem cc_no (F : Nat → Option Fn) (cl : Nat → List D → FRes) (ρ : Ro) (k : Bool × Ro → Prop) : Ok (EV.evC F cl .no ρ) k = k (true, ρ) := (rfl)
theorem cc_yes (F : Nat → Option Fn) (cl : Nat → List D → FRes) (e : E) (ρ : Ro) (k : Bool × Ro → Prop) : Ok (EV.evC F cl (.yes e) ρ) k = Ok (testOf (EV.ev F cl e) ρ) k := (rfl)
theorem t_test (F : Nat → Option Fn) (cl : Nat → List D → FRes) (e : E) (ρ : Ro) (k : Bool × Ro → Prop) : Ok (testOf (EV.ev F cl e) ρ) k = Ok (EV.ev F cl e ρ) fun p => OW p.1 fun d => OB d fun b => k (b, p.2) := t_test0 F cl e ρ k
theorem t_dat (F : Nat → Option Fn) (cl : Nat → List D → FRes) (e : E) (ρ : Ro) (k : D × Ro → Prop) : Ok (datOf (EV.ev F cl e) ρ) k = Ok (EV.ev F cl e ρ) fun p => OW p.1 fun d => k (d, p.2) := t_dat0 F cl e ρ k
theorem it_seq (F : Nat → Option Fn) (cl : Nat → List D → FRes) (e : E) (ρ : Ro) (k : List D × Ro → Prop) : Ok (EV.evIt F cl (.seq e) ρ) k = Ok (EV.ev F cl e ρ) fun p => OW p.1 fun d => OM (seqD d) fun xs => k (xs, p.2) := it_seq0 F cl e ρ k
theorem it_r1 (F : Nat → Option Fn) (cl : Nat → List D → FRes) (e : E) (ρ : Ro) (k : List D × Ro → Prop) : Ok (EV.evIt F cl (.range1 e) ρ) k = Ok (EV.ev F cl e ρ) fun p => OW p.1 fun d => OM (rng1 d) fun xs => k (xs, p.2) := it_r10 F cl e ρ k
theorem it_r2 (F : Nat → Option Fn) (cl : Nat → List D → FRes) (a b : E) (ρ : Ro) (k : List D × Ro → Prop) : Ok (EV.evIt F cl (.range2 a b) ρ) k = Ok (EV.ev F cl a ρ) fun p => OW p.1 fun d => Ok (EV.ev F cl b p.2) fun q => OW q.1 fun e => OM (rng2 d e) fun xs => k (xs, q.2) := it_r20 F cl a b ρ k
theorem it_dn (F : Nat → Option Fn) (cl : Nat → List D → FRes) (a b : E) (ρ : Ro) (k : List D × Ro → Prop) : Ok (EV.evIt F cl (.down a b) ρ) k = Ok (EV.ev F cl a ρ) fun p => OW p.1 fun d => Ok (EV.ev F cl b p.2) fun q => OW q.1 fun e => OM (rngD d e) fun xs => k (xs, q.2) := it_dn0 F cl a b ρ k
theorem it_en (F : Nat → Option Fn) (cl : Nat → List D → FRes) (e : E) (ρ : Ro) (k : List D × Ro → Prop) : Ok (EV.evIt F cl (.enum e) ρ) k = Ok (EV.ev F cl e ρ) fun p => OW p.1 fun d => OM (items d) fun xs => k (enumD xs, p.2) := it_en0 F cl e ρ k
theorem it_zp (F : Nat → Option Fn) (cl : Nat → List D → FRes) (a b : E) (ρ : Ro) (k : List D × Ro → Prop) : Ok (EV.evIt F cl (.zip a b) ρ) k = Ok (EV.ev F cl a ρ) fun p => OW p.1 fun d => Ok (EV.ev F cl b p.2) fun q => OW q.1 fun e => OM (zipO d e) fun xs => k (xs, q.2) := it_zp0 F cl a b ρ k
theorem bk_one (ρ ρ2 : Ro) (i : Nat) (k : Ro → Prop) : BK ρ ρ2 (Tg.slots (.one i)) k = BK ρ ρ2 [i] k := (rfl)
theorem bk_many (ρ ρ2 : Ro) (is : List Nat) (k : Ro → Prop) : BK ρ ρ2 (Tg.slots (.many is)) k = BK ρ ρ2 is k := (rfl)
theorem bk_two (ρ ρ2 : Ro) (i j : Nat) (is : List Nat) (k : Ro → Prop) : BK ρ ρ2 (i :: j :: is) k = BK ρ ρ2 (j :: is) fun r => BK ρ r [i] k := (rfl)
theorem bk_z (x y : Option Sv) (ρ ρ2 : Ro) (k : Ro → Prop) : BK (x :: ρ) (y :: ρ2) [0] k = k (x :: ρ2) := (rfl)
theorem bk_s (x y : Option Sv) (ρ ρ2 : Ro) (n : Nat) (k : Ro → Prop) : BK (x :: ρ) (y :: ρ2) [n + 1] k = BK ρ ρ2 [n] fun r => k (y :: r) := (rfl)
theorem pi_none (ρ : Ro) (r : Option (List D)) (k : Ro → Prop) : PI ρ none r k = k ρ := (rfl)
theorem pi_io (xs ys : List D) (ρ : Ro) (k : Ro → Prop) : PI (some (.io xs) :: ρ) (some 0) (some ys) k = k (some (.io ys) :: ρ) := (rfl)
theorem pi_own (xs ys : List D) (ρ : Ro) (k : Ro → Prop) : PI (some (.own xs) :: ρ) (some 0) (some ys) k = k (some (.own ys) :: ρ) := (rfl)
theorem bnd_one (i : Nat) (d : D) (ρ : Ro) (k : Ro → Prop) : OM (bindT (.one i) d ρ) k = OS ρ i (.dat d) k := (rfl)
theorem bnd_many (is : List Nat) (ds : List D) (ρ : Ro) (k : Ro → Prop) : OM (bindT (.many is) (.tuple ds) ρ) k = OSs ρ is ds k := (rfl)
theorem m_app (xs : List D) (d : D) (ρ : Ro) (k : W × Ro → Prop) : Ok (methE .append 0 [d] (some (.own xs) :: ρ)) k = (xs.length < sizeLine ∧ k (.dat .none, some (.own (xs ++ [d])) :: ρ)) := m_app0 xs d ρ k
theorem m_s (m : Me) (n : Nat) (ds : List D) (x : Option Sv) (ρ : Ro) (k : W × Ro → Prop) : Ok (methE m (n + 1) ds (x :: ρ)) k = Ok (methE m n ds ρ) fun p => k (p.1, x :: p.2) := m_s0 m n ds x ρ k
theorem m_pop0 (y : D) (xs : List D) (ρ : Ro) (k : W × Ro → Prop) : Ok (methE .popAt 0 [.int 0] (some (.own (y :: xs)) :: ρ)) k = k (.dat y, some (.own xs) :: ρ) := m_pop00 y xs ρ k
theorem p_var (F : Nat → Option Fn) (cl : Nat → List D → FRes) (i : Nat) (ρ : Ro) (k : Opd × Ro → Prop) : Ok (opdOf (EV.ev F cl (.var i)) (.var i) ρ) k = OG ρ i fun _ => k (.slot i, ρ) := p_var0 F cl i ρ k
theorem pd_var (F : Nat → Option Fn) (cl : Nat → List D → FRes) (i : Nat) (ρ : Ro) (k : Opd × Ro → Prop) : Ok (opdD (EV.ev F cl (.var i)) (.var i) ρ) k = OG ρ i fun _ => k (.slot i, ρ) := pd_var0 F cl i ρ k
theorem p_cst (F : Nat → Option Fn) (cl : Nat → List D → FRes) (d : D) (ρ : Ro) (k : Opd × Ro → Prop) : Ok (opdOf (EV.ev F cl (E.cst d)) (E.cst d) ρ) k = Ok (EV.ev F cl (E.cst d) ρ) fun p => k (.val p.1, p.2) := (rfl)
theorem pd_cst (F : Nat → Option Fn) (cl : Nat → List D → FRes) (d : D) (ρ : Ro) (k : Opd × Ro → Prop) : Ok (opdD (EV.ev F cl (E.cst d)) (E.cst d) ρ) k = Ok (EV.ev F cl (E.cst d) ρ) fun p => OW p.1 fun d => k (.val (.dat d), p.2) := (rfl)
theorem p_op2 (F : Nat → Option Fn) (cl : Nat → List D → FRes) (o : Op2) (a b : E) (ρ : Ro) (k : Opd × Ro → Prop) : Ok (opdOf (EV.ev F cl (E.op2 o a b)) (E.op2 o a b) ρ) k = Ok (EV.ev F cl (E.op2 o a b) ρ) fun p => k (.val p.1, p.2) := ok_bind (EV.ev F cl (E.op2 o a b) ρ) _ k
theorem pd_op2 (F : Nat → Option Fn) (cl : Nat → List D → FRes) (o : Op2) (a b : E) (ρ : Ro) (k : Opd × Ro → Prop) : Ok (opdD (EV.ev F cl (E.op2 o a b)) (E.op2 o a b) ρ) k = Ok (EV.ev F cl (E.op2 o a b) ρ) fun p => OW p.1 fun d => k (.val (.dat d), p.2) := ok_bind (EV.ev F cl (E.op2 o a b) ρ) _ k
theorem p_op1 (F : Nat → Option Fn) (cl : Nat → List D → FRes) (o : Op1) (a : E) (ρ : Ro) (k : Opd × Ro → Prop) : Ok (opdOf (EV.ev F cl (E.op1 o a)) (E.op1 o a) ρ) k = Ok (EV.ev F cl (E.op1 o a) ρ) fun p => k (.val p.1, p.2) := ok_bind (EV.ev F cl (E.op1 o a) ρ) _ k
theorem pd_op1 (F : Nat → Option Fn) (cl : Nat → List D → FRes) (o : Op1) (a : E) (ρ : Ro) (k : Opd × Ro → Prop) : Ok (opdD (EV.ev F cl (E.op1 o a)) (E.op1 o a) ρ) k = Ok (EV.ev F cl (E.op1 o a) ρ) fun p => OW p.1 fun d => k (.val (.dat d), p.2) := ok_bind (EV.ev F cl (E.op1 o a) ρ) _ k
theorem p_chain (F : Nat → Option Fn) (cl : Nat → List D → FRes) (o o2 : Op2) (a b c : E) (ρ : Ro) (k : Opd × Ro → Prop) : Ok (opdOf (EV.ev F cl (E.chain o o2 a b c)) (E.chain o o2 a b c) ρ) k = Ok (EV.ev F cl (E.chain o o2 a b c) ρ) fun p => k (.val p.1, p.2) := ok_bind (EV.ev F cl (E.chain o o2 a b c) ρ) _ k
theorem pd_chain (F : Nat → Option Fn) (cl : Nat → List D → FRes) (o o2 : Op2) (a b c : E) (ρ : Ro) (k : Opd × Ro → Prop) : Ok (opdD (EV.ev F cl (E.chain o o2 a b c)) (E.chain o o2 a b c) ρ) k = Ok (EV.ev F cl (E.chain o o2 a b c) ρ) fun p => OW p.1 fun d => k (.val (.dat d), p.2) := ok_bind (EV.ev F cl (E.chain o o2 a b c) ρ) _ k
theorem p_bop (F : Nat → Option Fn) (cl : Nat → List D → FRes) (c : Bool) (es : Es) (ρ : Ro) (k : Opd × Ro → Prop) : Ok (opdOf (EV.ev F cl (E.bop c es)) (E.bop c es) ρ) k = Ok (EV.ev F cl (E.bop c es) ρ) fun p => k (.val p.1, p.2) := ok_bind (EV.ev F cl (E.bop c es) ρ) _ k
theorem pd_bop (F : Nat → Option Fn) (cl : Nat → List D → FRes) (c : Bool) (es : Es) (ρ : Ro) (k : Opd × Ro → Prop) : Ok (opdD (EV.ev F cl (E.bop c es)) (E.bop c es) ρ) k = Ok (EV.ev F cl (E.bop c es) ρ) fun p => OW p.1 fun d => k (.val (.dat d), p.2) := ok_bind (EV.ev F cl (E.bop c es) ρ) _ k
theorem p_not (F : Nat → Option Fn) (cl : Nat → List D → FRes) (a : E) (ρ : Ro) (k : Opd × Ro → Prop) : Ok (opdOf (EV.ev F cl (E.not a)) (E.not a) ρ) k = Ok (EV.ev F cl (E.not a) ρ) fun p => k (.val p.1, p.2) := ok_bind (EV.ev F cl (E.not a) ρ) _ k
theorem pd_not (F : Nat → Option Fn) (cl : Nat → List D → FRes) (a : E) (ρ : Ro) (k : Opd × Ro → Prop) : Ok (opdD (EV.ev F cl (E.not a)) (E.not a) ρ) k = Ok (EV.ev F cl (E.not a) ρ) fun p => OW p.1 fun d => k (.val (.dat d), p.2) := ok_bind (EV.ev F cl (E.not a) ρ) _ k
theorem p_orT (F : Nat → Option Fn) (cl : Nat → List D → FRes) (a b : E) (ρ : Ro) (k : Opd × Ro → Prop) : Ok (opdOf (EV.ev F cl (E.orT a b)) (E.orT a b) ρ) k = Ok (EV.ev F cl (E.orT a b) ρ) fun p => k (.val p.1, p.2) := ok_bind (EV.ev F cl (E.orT a b) ρ) _ k
theorem pd_orT (F : Nat → Option Fn) (cl : Nat → List D → FRes) (a b : E) (ρ : Ro) (k : Opd × Ro → Prop) : Ok (opdD (EV.ev F cl (E.orT a b)) (E.orT a b) ρ) k = Ok (EV.ev F cl (E.orT a b) ρ) fun p => OW p.1 fun d => k (.val (.dat d), p.2) := ok_bind (EV.ev F cl (E.orT a b) ρ) _ k
theorem p_ite (F : Nat → Option Fn) (cl : Nat → List D → FRes) (c a b : E) (ρ : Ro) (k : Opd × Ro → Prop) : Ok (opdOf (EV.ev F cl (E.ite c a b)) (E.ite c a b) ρ) k = Ok (EV.ev F cl (E.ite c a b) ρ) fun p => k (.val p.1, p.2) := ok_bind (EV.ev F cl (E.ite c a b) ρ) _ k
theorem pd_ite (F : Nat → Option Fn) (cl : Nat → List D → FRes) (c a b : E) (ρ : Ro) (k : Opd × Ro → Prop) : Ok (opdD (EV.ev F cl (E.ite c a b)) (E.ite c a b) ρ) k = Ok (EV.ev F cl (E.ite c a b) ρ) fun p => OW p.1 fun d => k (.val (.dat d), p.2) := ok_bind (EV.ev F cl (E.ite c a b) ρ) _ k
theorem p_tup (F : Nat → Option Fn) (cl : Nat → List D → FRes) (es : Es) (ρ : Ro) (k : Opd × Ro → Prop) : Ok (opdOf (EV.ev F cl (E.tup es)) (E.tup es) ρ) k = Ok (EV.ev F cl (E.tup es) ρ) fun p => k (.val p.1, p.2) := ok_bind (EV.ev F cl (E.tup es) ρ) _ k
theorem pd_tup (F : Nat → Option Fn) (cl : Nat → List D → FRes) (es : Es) (ρ : Ro) (k : Opd × Ro → Prop) : Ok (opdD (EV.ev F cl (E.tup es)) (E.tup es) ρ) k = Ok (EV.ev F cl (E.tup es) ρ) fun p => OW p.1 fun d => k (.val (.dat d), p.2) := ok_bind (EV.ev F cl (E.tup es) ρ) _ k
theorem p_lst (F : Nat → Option Fn) (cl : Nat → List D → FRes) (es : Es) (ρ : Ro) (k : Opd × Ro → Prop) : Ok (opdOf (EV.ev F cl (E.lst es)) (E.lst es) ρ) k = Ok (EV.ev F cl (E.lst es) ρ) fun p => k (.val p.1, p.2) := ok_bind (EV.ev F cl (E.lst es) ρ) _ k
theorem pd_lst (F : Nat → Option Fn) (cl : Nat → List D → FRes) (es : Es) (ρ : Ro) (k : Opd × Ro → Prop) : Ok (opdD (EV.ev F cl (E.lst es)) (E.lst es) ρ) k = Ok (EV.ev F cl (E.lst es) ρ) fun p => OW p.1 fun d => k (.val (.dat d), p.2) := ok_bind (EV.ev F cl (E.lst es) ρ) _ k
theorem p_idx (F : Nat → Option Fn) (cl : Nat → List D → FRes) (a b : E) (ρ : Ro) (k : Opd × Ro → Prop) : Ok (opdOf (EV.ev F cl (E.idx a b)) (E.idx a b) ρ) k = Ok (EV.ev F cl (E.idx a b) ρ) fun p => k (.val p.1, p.2) := ok_bind (EV.ev F cl (E.idx a b) ρ) _ k
theorem pd_idx (F : Nat → Option Fn) (cl : Nat → List D → FRes) (a b : E) (ρ : Ro) (k : Opd × Ro → Prop) : Ok (opdD (EV.ev F cl (E.idx a b)) (E.idx a b) ρ) k = Ok (EV.ev F cl (E.idx a b) ρ) fun p => OW p.1 fun d => k (.val (.dat d), p.2) := ok_bind (EV.ev F cl (E.idx a b) ρ) _ k
theorem p_slc (F : Nat → Option Fn) (cl : Nat → List D → FRes) (a : E) (lo hi : Eo) (ρ : Ro) (k : Opd × Ro → Prop) : Ok (opdOf (EV.ev F cl (E.slc a lo hi)) (E.slc a lo hi) ρ) k = Ok (EV.ev F cl (E.slc a lo hi) ρ) fun p => k (.val p.1, p.2) := ok_bind (EV.ev F cl (E.slc a lo hi) ρ) _ k
theorem pd_slc (F : Nat → Option Fn) (cl : Nat → List D → FRes) (a : E) (lo hi : Eo) (ρ : Ro) (k : Opd × Ro → Prop) : Ok (opdD (EV.ev F cl (E.slc a lo hi)) (E.slc a lo hi) ρ) k = Ok (EV.ev F cl (E.slc a lo hi) ρ) fun p => OW p.1 fun d => k (.val (.dat d), p.2) := ok_bind (EV.ev F cl (E.slc a lo hi) ρ) _ k
theorem p_call (F : Nat → Option Fn) (cl : Nat → List D → FRes) (f : Nat) (es : Es) (ρ : Ro) (k : Opd × Ro → Prop) : Ok (opdOf (EV.ev F cl (E.call f es)) (E.call f es) ρ) k = Ok (EV.ev F cl (E.call f es) ρ) fun p => k (.val p.1, p.2) := ok_bind (EV.ev F cl (E.call f es) ρ) _ k
theorem pd_call (F : Nat → Option Fn) (cl : Nat → List D → FRes) (f : Nat) (es : Es) (ρ : Ro) (k : Opd × Ro → Prop) : Ok (opdD (EV.ev F cl (E.call f es)) (E.call f es) ρ) k = Ok (EV.ev F cl (E.call f es) ρ) fun p => OW p.1 fun d => k (.val (.dat d), p.2) := ok_bind (EV.ev F cl (E.call f es) ρ) _ k
theorem p_bi (F : Nat → Option Fn) (cl : Nat → List D → FRes) (b : Bi) (es : Es) (ρ : Ro) (k : Opd × Ro → Prop) : Ok (opdOf (EV.ev F cl (E.bi b es)) (E.bi b es) ρ) k = Ok (EV.ev F cl (E.bi b es) ρ) fun p => k (.val p.1, p.2) := ok_bind (EV.ev F cl (E.bi b es) ρ) _ k
theorem pd_bi (F : Nat → Option Fn) (cl : Nat → List D → FRes) (b : Bi) (es : Es) (ρ : Ro) (k : Opd × Ro → Prop) : Ok (opdD (EV.ev F cl (E.bi b es)) (E.bi b es) ρ) k = Ok (EV.ev F cl (E.bi b es) ρ) fun p => OW p.1 fun d => k (.val (.dat d), p.2) := ok_bind (EV.ev F cl (E.bi b es) ρ) _ k
theorem p_rep (F : Nat → Option Fn) (cl : Nat → List D → FRes) (a b : E) (ρ : Ro) (k : Opd × Ro → Prop) : Ok (opdOf (EV.ev F cl (E.rep a b)) (E.rep a b) ρ) k = Ok (EV.ev F cl (E.rep a b) ρ) fun p => k (.val p.1, p.2) := ok_bind (EV.ev F cl (E.rep a b) ρ) _ k
theorem pd_rep (F : Nat → Option Fn) (cl : Nat → List D → FRes) (a b : E) (ρ : Ro) (k : Opd × Ro → Prop) : Ok (opdD (EV.ev F cl (E.rep a b)) (E.rep a b) ρ) k = Ok (EV.ev F cl (E.rep a b) ρ) fun p => OW p.1 fun d => k (.val (.dat d), p.2) := ok_bind (EV.ev F cl (E.rep a b) ρ) _ k
theorem p_isi (F : Nat → Option Fn) (cl : Nat → List D → FRes) (a : E) (ts : List Ty) (b : Bool) (ρ : Ro) (k : Opd × Ro → Prop) : Ok (opdOf (EV.ev F cl (E.isi a ts b)) (E.isi a ts b) ρ) k = Ok (EV.ev F cl (E.isi a ts b) ρ) fun p => k (.val p.1, p.2) := ok_bind (EV.ev F cl (E.isi a ts b) ρ) _ k
theorem pd_isi (F : Nat → Option Fn) (cl : Nat → List D → FRes) (a : E) (ts : List Ty) (b : Bool) (ρ : Ro) (k : Opd × Ro → Prop) : Ok (opdD (EV.ev F cl (E.isi a ts b)) (E.isi a ts b) ρ) k = Ok (EV.ev F cl (E.isi a ts b) ρ) fun p => OW p.1 fun d => k (.val (.dat d), p.2) := ok_bind (EV.ev F cl (E.isi a ts b) ρ) _ k
theorem p_comp (F : Nat → Option Fn) (cl : Nat → List D → FRes) (t : Tg) (it : It) (c : Eo) (e : E) (ρ : Ro) (k : Opd × Ro → Prop) : Ok (opdOf (EV.ev F cl (E.comp t it c e)) (E.comp t it c e) ρ) k = Ok (EV.ev F cl (E.comp t it c e) ρ) fun p => k (.val p.1, p.2) := ok_bind (EV.ev F cl (E.comp t it c e) ρ) _ k
theorem pd_comp (F : Nat → Option Fn) (cl : Nat → List D → FRes) (t : Tg) (it : It) (c : Eo) (e : E) (ρ : Ro) (k : Opd × Ro → Prop) : Ok (opdD (EV.ev F cl (E.comp t it c e)) (E.comp t it c e) ρ) k = Ok (EV.ev F cl (E.comp t it c e) ρ) fun p => OW p.1 fun d => k (.val (.dat d), p.2) := ok_bind (EV.ev F cl (E.comp t it c e) ρ) _ k
theorem p_comp2 (F : Nat → Option Fn) (cl : Nat → List D → FRes) (t : Tg) (it : It) (c : Eo) (t2 : Tg) (it2 : It) (c2 : Eo) (e : E) (ρ : Ro) (k : Opd × Ro → Prop) : Ok (opdOf (EV.ev F cl (E.comp2 t it c t2 it2 c2 e)) (E.comp2 t it c t2 it2 c2 e) ρ) k = Ok (EV.ev F cl (E.comp2 t it c t2 it2 c2 e) ρ) fun p => k (.val p.1, p.2) := ok_bind (EV.ev F cl (E.comp2 t it c t2 it2 c2 e) ρ) _ k
theorem pd_comp2 (F : Nat → Option Fn) (cl : Nat → List D → FRes) (t : Tg) (it : It) (c : Eo) (t2 : Tg) (it2 : It) (c2 : Eo) (e : E) (ρ : Ro) (k : Opd × Ro → Prop) : Ok (opdD (EV.ev F cl (E.comp2 t it c t2 it2 c2 e)) (E.comp2 t it c t2 it2 c2 e) ρ) k = Ok (EV.ev F cl (E.comp2 t it c t2 it2 c2 e) ρ) fun p => OW p.1 fun d => k (.val (.dat d), p.2) := ok_bind (EV.ev F cl (E.comp2 t it c t2 it2 c2 e) ρ) _ k
theorem p_meth (F : Nat → Option Fn) (cl : Nat → List D → FRes) (m : Me) (i : Nat) (es : Es) (ρ : Ro) (k : Opd × Ro → Prop) : Ok (opdOf (EV.ev F cl (E.meth m i es)) (E.meth m i es) ρ) k = Ok (EV.ev F cl (E.meth m i es) ρ) fun p => k (.val p.1, p.2) := ok_bind (EV.ev F cl (E.meth m i es) ρ) _ k
theorem pd_meth (F : Nat → Option Fn) (cl : Nat → List D → FRes) (m : Me) (i : Nat) (es : Es) (ρ : Ro) (k : Opd × Ro → Prop) : Ok (opdD (EV.ev F cl (E.meth m i es)) (E.meth m i es) ρ) k = Ok (EV.ev F cl (E.meth m i es) ρ) fun p => OW p.1 fun d => k (.val (.dat d), p.2) := ok_bind (EV.ev F cl (E.meth m i es) ρ) _ k
theorem p_rev (F : Nat → Option Fn) (cl : Nat → List D → FRes) (a : E) (ρ : Ro) (k : Opd × Ro → Prop) : Ok (opdOf (EV.ev F cl (E.rev a)) (E.rev a) ρ) k = Ok (EV.ev F cl (E.rev a) ρ) fun p => k (.val p.1, p.2) := ok_bind (EV.ev F cl (E.rev a) ρ) _ k
theorem pd_rev (F : Nat → Option Fn) (cl : Nat → List D → FRes) (a : E) (ρ : Ro) (k : Opd × Ro → Prop) : Ok (opdD (EV.ev F cl (E.rev a)) (E.rev a) ρ) k = Ok (EV.ev F cl (E.rev a) ρ) fun p => OW p.1 fun d => k (.val (.dat d), p.2) := ok_bind (EV.ev F cl (E.rev a) ρ) _ k
theorem p_glo (F : Nat → Option Fn) (cl : Nat → List D → FRes) (n : Nat) (d : D) (ρ : Ro) (k : Opd × Ro → Prop) : Ok (opdOf (EV.ev F cl (E.glo n d)) (E.glo n d) ρ) k = Ok (EV.ev F cl (E.glo n d) ρ) fun p => k (.val p.1, p.2) := (rfl)
theorem pd_glo (F : Nat → Option Fn) (cl : Nat → List D → FRes) (n : Nat) (d : D) (ρ : Ro) (k : Opd × Ro → Prop) : Ok (opdD (EV.ev F cl (E.glo n d)) (E.glo n d) ρ) k = Ok (EV.ev F cl (E.glo n d) ρ) fun p => OW p.1 fun d => k (.val (.dat d), p.2) := (rfl)
theorem p_call0 (F : Nat → Option Fn) (cl : Nat → List D → FRes) (f : Nat) (ρ : Ro) (k : Opd × Ro → Prop) : Ok (opdOf (EV.ev F cl (E.call0 f)) (E.call0 f) ρ) k = Ok (EV.ev F cl (E.call0 f) ρ) fun p => k (.val p.1, p.2) := ok_bind (EV.ev F cl (E.call0 f) ρ) _ k
theorem pd_call0 (F : Nat → Option Fn) (cl : Nat → List D → FRes) (f : Nat) (ρ : Ro) (k : Opd × Ro → Prop) : Ok (opdD (EV.ev F cl (E.call0 f)) (E.call0 f) ρ) k = Ok (EV.ev F cl (E.call0 f) ρ) fun p => OW p.1 fun d => k (.val (.dat d), p.2) := ok_bind (EV.ev F cl (E.call0 f) ρ) _ k
theorem p_callK (F : Nat → Option Fn) (cl : Nat → List D → FRes) (f : Nat) (pm : List Nat) (es : Es) (ρ : Ro) (k : Opd × Ro → Prop) : Ok (opdOf (EV.ev F cl (E.callK f pm es)) (E.callK f pm es) ρ) k = Ok (EV.ev F cl (E.callK f pm es) ρ) fun p => k (.val p.1, p.2) := ok_bind (EV.ev F cl (E.callK f pm es) ρ) _ k
theorem pd_callK (F : Nat → Option Fn) (cl : Nat → List D → FRes) (f : Nat) (pm : List Nat) (es : Es) (ρ : Ro) (k : Opd × Ro → Prop) : Ok (opdD (EV.ev F cl (E.callK f pm es)) (E.callK f pm es) ρ) k = Ok (EV.ev F cl (E.callK f pm es) ρ) fun p => OW p.1 fun d => k (.val (.dat d), p.2) := ok_bind (EV.ev F cl (E.callK f pm es) ρ) _ k
theorem s_nil (F : Nat → Option Fn) (cl : Nat → List D → FRes) (ρ : Ro) (k : EV.Flow × Ro → Prop) : Ok (EV.execs F cl .nil ρ) k = k (.next, ρ) := (rfl)
theorem s_asg (F : Nat → Option Fn) (cl : Nat → List D → FRes) (i : Nat) (e : E) (r : Ss) (ρ : Ro) (k : EV.Flow × Ro → Prop) : Ok (EV.execs F cl (.cons (.asg i e) r) ρ) k = Ok (EV.ev F cl e ρ) fun p => OS p.2 i p.1 fun ρ2 => Ok (EV.execs F cl r ρ2) k := s_asg0 F cl i e r ρ k
theorem s_asgT (F : Nat → Option Fn) (cl : Nat → List D → FRes) (is : List Nat) (e : E) (r : Ss) (ρ : Ro) (k : EV.Flow × Ro → Prop) : Ok (EV.execs F cl (.cons (.asgT is e) r) ρ) k = Ok (EV.ev F cl e ρ) fun p => OW p.1 fun d => OT d fun ds => OSs p.2 is ds fun ρ2 => Ok (EV.execs F cl r ρ2) k := s_asgT0 F cl is e r ρ k
theorem ot_tup (ds : List D) (k : List D → Prop) : OT (.tuple ds) k = k ds := (rfl)
theorem oss_nil (ρ : Ro) (k : Ro → Prop) : OSs ρ [] [] k = k ρ := (rfl)
theorem oss_cons (ρ : Ro) (i : Nat) (is : List Nat) (d : D) (ds : List D) (k : Ro → Prop) : OSs ρ (i :: is) (d :: ds) k = OS ρ i (.dat d) fun ρ2 => OSs ρ2 is ds k := oss_cons0 ρ i is d ds k
theorem s_par (F : Nat → Option Fn) (cl : Nat → List D → FRes) (is : List Nat) (es : Es) (r : Ss) (ρ : Ro) (k : EV.Flow × Ro → Prop) : Ok (EV.execs F cl (.cons (.par is es) r) ρ) k = Ok (EV.evWs F cl es ρ) fun p => OSw p.2 is p.1 fun ρ2 => Ok (EV.execs F cl r ρ2) k := s_par0 F cl is es r ρ k
theorem osw_nil (ρ : Ro) (k : Ro → Prop) : OSw ρ [] [] k = k ρ := (rfl)
theorem osw_cons (ρ : Ro) (i : Nat) (is : List Nat) (d : W) (ds : List W) (k : Ro → Prop) : OSw ρ (i :: is) (d :: ds) k = OS ρ i d fun ρ2 => OSw ρ2 is ds k := osw_cons0 ρ i is d ds k
theorem ws_nil (F : Nat → Option Fn) (cl : Nat → List D → FRes) (ρ : Ro) (k : List W × Ro → Prop) : Ok (EV.evWs F cl .nil ρ) k = k ([], ρ) := (rfl)
theorem ws_cons (F : Nat → Option Fn) (cl : Nat → List D → FRes) (e : E) (r : Es) (ρ : Ro) (k : List W × Ro → Prop) : Ok (EV.evWs F cl (.cons e r) ρ) k = Ok (EV.ev F cl e ρ) fun p => Ok (EV.evWs F cl r p.2) fun q => k (p.1 :: q.1, q.2) := ws_cons0 F cl e r ρ k
theorem s_sub (F : Nat → Option Fn) (cl : Nat → List D → FRes) (i : Nat) (x v : E) (r : Ss) (ρ : Ro) (k : EV.Flow × Ro → Prop) : Ok (EV.execs F cl (.cons (.sub i x v) r) ρ) k = OLs ρ i (Ok (EV.ev F cl v ρ) fun p => OW p.1 fun d => Ok (EV.ev F cl x p.2) fun q => OW q.1 fun e => OU q.2 i e d fun ρ2 => Ok (EV.execs F cl r ρ2) k) := s_sub0 F cl i x v r ρ k
theorem ols_s (x : Option Sv) (ρ : Ro) (n : Nat) (p : Prop) : OLs (x :: ρ) (n + 1) p = OLs ρ n p := (rfl)
theorem ols_own (xs : List D) (ρ : Ro) (p : Prop) : OLs (some (.own xs) :: ρ) 0 p = p := ols_own0 xs ρ p
theorem ols_io (xs : List D) (ρ : Ro) (p : Prop) : OLs (some (.io xs) :: ρ) 0 p = p := ols_io0 xs ρ p
theorem ou_s (x : Option Sv) (ρ : Ro) (n : Nat) (e d : D) (k : Ro → Prop) : OU (x :: ρ) (n + 1) e d k = OU ρ n e d fun r => k (x :: r) := ou_s0 x ρ n e d k
theorem ou_own (xs : List D) (ρ : Ro) (j : Int) (d : D) (k : Ro → Prop) : OU (some (.own xs) :: ρ) 0 (.int j) d k = OM (ixN xs.length j) fun n => OX xs n d fun ys => k (some (.own ys) :: ρ) := ou_own0 xs ρ j d k
theorem ou_io (xs : List D) (ρ : Ro) (j : Int) (d : D) (k : Ro → Prop) : OU (some (.io xs) :: ρ) 0 (.int j) d k = OM (ixN xs.length j) fun n => OX xs n d fun ys => k (some (.io ys) :: ρ) := ou_io0 xs ρ j d k
theorem ox_s (x : D) (xs : List D) (n : Nat) (d : D) (k : List D → Prop) : OX (x :: xs) (n + 1) d k = OX xs n d fun r => k (x :: r) := (rfl)
theorem ox_z (x : D) (xs : List D) (d : D) (k : List D → Prop) : OX (x :: xs) 0 d k = k (d :: xs) := (rfl)
theorem s_expr (F : Nat → Option Fn) (cl : Nat → List D → FRes) (e : E) (r : Ss) (ρ : Ro) (k : EV.Flow × Ro → Prop) : Ok (EV.execs F cl (.cons (.expr e) r) ρ) k = Ok (EV.ev F cl e ρ) fun p => Ok (EV.execs F cl r p.2) k := s_expr0 F cl e r ρ k
theorem s_ret (F : Nat → Option Fn) (cl : Nat → List D → FRes) (e : E) (r : Ss) (ρ : Ro) (k : EV.Flow × Ro → Prop) : Ok (EV.execs F cl (.cons (.ret e) r) ρ) k = Ok (retOf (EV.ev F cl e) e ρ) fun p => k (.ret p.1, p.2) := s_ret0 F cl e r ρ k
theorem s_retN (F : Nat → Option Fn) (cl : Nat → List D → FRes) (r : Ss) (ρ : Ro) (k : EV.Flow × Ro → Prop) : Ok (EV.execs F cl (.cons .retN r) ρ) k = k (.ret (.dat .none), ρ) := (rfl)
theorem s_ite (F : Nat → Option Fn) (cl : Nat → List D → FRes) (c : E) (a b r : Ss) (ρ : Ro) (k : EV.Flow × Ro → Prop) : Ok (EV.execs F cl (.cons (.ite c a b) r) ρ) k = Ok (testOf (EV.ev F cl c) ρ) fun p => OI p.1 (Ok (EV.execs F cl a p.2) (KN F cl r k)) (Ok (EV.execs F cl b p.2) (KN F cl r k)) := s_ite0 F cl c a b r ρ k
theorem s_for (F : Nat → Option Fn) (cl : Nat → List D → FRes) (t : Tg) (it : It) (b r : Ss) (ρ : Ro) (k : EV.Flow × Ro → Prop) : Ok (EV.execs F cl (.cons (.for_ t it b) r) ρ) k = Ok (EV.evIt F cl it ρ) fun p => Ok (forL (bindT t) (EV.execs F cl b) p.1 p.2) (KN F cl r k) := s_for0 F cl t it b r ρ k
theorem kn_next (F : Nat → Option Fn) (cl : Nat → List D → FRes) (r : Ss) (k : EV.Flow × Ro → Prop) (ρ : Ro) : KN F cl r k (.next, ρ) = Ok (EV.execs F cl r ρ) k := (rfl)
theorem kn_ret (F : Nat → Option Fn) (cl : Nat → List D → FRes) (r : Ss) (k : EV.Flow × Ro → Prop) (w : W) (ρ : Ro) : KN F cl r k (.ret w, ρ) = k (.ret w, ρ) := (rfl)
theorem rt_var (F : Nat → Option Fn) (cl : Nat → List D → FRes) (i : Nat) (ρ : Ro) (k : W × Ro → Prop) : Ok (retOf (EV.ev F cl (.var i)) (.var i) ρ) k = ORt ρ i fun w r => k (w, r) := rt_var0 F cl i ρ k
theorem ort_s (x : Option Sv) (ρ : Ro) (n : Nat) (k : W → Ro → Prop) : ORt (x :: ρ) (n + 1) k = ORt ρ n fun d r => k d (x :: r) := ort_s0 x ρ n k
theorem ort_dat (d : D) (ρ : Ro) (k : W → Ro → Prop) : ORt (some (.dat d) :: ρ) 0 k = k (.dat d) (some (.dat d) :: ρ) := (rfl)
theorem ort_own (d : List D) (ρ : Ro) (k : W → Ro → Prop) : ORt (some (.own d) :: ρ) 0 k = k (.new d) (none :: ρ) := (rfl)
theorem rt_cst (F : Nat → Option Fn) (cl : Nat → List D → FRes) (d : D) (ρ : Ro) (k : W × Ro → Prop) : Ok (retOf (EV.ev F cl (E.cst d)) (E.cst d) ρ) k = Ok (EV.ev F cl (E.cst d) ρ) k := (rfl)
theorem rt_op2 (F : Nat → Option Fn) (cl : Nat → List D → FRes) (o : Op2) (a b : E) (ρ : Ro) (k : W × Ro → Prop) : Ok (retOf (EV.ev F cl (E.op2 o a b)) (E.op2 o a b) ρ) k = Ok (EV.ev F cl (E.op2 o a b) ρ) k := (rfl)
theorem rt_op1 (F : Nat → Option Fn) (cl : Nat → List D → FRes) (o : Op1) (a : E) (ρ : Ro) (k : W × Ro → Prop) : Ok (retOf (EV.ev F cl (E.op1 o a)) (E.op1 o a) ρ) k = Ok (EV.ev F cl (E.op1 o a) ρ) k := (rfl)
theorem rt_chain (F : Nat → Option Fn) (cl : Nat → List D → FRes) (o o2 : Op2) (a b c : E) (ρ : Ro) (k : W × Ro → Prop) : Ok (retOf (EV.ev F cl (E.chain o o2 a b c)) (E.chain o o2 a b c) ρ) k = Ok (EV.ev F cl (E.chain o o2 a b c) ρ) k := (rfl)
theorem rt_bop (F : Nat → Option Fn) (cl : Nat → List D → FRes) (c : Bool) (es : Es) (ρ : Ro) (k : W × Ro → Prop) : Ok (retOf (EV.ev F cl (E.bop c es)) (E.bop c es) ρ) k = Ok (EV.ev F cl (E.bop c es) ρ) k := (rfl)
theorem rt_not (F : Nat → Option Fn) (cl : Nat → List D → FRes) (a : E) (ρ : Ro) (k : W × Ro → Prop) : Ok (retOf (EV.ev F cl (E.not a)) (E.not a) ρ) k = Ok (EV.ev F cl (E.not a) ρ) k := (rfl)
theorem rt_orT (F : Nat → Option Fn) (cl : Nat → List D → FRes) (a b : E) (ρ : Ro) (k : W × Ro → Prop) : Ok (retOf (EV.ev F cl (E.orT a b)) (E.orT a b) ρ) k = Ok (EV.ev F cl (E.orT a b) ρ) k := (rfl)
theorem rt_ite (F : Nat → Option Fn) (cl : Nat → List D → FRes) (c a b : E) (ρ : Ro) (k : W × Ro → Prop) : Ok (retOf (EV.ev F cl (E.ite c a b)) (E.ite c a b) ρ) k = Ok (EV.ev F cl (E.ite c a b) ρ) k := (rfl)
theorem rt_tup (F : Nat → Option Fn) (cl : Nat → List D → FRes) (es : Es) (ρ : Ro) (k : W × Ro → Prop) : Ok (retOf (EV.ev F cl (E.tup es)) (E.tup es) ρ) k = Ok (EV.ev F cl (E.tup es) ρ) k := (rfl)
theorem rt_lst (F : Nat → Option Fn) (cl : Nat → List D → FRes) (es : Es) (ρ : Ro) (k : W × Ro → Prop) : Ok (retOf (EV.ev F cl (E.lst es)) (E.lst es) ρ) k = Ok (EV.ev F cl (E.lst es) ρ) k := (rfl)
theorem rt_idx (F : Nat → Option Fn) (cl : Nat → List D → FRes) (a b : E) (ρ : Ro) (k : W × Ro → Prop) : Ok (retOf (EV.ev F cl (E.idx a b)) (E.idx a b) ρ) k = Ok (EV.ev F cl (E.idx a b) ρ) k := (rfl)
theorem rt_slc (F : Nat → Option Fn) (cl : Nat → List D → FRes) (a : E) (lo hi : Eo) (ρ : Ro) (k : W × Ro → Prop) : Ok (retOf (EV.ev F cl (E.slc a lo hi)) (E.slc a lo hi) ρ) k = Ok (EV.ev F cl (E.slc a lo hi) ρ) k := (rfl)
theorem rt_call (F : Nat → Option Fn) (cl : Nat → List D → FRes) (f : Nat) (es : Es) (ρ : Ro) (k : W × Ro → Prop) : Ok (retOf (EV.ev F cl (E.call f es)) (E.call f es) ρ) k = Ok (EV.ev F cl (E.call f es) ρ) k := (rfl)
theorem rt_bi (F : Nat → Option Fn) (cl : Nat → List D → FRes) (b : Bi) (es : Es) (ρ : Ro) (k : W × Ro → Prop) : Ok (retOf (EV.ev F cl (E.bi b es)) (E.bi b es) ρ) k = Ok (EV.ev F cl (E.bi b es) ρ) k := (rfl)
theorem rt_rep (F : Nat → Option Fn) (cl : Nat → List D → FRes) (a b : E) (ρ : Ro) (k : W × Ro → Prop) : Ok (retOf (EV.ev F cl (E.rep a b)) (E.rep a b) ρ) k = Ok (EV.ev F cl (E.rep a b) ρ) k := (rfl)
theorem rt_isi (F : Nat → Option Fn) (cl : Nat → List D → FRes) (a : E) (ts : List Ty) (b : Bool) (ρ : Ro) (k : W × Ro → Prop) : Ok (retOf (EV.ev F cl (E.isi a ts b)) (E.isi a ts b) ρ) k = Ok (EV.ev F cl (E.isi a ts b) ρ) k := (rfl)
theorem rt_comp (F : Nat → Option Fn) (cl : Nat → List D → FRes) (t : Tg) (it : It) (c : Eo) (e : E) (ρ : Ro) (k : W × Ro → Prop) : Ok (retOf (EV.ev F cl (E.comp t it c e)) (E.comp t it c e) ρ) k = Ok (EV.ev F cl (E.comp t it c e) ρ) k := (rfl)
theorem rt_comp2 (F : Nat → Option Fn) (cl : Nat → List D → FRes) (t : Tg) (it : It) (c : Eo) (t2 : Tg) (it2 : It) (c2 : Eo) (e : E) (ρ : Ro) (k : W × Ro → Prop) : Ok (retOf (EV.ev F cl (E.comp2 t it c t2 it2 c2 e)) (E.comp2 t it c t2 it2 c2 e) ρ) k = Ok (EV.ev F cl (E.comp2 t it c t2 it2 c2 e) ρ) k := (rfl)
theorem rt_meth (F : Nat → Option Fn) (cl : Nat → List D → FRes) (m : Me) (i : Nat) (es : Es) (ρ : Ro) (k : W × Ro → Prop) : Ok (retOf (EV.ev F cl (E.meth m i es)) (E.meth m i es) ρ) k = Ok (EV.ev F cl (E.meth m i es) ρ) k := (rfl)
theorem rt_rev (F : Nat → Option Fn) (cl : Nat → List D → FRes) (a : E) (ρ : Ro) (k : W × Ro → Prop) : Ok (retOf (EV.ev F cl (E.rev a)) (E.rev a) ρ) k = Ok (EV.ev F cl (E.rev a) ρ) k := (rfl)
theorem rt_glo (F : Nat → Option Fn) (cl : Nat → List D → FRes) (n : Nat) (d : D) (ρ : Ro) (k : W × Ro → Prop) : Ok (retOf (EV.ev F cl (E.glo n d)) (E.glo n d) ρ) k = Ok (EV.ev F cl (E.glo n d) ρ) k := (rfl)
theorem rt_call0 (F : Nat → Option Fn) (cl : Nat → List D → FRes) (f : Nat) (ρ : Ro) (k : W × Ro → Prop) : Ok (retOf (EV.ev F cl (E.call0 f)) (E.call0 f) ρ) k = Ok (EV.ev F cl (E.call0 f) ρ) k := (rfl)
theorem rt_callK (F : Nat → Option Fn) (cl : Nat → List D → FRes) (f : Nat) (pm : List Nat) (es : Es) (ρ : Ro) (k : W × Ro → Prop) : Ok (retOf (EV.ev F cl (E.callK f pm es)) (E.callK f pm es) ρ) k = Ok (EV.ev F cl (E.callK f pm es) ρ) k := (rfl)
theorem fin_ret (io : Option Nat) (Q : W → Option (List D) → Prop) (w : W) (ρ : Ro) : Fin io Q (.ret w, ρ) = OE ρ io (Q w) := (rfl)
theorem fin_next (io : Option Nat) (Q : W → Option (List D) → Prop) (ρ : Ro) : Fin io Q (.next, ρ) = OE ρ io (Q (.dat .none)) := (rfl)
theorem oe_none (ρ : Ro) (k : Option (List D) → Prop) : OE ρ none k = k none := (rfl)
theorem oe_z (xs : List D) (ρ : Ro) (k : Option (List D) → Prop) : OE (some (.io xs) :: ρ) (some 0) k = k (some xs) := (rfl)
theorem d_add (i j : Int) (k : W → Prop) : OM (op2 .add (.int i) (.int j)) k = k (.dat (.int (i + j))) := (rfl)
theorem d_sub (i j : Int) (k : W → Prop) : OM (op2 .sub (.int i) (.int j)) k = k (.dat (.int (i - j))) := (rfl)
theorem d_le (i j : Int) (k : W → Prop) : OM (op2 .le (.int i) (.int j)) k = k (.dat (.bool (decide (i ≤ j)))) := (rfl)
theorem d_gt (i j : Int) (k : W → Prop) : OM (op2 .gt (.int i) (.int j)) k = k (.dat (.bool (decide (j < i)))) := (rfl)
theorem d_ge (i j : Int) (k : W → Prop) : OM (op2 .ge (.int i) (.int j)) k = k (.dat (.bool (decide (j ≤ i)))) := (rfl)
theorem d_mod (i j : Int) (k : W → Prop) : OM (op2 .mod (.int i) (.int j)) k = (0 < j ∧ k (.dat (.int (i % j)))) := om_ite _ _
theorem d_fdiv (i j : Int) (k : W → Prop) : OM (op2 .fdiv (.int i) (.int j)) k = ((0 < j ∧ j < 1073741824) ∧ k (.dat (.int (i / j)))) := om_ite _ _
theorem d_mul (i j : Int) (k : W → Prop) : OM (op2 .mul (.int i) (.int j)) k = ((small64 i || small64 j) = true ∧ k (.dat (.int (i * j)))) := om_ite _ _
theorem d_addL (xs ys : List D) (k : W → Prop) : OM (op2 .add (.list xs) (.list ys)) k = (xs.length + ys.length ≤ sizeLine ∧ k (.new (xs ++ ys))) := om_ite _ _
theorem d_addT (xs ys : List D) (k : W → Prop) : OM (op2 .add (.tuple xs) (.tuple ys)) k = (xs.length + ys.length ≤ sizeLine ∧ k (.dat (.tuple (xs ++ ys)))) := om_ite _ _
theorem d_lt (i j : Int) (k : W → Prop) : OM (op2 .lt (.int i) (.int j)) k = k (.dat (.bool (decide (i < j)))) := om_lt _ _ _
theorem d_p18 (k : W → Prop) : OM (op2 .pow (.int 10) (.int 18)) k = k (.dat (.int 1000000000000000000)) := om_p18 k
theorem d_eqI (i j : Int) (k : W → Prop) : OM (op2 .eq (.int i) (.int j)) k = k (.dat (.bool (decide (i = j)))) := om_eqI _ _ _
theorem d_neI (i j : Int) (k : W → Prop) : OM (op2 .ne (.int i) (.int j)) k = k (.dat (.bool (!decide (i = j)))) := om_neI _ _ _
theorem d_eqS (i j : Str) (k : W → Prop) : OM (op2 .eq (.str i) (.str j)) k = ((PyData.strOk i && PyData.strOk j) = true ∧ k (.dat (.bool (decide (i = j))))) := om_eqS _ _ _
theorem d_neS (i j : Str) (k : W → Prop) : OM (op2 .ne (.str i) (.str j)) k = ((PyData.strOk i && PyData.strOk j) = true ∧ k (.dat (.bool (!decide (i = j))))) := om_neS _ _ _
theorem d_eqBB (a : Bool) (k : W → Prop) : OM (op2 .eq (.bool a) (.bool a)) k = k (.dat (.bool true)) := om_eqBB a k
theorem d_neBB (a : Bool) (k : W → Prop) : OM (op2 .ne (.bool a) (.bool a)) k = k (.dat (.bool false)) := om_neBB a k
theorem oi_self (i : Int) (p q : Prop) : OI (decide (i = i)) p q = p := oi_t (by simp)
theorem d_inL (x : D) (xs : List D) (k : W → Prop) : OM (op2 .isin x (.list xs)) k = ((SeqAt.shaped x && SeqAt.shaped (.list xs)) = true ∧ k (.dat (.bool (inD x xs)))) := om_inL _ _ _
theorem d_inT (x : D) (xs : List D) (k : W → Prop) : OM (op2 .isin x (.tuple xs)) k = ((SeqAt.shaped x && SeqAt.shaped (.tuple xs)) = true ∧ k (.dat (.bool (inD x xs)))) := om_inT _ _ _
theorem d_niL (x : D) (xs : List D) (k : W → Prop) : OM (op2 .notin x (.list xs)) k = ((SeqAt.shaped x && SeqAt.shaped (.list xs)) = true ∧ k (.dat (.bool (!inD x xs)))) := om_niL _ _ _
theorem d_niT (x : D) (xs : List D) (k : W → Prop) : OM (op2 .notin x (.tuple xs)) k = ((SeqAt.shaped x && SeqAt.shaped (.tuple xs)) = true ∧ k (.dat (.bool (!inD x xs)))) := om_niT _ _ _
theorem d_neg (i : Int) (k : W → Prop) : OM (op1 .neg (.int i)) k = k (.dat (.int (-i))) := (rfl)
theorem d_truB (b : Bool) (k : Bool → Prop) : OM (tru (.bool b)) k = k b := (rfl)
theorem d_truL (xs : List D) (k : Bool → Prop) : OM (tru (.list xs)) k = k (!xs.isEmpty) := (rfl)
theorem d_isN (x : D) (k : W → Prop) : OM (op1 .isN x) k = k (.dat (.bool (isNone x))) := (rfl)
theorem d_notN (x : D) (k : W → Prop) : OM (op1 .notN x) k = k (.dat (.bool (!isNone x))) := (rfl)
theorem d_lenL (xs : List D) (k : W → Prop) : OM (EV.bi .len [.list xs]) k = k (.dat (.int xs.length)) := (rfl)
theorem d_lenT (xs : List D) (k : W → Prop) : OM (EV.bi .len [.tuple xs]) k = k (.dat (.int xs.length)) := (rfl)
theorem d_abs (i : Int) (k : W → Prop) : OM (EV.bi .abs [.int i]) k = k (.dat (.int (if i < 0 then -i else i))) := (rfl)
theorem d_intI (i : Int) (k : W → Prop) : OM (EV.bi .int [.int i]) k = k (.dat (.int i)) := (rfl)
theorem d_intB (b : Bool) (k : W → Prop) : OM (EV.bi .int [.bool b]) k = k (.dat (.int (b2i b))) := (rfl)
theorem d_listL (xs : List D) (k : W → Prop) : OM (EV.bi .list [.list xs]) k = k (.new xs) := (rfl)
theorem d_listT (xs : List D) (k : W → Prop) : OM (EV.bi .list [.tuple xs]) k = k (.new xs) := (rfl)
theorem d_listS (x : Str) (k : W → Prop) : OM (EV.bi .list [.str x]) k = (x.length ≤ sizeLine ∧ k (.new (chars x))) := om_ite _ _
theorem d_tupL (xs : List D) (k : W → Prop) : OM (EV.bi .tuple [.list xs]) k = k (.dat (.tuple xs)) := (rfl)
theorem d_tupT (xs : List D) (k : W → Prop) : OM (EV.bi .tuple [.tuple xs]) k = k (.dat (.tuple xs)) := (rfl)
theorem d_sort (xs : List D) (k : W → Prop) : OM (EV.bi .sorted [.list xs]) k = (sortOk xs = true ∧ k (.new (sortD xs))) := om_ite _ _
theorem d_ssL (xs : List D) (k : W → Prop) : OM (EV.bi .sortset [.list xs]) k = (setOk xs = true ∧ k (.new (uniqD xs))) := om_ite _ _
theorem d_ssT (xs : List D) (k : W → Prop) : OM (EV.bi .sortset [.tuple xs]) k = (setOk xs = true ∧ k (.new (uniqD xs))) := om_ite _ _
theorem d_slL (xs : List D) (a b : Option Int) (k : W → Prop) : OM (slcD (.list xs) a b) k = k (.new (cutD xs a b)) := (rfl)
theorem d_slT (xs : List D) (a b : Option Int) (k : W → Prop) : OM (slcD (.tuple xs) a b) k = k (.dat (.tuple (cutD xs a b))) := (rfl)
theorem d_rvT (xs : List D) (k : W → Prop) : OM (revD (.tuple xs)) k = k (.dat (.tuple xs.reverse)) := (rfl)
theorem d_rvL (xs : List D) (k : W → Prop) : OM (revD (.list xs)) k = k (.new xs.reverse) := (rfl)
theorem d_ixL (xs : List D) (i : Int) (k : D → Prop) : OM (idxD (.list xs) (.int i)) k = OM (atD xs i) k := (rfl)
theorem d_ixT (xs : List D) (i : Int) (k : D → Prop) : OM (idxD (.tuple xs) (.int i)) k = OM (atD xs i) k := (rfl)
theorem d_at0 (x0 : D) (r : List D) (k : D → Prop) : OM (atD (x0 :: r) 0) k = k x0 := atD_k _ 0 _ k rfl (by simp)
theorem d_ix0 (x0 : D) (r : List D) (k : Nat → Prop) : OM (ixN (x0 :: r).length 0) k = k 0 := ixN_k _ 0 k (by simp)
theorem d_at1 (x0 x1 : D) (r : List D) (k : D → Prop) : OM (atD (x0 :: x1 :: r) 1) k = k x1 := atD_k _ 1 _ k rfl (by simp)
theorem d_ix1 (x0 x1 : D) (r : List D) (k : Nat → Prop) : OM (ixN (x0 :: x1 :: r).length 1) k = k 1 := ixN_k _ 1 k (by simp)
theorem d_at2 (x0 x1 x2 : D) (r : List D) (k : D → Prop) : OM (atD (x0 :: x1 :: x2 :: r) 2) k = k x2 := atD_k _ 2 _ k rfl (by simp)
theorem d_ix2 (x0 x1 x2 : D) (r : List D) (k : Nat → Prop) : OM (ixN (x0 :: x1 :: x2 :: r).length 2) k = k 2 := ixN_k _ 2 k (by simp)
theorem d_at3 (x0 x1 x2 x3 : D) (r : List D) (k : D → Prop) : OM (atD (x0 :: x1 :: x2 :: x3 :: r) 3) k = k x3 := atD_k _ 3 _ k rfl (by simp)
theorem d_ix3 (x0 x1 x2 x3 : D) (r : List D) (k : Nat → Prop) : OM (ixN (x0 :: x1 :: x2 :: x3 :: r).length 3) k = k 3 := ixN_k _ 3 k (by simp)
theorem d_int (i : Int) (k : Int → Prop) : OM (intO (.int i)) k = k i := (rfl)
theorem d_seqL (xs : List D) (k : List D → Prop) : OM (seqD (.list xs)) k = k xs := (rfl)
theorem d_seqT (xs : List D) (k : List D → Prop) : OM (seqD (.tuple xs)) k = k xs := (rfl)
theorem d_itL (xs : List D) (k : List D → Prop) : OM (items (.list xs)) k = k xs := (rfl)
theorem d_itT (xs : List D) (k : List D → Prop) : OM (items (.tuple xs)) k = k xs := (rfl)
theorem d_zL (xs ys : List D) (k : List D → Prop) : OM (zipO (.list xs) (.list ys)) k = k (zipD xs ys) := (rfl)
theorem d_zT (xs ys : List D) (k : List D → Prop) : OM (zipO (.tuple xs) (.tuple ys)) k = k (zipD xs ys) := (rfl)
theorem d_r1 (j : Int) (k : List D → Prop) : OM (rng1 (.int j)) k = (((small62 j && decide (j ≤ sizeLine)) = true) ∧ k (rangeD 0 j)) := om_ite _ _
theorem d_r2 (i j : Int) (k : List D → Prop) : OM (rng2 (.int i) (.int j)) k = (((small62 i && small62 j && decide (j - i ≤ sizeLine)) = true) ∧ k (rangeD i j)) := om_ite _ _
theorem d_rD (i j : Int) (k : List D → Prop) : OM (rngD (.int i) (.int j)) k = (((small62 i && small62 j && decide (i - j ≤ sizeLine)) = true) ∧ k (downD i j)) := om_ite _ _
theorem h_int_dict (x : List (D × D)) (k : Bool → Prop) : OH [.int] (.dict x) k = k false := (rfl)
theorem h_int_int (x : Int) (k : Bool → Prop) : OH [.int] (.int x) k = k true := (rfl)
theorem h_int_bool (x : Bool) (k : Bool → Prop) : OH [.int] (.bool x) k = k true := (rfl)
theorem h_int_str (x : Str) (k : Bool → Prop) : OH [.int] (.str x) k = k false := (rfl)
theorem h_int_list (x : List D) (k : Bool → Prop) : OH [.int] (.list x) k = k false := (rfl)
theorem h_int_tuple (x : List D) (k : Bool → Prop) : OH [.int] (.tuple x) k = k false := (rfl)
theorem h_int_none (k : Bool → Prop) : OH [.int] .none k = k false := (rfl)
theorem h_bool_dict (x : List (D × D)) (k : Bool → Prop) : OH [.bool] (.dict x) k = k false := (rfl)
theorem h_bool_int (x : Int) (k : Bool → Prop) : OH [.bool] (.int x) k = k false := (rfl)
theorem h_bool_bool (x : Bool) (k : Bool → Prop) : OH [.bool] (.bool x) k = k true := (rfl)
theorem h_bool_str (x : Str) (k : Bool → Prop) : OH [.bool] (.str x) k = k false := (rfl)
theorem h_bool_list (x : List D) (k : Bool → Prop) : OH [.bool] (.list x) k = k false := (rfl)
theorem h_bool_tuple (x : List D) (k : Bool → Prop) : OH [.bool] (.tuple x) k = k false := (rfl)
theorem h_bool_none (k : Bool → Prop) : OH [.bool] .none k = k false := (rfl)
theorem h_str_dict (x : List (D × D)) (k : Bool → Prop) : OH [.str] (.dict x) k = k false := (rfl)
theorem h_str_int (x : Int) (k : Bool → Prop) : OH [.str] (.int x) k = k false := (rfl)
theorem h_str_bool (x : Bool) (k : Bool → Prop) : OH [.str] (.bool x) k = k false := (rfl)
theorem h_str_str (x : Str) (k : Bool → Prop) : OH [.str] (.str x) k = k true := (rfl)
theorem h_str_list (x : List D) (k : Bool → Prop) : OH [.str] (.list x) k = k false := (rfl)
theorem h_str_tuple (x : List D) (k : Bool → Prop) : OH [.str] (.tuple x) k = k false := (rfl)
theorem h_str_none (k : Bool → Prop) : OH [.str] .none k = k false := (rfl)
theorem h_list_dict (x : List (D × D)) (k : Bool → Prop) : OH [.list] (.dict x) k = k false := (rfl)
theorem h_list_int (x : Int) (k : Bool → Prop) : OH [.list] (.int x) k = k false := (rfl)
theorem h_list_bool (x : Bool) (k : Bool → Prop) : OH [.list] (.bool x) k = k false := (rfl)
theorem h_list_str (x : Str) (k : Bool → Prop) : OH [.list] (.str x) k = k false := (rfl)
theorem h_list_list (x : List D) (k : Bool → Prop) : OH [.list] (.list x) k = k true := (rfl)
theorem h_list_tuple (x : List D) (k : Bool → Prop) : OH [.list] (.tuple x) k = k false := (rfl)
theorem h_list_none (k : Bool → Prop) : OH [.list] .none k = k false := (rfl)
theorem h_tuple_dict (x : List (D × D)) (k : Bool → Prop) : OH [.tuple] (.dict x) k = k false := (rfl)
theorem h_tuple_int (x : Int) (k : Bool → Prop) : OH [.tuple] (.int x) k = k false := (rfl)
theorem h_tuple_bool (x : Bool) (k : Bool → Prop) : OH [.tuple] (.bool x) k = k false := (rfl)
theorem h_tuple_str (x : Str) (k : Bool → Prop) : OH [.tuple] (.str x) k = k false := (rfl)
theorem h_tuple_list (x : List D) (k : Bool → Prop) : OH [.tuple] (.list x) k = k false := (rfl)
theorem h_tuple_tuple (x : List D) (k : Bool → Prop) : OH [.tuple] (.tuple x) k = k true := (rfl)
theorem h_tuple_none (k : Bool → Prop) : OH [.tuple] .none k = k false := (rfl)
theorem h_lt_int (x : Int) (k : Bool → Prop) : OH [.list, .tuple] (.int x) k = k false := (rfl)
theorem h_bs_int (x : Int) (k : Bool → Prop) : OH [.bool, .str] (.int x) k = k false := (rfl)
theorem h_lt_bool (x : Bool) (k : Bool → Prop) : OH [.list, .tuple] (.bool x) k = k false := (rfl)
theorem h_bs_bool (x : Bool) (k : Bool → Prop) : OH [.bool, .str] (.bool x) k = k true := (rfl)
theorem h_lt_str (x : Str) (k : Bool → Prop) : OH [.list, .tuple] (.str x) k = k false := (rfl)
theorem h_bs_str (x : Str) (k : Bool → Prop) : OH [.bool, .str] (.str x) k = k true := (rfl)
theorem h_lt_list (x : List D) (k : Bool → Prop) : OH [.list, .tuple] (.list x) k = k true := (rfl)
theorem h_bs_list (x : List D) (k : Bool → Prop) : OH [.bool, .str] (.list x) k = k false := (rfl)
theorem h_lt_tuple (x : List D) (k : Bool → Prop) : OH [.list, .tuple] (.tuple x) k = k true := (rfl)
theorem h_bs_tuple (x : List D) (k : Bool → Prop) : OH [.bool, .str] (.tuple x) k = k false := (rfl)
theorem h_lt_dict (x : List (D × D)) (k : Bool → Prop) : OH [.list, .tuple] (.dict x) k = k false := (rfl)
theorem h_bs_dict (x : List (D × D)) (k : Bool → Prop) : OH [.bool, .str] (.dict x) k = k false := (rfl)
theorem h_lt_none (k : Bool → Prop) : OH [.list, .tuple] .none k = k false := (rfl)
theorem h_bs_none (k : Bool → Prop) : OH [.bool, .str] .none k = k false := (rfl)
theorem d_rep (xs : List D) (n : Int) (k : W → Prop) : OM (repD (.new xs) (.int n)) k = ((0 ≤ n ∧ n < 2 ^ 30 ∧ xs.length * n.toNat ≤ sizeLine) ∧ k (.new (List.replicate n.toNat xs).flatten)) := om_ite _ _
theorem ln_0_0 (p q : Prop) : OI (decide (((([] : List D).length : Nat) : Int) = 0)) p q = p := oi_t (by simp)
theorem nl_0_0 (p q : Prop) : OI (!decide (((([] : List D).length : Nat) : Int) = 0)) p q = q := oi_f (by simp)
theorem ln_0_1 (p q : Prop) : OI (decide (((([] : List D).length : Nat) : Int) = 1)) p q = q := oi_f (by simp)
theorem nl_0_1 (p q : Prop) : OI (!decide (((([] : List D).length : Nat) : Int) = 1)) p q = p := oi_t (by simp)
theorem ln_0_2 (p q : Prop) : OI (decide (((([] : List D).length : Nat) : Int) = 2)) p q = q := oi_f (by simp)
theorem nl_0_2 (p q : Prop) : OI (!decide (((([] : List D).length : Nat) : Int) = 2)) p q = p := oi_t (by simp)
theorem ln_0_3 (p q : Prop) : OI (decide (((([] : List D).length : Nat) : Int) = 3)) p q = q := oi_f (by simp)
theorem nl_0_3 (p q : Prop) : OI (!decide (((([] : List D).length : Nat) : Int) = 3)) p q = p := oi_t (by simp)
theorem n23_0 (p q : Prop) : OI (!inD (.int ((([] : List D).length : Nat) : Int)) [.int 2, .int 3]) p q = p := oi_t (by simp [inD, eqv_int])
theorem ln_1_0 (x0 : D) (p q : Prop) : OI (decide ((((x0 :: [] : List D).length : Nat) : Int) = 0)) p q = q := oi_f (by simp)
theorem nl_1_0 (x0 : D) (p q : Prop) : OI (!decide ((((x0 :: [] : List D).length : Nat) : Int) = 0)) p q = p := oi_t (by simp)
theorem ln_1_1 (x0 : D) (p q : Prop) : OI (decide ((((x0 :: [] : List D).length : Nat) : Int) = 1)) p q = p := oi_t (by simp)
theorem nl_1_1 (x0 : D) (p q : Prop) : OI (!decide ((((x0 :: [] : List D).length : Nat) : Int) = 1)) p q = q := oi_f (by simp)
theorem ln_1_2 (x0 : D) (p q : Prop) : OI (decide ((((x0 :: [] : List D).length : Nat) : Int) = 2)) p q = q := oi_f (by simp)
theorem nl_1_2 (x0 : D) (p q : Prop) : OI (!decide ((((x0 :: [] : List D).length : Nat) : Int) = 2)) p q = p := oi_t (by simp)
theorem ln_1_3 (x0 : D) (p q : Prop) : OI (decide ((((x0 :: [] : List D).length : Nat) : Int) = 3)) p q = q := oi_f (by simp)
theorem nl_1_3 (x0 : D) (p q : Prop) : OI (!decide ((((x0 :: [] : List D).length : Nat) : Int) = 3)) p q = p := oi_t (by simp)
theorem n23_1 (x0 : D) (p q : Prop) : OI (!inD (.int (((x0 :: [] : List D).length : Nat) : Int)) [.int 2, .int 3]) p q = p := oi_t (by simp [inD, eqv_int])
theorem ln_2_0 (x0 x1 : D) (p q : Prop) : OI (decide ((((x0 :: x1 :: [] : List D).length : Nat) : Int) = 0)) p q = q := oi_f (by simp)
theorem nl_2_0 (x0 x1 : D) (p q : Prop) : OI (!decide ((((x0 :: x1 :: [] : List D).length : Nat) : Int) = 0)) p q = p := oi_t (by simp)
theorem ln_2_1 (x0 x1 : D) (p q : Prop) : OI (decide ((((x0 :: x1 :: [] : List D).length : Nat) : Int) = 1)) p q = q := oi_f (by simp)
theorem nl_2_1 (x0 x1 : D) (p q : Prop) : OI (!decide ((((x0 :: x1 :: [] : List D).length : Nat) : Int) = 1)) p q = p := oi_t (by simp)
theorem ln_2_2 (x0 x1 : D) (p q : Prop) : OI (decide ((((x0 :: x1 :: [] : List D).length : Nat) : Int) = 2)) p q = p := oi_t (by simp)
theorem nl_2_2 (x0 x1 : D) (p q : Prop) : OI (!decide ((((x0 :: x1 :: [] : List D).length : Nat) : Int) = 2)) p q = q := oi_f (by simp)
theorem ln_2_3 (x0 x1 : D) (p q : Prop) : OI (decide ((((x0 :: x1 :: [] : List D).length : Nat) : Int) = 3)) p q = q := oi_f (by simp)
theorem nl_2_3 (x0 x1 : D) (p q : Prop) : OI (!decide ((((x0 :: x1 :: [] : List D).length : Nat) : Int) = 3)) p q = p := oi_t (by simp)
theorem n23_2 (x0 x1 : D) (p q : Prop) : OI (!inD (.int (((x0 :: x1 :: [] : List D).length : Nat) : Int)) [.int 2, .int 3]) p q = q := oi_f (by simp [inD, eqv_int])
theorem ln_3_0 (x0 x1 x2 : D) (p q : Prop) : OI (decide ((((x0 :: x1 :: x2 :: [] : List D).length : Nat) : Int) = 0)) p q = q := oi_f (by simp)
theorem nl_3_0 (x0 x1 x2 : D) (p q : Prop) : OI (!decide ((((x0 :: x1 :: x2 :: [] : List D).length : Nat) : Int) = 0)) p q = p := oi_t (by simp)
theorem ln_3_1 (x0 x1 x2 : D) (p q : Prop) : OI (decide ((((x0 :: x1 :: x2 :: [] : List D).length : Nat) : Int) = 1)) p q = q := oi_f (by simp)
theorem nl_3_1 (x0 x1 x2 : D) (p q : Prop) : OI (!decide ((((x0 :: x1 :: x2 :: [] : List D).length : Nat) : Int) = 1)) p q = p := oi_t (by simp)
theorem ln_3_2 (x0 x1 x2 : D) (p q : Prop) : OI (decide ((((x0 :: x1 :: x2 :: [] : List D).length : Nat) : Int) = 2)) p q = q := oi_f (by simp)
theorem nl_3_2 (x0 x1 x2 : D) (p q : Prop) : OI (!decide ((((x0 :: x1 :: x2 :: [] : List D).length : Nat) : Int) = 2)) p q = p := oi_t (by simp)
theorem ln_3_3 (x0 x1 x2 : D) (p q : Prop) : OI (decide ((((x0 :: x1 :: x2 :: [] : List D).length : Nat) : Int) = 3)) p q = p := oi_t (by simp)
theorem nl_3_3 (x0 x1 x2 : D) (p q : Prop) : OI (!decide ((((x0 :: x1 :: x2 :: [] : List D).length : Nat) : Int) = 3)) p q = q := oi_f (by simp)
theorem n23_3 (x0 x1 x2 : D) (p q : Prop) : OI (!inD (.int (((x0 :: x1 :: x2 :: [] : List D).length : Nat) : Int)) [.int 2, .int 3]) p q = q := oi_f (by simp [inD, eqv_int])
theorem ln_4_0 (x0 x1 x2 x3 : D) (r : List D) (p q : Prop) : OI (decide ((((x0 :: x1 :: x2 :: x3 :: r : List D).length : Nat) : Int) = 0)) p q = q := oi_f (by simp <;> omega)
theorem nl_4_0 (x0 x1 x2 x3 : D) (r : List D) (p q : Prop) : OI (!decide ((((x0 :: x1 :: x2 :: x3 :: r : List D).length : Nat) : Int) = 0)) p q = p := oi_t (by simp <;> omega)
theorem ln_4_1 (x0 x1 x2 x3 : D) (r : List D) (p q : Prop) : OI (decide ((((x0 :: x1 :: x2 :: x3 :: r : List D).length : Nat) : Int) = 1)) p q = q := oi_f (by simp <;> omega)
theorem nl_4_1 (x0 x1 x2 x3 : D) (r : List D) (p q : Prop) : OI (!decide ((((x0 :: x1 :: x2 :: x3 :: r : List D).length : Nat) : Int) = 1)) p q = p := oi_t (by simp <;> omega)
theorem ln_4_2 (x0 x1 x2 x3 : D) (r : List D) (p q : Prop) : OI (decide ((((x0 :: x1 :: x2 :: x3 :: r : List D).length : Nat) : Int) = 2)) p q = q := oi_f (by simp <;> omega)
theorem nl_4_2 (x0 x1 x2 x3 : D) (r : List D) (p q : Prop) : OI (!decide ((((x0 :: x1 :: x2 :: x3 :: r : List D).length : Nat) : Int) = 2)) p q = p := oi_t (by simp <;> omega)
theorem ln_4_3 (x0 x1 x2 x3 : D) (r : List D) (p q : Prop) : OI (decide ((((x0 :: x1 :: x2 :: x3 :: r : List D).length : Nat) : Int) = 3)) p q = q := oi_f (by simp <;> omega)
theorem nl_4_3 (x0 x1 x2 x3 : D) (r : List D) (p q : Prop) : OI (!decide ((((x0 :: x1 :: x2 :: x3 :: r : List D).length : Nat) : Int) = 3)) p q = p := oi_t (by simp <;> omega)
theorem n23_4 (x0 x1 x2 x3 : D) (r : List D) (p q : Prop) : OI (!inD (.int (((x0 :: x1 :: x2 :: x3 :: r : List D).length : Nat) : Int)) [.int 2, .int 3]) p q = p := oi_t (by simp [inD, eqv_int] <;> omega)
theorem lit_0_0 (p q : Prop) : OI (decide ((0 : Int) = 0)) p q = p := oi_t (by decide)
theorem lit_0_1 (p q : Prop) : OI (decide ((0 : Int) = 1)) p q = q := oi_f (by decide)
theorem lit_0_2 (p q : Prop) : OI (decide ((0 : Int) = 2)) p q = q := oi_f (by decide)
theorem lit_0_3 (p q : Prop) : OI (decide ((0 : Int) = 3)) p q = q := oi_f (by decide)
theorem lit_1_0 (p q : Prop) : OI (decide ((1 : Int) = 0)) p q = q := oi_f (by decide)
theorem lit_1_1 (p q : Prop) : OI (decide ((1 : Int) = 1)) p q = p := oi_t (by decide)
theorem lit_1_2 (p q : Prop) : OI (decide ((1 : Int) = 2)) p q = q := oi_f (by decide)
theorem lit_1_3 (p q : Prop) : OI (decide ((1 : Int) = 3)) p q = q := oi_f (by decide)
theorem lit_2_0 (p q : Prop) : OI (decide ((2 : Int) = 0)) p q = q := oi_f (by decide)
theorem lit_2_1 (p q : Prop) : OI (decide ((2 : Int) = 1)) p q = q := oi_f (by decide)
theorem lit_2_2 (p q : Prop) : OI (decide ((2 : Int) = 2)) p q = p := oi_t (by decide)
theorem lit_2_3 (p q : Prop) : OI (decide ((2 : Int) = 3)) p q = q := oi_f (by decide)
theorem lit_3_0 (p q : Prop) : OI (decide ((3 : Int) = 0)) p q = q := oi_f (by decide)
theorem lit_3_1 (p q : Prop) : OI (decide ((3 : Int) = 1)) p q = q := oi_f (by decide)
theorem lit_3_2 (p q : Prop) : OI (decide ((3 : Int) = 2)) p q = q := oi_f (by decide)
theorem lit_3_3 (p q : Prop) : OI (decide ((3 : Int) = 3)) p q = p := oi_t (by decide)
theorem e_chain (F : Nat → Option Fn) (cl : Nat → List D → FRes) (o o2 : Op2) (a b c : E) (ρ : Ro) (k : W × Ro → Prop) : Ok (EV.ev F cl (.chain o o2 a b c) ρ) k = Ok (opdOf (EV.ev F cl a) a ρ) fun p => Ok (opdOf (EV.ev F cl b) b p.2) fun q => OR q.2 p.1 fun d => OR q.2 q.1 fun e => OM (op2 o d e) fun w => OW w fun x => OB x fun t => OI t (Ok (opdOf (EV.ev F cl c) c q.2) fun r => OR r.2 q.1 fun e => OR r.2 r.1 fun g => OM (op2 o2 e g) fun w => k (w, r.2)) (k (.dat (.bool false), q.2)) := e_chain0 F cl o o2 a b c ρ k
theorem s_raiseN (F : Nat → Option Fn) (cl : Nat → List D → FRes) (c : Nat) (r : Ss) (ρ : Ro) (k : EV.Flow × Ro → Prop) : Ok (EV.execs F cl (.cons (.raise c .no) r) ρ) k = Xp.X ⟨c, none⟩ ρ := s_raiseN0 F cl c r ρ k
theorem s_raiseY (F : Nat → Option Fn) (cl : Nat → List D → FRes) (c : Nat) (e : E) (r : Ss) (ρ : Ro) (k : EV.Flow × Ro → Prop) : Ok (EV.execs F cl (.cons (.raise c (.yes e)) r) ρ) k = Ok (EV.ev F cl e ρ) fun p => OW p.1 fun d => Xp.X ⟨c, some d⟩ p.2 := s_raiseY0 F cl c e r ρ k
theorem s_try (F : Nat → Option Fn) (cl : Nat → List D → FRes) (b : Ss) (hs : List Hd) (r : Ss) (ρ : Ro) (k : EV.Flow × Ro → Prop) : Ok (EV.execs F cl (.cons (.try_ b hs) r) ρ) k = @Ok _ (XT F cl hs r k) (EV.execs F cl b ρ) (KN F cl r k) := s_try0 F cl b hs r ρ k
theorem s_while (F : Nat → Option Fn) (cl : Nat → List D → FRes) (n : Nat) (c : E) (b r : Ss) (ρ : Ro) (k : EV.Flow × Ro → Prop) : Ok (EV.execs F cl (.cons (.while_ n c b) r) ρ) k = Ok (whileL (testOf (EV.ev F cl c)) (EV.execs F cl b) n ρ) (KN F cl r k) := s_while0 F cl n c b r ρ k
theorem x_mk (X : Exn → Ro → Prop) (x : Exn) (ρ : Ro) : @Xp.X ⟨X⟩ x ρ = X x ρ := (rfl)
theorem x_nil (x : Exn) (ρ : Ro) (k : EV.Flow × Ro → Prop) : Ok (catchX x ρ []) k = Xp.X x ρ := (rfl)
theorem x_cons (c c2 i t : Nat) (f : Option D) (its : List Hi) (hs : List Hd) (ρ : Ro) (k : EV.Flow × Ro → Prop) : Ok (catchX ⟨c, f⟩ ρ (⟨c2, i, t, its⟩ :: hs)) k = OI (c2 == c) (OM (ρ[i]?) fun _ => OM (hItems ⟨c, f⟩ its) fun ds => OS (ρ.set i none) t (.new ds) fun ρ2 => k (.next, ρ2)) (Ok (catchX ⟨c, f⟩ ρ hs) k) := catch_cons0 c c2 i t f its hs ρ k
end EV

end
section
set_option linter.all false
set_option maxRecDepth 100000
set_option Elab.async false
/-! EV: general lemmas of walks -/
namespace EV
open PySem
def Bx (m : Nat) (b : List D) : Prop := ∃ a c n : Int, b = [.int a, .int c, .int n] ∧ 0 ≤ c ∧ c < 2 ^ 62 ∧ 0 ≤ n ∧ n ≤ m
theorem Bx.mono {m m' : Nat} {b : List D} (h : Bx m b) (hm : m ≤ m') : Bx m' b := by
  obtain ⟨a, c, n, h1, h2, h3, h4, h5⟩ := h
  exact ⟨a, c, n, h1, h2, h3, h4, by omega⟩
theorem om_atI (cs : List Int) (k : Nat) (hk : k < cs.length) (K : D → Prop) : OM (atD (cs.map .int) k) K = K (.int (cs[k])) := by
  refine atD_k _ k _ K ?_ (by simpa using hk)
  simp [hk]
theorem small_b2i (b : Bool) : small64 (b2i b) = true := by cases b <;> decide
theorem wipe_nil (ρ : Ro) : wipeR ρ [] = ρ := rfl
mutual
def tupD : D → D
  | .list xs => .tuple (tupDs xs)
  | .tuple xs => .tuple (tupDs xs)
  | d => d
def tupDs : List D → List D
  | [] => []
  | x :: xs => tupD x :: tupDs xs
end
mutual
def lisD : D → D
  | .list xs => .list (lisDs xs)
  | .tuple xs => .list (lisDs xs)
  | d => d
def lisDs : List D → List D
  | [] => []
  | x :: xs => lisD x :: lisDs xs
end
theorem tupDs_map : ∀ xs : List D, tupDs xs = xs.map tupD
  | [] => rfl
  | x :: xs => by rw [tupDs, tupDs_map xs]; rfl
theorem lisDs_map : ∀ xs : List D, lisDs xs = xs.map lisD
  | [] => rfl
  | x :: xs => by rw [lisDs, lisDs_map xs]; rfl
theorem depth_mem {x : D} : ∀ {xs : List D}, x ∈ xs → x.depth ≤ PyData.depthAll xs
  | y :: ys, h => by
    rw [PyData.depthAll]
    rcases List.mem_cons.mp h with q | q
    · subst q; omega
    · have := depth_mem q; omega
theorem fm_some {α β : Type} (f : α → β) : ∀ xs : List α, xs.filterMap (fun x => some (f x)) = xs.map f
  | [] => rfl
  | x :: xs => by simp [fm_some f xs]
theorem lay_mem {x : D} : ∀ {xs : List D}, PyData.canLayAll0 xs = true → x ∈ xs → x.canLay0 = true
  | y :: ys, h, m => by
    rw [PyData.canLayAll0, Bool.and_eq_true] at h
    rcases List.mem_cons.mp m with q | q
    · subst q; exact h.1
    · exact lay_mem h.2 q
theorem lay_tup {xs : List D} (h : (PyData.tuple xs).canLay0 = true) : ∀ x ∈ xs, x.canLay0 = true := by
  rw [PyData.canLay0] at h
  exact fun x hx => lay_mem h hx
theorem lay_str {s : Str} (h : (PyData.str s).canLay0 = true) : PyData.strOk s = true := by
  rw [PyData.canLay0] at h
  exact h
theorem comp_map {α : Type} {bnd : D → Ro → Option Ro} {test : Ro → Res (Bool × Ro)} {elt : Ro → Res (D × Ro)} {is : List Nat} {k : List D × Ro → Prop} (φ : α → D) (ρ0 : Ro) (g : α → Option D) : ∀ (ys : List α) (acc : List D),
    (∀ y ∈ ys, OM (bnd (φ y) ρ0) fun ρ1 => Ok (test ρ1) fun p => OI p.1 (Ok (elt p.2) fun q => wipeR q.2 is = ρ0 ∧ g y = some q.1) (wipeR p.2 is = ρ0 ∧ g y = none)) → k (acc ++ ys.filterMap g, ρ0) → Ok (compL bnd test elt is (ys.map φ) ρ0 acc) k
  | [], acc, _, hk => by rw [List.filterMap_nil, List.append_nil] at hk; exact hk
  | y :: ys, acc, hs, hk => by
    have q := hs y List.mem_cons_self
    have tl := fun acc' hk' => comp_map (bnd := bnd) (test := test) (elt := elt) (is := is) (k := k) φ ρ0 g ys acc' (fun z hz => hs z (List.mem_cons_of_mem _ hz)) hk'
    show Ok ((Res.of (bnd (φ y) ρ0)).bind _) k
    rw [ok_bind, ok_ofM0]
    cases hb : bnd (φ y) ρ0 with
    | none => rw [hb] at q; exact q
    | some ρ1 =>
      rw [hb] at q
      show Ok ((noExc (test ρ1)).bind _) k
      rw [ok_bind, ok_noExc]
      refine Ok.mono q fun p hp => ?_
      rw [ok_if]
      refine ⟨fun e => ?_, fun e => ?_⟩
      · rw [ok_bind, ok_noExc]
        refine Ok.mono (hp.1 e) fun q hq => ?_
        rw [hq.1]
        refine tl _ ?_
        rw [List.filterMap_cons, hq.2] at hk
        simpa using hk
      · rw [(hp.2 e).1]
        refine tl _ ?_
        rw [List.filterMap_cons, (hp.2 e).2] at hk
        exact hk
theorem bools_map {α : Type} (f : α → Bool) : ∀ xs : List α, bools (xs.map fun x => .bool (f x)) = some (xs.map f)
  | [] => rfl
  | x :: xs => by
    show (bools (xs.map fun x => .bool (f x))).map _ = _
    rw [bools_map f xs]; rfl
theorem om_all {α : Type} (f : α → Bool) (xs : List α) (k : W → Prop) : OM (EV.bi .all [.list (xs.map fun x => .bool (f x))]) k = k (.dat (.bool (xs.all f))) := by
  show OM ((bools _).map _) k = _
  rw [bools_map]
  show k (.dat (.bool ((xs.map f).all id))) = _
  rw [List.all_map]; rfl
theorem intL_map : ∀ ns : List Int, intL (ns.map .int) = some ns
  | [] => rfl
  | n :: ns => by
    show (intL (ns.map .int)).map _ = _
    rw [intL_map ns]; rfl
theorem inD_int (k : Int) (ns : List Int) : inD (.int k) (ns.map .int) = ns.contains k := by
  unfold inD
  rw [List.any_map]
  induction ns with
  | nil => rfl
  | cons n ns ih =>
    rw [List.any_cons, List.contains_cons, ih]
    congr 1
    show PyData.eqv (.int n) (.int k) = _
    rw [eqv_int]
    by_cases h : n = k
    · simp [h]
    · simp [h, Ne.symm h]
theorem layAll_ints : ∀ ns : List Int, PyData.canLayAll0 (ns.map .int) = true
  | [] => by simp [PyData.canLayAll0]
  | n :: ns => by
    rw [List.map_cons, PyData.canLayAll0, layAll_ints ns, PyData.canLay0]; rfl
theorem shaped_int (i : Int) : SeqAt.shaped (.int i) = true := rfl
theorem shaped_ints (ns : List Int) : SeqAt.shaped (.list (ns.map .int)) = true ∧ SeqAt.shaped (.tuple (ns.map .int)) = true := by
  unfold SeqAt.shaped
  rw [PyData.canLay0, PyData.canLay0, PyData.depth, PyData.depth, layAll_ints, PySem.W.depth_ints]
  exact ⟨rfl, rfl⟩
theorem sortOk_ints (ns : List Int) : sortOk (ns.map .int) = true := by
  simp only [sortOk, allAlike, depthOk, Bool.and_eq_true, List.all_eq_true, decide_eq_true_eq]
  refine ⟨⟨fun x hx y hy => ?_, fun x hx => ?_⟩, fun x hx => ?_⟩
  · obtain ⟨i, _, rfl⟩ := List.mem_map.mp hx
    obtain ⟨j, _, rfl⟩ := List.mem_map.mp hy
    rfl
  · obtain ⟨i, _, rfl⟩ := List.mem_map.mp hx
    show PyData.depth (.int i) ≤ 64
    simp [PyData.depth]
  · obtain ⟨i, _, rfl⟩ := List.mem_map.mp hx
    rfl
theorem mapped {α : Type} (φ : α → D) : ∀ {xs : List D}, (∀ x ∈ xs, ∃ a, x = φ a) → ∃ as : List α, xs = as.map φ
  | [], _ => ⟨[], rfl⟩
  | x :: xs, h => by
    obtain ⟨a, rfl⟩ := h x List.mem_cons_self
    obtain ⟨as, rfl⟩ := mapped φ fun y hy => h y (List.mem_cons_of_mem _ hy)
    exact ⟨a :: as, rfl⟩
theorem sortD_ints (ns : List Int) : ∃ ms : List Int, sortD (ns.map .int) = ms.map .int ∧ ms.Perm ns := by
  obtain ⟨ms, e⟩ := mapped (fun i : Int => (PyData.int i : D)) (xs := sortD (ns.map .int)) fun x hx => by
    obtain ⟨i, _, rfl⟩ := List.mem_map.mp ((sortD_perm _).mem_iff.mp hx)
    exact ⟨i, rfl⟩
  refine ⟨ms, e, ?_⟩
  have p := sortD_perm (ns.map .int)
  rw [e] at p
  have q := p.map (fun d => match d with | .int i => i | _ => 0)
  simpa [List.map_map, Function.comp_def] using q
theorem cut_to (xs : List D) (k : Nat) : cutD xs none (some (k : Int)) = xs.take k := by
  unfold cutD sIx
  dsimp only
  rw [if_neg (by omega)]
  simp only [List.drop_zero, Nat.sub_zero, Int.toNat_natCast]
  rcases Nat.le_total k xs.length with h | h
  · rw [Nat.min_eq_left h]
  · rw [Nat.min_eq_right h, List.take_length, List.take_of_length_le h]
theorem cut_from (xs : List D) (k : Nat) : cutD xs (some (k : Int)) none = xs.drop k := by
  unfold cutD sIx
  dsimp only
  rw [if_neg (by omega)]
  simp only [Int.toNat_natCast]
  rcases Nat.le_total k xs.length with h | h
  · rw [Nat.min_eq_left h, List.take_of_length_le (by simp)]
  · rw [Nat.min_eq_right h, List.drop_length, List.drop_of_length_le h]; simp
theorem cut_map (xs : List Int) (a b : Option Int) : cutD (xs.map .int) a b = ((xs.drop (sIx xs.length 0 a)).take (sIx xs.length xs.length b - sIx xs.length 0 a)).map .int := by
  unfold cutD
  rw [List.length_map, ← List.map_drop, ← List.map_take]
theorem eqv_nil (xs : List D) : PyData.eqv (.list xs) (.list []) = xs.isEmpty := by
  rw [PyData.eqv]
  cases xs <;> rw [PyData.eqvAll] <;> rfl
theorem filt {α β : Type} (p : α → Bool) (f : α → β) : ∀ xs : List α, xs.filterMap (fun x => if p x = true then some (f x) else none) = (xs.filter p).map f
  | [] => rfl
  | x :: xs => by
    rw [List.filterMap_cons, List.filter_cons, filt p f xs]
    cases p x <;> rfl
theorem inD_str (k : Str) (ns : List Str) : inD (.str k) (ns.map .str) = ns.contains k := by
  unfold inD
  rw [List.any_map]
  induction ns with
  | nil => rfl
  | cons n ns ih =>
    rw [List.any_cons, List.contains_cons, ih]
    congr 1
    show PyData.eqv (.str n) (.str k) = _
    rw [eqv_str]
    by_cases h : n = k
    · simp [h]
    · simp [h, Ne.symm h]
def StrsOk (o : List Str) : Prop := ∀ s ∈ o, PyData.strOk s = true
theorem layAll_strs : ∀ {o : List Str}, StrsOk o → PyData.canLayAll0 (o.map .str) = true
  | [], _ => by simp [PyData.canLayAll0]
  | n :: ns, h => by
    rw [List.map_cons, PyData.canLayAll0, layAll_strs (fun s hs => h s (List.mem_cons_of_mem _ hs)), PyData.canLay0, h n List.mem_cons_self]; rfl
theorem depth_strs : ∀ o : List Str, PyData.depthAll (o.map .str) = 0
  | [] => by simp [PyData.depthAll]
  | n :: ns => by rw [List.map_cons, PyData.depthAll, depth_strs ns, PyData.depth]; rfl
theorem shaped_strs {o : List Str} (h : StrsOk o) : SeqAt.shaped (.list (o.map .str)) = true ∧ SeqAt.shaped (.tuple (o.map .str)) = true := by
  unfold SeqAt.shaped
  rw [PyData.canLay0, PyData.canLay0, PyData.depth, PyData.depth, layAll_strs h, depth_strs]
  exact ⟨rfl, rfl⟩
theorem at_z {xs : List D} {x : D} {r : List D} (e : xs = x :: r) (k : D → Prop) : OM (atD xs 0) k = k x := by
  subst e; exact d_at0 x r k
theorem at_nat {B : List D} {k : Int} (h0 : 0 ≤ k) (h1 : k < B.length) (K : D → Prop) : OM (atD B k) K = K (B.getD k.toNat .none) := by
  obtain ⟨n, rfl⟩ := Int.eq_ofNat_of_zero_le h0
  have h2 : n < B.length := by omega
  refine atD_k B n _ K ?_ h2
  rw [List.getD_eq_getElem?_getD, Int.toNat_natCast, List.getElem?_eq_getElem h2]; rfl
theorem layAll_of : ∀ {xs : List D}, (∀ x ∈ xs, x.canLay0 = true) → PyData.canLayAll0 xs = true
  | [], _ => by simp [PyData.canLayAll0]
  | x :: xs, h => by
    rw [PyData.canLayAll0, h x List.mem_cons_self, layAll_of fun y hy => h y (List.mem_cons_of_mem _ hy)]; rfl
theorem depthAll_of {n : Nat} : ∀ {xs : List D}, (∀ x ∈ xs, x.depth ≤ n) → PyData.depthAll xs ≤ n
  | [], _ => by simp [PyData.depthAll]
  | x :: xs, h => by
    rw [PyData.depthAll]
    have h1 := h x List.mem_cons_self
    have h2 := depthAll_of (n := n) fun y hy => h y (List.mem_cons_of_mem _ hy)
    omega
theorem shaped_of {xs : List D} (h1 : ∀ x ∈ xs, x.canLay0 = true) (h2 : ∀ x ∈ xs, x.depth ≤ 63) : SeqAt.shaped (.list xs) = true := by
  unfold SeqAt.shaped
  have := depthAll_of h2
  rw [PyData.canLay0, layAll_of h1, PyData.depth]
  simp; omega
theorem eqvAll_ints : ∀ a b : List Int, PyData.eqvAll (a.map .int) (b.map .int) = decide (a = b)
  | [], [] => by simp [PyData.eqvAll]
  | [], b :: bs => by simp [PyData.eqvAll]
  | a :: as, [] => by simp [PyData.eqvAll]
  | a :: as, b :: bs => by
    rw [List.map_cons, List.map_cons, PyData.eqvAll, eqv_int, eqvAll_ints as bs]
    by_cases h : a = b <;> by_cases h2 : as = bs <;> simp [h, h2]
theorem eqv_ints (a b : List Int) : PyData.eqv (.list (a.map .int)) (.list (b.map .int)) = decide (a = b) := by
  rw [PyData.eqv, eqvAll_ints]
theorem rise_ints (ns : List Int) : Rise (ns.map .int) ↔ ns.Pairwise (· < ·) := by
  unfold Rise
  rw [List.pairwise_map]
  constructor <;> intro h <;> refine h.imp fun {a b} q => ?_
  · rw [PySem.W.dataLt_int] at q; exact of_decide_eq_true q
  · rw [PySem.W.dataLt_int]; exact decide_eq_true q
theorem uniq_ints (ns : List Int) : ∃ ms : List Int, uniqD (ns.map .int) = ms.map .int ∧ ms.Pairwise (· < ·) ∧ ∀ k, k ∈ ms ↔ k ∈ ns := by
  obtain ⟨ms, e⟩ := mapped (fun i : Int => (PyData.int i : D)) (xs := uniqD (ns.map .int)) fun x hx => by
    obtain ⟨i, _, rfl⟩ := List.mem_map.mp (uniqD_sub _ _ hx)
    exact ⟨i, rfl⟩
  refine ⟨ms, e, ?_, fun k => ?_⟩
  · have r := uniqD_rise (ns.map .int)
    rw [e] at r
    exact (rise_ints ms).mp r
  · have m := uniqD_mem (tot_ints ns) (.int k)
    rw [e] at m
    simpa using m
theorem zip_self (xs : List D) : zipD xs xs = xs.map fun x => .tuple [x, x] := by
  unfold zipD
  induction xs with
  | nil => rfl
  | cons x xs ih => rw [List.zip_cons_cons, List.map_cons, List.map_cons, ih]
theorem ixN_at {n : Nat} {k : Int} (h0 : 0 ≤ k) (h1 : k < n) : ixN n k = some k.toNat := by
  unfold ixN
  rw [if_pos h0, if_pos h1]
theorem m_popK (xs : List D) (k : Int) (ρ : Ro) (K : W × Ro → Prop) (h0 : 0 ≤ k) (h1 : k < xs.length) : Ok (methE .popAt 0 [.int k] (some (.own xs) :: ρ)) K = K (.dat (xs.getD k.toNat .none), some (.own (xs.eraseIdx k.toNat)) :: ρ) := by
  show Ok (match ixN xs.length k with | some j => _ | none => _) K = _
  rw [ixN_at h0 h1]
  show Ok (match xs[k.toNat]? with | some d => _ | none => _) K = _
  rw [List.getElem?_eq_getElem (by omega), List.getD_eq_getElem?_getD, List.getElem?_eq_getElem (by omega)]
  rfl
theorem range_len (n : Nat) : (rangeD 0 (n : Int)).length = n := by
  unfold rangeD
  rw [List.length_map, List.length_range]; omega
theorem erase_perm' {α : Type} (xs : List α) (n : Nat) (h : n < xs.length) : (xs[n] :: xs.eraseIdx n).Perm xs := by
  induction xs generalizing n with
  | nil => simp at h
  | cons x xs ih =>
    cases n with
    | zero => exact List.Perm.refl _
    | succ n =>
      simp only [List.getElem_cons_succ, List.eraseIdx_cons_succ]
      exact (List.Perm.swap _ _ _).trans ((ih n (by simpa using h)).cons x)
theorem small62_nat {n : Nat} (h : n < 10000) : small62 (n : Int) = true := by
  unfold small62
  simp only [Bool.and_eq_true, decide_eq_true_eq]
  constructor <;> omega
theorem rng_ok {n : Nat} (h : n < 10000) : (small62 (n : Int) && decide ((n : Int) ≤ sizeLine)) = true := by
  rw [small62_nat h, sizeLine_eq]
  simp; omega
def rowS (l : List Str) : D := .tuple (l.map .str)
theorem alike_strs : ∀ xs ys : List Str, PySem.W.alikeAll (xs.map .str) (ys.map .str) = true
  | [], _ => by simp [PySem.W.alikeAll]
  | x :: xs, [] => by simp [PySem.W.alikeAll]
  | x :: xs, y :: ys => by
    rw [List.map_cons, List.map_cons, PySem.W.alikeAll, alike_strs xs ys, PySem.W.alike]; rfl
theorem sortOk_rowS (L : List (List Str)) : sortOk (L.map rowS) = true := by
  simp only [sortOk, allAlike, depthOk, Bool.and_eq_true, List.all_eq_true, decide_eq_true_eq]
  refine ⟨⟨fun x hx y hy => ?_, fun x hx => ?_⟩, fun x hx => ?_⟩
  · obtain ⟨i, _, rfl⟩ := List.mem_map.mp hx
    obtain ⟨j, _, rfl⟩ := List.mem_map.mp hy
    rw [rowS, rowS, PySem.W.alike]
    exact alike_strs i j
  · obtain ⟨i, _, rfl⟩ := List.mem_map.mp hx
    rw [rowS, PyData.depth, depth_strs]; omega
  · obtain ⟨i, _, rfl⟩ := List.mem_map.mp hx
    rfl
theorem sortOk_strs (L : List Str) : sortOk (L.map .str) = true := by
  simp only [sortOk, allAlike, depthOk, Bool.and_eq_true, List.all_eq_true, decide_eq_true_eq]
  refine ⟨⟨fun x hx y hy => ?_, fun x hx => ?_⟩, fun x hx => ?_⟩
  · obtain ⟨i, _, rfl⟩ := List.mem_map.mp hx
    obtain ⟨j, _, rfl⟩ := List.mem_map.mp hy
    rfl
  · obtain ⟨i, _, rfl⟩ := List.mem_map.mp hx
    rw [PyData.depth]; omega
  · obtain ⟨i, _, rfl⟩ := List.mem_map.mp hx
    rfl
theorem sortD_of {α : Type} (φ : α → D) (L : List α) : ∃ L2 : List α, sortD (L.map φ) = L2.map φ ∧ ∀ a ∈ L2, ∃ b ∈ L, φ a = φ b := by
  obtain ⟨L2, e⟩ := mapped φ (xs := sortD (L.map φ)) fun x hx => by
    obtain ⟨i, _, rfl⟩ := List.mem_map.mp ((sortD_perm _).mem_iff.mp hx)
    exact ⟨i, rfl⟩
  refine ⟨L2, e, fun a ha => ?_⟩
  have h : φ a ∈ sortD (L.map φ) := by rw [e]; exact List.mem_map.mpr ⟨a, ha, rfl⟩
  obtain ⟨b, hb, q⟩ := List.mem_map.mp ((sortD_perm _).mem_iff.mp h)
  exact ⟨b, hb, q.symm⟩
def Nd (v : Option Sv) : Prop := v = none ∨ ∃ d, v = some (.dat d)
def Fr (v : Option Sv) : Prop := v = none ∨ (∃ d, v = some (.dat d)) ∨ ∃ xs, v = some (.own xs)
theorem os_d {v : Option Sv} (h : Fr v) {ρ : Ro} {d : D} {k : Ro → Prop} (hk : k (some (.dat d) :: ρ)) : OS (v :: ρ) 0 (.dat d) k := by
  rcases h with rfl | ⟨e, rfl⟩ | ⟨e, rfl⟩ <;> exact hk
theorem os_n {v : Option Sv} (h : Fr v) {ρ : Ro} {d : List D} {k : Ro → Prop} (hk : k (some (.own d) :: ρ)) : OS (v :: ρ) 0 (.new d) k := by
  rcases h with rfl | ⟨e, rfl⟩ | ⟨e, rfl⟩ <;> exact hk
theorem Fr.d (d : D) : Fr (some (.dat d)) := .inr (.inl ⟨d, rfl⟩)
theorem Fr.o (d : List D) : Fr (some (.own d)) := .inr (.inr ⟨d, rfl⟩)
theorem Fr.n : Fr none := .inl rfl
theorem cp_cons {bnd : D → Ro → Option Ro} {test : Ro → Res (Bool × Ro)} {elt : Ro → Res (D × Ro)} {is : List Nat} {k : List D × Ro → Prop} (x : D) (xs : List D) (ρ : Ro) (acc : List D) : Ok (compL bnd test elt is (x :: xs) ρ acc) k =
    OM (bnd x ρ) fun ρ1 => Ok (test ρ1) fun p => OI p.1 (Ok (elt p.2) fun q => Ok (compL bnd test elt is xs (wipeR q.2 is) (acc ++ [q.1])) k) (Ok (compL bnd test elt is xs (wipeR p.2 is) acc) k) := by
  show Ok ((Res.of (bnd x ρ)).bind _) k = _
  rw [ok_bind, ok_ofM0]
  congr 1; funext ρ1
  rw [ok_bind, ok_noExc]
  congr 1; funext p
  rw [ok_if, ok_bind, ok_noExc]
theorem cp_nil {bnd : D → Ro → Option Ro} {test : Ro → Res (Bool × Ro)} {elt : Ro → Res (D × Ro)} {is : List Nat} {k : List D × Ro → Prop} (ρ : Ro) (acc : List D) : Ok (compL bnd test elt is [] ρ acc) k = k (acc, ρ) := rfl
theorem chars_map (x : Str) : chars x = (x.cps.toList.map fun c => (⟨#[c]⟩ : Str)).map .str := by
  unfold chars
  rw [List.map_map]; rfl
theorem sortD_strs (ns : List Str) : ∃ ms : List Str, sortD (ns.map .str) = ms.map .str ∧ ms.Perm ns := by
  obtain ⟨ms, e⟩ := mapped (fun i : Str => (PyData.str i : D)) (xs := sortD (ns.map .str)) fun x hx => by
    obtain ⟨i, _, rfl⟩ := List.mem_map.mp ((sortD_perm _).mem_iff.mp hx)
    exact ⟨i, rfl⟩
  refine ⟨ms, e, ?_⟩
  have p := sortD_perm (ns.map .str)
  rw [e] at p
  have q := p.map (fun d => match d with | .str i => i | _ => Str.empty)
  simpa [List.map_map, Function.comp_def] using q
theorem lay_rowS {l : List Str} (h : StrsOk l) : (rowS l).canLay0 = true := by
  rw [rowS, PyData.canLay0]; exact layAll_strs h
theorem depth_rowS (l : List Str) : (rowS l).depth = 1 := by
  rw [rowS, PyData.depth, depth_strs]
theorem rowS_inj {a b : List Str} (h : rowS a = rowS b) : a = b := by
  unfold rowS at h
  injection h with h
  exact (List.map_inj_right (fun _ _ q => by cases q; rfl)).mp h
theorem lfs_strs : ∀ l : List Str, lfs (l.map .str) = true
  | [] => by simp [lfs]
  | s :: l => by rw [List.map_cons, lfs, lfs_strs l, lf]; rfl
theorem lf_rowS (l : List Str) : lf (rowS l) = true := by
  rw [rowS, lf]; exact lfs_strs l
theorem lfs_bx {m : Nat} {b : List D} (h : Bx m b) : lfs b = true := by
  obtain ⟨a, c, n, rfl, _⟩ := h
  simp [lfs, lf]
theorem om_seqR (o : List Str) (k : List D → Prop) : OM (seqD (rowS o)) k = k (o.map .str) := (rfl)
theorem om_lenR (o : List Str) (k : W → Prop) : OM (EV.bi .len [rowS o]) k = k (.dat (.int o.length)) := by
  show k (.dat (.int (o.map PyData.str).length)) = _
  rw [List.length_map]
def dn : Nat → List D
  | 0 => []
  | q + 1 => .int q :: dn q
theorem down_dn {n : Nat} (h : n ≤ 3) : downD ((n : Int) - 1) (-1) = dn n := by
  match n, h with
  | 0, _ => rfl
  | 1, _ => rfl
  | 2, _ => rfl
  | 3, _ => rfl
theorem cut_mem {x : D} {xs : List D} {a b : Option Int} (h : x ∈ cutD xs a b) : x ∈ xs := by
  unfold cutD at h
  exact List.mem_of_mem_drop (List.mem_of_mem_take h)
theorem cut_len (xs : List D) (a b : Option Int) : (cutD xs a b).length ≤ xs.length := by
  unfold cutD
  rw [List.length_take, List.length_drop]; omega
theorem listL_map : ∀ ls : List (List D), listL (ls.map .list) = some ls
  | [] => rfl
  | l :: ls => by
    show (listL (ls.map .list)).map _ = _
    rw [listL_map ls]; rfl
theorem om_sumL (ls : List (List D)) (k : W → Prop) : OM (EV.bi .sumL [.list (ls.map .list)]) k = (ls.flatten.length ≤ sizeLine ∧ k (.new ls.flatten)) := by
  show OM ((listL _).bind _) k = _
  rw [listL_map]
  exact om_ite _ _
theorem range_ints (a b : Int) : rangeD a b = ((List.range (b - a).toNat).map fun i : Nat => a + (i : Int)).map .int := by
  unfold rangeD
  rw [List.map_map]; rfl
theorem range_up (a : Int) (n : Nat) : ((List.range n).map fun i : Nat => a + (i : Int)).Pairwise (· < ·) := by
  rw [List.pairwise_map]
  refine List.pairwise_lt_range.imp fun {i j} h => ?_
  omega
def FLk (bnd : D → Ro → Option Ro) (body : Ro → Res (EV.Flow × Ro)) (xs : List D) (k : EV.Flow × Ro → Prop) : EV.Flow × Ro → Prop
  | (.next, ρ) => Ok (forL bnd body xs ρ) k
  | (.cont, ρ) => Ok (forL bnd body xs ρ) k
  | (.brk, ρ) => k (.next, ρ)
  | (.ret w, ρ) => k (.ret w, ρ)
theorem fl_cons (bnd : D → Ro → Option Ro) (body : Ro → Res (EV.Flow × Ro)) (x : D) (xs : List D) (ρ : Ro) (k : EV.Flow × Ro → Prop) : Ok (forL bnd body (x :: xs) ρ) k = OM (bnd x ρ) fun ρ1 => Ok (body ρ1) (FLk bnd body xs k) := by
  show Ok ((Res.of (bnd x ρ)).bind _) k = _
  rw [ok_bind, ok_ofM0]
  congr 1; funext ρ1
  rw [ok_bind]
  congr 1; funext p
  obtain ⟨f, ρ2⟩ := p
  cases f <;> rfl
theorem fl_nil (bnd : D → Ro → Option Ro) (body : Ro → Res (EV.Flow × Ro)) (ρ : Ro) (k : EV.Flow × Ro → Prop) : Ok (forL bnd body [] ρ) k = k (.next, ρ) := (rfl)
theorem flk_next (bnd : D → Ro → Option Ro) (body : Ro → Res (EV.Flow × Ro)) (xs : List D) (ρ : Ro) (k : EV.Flow × Ro → Prop) : FLk bnd body xs k (.next, ρ) = Ok (forL bnd body xs ρ) k := (rfl)
theorem cut1 (x : D) (xs : List D) : cutD (x :: xs) (some 1) none = xs := by
  rw [show (1 : Int) = ((1 : Nat) : Int) from rfl, cut_from]; rfl
theorem e_comp2' (F : Nat → Option Fn) (cl : Nat → List D → FRes) (t : Tg) (it : It) (c : Eo) (t' : Tg) (it' : It) (c' : Eo) (e : E) (ρ : Ro) (k : W × Ro → Prop) : Ok (EV.ev F cl (.comp2 t it c t' it' c' e) ρ) k =
    Ok (EV.evIt F cl it ρ) fun p => Ok (compL2 (bindT t) (EV.evC F cl c) (fun ρ1 acc => (EV.evIt F cl it' ρ1).bind fun q => compL (bindT t') (EV.evC F cl c') (datOf (EV.ev F cl e)) t'.slots q.1 (wipeR q.2 t'.slots) acc) (t.slots ++ t'.slots) p.1 (wipeR p.2 (t.slots ++ t'.slots)) []) fun q => (q.1.length ≤ sizeLine ∧ BK p.2 q.2 (t.slots ++ t'.slots) fun r => k (.new q.1, r)) := by
  rw [EV.ev, ok_bind]; congr 1; funext p
  rw [ok_bind]; congr 1; funext q
  exact ok_len _ _ _
theorem c2_cons {bnd : D → Ro → Option Ro} {test : Ro → Res (Bool × Ro)} {inner : Ro → List D → Res (List D × Ro)} {is : List Nat} {k : List D × Ro → Prop} (x : D) (xs : List D) (ρ : Ro) (acc : List D) : Ok (compL2 bnd test inner is (x :: xs) ρ acc) k =
    OM (bnd x ρ) fun ρ1 => Ok (test ρ1) fun p => OI p.1 (Ok (inner p.2 acc) fun q => Ok (compL2 bnd test inner is xs (wipeR q.2 is) q.1) k) (Ok (compL2 bnd test inner is xs (wipeR p.2 is) acc) k) := by
  show Ok ((Res.of (bnd x ρ)).bind _) k = _
  rw [ok_bind, ok_ofM0]
  congr 1; funext ρ1
  rw [ok_bind, ok_noExc]
  congr 1; funext p
  rw [ok_if, ok_bind, ok_noExc]
theorem c2_nil {bnd : D → Ro → Option Ro} {test : Ro → Res (Bool × Ro)} {inner : Ro → List D → Res (List D × Ro)} {is : List Nat} {k : List D × Ro → Prop} (ρ : Ro) (acc : List D) : Ok (compL2 bnd test inner is [] ρ acc) k = k (acc, ρ) := (rfl)
theorem lfs_ints : ∀ l : List Int, lfs (l.map .int) = true
  | [] => by simp [lfs]
  | s :: l => by rw [List.map_cons, lfs, lfs_ints l, lf]; rfl
theorem call_okF {fn : Fn} {cl : List D → FRes} {os : List Opd} {ρ : Ro} {ds : List D} {io : Option Nat} {Q : W → Option (List D) → Prop} {k : W × Ro → Prop} (h1 : rdAll ρ os = some ds) (h2 : ioOf ρ os fn.io = some io) (h3 : notLent io (lentOf ρ os fn.io) = true) (h4 : (lentOf ρ os fn.io).all (isOwnSlot ρ) = true)
    (hc : OkF (cl ds) Q) (h : ∀ w r, Q w r → k (w, putIo ρ io r) ∧ k (w, frzR (lentOf ρ os fn.io) (putIo ρ io r))) : Ok (callE fn cl os ρ) k := by
  unfold callE
  rw [h1, h2]
  dsimp only
  rw [if_pos h3]
  cases hh : cl ds with
  | ok w r =>
    rw [hh] at hc
    dsimp only
    have q := h w r hc
    split
    · exact q.1
    · first | exact q.2 | (rw [if_pos h4]; exact q.2)
  | _ => rw [hh] at hc; exact hc.elim
theorem eqv_nilT (xs : List D) : PyData.eqv (.tuple xs) (.tuple []) = xs.isEmpty := by
  rw [PyData.eqv]
  cases xs <;> rw [PyData.eqvAll] <;> rfl
theorem run_at {F : Nat → Option Fn} {N i : Nat} {ds : List D} {Q : W → Option (List D) → Prop} {fn : Fn} {ρ : Ro} (hf : F i = some fn) (hl : ds.length = fn.np) (hs : start ds fn.io = some ρ)
    (h : Ok (EV.execs F (callN F N) fn.body (ρ ++ List.replicate (fn.ns - fn.np) none)) (Fin fn.io Q)) : OkF (callN F (N + 1) i ds) Q := by
  show OkF (match F i with | none => .stuck | some fn => runFn F (callN F N) fn ds) Q
  rw [hf]
  show OkF (runFn F (callN F N) fn ds) Q
  unfold runFn
  rw [if_pos hl, hs]
  dsimp only
  cases e : EV.execs F (callN F N) fn.body (ρ ++ List.replicate (fn.ns - fn.np) none) with
  | ok p =>
    rw [e] at h
    obtain ⟨f, ρ'⟩ := p
    have key : ∀ w, OE ρ' fn.io (Q w) → OkF (finish fn.io w ρ') Q := fun w h => by
      unfold OE at h
      unfold finish
      cases hh : ioEnd ρ' fn.io with
      | none => rw [hh] at h; exact h.elim
      | some r => rw [hh] at h; exact h
    cases f with
    | next => exact key _ h
    | ret w => exact key _ h
    | _ => exact h.elim
  | _ => rw [e] at h; exact h.elim
/-- the law's answer is True (a box of its own: nothing is to look into the call) -/
inductive Yes (r : FRes) : Prop
  | mk (h : OkF r fun w _ => w = .dat (.bool true)) : Yes r
end EV

end
section
set_option linter.all false
set_option maxRecDepth 100000
set_option Elab.async false
/-! EV: the law's end -/
namespace EV
open PySem L2
theorem kw_of {K : PySem.W.Frag} {x qual : Str} {params : Arguments} {body : List Stmt} {scope : Scope} {f : Addr} {fd : FuncData} {ps ks : List Str} {perm : List Nat} (Fd : FunD K x qual params body scope [] [] f fd)
    (h : ∀ (kV doc pm : Value) (an : Option Addr) (cdv ct : Value) (us : List Value), us.length = ks.length → bindArgs (PySem.W.fnOf x qual params body scope .none kV doc pm an cdv ct) ⟨[], ks.zip us⟩ = pure (ps.zip (perm.filterMap fun i => us[i]?))) : KwOk K fd ps ks perm := by
  obtain ⟨oc, od, dV, kV, doc, pm, an, cdv, ct, osl, rfl, lk, hcd, hD, hK⟩ := Fd.ex
  rcases hD with ⟨_, rfl⟩ | ⟨e, _⟩
  · exact fun s ws _ hl => .of_eq (h kV doc pm an cdv ct ws hl)
  · exact absurd rfl e
/-- no list among the known objects -/
def noL (K : PySem.W.Frag) : Bool := K.all fun p => !(p.2.cls == Value.type "list")
theorem noL_lookup {a : Addr} {o : Obj} : ∀ {K : PySem.W.Frag}, noL K = true → K.lookup a = some o → (o.cls == Value.type "list") = false
  | [], _, e => nomatch e
  | (b, u) :: K, h, e => by
    simp only [noL, List.all_cons, Bool.and_eq_true] at h
    rw [List.lookup_cons] at e
    split at e
    · cases e
      simpa using h.1
    · exact noL_lookup (K := K) h.2 e
/-- the known objects -/
def asX (g : Addr → Option Obj) (n : Nat) : List Addr := cStatics :: He.asD g n
def obX (prog : Program) (n : Nat) (fa : List He.Fa) (fn : List He.DefD) (E : List XC) (g : Addr → Option Obj) : He.AlD × Bool :=
  let K := He.frG g (asX g n)
  (He.obsD fa fn K, noL K && xtB prog K E)
/-- the head's facts, that no list is among them, the exception classes -/
def hookL (prog : Program) (n : Nat) (fa : List He.Fa) (fn : List He.DefD) (E : List XC) : PySem.W.Hook where
  α := He.AlD × Bool
  obs := fun s => obX prog n fa fn E s.heap.get?
  val := fun _ => (He.valD fn, true)
  says := fun _ h => ∃ K : PySem.W.Frag, K.In h ∧ He.SaysD fa fn K ∧ noL K = true ∧ xtB prog K E = true
  of := fun _ _ e => ⟨_, He.frG_in, congrArg Prod.fst e, Bool.and_eq_true_iff.mp (congrArg Prod.snd e)⟩
  keeps := fun _ _ _ ⟨K, hK, c⟩ k => ⟨K, PySem.W.Frag.In.keeps hK k, c⟩
def obL (prog : Program) (n : Nat) (fa : List He.Fa) (fn : List He.DefD) (E : List XC) (s : PySem.W.SharedT) : He.AlD × Bool := obX prog n fa fn E (HandSHeadRun.getT s)
theorem obL_eq {prog : Program} {n : Nat} {fa : List He.Fa} {fn : List He.DefD} {E : List XC} (s : PySem.W.SharedT) : obL prog n fa fn E s = (hookL prog n fa fn E).obs s.abs := by
  have e : HandSHeadRun.getT s = s.abs.heap.get? := funext (HandSHeadRun.getT_eq s)
  unfold obL
  rw [e]; rfl
/-- the law's promise -/
theorem sp_law {R : XR} {K : PySem.W.Frag} {fn : Fn} {call : List D → FRes} {H : Hp} {a : Addr} {ns : List Int} (hio : fn.io = none) (hnp : fn.np = 1) (hK : noL K = true) (hS : SqL K H a (ns.map V.int))
    (h : OkF (call [.list (ns.map .int)]) fun w _ => w = .dat (.bool true)) : spOf R K fn call [.ref a] H (fun v _ => v = .bl true) fun _ _ _ => False := by
  have r : Rd H a (.lst (ns.map V.int)) := by
    rcases hS with r | ⟨o, its, n, e, hc, _⟩
    · exact r
    · have q := noL_lookup hK e
      rw [hc] at q
      exact absurd q (by decide)
  refine ⟨fun _ => False, [.list (ns.map .int)], by rw [hnp]; rfl, ⟨rfl, fun j v d _ h1 h2 => ?_, fun j hj => ?_⟩, fun a z => z.elim, ?_⟩
  · cases j with
    | zero =>
      simp at h1 h2
      subst h1; subst h2
      exact .lst r (fun z => z) (ints_dat ns)
    | succ j => simp at h1
  · rw [hio] at hj; cases hj
  · cases hc : call [.list (ns.map .int)] with
    | ok w r =>
      rw [hc] at h
      have h : w = .dat (.bool true) := h
      subst h
      intro M' H' v _ _ _ hv
      have hv : Dat K M' H' v (.bool true) := hv
      cases hv; rfl
    | exc x r => rw [hc] at h; exact h.elim
    | stuck => rw [hc] at h; exact h.elim
theorem cx_end {P : Program} {w : World} (H : Hp) (s : Shared) (e : Value) (s' : Shared) (h : L2.CX P w [] H s (fun _ _ _ => False) e s') : False := by
  obtain ⟨_, _, _, _, _, _, _, _, _, _, _, _, z⟩ := h
  exact z
/-- the law called: what may fly depends on the world -/
theorem walk_law {l : PySem.W.OpenLaw} {n k : Nat} {q : Program} {loose : List Str} {XP : (Str → Option Value) → Heap → Prop} {YP : World → Heap → Prop} {d : DefRec} {x : Str} (h1 : l.most = some n) (h2 : n ≤ sizeLine) (h3 : d.params.defaults = []) (h4 : Room k callerA)
    (F : ∀ (w : World) (mg : Str → Option Value) (fa : Addr) (h : Heap), YP w h → h.Ns mainGlobals mg → mg d.name = some (.ref fa) → ∃ (K : PySem.W.Frag) (fd : FuncData) (sp : Sp), K.In h ∧ (∀ (s : Shared) (u : Value), BindsTo s fd ⟨[u], []⟩ [(x, u)]) ∧
        (∀ (H : Hp) (a : Addr) (ns : List Int), ns.length ≤ n → SqL K H a (ns.map V.int) → sp [.ref a] H (fun v _ => v = .bl true) fun _ _ _ => False) ∧ ∀ base : Heap, K.In base → base.Ns mainGlobals mg → FnOk l.prog w K mg base (L2.CX l.prog w) k fa fd [x] sp) :
    PySem.W.WalkO q loose XP YP l.row.toRowW d [] (fun f vs => PySem.call f vs) := by
  refine Att.attach_call h1 h3 fun w s0 s1 mg mb fa o pm cd doc a vs ns Gd Yd ho hd hcd hm hob hin hln hgn => ?_
  obtain ⟨K, fd, sp, a1, a2, a3, a4⟩ := F w mg fa _ Yd Gd.T.g hm
  exact law_call a1 Gd.T.g Gd.T.b Gd.T.builtins Gd.T.nolimit hgn hob hin (Nat.le_trans hln h2) h4 a4 a2 (fun H _ z => a3 H a ns hln z) fun H e s2 z => cx_end H s1 e s2 z
end EV

end
section
set_option linter.all false
set_option maxRecDepth 100000
namespace K04
open PySem EV
/- 0 tupled -/
def b0 : Ss := (.cons (.ret (.ite (.isi (.var 0) [.list, .tuple] false) (.bi .tuple (.cons (.comp (.one 1) (.seq (.var 0)) .no (.call 0 (.cons (.var 1) .nil))) .nil)) (.var 0)))
 .nil)
def f0 : Fn := ⟨"tupled", 1, none, 2, b0⟩
/- 1 set_of -/
def b1 : Ss := (.cons (.ret (.bi .tuple (.cons (.bi .sortset (.cons (.var 0) .nil)) .nil)))
 .nil)
def f1 : Fn := ⟨"set_of", 1, none, 1, b1⟩
/- 2 unlike -/
def b2 : Ss := (.cons (.ret (.bi .tuple (.cons (.comp (.one 2) (.seq (.var 0)) (.yes (.op2 .notin (.var 2) (.var 1))) (.var 2)) .nil)))
 .nil)
def f2 : Fn := ⟨"unlike", 2, none, 3, b2⟩
/- 3 columns_of -/
def b3 : Ss := (.cons (.ret (.call 1 (.cons (.comp2 (.one 1) (.seq (.var 0)) .no (.one 2) (.seq (.idx (.var 1) (.cst (.int 0)))) .no (.var 2)) .nil)))
 .nil)
def f3 : Fn := ⟨"columns_of", 1, none, 3, b3⟩
/- 4 home_of -/
def b4 : Ss := (.cons (.ret (.idx (.comp (.many [2, 3]) (.enum (.var 0)) (.yes (.op2 .isin (.var 1) (.idx (.var 3) (.cst (.int 0))))) (.var 2)) (.cst (.int 0))))
 .nil)
def f4 : Fn := ⟨"home_of", 2, none, 4, b4⟩
/- 5 check_columns -/
def b5 : Ss := (.cons (.for_ (.one 2) (.seq (.var 1)) (.cons (.ite (.op2 .notin (.var 2) (.call 3 (.cons (.var 0) .nil))) (.cons (.raise 0 (.yes (.var 2)))
 .nil) .nil)
 .nil))
 .nil)
def f5 : Fn := ⟨"check_columns", 2, none, 3, b5⟩
/- 6 check_sheets -/
def b6 : Ss := (.cons (.for_ (.one 2) (.seq (.var 1)) (.cons (.ite (.not (.chain .le .lt (.cst (.int 0)) (.var 2) (.bi .len (.cons (.var 0) .nil)))) (.cons (.raise 1 (.yes (.var 2)))
 .nil) .nil)
 .nil))
 .nil)
def f6 : Fn := ⟨"check_sheets", 2, none, 3, b6⟩
/- 7 sheet_of -/
def b7 : Ss := (.cons (.expr (.call 5 (.cons (.var 0) (.cons (.lst (.cons (.var 1) .nil)) .nil))))
 (.cons (.ret (.call 4 (.cons (.var 0) (.cons (.var 1) .nil))))
 .nil))
def f7 : Fn := ⟨"sheet_of", 2, none, 2, b7⟩
/- 8 check_key -/
def b8 : Ss := (.cons (.expr (.call 6 (.cons (.var 0) (.cons (.lst (.cons (.var 1) .nil)) .nil))))
 (.cons (.expr (.call 5 (.cons (.var 0) (.cons (.var 2) .nil))))
 (.cons (.ite (.op2 .gt (.bi .len (.cons (.call 2 (.cons (.call 0 (.cons (.var 2) .nil)) (.cons (.idx (.idx (.var 0) (.var 1)) (.cst (.int 0))) .nil))) .nil)) (.cst (.int 0))) (.cons (.raise 2 .no)
 .nil) .nil)
 .nil)))
def f8 : Fn := ⟨"check_key", 3, none, 3, b8⟩
/- 9 closed_in -/
def b9 : Ss := (.cons (.asgT [2, 3, 4, 5] (.var 0))
 (.cons (.par [6, 7] (.cons (.bi .list (.cons (.var 1) .nil)) (.cons (.op1 .neg (.cst (.int 1))) .nil)))
 (.cons (.while_ 1000 (.op2 .lt (.var 7) (.bi .len (.cons (.var 6) .nil))) (.cons (.asg 7 (.bi .len (.cons (.var 6) .nil)))
 (.cons (.for_ (.many [8, 9]) (.seq (.var 3)) (.cons (.ite (.bop true (.cons (.op2 .notin (.var 9) (.var 6)) (.cons (.op2 .eq (.bi .len (.cons (.call 2 (.cons (.var 8) (.cons (.var 6) .nil))) .nil)) (.cst (.int 0))) .nil))) (.cons (.expr (.meth .append 6 (.cons (.var 9) .nil)))
 .nil) .nil)
 .nil))
 (.cons (.ite (.bi .any (.cons (.comp (.one 10) (.seq (.var 4)) .no (.op2 .eq (.bi .len (.cons (.call 2 (.cons (.var 10) (.cons (.var 6) .nil))) .nil)) (.cst (.int 0)))) .nil)) (.cons (.expr (.meth .extend 6 (.cons (.call 2 (.cons (.var 2) (.cons (.var 6) .nil))) .nil)))
 .nil) .nil)
 .nil))))
 (.cons (.ret (.call 1 (.cons (.var 6) .nil)))
 .nil))))
def f9 : Fn := ⟨"closed_in", 2, none, 11, b9⟩
/- 10 closed -/
def b10 : Ss := (.cons (.expr (.call 8 (.cons (.var 0) (.cons (.var 1) (.cons (.var 2) .nil)))))
 (.cons (.ret (.call 9 (.cons (.idx (.call 0 (.cons (.var 0) .nil)) (.var 1)) (.cons (.call 0 (.cons (.var 2) .nil)) .nil))))
 .nil))
def f10 : Fn := ⟨"closed", 3, none, 3, b10⟩
/- 11 referred -/
def b11 : Ss := (.cons (.expr (.call 6 (.cons (.var 0) (.cons (.lst (.cons (.var 1) .nil)) .nil))))
 (.cons (.asg 2 (.lst .nil))
 (.cons (.for_ (.one 3) (.range2 (.var 1) (.bi .len (.cons (.var 0) .nil))) (.cons (.ite (.bop false (.cons (.op2 .eq (.var 3) (.var 1)) (.cons (.op2 .isin (.var 3) (.var 2)) .nil))) (.cons (.expr (.meth .extend 2 (.cons (.comp (.one 4) (.seq (.idx (.idx (.var 0) (.var 3)) (.cst (.int 3)))) (.yes (.op2 .notin (.idx (.var 4) (.cst (.int 0))) (.var 2))) (.idx (.var 4) (.cst (.int 0)))) .nil)))
 .nil) .nil)
 .nil))
 (.cons (.ret (.call 1 (.cons (.var 2) .nil)))
 .nil))))
def f11 : Fn := ⟨"referred", 2, none, 5, b11⟩
/- 12 referring -/
def b12 : Ss := (.cons (.expr (.call 6 (.cons (.var 0) (.cons (.lst (.cons (.var 1) .nil)) .nil))))
 (.cons (.ret (.bi .tuple (.cons (.comp (.one 2) (.range1 (.bi .len (.cons (.var 0) .nil))) (.yes (.op2 .isin (.var 1) (.call 11 (.cons (.var 0) (.cons (.var 2) .nil))))) (.var 2)) .nil)))
 .nil))
def f12 : Fn := ⟨"referring", 2, none, 3, b12⟩
/- 13 _law_box -/
def b13 : Ss := (.cons (.asg 2 (.ite (.op2 .lt (.var 1) (.bi .len (.cons (.var 0) .nil))) (.idx (.var 0) (.var 1)) (.cst (.int 0))))
 (.cons (.ret (.lst (.cons (.op2 .mul (.bi .abs (.cons (.var 2) .nil)) (.bi .int (.cons (.op2 .ge (.bi .abs (.cons (.var 2) .nil)) (.op2 .pow (.cst (.int 10)) (.cst (.int 18)))) .nil))) (.cons (.op2 .add (.op2 .add (.op2 .mod (.bi .int (.cons (.var 2) .nil)) (.cst (.int 2305843009213693951))) (.op2 .mul (.cst (.int 39373)) (.var 1))) (.cst (.int 1068004))) (.cons (.cst (.int 0)) .nil)))))
 .nil))
def f13 : Fn := ⟨"_law_box", 2, none, 3, b13⟩
/- 14 _law_take -/
def b14 : Ss := (.cons (.ite (.op2 .gt (.idx (.var 0) (.cst (.int 0))) (.cst (.int 0))) (.cons (.asg 5 (.op2 .mod (.bi .int (.cons (.idx (.var 0) (.cst (.int 0))) .nil)) (.var 1)))
 (.cons (.sub 0 (.cst (.int 0)) (.op2 .fdiv (.idx (.var 0) (.cst (.int 0))) (.var 1)))
 (.cons (.ret (.var 5))
 .nil))) .nil)
 (.cons (.sub 0 (.cst (.int 2)) (.op2 .add (.idx (.var 0) (.cst (.int 2))) (.cst (.int 1))))
 (.cons (.asg 2 (.op2 .mod (.bi .int (.cons (.op2 .mul (.op2 .add (.idx (.var 0) (.cst (.int 1))) (.op2 .mul (.cst (.int 48271)) (.idx (.var 0) (.cst (.int 2))))) (.op2 .add (.cst (.int 39373)) (.idx (.var 0) (.cst (.int 2))))) .nil)) (.cst (.int 2147483647))))
 (.cons (.asg 3 (.op2 .add (.op2 .mod (.bi .int (.cons (.var 2) .nil)) (.cst (.int 40009))) (.cst (.int 7))))
 (.cons (.asg 4 (.op2 .mod (.bi .int (.cons (.op2 .mul (.op2 .add (.op2 .add (.var 2) (.idx (.var 0) (.cst (.int 2)))) (.op2 .fdiv (.idx (.var 0) (.cst (.int 1))) (.cst (.int 1000003)))) (.var 3)) .nil)) (.cst (.int 2147483629))))
 (.cons (.ret (.op2 .mod (.bi .int (.cons (.op2 .fdiv (.op2 .mod (.bi .int (.cons (.op2 .add (.op2 .mul (.var 4) (.cst (.int 48271))) (.var 2)) .nil)) (.cst (.int 2147483587))) (.cst (.int 64))) .nil)) (.var 1)))
 .nil))))))
def f14 : Fn := ⟨"_law_take", 2, (some 0), 6, b14⟩
/- 15 _law_cells -/
def b15 : Ss := (.cons (.asg 2 (.orT (.bi .list (.cons (.slc (.var 0) .no (.yes (.var 1))) .nil)) (.lst (.cons (.cst (.int 0)) .nil))))
 (.cons (.for_ (.many [3, 4]) (.enum (.slc (.var 0) (.yes (.var 1)) (.yes (.cst (.int 63))))) (.cons (.asg 5 (.op2 .mod (.bi .int (.cons (.var 3) .nil)) (.var 1)))
 (.cons (.sub 2 (.var 5) (.op2 .add (.idx (.var 2) (.var 5)) (.op2 .mul (.var 4) (.op2 .add (.var 3) (.cst (.int 2))))))
 .nil)))
 (.cons (.ret (.var 2))
 .nil)))
def f15 : Fn := ⟨"_law_cells", 2, none, 6, b15⟩
/- 16 _law_of -/
def b16 : Ss := (.cons (.ret (.idx (.var 1) (.call 14 (.cons (.var 0) (.cons (.bi .len (.cons (.var 1) .nil)) .nil)))))
 .nil)
def f16 : Fn := ⟨"_law_of", 2, (some 0), 2, b16⟩
/- 17 _law_same -/
def b17 : Ss := (.cons (.ite (.isi (.var 1) [.list, .tuple] false) (.cons (.ite (.bop false (.cons (.op2 .ne (.isi (.var 0) [.list] true) (.isi (.var 1) [.list] true)) (.cons (.op2 .ne (.isi (.var 0) [.tuple] true) (.isi (.var 1) [.tuple] true)) .nil))) (.cons (.ret (.cst (.bool false)))
 .nil) .nil)
 (.cons (.ret (.bop true (.cons (.op2 .eq (.bi .len (.cons (.var 0) .nil)) (.bi .len (.cons (.var 1) .nil))) (.cons (.bi .all (.cons (.comp (.many [2, 3]) (.zip (.var 0) (.var 1)) .no (.call 17 (.cons (.var 2) (.cons (.var 3) .nil)))) .nil)) .nil))))
 .nil)) .nil)
 (.cons (.ite (.bop false (.cons (.op1 .isN (.var 1)) (.cons (.isi (.var 1) [.bool, .str] false) .nil))) (.cons (.ret (.bop true (.cons (.op2 .eq (.var 0) (.var 1)) (.cons (.op2 .eq (.isi (.var 0) [.bool] true) (.isi (.var 1) [.bool] true)) (.cons (.op2 .eq (.op1 .isN (.var 0)) (.op1 .isN (.var 1))) .nil)))))
 .nil) .nil)
 (.cons (.ret (.bop true (.cons (.isi (.var 0) [.int] true) (.cons (.not (.isi (.var 0) [.bool] true)) (.cons (.op2 .eq (.var 0) (.var 1)) .nil)))))
 .nil)))
def f17 : Fn := ⟨"_law_same", 2, none, 4, b17⟩
/- 18 _law_lists -/
def b18 : Ss := (.cons (.ret (.ite (.isi (.var 0) [.list, .tuple] false) (.comp (.one 1) (.seq (.var 0)) .no (.call 18 (.cons (.var 1) .nil))) (.var 0)))
 .nil)
def f18 : Fn := ⟨"_law_lists", 1, none, 2, b18⟩
/- 19 _law_mixed -/
def b19 : Ss := (.cons (.par [3, 4] (.cons (.bi .list (.cons (.var 1) .nil)) (.cons (.lst .nil) .nil)))
 (.cons (.for_ (.one 2) (.range1 (.bi .len (.cons (.var 1) .nil))) (.cons (.expr (.meth .append 4 (.cons (.meth .popAt 3 (.cons (.call 14 (.cons (.var 0) (.cons (.bi .len (.cons (.var 3) .nil)) .nil))) .nil)) .nil)))
 .nil))
 (.cons (.ret (.var 4))
 .nil)))
def f19 : Fn := ⟨"_law_mixed", 2, (some 0), 5, b19⟩
/- 20 _law_few -/
def b20 : Ss := (.cons (.ret (.bi .tuple (.cons (.comp (.one 2) (.seq (.var 1)) (.yes (.op2 .eq (.call 14 (.cons (.var 0) (.cons (.cst (.int 2)) .nil))) (.cst (.int 0)))) (.var 2)) .nil)))
 .nil)
def f20 : Fn := ⟨"_law_few", 2, (some 0), 3, b20⟩
/- 21 _law_schema -/
def b21 : Ss := (.cons (.par [4, 5] (.cons (.lst (.cons (.lst (.cons (.cst (.str "m")) (.cons (.cst (.str "bb")) (.cons (.cst (.str "x")) .nil)))) (.cons (.lst (.cons (.cst (.str "b")) (.cons (.cst (.str "f")) (.cons (.cst (.str "q")) .nil)))) (.cons (.lst (.cons (.cst (.str "a")) (.cons (.cst (.str "r")) .nil))) .nil)))) (.cons (.lst .nil) .nil)))
 (.cons (.for_ (.one 2) (.range1 (.op2 .add (.cst (.int 1)) (.call 14 (.cons (.var 0) (.cons (.var 1) .nil))))) (.cons (.asg 6 (.bi .tuple (.cons (.bi .sorted (.cons (.slc (.idx (.var 4) (.var 2)) .no (.yes (.op2 .add (.cst (.int 1)) (.call 14 (.cons (.var 0) (.cons (.bi .len (.cons (.idx (.var 4) (.var 2)) .nil)) .nil)))))) .nil)) .nil)))
 (.cons (.asg 7 (.comp (.one 13) (.range1 (.call 14 (.cons (.var 0) (.cons (.cst (.int 3)) .nil)))) .no (.tup (.cons (.call 20 (.cons (.var 0) (.cons (.var 6) .nil))) (.cons (.call 16 (.cons (.var 0) (.cons (.var 6) .nil))) .nil)))))
 (.cons (.asg 8 (.comp (.one 13) (.range1 (.call 14 (.cons (.var 0) (.cons (.cst (.int 3)) .nil)))) .no (.call 20 (.cons (.var 0) (.cons (.var 6) .nil)))))
 (.cons (.expr (.meth .append 5 (.cons (.tup (.cons (.var 6) (.cons (.bi .tuple (.cons (.bi .sortset (.cons (.var 7) .nil)) .nil)) (.cons (.bi .tuple (.cons (.bi .sortset (.cons (.var 8) .nil)) .nil)) .nil)))) .nil)))
 .nil)))))
 (.cons (.asg 3 (.lst .nil))
 (.cons (.for_ (.many [2, 9]) (.enum (.var 5)) (.cons (.asg 10 (.lst .nil))
 (.cons (.for_ (.one 11) (.range2 (.op2 .add (.var 2) (.cst (.int 1))) (.bi .len (.cons (.var 5) .nil))) (.cons (.asg 12 (.comp (.one 14) (.seq (.idx (.idx (.var 5) (.var 11)) (.cst (.int 2)))) (.yes (.op2 .le (.bi .len (.cons (.var 14) .nil)) (.bi .len (.cons (.idx (.var 9) (.cst (.int 0))) .nil)))) (.var 14)))
 (.cons (.ite (.bop true (.cons (.op2 .ne (.var 12) (.lst .nil)) (.cons (.op2 .eq (.call 14 (.cons (.var 0) (.cons (.cst (.int 2)) .nil))) (.cst (.int 0))) .nil))) (.cons (.asg 14 (.call 16 (.cons (.var 0) (.cons (.var 12) .nil))))
 (.cons (.expr (.meth .append 10 (.cons (.tup (.cons (.var 11) (.cons (.bi .tuple (.cons (.slc (.call 19 (.cons (.var 0) (.cons (.idx (.var 9) (.cst (.int 0))) .nil))) .no (.yes (.bi .len (.cons (.var 14) .nil)))) .nil)) (.cons (.var 14) .nil)))) .nil)))
 .nil)) .nil)
 .nil)))
 (.cons (.expr (.meth .append 3 (.cons (.op2 .add (.var 9) (.tup (.cons (.bi .tuple (.cons (.var 10) .nil)) .nil))) .nil)))
 .nil))))
 (.cons (.ret (.bi .tuple (.cons (.var 3) .nil)))
 .nil)))))
def f21 : Fn := ⟨"_law_schema", 2, (some 0), 15, b21⟩
/- 22 _law_tags -/
def b22 : Ss := (.cons (.asg 1 (.lst .nil))
 (.cons (.for_ (.one 2) (.seq (.var 0)) (.cons (.asg 1 (.op2 .add (.var 1) (.bi .list (.cons (.idx (.var 2) (.cst (.int 0))) .nil))))
 .nil))
 (.cons (.ret (.bi .sorted (.cons (.var 1) .nil)))
 .nil)))
def f22 : Fn := ⟨"_law_tags", 1, none, 3, b22⟩
/- 23 _law_home -/
def b23 : Ss := (.cons (.ret (.idx (.comp (.many [2, 3]) (.enum (.var 0)) (.yes (.op2 .isin (.var 1) (.idx (.var 3) (.cst (.int 0))))) (.var 2)) (.cst (.int 0))))
 .nil)
def f23 : Fn := ⟨"_law_home", 2, none, 4, b23⟩
/- 24 _law_heard -/
def b24 : Ss := (.cons (.par [5, 6] (.cons (.cst .none) (.cons (.cst .none) .nil)))
 (.cons (.try_ (.cons (.ite (.op2 .lt (.var 0) (.cst (.int 2))) (.cons (.asg 6 (.ite (.op2 .eq (.var 0) (.cst (.int 0))) (.call 7 (.cons (.var 1) (.cons (.var 2) .nil))) (.call 10 (.cons (.var 1) (.cons (.var 2) (.cons (.var 3) .nil))))))
 .nil) (.cons (.asg 6 (.ite (.op2 .eq (.var 0) (.cst (.int 2))) (.call 11 (.cons (.var 1) (.cons (.var 2) .nil))) (.call 12 (.cons (.var 1) (.cons (.var 2) .nil)))))
 .nil))
 .nil) [⟨1, 4, 5, [.cst (.str "sheet"), .fld, .isi true true]⟩, ⟨0, 4, 5, [.cst (.str "column"), .fld, .isi true true]⟩, ⟨2, 4, 5, [.cst (.str "unfit"), .isi false true]⟩])
 (.cons (.ret (.ite (.op1 .isN (.var 5)) (.var 6) (.var 5)))
 .nil)))
def f24 : Fn := ⟨"_law_heard", 4, none, 7, b24⟩
/- 25 _law_closed -/
def b25 : Ss := (.cons (.asg 2 (.bi .list (.cons (.var 1) .nil)))
 (.cons (.for_ (.one 3) (.range1 (.cst (.int 5))) (.cons (.for_ (.many [5, 6]) (.seq (.idx (.var 0) (.cst (.int 1)))) (.cons (.ite (.bop true (.cons (.op2 .eq (.comp (.one 7) (.seq (.var 5)) (.yes (.op2 .notin (.var 7) (.var 2))) (.var 7)) (.lst .nil)) (.cons (.op2 .notin (.var 6) (.var 2)) .nil))) (.cons (.expr (.meth .append 2 (.cons (.var 6) .nil)))
 .nil) .nil)
 .nil))
 (.cons (.for_ (.one 4) (.seq (.idx (.var 0) (.cst (.int 2)))) (.cons (.ite (.op2 .eq (.comp (.one 7) (.seq (.var 4)) (.yes (.op2 .notin (.var 7) (.var 2))) (.var 7)) (.lst .nil)) (.cons (.asg 2 (.bi .list (.cons (.idx (.var 0) (.cst (.int 0))) .nil)))
 .nil) .nil)
 .nil))
 .nil)))
 (.cons (.ret (.bi .tuple (.cons (.bi .sorted (.cons (.var 2) .nil)) .nil)))
 .nil)))
def f25 : Fn := ⟨"_law_closed", 2, none, 8, b25⟩
/- 26 _law_led -/
def b26 : Ss := (.cons (.asg 2 (.lst .nil))
 (.cons (.for_ (.one 3) (.range2 (.var 1) (.bi .len (.cons (.var 0) .nil))) (.cons (.ite (.bop false (.cons (.op2 .eq (.var 3) (.var 1)) (.cons (.op2 .isin (.var 3) (.var 2)) .nil))) (.cons (.asg 2 (.op2 .add (.var 2) (.comp (.one 4) (.seq (.idx (.idx (.var 0) (.var 3)) (.cst (.int 3)))) .no (.idx (.var 4) (.cst (.int 0))))))
 .nil) .nil)
 .nil))
 (.cons (.ret (.bi .tuple (.cons (.bi .sortset (.cons (.var 2) .nil)) .nil)))
 .nil)))
def f26 : Fn := ⟨"_law_led", 2, none, 5, b26⟩
/- 27 _law_by_hand_right -/
def b27 : Ss := (.cons (.asg 0 (.tup (.cons (.tup (.cons (.cst (.str "c")) (.cons (.cst (.str "o")) .nil))) (.cons (.tup (.cons (.tup (.cons (.tup (.cons (.cst (.str "c")) .nil)) (.cons (.cst (.str "o")) .nil))) .nil)) (.cons (.tup .nil) (.cons (.tup (.cons (.tup (.cons (.cst (.int 1)) (.cons (.tup (.cons (.cst (.str "c")) .nil)) (.cons (.tup (.cons (.cst (.str "n")) .nil)) .nil)))) .nil)) .nil))))))
 (.cons (.asg 1 (.tup (.cons (.tup (.cons (.cst (.str "h")) (.cons (.cst (.str "k")) (.cons (.cst (.str "n")) .nil)))) (.cons (.tup (.cons (.tup (.cons (.tup (.cons (.cst (.str "h")) .nil)) (.cons (.cst (.str "k")) .nil))) (.cons (.tup (.cons (.tup (.cons (.cst (.str "k")) .nil)) (.cons (.cst (.str "h")) .nil))) .nil))) (.cons (.tup (.cons (.tup (.cons (.cst (.str "n")) .nil)) .nil)) (.cons (.tup (.cons (.tup (.cons (.cst (.int 3)) (.cons (.tup (.cons (.cst (.str "k")) .nil)) (.cons (.tup (.cons (.cst (.str "e")) .nil)) .nil)))) .nil)) .nil))))))
 (.cons (.asg 0 (.tup (.cons (.var 0) (.cons (.var 1) (.cons (.tup (.cons (.tup (.cons (.cst (.str "a")) (.cons (.cst (.str "aa")) .nil))) (.cons (.tup (.cons (.tup (.cons (.tup .nil) (.cons (.cst (.str "a")) .nil))) .nil)) (.cons (.tup .nil) (.cons (.tup (.cons (.tup (.cons (.cst (.int 3)) (.cons (.tup (.cons (.cst (.str "aa")) .nil)) (.cons (.tup (.cons (.cst (.str "e")) .nil)) .nil)))) .nil)) .nil))))) (.cons (.tup (.cons (.tup (.cons (.cst (.str "e")) .nil)) (.cons (.tup .nil) (.cons (.tup (.cons (.tup (.cons (.cst (.str "e")) .nil)) .nil)) (.cons (.tup .nil) .nil))))) .nil))))))
 (.cons (.asg 2 (.lst (.cons (.call 3 (.cons (.var 0) .nil)) (.cons (.comp (.one 8) (.seq (.tup (.cons (.cst (.str "o")) (.cons (.cst (.str "n")) (.cons (.cst (.str "aa")) (.cons (.cst (.str "e")) (.cons (.cst (.str "x")) (.cons (.cst (.str "")) .nil)))))))) .no (.call 24 (.cons (.cst (.int 0)) (.cons (.var 0) (.cons (.var 8) (.cons (.tup .nil) .nil)))))) .nil))))
 (.cons (.asg 3 (.lst (.cons (.tup (.cons (.cst (.str "a")) (.cons (.cst (.str "aa")) (.cons (.cst (.str "c")) (.cons (.cst (.str "e")) (.cons (.cst (.str "h")) (.cons (.cst (.str "k")) (.cons (.cst (.str "n")) (.cons (.cst (.str "o")) .nil))))))))) (.cons (.lst (.cons (.cst (.int 0)) (.cons (.cst (.int 1)) (.cons (.cst (.int 2)) (.cons (.cst (.int 3)) (.cons (.lst (.cons (.cst (.str "column")) (.cons (.cst (.str "x")) (.cons (.cst (.bool true)) .nil)))) (.cons (.lst (.cons (.cst (.str "column")) (.cons (.cst (.str "")) (.cons (.cst (.bool true)) .nil)))) .nil))))))) .nil))))
 (.cons (.asg 4 (.lst (.cons (.tup (.cons (.cst (.int 0)) (.cons (.tup (.cons (.cst (.str "c")) .nil)) .nil))) (.cons (.tup (.cons (.cst (.int 0)) (.cons (.tup (.cons (.cst (.str "o")) .nil)) .nil))) (.cons (.tup (.cons (.cst (.int 0)) (.cons (.tup .nil) .nil))) (.cons (.tup (.cons (.cst (.int 1)) (.cons (.tup (.cons (.cst (.str "k")) .nil)) .nil))) (.cons (.tup (.cons (.cst (.int 1)) (.cons (.tup (.cons (.cst (.str "n")) .nil)) .nil))) .nil)))))))
 (.cons (.asg 4 (.op2 .add (.var 4) (.lst (.cons (.tup (.cons (.cst (.int 1)) (.cons (.tup (.cons (.cst (.str "h")) .nil)) .nil))) (.cons (.tup (.cons (.cst (.int 2)) (.cons (.tup .nil) .nil))) (.cons (.tup (.cons (.cst (.int 2)) (.cons (.tup (.cons (.cst (.str "aa")) .nil)) .nil))) (.cons (.tup (.cons (.cst (.int 3)) (.cons (.tup .nil) .nil))) (.cons (.tup (.cons (.cst (.int 1)) (.cons (.tup (.cons (.cst (.str "h")) (.cons (.cst (.str "n")) .nil))) .nil))) .nil))))))))
 (.cons (.expr (.meth .append 2 (.cons (.comp (.one 9) (.seq (.var 4)) .no (.call 24 (.cons (.cst (.int 1)) (.cons (.var 0) (.cons (.idx (.var 9) (.cst (.int 0))) (.cons (.idx (.var 9) (.cst (.int 1))) .nil)))))) .nil)))
 (.cons (.expr (.meth .append 3 (.cons (.lst (.cons (.tup (.cons (.cst (.str "c")) (.cons (.cst (.str "o")) .nil))) (.cons (.tup (.cons (.cst (.str "o")) .nil)) (.cons (.tup .nil) (.cons (.tup (.cons (.cst (.str "h")) (.cons (.cst (.str "k")) .nil))) (.cons (.tup (.cons (.cst (.str "h")) (.cons (.cst (.str "k")) (.cons (.cst (.str "n")) .nil)))) (.cons (.tup (.cons (.cst (.str "h")) (.cons (.cst (.str "k")) .nil))) (.cons (.tup (.cons (.cst (.str "a")) .nil)) .nil)))))))) .nil)))
 (.cons (.sub 3 (.op1 .neg (.cst (.int 1))) (.op2 .add (.idx (.var 3) (.op1 .neg (.cst (.int 1)))) (.lst (.cons (.tup (.cons (.cst (.str "a")) (.cons (.cst (.str "aa")) .nil))) (.cons (.tup .nil) (.cons (.tup (.cons (.cst (.str "h")) (.cons (.cst (.str "k")) (.cons (.cst (.str "n")) .nil)))) .nil))))))
 (.cons (.asg 4 (.lst (.cons (.tup (.cons (.cst (.int 4)) (.cons (.tup (.cons (.cst (.str "x")) .nil)) .nil))) (.cons (.tup (.cons (.op1 .neg (.cst (.int 1))) (.cons (.tup .nil) .nil))) (.cons (.tup (.cons (.cst (.int 0)) (.cons (.tup (.cons (.cst (.str "x")) (.cons (.cst (.str "y")) .nil))) .nil))) (.cons (.tup (.cons (.cst (.int 0)) (.cons (.tup (.cons (.cst (.str "k")) .nil)) .nil))) (.cons (.tup (.cons (.cst (.int 0)) (.cons (.tup (.cons (.cst (.str "c")) (.cons (.cst (.str "k")) .nil))) .nil))) (.cons (.tup (.cons (.cst (.int 1)) (.cons (.tup (.cons (.cst (.str "c")) (.cons (.cst (.str "z")) .nil))) .nil))) .nil))))))))
 (.cons (.expr (.meth .append 2 (.cons (.comp (.one 9) (.seq (.var 4)) .no (.call 24 (.cons (.cst (.int 1)) (.cons (.var 0) (.cons (.idx (.var 9) (.cst (.int 0))) (.cons (.idx (.var 9) (.cst (.int 1))) .nil)))))) .nil)))
 (.cons (.expr (.meth .append 3 (.cons (.lst (.cons (.lst (.cons (.cst (.str "sheet")) (.cons (.cst (.int 4)) (.cons (.cst (.bool true)) .nil)))) (.cons (.lst (.cons (.cst (.str "sheet")) (.cons (.op1 .neg (.cst (.int 1))) (.cons (.cst (.bool true)) .nil)))) (.cons (.lst (.cons (.cst (.str "column")) (.cons (.cst (.str "x")) (.cons (.cst (.bool true)) .nil)))) (.cons (.lst (.cons (.cst (.str "unfit")) (.cons (.cst (.bool true)) .nil))) .nil))))) .nil)))
 (.cons (.sub 3 (.op1 .neg (.cst (.int 1))) (.op2 .add (.idx (.var 3) (.op1 .neg (.cst (.int 1)))) (.lst (.cons (.lst (.cons (.cst (.str "unfit")) (.cons (.cst (.bool true)) .nil))) (.cons (.lst (.cons (.cst (.str "column")) (.cons (.cst (.str "z")) (.cons (.cst (.bool true)) .nil)))) .nil)))))
 (.cons (.asg 2 (.op2 .add (.var 2) (.lst (.cons (.comp (.one 10) (.seq (.tup (.cons (.cst (.int 0)) (.cons (.cst (.int 1)) (.cons (.cst (.int 2)) (.cons (.cst (.int 3)) (.cons (.cst (.int 4)) (.cons (.op1 .neg (.cst (.int 1))) .nil)))))))) .no (.call 24 (.cons (.cst (.int 2)) (.cons (.var 0) (.cons (.var 10) (.cons (.tup .nil) .nil)))))) .nil))))
 (.cons (.expr (.meth .append 2 (.cons (.comp (.one 10) (.seq (.tup (.cons (.cst (.int 0)) (.cons (.cst (.int 1)) (.cons (.cst (.int 2)) (.cons (.cst (.int 3)) (.cons (.cst (.int 4)) (.cons (.op1 .neg (.cst (.int 1))) .nil)))))))) .no (.call 24 (.cons (.cst (.int 3)) (.cons (.var 0) (.cons (.var 10) (.cons (.tup .nil) .nil)))))) .nil)))
 (.cons (.asg 3 (.op2 .add (.var 3) (.lst (.cons (.lst (.cons (.tup (.cons (.cst (.int 1)) (.cons (.cst (.int 3)) .nil))) (.cons (.tup (.cons (.cst (.int 3)) .nil)) (.cons (.tup (.cons (.cst (.int 3)) .nil)) (.cons (.tup .nil) (.cons (.lst (.cons (.cst (.str "sheet")) (.cons (.cst (.int 4)) (.cons (.cst (.bool true)) .nil)))) (.cons (.lst (.cons (.cst (.str "sheet")) (.cons (.op1 .neg (.cst (.int 1))) (.cons (.cst (.bool true)) .nil)))) .nil))))))) .nil))))
 (.cons (.expr (.meth .append 3 (.cons (.lst (.cons (.tup .nil) (.cons (.tup (.cons (.cst (.int 0)) .nil)) (.cons (.tup .nil) (.cons (.tup (.cons (.cst (.int 0)) (.cons (.cst (.int 1)) (.cons (.cst (.int 2)) .nil)))) (.cons (.lst (.cons (.cst (.str "sheet")) (.cons (.cst (.int 4)) (.cons (.cst (.bool true)) .nil)))) (.cons (.lst (.cons (.cst (.str "sheet")) (.cons (.op1 .neg (.cst (.int 1))) (.cons (.cst (.bool true)) .nil)))) .nil))))))) .nil)))
 (.cons (.asg 5 (.tup (.cons (.tup (.cons (.tup (.cons (.cst (.str "e")) (.cons (.cst (.str "p")) (.cons (.cst (.str "q")) .nil)))) (.cons (.tup (.cons (.tup (.cons (.tup (.cons (.cst (.str "p")) .nil)) (.cons (.cst (.str "e")) .nil))) (.cons (.tup (.cons (.tup (.cons (.cst (.str "q")) .nil)) (.cons (.cst (.str "p")) .nil))) .nil))) (.cons (.tup .nil) (.cons (.tup .nil) .nil))))) .nil)))
 (.cons (.asg 2 (.op2 .add (.var 2) (.lst (.cons (.call 10 (.cons (.var 5) (.cons (.cst (.int 0)) (.cons (.tup (.cons (.cst (.str "q")) .nil)) .nil)))) (.cons (.call 10 (.cons (.var 5) (.cons (.cst (.int 0)) (.cons (.tup (.cons (.cst (.str "p")) .nil)) .nil)))) (.cons (.call 10 (.cons (.var 5) (.cons (.cst (.int 0)) (.cons (.tup (.cons (.cst (.str "e")) .nil)) .nil)))) .nil))))))
 (.cons (.asg 3 (.op2 .add (.var 3) (.lst (.cons (.tup (.cons (.cst (.str "e")) (.cons (.cst (.str "p")) (.cons (.cst (.str "q")) .nil)))) (.cons (.tup (.cons (.cst (.str "e")) (.cons (.cst (.str "p")) .nil))) (.cons (.tup (.cons (.cst (.str "e")) .nil)) .nil))))))
 (.cons (.asg 6 (.tup (.cons (.bi .list (.cons (.idx (.var 0) (.cst (.int 0))) .nil)) (.cons (.idx (.var 0) (.cst (.int 1))) (.cons (.lst (.cons (.lst (.cons (.cst (.str "a")) (.cons (.cst (.str "aa")) .nil))) (.cons (.tup (.cons (.lst (.cons (.lst .nil) (.cons (.cst (.str "a")) .nil))) .nil)) (.cons (.tup .nil) (.cons (.lst (.cons (.lst (.cons (.cst (.int 3)) (.cons (.lst (.cons (.cst (.str "aa")) .nil)) (.cons (.tup (.cons (.cst (.str "e")) .nil)) .nil)))) .nil)) .nil))))) (.cons (.idx (.var 0) (.cst (.int 3))) .nil))))))
 (.cons (.asg 2 (.op2 .add (.var 2) (.lst (.cons (.call 3 (.cons (.var 6) .nil)) (.cons (.call 10 (.cons (.var 6) (.cons (.cst (.int 2)) (.cons (.lst .nil) .nil)))) (.cons (.call 11 (.cons (.var 6) (.cons (.cst (.int 2)) .nil))) .nil))))))
 (.cons (.asg 2 (.op2 .add (.var 2) (.lst (.cons (.call 12 (.cons (.var 6) (.cons (.cst (.int 3)) .nil))) (.cons (.call 7 (.cons (.var 6) (.cons (.cst (.str "aa")) .nil))) .nil)))))
 (.cons (.asg 3 (.op2 .add (.var 3) (.lst (.cons (.idx (.var 3) (.cst (.int 0))) (.cons (.tup (.cons (.cst (.str "a")) .nil)) (.cons (.tup (.cons (.cst (.int 3)) .nil)) (.cons (.tup (.cons (.cst (.int 0)) (.cons (.cst (.int 1)) (.cons (.cst (.int 2)) .nil)))) (.cons (.cst (.int 2)) .nil))))))))
 (.cons (.asg 7 (.call 18 (.cons (.var 0) .nil)))
 (.cons (.asg 2 (.op2 .add (.var 2) (.lst (.cons (.callK 3 [0] (.cons (.var 7) .nil)) (.cons (.callK 7 [1, 0] (.cons (.cst (.str "n")) (.cons (.var 7) .nil))) .nil)))))
 (.cons (.expr (.meth .append 2 (.cons (.callK 10 [2, 1, 0] (.cons (.lst (.cons (.cst (.str "n")) .nil)) (.cons (.cst (.int 1)) (.cons (.var 7) .nil)))) .nil)))
 (.cons (.asg 2 (.op2 .add (.var 2) (.lst (.cons (.callK 11 [1, 0] (.cons (.cst (.int 0)) (.cons (.var 7) .nil))) (.cons (.callK 12 [1, 0] (.cons (.cst (.int 3)) (.cons (.var 7) .nil))) (.cons (.var 7) .nil))))))
 (.cons (.ret (.call 17 (.cons (.var 2) (.cons (.op2 .add (.var 3) (.lst (.cons (.idx (.var 3) (.cst (.int 0))) (.cons (.cst (.int 1)) (.cons (.tup (.cons (.cst (.str "h")) (.cons (.cst (.str "k")) (.cons (.cst (.str "n")) .nil)))) (.cons (.tup (.cons (.cst (.int 1)) (.cons (.cst (.int 3)) .nil))) (.cons (.tup (.cons (.cst (.int 0)) (.cons (.cst (.int 1)) (.cons (.cst (.int 2)) .nil)))) (.cons (.call 18 (.cons (.var 0) .nil)) .nil)))))))) .nil))))
 .nil))))))))))))))))))))))))))))))
def f27 : Fn := ⟨"_law_by_hand_right", 0, none, 11, b27⟩
/- 28 _law_right -/
def b28 : Ss := (.cons (.for_ (.one 1) (.range1 (.cst (.int 6))) (.cons (.asg 2 (.call 21 (.cons (.var 0) (.cons (.cst (.int 3)) .nil))))
 (.cons (.asg 3 (.call 18 (.cons (.var 2) .nil)))
 (.cons (.par [5, 6] (.cons (.lst (.cons (.call 3 (.cons (.var 2) .nil)) (.cons (.call 3 (.cons (.var 3) .nil)) .nil))) (.cons (.rep (.lst (.cons (.bi .tuple (.cons (.call 22 (.cons (.var 2) .nil)) .nil)) .nil)) (.cst (.int 2))) .nil)))
 (.cons (.for_ (.one 4) (.seq (.call 22 (.cons (.var 2) .nil))) (.cons (.par [5, 6] (.cons (.op2 .add (.var 5) (.lst (.cons (.call 24 (.cons (.cst (.int 0)) (.cons (.var 2) (.cons (.var 4) (.cons (.tup .nil) .nil))))) .nil))) (.cons (.op2 .add (.var 6) (.lst (.cons (.call 23 (.cons (.var 2) (.cons (.var 4) .nil))) .nil))) .nil)))
 .nil))
 (.cons (.for_ (.many [7, 8]) (.enum (.var 2)) (.cons (.asg 9 (.call 20 (.cons (.var 0) (.cons (.idx (.var 8) (.cst (.int 0))) .nil))))
 (.cons (.asg 5 (.op2 .add (.var 5) (.lst (.cons (.call 24 (.cons (.cst (.int 1)) (.cons (.var 2) (.cons (.var 7) (.cons (.var 9) .nil))))) (.cons (.call 24 (.cons (.cst (.int 1)) (.cons (.var 3) (.cons (.var 7) (.cons (.bi .list (.cons (.var 9) .nil)) .nil))))) .nil)))))
 (.cons (.asg 5 (.op2 .add (.var 5) (.lst (.cons (.call 24 (.cons (.cst (.int 2)) (.cons (.var 2) (.cons (.var 7) (.cons (.tup .nil) .nil))))) (.cons (.call 24 (.cons (.cst (.int 3)) (.cons (.var 3) (.cons (.var 7) (.cons (.tup .nil) .nil))))) .nil)))))
 (.cons (.asg 6 (.op2 .add (.op2 .add (.var 6) (.rep (.lst (.cons (.call 25 (.cons (.var 8) (.cons (.var 9) .nil))) .nil)) (.cst (.int 2)))) (.lst (.cons (.call 26 (.cons (.var 2) (.cons (.var 7) .nil))) .nil))))
 (.cons (.expr (.meth .append 6 (.cons (.bi .tuple (.cons (.comp (.one 11) (.range1 (.bi .len (.cons (.var 2) .nil))) (.yes (.op2 .isin (.var 7) (.call 26 (.cons (.var 2) (.cons (.var 11) .nil))))) (.var 11)) .nil)) .nil)))
 (.cons (.asg 10 (.slc (.idx (.call 16 (.cons (.var 0) (.cons (.var 2) .nil))) (.cst (.int 0))) .no (.yes (.cst (.int 1)))))
 (.cons (.expr (.meth .append 5 (.cons (.call 24 (.cons (.cst (.int 1)) (.cons (.var 2) (.cons (.var 7) (.cons (.var 10) .nil))))) .nil)))
 (.cons (.expr (.meth .append 6 (.cons (.ite (.op2 .isin (.idx (.var 10) (.cst (.int 0))) (.idx (.var 8) (.cst (.int 0)))) (.call 25 (.cons (.var 8) (.cons (.var 10) .nil))) (.lst (.cons (.cst (.str "unfit")) (.cons (.cst (.bool true)) .nil)))) .nil)))
 .nil)))))))))
 (.cons (.ite (.not (.call 17 (.cons (.var 5) (.cons (.var 6) .nil)))) (.cons (.ret (.cst (.bool false)))
 .nil) .nil)
 .nil)))))))
 (.cons (.ret (.cst (.bool true)))
 .nil))
def f28 : Fn := ⟨"_law_right", 1, (some 0), 12, b28⟩
/- 29 law -/
def b29 : Ss := (.cons (.ite (.not (.call0 27)) (.cons (.ret (.cst (.bool false)))
 .nil) .nil)
 (.cons (.asg 1 (.call 15 (.cons (.var 0) (.cons (.cst (.int 3)) .nil))))
 (.cons (.ret (.bi .all (.cons (.comp (.one 2) (.range1 (.bi .len (.cons (.var 1) .nil))) .no (.call 28 (.cons (.call 13 (.cons (.var 1) (.cons (.var 2) .nil))) .nil))) .nil)))
 .nil)))
def f29 : Fn := ⟨"law", 1, none, 3, b29⟩
def T : List Fn := [f0, f1, f2, f3, f4, f5, f6, f7, f8, f9, f10, f11, f12, f13, f14, f15, f16, f17, f18, f19, f20, f21, f22, f23, f24, f25, f26, f27, f28, f29]
/- W := (3, ["schema"], [0]), (7, ["column", "schema"], [1, 0]), (10, ["some", "number", "schema"], [2, 1, 0]), (11, ["number", "schema"], [1, 0]), (12, ["number", "schema"], [1, 0]) -/
def F : Nat → Option Fn := fun i => T[i]?
end K04

set_option linter.all false
set_option maxRecDepth 100000
set_option Elab.async false
/-! EV: sequences that are lists or tuples -/
namespace EV
open PySem
/-- a list or a tuple -/
def sq : Bool → List D → D
  | true, xs => .list xs
  | false, xs => .tuple xs
theorem sq_seq (b : Bool) (xs : List D) (k : List D → Prop) : OM (seqD (sq b xs)) k = k xs := by cases b <;> rfl
theorem sq_it (b : Bool) (xs : List D) (k : List D → Prop) : OM (items (sq b xs)) k = k xs := by cases b <;> rfl
theorem sq_ix (b : Bool) (xs : List D) (i : Int) (k : D → Prop) : OM (idxD (sq b xs) (.int i)) k = OM (atD xs i) k := by cases b <;> rfl
theorem sq_len (b : Bool) (xs : List D) (k : W → Prop) : OM (EV.bi .len [sq b xs]) k = k (.dat (.int xs.length)) := by cases b <;> rfl
theorem sq_list (b : Bool) (xs : List D) (k : W → Prop) : OM (EV.bi .list [sq b xs]) k = k (.new xs) := by cases b <;> rfl
theorem sq_tuple (b : Bool) (xs : List D) (k : W → Prop) : OM (EV.bi .tuple [sq b xs]) k = k (.dat (.tuple xs)) := by cases b <;> rfl
theorem shaped_lt (xs : List D) : SeqAt.shaped (.tuple xs) = SeqAt.shaped (.list xs) := by
  unfold SeqAt.shaped
  rw [PyData.canLay0, PyData.canLay0, PyData.depth, PyData.depth]
theorem sq_in (x : D) (b : Bool) (xs : List D) (k : W → Prop) : OM (op2 .isin x (sq b xs)) k = ((SeqAt.shaped x && SeqAt.shaped (.list xs)) = true ∧ k (.dat (.bool (inD x xs)))) := by
  cases b
  · exact (om_inT x xs k).trans (by rw [shaped_lt])
  · exact om_inL x xs k
theorem sq_ni (x : D) (b : Bool) (xs : List D) (k : W → Prop) : OM (op2 .notin x (sq b xs)) k = ((SeqAt.shaped x && SeqAt.shaped (.list xs)) = true ∧ k (.dat (.bool (!inD x xs)))) := by
  cases b
  · exact (om_niT x xs k).trans (by rw [shaped_lt])
  · exact om_niL x xs k
theorem sq_slc (b : Bool) (xs : List D) (lo hi : Option Int) (k : W → Prop) : OM (slcD (sq b xs) lo hi) k = k (if b = true then .new (cutD xs lo hi) else .dat (.tuple (cutD xs lo hi))) := by cases b <;> rfl
theorem tup_sq (b : Bool) (xs : List D) : tupD (sq b xs) = .tuple (xs.map tupD) := by
  cases b <;> (show tupD _ = _; rw [sq, tupD, tupDs_map])
theorem lis_sq (b : Bool) (xs : List D) : lisD (sq b xs) = .list (xs.map lisD) := by
  cases b <;> (show lisD _ = _; rw [sq, lisD, lisDs_map])
theorem depth_sq (b : Bool) (xs : List D) : (sq b xs).depth = PyData.depthAll xs + 1 := by
  cases b <;> (rw [sq, PyData.depth])
theorem lay_sq (b : Bool) (xs : List D) : (sq b xs).canLay0 = PyData.canLayAll0 xs := by
  cases b <;> (rw [sq, PyData.canLay0])
theorem sq_t (xs : List D) : sq true xs = .list xs := rfl
theorem sq_f (xs : List D) : sq false xs = .tuple xs := rfl
theorem shaped_s {x : Str} {l : List Str} (hx : PyData.strOk x = true) (hl : StrsOk l) : (SeqAt.shaped (.str x) && SeqAt.shaped (.list (l.map .str))) = true := by
  rw [shaped_str, hx, (shaped_strs hl).1]; rfl
theorem shaped_i (i : Int) (l : List Int) : (SeqAt.shaped (.int i) && SeqAt.shaped (.list (l.map .int))) = true := by
  rw [shaped_int, (shaped_ints l).1]; rfl
/-! ### texts, sorted without repeats -/
theorem keyed_strs (l : List Str) : ∀ x ∈ l.map PyData.str, keyed x = true := fun x hx => by
  obtain ⟨s, _, rfl⟩ := List.mem_map.mp hx; rfl
theorem setOk_strs {l : List Str} (h : l.length < 64) : setOk (l.map .str) = true := by
  simp only [setOk, allAlike, Bool.and_eq_true, List.all_eq_true, decide_eq_true_eq]
  refine ⟨⟨⟨by simpa using h, fun x hx y hy => ?_⟩, keyed_strs l⟩, fun x hx => ?_⟩
  · obtain ⟨s, _, rfl⟩ := List.mem_map.mp hx
    obtain ⟨t, _, rfl⟩ := List.mem_map.mp hy
    rfl
  · obtain ⟨s, _, rfl⟩ := List.mem_map.mp hx
    rw [PyData.depth]; omega
theorem setOk_ints {l : List Int} (h : l.length < 64) : setOk (l.map .int) = true := by
  simp only [setOk, allAlike, Bool.and_eq_true, List.all_eq_true, decide_eq_true_eq]
  refine ⟨⟨⟨by simpa using h, fun x hx y hy => ?_⟩, fun x hx => ?_⟩, fun x hx => ?_⟩
  · obtain ⟨s, _, rfl⟩ := List.mem_map.mp hx
    obtain ⟨t, _, rfl⟩ := List.mem_map.mp hy
    rfl
  · obtain ⟨s, _, rfl⟩ := List.mem_map.mp hx; rfl
  · obtain ⟨s, _, rfl⟩ := List.mem_map.mp hx
    rw [PyData.depth]; omega
theorem strs_lt_total {x y : Str} (h1 : W.dataLt (.str x) (.str y) = false) (h2 : W.dataLt (.str y) (.str x) = false) : x = y := by
  have e : W.keyToks (.str x) = W.keyToks (.str y) := PyProof.Rows.lex_total (O := PyProof.Rows.itemOrd) _ _ h1 h2
  rw [W.keyToks, W.keyToks] at e
  injection e with e
  injection e with e
  exact W.str_of_cps e
theorem tot_strs (l : List Str) : Tot (l.map .str) := by
  intro x hx y hy h1 h2
  obtain ⟨s, _, rfl⟩ := List.mem_map.mp hx
  obtain ⟨t, _, rfl⟩ := List.mem_map.mp hy
  rw [strs_lt_total h1 h2]
theorem mem_strs (x : Str) (l : List Str) : (PyData.str x) ∈ l.map PyData.str ↔ x ∈ l := by
  constructor
  · intro h
    obtain ⟨y, hy, e⟩ := List.mem_map.mp h
    cases e; exact hy
  · exact fun h => List.mem_map.mpr ⟨x, h, rfl⟩
theorem mem_ints (x : Int) (l : List Int) : (PyData.int x) ∈ l.map PyData.int ↔ x ∈ l := by
  constructor
  · intro h
    obtain ⟨y, hy, e⟩ := List.mem_map.mp h
    cases e; exact hy
  · exact fun h => List.mem_map.mpr ⟨x, h, rfl⟩
theorem uniq_same {α : Type} (φ : α → D) {l m : List α} (tl : Tot (l.map φ)) (tm : Tot (m.map φ)) (h : ∀ x, x ∈ l ↔ x ∈ m) : uniqD (l.map φ) = uniqD (m.map φ) := by
  refine Rise.ext (uniqD_rise _) (uniqD_rise _) fun x => ?_
  rw [uniqD_mem tl, uniqD_mem tm, List.mem_map, List.mem_map]
  constructor
  · rintro ⟨a, ha, e⟩; exact ⟨a, (h a).mp ha, e⟩
  · rintro ⟨a, ha, e⟩; exact ⟨a, (h a).mpr ha, e⟩
theorem uniq_strs {l m : List Str} (h : ∀ x, x ∈ l ↔ x ∈ m) : uniqD (l.map .str) = uniqD (m.map .str) := uniq_same _ (tot_strs l) (tot_strs m) h
theorem uniq_intS {l m : List Int} (h : ∀ x, x ∈ l ↔ x ∈ m) : uniqD (l.map .int) = uniqD (m.map .int) := uniq_same _ (tot_ints l) (tot_ints m) h
theorem nd_strs {l : List Str} (h : l.Nodup) : (l.map PyData.str).Nodup := List.pairwise_map.mpr (h.imp fun {a b} n e => n (by cases e; rfl))
theorem sort_strs {l m : List Str} (nd : l.Nodup) (h : ∀ x, x ∈ l ↔ x ∈ m) : sortD (l.map .str) = uniqD (m.map .str) := by
  refine uniq_eq (tot_strs m) (nd_strs nd) fun x => ?_
  rw [List.mem_map, List.mem_map]
  constructor
  · rintro ⟨a, ha, e⟩; exact ⟨a, (h a).mp ha, e⟩
  · rintro ⟨a, ha, e⟩; exact ⟨a, (h a).mpr ha, e⟩
theorem uniq_back (l : List Str) : ∃ m : List Str, uniqD (l.map .str) = m.map .str ∧ m.Nodup ∧ ∀ x, x ∈ m ↔ x ∈ l := by
  obtain ⟨m, e⟩ := mapped (fun s : Str => (.str s : D)) (xs := uniqD (l.map .str)) fun x hx => by
    obtain ⟨s, _, e⟩ := List.mem_map.mp (uniqD_sub _ x hx); exact ⟨s, e.symm⟩
  refine ⟨m, e, ?_, fun x => ?_⟩
  · have r := uniqD_rise (l.map .str)
    rw [e] at r
    exact (List.pairwise_map.mp r).imp fun {a b} h z => by subst z; rw [dLt_irrefl] at h; cases h
  · have q := uniqD_mem (tot_strs l) (.str x)
    rw [e, mem_strs, mem_strs] at q
    exact q
theorem addD_len (x : D) : ∀ l : List D, (addD x l).length ≤ l.length + 1
  | [] => Nat.le_refl _
  | y :: l => by
    have := addD_len x l
    unfold addD
    split
    · simp
    · split
      · simp only [List.length_cons]; omega
      · simp
theorem uniq_len : ∀ xs : List D, (uniqD xs).length ≤ xs.length
  | [] => Nat.le_refl _
  | x :: xs => by
    have h1 := addD_len x (uniqD xs)
    have h2 := uniq_len xs
    show (addD x (uniqD xs)).length ≤ xs.length + 1
    omega
theorem lay_uniq {xs : List D} (h : ∀ x ∈ xs, x.canLay0 = true) : ∀ x ∈ uniqD xs, x.canLay0 = true := fun x hx => h x (uniqD_sub _ x hx)
theorem lay_strD {l : List Str} (h : StrsOk l) : ∀ x ∈ l.map PyData.str, x.canLay0 = true := fun x hx => by
  obtain ⟨s, hs, rfl⟩ := List.mem_map.mp hx
  rw [PyData.canLay0]; exact h s hs
theorem dep_strD (l : List Str) : ∀ x ∈ l.map PyData.str, x.depth = 0 := fun x hx => by
  obtain ⟨s, hs, rfl⟩ := List.mem_map.mp hx
  rw [PyData.depth]
/-- a plain answer: it can be laid, and is not deep -/
def Pl (n : Nat) (d : D) : Prop := d.canLay0 = true ∧ d.depth ≤ n
theorem Pl.mono {n m : Nat} {d : D} (h : Pl n d) (hm : n ≤ m) : Pl m d := ⟨h.1, by have := h.2; omega⟩
theorem Pl.tup {n : Nat} {xs : List D} (h : ∀ x ∈ xs, Pl n x) : Pl (n + 1) (.tuple xs) := ⟨by rw [PyData.canLay0]; exact layAll_of fun x hx => (h x hx).1, by rw [PyData.depth]; have := depthAll_of (n := n) fun x hx => (h x hx).2; omega⟩
theorem Pl.lst {n : Nat} {xs : List D} (h : ∀ x ∈ xs, Pl n x) : Pl (n + 1) (.list xs) := ⟨by rw [PyData.canLay0]; exact layAll_of fun x hx => (h x hx).1, by rw [PyData.depth]; have := depthAll_of (n := n) fun x hx => (h x hx).2; omega⟩
theorem Pl.sq {n : Nat} {b : Bool} {xs : List D} (h : ∀ x ∈ xs, Pl n x) : Pl (n + 1) (sq b xs) := by
  cases b
  · exact Pl.tup h
  · exact Pl.lst h
theorem Pl.int (n : Nat) (i : Int) : Pl n (.int i) := ⟨by rw [PyData.canLay0], by rw [PyData.depth]; omega⟩
theorem Pl.bool (n : Nat) (i : Bool) : Pl n (.bool i) := ⟨by rw [PyData.canLay0], by rw [PyData.depth]; omega⟩
theorem Pl.str (n : Nat) {s : Str} (h : PyData.strOk s = true) : Pl n (.str s) := ⟨by rw [PyData.canLay0]; exact h, by rw [PyData.depth]; omega⟩
theorem Pl.strs (n : Nat) {l : List Str} (h : StrsOk l) : ∀ x ∈ l.map PyData.str, Pl n x := fun x hx => by
  obtain ⟨s, hs, rfl⟩ := List.mem_map.mp hx
  exact Pl.str n (h s hs)
theorem Pl.ints (n : Nat) (l : List Int) : ∀ x ∈ l.map PyData.int, Pl n x := fun x hx => by
  obtain ⟨s, hs, rfl⟩ := List.mem_map.mp hx
  exact Pl.int n s
theorem Pl.uniq {n : Nat} {xs : List D} (h : ∀ x ∈ xs, Pl n x) : Pl (n + 1) (.tuple (uniqD xs)) := Pl.tup fun x hx => h x (uniqD_sub _ x hx)
end EV

set_option linter.all false
set_option maxRecDepth 100000
set_option Elab.async false
namespace K04
open PySem EV
theorem cr0 {I : Xp} (cl : Nat → List D → FRes) (es : Es) (ρ : Ro) (k : W × Ro → Prop) : Ok (EV.ev F cl (.call 0 es) ρ) k = Ok (EV.evCA F cl es none ρ) fun p => Ok (callE f0 (cl 0) p.1 p.2) k := e_call0 F cl 0 es ρ k
theorem cr1 {I : Xp} (cl : Nat → List D → FRes) (es : Es) (ρ : Ro) (k : W × Ro → Prop) : Ok (EV.ev F cl (.call 1 es) ρ) k = Ok (EV.evCA F cl es none ρ) fun p => Ok (callE f1 (cl 1) p.1 p.2) k := e_call0 F cl 1 es ρ k
theorem cr2 {I : Xp} (cl : Nat → List D → FRes) (es : Es) (ρ : Ro) (k : W × Ro → Prop) : Ok (EV.ev F cl (.call 2 es) ρ) k = Ok (EV.evCA F cl es none ρ) fun p => Ok (callE f2 (cl 2) p.1 p.2) k := e_call0 F cl 2 es ρ k
theorem cr3 {I : Xp} (cl : Nat → List D → FRes) (es : Es) (ρ : Ro) (k : W × Ro → Prop) : Ok (EV.ev F cl (.call 3 es) ρ) k = Ok (EV.evCA F cl es none ρ) fun p => Ok (callE f3 (cl 3) p.1 p.2) k := e_call0 F cl 3 es ρ k
theorem cr4 {I : Xp} (cl : Nat → List D → FRes) (es : Es) (ρ : Ro) (k : W × Ro → Prop) : Ok (EV.ev F cl (.call 4 es) ρ) k = Ok (EV.evCA F cl es none ρ) fun p => Ok (callE f4 (cl 4) p.1 p.2) k := e_call0 F cl 4 es ρ k
theorem cr5 {I : Xp} (cl : Nat → List D → FRes) (es : Es) (ρ : Ro) (k : W × Ro → Prop) : Ok (EV.ev F cl (.call 5 es) ρ) k = Ok (EV.evCA F cl es none ρ) fun p => Ok (callE f5 (cl 5) p.1 p.2) k := e_call0 F cl 5 es ρ k
theorem cr6 {I : Xp} (cl : Nat → List D → FRes) (es : Es) (ρ : Ro) (k : W × Ro → Prop) : Ok (EV.ev F cl (.call 6 es) ρ) k = Ok (EV.evCA F cl es none ρ) fun p => Ok (callE f6 (cl 6) p.1 p.2) k := e_call0 F cl 6 es ρ k
theorem cr7 {I : Xp} (cl : Nat → List D → FRes) (es : Es) (ρ : Ro) (k : W × Ro → Prop) : Ok (EV.ev F cl (.call 7 es) ρ) k = Ok (EV.evCA F cl es none ρ) fun p => Ok (callE f7 (cl 7) p.1 p.2) k := e_call0 F cl 7 es ρ k
theorem cr8 {I : Xp} (cl : Nat → List D → FRes) (es : Es) (ρ : Ro) (k : W × Ro → Prop) : Ok (EV.ev F cl (.call 8 es) ρ) k = Ok (EV.evCA F cl es none ρ) fun p => Ok (callE f8 (cl 8) p.1 p.2) k := e_call0 F cl 8 es ρ k
theorem cr9 {I : Xp} (cl : Nat → List D → FRes) (es : Es) (ρ : Ro) (k : W × Ro → Prop) : Ok (EV.ev F cl (.call 9 es) ρ) k = Ok (EV.evCA F cl es none ρ) fun p => Ok (callE f9 (cl 9) p.1 p.2) k := e_call0 F cl 9 es ρ k
theorem cr10 {I : Xp} (cl : Nat → List D → FRes) (es : Es) (ρ : Ro) (k : W × Ro → Prop) : Ok (EV.ev F cl (.call 10 es) ρ) k = Ok (EV.evCA F cl es none ρ) fun p => Ok (callE f10 (cl 10) p.1 p.2) k := e_call0 F cl 10 es ρ k
theorem cr11 {I : Xp} (cl : Nat → List D → FRes) (es : Es) (ρ : Ro) (k : W × Ro → Prop) : Ok (EV.ev F cl (.call 11 es) ρ) k = Ok (EV.evCA F cl es none ρ) fun p => Ok (callE f11 (cl 11) p.1 p.2) k := e_call0 F cl 11 es ρ k
theorem cr12 {I : Xp} (cl : Nat → List D → FRes) (es : Es) (ρ : Ro) (k : W × Ro → Prop) : Ok (EV.ev F cl (.call 12 es) ρ) k = Ok (EV.evCA F cl es none ρ) fun p => Ok (callE f12 (cl 12) p.1 p.2) k := e_call0 F cl 12 es ρ k
theorem cr13 {I : Xp} (cl : Nat → List D → FRes) (es : Es) (ρ : Ro) (k : W × Ro → Prop) : Ok (EV.ev F cl (.call 13 es) ρ) k = Ok (EV.evCA F cl es none ρ) fun p => Ok (callE f13 (cl 13) p.1 p.2) k := e_call0 F cl 13 es ρ k
theorem cr14 {I : Xp} (cl : Nat → List D → FRes) (es : Es) (ρ : Ro) (k : W × Ro → Prop) : Ok (EV.ev F cl (.call 14 es) ρ) k = Ok (EV.evCA F cl es (some 0) ρ) fun p => Ok (callE f14 (cl 14) p.1 p.2) k := e_call0 F cl 14 es ρ k
theorem cr15 {I : Xp} (cl : Nat → List D → FRes) (es : Es) (ρ : Ro) (k : W × Ro → Prop) : Ok (EV.ev F cl (.call 15 es) ρ) k = Ok (EV.evCA F cl es none ρ) fun p => Ok (callE f15 (cl 15) p.1 p.2) k := e_call0 F cl 15 es ρ k
theorem cr16 {I : Xp} (cl : Nat → List D → FRes) (es : Es) (ρ : Ro) (k : W × Ro → Prop) : Ok (EV.ev F cl (.call 16 es) ρ) k = Ok (EV.evCA F cl es (some 0) ρ) fun p => Ok (callE f16 (cl 16) p.1 p.2) k := e_call0 F cl 16 es ρ k
theorem cr17 {I : Xp} (cl : Nat → List D → FRes) (es : Es) (ρ : Ro) (k : W × Ro → Prop) : Ok (EV.ev F cl (.call 17 es) ρ) k = Ok (EV.evCA F cl es none ρ) fun p => Ok (callE f17 (cl 17) p.1 p.2) k := e_call0 F cl 17 es ρ k
theorem cr18 {I : Xp} (cl : Nat → List D → FRes) (es : Es) (ρ : Ro) (k : W × Ro → Prop) : Ok (EV.ev F cl (.call 18 es) ρ) k = Ok (EV.evCA F cl es none ρ) fun p => Ok (callE f18 (cl 18) p.1 p.2) k := e_call0 F cl 18 es ρ k
theorem cr19 {I : Xp} (cl : Nat → List D → FRes) (es : Es) (ρ : Ro) (k : W × Ro → Prop) : Ok (EV.ev F cl (.call 19 es) ρ) k = Ok (EV.evCA F cl es (some 0) ρ) fun p => Ok (callE f19 (cl 19) p.1 p.2) k := e_call0 F cl 19 es ρ k
theorem cr20 {I : Xp} (cl : Nat → List D → FRes) (es : Es) (ρ : Ro) (k : W × Ro → Prop) : Ok (EV.ev F cl (.call 20 es) ρ) k = Ok (EV.evCA F cl es (some 0) ρ) fun p => Ok (callE f20 (cl 20) p.1 p.2) k := e_call0 F cl 20 es ρ k
theorem cr21 {I : Xp} (cl : Nat → List D → FRes) (es : Es) (ρ : Ro) (k : W × Ro → Prop) : Ok (EV.ev F cl (.call 21 es) ρ) k = Ok (EV.evCA F cl es (some 0) ρ) fun p => Ok (callE f21 (cl 21) p.1 p.2) k := e_call0 F cl 21 es ρ k
theorem cr22 {I : Xp} (cl : Nat → List D → FRes) (es : Es) (ρ : Ro) (k : W × Ro → Prop) : Ok (EV.ev F cl (.call 22 es) ρ) k = Ok (EV.evCA F cl es none ρ) fun p => Ok (callE f22 (cl 22) p.1 p.2) k := e_call0 F cl 22 es ρ k
theorem cr23 {I : Xp} (cl : Nat → List D → FRes) (es : Es) (ρ : Ro) (k : W × Ro → Prop) : Ok (EV.ev F cl (.call 23 es) ρ) k = Ok (EV.evCA F cl es none ρ) fun p => Ok (callE f23 (cl 23) p.1 p.2) k := e_call0 F cl 23 es ρ k
theorem cr24 {I : Xp} (cl : Nat → List D → FRes) (es : Es) (ρ : Ro) (k : W × Ro → Prop) : Ok (EV.ev F cl (.call 24 es) ρ) k = Ok (EV.evCA F cl es none ρ) fun p => Ok (callE f24 (cl 24) p.1 p.2) k := e_call0 F cl 24 es ρ k
theorem cr25 {I : Xp} (cl : Nat → List D → FRes) (es : Es) (ρ : Ro) (k : W × Ro → Prop) : Ok (EV.ev F cl (.call 25 es) ρ) k = Ok (EV.evCA F cl es none ρ) fun p => Ok (callE f25 (cl 25) p.1 p.2) k := e_call0 F cl 25 es ρ k
theorem cr26 {I : Xp} (cl : Nat → List D → FRes) (es : Es) (ρ : Ro) (k : W × Ro → Prop) : Ok (EV.ev F cl (.call 26 es) ρ) k = Ok (EV.evCA F cl es none ρ) fun p => Ok (callE f26 (cl 26) p.1 p.2) k := e_call0 F cl 26 es ρ k
theorem cr27 {I : Xp} (cl : Nat → List D → FRes) (es : Es) (ρ : Ro) (k : W × Ro → Prop) : Ok (EV.ev F cl (.call 27 es) ρ) k = Ok (EV.evCA F cl es none ρ) fun p => Ok (callE f27 (cl 27) p.1 p.2) k := e_call0 F cl 27 es ρ k
theorem cr28 {I : Xp} (cl : Nat → List D → FRes) (es : Es) (ρ : Ro) (k : W × Ro → Prop) : Ok (EV.ev F cl (.call 28 es) ρ) k = Ok (EV.evCA F cl es (some 0) ρ) fun p => Ok (callE f28 (cl 28) p.1 p.2) k := e_call0 F cl 28 es ρ k
theorem cr29 {I : Xp} (cl : Nat → List D → FRes) (es : Es) (ρ : Ro) (k : W × Ro → Prop) : Ok (EV.ev F cl (.call 29 es) ρ) k = Ok (EV.evCA F cl es none ρ) fun p => Ok (callE f29 (cl 29) p.1 p.2) k := e_call0 F cl 29 es ρ k
end K04

local macro_rules | `(tactic| and_intros) => `(tactic| ((try dsimp only); (try simp only [↓K04.cr0, ↓K04.cr1, ↓K04.cr2, ↓K04.cr3, ↓K04.cr4, ↓K04.cr5, ↓K04.cr6, ↓K04.cr7, ↓K04.cr8, ↓K04.cr9, ↓K04.cr10, ↓K04.cr11, ↓K04.cr12, ↓K04.cr13, ↓K04.cr14, ↓K04.cr15, ↓K04.cr16, ↓K04.cr17, ↓K04.cr18, ↓K04.cr19, ↓K04.cr20, ↓K04.cr21, ↓K04.cr22, ↓K04.cr23, ↓K04.cr24, ↓K04.cr25, ↓K04.cr26, ↓K04.cr27, ↓K04.cr28, ↓K04.cr29, ↓EV.sq_seq, ↓EV.sq_it, ↓EV.sq_ix, ↓EV.sq_len, ↓EV.sq_list, ↓EV.sq_tuple, ↓EV.sq_in, ↓EV.sq_ni, ↓EV.om_some, ↓EV.ok_ofM, ↓EV.og_s, ↓EV.og_dat, ↓EV.og_own, ↓EV.og_io, ↓EV.ol_s, ↓EV.ol_dat, ↓EV.ol_own, ↓EV.os_s, ↓EV.os_nd, ↓EV.os_nn, ↓EV.os_dd, ↓EV.os_dn, ↓EV.os_od, ↓EV.os_on, ↓EV.or_slot, ↓EV.or_dat, ↓EV.or_new, ↓EV.ors_nil, ↓EV.ors_cons, ↓EV.ow_dat, ↓EV.ow_new, ↓EV.ob_bool, ↓EV.oi_true, ↓EV.oi_false, ↓EV.oz0, ↓EV.oz1, ↓EV.oz2, ↓EV.oz3, ↓EV.oz4, ↓EV.oz5, ↓EV.oz6, ↓EV.oz7, ↓EV.oz8, ↓EV.oz9, ↓EV.oz10, ↓EV.oz11, ↓EV.oz12, ↓EV.oz13, ↓EV.oz14, ↓EV.oz15, ↓EV.oz16, ↓EV.oz17, ↓EV.oz18, ↓EV.oz19, ↓EV.oz20, ↓EV.oz21, ↓EV.oz22, ↓EV.oz23, ↓EV.oz24, ↓EV.oz25, ↓EV.oz26, ↓EV.oz27, ↓EV.oz28, ↓EV.oz29, ↓EV.oz30, ↓EV.oz31, ↓EV.oz32, ↓EV.oz33, ↓EV.oz34, ↓EV.oz35, ↓EV.oz36, ↓EV.oz37, ↓EV.oz38, ↓EV.oz39, ↓EV.e_var, ↓EV.e_cst, ↓EV.e_glo, ↓EV.e_op2, ↓EV.e_op1, ↓EV.e_bop, ↓EV.e_bop1, ↓EV.e_bopT, ↓EV.e_bopF, ↓EV.e_not, ↓EV.on_t, ↓EV.on_f, ↓EV.e_ite, ↓EV.e_orT, ↓EV.e_tup, ↓EV.e_lst, ↓EV.e_idx, ↓EV.e_slc, ↓EV.e_rev, ↓EV.e_bi, ↓EV.e_isi, ↓EV.e_rep,  ↓EV.e_calz, ↓EV.e_comp, ↓EV.e_meth, ↓EV.oo_s, ↓EV.oo_z, ↓EV.l_nil, ↓EV.l_cons, ↓EV.a_nil, ↓EV.a_cons, ↓EV.c_nil, ↓EV.c_cons0, ↓EV.c_consN, ↓EV.i_no, ↓EV.i_yes, ↓EV.cc_no, ↓EV.cc_yes, ↓EV.t_test, ↓EV.t_dat, ↓EV.it_seq, ↓EV.it_r1, ↓EV.it_r2, ↓EV.it_dn, ↓EV.it_en, ↓EV.it_zp, ↓EV.bk_one, ↓EV.bk_many, ↓EV.bk_two, ↓EV.bk_z, ↓EV.bk_s, ↓EV.pi_none, ↓EV.pi_io, ↓EV.pi_own, ↓EV.bnd_one, ↓EV.bnd_many, ↓EV.m_app, ↓EV.m_s, ↓EV.m_pop0, ↓EV.p_var, ↓EV.pd_var, ↓EV.p_cst, ↓EV.pd_cst, ↓EV.p_op2, ↓EV.pd_op2, ↓EV.p_op1, ↓EV.pd_op1, ↓EV.p_chain, ↓EV.pd_chain, ↓EV.p_bop, ↓EV.pd_bop, ↓EV.p_not, ↓EV.pd_not, ↓EV.p_orT, ↓EV.pd_orT, ↓EV.p_ite, ↓EV.pd_ite, ↓EV.p_tup, ↓EV.pd_tup, ↓EV.p_lst, ↓EV.pd_lst, ↓EV.p_idx, ↓EV.pd_idx, ↓EV.p_slc, ↓EV.pd_slc, ↓EV.p_call, ↓EV.pd_call, ↓EV.p_bi, ↓EV.pd_bi, ↓EV.p_rep, ↓EV.pd_rep, ↓EV.p_isi, ↓EV.pd_isi, ↓EV.p_comp, ↓EV.pd_comp, ↓EV.p_comp2, ↓EV.pd_comp2, ↓EV.p_meth, ↓EV.pd_meth, ↓EV.p_rev, ↓EV.pd_rev, ↓EV.p_glo, ↓EV.pd_glo, ↓EV.p_call0, ↓EV.pd_call0, ↓EV.p_callK, ↓EV.pd_callK, ↓EV.s_nil, ↓EV.s_asg, ↓EV.s_asgT, ↓EV.ot_tup, ↓EV.oss_nil, ↓EV.oss_cons, ↓EV.s_par, ↓EV.osw_nil, ↓EV.osw_cons, ↓EV.ws_nil, ↓EV.ws_cons, ↓EV.s_sub, ↓EV.ols_s, ↓EV.ols_own, ↓EV.ols_io, ↓EV.ou_s, ↓EV.ou_own, ↓EV.ou_io, ↓EV.ox_s, ↓EV.ox_z, ↓EV.s_expr, ↓EV.s_ret, ↓EV.s_retN, ↓EV.s_ite, ↓EV.s_for, ↓EV.kn_next, ↓EV.kn_ret, ↓EV.rt_var, ↓EV.ort_s, ↓EV.ort_dat, ↓EV.ort_own, ↓EV.rt_cst, ↓EV.rt_op2, ↓EV.rt_op1, ↓EV.rt_chain, ↓EV.rt_bop, ↓EV.rt_not, ↓EV.rt_orT, ↓EV.rt_ite, ↓EV.rt_tup, ↓EV.rt_lst, ↓EV.rt_idx, ↓EV.rt_slc, ↓EV.rt_call, ↓EV.rt_bi, ↓EV.rt_rep, ↓EV.rt_isi, ↓EV.rt_comp, ↓EV.rt_comp2, ↓EV.rt_meth, ↓EV.rt_rev, ↓EV.rt_glo, ↓EV.rt_call0, ↓EV.rt_callK, ↓EV.fin_ret, ↓EV.fin_next, ↓EV.oe_none, ↓EV.oe_z, ↓EV.d_add, ↓EV.d_sub, ↓EV.d_le, ↓EV.d_gt, ↓EV.d_ge, ↓EV.d_mod, ↓EV.d_fdiv, ↓EV.d_mul, ↓EV.d_addL, ↓EV.d_addT, ↓EV.d_lt, ↓EV.d_p18, ↓EV.d_eqI, ↓EV.d_neI, ↓EV.d_eqS, ↓EV.d_neS, ↓EV.d_eqBB, ↓EV.d_neBB, ↓EV.oi_self, ↓EV.d_inL, ↓EV.d_inT, ↓EV.d_niL, ↓EV.d_niT, ↓EV.d_neg, ↓EV.d_truB, ↓EV.d_truL, ↓EV.d_isN, ↓EV.d_notN, ↓EV.d_lenL, ↓EV.d_lenT, ↓EV.d_abs, ↓EV.d_intI, ↓EV.d_intB, ↓EV.d_listL, ↓EV.d_listT, ↓EV.d_listS, ↓EV.d_tupL, ↓EV.d_tupT, ↓EV.d_sort, ↓EV.d_ssL, ↓EV.d_ssT, ↓EV.d_slL, ↓EV.d_slT, ↓EV.d_rvT, ↓EV.d_rvL, ↓EV.d_ixL, ↓EV.d_ixT, ↓EV.d_at0, ↓EV.d_ix0, ↓EV.d_at1, ↓EV.d_ix1, ↓EV.d_at2, ↓EV.d_ix2, ↓EV.d_at3, ↓EV.d_ix3, ↓EV.d_int, ↓EV.d_seqL, ↓EV.d_seqT, ↓EV.d_itL, ↓EV.d_itT, ↓EV.d_zL, ↓EV.d_zT, ↓EV.d_r1, ↓EV.d_r2, ↓EV.d_rD, ↓EV.h_int_dict, ↓EV.h_int_int, ↓EV.h_int_bool, ↓EV.h_int_str, ↓EV.h_int_list, ↓EV.h_int_tuple, ↓EV.h_int_none, ↓EV.h_bool_dict, ↓EV.h_bool_int, ↓EV.h_bool_bool, ↓EV.h_bool_str, ↓EV.h_bool_list, ↓EV.h_bool_tuple, ↓EV.h_bool_none, ↓EV.h_str_dict, ↓EV.h_str_int, ↓EV.h_str_bool, ↓EV.h_str_str, ↓EV.h_str_list, ↓EV.h_str_tuple, ↓EV.h_str_none, ↓EV.h_list_dict, ↓EV.h_list_int, ↓EV.h_list_bool, ↓EV.h_list_str, ↓EV.h_list_list, ↓EV.h_list_tuple, ↓EV.h_list_none, ↓EV.h_tuple_dict, ↓EV.h_tuple_int, ↓EV.h_tuple_bool, ↓EV.h_tuple_str, ↓EV.h_tuple_list, ↓EV.h_tuple_tuple, ↓EV.h_tuple_none, ↓EV.h_lt_int, ↓EV.h_bs_int, ↓EV.h_lt_bool, ↓EV.h_bs_bool, ↓EV.h_lt_str, ↓EV.h_bs_str, ↓EV.h_lt_list, ↓EV.h_bs_list, ↓EV.h_lt_tuple, ↓EV.h_bs_tuple, ↓EV.h_lt_dict, ↓EV.h_bs_dict, ↓EV.h_lt_none, ↓EV.h_bs_none, ↓EV.d_rep, ↓EV.ln_0_0, ↓EV.nl_0_0, ↓EV.ln_0_1, ↓EV.nl_0_1, ↓EV.ln_0_2, ↓EV.nl_0_2, ↓EV.ln_0_3, ↓EV.nl_0_3, ↓EV.n23_0, ↓EV.ln_1_0, ↓EV.nl_1_0, ↓EV.ln_1_1, ↓EV.nl_1_1, ↓EV.ln_1_2, ↓EV.nl_1_2, ↓EV.ln_1_3, ↓EV.nl_1_3, ↓EV.n23_1, ↓EV.ln_2_0, ↓EV.nl_2_0, ↓EV.ln_2_1, ↓EV.nl_2_1, ↓EV.ln_2_2, ↓EV.nl_2_2, ↓EV.ln_2_3, ↓EV.nl_2_3, ↓EV.n23_2, ↓EV.ln_3_0, ↓EV.nl_3_0, ↓EV.ln_3_1, ↓EV.nl_3_1, ↓EV.ln_3_2, ↓EV.nl_3_2, ↓EV.ln_3_3, ↓EV.nl_3_3, ↓EV.n23_3, ↓EV.ln_4_0, ↓EV.nl_4_0, ↓EV.ln_4_1, ↓EV.nl_4_1, ↓EV.ln_4_2, ↓EV.nl_4_2, ↓EV.ln_4_3, ↓EV.nl_4_3, ↓EV.n23_4, ↓EV.lit_0_0, ↓EV.lit_0_1, ↓EV.lit_0_2, ↓EV.lit_0_3, ↓EV.lit_1_0, ↓EV.lit_1_1, ↓EV.lit_1_2, ↓EV.lit_1_3, ↓EV.lit_2_0, ↓EV.lit_2_1, ↓EV.lit_2_2, ↓EV.lit_2_3, ↓EV.lit_3_0, ↓EV.lit_3_1, ↓EV.lit_3_2, ↓EV.lit_3_3, ↓EV.e_chain, ↓EV.s_raiseN, ↓EV.s_raiseY, ↓EV.s_try, ↓EV.s_while, ↓EV.x_mk, ↓EV.x_nil, ↓EV.x_cons])))
set_option linter.all false
set_option maxRecDepth 100000
set_option Elab.async false
/-! k04: the shared defs -/
namespace K04
open PySem EV
theorem take_ok {m : Nat} {b : List D} {j : Int} (hb : Bx m b) (hm : m < 2 ^ 40) (hj : 0 < j) (hj2 : j < 1000) :
    Run F 1 14 [.list b, .int j] fun w io => ∃ (k : Int) (b' : List D), w = .dat (.int k) ∧ io = some b' ∧ Bx (m + 1) b' ∧ 0 ≤ k ∧ k < j := by
  obtain ⟨a, c, n, rfl, h2, h3, h4, h5⟩ := hb
  refine Run.of (fn := f14) rfl rfl rfl fun N hN => ?_
  show Ok (EV.execs F (callN F N) b14 [some (.io [.int a, .int c, .int n]), some (.dat (.int j)), none, none, none, none]) (Fin (some 0) _)
  unfold b14
  and_intros
  refine ⟨fun h => ?_, fun h => ?_⟩
  · exact ⟨hj, ⟨hj, by omega⟩, _, _, rfl, rfl, ⟨_, _, _, rfl, h2, h3, h4, by omega⟩, Int.emod_nonneg _ (by omega), Int.emod_lt_of_pos _ hj⟩
  · refine ⟨by simp [small64], ?_, by decide, by decide, by decide, ?_, by decide, by simp [small64], by decide, by decide, hj, _, _, rfl, rfl, ⟨_, _, _, rfl, h2, h3, by omega, by omega⟩, Int.emod_nonneg _ (by omega), Int.emod_lt_of_pos _ hj⟩
    · simp only [small64, Bool.or_eq_true, Bool.and_eq_true, decide_eq_true_eq]
      left; constructor <;> omega
    · simp only [small64, Bool.or_eq_true, Bool.and_eq_true, decide_eq_true_eq]
      right; constructor <;> omega
theorem box_ok (cs : List Int) (k : Nat) (hk : k < 100) : Run F 1 13 [.list (cs.map .int), .int k] fun w io => ∃ b, w = .new b ∧ io = none ∧ Bx 0 b := by
  refine Run.of (fn := f13) rfl rfl rfl fun N hN => ?_
  show Ok (EV.execs F (callN F N) b13 [some (.dat (.list (cs.map .int))), some (.dat (.int k)), none]) (Fin none _)
  unfold b13
  and_intros
  refine ⟨fun h => ?_, fun h => ?_⟩
  · have h := of_decide_eq_true h
    rw [List.length_map] at h
    rw [om_atI cs k (by omega)]
    and_intros
    refine ⟨by rw [Bool.or_eq_true]; exact .inr (small_b2i _), by decide, by simp [small64], _, rfl, trivial, _, _, _, rfl, ?_, ?_, by omega, by omega⟩
    · have := Int.emod_nonneg (cs[k]'(by omega)) (b := 2305843009213693951) (by decide); omega
    · have := Int.emod_lt_of_pos (cs[k]'(by omega)) (b := 2305843009213693951) (by decide); omega
  · refine ⟨by rw [Bool.or_eq_true]; exact .inr (small_b2i _), by decide, by simp [small64], _, rfl, trivial, _, _, _, rfl, ?_, ?_, by omega, by omega⟩ <;> omega
theorem tupled_ok : ∀ (n : Nat) (d : D), d.depth ≤ n → Run F (n + 1) 0 [d] fun w io => w = .dat (tupD d) ∧ io = none := by
  intro n
  induction n with
  | zero =>
    intro d hd
    refine Run.of (fn := f0) rfl rfl rfl fun N hN => ?_
    show Ok (EV.execs F (callN F N) b0 [some (.dat d), none]) (Fin none _)
    unfold b0
    cases d with
    | list xs => rw [PyData.depth] at hd; omega
    | tuple xs => rw [PyData.depth] at hd; omega
    | dict xs => rw [PyData.depth] at hd; omega
    | _ => and_intros; exact ⟨rfl, trivial⟩
  | succ n ih =>
    intro d hd
    refine Run.of (fn := f0) rfl rfl rfl fun N hN => ?_
    show Ok (EV.execs F (callN F N) b0 [some (.dat d), none]) (Fin none _)
    unfold b0
    have main : ∀ (e : D) (xs : List D), (∀ x ∈ xs, x.depth ≤ n) → Ok (compL (bindT (.one 1)) (EV.evC F (callN F N) .no) (datOf (EV.ev F (callN F N) (.call 0 (.cons (.var 1) .nil)))) [1] xs [some (.dat e), none] []) fun q => q = (xs.map tupD, [some (.dat e), none]) := by
      intro e xs hx
      refine comp_pure _ (fun x => some (tupD x)) _ _ (fun x hm => ?_) (by rw [fm_some]; rfl)
      and_intros
      refine call_ok rfl rfl rfl (ih x (hx x hm) N hN) ?_
      rintro w r ⟨rfl, rfl⟩
      and_intros
      exact ⟨rfl, trivial⟩
    cases d with
    | list xs =>
      rw [PyData.depth] at hd
      and_intros
      refine Ok.mono (main _ xs fun x hx => by have := depth_mem hx; omega) ?_
      rintro q rfl
      and_intros
      exact ⟨by rw [tupD, tupDs_map], trivial⟩
    | tuple xs =>
      rw [PyData.depth] at hd
      and_intros
      refine Ok.mono (main _ xs fun x hx => by have := depth_mem hx; omega) ?_
      rintro q rfl
      and_intros
      exact ⟨by rw [tupD, tupDs_map], trivial⟩
    | dict xs => and_intros; exact ⟨rfl, trivial⟩
    | _ => and_intros; exact ⟨rfl, trivial⟩
theorem lists_ok : ∀ (n : Nat) (d : D), d.depth ≤ n → Run F (n + 1) 18 [d] fun w io => w.d = lisD d ∧ io = none := by
  intro n
  induction n with
  | zero =>
    intro d hd
    refine Run.of (fn := f18) rfl rfl rfl fun N hN => ?_
    show Ok (EV.execs F (callN F N) b18 [some (.dat d), none]) (Fin none _)
    unfold b18
    cases d with
    | list xs => rw [PyData.depth] at hd; omega
    | tuple xs => rw [PyData.depth] at hd; omega
    | dict xs => rw [PyData.depth] at hd; omega
    | _ => and_intros; exact ⟨rfl, trivial⟩
  | succ n ih =>
    intro d hd
    refine Run.of (fn := f18) rfl rfl rfl fun N hN => ?_
    show Ok (EV.execs F (callN F N) b18 [some (.dat d), none]) (Fin none _)
    unfold b18
    have main : ∀ (e : D) (xs : List D), (∀ x ∈ xs, x.depth ≤ n) → Ok (compL (bindT (.one 1)) (EV.evC F (callN F N) .no) (datOf (EV.ev F (callN F N) (.call 18 (.cons (.var 1) .nil)))) [1] xs [some (.dat e), none] []) fun q => q = (xs.map lisD, [some (.dat e), none]) := by
      intro e xs hx
      refine comp_pure _ (fun x => some (lisD x)) _ _ (fun x hm => ?_) (by rw [fm_some]; rfl)
      and_intros
      refine call_ok rfl rfl rfl (ih x (hx x hm) N hN) ?_
      rintro w r ⟨hw, rfl⟩
      and_intros
      exact ⟨rfl, congrArg some hw.symm⟩
    cases d with
    | list xs =>
      rw [PyData.depth] at hd
      and_intros
      refine Ok.mono (main _ xs fun x hx => by have := depth_mem hx; omega) ?_
      rintro q rfl
      and_intros
      exact ⟨by rw [lisD, lisDs_map]; rfl, trivial⟩
    | tuple xs =>
      rw [PyData.depth] at hd
      and_intros
      refine Ok.mono (main _ xs fun x hx => by have := depth_mem hx; omega) ?_
      rintro q rfl
      and_intros
      exact ⟨by rw [lisD, lisDs_map]; rfl, trivial⟩
    | dict xs => and_intros; exact ⟨rfl, trivial⟩
    | _ => and_intros; exact ⟨rfl, trivial⟩
theorem set_of_ok (xs : List D) (h : setOk xs = true) : Run F 1 1 [.list xs] fun w io => w = .dat (.tuple (uniqD xs)) ∧ io = none := by
  refine Run.of (fn := f1) rfl rfl rfl fun N hN => ?_
  show Ok (EV.execs F (callN F N) b1 [some (.dat (.list xs))]) (Fin none _)
  unfold b1
  and_intros
  refine ⟨h, ?_⟩
  (first | exact ⟨rfl, trivial⟩ | exact ⟨trivial, trivial⟩ | exact ⟨rfl, rfl⟩ | trivial)
theorem same_ok : ∀ (n : Nat) (d : D), d.depth ≤ n → d.canLay0 = true → Run F (n + 1) 17 [d, d] fun w io => w = .dat (.bool true) ∧ io = none := by
  intro n
  induction n with
  | zero =>
    intro d hd hl
    refine Run.of (fn := f17) rfl rfl rfl fun N hN => ?_
    show Ok (EV.execs F (callN F N) b17 [some (.dat d), some (.dat d), none, none]) (Fin none _)
    unfold b17
    cases d with
    | list xs => rw [PyData.depth] at hd; omega
    | tuple xs => rw [PyData.depth] at hd; omega
    | dict xs => rw [PyData.depth] at hd; omega
    | int i => and_intros; simp only [isNone]; and_intros; simp
    | str s =>
      have hs := lay_str hl
      and_intros; simp only [isNone]; and_intros; simp only [hs, Bool.and_self, true_and]; simp [OI]
    | bool b => and_intros; simp only [isNone]; and_intros; (first | exact ⟨rfl, trivial⟩ | exact ⟨trivial, trivial⟩ | exact ⟨rfl, rfl⟩ | trivial)
    | none => and_intros; simp only [isNone]; and_intros; rw [om_eq]; refine ⟨rfl, ?_⟩; and_intros; exact ⟨fun _ => by (first | exact ⟨rfl, trivial⟩ | exact ⟨trivial, trivial⟩ | exact ⟨rfl, rfl⟩ | trivial), fun h => by simp [PyData.eqv] at h⟩
  | succ n ih =>
    intro d hd hl
    have main : ∀ xs : List D, (∀ x ∈ xs, x.depth ≤ n) → (∀ x ∈ xs, x.canLay0 = true) → ∀ N, n + 1 ≤ N → ∀ (e : D) (K : List D × Ro → Prop), K (xs.map (fun _ => .bool true), [some (.dat e), some (.dat e), none, none]) →
        Ok (compL (bindT (.many [2, 3])) (EV.evC F (callN F N) .no) (datOf (EV.ev F (callN F N) (.call 17 (.cons (.var 2) (.cons (.var 3) .nil))))) [2, 3] (zipD xs xs) [some (.dat e), some (.dat e), none, none] []) K := by
      intro xs h1 h2 N hN e K hK
      rw [zip_self]
      refine comp_map (fun x : D => .tuple [x, x]) [some (.dat e), some (.dat e), none, none] (fun x => some (.bool true)) _ _ (fun x hx => ?_) ?_
      · and_intros
        refine call_ok rfl rfl rfl (ih x (h1 x hx) (h2 x hx) N hN) ?_
        rintro w r ⟨rfl, rfl⟩
        and_intros
        (first | exact ⟨rfl, trivial⟩ | exact ⟨trivial, trivial⟩ | exact ⟨rfl, rfl⟩ | trivial)
      · rw [fm_some, List.nil_append]
        exact hK
    refine Run.of (fn := f17) rfl rfl rfl fun N hN => ?_
    show Ok (EV.execs F (callN F N) b17 [some (.dat d), some (.dat d), none, none]) (Fin none _)
    unfold b17
    cases d with
    | list xs =>
      rw [PyData.depth] at hd
      rw [PyData.canLay0] at hl
      and_intros
      refine main xs (fun x hx => by have := depth_mem hx; omega) (fun x hx => lay_mem hl hx) N hN _ _ ?_
      and_intros
      rw [om_all (fun _ => true)]
      and_intros
      simp
    | tuple xs =>
      rw [PyData.depth] at hd
      rw [PyData.canLay0] at hl
      and_intros
      refine main xs (fun x hx => by have := depth_mem hx; omega) (fun x hx => lay_mem hl hx) N hN _ _ ?_
      and_intros
      rw [om_all (fun _ => true)]
      and_intros
      simp
    | dict xs => rw [PyData.canLay0] at hl; cases hl
    | int i => and_intros; simp only [isNone]; and_intros; simp
    | str s =>
      have hs := lay_str hl
      and_intros; simp only [isNone]; and_intros; simp only [hs, Bool.and_self, true_and]; simp [OI]
    | bool b => and_intros; simp only [isNone]; and_intros; (first | exact ⟨rfl, trivial⟩ | exact ⟨trivial, trivial⟩ | exact ⟨rfl, rfl⟩ | trivial)
    | none => and_intros; simp only [isNone]; and_intros; rw [om_eq]; refine ⟨rfl, ?_⟩; and_intros; exact ⟨fun _ => by (first | exact ⟨rfl, trivial⟩ | exact ⟨trivial, trivial⟩ | exact ⟨rfl, rfl⟩ | trivial), fun h => by simp [PyData.eqv] at h⟩
theorem of_ok {m : Nat} {b : List D} (hb : Bx m b) (hm : m < 2 ^ 40) {xs : List D} (h0 : xs ≠ []) (h1 : xs.length < 1000) (p : D) (hp : p = .tuple xs ∨ p = .list xs) :
    Run F 2 16 [.list b, p] fun w io => ∃ (x : D) (b' : List D), w = .dat x ∧ io = some b' ∧ Bx (m + 1) b' ∧ x ∈ xs := by
  refine Run.of (fn := f16) rfl rfl rfl fun N hN => ?_
  show Ok (EV.execs F (callN F N) b16 [some (.io b), some (.dat p)]) (Fin (some 0) _)
  unfold b16
  have hl : 0 < xs.length := List.length_pos_iff.mpr h0
  rcases hp with rfl | rfl
  · and_intros
    refine call_ok rfl rfl rfl (take_ok hb hm (by omega) (by omega) N hN) ?_
    rintro w r ⟨k, b', rfl, rfl, hb', k0, k1⟩
    and_intros
    rw [at_nat k0 k1]
    refine ⟨_, _, rfl, rfl, hb', ?_⟩
    rw [List.getD_eq_getElem?_getD, List.getElem?_eq_getElem (by omega)]
    exact List.getElem_mem _
  · and_intros
    refine call_ok rfl rfl rfl (take_ok hb hm (by omega) (by omega) N hN) ?_
    rintro w r ⟨k, b', rfl, rfl, hb', k0, k1⟩
    and_intros
    rw [at_nat k0 k1]
    refine ⟨_, _, rfl, rfl, hb', ?_⟩
    rw [List.getD_eq_getElem?_getD, List.getElem?_eq_getElem (by omega)]
    exact List.getElem_mem _
theorem mixed_ok {m : Nat} {b : List D} (hb : Bx m b) {xs : List D} (hm : m + xs.length < 2 ^ 40) (h1 : xs.length < 1000) (p : D) (hp : p = .tuple xs ∨ p = .list xs) :
    Run F 2 19 [.list b, p] fun w io => ∃ (ys b' : List D), w = .new ys ∧ io = some b' ∧ Bx (m + xs.length) b' ∧ ys.Perm xs := by
  refine Run.of (fn := f19) rfl rfl rfl fun N hN => ?_
  show Ok (EV.execs F (callN F N) b19 [some (.io b), some (.dat p), none, none, none]) (Fin (some 0) _)
  unfold b19
  have main : ∀ K : EV.Flow × Ro → Prop, (∀ (b' ys : List D) (v : Option Sv), (Bx (m + xs.length) b' ∧ ys.Perm xs) → K (.next, [some (.io b'), some (.dat p), v, some (.own []), some (.own ys)])) →
      Ok (forL (bindT (.one 2)) (EV.execs F (callN F N) (.cons (.expr (.meth .append 4 (.cons (.meth .popAt 3 (.cons (.call 14 (.cons (.var 0) (.cons (.bi .len (.cons (.var 3) .nil)) .nil))) .nil)) .nil))) .nil)) (rangeD 0 (xs.length : Int)) [some (.io b), some (.dat p), none, some (.own xs), some (.own [])]) K := by
    intro K hK
    refine for_ok (fun l ρ => ∃ (b' rest ys : List D) (v : Option Sv), (v = none ∨ ∃ d, v = some (.dat d)) ∧ ρ = [some (.io b'), some (.dat p), v, some (.own rest), some (.own ys)] ∧ rest.length = l.length ∧ (rest ++ ys).Perm xs ∧ Bx (m + ys.length) b') ?_ ?_ _ _ ⟨b, xs, [], none, .inl rfl, rfl, (range_len _).symm, by simp, hb⟩
    · rintro ρ ⟨b', rest, ys, v, hv, rfl, e, pm, hb'⟩
      have e2 : rest = [] := List.eq_nil_of_length_eq_zero e
      subst e2
      refine hK b' ys v ⟨?_, pm⟩
      have := pm.length_eq
      simp at this
      rw [← this]; exact hb'
    · rintro x l ρ ⟨b', rest, ys, v, hv, rfl, e, pm, hb'⟩
      have el := pm.length_eq
      rw [List.length_append] at el
      rw [List.length_cons] at e
      have go : ∀ v : Option Sv, (v = none ∨ ∃ d, v = some (.dat d)) → OM (bindT (.one 2) x [some (.io b'), some (.dat p), v, some (.own rest), some (.own ys)]) fun ρ1 => ρ1 = [some (.io b'), some (.dat p), some (.dat x), some (.own rest), some (.own ys)] := by
        rintro v (rfl | ⟨d, rfl⟩) <;> and_intros
      have g := go v hv
      cases hbd : bindT (.one 2) x [some (.io b'), some (.dat p), v, some (.own rest), some (.own ys)] with
      | none => rw [hbd] at g; exact g
      | some ρ1 =>
        rw [hbd] at g
        have g : ρ1 = _ := g
        subst g
        show Ok _ _
        and_intros
        refine call_ok rfl rfl rfl (take_ok hb' (by omega) (by omega) (by omega) N hN) ?_
        rintro w r ⟨k, b2, rfl, rfl, hb2, k0, k1⟩
        and_intros
        rw [m_popK _ _ _ _ k0 k1]
        and_intros
        have kl : k.toNat < rest.length := by omega
        refine ⟨by rw [sizeLine_eq]; omega, b2, rest.eraseIdx k.toNat, ys ++ [rest.getD k.toNat .none], _, .inr ⟨_, rfl⟩, rfl, ?_, ?_, ?_⟩
        · rw [List.length_eraseIdx_of_lt kl]; omega
        · have e1 : rest.getD k.toNat .none = rest[k.toNat] := by rw [List.getD_eq_getElem?_getD, List.getElem?_eq_getElem kl]; rfl
          rw [e1]
          refine List.Perm.trans ?_ pm
          have p1 := erase_perm' rest k.toNat kl
          have p2 : (rest.eraseIdx k.toNat ++ (ys ++ [rest[k.toNat]])).Perm (rest[k.toNat] :: rest.eraseIdx k.toNat ++ ys) := by
            rw [← List.append_assoc]
            exact List.perm_append_singleton _ _ |>.trans (by simp)
          exact p2.trans (p1.append_right ys)
        · exact hb2.mono (by simp only [List.length_append, List.length_singleton]; omega)
  have fin : ∀ (b' ys : List D) (v : Option Sv), (Bx (m + xs.length) b' ∧ ys.Perm xs) → KN F (callN F N) (.cons (.ret (.var 4)) .nil) (Fin (some 0) fun w io => ∃ (ys b' : List D), w = .new ys ∧ io = some b' ∧ Bx (m + xs.length) b' ∧ ys.Perm xs) (.next, [some (.io b'), some (.dat p), v, some (.own []), some (.own ys)]) := by
    intro b' ys v h
    and_intros
    exact ⟨ys, b', rfl, rfl, h.1, h.2⟩
  rcases hp with rfl | rfl
  · and_intros
    exact ⟨rng_ok (by omega), main _ fin⟩
  · and_intros
    exact ⟨rng_ok (by omega), main _ fin⟩
def cB : Ss := (.cons (.asg 5 (.op2 .mod (.bi .int (.cons (.var 3) .nil)) (.var 1))) (.cons (.sub 2 (.var 5) (.op2 .add (.idx (.var 2) (.var 5)) (.op2 .mul (.var 4) (.op2 .add (.var 3) (.cst (.int 2)))))) .nil))
theorem cb_ok {N : Nat} (s : D) (K : EV.Flow × Ro → Prop) : ∀ (zs : List (Int × Nat)) (cs : List Int) (v3 v4 v5 : Option Sv), (zs ≠ [] → cs.length = 3) → (∀ p ∈ zs, p.2 < 1000) → Fr v3 → Fr v4 → Fr v5 →
    (∀ (cs' : List Int) (v3 v4 v5 : Option Sv), cs'.length = cs.length → K (.next, [some (.dat s), some (.dat (.int 3)), some (.own (cs'.map .int)), v3, v4, v5])) →
    Ok (forL (bindT (.many [3, 4])) (EV.execs F (callN F N) cB) (zs.map fun p => .tuple [.int p.2, .int p.1]) [some (.dat s), some (.dat (.int 3)), some (.own (cs.map .int)), v3, v4, v5]) K := by
  intro zs
  induction zs with
  | nil =>
    intro cs v3 v4 v5 hc hz h3 h4 h5 hK
    rw [List.map_nil, fl_nil]
    exact hK cs v3 v4 v5 rfl
  | cons p zs ih =>
    intro cs v3 v4 v5 hc hz h3 h4 h5 hK
    have c3 := hc (by simp)
    have pz := hz p List.mem_cons_self
    rw [List.map_cons, fl_cons]
    and_intros
    refine os_d h3 ?_
    and_intros
    refine os_d h4 ?_
    and_intros
    unfold cB
    and_intros
    refine ⟨by decide, ?_⟩
    refine os_d h5 ?_
    and_intros
    have j0 : (0 : Int) ≤ (p.2 : Int) % 3 := Int.emod_nonneg _ (by decide)
    have j1 : (p.2 : Int) % 3 < 3 := Int.emod_lt_of_pos _ (by decide)
    rw [at_nat j0 (by rw [List.length_map]; omega)]
    have eg : (cs.map (fun i => (.int i : D))).getD ((p.2 : Int) % 3).toNat .none = .int (cs.getD ((p.2 : Int) % 3).toNat 0) := by
      rw [List.getD_eq_getElem?_getD, List.getD_eq_getElem?_getD, List.getElem?_map, List.getElem?_eq_getElem (by omega)]; rfl
    rw [eg]
    and_intros
    refine ⟨?_, ?_⟩
    · rw [Bool.or_eq_true]
      right
      simp only [small64, Bool.and_eq_true, decide_eq_true_eq]
      constructor <;> omega
    rw [ixN_at j0 (by rw [List.length_map]; omega)]
    and_intros
    show FLk _ _ _ _ (.next, [some (.dat s), some (.dat (.int 3)), some (.own ((cs.map .int).set ((p.2 : Int) % 3).toNat _)), _, _, _])
    rw [flk_next, ← List.map_set]
    exact ih _ _ _ _ (fun _ => by rw [List.length_set]; exact c3) (fun q hq => hz q (List.mem_cons_of_mem _ hq)) (.d _) (.d _) (.d _) fun cs' v3 v4 v5 e => hK cs' v3 v4 v5 (by rw [e, List.length_set])
theorem cells_ok (ns : List Int) (hn : ns.length ≤ 63) : Run F 1 15 [.list (ns.map .int), .int 3] fun w io => ∃ cs : List Int, w = .new (cs.map .int) ∧ io = none ∧ cs.length ≤ 3 := by
  refine Run.of (fn := f15) rfl rfl rfl fun N hN => ?_
  show Ok (EV.execs F (callN F N) b15 [some (.dat (.list (ns.map .int))), some (.dat (.int 3)), none, none, none, none]) (Fin none _)
  have eb : b15 = .cons (.asg 2 (.orT (.bi .list (.cons (.slc (.var 0) .no (.yes (.var 1))) .nil)) (.lst (.cons (.cst (.int 0)) .nil)))) (.cons (.for_ (.many [3, 4]) (.enum (.slc (.var 0) (.yes (.var 1)) (.yes (.cst (.int 63))))) cB) (.cons (.ret (.var 2)) .nil)) := rfl
  rw [eb]
  have e3 : cutD (ns.map .int) none (some 3) = (ns.take 3).map .int := by
    rw [show (3 : Int) = ((3 : Nat) : Int) from rfl, cut_to, List.map_take]
  obtain ⟨ms, em, hml⟩ : ∃ ms : List Int, cutD (ns.map .int) (some 3) (some 63) = ms.map .int ∧ (ms ≠ [] → 3 ≤ ns.length) := by
    refine ⟨_, cut_map ns (some 3) (some 63), fun h => ?_⟩
    rcases Nat.lt_or_ge ns.length 3 with q | q
    · exact absurd (by
        have e : sIx ns.length 0 (some 3) = ns.length := by
          show (if (3 : Int) < 0 then ((3 : Int) + ns.length).toNat else min (3 : Int).toNat ns.length) = _
          rw [if_neg (by decide)]
          exact Nat.min_eq_right (by show ns.length ≤ 3; omega)
        rw [e, List.drop_length]; simp) h
    · exact q
  have hmz : ms.length ≤ 63 := by
    have := cut_len (ns.map .int) (some 3) (some 63)
    rw [em, List.length_map, List.length_map] at this
    omega
  have ee : enumD (ms.map .int) = ms.zipIdx.map fun p => .tuple [.int p.2, .int p.1] := by
    unfold enumD
    rw [List.zipIdx_map, List.map_map]; rfl
  have hz : ∀ p ∈ ms.zipIdx, p.2 < 1000 := fun p hp => by
    obtain ⟨_, h, _⟩ := List.mem_zipIdx hp
    omega
  have hnil : ms.zipIdx ≠ [] → ms ≠ [] := fun h z => h (by rw [z]; rfl)
  have fin : ∀ (cs cs' : List Int) (v3 v4 v5 : Option Sv), cs.length ≤ 3 → cs'.length = cs.length → KN F (callN F N) (.cons (.ret (.var 2)) .nil) (Fin none fun w io => ∃ cs : List Int, w = .new (cs.map .int) ∧ io = none ∧ cs.length ≤ 3) (.next, [some (.dat (.list (ns.map .int))), some (.dat (.int 3)), some (.own (cs'.map .int)), v3, v4, v5]) := fun cs cs' v3 v4 v5 h1 h2 => by
    and_intros
    exact ⟨cs', rfl, trivial, by omega⟩
  and_intros
  rw [e3]
  cases he : ((ns.take 3).map (fun i => (.int i : D))).isEmpty with
  | true =>
    simp only [Bool.not_true]
    and_intros
    rw [em, ee]
    have n0 : ns = [] := by
      cases ns with
      | nil => rfl
      | cons x xs => simp at he
    refine cb_ok _ _ ms.zipIdx [0] none none none (fun h => by have := hml (hnil h); rw [n0] at this; simp at this) hz .n .n .n fun cs' v3 v4 v5 e => fin [0] cs' v3 v4 v5 (by simp) e
  | false =>
    simp only [Bool.not_false]
    and_intros
    rw [em, ee]
    refine cb_ok _ _ ms.zipIdx (ns.take 3) none none none (fun h => by have := hml (hnil h); rw [List.length_take]; omega) hz .n .n .n fun cs' v3 v4 v5 e => fin (ns.take 3) cs' v3 v4 v5 (List.length_take_le _ _) e
end K04

set_option linter.all false
set_option maxRecDepth 100000
set_option Elab.async false
namespace K04
open PySem EV
structure Sht where
  tags : List Str
  rules : List (List Str × Str)
  keys : List (List Str)
  refs : List (Nat × List Str × List Str)
def ruD (b : Bool) (r : List Str × Str) : D := sq b [sq b (r.1.map .str), .str r.2]
def keD (b : Bool) (l : List Str) : D := sq b (l.map .str)
def reD (b : Bool) (r : Nat × List Str × List Str) : D := sq b [.int r.1, sq b (r.2.1.map .str), sq b (r.2.2.map .str)]
def shD (b : Bool) (s : Sht) : D := sq b [sq b (s.tags.map .str), sq b (s.rules.map (ruD b)), sq b (s.keys.map (keD b)), sq b (s.refs.map (reD b))]
def scD (b : Bool) (S : List Sht) : D := sq b (S.map (shD b))
def cols (S : List Sht) : List Str := S.flatMap (·.tags)
structure ShOk (s : Sht) : Prop where
  tg : StrsOk s.tags
  nd : s.tags.Nodup
  ne : s.tags ≠ []
  tl : s.tags.length ≤ 3
  ru : ∀ r ∈ s.rules, (∀ x ∈ r.1, x ∈ s.tags) ∧ r.2 ∈ s.tags ∧ r.1.length ≤ 3
  ke : ∀ k ∈ s.keys, (∀ x ∈ k, x ∈ s.tags) ∧ k.length ≤ 3
  re : ∀ r ∈ s.refs, StrsOk r.2.1 ∧ StrsOk r.2.2
  rl : s.refs.length ≤ 3
  kl : s.keys.length ≤ 3
structure ScOk (S : List Sht) : Prop where
  len : S.length ≤ 3
  ne : S ≠ []
  sh : ∀ s ∈ S, ShOk s
  nd : (cols S).Nodup
theorem StrsOk.sub {l m : List Str} (h : StrsOk m) (hs : ∀ x ∈ l, x ∈ m) : StrsOk l := fun x hx => h x (hs x hx)
theorem ScOk.cols {S : List Sht} (h : ScOk S) : StrsOk (cols S) := fun x hx => by
  obtain ⟨s, hs, hx⟩ := List.mem_flatMap.mp hx
  exact (h.sh s hs).tg x hx
theorem flat_le {α β : Type} (f : α → List β) (n : Nat) : ∀ l : List α, (∀ a ∈ l, (f a).length ≤ n) → (l.flatMap f).length ≤ n * l.length
  | [], _ => by simp
  | a :: l, h => by
    rw [List.flatMap_cons, List.length_append, List.length_cons, Nat.mul_succ]
    have h1 := h a List.mem_cons_self
    have h2 := flat_le f n l fun b hb => h b (List.mem_cons_of_mem _ hb)
    omega
theorem ScOk.clen {S : List Sht} (h : ScOk S) : (K04.cols S).length ≤ 9 := by
  have := flat_le (·.tags) 3 S fun s hs => (h.sh s hs).tl
  have := h.len
  unfold K04.cols
  omega
/-! ### unlike -/
theorem unlike_ok (p q : Bool) {a c : List Str} (ha : StrsOk a) (hc : StrsOk c) : Run F 1 2 [sq p (a.map .str), sq q (c.map .str)] fun w io => w = .dat (.tuple ((a.filter fun x => !c.contains x).map .str)) ∧ io = none := by
  refine Run.of (fn := f2) rfl rfl rfl fun N hN => ?_
  show Ok (EV.execs F (callN F N) b2 [some (.dat (sq p (a.map .str))), some (.dat (sq q (c.map .str))), none]) (Fin none _)
  unfold b2
  and_intros
  refine comp_map PyData.str [some (.dat (sq p (a.map .str))), some (.dat (sq q (c.map .str))), none] (fun x => if (!c.contains x) = true then some (.str x) else none) _ _ (fun x hx => ?_) ?_
  · and_intros
    rw [inD_str]
    refine ⟨shaped_s (ha x hx) hc, fun h => ?_, fun h => ?_⟩
    · exact ⟨rfl, if_pos h⟩
    · exact ⟨rfl, if_neg (by rw [h]; exact Bool.false_ne_true)⟩
  · rw [filt (fun x => !c.contains x), List.nil_append]
    and_intros
    (first | exact ⟨rfl, trivial⟩ | exact ⟨trivial, trivial⟩ | exact ⟨rfl, rfl⟩ | trivial)
theorem set_strs {l : List Str} (h : l.length < 64) : Run F 1 1 [.list (l.map .str)] fun w io => w = .dat (.tuple (uniqD (l.map .str))) ∧ io = none := set_of_ok _ (setOk_strs h)
/-! ### columns_of -/
theorem columns_ok (b : Bool) {S : List Sht} (h : (cols S).length < 64) : Run F 2 3 [scD b S] fun w io => w = .dat (.tuple (uniqD ((cols S).map .str))) ∧ io = none := by
  refine Run.of (fn := f3) rfl rfl rfl fun N hN => ?_
  show Ok (EV.execs F (callN F N) b3 [some (.dat (scD b S)), none, none]) (Fin none _)
  unfold b3
  and_intros
  rw [e_comp2']
  unfold scD
  and_intros
  have inner : ∀ (s : Sht) (l : List Str) (acc : List D) (K : List D × Ro → Prop), K (acc ++ l.map .str, [some (.dat (sq b (S.map (shD b)))), some (.dat (shD b s)), none]) →
      Ok (compL (bindT (.one 2)) (EV.evC F (callN F N) .no) (datOf (EV.ev F (callN F N) (.var 2))) [2] (l.map .str) [some (.dat (sq b (S.map (shD b)))), some (.dat (shD b s)), none] acc) K := by
    intro s l acc K hK
    refine comp_map PyData.str _ (fun x => some (.str x)) _ _ (fun x hx => ?_) ?_
    · and_intros
      (first | exact ⟨rfl, trivial⟩ | exact ⟨trivial, trivial⟩ | exact ⟨rfl, rfl⟩ | trivial)
    · rw [fm_some]; exact hK
  have main : ∀ (T : List Sht) (acc : List D) (K : List D × Ro → Prop), K (acc ++ (cols T).map .str, [some (.dat (sq b (S.map (shD b)))), none, none]) →
      Ok (compL2 (bindT (.one 1)) (EV.evC F (callN F N) .no) (fun ρ1 acc => (EV.evIt F (callN F N) (.seq (.idx (.var 1) (.cst (.int 0)))) ρ1).bind fun q => compL (bindT (.one 2)) (EV.evC F (callN F N) .no) (datOf (EV.ev F (callN F N) (.var 2))) [2] q.1 (wipeR q.2 [2]) acc) [1, 2] (T.map (shD b)) [some (.dat (sq b (S.map (shD b)))), none, none] acc) K := by
    intro T
    induction T with
    | nil => intro acc K hK; simp [cols] at hK; exact hK
    | cons s T ih =>
      intro acc K hK
      rw [List.map_cons, c2_cons]
      and_intros
      rw [ok_bind]
      have e : shD b s = sq b [sq b (s.tags.map .str), sq b (s.rules.map (ruD b)), sq b (s.keys.map (keD b)), sq b (s.refs.map (reD b))] := rfl
      and_intros
      rw [e]
      and_intros
      rw [← e]
      refine inner s s.tags acc _ ?_
      refine ih _ K ?_
      have e2 : cols (s :: T) = s.tags ++ cols T := rfl
      rw [e2, List.map_append, ← List.append_assoc] at hK
      exact hK
  refine main S [] _ ?_
  dsimp only
  refine ⟨by rw [List.nil_append, List.length_map, sizeLine_eq]; omega, ?_⟩
  show Ok _ _
  and_intros
  refine call_ok rfl rfl rfl (set_strs h N hN) ?_
  rintro w r ⟨rfl, rfl⟩
  and_intros
  (first | exact ⟨rfl, trivial⟩ | exact ⟨trivial, trivial⟩ | exact ⟨rfl, rfl⟩ | trivial)
end K04

set_option linter.all false
set_option maxRecDepth 100000
set_option Elab.async false
namespace K04
open PySem EV
theorem uniq_in (l : List Str) (x : Str) : inD (.str x) (uniqD (l.map .str)) = l.contains x := by
  obtain ⟨m, e, _, h⟩ := uniq_back l
  rw [e, inD_str]
  rw [Bool.eq_iff_iff, List.contains_iff_mem, List.contains_iff_mem]
  exact h x
theorem uniq_shaped {l : List Str} (h : StrsOk l) {x : Str} (hx : PyData.strOk x = true) : (SeqAt.shaped (.str x) && SeqAt.shaped (.tuple (uniqD (l.map .str)))) = true := by
  obtain ⟨m, e, _, hm⟩ := uniq_back l
  rw [e, shaped_lt]
  exact shaped_s hx fun s hs => h s ((hm s).mp hs)
theorem check_columns_ok (b p : Bool) {S : List Sht} (h : ScOk S) {l : List Str} (hl : ∀ x ∈ l, x ∈ cols S) : Run F 3 5 [scD b S, sq p (l.map .str)] fun w io => w = .dat .none ∧ io = none := by
  refine Run.of (fn := f5) rfl rfl rfl fun N hN => ?_
  show Ok (EV.execs F (callN F N) b5 [some (.dat (scD b S)), some (.dat (sq p (l.map .str))), none]) (Fin none _)
  unfold b5
  and_intros
  have main : ∀ (m : List Str) (v : Option Sv) (K : EV.Flow × Ro → Prop), (∀ x ∈ m, x ∈ cols S) → Fr v → (∀ v, K (.next, [some (.dat (scD b S)), some (.dat (sq p (l.map .str))), v])) →
      Ok (forL (bindT (.one 2)) (EV.execs F (callN F N) (.cons (.ite (.op2 .notin (.var 2) (.call 3 (.cons (.var 0) .nil))) (.cons (.raise 0 (.yes (.var 2))) .nil) .nil) .nil)) (m.map .str) [some (.dat (scD b S)), some (.dat (sq p (l.map .str))), v]) K := by
    intro m
    induction m with
    | nil => intro v K _ _ hK; exact hK v
    | cons x m ih =>
      intro v K hm hv hK
      rw [List.map_cons, fl_cons]
      and_intros
      refine os_d hv ?_
      and_intros
      refine call_ok rfl rfl rfl (columns_ok b (by have := h.clen; omega) N (by omega)) ?_
      rintro w r ⟨rfl, rfl⟩
      and_intros
      rw [uniq_in]
      have hx := hm x List.mem_cons_self
      refine ⟨uniq_shaped h.cols (h.cols x hx), ?_⟩
      rw [show (cols S).contains x = true from by rw [List.contains_iff_mem]; exact hx]
      show OI false _ _
      and_intros
      rw [flk_next]
      exact ih _ K (fun y hy => hm y (List.mem_cons_of_mem _ hy)) (.d _) hK
  refine main l none _ hl .n fun v => ?_
  and_intros
  (first | exact ⟨rfl, trivial⟩ | exact ⟨trivial, trivial⟩ | exact ⟨rfl, rfl⟩ | trivial)
theorem scD_len (b : Bool) (S : List Sht) : (S.map (shD b)).length = S.length := List.length_map ..
theorem check_sheets_ok (b : Bool) {S : List Sht} {k : Nat} (hk : k < S.length) : Run F 1 6 [scD b S, .list [.int k]] fun w io => w = .dat .none ∧ io = none := by
  refine Run.of (fn := f6) rfl rfl rfl fun N hN => ?_
  show Ok (EV.execs F (callN F N) b6 [some (.dat (scD b S)), some (.dat (.list [.int k])), none]) (Fin none _)
  unfold b6 scD
  and_intros
  rw [fl_cons]
  and_intros
  rw [scD_len]
  have e1 : decide ((0 : Int) ≤ (k : Int)) = true := by simp
  have e2 : decide ((k : Int) < (S.length : Int)) = true := by simp; omega
  rw [e1]
  and_intros
  rw [e2]
  and_intros
  rw [flk_next, fl_nil]
  and_intros
  (first | exact ⟨rfl, trivial⟩ | exact ⟨trivial, trivial⟩ | exact ⟨rfl, rfl⟩ | trivial)
end K04

set_option linter.all false
set_option maxRecDepth 100000
set_option Elab.async false
namespace K04
open PySem EV
theorem enum_map {α : Type} (f : α → D) (l : List α) : enumD (l.map f) = l.zipIdx.map fun p => .tuple [.int p.2, f p.1] := by
  unfold enumD
  rw [List.zipIdx_map, List.map_map]
  rfl
def hms (S : List Sht) (t : Str) : List Nat := (S.zipIdx.filter fun p => p.1.tags.contains t).map (·.2)
def hm (S : List Sht) (t : Str) : Nat := (hms S t).headD 0
theorem hms_ne {S : List Sht} {t : Str} (h : t ∈ cols S) : ∃ r, hms S t = hm S t :: r := by
  obtain ⟨s, hs, ht⟩ := List.mem_flatMap.mp h
  obtain ⟨i, hi⟩ := List.getElem?_of_mem hs
  have m : (s, i) ∈ S.zipIdx := by rw [List.mem_zipIdx_iff_getElem?]; exact hi
  have m2 : i ∈ hms S t := List.mem_map.mpr ⟨(s, i), List.mem_filter.mpr ⟨m, by simpa [List.contains_iff_mem] using ht⟩, rfl⟩
  unfold hm
  cases e : hms S t with
  | nil => rw [e] at m2; cases m2
  | cons a r => exact ⟨r, rfl⟩
/-- the comprehension of home_of -/
theorem home_comp {N : Nat} (b : Bool) {S : List Sht} (h : ScOk S) {t : Str} (ht : t ∈ cols S) (K : List D × Ro → Prop) (hK : ∀ r, K (.int (hm S t : Nat) :: r, [some (.dat (scD b S)), some (.dat (.str t)), none, none])) :
    Ok (compL (bindT (.many [2, 3])) (EV.evC F (callN F N) (.yes (.op2 .isin (.var 1) (.idx (.var 3) (.cst (.int 0)))))) (datOf (EV.ev F (callN F N) (.var 2))) [2, 3] (enumD (S.map (shD b))) [some (.dat (scD b S)), some (.dat (.str t)), none, none] []) K := by
  rw [enum_map]
  refine comp_map (fun p : Sht × Nat => .tuple [.int p.2, shD b p.1]) [some (.dat (scD b S)), some (.dat (.str t)), none, none] (fun p => if p.1.tags.contains t = true then some (.int p.2) else none) _ _ (fun p hp => ?_) ?_
  · have hs : p.1 ∈ S := by
      have := List.mem_zipIdx_iff_getElem?.mp hp
      exact List.mem_of_getElem? this
    and_intros
    unfold shD
    and_intros
    rw [inD_str]
    refine ⟨shaped_s (h.cols t ht) (h.sh _ hs).tg, fun e => ⟨rfl, if_pos e⟩, fun e => ⟨rfl, if_neg (by rw [e]; exact Bool.false_ne_true)⟩⟩
  · rw [filt (fun p : Sht × Nat => p.1.tags.contains t) (fun p => (.int p.2 : D)), List.nil_append]
    obtain ⟨r, e⟩ := hms_ne ht
    have e2 : (S.zipIdx.filter fun p => p.1.tags.contains t).map (fun p => (.int p.2 : D)) = (hms S t).map fun n => .int n := by
      unfold hms
      rw [List.map_map]; rfl
    rw [e2, e]
    exact hK _
theorem home_of_ok (b : Bool) {S : List Sht} (h : ScOk S) {t : Str} (ht : t ∈ cols S) : Run F 1 4 [scD b S, .str t] fun w io => w = .dat (.int (hm S t : Nat)) ∧ io = none := by
  refine Run.of (fn := f4) rfl rfl rfl fun N hN => ?_
  show Ok (EV.execs F (callN F N) b4 [some (.dat (scD b S)), some (.dat (.str t)), none, none]) (Fin none _)
  unfold b4
  have e : scD b S = sq b (S.map (shD b)) := rfl
  and_intros
  rw [e]
  and_intros
  rw [← e]
  refine home_comp b h ht _ fun r => ?_
  and_intros
  (first | exact ⟨rfl, trivial⟩ | exact ⟨trivial, trivial⟩ | exact ⟨rfl, rfl⟩ | trivial)
theorem law_home_ok (b : Bool) {S : List Sht} (h : ScOk S) {t : Str} (ht : t ∈ cols S) : Run F 1 23 [scD b S, .str t] fun w io => w = .dat (.int (hm S t : Nat)) ∧ io = none := by
  refine Run.of (fn := f23) rfl rfl rfl fun N hN => ?_
  show Ok (EV.execs F (callN F N) b23 [some (.dat (scD b S)), some (.dat (.str t)), none, none]) (Fin none _)
  unfold b23
  have e : scD b S = sq b (S.map (shD b)) := rfl
  and_intros
  rw [e]
  and_intros
  rw [← e]
  refine home_comp b h ht _ fun r => ?_
  and_intros
  (first | exact ⟨rfl, trivial⟩ | exact ⟨trivial, trivial⟩ | exact ⟨rfl, rfl⟩ | trivial)
theorem sheet_of_ok (b : Bool) {S : List Sht} (h : ScOk S) {t : Str} (ht : t ∈ cols S) : Run F 4 7 [scD b S, .str t] fun w io => w = .dat (.int (hm S t : Nat)) ∧ io = none := by
  refine Run.of (fn := f7) rfl rfl rfl fun N hN => ?_
  show Ok (EV.execs F (callN F N) b7 [some (.dat (scD b S)), some (.dat (.str t))]) (Fin none _)
  unfold b7
  and_intros
  refine call_ok rfl rfl rfl (check_columns_ok b true h (l := [t]) (by simpa using ht) N (by omega)) ?_
  rintro w r ⟨rfl, rfl⟩
  and_intros
  refine call_ok rfl rfl rfl (home_of_ok b h ht N (by omega)) ?_
  rintro w r ⟨rfl, rfl⟩
  and_intros
  (first | exact ⟨rfl, trivial⟩ | exact ⟨trivial, trivial⟩ | exact ⟨rfl, rfl⟩ | trivial)
/-! ### check_key -/
theorem tup_strs (l : List Str) : (l.map PyData.str).map tupD = l.map .str := by
  rw [List.map_map]; rfl
theorem sc_at (b : Bool) {S : List Sht} {k : Nat} {s : Sht} (hs : S[k]? = some s) (K : D → Prop) : OM (atD (S.map (shD b)) (k : Int)) K = K (shD b s) := by
  have hk := (List.getElem?_eq_some_iff.mp hs).1
  exact atD_k _ k _ K (by rw [List.getElem?_map, hs]; rfl) (by rw [List.length_map]; exact hk)
/-- all of l are columns of the sheet -/
def Fits (l : List Str) (s : Sht) : Prop := ∀ x ∈ l, x ∈ s.tags
theorem fits_iff (l : List Str) (s : Sht) : (l.filter fun x => !s.tags.contains x) = [] ↔ Fits l s := by
  rw [List.filter_eq_nil_iff]
  constructor
  · intro h x hx
    have := h x hx
    simpa [List.contains_iff_mem] using this
  · intro h x hx
    simpa [List.contains_iff_mem] using h x hx
theorem check_key_ok (b p : Bool) {S : List Sht} (h : ScOk S) {k : Nat} {s : Sht} (hs : S[k]? = some s) {l : List Str} (hl : ∀ x ∈ l, x ∈ cols S) :
    RunX F 4 8 [scD b S, .int k, sq p (l.map .str)] (fun w io => w = .dat .none ∧ io = none ∧ Fits l s) (fun x io => x = ⟨2, none⟩ ∧ io = none ∧ ¬ Fits l s) := by
  have hk := (List.getElem?_eq_some_iff.mp hs).1
  have hsS : s ∈ S := List.mem_of_getElem? hs
  refine RunX.of (fn := f8) rfl rfl rfl fun N hN => ?_
  show @Ok _ (XF none _) (EV.execs F (callN F N) b8 [some (.dat (scD b S)), some (.dat (.int k)), some (.dat (sq p (l.map .str)))]) (Fin none _)
  unfold b8
  and_intros
  refine call_ok rfl rfl rfl (check_sheets_ok b hk N (by omega)) ?_
  rintro w r ⟨rfl, rfl⟩
  and_intros
  refine call_ok rfl rfl rfl (check_columns_ok b p h hl N (by omega)) ?_
  rintro w r ⟨rfl, rfl⟩
  and_intros
  refine call_ok rfl rfl rfl (tupled_ok 1 (sq p (l.map .str)) (by rw [depth_sq, depth_strs]; omega) N (by omega)) ?_
  rintro w r ⟨rfl, rfl⟩
  have e : scD b S = sq b (S.map (shD b)) := rfl
  and_intros
  rw [e]
  and_intros
  rw [sc_at b hs]
  unfold shD
  and_intros
  rw [tup_sq, tup_strs]
  refine call_ok rfl rfl rfl (unlike_ok false b (StrsOk.sub h.cols hl) (h.sh s hsS).tg N (by omega)) ?_
  rintro w r ⟨rfl, rfl⟩
  and_intros
  rw [List.length_map]
  refine ⟨fun e1 => ?_, fun e1 => ?_⟩
  · have e1 := of_decide_eq_true e1
    refine ⟨trivial, trivial, fun z => ?_⟩
    rw [(fits_iff l s).mpr z] at e1
    simp at e1
  · have e1 := of_decide_eq_false e1
    refine ⟨trivial, trivial, (fits_iff l s).mp ?_⟩
    exact List.eq_nil_of_length_eq_zero (by omega)
end K04

set_option linter.all false
set_option maxRecDepth 100000
set_option Elab.async false
namespace K04
open PySem EV
/-! ### the closure, plainly -/
structure Shut (s : Sht) (G : Str → Prop) : Prop where
  ru : ∀ r ∈ s.rules, (∀ x ∈ r.1, G x) → G r.2
  ke : ∀ k ∈ s.keys, (∀ x ∈ k, G x) → ∀ x ∈ s.tags, G x
def Lst (s : Sht) (lot : List Str) (x : Str) : Prop := ∀ G : Str → Prop, (∀ y ∈ lot, G y) → Shut s G → G x
theorem lst_lot {s : Sht} {lot : List Str} {x : Str} (h : x ∈ lot) : Lst s lot x := fun G h1 _ => h1 x h
theorem lst_rule {s : Sht} {lot : List Str} {r : List Str × Str} (hr : r ∈ s.rules) (h : ∀ x ∈ r.1, Lst s lot x) : Lst s lot r.2 := fun G h1 h2 => h2.ru r hr fun x hx => h x hx G h1 h2
theorem lst_key {s : Sht} {lot k : List Str} (hk : k ∈ s.keys) (h : ∀ x ∈ k, Lst s lot x) {x : Str} (hx : x ∈ s.tags) : Lst s lot x := fun G h1 h2 => h2.ke k hk (fun y hy => h y hy G h1 h2) x hx
/-- what has been found so far -/
structure Fnd (s : Sht) (lot fd : List Str) : Prop where
  nd : fd.Nodup
  sub : ∀ x ∈ fd, x ∈ s.tags
  has : ∀ x ∈ lot, x ∈ fd
  lst : ∀ x ∈ fd, Lst s lot x
theorem Fnd.ok {s : Sht} {lot fd : List Str} (h : Fnd s lot fd) (hs : ShOk s) : StrsOk fd := fun x hx => hs.tg x (h.sub x hx)
theorem nd_len : ∀ {l m : List Str}, l.Nodup → (∀ x ∈ l, x ∈ m) → l.length ≤ m.length
  | [], _, _, _ => Nat.zero_le _
  | x :: l, m, nd, hs => by
    obtain ⟨h1, h2⟩ := List.nodup_cons.mp nd
    have hx : x ∈ m := hs x List.mem_cons_self
    have ih := nd_len (m := m.erase x) h2 fun y hy => (List.mem_erase_of_ne (fun e : y = x => h1 (e ▸ hy))).mpr (hs y (List.mem_cons_of_mem _ hy))
    have := List.length_erase_of_mem hx
    have := List.length_pos_of_mem hx
    rw [List.length_cons]; omega
theorem Fnd.len {s : Sht} {lot fd : List Str} (h : Fnd s lot fd) (hs : ShOk s) : fd.length ≤ 3 := Nat.le_trans (nd_len h.nd h.sub) hs.tl
theorem Fnd.add {s : Sht} {lot fd : List Str} (h : Fnd s lot fd) (hs : ShOk s) {r : List Str × Str} (hr : r ∈ s.rules) (h1 : ∀ x ∈ r.1, x ∈ fd) (h2 : r.2 ∉ fd) : Fnd s lot (fd ++ [r.2]) where
  nd := List.nodup_append.mpr ⟨h.nd, by simp, fun a ha b hb => by rw [List.mem_singleton.mp hb]; exact fun e => h2 (e ▸ ha)⟩
  sub := fun x hx => by
    rcases List.mem_append.mp hx with q | q
    · exact h.sub x q
    · rw [List.mem_singleton.mp q]; exact (hs.ru r hr).2.1
  has := fun x hx => List.mem_append_left _ (h.has x hx)
  lst := fun x hx => by
    rcases List.mem_append.mp hx with q | q
    · exact h.lst x q
    · rw [List.mem_singleton.mp q]; exact lst_rule hr fun y hy => h.lst y (h1 y hy)
theorem Fnd.all {s : Sht} {lot fd : List Str} (h : Fnd s lot fd) (hs : ShOk s) {k : List Str} (hk : k ∈ s.keys) (h1 : ∀ x ∈ k, x ∈ fd) : Fnd s lot (fd ++ s.tags.filter fun x => !fd.contains x) where
  nd := List.nodup_append.mpr ⟨h.nd, hs.nd.filter _, fun a ha b hb e => by
    have := (List.mem_filter.mp hb).2
    subst e
    rw [List.contains_iff_mem.mpr ha] at this
    cases this⟩
  sub := fun x hx => by
    rcases List.mem_append.mp hx with q | q
    · exact h.sub x q
    · exact (List.mem_filter.mp q).1
  has := fun x hx => List.mem_append_left _ (h.has x hx)
  lst := fun x hx => by
    rcases List.mem_append.mp hx with q | q
    · exact h.lst x q
    · exact lst_key hk (fun y hy => h.lst y (h1 y hy)) (List.mem_filter.mp q).1
theorem Fnd.tags {s : Sht} {lot fd : List Str} (h : Fnd s lot fd) (hs : ShOk s) {k : List Str} (hk : k ∈ s.keys) (h1 : ∀ x ∈ k, x ∈ fd) : Fnd s lot s.tags where
  nd := hs.nd
  sub := fun x hx => hx
  has := fun x hx => h.sub x (h.has x hx)
  lst := fun x hx => lst_key hk (fun y hy => h.lst y (h1 y hy)) hx
theorem Fnd.done {s : Sht} {lot fd : List Str} (h : Fnd s lot fd) (hc : Shut s (· ∈ fd)) (x : Str) : x ∈ fd ↔ Lst s lot x := ⟨h.lst x, fun z => z _ h.has hc⟩
/-! ### rules of methods -/
theorem m_ext (xs : List D) (d : D) (ys : List D) (hd : items d = some ys) (ρ : Ro) (K : W × Ro → Prop) : Ok (methE .extend 0 [d] (some (.own xs) :: ρ)) K = (xs.length + ys.length ≤ sizeLine ∧ K (.dat .none, some (.own (xs ++ ys)) :: ρ)) := by
  show Ok (match items d with | some ys => _ | none => _) K = _
  rw [hd]
  show Ok (if xs.length + ys.length ≤ sizeLine then _ else _) K = _
  split
  · rename_i h; exact propext ⟨fun z => ⟨h, z⟩, fun z => z.2⟩
  · rename_i h; exact propext ⟨fun z => z.elim, fun z => (h z.1).elim⟩
theorem om_any {α : Type} (f : α → Bool) (xs : List α) (k : W → Prop) : OM (EV.bi .any [.list (xs.map fun x => .bool (f x))]) k = k (.dat (.bool (xs.any f))) := by
  show OM ((bools _).map _) k = _
  rw [bools_map]
  show k (.dat (.bool ((xs.map f).any id))) = _
  rw [List.any_map]; rfl
theorem sub_iff (l m : List Str) : decide (((l.filter fun x => !m.contains x).length : Int) = 0) = true ↔ ∀ x ∈ l, x ∈ m := by
  rw [decide_eq_true_eq]
  have e : ((l.filter fun x => !m.contains x).length : Int) = 0 ↔ (l.filter fun x => !m.contains x) = [] := by
    rw [← List.length_eq_zero_iff]; omega
  rw [e, List.filter_eq_nil_iff]
  constructor
  · intro h x hx
    simpa [List.contains_iff_mem] using h x hx
  · intro h x hx
    simpa [List.contains_iff_mem] using h x hx
end K04

set_option linter.all false
set_option maxRecDepth 100000
set_option Elab.async false
namespace K04
open PySem EV
def cR : Ss := (.cons (.ite (.bop true (.cons (.op2 .notin (.var 9) (.var 6)) (.cons (.op2 .eq (.bi .len (.cons (.call 2 (.cons (.var 8) (.cons (.var 6) .nil))) .nil)) (.cst (.int 0))) .nil))) (.cons (.expr (.meth .append 6 (.cons (.var 9) .nil))) .nil) .nil) .nil)
def cBody : Ss := (.cons (.asg 7 (.bi .len (.cons (.var 6) .nil)))
 (.cons (.for_ (.many [8, 9]) (.seq (.var 3)) cR)
 (.cons (.ite (.bi .any (.cons (.comp (.one 10) (.seq (.var 4)) .no (.op2 .eq (.bi .len (.cons (.call 2 (.cons (.var 10) (.cons (.var 6) .nil))) .nil)) (.cst (.int 0)))) .nil)) (.cons (.expr (.meth .extend 6 (.cons (.call 2 (.cons (.var 2) (.cons (.var 6) .nil))) .nil)))
 .nil) .nil)
 .nil)))
theorem b9_eq : b9 = .cons (.asgT [2, 3, 4, 5] (.var 0)) (.cons (.par [6, 7] (.cons (.bi .list (.cons (.var 1) .nil)) (.cons (.op1 .neg (.cst (.int 1))) .nil))) (.cons (.while_ 1000 (.op2 .lt (.var 7) (.bi .len (.cons (.var 6) .nil))) cBody) (.cons (.ret (.call 1 (.cons (.var 6) .nil))) .nil))) := rfl
def dTags (s : Sht) : D := .tuple (s.tags.map .str)
def dRules (s : Sht) : D := .tuple (s.rules.map (ruD false))
def dKeys (s : Sht) : D := .tuple (s.keys.map (keD false))
def dRefs (s : Sht) : D := .tuple (s.refs.map (reD false))
/-- the slots -/
def fr (s : Sht) (lot fd : List Str) (z : Int) (v8 v9 v10 : Option Sv) : Ro := [some (.dat (shD false s)), some (.dat (.tuple (lot.map .str))), some (.dat (dTags s)), some (.dat (dRules s)), some (.dat (dKeys s)), some (.dat (dRefs s)), some (.own (fd.map .str)), some (.dat (.int z)), v8, v9, v10]
theorem map_snoc (fd : List Str) (x : Str) : fd.map PyData.str ++ [.str x] = (fd ++ [x]).map .str := by simp
theorem cr_loop {N : Nat} (hN : 1 ≤ N) {s : Sht} (hs : ShOk s) (lot : List Str) (z : Int) (v10 : Option Sv) (K : EV.Flow × Ro → Prop) : ∀ (R : List (List Str × Str)) (fd : List Str) (v8 v9 : Option Sv), (∀ r ∈ R, r ∈ s.rules) → Fnd s lot fd → Fr v8 → Fr v9 →
    (∀ (e : List Str) (v8 v9 : Option Sv), Fnd s lot (fd ++ e) → (e = [] → ∀ r ∈ R, (∀ x ∈ r.1, x ∈ fd) → r.2 ∈ fd) → Fr v8 → Fr v9 → K (.next, fr s lot (fd ++ e) z v8 v9 v10)) →
    Ok (forL (bindT (.many [8, 9])) (EV.execs F (callN F N) cR) (R.map (ruD false)) (fr s lot fd z v8 v9 v10)) K := by
  intro R
  induction R with
  | nil =>
    intro fd v8 v9 _ hf h8 h9 hK
    have := hK [] v8 v9 (by simpa using hf) (fun _ r hr => nomatch hr) h8 h9
    rw [List.append_nil] at this
    exact this
  | cons r R ih =>
    intro fd v8 v9 hR hf h8 h9 hK
    have hr := hR r List.mem_cons_self
    have hfo := hf.ok hs
    have r1 := (hs.ru r hr).1
    have r1o : StrsOk r.1 := fun x hx => hs.tg x (r1 x hx)
    have r2o : PyData.strOk r.2 = true := hs.tg _ (hs.ru r hr).2.1
    rw [List.map_cons, fl_cons]
    unfold ruD fr
    simp only [sq_f]
    and_intros
    refine os_d h8 ?_
    and_intros
    refine os_d h9 ?_
    unfold cR
    and_intros
    rw [inD_str]
    refine ⟨by rw [shaped_str, r2o, (shaped_strs hfo).1]; rfl, fun e1 => ?_, fun e1 => ?_⟩
    · refine call_okC (ds := [.tuple (r.1.map .str), .list (fd.map .str)]) rfl rfl rfl (unlike_ok false true r1o hfo N hN) ?_
      rintro w q ⟨rfl, rfl⟩
      refine ⟨by show (lf (.tuple _) && true) = true; rw [lf, lfs_strs]; rfl, ?_⟩
      and_intros
      rw [List.length_map]
      refine ⟨fun e2 => ?_, fun e2 => ?_⟩
      · refine ⟨by rw [List.length_map, sizeLine_eq]; have := hf.len hs; omega, ?_⟩
        and_intros
        rw [flk_next, map_snoc]
        have n2 : r.2 ∉ fd := by simpa [List.contains_iff_mem] using e1
        have hf2 := hf.add hs hr ((sub_iff _ _).mp e2) n2
        refine ih (fd ++ [r.2]) _ _ (fun q hq => hR q (List.mem_cons_of_mem _ hq)) hf2 (.d _) (.d _) fun e v8 v9 g1 g2 g3 g4 => ?_
        rw [List.append_assoc] at g1 ⊢
        exact hK _ v8 v9 g1 (fun z => by simp at z) g3 g4
      · and_intros
        rw [flk_next]
        refine ih fd _ _ (fun q hq => hR q (List.mem_cons_of_mem _ hq)) hf (.d _) (.d _) fun e v8 v9 g1 g2 g3 g4 => hK e v8 v9 g1 (fun z q hq hx => ?_) g3 g4
        rcases List.mem_cons.mp hq with rfl | hq
        · rw [(sub_iff _ _).mpr hx] at e2; cases e2
        · exact g2 z q hq hx
    · and_intros
      rw [flk_next]
      refine ih fd _ _ (fun q hq => hR q (List.mem_cons_of_mem _ hq)) hf (.d _) (.d _) fun e v8 v9 g1 g2 g3 g4 => hK e v8 v9 g1 (fun z q hq hx => ?_) g3 g4
      rcases List.mem_cons.mp hq with rfl | hq
      · simpa [List.contains_iff_mem] using e1
      · exact g2 z q hq hx
theorem closed_in_ok {s : Sht} (hs : ShOk s) {lot : List Str} (hl : Fits lot s) (nd : lot.Nodup) : Run F 3 9 [shD false s, .tuple (lot.map .str)] fun w io => ∃ fd : List Str, w = .dat (.tuple (uniqD (fd.map .str))) ∧ io = none ∧ (∀ x, x ∈ fd ↔ Lst s lot x) ∧ (∀ x ∈ fd, x ∈ s.tags) := by
  refine Run.of (fn := f9) rfl rfl rfl fun N hN => ?_
  show Ok (EV.execs F (callN F N) b9 [some (.dat (shD false s)), some (.dat (.tuple (lot.map .str))), none, none, none, none, none, none, none, none, none]) (Fin none _)
  rw [b9_eq]
  have e : shD false s = .tuple [dTags s, dRules s, dKeys s, dRefs s] := rfl
  and_intros
  rw [e]
  and_intros
  rw [← e]
  refine while_ok (fun m ρ => ∃ (fd : List Str) (z : Int) (v8 v9 v10 : Option Sv), ρ = fr s lot fd z v8 v9 v10 ∧ Fnd s lot fd ∧ -1 ≤ z ∧ z ≤ fd.length ∧ (z = fd.length → Shut s (· ∈ fd)) ∧ 4 - z ≤ m ∧ Fr v8 ∧ Fr v9 ∧ Fr v10) ?_ 1000 5 _ (by omega) ⟨lot, -1, none, none, none, rfl, ⟨nd, hl, fun _ h => h, fun x hx => lst_lot hx⟩, by omega, by omega, fun h => by omega, by omega, .n, .n, .n⟩
  rintro m ρ ⟨fd, z, v8, v9, v10, rfl, hf, z0, z1, hz, hm, h8, h9, h10⟩
  have hfo := hf.ok hs
  have fl := hf.len hs
  unfold fr
  and_intros
  rw [List.length_map]
  refine ⟨fun e1 => ?_, fun e1 => ?_⟩
  · have e1 := of_decide_eq_true e1
    refine ⟨by omega, ?_⟩
    unfold cBody dRules
    and_intros
    rw [List.length_map]
    refine cr_loop (by omega) hs lot fd.length v10 _ s.rules fd v8 v9 (fun _ h => h) hf h8 h9 fun e w8 w9 hf2 hru g8 g9 => ?_
    have hfo2 := hf2.ok hs
    have fl2 := hf2.len hs
    unfold fr dKeys dTags
    and_intros
    refine comp_map (keD false) [some (.dat (shD false s)), some (.dat (.tuple (lot.map .str))), some (.dat (.tuple (s.tags.map .str))), some (.dat (.tuple (s.rules.map (ruD false)))), some (.dat (.tuple (s.keys.map (keD false)))), some (.dat (dRefs s)), some (.own ((fd ++ e).map .str)), some (.dat (.int fd.length)), w8, w9, none] (fun k => some (.bool (decide (((k.filter fun x => !(fd ++ e).contains x).length : Int) = 0)))) _ _ (fun k hk => ?_) ?_
    · have ko : StrsOk k := fun x hx => hs.tg x ((hs.ke k hk).1 x hx)
      unfold keD
      and_intros
      refine call_okC (ds := [sq false (k.map .str), .list ((fd ++ e).map .str)]) rfl rfl rfl (unlike_ok false true ko hfo2 N (by omega)) ?_
      rintro w q ⟨rfl, rfl⟩
      refine ⟨by show (lf (.tuple _) && true) = true; rw [lf, lfs_strs]; rfl, ?_⟩
      and_intros
      rw [List.length_map]
      (first | exact ⟨rfl, trivial⟩ | exact ⟨trivial, trivial⟩ | exact ⟨rfl, rfl⟩ | trivial)
    · rw [fm_some, List.nil_append]
      and_intros
      rw [om_any (fun k : List Str => decide (((k.filter fun x => !(fd ++ e).contains x).length : Int) = 0))]
      and_intros
      refine ⟨fun e2 => ?_, fun e2 => ?_⟩
      · obtain ⟨k, hk, e3⟩ := List.any_eq_true.mp e2
        have hk2 := (sub_iff _ _).mp e3
        have hf3 := hf2.all hs hk hk2
        refine call_okC (ds := [.tuple (s.tags.map .str), .list ((fd ++ e).map .str)]) rfl rfl rfl (unlike_ok false true hs.tg hfo2 N (by omega)) ?_
        rintro w q ⟨rfl, rfl⟩
        refine ⟨by show (lf (.tuple _) && true) = true; rw [lf, lfs_strs]; rfl, ?_⟩
        and_intros
        rw [m_ext _ _ _ rfl]
        have fl3 := hf3.len hs
        rw [List.length_append] at fl3
        refine ⟨by rw [List.length_map, List.length_map, sizeLine_eq]; omega, ?_⟩
        and_intros
        refine ⟨(fd ++ e) ++ s.tags.filter (fun x => !(fd ++ e).contains x), fd.length, w8, w9, v10, ?_, hf3, by omega, by simp only [List.length_append]; omega, fun ez => ?_, by omega, g8, g9, h10⟩
        · rw [← List.map_append]
        · have hall : ∀ x ∈ s.tags, x ∈ (fd ++ e) ++ s.tags.filter (fun x => !(fd ++ e).contains x) := fun x hx => by
            by_cases c : x ∈ fd ++ e
            · exact List.mem_append_left _ c
            · exact List.mem_append_right _ (List.mem_filter.mpr ⟨hx, by simpa [List.contains_iff_mem] using c⟩)
          exact ⟨fun r hr _ => hall _ (hs.ru r hr).2.1, fun k hk _ x hx => hall x hx⟩
      · and_intros
        refine ⟨fd ++ e, fd.length, w8, w9, v10, rfl, hf2, by omega, by simp only [List.length_append]; omega, fun ez => ?_, by omega, g8, g9, h10⟩
        have ee : e = [] := List.eq_nil_of_length_eq_zero (by simp only [List.length_append] at ez; omega)
        subst ee
        rw [List.append_nil] at e2 ⊢
        refine ⟨fun r hr hx => hru rfl r hr hx, fun k hk hx => ?_⟩
        have := List.any_eq_false.mp e2 k hk
        exact absurd ((sub_iff _ _).mpr hx) this
  · have e1 := of_decide_eq_false e1
    have ez : z = fd.length := by omega
    and_intros
    refine call_okC (ds := [.list (fd.map .str)]) rfl rfl rfl (set_strs (by omega) N (by omega)) ?_
    rintro w q ⟨rfl, rfl⟩
    refine ⟨?_, ?_⟩
    · obtain ⟨m, e, _, _⟩ := uniq_back fd
      show (lf (.tuple _) && true) = true
      rw [e, lf, lfs_strs]; rfl
    · and_intros
      exact ⟨fd, rfl, trivial, hf.done (hz ez), hf.sub⟩
end K04

set_option linter.all false
set_option maxRecDepth 100000
set_option Elab.async false
namespace K04
open PySem EV
/-! ### closed -/
theorem tup_ru (b : Bool) (r : List Str × Str) : tupD (ruD b r) = ruD false r := by
  unfold ruD
  rw [tup_sq, sq_f, sq_f]
  simp only [List.map_cons, List.map_nil, tup_sq, tup_strs]
  rfl
theorem tup_ke (b : Bool) (r : List Str) : tupD (keD b r) = keD false r := by
  unfold keD
  rw [tup_sq, sq_f, tup_strs]
theorem tup_re (b : Bool) (r : Nat × List Str × List Str) : tupD (reD b r) = reD false r := by
  unfold reD
  rw [tup_sq, sq_f, sq_f]
  simp only [List.map_cons, List.map_nil, tup_sq, tup_strs]
  rfl
theorem tup_sh (b : Bool) (s : Sht) : tupD (shD b s) = shD false s := by
  unfold shD
  rw [tup_sq, sq_f, sq_f]
  simp only [List.map_cons, List.map_nil, tup_sq, tup_strs, List.map_map, Function.comp_def, tup_ru, tup_ke, tup_re, sq_f]
  rfl
theorem tup_sc (b : Bool) (S : List Sht) : tupD (scD b S) = scD false S := by
  unfold scD
  rw [tup_sq, sq_f, List.map_map]
  simp only [Function.comp_def, tup_sh]
theorem pl_sh (b : Bool) {s : Sht} (h : ShOk s) : Pl 4 (shD b s) := by
  refine Pl.sq fun x hx => ?_
  simp only [List.mem_cons, List.not_mem_nil, or_false] at hx
  rcases hx with rfl | rfl | rfl | rfl
  · exact (Pl.sq (Pl.strs 0 h.tg)).mono (by omega)
  · refine Pl.sq fun x hx => ?_
    obtain ⟨r, hr, rfl⟩ := List.mem_map.mp hx
    refine Pl.sq fun x hx => ?_
    simp only [List.mem_cons, List.not_mem_nil, or_false] at hx
    rcases hx with rfl | rfl
    · exact Pl.sq (Pl.strs 0 fun x hx => h.tg x ((h.ru r hr).1 x hx))
    · exact Pl.str _ (h.tg _ (h.ru r hr).2.1)
  · refine Pl.sq fun x hx => ?_
    obtain ⟨r, hr, rfl⟩ := List.mem_map.mp hx
    exact (Pl.sq (Pl.strs 0 fun x hx => h.tg x ((h.ke r hr).1 x hx))).mono (by omega)
  · refine Pl.sq fun x hx => ?_
    obtain ⟨r, hr, rfl⟩ := List.mem_map.mp hx
    refine Pl.sq fun x hx => ?_
    simp only [List.mem_cons, List.not_mem_nil, or_false] at hx
    rcases hx with rfl | rfl | rfl
    · exact Pl.int _ _
    · exact Pl.sq (Pl.strs 0 (h.re r hr).1)
    · exact Pl.sq (Pl.strs 0 (h.re r hr).2)
theorem pl_sc (b : Bool) {S : List Sht} (h : ScOk S) : Pl 5 (scD b S) := Pl.sq fun x hx => by
  obtain ⟨s, hs, rfl⟩ := List.mem_map.mp hx
  exact pl_sh b (h.sh s hs)
/-- what closed tells -/
def CloD (s : Sht) (l : List Str) (d : D) : Prop := ∃ fd : List Str, d = .tuple (uniqD (fd.map .str)) ∧ (∀ x, x ∈ fd ↔ Lst s l x) ∧ ∀ x ∈ fd, x ∈ s.tags
theorem CloD.same {s : Sht} {l : List Str} {d e : D} (h : CloD s l d) (h' : CloD s l e) : d = e := by
  obtain ⟨fd, rfl, h1, _⟩ := h
  obtain ⟨fe, rfl, h2, _⟩ := h'
  rw [uniq_strs fun x => (h1 x).trans (h2 x).symm]
theorem CloD.pl {s : Sht} (hs : ShOk s) {l : List Str} {d : D} (h : CloD s l d) : Pl 1 d := by
  obtain ⟨fd, rfl, h1, h2⟩ := h
  exact Pl.uniq (Pl.strs 0 fun x hx => hs.tg x (h2 x hx))
theorem closed_ok (b p : Bool) {S : List Sht} (h : ScOk S) {k : Nat} {s : Sht} (hs : S[k]? = some s) {l : List Str} (hl : ∀ x ∈ l, x ∈ cols S) (nd : l.Nodup) :
    RunX F 8 10 [scD b S, .int k, sq p (l.map .str)] (fun w io => ∃ d, w = .dat d ∧ io = none ∧ Fits l s ∧ CloD s l d) (fun x io => x = ⟨2, none⟩ ∧ io = none ∧ ¬ Fits l s) := by
  have hsS : s ∈ S := List.mem_of_getElem? hs
  refine RunX.of (fn := f10) rfl rfl rfl fun N hN => ?_
  show @Ok _ (XF none _) (EV.execs F (callN F N) b10 [some (.dat (scD b S)), some (.dat (.int k)), some (.dat (sq p (l.map .str)))]) (Fin none _)
  unfold b10
  and_intros
  refine call_okX rfl rfl rfl (check_key_ok b p h hs hl N (by omega)) ?_ ?_
  · rintro w r ⟨rfl, rfl, hf⟩
    and_intros
    refine call_ok rfl rfl rfl (tupled_ok 5 (scD b S) (pl_sc b h).2 N (by omega)) ?_
    rintro w r ⟨rfl, rfl⟩
    rw [tup_sc]
    unfold scD
    simp only [sq_f]
    and_intros
    rw [sc_at false hs]
    and_intros
    refine call_ok rfl rfl rfl (tupled_ok 1 (sq p (l.map .str)) (by rw [depth_sq, depth_strs]; omega) N (by omega)) ?_
    rintro w r ⟨rfl, rfl⟩
    rw [tup_sq, tup_strs]
    and_intros
    refine call_ok rfl rfl rfl (closed_in_ok (h.sh s hsS) hf nd N (by omega)) ?_
    rintro w r ⟨fd, rfl, rfl, h1, h2⟩
    and_intros
    exact ⟨_, rfl, trivial, hf, fd, rfl, h1, h2⟩
  · rintro x r ⟨rfl, rfl, hf⟩
    and_intros
    exact ⟨trivial, trivial, hf⟩
/-! ### the law's own closing -/
def lR : Ss := (.cons (.ite (.bop true (.cons (.op2 .eq (.comp (.one 7) (.seq (.var 5)) (.yes (.op2 .notin (.var 7) (.var 2))) (.var 7)) (.lst .nil)) (.cons (.op2 .notin (.var 6) (.var 2)) .nil))) (.cons (.expr (.meth .append 2 (.cons (.var 6) .nil))) .nil) .nil) .nil)
def lK : Ss := (.cons (.ite (.op2 .eq (.comp (.one 7) (.seq (.var 4)) (.yes (.op2 .notin (.var 7) (.var 2))) (.var 7)) (.lst .nil)) (.cons (.asg 2 (.bi .list (.cons (.idx (.var 0) (.cst (.int 0))) .nil))) .nil) .nil) .nil)
theorem b25_eq : b25 = .cons (.asg 2 (.bi .list (.cons (.var 1) .nil))) (.cons (.for_ (.one 3) (.range1 (.cst (.int 5))) (.cons (.for_ (.many [5, 6]) (.seq (.idx (.var 0) (.cst (.int 1)))) lR) (.cons (.for_ (.one 4) (.seq (.idx (.var 0) (.cst (.int 2)))) lK) .nil))) (.cons (.ret (.bi .tuple (.cons (.bi .sorted (.cons (.var 2) .nil)) .nil))) .nil)) := rfl
def fq (s : Sht) (lot fd : List Str) (v3 v4 v5 v6 v7 : Option Sv) : Ro := [some (.dat (shD false s)), some (.dat (.tuple (lot.map .str))), some (.own (fd.map .str)), v3, v4, v5, v6, v7]
/-- [x for x in l if x not in found] == [] -/
theorem none_left {N : Nat} (s : Sht) (lot fd : List Str) (v3 v4 v5 v6 v7 : Option Sv) (l : List Str) (hl : StrsOk l) (hf : StrsOk fd) (K : List D × Ro → Prop) (hK : K ((l.filter fun x => !fd.contains x).map .str, fq s lot fd v3 v4 v5 v6 none)) :
    Ok (compL (bindT (.one 7)) (EV.evC F (callN F N) (.yes (.op2 .notin (.var 7) (.var 2)))) (datOf (EV.ev F (callN F N) (.var 7))) [7] (l.map .str) (fq s lot fd v3 v4 v5 v6 none) []) K := by
  refine comp_map PyData.str (fq s lot fd v3 v4 v5 v6 none) (fun x => if (!fd.contains x) = true then some (.str x) else none) _ _ (fun x hx => ?_) ?_
  · unfold fq
    and_intros
    rw [inD_str]
    refine ⟨by rw [shaped_str, hl x hx, (shaped_strs hf).1]; rfl, fun h => ⟨rfl, if_pos h⟩, fun h => ⟨rfl, if_neg (by rw [h]; exact Bool.false_ne_true)⟩⟩
  · rw [filt (fun x => !fd.contains x), List.nil_append]
    exact hK
theorem left_ok {l fd : List Str} (hl : StrsOk l) : eqOk (.list ((l.filter fun x => !fd.contains x).map .str)) (.list []) = true := by
  unfold eqOk
  rw [(shaped_strs fun x hx => hl x (List.mem_filter.mp hx).1).1]
  rfl
theorem left_nil (l fd : List Str) : (PyData.eqv (.list ((l.filter fun x => !fd.contains x).map .str)) (.list [])) = true ↔ ∀ x ∈ l, x ∈ fd := by
  rw [eqv_nil, List.isEmpty_iff, List.map_eq_nil_iff, List.filter_eq_nil_iff]
  constructor
  · intro h x hx
    simpa [List.contains_iff_mem] using h x hx
  · intro h x hx
    simpa [List.contains_iff_mem] using h x hx
theorem lr_loop {N : Nat} {s : Sht} (hs : ShOk s) (lot : List Str) (v3 v4 : Option Sv) (K : EV.Flow × Ro → Prop) : ∀ (R : List (List Str × Str)) (fd : List Str) (v5 v6 v7 : Option Sv), (∀ r ∈ R, r ∈ s.rules) → Fnd s lot fd → Fr v5 → Fr v6 → Fr v7 →
    (∀ (e : List Str) (v5 v6 v7 : Option Sv), Fnd s lot (fd ++ e) → (e = [] → ∀ r ∈ R, (∀ x ∈ r.1, x ∈ fd) → r.2 ∈ fd) → (Shut s (· ∈ fd) → e = []) → Fr v5 → Fr v6 → Fr v7 → K (.next, fq s lot (fd ++ e) v3 v4 v5 v6 v7)) →
    Ok (forL (bindT (.many [5, 6])) (EV.execs F (callN F N) lR) (R.map (ruD false)) (fq s lot fd v3 v4 v5 v6 v7)) K := by
  intro R
  induction R with
  | nil =>
    intro fd v5 v6 v7 _ hf h5 h6 h7 hK
    have := hK [] v5 v6 v7 (by simpa using hf) (fun _ r hr => nomatch hr) (fun _ => rfl) h5 h6 h7
    rw [List.append_nil] at this
    exact this
  | cons r R ih =>
    intro fd v5 v6 v7 hR hf h5 h6 h7 hK
    have hr := hR r List.mem_cons_self
    have hfo := hf.ok hs
    have r1o : StrsOk r.1 := fun x hx => hs.tg x ((hs.ru r hr).1 x hx)
    have r2o : PyData.strOk r.2 = true := hs.tg _ (hs.ru r hr).2.1
    rw [List.map_cons, fl_cons]
    unfold ruD fq
    simp only [sq_f]
    and_intros
    refine os_d h5 ?_
    and_intros
    refine os_d h6 ?_
    unfold lR
    and_intros
    refine none_left s lot fd v3 v4 _ _ v7 r.1 r1o hfo _ ?_
    unfold fq
    and_intros
    rw [om_eq]
    refine ⟨left_ok r1o, ?_⟩
    and_intros
    refine ⟨fun e1 => ?_, fun e1 => ?_⟩
    · rw [inD_str]
      refine ⟨by rw [shaped_str, r2o, (shaped_strs hfo).1]; rfl, fun e2 => ?_, fun e2 => ?_⟩
      · refine ⟨by rw [List.length_map, sizeLine_eq]; have := hf.len hs; omega, ?_⟩
        and_intros
        rw [flk_next, map_snoc]
        have n2 : r.2 ∉ fd := by simpa [List.contains_iff_mem] using e2
        have hf2 := hf.add hs hr ((left_nil _ _).mp e1) n2
        refine ih (fd ++ [r.2]) _ _ _ (fun q hq => hR q (List.mem_cons_of_mem _ hq)) hf2 (.d _) (.d _) h7 fun e v5 v6 v7 g1 g2 g0 g3 g4 g5 => ?_
        rw [List.append_assoc] at g1 ⊢
        exact hK _ v5 v6 v7 g1 (fun z => by simp at z) (fun z => absurd (z.ru r hr ((left_nil _ _).mp e1)) n2) g3 g4 g5
      · and_intros
        rw [flk_next]
        refine ih fd _ _ _ (fun q hq => hR q (List.mem_cons_of_mem _ hq)) hf (.d _) (.d _) h7 fun e v5 v6 v7 g1 g2 g0 g3 g4 g5 => hK e v5 v6 v7 g1 (fun z q hq hx => ?_) g0 g3 g4 g5
        rcases List.mem_cons.mp hq with rfl | hq
        · simpa [List.contains_iff_mem] using e2
        · exact g2 z q hq hx
    · and_intros
      rw [flk_next]
      refine ih fd _ _ _ (fun q hq => hR q (List.mem_cons_of_mem _ hq)) hf (.d _) (.d _) h7 fun e v5 v6 v7 g1 g2 g0 g3 g4 g5 => hK e v5 v6 v7 g1 (fun z q hq hx => ?_) g0 g3 g4 g5
      rcases List.mem_cons.mp hq with rfl | hq
      · rw [(left_nil _ _).mpr hx] at e1; cases e1
      · exact g2 z q hq hx
end K04

set_option linter.all false
set_option maxRecDepth 100000
set_option Elab.async false
namespace K04
open PySem EV
theorem lk_loop {N : Nat} {s : Sht} (hs : ShOk s) (lot : List Str) (v3 v5 v6 : Option Sv) (K : EV.Flow × Ro → Prop) : ∀ (R : List (List Str)) (fd : List Str) (v4 v7 : Option Sv), (∀ r ∈ R, r ∈ s.keys) → Fnd s lot fd → Fr v4 → Fr v7 →
    (∀ (fd' : List Str) (v4 v7 : Option Sv), Fnd s lot fd' → (fd' = s.tags ∨ (fd' = fd ∧ ∀ k ∈ R, ¬ ∀ x ∈ k, x ∈ fd)) → Fr v4 → Fr v7 → K (.next, fq s lot fd' v3 v4 v5 v6 v7)) →
    Ok (forL (bindT (.one 4)) (EV.execs F (callN F N) lK) (R.map (keD false)) (fq s lot fd v3 v4 v5 v6 v7)) K := by
  intro R
  induction R with
  | nil =>
    intro fd v4 v7 _ hf h4 h7 hK
    exact hK fd v4 v7 hf (.inr ⟨rfl, fun k hk => nomatch hk⟩) h4 h7
  | cons r R ih =>
    intro fd v4 v7 hR hf h4 h7 hK
    have hr := hR r List.mem_cons_self
    have hfo := hf.ok hs
    have ro : StrsOk r := fun x hx => hs.tg x ((hs.ke r hr).1 x hx)
    rw [List.map_cons, fl_cons]
    unfold keD fq
    simp only [sq_f]
    and_intros
    refine os_d h4 ?_
    unfold lK
    and_intros
    refine none_left s lot fd v3 _ v5 v6 v7 r ro hfo _ ?_
    unfold fq
    and_intros
    rw [om_eq]
    refine ⟨left_ok ro, ?_⟩
    and_intros
    refine ⟨fun e1 => ?_, fun e1 => ?_⟩
    · have hx := (left_nil _ _).mp e1
      have e : shD false s = .tuple [.tuple (s.tags.map .str), dRules s, dKeys s, dRefs s] := rfl
      rw [e]
      and_intros
      rw [flk_next, ← e]
      refine ih s.tags _ _ (fun q hq => hR q (List.mem_cons_of_mem _ hq)) (hf.tags hs hr hx) (.d _) h7 fun fd' v4 v7 g1 g2 g3 g4 => hK fd' v4 v7 g1 (.inl ?_) g3 g4
      rcases g2 with g2 | g2
      · exact g2
      · exact g2.1
    · and_intros
      rw [flk_next]
      refine ih fd _ _ (fun q hq => hR q (List.mem_cons_of_mem _ hq)) hf (.d _) h7 fun fd' v4 v7 g1 g2 g3 g4 => hK fd' v4 v7 g1 ?_ g3 g4
      rcases g2 with g2 | ⟨g2, g5⟩
      · exact .inl g2
      · refine .inr ⟨g2, fun k hk hx => ?_⟩
        rcases List.mem_cons.mp hk with rfl | hk
        · rw [(left_nil _ _).mpr hx] at e1; cases e1
        · exact g5 k hk hx
theorem shut_tags {s : Sht} (hs : ShOk s) : Shut s (· ∈ s.tags) := ⟨fun r hr _ => (hs.ru r hr).2.1, fun k hk _ x hx => hx⟩
/-- the laps -/
theorem laps_ok {N : Nat} {s : Sht} (hs : ShOk s) (lot : List Str) (K : EV.Flow × Ro → Prop) : ∀ (n i : Nat) (xs : List D) (fd : List Str) (v3 v4 v5 v6 v7 : Option Sv), xs.length = n → Fnd s lot fd → (Shut s (· ∈ fd) ∨ i ≤ fd.length) → Fr v3 → Fr v4 → Fr v5 → Fr v6 → Fr v7 →
    (∀ (fd : List Str) (v3 v4 v5 v6 v7 : Option Sv), Fnd s lot fd → (Shut s (· ∈ fd) ∨ i + n ≤ fd.length) → K (.next, fq s lot fd v3 v4 v5 v6 v7)) →
    Ok (forL (bindT (.one 3)) (EV.execs F (callN F N) (.cons (.for_ (.many [5, 6]) (.seq (.idx (.var 0) (.cst (.int 1)))) lR) (.cons (.for_ (.one 4) (.seq (.idx (.var 0) (.cst (.int 2)))) lK) .nil))) xs (fq s lot fd v3 v4 v5 v6 v7)) K := by
  intro n
  induction n with
  | zero =>
    intro i xs fd v3 v4 v5 v6 v7 hx hf hi h3 h4 h5 h6 h7 hK
    have : xs = [] := List.eq_nil_of_length_eq_zero hx
    subst this
    exact hK fd v3 v4 v5 v6 v7 hf hi
  | succ n ih =>
    intro i xs fd v3 v4 v5 v6 v7 hx hf hi h3 h4 h5 h6 h7 hK
    cases xs with
    | nil => simp at hx
    | cons x xs =>
      rw [fl_cons]
      unfold fq
      and_intros
      refine os_d h3 ?_
      have e : shD false s = .tuple [dTags s, .tuple (s.rules.map (ruD false)), .tuple (s.keys.map (keD false)), dRefs s] := rfl
      and_intros
      rw [e]
      and_intros
      rw [← e]
      refine lr_loop hs lot _ _ _ s.rules fd v5 v6 v7 (fun _ h => h) hf h5 h6 h7 fun en w5 w6 w7 g1 g2 g0 g5 g6 g7 => ?_
      unfold fq
      and_intros
      rw [e]
      and_intros
      rw [← e]
      refine lk_loop hs lot _ _ _ _ s.keys (fd ++ en) v4 w7 (fun _ h => h) g1 h4 g7 fun fd' w4 w7 k1 k2 k3 k4 => ?_
      and_intros
      rw [flk_next]
      refine ih (i + 1) xs fd' _ _ _ _ _ (by simpa using hx) k1 ?_ (.d _) k3 g5 g6 k4 fun fd v3 v4 v5 v6 v7 q1 q2 => hK fd v3 v4 v5 v6 v7 q1 (by rcases q2 with q2 | q2; exact .inl q2; exact .inr (by omega))
      rcases k2 with k2 | ⟨k2, k5⟩
      · subst k2; exact .inl (shut_tags hs)
      · subst k2
        by_cases ee : en = []
        · subst ee
          rw [List.append_nil] at k5 ⊢
          exact .inl ⟨g2 rfl, fun k hk hx => absurd hx (k5 k hk)⟩
        · rcases hi with hi | hi
          · exact absurd (g0 hi) ee
          · right
            have := List.length_pos_iff.mpr ee
            simp only [List.length_append]; omega
theorem law_closed_ok {s : Sht} (hs : ShOk s) {lot : List Str} (hl : Fits lot s) (nd : lot.Nodup) : Run F 1 25 [shD false s, .tuple (lot.map .str)] fun w io => ∃ d, w = .dat d ∧ io = none ∧ CloD s lot d := by
  refine Run.of (fn := f25) rfl rfl rfl fun N hN => ?_
  show Ok (EV.execs F (callN F N) b25 [some (.dat (shD false s)), some (.dat (.tuple (lot.map .str))), none, none, none, none, none, none]) (Fin none _)
  rw [b25_eq]
  and_intros
  refine ⟨rng_ok (n := 5) (by omega), ?_⟩
  refine laps_ok hs lot _ 5 0 _ lot none none none none none (range_len 5) ⟨nd, hl, fun _ h => h, fun x hx => lst_lot hx⟩ (.inr (by omega)) .n .n .n .n .n fun fd v3 v4 v5 v6 v7 hf hz => ?_
  have fl := hf.len hs
  have hz : Shut s (· ∈ fd) := by
    rcases hz with hz | hz
    · exact hz
    · omega
  unfold fq
  and_intros
  refine ⟨sortOk_strs _, ?_⟩
  and_intros
  refine ⟨_, rfl, trivial, fd, ?_, hf.done hz, hf.sub⟩
  rw [sort_strs hf.nd fun x => Iff.rfl]
end K04

set_option linter.all false
set_option maxRecDepth 100000
set_option Elab.async false
namespace K04
open PySem EV
/-! ### referred -/
def rt (S : List Sht) (j : Nat) : List Int := match S[j]? with
  | some s => s.refs.map fun r => (r.1 : Int)
  | none => []
def stepL (S : List Sht) (k : Nat) (f : List Int) (j : Nat) : List Int := if j = k ∨ (j : Int) ∈ f then f ++ rt S j else f
def stepP (S : List Sht) (k : Nat) (f : List Int) (j : Nat) : List Int := if j = k ∨ (j : Int) ∈ f then f ++ (rt S j).filter fun x => !f.contains x else f
def upJ (k n : Nat) : List Nat := (List.range (n - k)).map fun i => k + i
def ledL (S : List Sht) (k : Nat) : List Int := (upJ k S.length).foldl (stepL S k) []
def ledT (S : List Sht) (k : Nat) : D := .tuple (uniqD ((ledL S k).map .int))
theorem step_mem (S : List Sht) (k : Nat) : ∀ (js : List Nat) (f g : List Int), (∀ x, x ∈ f ↔ x ∈ g) → ∀ x, x ∈ js.foldl (stepP S k) f ↔ x ∈ js.foldl (stepL S k) g
  | [], f, g, h, x => h x
  | j :: js, f, g, h, x => by
    refine step_mem S k js _ _ (fun y => ?_) x
    unfold stepP stepL
    by_cases c0 : j = k ∨ (j : Int) ∈ f
    · rw [if_pos c0, if_pos (c0.imp id (h _).mp), List.mem_append, List.mem_append, List.mem_filter, h y]
      constructor
      · rintro (q | q)
        · exact .inl q
        · exact .inr q.1
      · rintro (q | q)
        · exact .inl q
        · by_cases c : y ∈ f
          · exact .inl ((h y).mp c)
          · exact .inr ⟨q, by simpa [List.contains_iff_mem] using c⟩
    · rw [if_neg c0, if_neg (fun z => c0 (z.imp id (h _).mpr))]
      exact h y
theorem rt_len {S : List Sht} (h : ScOk S) (j : Nat) : (rt S j).length ≤ 3 := by
  unfold rt
  split
  · rename_i s hs
    rw [List.length_map]
    exact (h.sh s (List.mem_of_getElem? hs)).rl
  · simp
theorem rt_at {S : List Sht} {j : Nat} {s : Sht} (h : S[j]? = some s) : rt S j = s.refs.map fun r => (r.1 : Int) := by
  unfold rt; rw [h]
theorem len_stepL {S : List Sht} (h : ScOk S) (k : Nat) : ∀ (js : List Nat) (f : List Int), (js.foldl (stepL S k) f).length ≤ f.length + 3 * js.length
  | [], f => by simp
  | j :: js, f => by
    have := len_stepL h k js (stepL S k f j)
    have h2 : (stepL S k f j).length ≤ f.length + 3 := by
      unfold stepL
      split
      · rw [List.length_append]; have := rt_len h j; omega
      · omega
    rw [List.foldl_cons, List.length_cons]
    omega
theorem len_stepP {S : List Sht} (h : ScOk S) (k : Nat) : ∀ (js : List Nat) (f : List Int), (js.foldl (stepP S k) f).length ≤ f.length + 3 * js.length
  | [], f => by simp
  | j :: js, f => by
    have := len_stepP h k js (stepP S k f j)
    have h2 : (stepP S k f j).length ≤ f.length + 3 := by
      unfold stepP
      split
      · rw [List.length_append]; have := rt_len h j; have := List.length_filter_le (fun x => !f.contains x) (rt S j); omega
      · omega
    rw [List.foldl_cons, List.length_cons]
    omega
theorem up_len (k n : Nat) : (upJ k n).length = n - k := by unfold upJ; simp
theorem up_lt {k n j : Nat} (h : j ∈ upJ k n) : j < n := by
  unfold upJ at h
  obtain ⟨i, hi, rfl⟩ := List.mem_map.mp h
  have := List.mem_range.mp hi
  omega
theorem up_rng (k n : Nat) : rangeD (k : Int) (n : Int) = (upJ k n).map fun j : Nat => (.int (j : Int) : D) := by
  unfold rangeD upJ
  rw [List.map_map, show ((n : Int) - (k : Int)).toNat = n - k from by omega]
  refine List.map_congr_left fun i _ => ?_
  show PyData.int _ = PyData.int _
  congr 1
theorem up_rng0 (n : Nat) : rangeD 0 (n : Int) = (upJ 0 n).map fun j : Nat => (.int (j : Int) : D) := up_rng 0 n
theorem led_len {S : List Sht} (h : ScOk S) (k : Nat) : (ledL S k).length ≤ 9 := by
  have := len_stepL h k (upJ k S.length) []
  rw [up_len] at this
  have := h.len
  unfold ledL
  simp at *
  omega
theorem rng2_ok {k n : Nat} (hk : k < 10000) (hn : n < 10000) : (small62 (k : Int) && small62 (n : Int) && decide ((n : Int) - (k : Int) ≤ sizeLine)) = true := by
  rw [small62_nat hk, small62_nat hn, sizeLine_eq]
  simp; omega
def rB : Ss := (.cons (.ite (.bop false (.cons (.op2 .eq (.var 3) (.var 1)) (.cons (.op2 .isin (.var 3) (.var 2)) .nil))) (.cons (.expr (.meth .extend 2 (.cons (.comp (.one 4) (.seq (.idx (.idx (.var 0) (.var 3)) (.cst (.int 3)))) (.yes (.op2 .notin (.idx (.var 4) (.cst (.int 0))) (.var 2))) (.idx (.var 4) (.cst (.int 0)))) .nil))) .nil) .nil) .nil)
theorem b11_eq : b11 = .cons (.expr (.call 6 (.cons (.var 0) (.cons (.lst (.cons (.var 1) .nil)) .nil)))) (.cons (.asg 2 (.lst .nil)) (.cons (.for_ (.one 3) (.range2 (.var 1) (.bi .len (.cons (.var 0) .nil))) rB) (.cons (.ret (.call 1 (.cons (.var 2) .nil))) .nil))) := rfl
def fp (b : Bool) (S : List Sht) (k : Nat) (fd : List Int) (v3 v4 : Option Sv) : Ro := [some (.dat (scD b S)), some (.dat (.int k)), some (.own (fd.map .int)), v3, v4]
theorem rf_loop {N : Nat} (b : Bool) {S : List Sht} (h : ScOk S) (k : Nat) (v4 : Option Sv) (K : EV.Flow × Ro → Prop) : ∀ (js : List Nat) (fd : List Int) (v3 : Option Sv), (∀ j ∈ js, j < S.length) → fd.length + 3 * js.length < 60 → Fr v3 →
    (∀ (v3 : Option Sv), K (.next, fp b S k (js.foldl (stepP S k) fd) v3 v4)) →
    Ok (forL (bindT (.one 3)) (EV.execs F (callN F N) rB) (js.map fun j : Nat => (.int (j : Int) : D)) (fp b S k fd v3 v4)) K := by
  intro js
  induction js with
  | nil => intro fd v3 _ _ h3 hK; exact hK v3
  | cons j js ih =>
    intro fd v3 hj hl h3 hK
    rw [List.length_cons] at hl
    have hjl := hj j List.mem_cons_self
    obtain ⟨s, hs⟩ : ∃ s, S[j]? = some s := ⟨_, List.getElem?_eq_getElem hjl⟩
    have rl := (h.sh s (List.mem_of_getElem? hs)).rl
    rw [List.map_cons, fl_cons]
    unfold fp
    and_intros
    refine os_d h3 ?_
    unfold rB
    have go : j = k ∨ (j : Int) ∈ fd → ∀ (K2 : W × Ro → Prop), (K2 (.dat .none, fp b S k (fd ++ (rt S j).filter fun x => !fd.contains x) (some (.dat (.int j))) v4)) →
        OM (idxD (scD b S) (.int (j : Int))) fun d => OM (idxD d (.int 3)) fun d => OM (seqD d) fun xs => Ok (compL (bindT (.one 4)) (EV.evC F (callN F N) (.yes (.op2 .notin (.idx (.var 4) (.cst (.int 0))) (.var 2)))) (datOf (EV.ev F (callN F N) (.idx (.var 4) (.cst (.int 0))))) (Tg.one 4).slots xs (wipeR [some (.dat (scD b S)), some (.dat (.int k)), some (.own (fd.map .int)), some (.dat (.int j)), v4] (Tg.one 4).slots) []) fun q => BK [some (.dat (scD b S)), some (.dat (.int k)), some (.own (fd.map .int)), some (.dat (.int j)), v4] q.2 [4] fun r => Ok (methE .extend 2 [.list q.1] r) K2 := by
      intro _ K2 hK2
      have e : scD b S = sq b (S.map (shD b)) := rfl
      have e3 : shD b s = sq b [sq b (s.tags.map .str), sq b (s.rules.map (ruD b)), sq b (s.keys.map (keD b)), sq b (s.refs.map (reD b))] := rfl
      rw [e]
      and_intros
      rw [sc_at b hs, e3]
      and_intros
      refine comp_map (reD b) [some (.dat (sq b (S.map (shD b)))), some (.dat (.int k)), some (.own (fd.map .int)), some (.dat (.int j)), none] (fun r => if (!fd.contains (r.1 : Int)) = true then some (.int (r.1 : Int)) else none) _ _ (fun r hr => ?_) ?_
      · unfold reD
        and_intros
        rw [inD_int]
        refine ⟨by rw [shaped_int, (shaped_ints fd).1]; rfl, fun e1 => ⟨rfl, if_pos e1⟩, fun e1 => ⟨rfl, if_neg (by rw [e1]; exact Bool.false_ne_true)⟩⟩
      · rw [filt (fun r : Nat × List Str × List Str => !fd.contains (r.1 : Int)) (fun r => (.int (r.1 : Int) : D)), List.nil_append]
        and_intros
        rw [m_ext _ _ _ rfl]
        have e2 : (s.refs.filter fun r : Nat × List Str × List Str => !fd.contains (r.1 : Int)).map (fun r => (.int (r.1 : Int) : D)) = ((rt S j).filter fun x => !fd.contains x).map .int := by
          rw [rt_at hs, List.filter_map, List.map_map]; rfl
        rw [e2]
        refine ⟨?_, ?_⟩
        · rw [List.length_map, List.length_map, sizeLine_eq]
          have := rt_len h j
          have := List.length_filter_le (fun x => !fd.contains x) (rt S j)
          omega
        · and_intros
          rw [← List.map_append]
          exact hK2
    have next : ∀ fd2, fd2 = stepP S k fd j → Ok (forL (bindT (.one 3)) (EV.execs F (callN F N) rB) (js.map fun j : Nat => (.int (j : Int) : D)) (fp b S k fd2 (some (.dat (.int j))) v4)) K := by
      rintro _ rfl
      refine ih _ _ (fun i hi => hj i (List.mem_cons_of_mem _ hi)) ?_ (.d _) hK
      have := len_stepP h k [j] fd
      simp at this
      omega
    and_intros
    refine ⟨fun e1 => ?_, fun e1 => ?_⟩
    · have e1 := of_decide_eq_true e1
      have c : j = k ∨ (j : Int) ∈ fd := .inl (by omega)
      refine go c _ ?_
      and_intros
      rw [flk_next]
      exact next _ (by unfold stepP; rw [if_pos c])
    · have e1 := of_decide_eq_false e1
      rw [inD_int]
      refine ⟨by rw [shaped_int, (shaped_ints fd).1]; rfl, fun e2 => ?_, fun e2 => ?_⟩
      · have c : j = k ∨ (j : Int) ∈ fd := .inr (by simpa [List.contains_iff_mem] using e2)
        refine go c _ ?_
        and_intros
        rw [flk_next]
        exact next _ (by unfold stepP; rw [if_pos c])
      · and_intros
        rw [flk_next]
        refine next _ ?_
        unfold stepP
        rw [if_neg]
        rintro (z | z)
        · omega
        · rw [List.contains_iff_mem.mpr z] at e2; cases e2
end K04

set_option linter.all false
set_option maxRecDepth 100000
set_option Elab.async false
namespace K04
open PySem EV
theorem lf_uniqI (l : List Int) : lf (.tuple (uniqD (l.map .int))) = true := by
  obtain ⟨ms, e, _⟩ := uniq_ints l
  rw [e, lf]
  exact lfs_ints ms
theorem referred_ok (b : Bool) {S : List Sht} (h : ScOk S) {k : Nat} (hk : k < S.length) : Run F 3 11 [scD b S, .int k] fun w io => w = .dat (ledT S k) ∧ io = none := by
  have hl := h.len
  refine Run.of (fn := f11) rfl rfl rfl fun N hN => ?_
  show Ok (EV.execs F (callN F N) b11 [some (.dat (scD b S)), some (.dat (.int k)), none, none, none]) (Fin none _)
  rw [b11_eq]
  and_intros
  refine call_ok rfl rfl rfl (check_sheets_ok b hk N (by omega)) ?_
  rintro w r ⟨rfl, rfl⟩
  have e : scD b S = sq b (S.map (shD b)) := rfl
  and_intros
  rw [e]
  and_intros
  rw [← e, scD_len]
  refine ⟨rng2_ok (by omega) (by omega), ?_⟩
  rw [up_rng]
  refine rf_loop b h k none _ (upJ k S.length) [] none (fun j hj => up_lt hj) (by rw [up_len]; simp; omega) .n fun v3 => ?_
  unfold fp
  and_intros
  have lp := len_stepP h k (upJ k S.length) []
  rw [up_len] at lp
  simp at lp
  refine call_okC (ds := [.list (((upJ k S.length).foldl (stepP S k) []).map .int)]) rfl rfl rfl (set_of_ok _ (setOk_ints (by omega)) N (by omega)) ?_
  rintro w r ⟨rfl, rfl⟩
  refine ⟨by show (lf _ && true) = true; rw [lf_uniqI]; rfl, ?_⟩
  and_intros
  refine ⟨?_, trivial⟩
  unfold ledT ledL
  rw [uniq_intS (step_mem S k _ [] [] fun _ => Iff.rfl)]
/-! ### the law's own -/
def lB : Ss := (.cons (.ite (.bop false (.cons (.op2 .eq (.var 3) (.var 1)) (.cons (.op2 .isin (.var 3) (.var 2)) .nil))) (.cons (.asg 2 (.op2 .add (.var 2) (.comp (.one 4) (.seq (.idx (.idx (.var 0) (.var 3)) (.cst (.int 3)))) .no (.idx (.var 4) (.cst (.int 0)))))) .nil) .nil) .nil)
theorem b26_eq : b26 = .cons (.asg 2 (.lst .nil)) (.cons (.for_ (.one 3) (.range2 (.var 1) (.bi .len (.cons (.var 0) .nil))) lB) (.cons (.ret (.bi .tuple (.cons (.bi .sortset (.cons (.var 2) .nil)) .nil))) .nil)) := rfl
theorem ll_loop {N : Nat} (b : Bool) {S : List Sht} (h : ScOk S) (k : Nat) (v4 : Option Sv) (K : EV.Flow × Ro → Prop) : ∀ (js : List Nat) (fd : List Int) (v3 : Option Sv), (∀ j ∈ js, j < S.length) → fd.length + 3 * js.length < 60 → Fr v3 →
    (∀ (v3 : Option Sv), K (.next, fp b S k (js.foldl (stepL S k) fd) v3 v4)) →
    Ok (forL (bindT (.one 3)) (EV.execs F (callN F N) lB) (js.map fun j : Nat => (.int (j : Int) : D)) (fp b S k fd v3 v4)) K := by
  intro js
  induction js with
  | nil => intro fd v3 _ _ h3 hK; exact hK v3
  | cons j js ih =>
    intro fd v3 hj hl h3 hK
    rw [List.length_cons] at hl
    have hjl := hj j List.mem_cons_self
    obtain ⟨s, hs⟩ : ∃ s, S[j]? = some s := ⟨_, List.getElem?_eq_getElem hjl⟩
    rw [List.map_cons, fl_cons]
    unfold fp
    and_intros
    refine os_d h3 ?_
    unfold lB
    have go : j = k ∨ (j : Int) ∈ fd → ∀ (K2 : List D × Ro → Prop), (K2 ((rt S j).map .int, [some (.dat (scD b S)), some (.dat (.int k)), some (.own (fd.map .int)), some (.dat (.int j)), none])) →
        OM (idxD (scD b S) (.int (j : Int))) fun d => OM (idxD d (.int 3)) fun d => OM (seqD d) fun xs => Ok (compL (bindT (.one 4)) (EV.evC F (callN F N) .no) (datOf (EV.ev F (callN F N) (.idx (.var 4) (.cst (.int 0))))) (Tg.one 4).slots xs (wipeR [some (.dat (scD b S)), some (.dat (.int k)), some (.own (fd.map .int)), some (.dat (.int j)), v4] (Tg.one 4).slots) []) K2 := by
      intro _ K2 hK2
      have e : scD b S = sq b (S.map (shD b)) := rfl
      have e3 : shD b s = sq b [sq b (s.tags.map .str), sq b (s.rules.map (ruD b)), sq b (s.keys.map (keD b)), sq b (s.refs.map (reD b))] := rfl
      rw [e]
      and_intros
      rw [sc_at b hs, e3]
      and_intros
      refine comp_map (reD b) [some (.dat (sq b (S.map (shD b)))), some (.dat (.int k)), some (.own (fd.map .int)), some (.dat (.int j)), none] (fun r => some (.int (r.1 : Int))) _ _ (fun r hr => ?_) ?_
      · unfold reD
        and_intros
        (first | exact ⟨rfl, trivial⟩ | exact ⟨trivial, trivial⟩ | exact ⟨rfl, rfl⟩ | trivial)
      · rw [fm_some, List.nil_append]
        rw [rt_at hs, List.map_map] at hK2
        exact hK2
    have next : ∀ fd2, fd2 = stepL S k fd j → Ok (forL (bindT (.one 3)) (EV.execs F (callN F N) lB) (js.map fun j : Nat => (.int (j : Int) : D)) (fp b S k fd2 (some (.dat (.int j))) v4)) K := by
      rintro _ rfl
      refine ih _ _ (fun i hi => hj i (List.mem_cons_of_mem _ hi)) ?_ (.d _) hK
      have := len_stepL h k [j] fd
      simp at this
      omega
    have rl := rt_len h j
    and_intros
    refine ⟨fun e1 => ?_, fun e1 => ?_⟩
    · have e1 := of_decide_eq_true e1
      have c : j = k ∨ (j : Int) ∈ fd := .inl (by omega)
      refine go c _ ?_
      and_intros
      refine ⟨by rw [List.length_map, List.length_map, sizeLine_eq]; omega, ?_⟩
      rw [flk_next, ← List.map_append]
      exact next _ (by unfold stepL; rw [if_pos c])
    · have e1 := of_decide_eq_false e1
      rw [inD_int]
      refine ⟨by rw [shaped_int, (shaped_ints fd).1]; rfl, fun e2 => ?_, fun e2 => ?_⟩
      · have c : j = k ∨ (j : Int) ∈ fd := .inr (by simpa [List.contains_iff_mem] using e2)
        refine go c _ ?_
        and_intros
        refine ⟨by rw [List.length_map, List.length_map, sizeLine_eq]; omega, ?_⟩
        rw [flk_next, ← List.map_append]
        exact next _ (by unfold stepL; rw [if_pos c])
      · and_intros
        rw [flk_next]
        refine next _ ?_
        unfold stepL
        rw [if_neg]
        rintro (z | z)
        · omega
        · rw [List.contains_iff_mem.mpr z] at e2; cases e2
theorem law_led_ok (b : Bool) {S : List Sht} (h : ScOk S) {k : Nat} (hk : k < S.length) : Run F 1 26 [scD b S, .int k] fun w io => w = .dat (ledT S k) ∧ io = none := by
  have hl := h.len
  refine Run.of (fn := f26) rfl rfl rfl fun N hN => ?_
  show Ok (EV.execs F (callN F N) b26 [some (.dat (scD b S)), some (.dat (.int k)), none, none, none]) (Fin none _)
  rw [b26_eq]
  have e : scD b S = sq b (S.map (shD b)) := rfl
  and_intros
  rw [e]
  and_intros
  rw [← e, scD_len]
  refine ⟨rng2_ok (by omega) (by omega), ?_⟩
  rw [up_rng]
  refine ll_loop b h k none _ (upJ k S.length) [] none (fun j hj => up_lt hj) (by rw [up_len]; simp; omega) .n fun v3 => ?_
  unfold fp
  and_intros
  have := led_len h k
  refine ⟨setOk_ints (l := ledL S k) (by omega), ?_⟩
  and_intros
  (first | exact ⟨rfl, trivial⟩ | exact ⟨trivial, trivial⟩ | exact ⟨rfl, rfl⟩ | trivial)
/-- who refers to k -/
def ring (S : List Sht) (k : Nat) : D := .tuple (((upJ 0 S.length).filter fun j => (ledL S j).contains (k : Int)).map fun j : Nat => (.int (j : Int) : D))
theorem led_in (S : List Sht) (j k : Nat) : inD (.int (k : Int)) (uniqD ((ledL S j).map .int)) = (ledL S j).contains (k : Int) := by
  obtain ⟨ms, e, _, h⟩ := uniq_ints (ledL S j)
  rw [e, inD_int, Bool.eq_iff_iff, List.contains_iff_mem, List.contains_iff_mem]
  exact h _
theorem led_shaped (S : List Sht) (j k : Nat) : (SeqAt.shaped (.int (k : Int)) && SeqAt.shaped (.tuple (uniqD ((ledL S j).map .int)))) = true := by
  obtain ⟨ms, e, _, h⟩ := uniq_ints (ledL S j)
  rw [e, shaped_int, (shaped_ints ms).2]; rfl
theorem referring_ok (b : Bool) {S : List Sht} (h : ScOk S) {k : Nat} (hk : k < S.length) : Run F 4 12 [scD b S, .int k] fun w io => w = .dat (ring S k) ∧ io = none := by
  have hl := h.len
  refine Run.of (fn := f12) rfl rfl rfl fun N hN => ?_
  show Ok (EV.execs F (callN F N) b12 [some (.dat (scD b S)), some (.dat (.int k)), none]) (Fin none _)
  unfold b12
  and_intros
  refine call_ok rfl rfl rfl (check_sheets_ok b hk N (by omega)) ?_
  rintro w r ⟨rfl, rfl⟩
  have e : scD b S = sq b (S.map (shD b)) := rfl
  and_intros
  rw [e]
  and_intros
  rw [← e, scD_len]
  refine ⟨rng_ok (by omega), ?_⟩
  rw [up_rng0]
  refine comp_map (fun j : Nat => (.int (j : Int) : D)) [some (.dat (scD b S)), some (.dat (.int k)), none] (fun j => if (ledL S j).contains (k : Int) = true then some (.int (j : Int)) else none) _ _ (fun j hj => ?_) ?_
  · and_intros
    refine call_ok rfl rfl rfl (referred_ok b h (up_lt hj) N (by omega)) ?_
    rintro w r ⟨rfl, rfl⟩
    unfold ledT
    and_intros
    rw [led_in]
    exact ⟨led_shaped S j k, fun e1 => ⟨rfl, if_pos e1⟩, fun e1 => ⟨rfl, if_neg (by rw [e1]; exact Bool.false_ne_true)⟩⟩
  · rw [filt (fun j : Nat => (ledL S j).contains (k : Int)) (fun j : Nat => (.int (j : Int) : D)), List.nil_append]
    and_intros
    (first | exact ⟨rfl, trivial⟩ | exact ⟨trivial, trivial⟩ | exact ⟨rfl, rfl⟩ | trivial)
end K04

set_option linter.all false
set_option maxRecDepth 100000
set_option Elab.async false
namespace K04
open PySem EV
theorem heard0 (b : Bool) {S : List Sht} (h : ScOk S) {t : Str} (ht : t ∈ cols S) (d : D) : Run F 5 24 [.int 0, scD b S, .str t, d] fun w io => w = .dat (.int (hm S t : Nat)) ∧ io = none := by
  refine Run.of (fn := f24) rfl rfl rfl fun N hN => ?_
  show Ok (EV.execs F (callN F N) b24 [some (.dat (.int 0)), some (.dat (scD b S)), some (.dat (.str t)), some (.dat d), none, none, none]) (Fin none _)
  unfold b24
  and_intros
  refine ⟨fun _ => ?_, fun z => by simp at z⟩
  refine call_ok rfl rfl rfl (sheet_of_ok b h ht N (by omega)) ?_
  rintro w r ⟨rfl, rfl⟩
  and_intros
  simp only [isNone]
  and_intros
  (first | exact ⟨rfl, trivial⟩ | exact ⟨trivial, trivial⟩ | exact ⟨rfl, rfl⟩ | trivial)
theorem heard2 (b : Bool) {S : List Sht} (h : ScOk S) {k : Nat} (hk : k < S.length) (d : D) : Run F 4 24 [.int 2, scD b S, .int k, d] fun w io => w = .dat (ledT S k) ∧ io = none := by
  refine Run.of (fn := f24) rfl rfl rfl fun N hN => ?_
  show Ok (EV.execs F (callN F N) b24 [some (.dat (.int 2)), some (.dat (scD b S)), some (.dat (.int k)), some (.dat d), none, none, none]) (Fin none _)
  unfold b24
  and_intros
  refine ⟨fun z => by simp at z, fun _ => ?_⟩
  refine call_ok rfl rfl rfl (referred_ok b h hk N (by omega)) ?_
  rintro w r ⟨rfl, rfl⟩
  and_intros
  simp only [isNone]
  and_intros
  (first | exact ⟨rfl, trivial⟩ | exact ⟨trivial, trivial⟩ | exact ⟨rfl, rfl⟩ | trivial)
theorem heard3 (b : Bool) {S : List Sht} (h : ScOk S) {k : Nat} (hk : k < S.length) (d : D) : Run F 5 24 [.int 3, scD b S, .int k, d] fun w io => w = .dat (ring S k) ∧ io = none := by
  refine Run.of (fn := f24) rfl rfl rfl fun N hN => ?_
  show Ok (EV.execs F (callN F N) b24 [some (.dat (.int 3)), some (.dat (scD b S)), some (.dat (.int k)), some (.dat d), none, none, none]) (Fin none _)
  unfold b24
  and_intros
  refine ⟨fun z => by simp at z, fun _ => ?_⟩
  refine call_ok rfl rfl rfl (referring_ok b h hk N (by omega)) ?_
  rintro w r ⟨rfl, rfl⟩
  and_intros
  simp only [isNone]
  and_intros
  (first | exact ⟨rfl, trivial⟩ | exact ⟨trivial, trivial⟩ | exact ⟨rfl, rfl⟩ | trivial)
def unfitD : D := .list [.str "unfit", .bool true]
theorem heard1 (b p : Bool) {S : List Sht} (h : ScOk S) {k : Nat} {s : Sht} (hs : S[k]? = some s) {l : List Str} (hl : ∀ x ∈ l, x ∈ cols S) (nd : l.Nodup) :
    Run F 9 24 [.int 1, scD b S, .int k, sq p (l.map .str)] fun w io => ∃ d, w = .dat d ∧ io = none ∧ ((Fits l s ∧ CloD s l d) ∨ (¬ Fits l s ∧ d = unfitD)) := by
  refine Run.of (fn := f24) rfl rfl rfl fun N hN => ?_
  show Ok (EV.execs F (callN F N) b24 [some (.dat (.int 1)), some (.dat (scD b S)), some (.dat (.int k)), some (.dat (sq p (l.map .str))), none, none, none]) (Fin none _)
  unfold b24
  and_intros
  refine ⟨fun _ => ?_, fun z => by simp at z⟩
  refine call_okX rfl rfl rfl (closed_ok b p h hs hl nd N (by omega)) ?_ ?_
  · rintro w r ⟨d, rfl, rfl, hf, hd⟩
    and_intros
    simp only [isNone]
    and_intros
    exact ⟨d, rfl, trivial, .inl ⟨hf, hd⟩⟩
  · rintro x r ⟨rfl, rfl, hf⟩
    and_intros
    rw [oi_f (b := (1 == 2)) (by decide)]
    and_intros
    rw [oi_f (b := (0 == 2)) (by decide)]
    and_intros
    rw [oi_t (b := (2 == 2)) (by decide)]
    simp only [List.getElem?_cons_succ, List.getElem?_cons_zero, om_some, hItems, hItem, Option.bind_some, Option.map_some, List.set_cons_succ, List.set_cons_zero]
    and_intros
    simp only [isNone]
    and_intros
    exact ⟨_, rfl, trivial, .inr ⟨hf, rfl⟩⟩
end K04

set_option linter.all false
set_option maxRecDepth 100000
set_option Elab.async false
namespace K04
open PySem EV
theorem tags_ok {S : List Sht} (h : ScOk S) : Run F 1 22 [scD false S] fun w io => w = .new (sortD ((cols S).map .str)) ∧ io = none := by
  refine Run.of (fn := f22) rfl rfl rfl fun N hN => ?_
  show Ok (EV.execs F (callN F N) b22 [some (.dat (scD false S)), none, none]) (Fin none _)
  unfold b22
  have main : ∀ (T : List Sht) (l : List Str) (v : Option Sv) (K : EV.Flow × Ro → Prop), (l ++ cols T).length ≤ 100 → Fr v → (∀ v, K (.next, [some (.dat (scD false S)), some (.own ((l ++ cols T).map .str)), v])) →
      Ok (forL (bindT (.one 2)) (EV.execs F (callN F N) (.cons (.asg 1 (.op2 .add (.var 1) (.bi .list (.cons (.idx (.var 2) (.cst (.int 0))) .nil)))) .nil)) (T.map (shD false)) [some (.dat (scD false S)), some (.own (l.map .str)), v]) K := by
    intro T
    induction T with
    | nil => intro l v K _ hv hK; have := hK v; simp [cols] at this; exact this
    | cons s T ih =>
      intro l v K hl hv hK
      have e2 : cols (s :: T) = s.tags ++ cols T := rfl
      rw [e2, ← List.append_assoc] at hl hK
      rw [List.map_cons, fl_cons]
      and_intros
      refine os_d hv ?_
      have e : shD false s = .tuple [.tuple (s.tags.map .str), dRules s, dKeys s, dRefs s] := rfl
      and_intros
      rw [e]
      and_intros
      rw [List.length_append] at hl
      rw [List.length_append] at hl
      refine ⟨by rw [List.length_map, List.length_map, sizeLine_eq]; omega, ?_⟩
      rw [flk_next, ← List.map_append]
      exact ih (l ++ s.tags) _ K (by simp only [List.length_append]; omega) (.d _) hK
  have e : scD false S = .tuple (S.map (shD false)) := rfl
  and_intros
  rw [e]
  and_intros
  rw [← e]
  have := h.clen
  refine main S [] none _ (by simp; omega) .n fun v => ?_
  rw [List.nil_append]
  and_intros
  refine ⟨sortOk_strs _, ?_⟩
  (first | exact ⟨rfl, trivial⟩ | exact ⟨trivial, trivial⟩ | exact ⟨rfl, rfl⟩ | trivial)
/-- some of them, in their order -/
theorem few_ok {m : Nat} {b : List D} (hb : Bx m b) {l : List Str} (hm : m + l.length < 2 ^ 40) : Run F 2 20 [.list b, .tuple (l.map .str)] fun w io => ∃ (f : List Str) (b' : List D), w = .dat (.tuple (f.map .str)) ∧ io = some b' ∧ Bx (m + l.length) b' ∧ f.Sublist l := by
  refine Run.of (fn := f20) rfl rfl rfl fun N hN => ?_
  show Ok (EV.execs F (callN F N) b20 [some (.io b), some (.dat (.tuple (l.map .str))), none]) (Fin (some 0) _)
  unfold b20
  have main : ∀ (r : List Str) (n : Nat) (b f : _) (K : List D × Ro → Prop), Bx n b → n + r.length < 2 ^ 40 → (∀ (g : List Str) (b' : List D), g.Sublist r → Bx (n + r.length) b' → K ((f ++ g).map .str, [some (.io b'), some (.dat (.tuple (l.map .str))), none])) →
      Ok (compL (bindT (.one 2)) (EV.evC F (callN F N) (.yes (.op2 .eq (.call 14 (.cons (.var 0) (.cons (.cst (.int 2)) .nil))) (.cst (.int 0))))) (datOf (EV.ev F (callN F N) (.var 2))) [2] (r.map .str) [some (.io b), some (.dat (.tuple (l.map .str))), none] (f.map .str)) K := by
    intro r
    induction r with
    | nil => intro n b f K hb _ hK; have := hK [] b List.Sublist.slnil hb; rw [List.append_nil] at this; exact this
    | cons x r ih =>
      intro n b f K hb hn hK
      rw [List.length_cons] at hn hK
      rw [List.map_cons, cp_cons]
      and_intros
      refine call_ok rfl rfl rfl (take_ok hb (by omega) (by omega) (by omega) N (by omega)) ?_
      rintro w q ⟨c, b1, rfl, rfl, hb1, c0, c1⟩
      and_intros
      refine ⟨fun e1 => ?_, fun e1 => ?_⟩
      · show Ok (compL _ _ _ _ _ _ (f.map .str ++ [.str x])) K
        rw [map_snoc]
        refine ih (n + 1) b1 (f ++ [x]) K hb1 (by omega) fun g b' hg hb' => ?_
        rw [List.append_assoc]
        exact hK (x :: g) b' (hg.cons₂ x) (hb'.mono (by omega))
      · exact ih (n + 1) b1 f K hb1 (by omega) fun g b' hg hb' => hK g b' (hg.cons x) (hb'.mono (by omega))
  and_intros
  refine main l m b [] _ hb hm fun g b' hg hb' => ?_
  and_intros
  exact ⟨g, b', rfl, rfl, hb', hg⟩
end K04

set_option linter.all false
set_option maxRecDepth 100000
set_option Elab.async false
namespace K04
open PySem EV
def P : List (List Str) := [["m", "bb", "x"], ["b", "f", "q"], ["a", "r"]]
def poolD : List D := P.map fun l => .list (l.map .str)
theorem P_nd : P.flatten.Nodup := by decide +kernel
theorem P_ok : StrsOk P.flatten := by
  unfold StrsOk
  decide +kernel
theorem P_len {i : Nat} {p : List Str} (h : P[i]? = some p) : 0 < p.length ∧ p.length ≤ 3 := by
  have : i < 3 := (List.getElem?_eq_some_iff.mp h).1
  match i, this, h with
  | 0, _, h => cases h; exact ⟨by decide, by decide⟩
  | 1, _, h => cases h; exact ⟨by decide, by decide⟩
  | 2, _, h => cases h; exact ⟨by decide, by decide⟩
theorem P_mem {i : Nat} {p : List Str} (h : P[i]? = some p) : p ∈ P := List.mem_of_getElem? h
theorem P_sub {i : Nat} {p : List Str} (h : P[i]? = some p) {x : Str} (hx : x ∈ p) : PyData.strOk x = true := P_ok x (List.mem_flatten.mpr ⟨p, P_mem h, hx⟩)
theorem P_nd1 {i : Nat} {p : List Str} (h : P[i]? = some p) : p.Nodup := by
  have : i < 3 := (List.getElem?_eq_some_iff.mp h).1
  match i, this, h with
  | 0, _, h => cases h; decide +kernel
  | 1, _, h => cases h; decide +kernel
  | 2, _, h => cases h; decide +kernel
theorem P_dis {i j : Nat} {p q : List Str} (hij : i ≠ j) (h : P[i]? = some p) (h' : P[j]? = some q) : ∀ x ∈ p, x ∉ q := by
  have hi : i < 3 := (List.getElem?_eq_some_iff.mp h).1
  have hj : j < 3 := (List.getElem?_eq_some_iff.mp h').1
  match i, j, hi, hj, h, h', hij with
  | 0, 0, _, _, _, _, z => exact absurd rfl z
  | 1, 1, _, _, _, _, z => exact absurd rfl z
  | 2, 2, _, _, _, _, z => exact absurd rfl z
  | 0, 1, _, _, h, h', _ => cases h; cases h'; decide +kernel
  | 0, 2, _, _, h, h', _ => cases h; cases h'; decide +kernel
  | 1, 0, _, _, h, h', _ => cases h; cases h'; decide +kernel
  | 1, 2, _, _, h, h', _ => cases h; cases h'; decide +kernel
  | 2, 0, _, _, h, h', _ => cases h; cases h'; decide +kernel
  | 2, 1, _, _, h, h', _ => cases h; cases h'; decide +kernel
def pre (s : Sht) : D := .tuple [.tuple (s.tags.map .str), .tuple (s.rules.map (ruD false)), .tuple (s.keys.map (keD false))]
structure Dr (i : Nat) (s : Sht) : Prop where
  ok : ShOk s
  refs : s.refs = []
  pool : ∃ p, P[i]? = some p ∧ ∀ x ∈ s.tags, x ∈ p
/-- drawn rules -/
theorem rl_loop {N : Nat} (hN : 2 ≤ N) {l : List Str} (hl : l ≠ []) (ll : l.length ≤ 3) (v1 v2 v3 v4 v5 v7 v8 v9 v10 v11 v12 v14 : Option Sv) (K : List D × Ro → Prop) : ∀ (xs : List D) (n : Nat) (b : List D) (R : List (List Str × Str)), Bx n b → n + 4 * xs.length < 2 ^ 40 → (∀ r ∈ R, r.1.Sublist l ∧ r.2 ∈ l) →
    (∀ (R' : List (List Str × Str)) (b' : List D), Bx (n + 4 * xs.length) b' → R'.length = R.length + xs.length → (∀ r ∈ R', r.1.Sublist l ∧ r.2 ∈ l) → K (R'.map (ruD false), [some (.io b'), v1, v2, v3, v4, v5, some (.dat (.tuple (l.map .str))), v7, v8, v9, v10, v11, v12, none, v14])) →
    Ok (compL (bindT (.one 13)) (EV.evC F (callN F N) .no) (datOf (EV.ev F (callN F N) (.tup (.cons (.call 20 (.cons (.var 0) (.cons (.var 6) .nil))) (.cons (.call 16 (.cons (.var 0) (.cons (.var 6) .nil))) .nil))))) [13] xs [some (.io b), v1, v2, v3, v4, v5, some (.dat (.tuple (l.map .str))), v7, v8, v9, v10, v11, v12, none, v14] (R.map (ruD false))) K := by
  intro xs
  induction xs with
  | nil => intro n b R hb _ hR hK; exact hK R b hb rfl hR
  | cons x xs ih =>
    intro n b R hb hn hR hK
    rw [List.length_cons] at hn hK
    rw [cp_cons]
    and_intros
    refine call_ok rfl rfl rfl (few_ok hb (l := l) (by omega) N (by omega)) ?_
    rintro w q ⟨f, b1, rfl, rfl, hb1, hf⟩
    and_intros
    refine call_ok rfl rfl rfl (of_ok hb1 (by omega) (xs := l.map .str) (by simpa using hl) (by rw [List.length_map]; omega) (.tuple (l.map .str)) (.inl rfl) N (by omega)) ?_
    rintro w q ⟨y, b2, rfl, rfl, hb2, hy⟩
    obtain ⟨t, ht, rfl⟩ := List.mem_map.mp hy
    and_intros
    have e : R.map (ruD false) ++ [.tuple [.tuple (f.map .str), .str t]] = (R ++ [(f, t)]).map (ruD false) := by rw [List.map_append]; rfl
    show Ok (compL _ _ _ _ _ _ (R.map (ruD false) ++ [.tuple [.tuple (f.map .str), .str t]])) K
    rw [e]
    refine ih (n + l.length + 1) b2 (R ++ [(f, t)]) hb2 (by omega) (fun r hr => ?_) fun R' b' q1 q2 q3 => hK R' b' (q1.mono (by omega)) (by rw [q2, List.length_append, List.length_singleton]; omega) q3
    rcases List.mem_append.mp hr with hr | hr
    · exact hR r hr
    · rw [List.mem_singleton.mp hr]; exact ⟨hf, ht⟩
/-- drawn keys -/
theorem kl_loop {N : Nat} (hN : 2 ≤ N) {l : List Str} (hl : l ≠ []) (ll : l.length ≤ 3) (v1 v2 v3 v4 v5 v7 v8 v9 v10 v11 v12 v14 : Option Sv) (K : List D × Ro → Prop) : ∀ (xs : List D) (n : Nat) (b : List D) (R : List (List Str)), Bx n b → n + 4 * xs.length < 2 ^ 40 → (∀ r ∈ R, r.Sublist l) →
    (∀ (R' : List (List Str)) (b' : List D), Bx (n + 4 * xs.length) b' → R'.length = R.length + xs.length → (∀ r ∈ R', r.Sublist l) → K (R'.map (keD false), [some (.io b'), v1, v2, v3, v4, v5, some (.dat (.tuple (l.map .str))), v7, v8, v9, v10, v11, v12, none, v14])) →
    Ok (compL (bindT (.one 13)) (EV.evC F (callN F N) .no) (datOf (EV.ev F (callN F N) (.call 20 (.cons (.var 0) (.cons (.var 6) .nil))))) [13] xs [some (.io b), v1, v2, v3, v4, v5, some (.dat (.tuple (l.map .str))), v7, v8, v9, v10, v11, v12, none, v14] (R.map (keD false))) K := by
  intro xs
  induction xs with
  | nil => intro n b R hb _ hR hK; exact hK R b hb rfl hR
  | cons x xs ih =>
    intro n b R hb hn hR hK
    rw [List.length_cons] at hn hK
    rw [cp_cons]
    and_intros
    refine call_ok rfl rfl rfl (few_ok hb (l := l) (by omega) N (by omega)) ?_
    rintro w q ⟨f, b1, rfl, rfl, hb1, hf⟩
    and_intros
    have e : R.map (keD false) ++ [.tuple (f.map .str)] = (R ++ [f]).map (keD false) := by rw [List.map_append]; rfl
    show Ok (compL _ _ _ _ _ _ (R.map (keD false) ++ [.tuple (f.map .str)])) K
    rw [e]
    refine ih (n + l.length) b1 (R ++ [f]) hb1 (by omega) (fun r hr => ?_) fun R' b' q1 q2 q3 => hK R' b' (q1.mono (by omega)) (by rw [q2, List.length_append, List.length_singleton]; omega) q3
    rcases List.mem_append.mp hr with hr | hr
    · exact hR r hr
    · rw [List.mem_singleton.mp hr]; exact hf
/-! ### sets of these -/
theorem keyeds_strs : ∀ l : List Str, keyeds (l.map .str) = true
  | [] => rfl
  | x :: l => by rw [List.map_cons, keyeds, keyeds_strs l]; rfl
theorem setOk_ru {R : List (List Str × Str)} (h : R.length < 64) : setOk (R.map (ruD false)) = true := by
  simp only [setOk, allAlike, Bool.and_eq_true, List.all_eq_true, decide_eq_true_eq]
  refine ⟨⟨⟨by simpa using h, fun x hx y hy => ?_⟩, fun x hx => ?_⟩, fun x hx => ?_⟩
  · obtain ⟨r, _, rfl⟩ := List.mem_map.mp hx
    obtain ⟨q, _, rfl⟩ := List.mem_map.mp hy
    show W.alike (.tuple [.tuple _, .str _]) (.tuple [.tuple _, .str _]) = true
    rw [W.alike, W.alikeAll, W.alike, alike_strs, W.alikeAll, W.alike, W.alikeAll]; rfl
  · obtain ⟨r, _, rfl⟩ := List.mem_map.mp hx
    show keyed (.tuple [.tuple _, .str _]) = true
    rw [keyed, keyeds, keyed, keyeds_strs]; rfl
  · obtain ⟨r, _, rfl⟩ := List.mem_map.mp hx
    show PyData.depth (.tuple [.tuple _, .str _]) ≤ 8
    simp only [PyData.depth, PyData.depthAll, depth_strs]; omega
theorem setOk_ke {R : List (List Str)} (h : R.length < 64) : setOk (R.map (keD false)) = true := by
  simp only [setOk, allAlike, Bool.and_eq_true, List.all_eq_true, decide_eq_true_eq]
  refine ⟨⟨⟨by simpa using h, fun x hx y hy => ?_⟩, fun x hx => ?_⟩, fun x hx => ?_⟩
  · obtain ⟨r, _, rfl⟩ := List.mem_map.mp hx
    obtain ⟨q, _, rfl⟩ := List.mem_map.mp hy
    show W.alike (.tuple _) (.tuple _) = true
    rw [W.alike, alike_strs]
  · obtain ⟨r, _, rfl⟩ := List.mem_map.mp hx
    show keyed (.tuple _) = true
    rw [keyed, keyeds_strs]
  · obtain ⟨r, _, rfl⟩ := List.mem_map.mp hx
    show PyData.depth (.tuple _) ≤ 8
    simp only [PyData.depth, depth_strs]; omega
theorem uniq_of {α : Type} (φ : α → D) (R : List α) : ∃ R2 : List α, uniqD (R.map φ) = R2.map φ ∧ ∀ r ∈ R2, ∃ q ∈ R, φ r = φ q := by
  obtain ⟨R2, e⟩ := mapped φ (xs := uniqD (R.map φ)) fun x hx => by
    obtain ⟨r, _, e⟩ := List.mem_map.mp (uniqD_sub _ x hx); exact ⟨r, e.symm⟩
  refine ⟨R2, e, fun r hr => ?_⟩
  have : φ r ∈ uniqD (R.map φ) := by rw [e]; exact List.mem_map.mpr ⟨r, hr, rfl⟩
  obtain ⟨q, hq, e2⟩ := List.mem_map.mp (uniqD_sub _ _ this)
  exact ⟨q, hq, e2.symm⟩
theorem strs_inj {a b : List Str} (h : a.map PyData.str = b.map PyData.str) : a = b := (List.map_inj_right fun x y e => by cases e; rfl).mp h
theorem ru_inj {r q : List Str × Str} (h : ruD false r = ruD false q) : r = q := by
  have h : PyData.tuple [.tuple (r.1.map .str), .str r.2] = .tuple [.tuple (q.1.map .str), .str q.2] := h
  injection h with h
  injection h with h1 h2
  injection h1 with h1
  injection h2 with h2
  injection h2 with h2
  exact Prod.ext (strs_inj h1) h2
theorem ke_inj {r q : List Str} (h : keD false r = keD false q) : r = q := by
  have h : PyData.tuple (r.map .str) = .tuple (q.map .str) := h
  injection h with h
  exact strs_inj h
end K04

set_option linter.all false
set_option maxRecDepth 100000
set_option Elab.async false
namespace K04
open PySem EV
def s1 : Ss := (.cons (.asg 6 (.bi .tuple (.cons (.bi .sorted (.cons (.slc (.idx (.var 4) (.var 2)) .no (.yes (.op2 .add (.cst (.int 1)) (.call 14 (.cons (.var 0) (.cons (.bi .len (.cons (.idx (.var 4) (.var 2)) .nil)) .nil)))))) .nil)) .nil)))
 (.cons (.asg 7 (.comp (.one 13) (.range1 (.call 14 (.cons (.var 0) (.cons (.cst (.int 3)) .nil)))) .no (.tup (.cons (.call 20 (.cons (.var 0) (.cons (.var 6) .nil))) (.cons (.call 16 (.cons (.var 0) (.cons (.var 6) .nil))) .nil)))))
 (.cons (.asg 8 (.comp (.one 13) (.range1 (.call 14 (.cons (.var 0) (.cons (.cst (.int 3)) .nil)))) .no (.call 20 (.cons (.var 0) (.cons (.var 6) .nil)))))
 (.cons (.expr (.meth .append 5 (.cons (.tup (.cons (.var 6) (.cons (.bi .tuple (.cons (.bi .sortset (.cons (.var 7) .nil)) .nil)) (.cons (.bi .tuple (.cons (.bi .sortset (.cons (.var 8) .nil)) .nil)) .nil)))) .nil)))
 .nil))))
def s3 : Ss := (.cons (.asg 12 (.comp (.one 14) (.seq (.idx (.idx (.var 5) (.var 11)) (.cst (.int 2)))) (.yes (.op2 .le (.bi .len (.cons (.var 14) .nil)) (.bi .len (.cons (.idx (.var 9) (.cst (.int 0))) .nil)))) (.var 14)))
 (.cons (.ite (.bop true (.cons (.op2 .ne (.var 12) (.lst .nil)) (.cons (.op2 .eq (.call 14 (.cons (.var 0) (.cons (.cst (.int 2)) .nil))) (.cst (.int 0))) .nil))) (.cons (.asg 14 (.call 16 (.cons (.var 0) (.cons (.var 12) .nil))))
 (.cons (.expr (.meth .append 10 (.cons (.tup (.cons (.var 11) (.cons (.bi .tuple (.cons (.slc (.call 19 (.cons (.var 0) (.cons (.idx (.var 9) (.cst (.int 0))) .nil))) .no (.yes (.bi .len (.cons (.var 14) .nil)))) .nil)) (.cons (.var 14) .nil)))) .nil)))
 .nil)) .nil)
 .nil))
def s2 : Ss := (.cons (.asg 10 (.lst .nil))
 (.cons (.for_ (.one 11) (.range2 (.op2 .add (.var 2) (.cst (.int 1))) (.bi .len (.cons (.var 5) .nil))) s3)
 (.cons (.expr (.meth .append 3 (.cons (.op2 .add (.var 9) (.tup (.cons (.bi .tuple (.cons (.var 10) .nil)) .nil))) .nil)))
 .nil)))
theorem b21_eq : b21 = .cons (.par [4, 5] (.cons (.lst (.cons (.lst (.cons (.cst (.str "m")) (.cons (.cst (.str "bb")) (.cons (.cst (.str "x")) .nil)))) (.cons (.lst (.cons (.cst (.str "b")) (.cons (.cst (.str "f")) (.cons (.cst (.str "q")) .nil)))) (.cons (.lst (.cons (.cst (.str "a")) (.cons (.cst (.str "r")) .nil))) .nil)))) (.cons (.lst .nil) .nil)))
 (.cons (.for_ (.one 2) (.range1 (.op2 .add (.cst (.int 1)) (.call 14 (.cons (.var 0) (.cons (.var 1) .nil))))) s1)
 (.cons (.asg 3 (.lst .nil))
 (.cons (.for_ (.many [2, 9]) (.enum (.var 5)) s2)
 (.cons (.ret (.bi .tuple (.cons (.var 3) .nil)))
 .nil)))) := rfl
def fs (b : List D) (v2 v3 : Option Sv) (T : List Sht) (v6 v7 v8 v9 v10 v11 v12 v13 v14 : Option Sv) : Ro := [some (.io b), some (.dat (.int 3)), v2, v3, some (.own poolD), some (.own (T.map pre)), v6, v7, v8, v9, v10, v11, v12, v13, v14]
theorem pool_at {i : Nat} {p : List Str} (h : P[i]? = some p) (K : D → Prop) : OM (atD poolD (i : Int)) K = K (.list (p.map .str)) := by
  have hi := (List.getElem?_eq_some_iff.mp h).1
  exact atD_k _ i _ K (by unfold poolD; rw [List.getElem?_map, h]; rfl) (by unfold poolD; rw [List.length_map]; exact hi)
theorem sort_out (l : List Str) : ∃ ms : List Str, sortD (l.map .str) = ms.map .str ∧ ms.Perm l := sortD_strs l
theorem sub_rule {l : List Str} {R : List (List Str × Str)} (h : ∀ r ∈ R, r.1.Sublist l ∧ r.2 ∈ l) : ∃ R2 : List (List Str × Str), uniqD (R.map (ruD false)) = R2.map (ruD false) ∧ ∀ r ∈ R2, r.1.Sublist l ∧ r.2 ∈ l := by
  obtain ⟨R2, e, h2⟩ := uniq_of (ruD false) R
  refine ⟨R2, e, fun r hr => ?_⟩
  obtain ⟨q, hq, e2⟩ := h2 r hr
  rw [ru_inj e2]; exact h q hq
theorem sub_key {l : List Str} {R : List (List Str)} (h : ∀ r ∈ R, r.Sublist l) : ∃ R2 : List (List Str), uniqD (R.map (keD false)) = R2.map (keD false) ∧ ∀ r ∈ R2, r.Sublist l := by
  obtain ⟨R2, e, h2⟩ := uniq_of (keD false) R
  refine ⟨R2, e, fun r hr => ?_⟩
  obtain ⟨q, hq, e2⟩ := h2 r hr
  rw [ke_inj e2]; exact h q hq
theorem up_cons {i n : Nat} (h : i < n) : upJ i n = i :: upJ (i + 1) n := by
  unfold upJ
  have e : n - i = (n - (i + 1)) + 1 := by omega
  rw [e, List.range_succ_eq_map, List.map_cons, List.map_map]
  congr 1
  refine List.map_congr_left fun a _ => ?_
  show i + (a + 1) = i + 1 + a
  omega
theorem up_nil (n : Nat) : upJ n n = [] := by unfold upJ; simp
theorem s1_loop {N : Nat} (hN : 2 ≤ N) (n : Nat) (hn : n ≤ 3) (v3 v9 v10 v11 v12 v14 : Option Sv) (K : EV.Flow × Ro → Prop) : ∀ (i : Nat) (m : Nat) (b : List D) (T : List Sht) (v2 v6 v7 v8 v13 : Option Sv), T.length = i → i ≤ n → Bx m b → m + 100 * (n - i) < 2 ^ 40 → (∀ j s, T[j]? = some s → Dr j s) → Fr v2 → Fr v6 → Fr v7 → Fr v8 →
    (∀ (b' : List D) (T' : List Sht) (v2 v6 v7 v8 v13 : Option Sv), Bx (m + 100 * (n - i)) b' → T'.length = n → (∀ j s, T'[j]? = some s → Dr j s) → Fr v2 → K (.next, fs b' v2 v3 T' v6 v7 v8 v9 v10 v11 v12 v13 v14)) →
    Ok (forL (bindT (.one 2)) (EV.execs F (callN F N) s1) ((upJ i n).map fun j : Nat => (.int (j : Int) : D)) (fs b v2 v3 T v6 v7 v8 v9 v10 v11 v12 v13 v14)) K := by
  intro i
  induction hk : n - i generalizing i with
  | zero =>
    intro m b T v2 v6 v7 v8 v13 hT hi hb hm hD h2 h6 h7 h8 hK
    have : i = n := by omega
    subst this
    rw [up_nil]
    exact hK b T v2 v6 v7 v8 v13 (hb.mono (by omega)) hT hD h2
  | succ d ih =>
    intro m b T v2 v6 v7 v8 v13 hT hi hb hm hD h2 h6 h7 h8 hK
    have lt : i < n := by omega
    obtain ⟨p, hp⟩ : ∃ p, P[i]? = some p := ⟨_, List.getElem?_eq_getElem (by show i < 3; omega)⟩
    obtain ⟨p0, p1⟩ := P_len hp
    rw [up_cons lt, List.map_cons, fl_cons]
    unfold fs
    and_intros
    refine os_d h2 ?_
    unfold s1
    and_intros
    rw [pool_at hp]
    rw [pool_at hp]
    and_intros
    rw [List.length_map]
    refine call_ok rfl rfl rfl (take_ok hb (by omega) (by omega) (by omega) N (by omega)) ?_
    rintro w q ⟨c, b1, rfl, rfl, hb1, c0, c1⟩
    and_intros
    have ec : (1 : Int) + c = ((1 + c.toNat : Nat) : Int) := by omega
    rw [ec, cut_to, ← List.map_take]
    refine ⟨sortOk_strs _, ?_⟩
    obtain ⟨l, el, pm⟩ := sort_out (p.take (1 + c.toNat))
    rw [el]
    and_intros
    refine os_d h6 ?_
    have ll : l.length ≤ 3 := by rw [pm.length_eq, List.length_take]; omega
    have lne : l ≠ [] := by
      intro z
      have := pm.length_eq
      rw [z, List.length_take] at this
      simp at this
      omega
    have lp : ∀ x ∈ l, x ∈ p := fun x hx => List.mem_of_mem_take (pm.mem_iff.mp hx)
    have lnd : l.Nodup := pm.nodup_iff.mpr ((P_nd1 hp).sublist (List.take_sublist _ _))
    and_intros
    refine call_ok rfl rfl rfl (take_ok hb1 (by omega) (by omega) (by omega) N (by omega)) ?_
    rintro w q ⟨c2, b2, rfl, rfl, hb2, c20, c21⟩
    and_intros
    have ec2 : c2 = ((c2.toNat : Nat) : Int) := by omega
    rw [ec2]
    refine ⟨rng_ok (by omega), ?_⟩
    refine rl_loop hN lne ll _ _ _ _ _ _ _ _ _ _ _ _ _ (rangeD 0 ((c2.toNat : Nat) : Int)) (m + 1 + 1) b2 [] hb2 (by rw [range_len]; omega) (fun r hr => nomatch hr) fun R b3 hb3 hRl hR => ?_
    rw [range_len] at hb3 hRl
    simp only [List.length_nil] at hRl
    and_intros
    refine os_n h7 ?_
    and_intros
    refine call_ok rfl rfl rfl (take_ok hb3 (by omega) (by omega) (by omega) N (by omega)) ?_
    rintro w q ⟨c3, b4, rfl, rfl, hb4, c30, c31⟩
    and_intros
    have ec3 : c3 = ((c3.toNat : Nat) : Int) := by omega
    rw [ec3]
    refine ⟨rng_ok (by omega), ?_⟩
    refine kl_loop hN lne ll _ _ _ _ _ _ _ _ _ _ _ _ _ (rangeD 0 ((c3.toNat : Nat) : Int)) (m + 1 + 1 + 4 * c2.toNat + 1) b4 [] hb4 (by rw [range_len]; omega) (fun r hr => nomatch hr) fun Ks b5 hb5 hKl hKs => ?_
    rw [range_len] at hb5 hKl
    simp only [List.length_nil] at hKl
    and_intros
    refine os_n h8 ?_
    and_intros
    refine ⟨setOk_ru (by omega), setOk_ke (by omega), ?_⟩
    obtain ⟨R2, eR, hR2⟩ := sub_rule hR
    obtain ⟨K2, eK, hK2⟩ := sub_key hKs
    rw [eR, eK]
    and_intros
    refine ⟨by rw [List.length_map, hT, sizeLine_eq]; omega, ?_⟩
    rw [flk_next]
    have es : T.map pre ++ [.tuple [.tuple (l.map .str), .tuple (R2.map (ruD false)), .tuple (K2.map (keD false))]] = (T ++ [(⟨l, R2, K2, []⟩ : Sht)]).map pre := by rw [List.map_append]; rfl
    rw [es]
    refine ih (i + 1) (by omega) (m + 100) b5 (T ++ [(⟨l, R2, K2, []⟩ : Sht)]) _ _ _ _ _ (by rw [List.length_append, hT]; rfl) (by omega) (hb5.mono (by omega)) (by omega) (fun j s hj => ?_) (.d _) (.d _) (.o _) (.o _) fun b' T' v2 v6 v7 v8 v13 q1 q2 q3 q4 => hK b' T' v2 v6 v7 v8 v13 (q1.mono (by omega)) q2 q3 q4
    by_cases hj2 : j < T.length
    · rw [List.getElem?_append_left hj2] at hj
      exact hD j s hj
    · rw [List.getElem?_append_right (by omega)] at hj
      have hj3 : j - T.length = 0 := by
        have := (List.getElem?_eq_some_iff.mp hj).1
        simp at this
        omega
      rw [hj3] at hj
      cases hj
      have : j = i := by omega
      subst this
      refine ⟨⟨fun x hx => P_sub hp (lp x hx), lnd, lne, ll, fun r hr => ⟨fun x hx => (hR2 r hr).1.subset hx, (hR2 r hr).2, Nat.le_trans (hR2 r hr).1.length_le ll⟩, fun k hk => ⟨fun x hx => (hK2 k hk).subset hx, Nat.le_trans (hK2 k hk).length_le ll⟩, fun r hr => (nomatch hr), by simp, ?_⟩, rfl, p, hp, lp⟩
      have z := uniq_len (Ks.map (keD false))
      rw [eK, List.length_map, List.length_map] at z
      show K2.length ≤ 3
      omega
end K04

set_option linter.all false
set_option maxRecDepth 100000
set_option Elab.async false
namespace K04
open PySem EV
def ft (b : List D) (k : Nat) (W : List Sht) (T : List Sht) (v6 v7 v8 : Option Sv) (s : Sht) (re : List (Nat × List Str × List Str)) (v11 v12 v13 v14 : Option Sv) : Ro :=
  [some (.io b), some (.dat (.int 3)), some (.dat (.int k)), some (.own (W.map (shD false))), some (.own poolD), some (.dat (.list (T.map pre))), v6, v7, v8, some (.dat (pre s)), some (.own (re.map (reD false))), v11, v12, v13, v14]
theorem T_at {T : List Sht} {j : Nat} {s : Sht} (h : T[j]? = some s) (K : D → Prop) : OM (atD (T.map pre) (j : Int)) K = K (pre s) := by
  have hj := (List.getElem?_eq_some_iff.mp h).1
  exact atD_k _ j _ K (by rw [List.getElem?_map, h]; rfl) (by rw [List.length_map]; exact hj)
theorem s3_loop {N : Nat} (hN : 2 ≤ N) (k : Nat) (W T : List Sht) (hT : ∀ s ∈ T, ShOk s) (v6 v7 v8 v13 : Option Sv) {s : Sht} (hs : ShOk s) (K : EV.Flow × Ro → Prop) :
    ∀ (js : List Nat) (m : Nat) (b : List D) (re : List (Nat × List Str × List Str)) (v11 v12 v14 : Option Sv), (∀ j ∈ js, j < T.length) → re.length + js.length ≤ 3 → Bx m b → m + 10 * js.length < 2 ^ 40 → (∀ r ∈ re, StrsOk r.2.1 ∧ StrsOk r.2.2) → Fr v11 → Fr v12 → Fr v14 →
    (∀ (b' : List D) (re' : List (Nat × List Str × List Str)) (v11 v12 v14 : Option Sv), Bx (m + 10 * js.length) b' → re'.length ≤ 3 → (∀ r ∈ re', StrsOk r.2.1 ∧ StrsOk r.2.2) → Fr v11 → Fr v12 → Fr v14 → K (.next, ft b' k W T v6 v7 v8 s re' v11 v12 v13 v14)) →
    Ok (forL (bindT (.one 11)) (EV.execs F (callN F N) s3) (js.map fun j : Nat => (.int (j : Int) : D)) (ft b k W T v6 v7 v8 s re v11 v12 v13 v14)) K := by
  intro js
  induction js with
  | nil => intro m b re v11 v12 v14 _ hl hb _ hr h11 h12 h14 hK; exact hK b re v11 v12 v14 hb (by simpa using hl) hr h11 h12 h14
  | cons j js ih =>
    intro m b re v11 v12 v14 hj hl hb hm hr h11 h12 h14 hK
    rw [List.length_cons] at hl hm hK
    have next : ∀ (m' : Nat) (b' : List D) (re' : List (Nat × List Str × List Str)) (v11 v12 v14 : Option Sv), Bx m' b' → m' ≤ m + 10 → re'.length ≤ re.length + 1 → (∀ r ∈ re', StrsOk r.2.1 ∧ StrsOk r.2.2) → Fr v11 → Fr v12 → Fr v14 →
        Ok (forL (bindT (.one 11)) (EV.execs F (callN F N) s3) (js.map fun j : Nat => (.int (j : Int) : D)) (ft b' k W T v6 v7 v8 s re' v11 v12 v13 v14)) K := by
      intro m' b' re' v11 v12 v14 hb' hm' hl' hr' g11 g12 g14
      exact ih m' b' re' v11 v12 v14 (fun i hi => hj i (List.mem_cons_of_mem _ hi)) (by omega) hb' (by omega) hr' g11 g12 g14 fun b2 re2 u11 u12 u14 q1 q2 q3 q4 q5 q6 => hK b2 re2 u11 u12 u14 (q1.mono (by omega)) q2 q3 q4 q5 q6
    obtain ⟨t, ht⟩ : ∃ t, T[j]? = some t := ⟨_, List.getElem?_eq_getElem (hj j List.mem_cons_self)⟩
    have htT := hT t (List.mem_of_getElem? ht)
    rw [List.map_cons, fl_cons]
    unfold ft
    and_intros
    refine os_d h11 ?_
    unfold s3
    and_intros
    rw [T_at ht]
    have e1 : pre t = .tuple [.tuple (t.tags.map .str), .tuple (t.rules.map (ruD false)), .tuple (t.keys.map (keD false))] := rfl
    have e2 : pre s = .tuple [.tuple (s.tags.map .str), .tuple (s.rules.map (ruD false)), .tuple (s.keys.map (keD false))] := rfl
    rw [e1]
    and_intros
    refine comp_map (keD false) [some (.io b), some (.dat (.int 3)), some (.dat (.int k)), some (.own (W.map (shD false))), some (.own poolD), some (.dat (.list (T.map pre))), v6, v7, v8, some (.dat (pre s)), some (.own (re.map (reD false))), some (.dat (.int j)), v12, v13, none] (fun l => if decide ((l.length : Int) ≤ s.tags.length) = true then some (keD false l) else none) _ _ (fun l hl' => ?_) ?_
    · rw [e2]
      unfold keD
      simp only [sq_f]
      and_intros
      simp only [List.length_map]
      exact ⟨fun e => ⟨rfl, if_pos e⟩, fun e => ⟨rfl, if_neg (by rw [e]; exact Bool.false_ne_true)⟩⟩
    · rw [filt (fun l : List Str => decide ((l.length : Int) ≤ s.tags.length)), List.nil_append]
      have hfit : ∀ x ∈ (t.keys.filter fun l : List Str => decide ((l.length : Int) ≤ s.tags.length)).map (keD false), ∃ l ∈ t.keys, x = keD false l := fun x hx => by
        obtain ⟨l, h1, rfl⟩ := List.mem_map.mp hx
        exact ⟨l, (List.mem_filter.mp h1).1, rfl⟩
      and_intros
      refine os_n h12 ?_
      and_intros
      rw [om_ne, eqv_nil]
      have hfl : ((t.keys.filter fun l : List Str => decide ((l.length : Int) ≤ s.tags.length)).map (keD false)).length < 1000 := by
        rw [List.length_map]
        have h1 := List.length_filter_le (fun l : List Str => decide ((l.length : Int) ≤ s.tags.length)) t.keys
        have := htT.kl
        omega
      have hko : ∀ l ∈ t.keys, StrsOk l := fun l hl x hx => htT.tg x ((htT.ke l hl).1 x hx)
      generalize (t.keys.filter fun l : List Str => decide ((l.length : Int) ≤ s.tags.length)).map (keD false) = fit at *
      refine ⟨by
        unfold eqOk
        rw [shaped_of (fun x hx => ?_) (fun x hx => ?_)]
        · rfl
        · obtain ⟨l, h1, rfl⟩ := hfit x hx; exact (Pl.sq (b := false) (Pl.strs 0 (hko l h1))).1
        · obtain ⟨l, h1, rfl⟩ := hfit x hx; have := (Pl.sq (b := false) (Pl.strs 0 (hko l h1))).2; exact Nat.le_trans this (by omega), ?_⟩
      and_intros
      cases he : fit.isEmpty with
      | true =>
        simp only [Bool.not_true]
        and_intros
        rw [flk_next]
        exact next m b re _ _ _ hb (by omega) (by omega) hr (.d _) (.o _) h14
      | false =>
        simp only [Bool.not_false]
        and_intros
        refine call_ok rfl rfl rfl (take_ok hb (by omega) (by omega) (by omega) N (by omega)) ?_
        rintro w r ⟨c, b1, rfl, rfl, hb1, c0, c1⟩
        and_intros
        refine ⟨fun hc => ?_, fun hc => by and_intros; rw [flk_next]; exact next (m + 1) b1 re _ _ _ hb1 (by omega) (by omega) hr (.d _) (.o _) h14⟩
        have fne : fit ≠ [] := fun z => by rw [z] at he; cases he
        refine call_okC rfl rfl rfl (of_ok hb1 (by omega) fne hfl (.list fit) (.inr rfl) N (by omega)) ?_
        rintro w r ⟨x, b2, rfl, rfl, hb2, hxm⟩
        obtain ⟨l, h1, rfl⟩ := hfit x hxm
        refine ⟨by show (lf (.tuple _) && lfs b2) = true; rw [lf, lfs_strs, lfs_bx hb2]; rfl, ?_⟩
        unfold keD
        simp only [sq_f]
        and_intros
        refine os_d h14 ?_
        rw [e2]
        and_intros
        refine call_ok rfl rfl rfl (mixed_ok (xs := s.tags.map .str) hb2 (by rw [List.length_map]; have := hs.tl; omega) (by rw [List.length_map]; have := hs.tl; omega) (.tuple (s.tags.map .str)) (.inl rfl) N (by omega)) ?_
        rintro w r ⟨ys, b3, rfl, rfl, hb3, pm⟩
        rw [List.length_map] at hb3
        obtain ⟨zs, rfl⟩ := mapped PyData.str (xs := ys) fun y hy => by
          obtain ⟨x, _, e⟩ := List.mem_map.mp (pm.mem_iff.mp hy); exact ⟨x, e.symm⟩
        have zo : StrsOk zs := fun x hx => by
          have := pm.mem_iff.mp (List.mem_map.mpr ⟨x, hx, rfl⟩)
          exact hs.tg x ((mem_strs x s.tags).mp this)
        and_intros
        rw [cut_to, ← List.map_take]
        and_intros
        refine ⟨by rw [List.length_map, sizeLine_eq]; omega, ?_⟩
        rw [flk_next]
        have er : re.map (reD false) ++ [.tuple [.int (j : Int), .tuple ((zs.take l.length).map .str), .tuple (l.map .str)]] = (re ++ [(j, zs.take l.length, l)]).map (reD false) := by rw [List.map_append]; rfl
        rw [show (l.map PyData.str).length = l.length from List.length_map .., er, ← e2]
        have := hs.tl
        refine next (m + 1 + 1 + s.tags.length) b3 (re ++ [(j, zs.take l.length, l)]) _ _ _ hb3 (by omega) (by simp) (fun r hr' => ?_) (.d _) (.o _) (.d _)
        rcases List.mem_append.mp hr' with q | q
        · exact hr r q
        · rw [List.mem_singleton.mp q]
          exact ⟨fun x hx => zo x (List.mem_of_mem_take hx), hko l h1⟩
end K04

set_option linter.all false
set_option maxRecDepth 100000
set_option Elab.async false
namespace K04
open PySem EV
def fu (b : List D) (v2 : Option Sv) (W T : List Sht) (v6 v7 v8 v9 v10 v11 v12 v13 v14 : Option Sv) : Ro := [some (.io b), some (.dat (.int 3)), v2, some (.own (W.map (shD false))), some (.own poolD), some (.dat (.list (T.map pre))), v6, v7, v8, v9, v10, v11, v12, v13, v14]
/-- the sheets so far: the drawn ones with their references -/
structure Done (T W : List Sht) : Prop where
  len : W.length ≤ T.length
  at_ : ∀ (j : Nat) (w : Sht), W[j]? = some w → ∃ t : Sht, T[j]? = some t ∧ w.tags = t.tags ∧ ShOk w
theorem with_refs {t : Sht} (h : ShOk t) {re : List (Nat × List Str × List Str)} (hl : re.length ≤ 3) (hr : ∀ r ∈ re, StrsOk r.2.1 ∧ StrsOk r.2.2) : ShOk { t with refs := re } := ⟨h.tg, h.nd, h.ne, h.tl, h.ru, h.ke, hr, hl, h.kl⟩
theorem s2_loop {N : Nat} (hN : 2 ≤ N) (T : List Sht) (hTl : T.length ≤ 3) (hT : ∀ s ∈ T, ShOk s) (v6 v7 v8 v13 : Option Sv) (K : EV.Flow × Ro → Prop) :
    ∀ (ps : List (Sht × Nat)) (m : Nat) (b : List D) (W : List Sht) (v2 v9 v10 v11 v12 v14 : Option Sv), (∀ p ∈ ps, T[p.2]? = some p.1) → (ps.map (·.2) = upJ W.length T.length) → W.length ≤ T.length → Bx m b → m + 40 * ps.length < 2 ^ 40 → Done T W → Fr v2 → Fr v9 → Fr v10 → Fr v11 → Fr v12 → Fr v14 →
    (∀ (b' : List D) (W' : List Sht) (v2 v9 v10 v11 v12 v14 : Option Sv), Bx (m + 40 * ps.length) b' → W'.length = T.length → Done T W' → K (.next, fu b' v2 W' T v6 v7 v8 v9 v10 v11 v12 v13 v14)) →
    Ok (forL (bindT (.many [2, 9])) (EV.execs F (callN F N) s2) (ps.map fun p => .tuple [.int p.2, pre p.1]) (fu b v2 W T v6 v7 v8 v9 v10 v11 v12 v13 v14)) K := by
  intro ps
  induction ps with
  | nil =>
    intro m b W v2 v9 v10 v11 v12 v14 _ hu hW hb _ hD h2 h9 h10 h11 h12 h14 hK
    have : T.length - W.length = 0 := by rw [← up_len, ← hu]; rfl
    exact hK b W v2 v9 v10 v11 v12 v14 hb (by omega) hD
  | cons p ps ih =>
    intro m b W v2 v9 v10 v11 v12 v14 hp hu hW hb hm hD h2 h9 h10 h11 h12 h14 hK
    rw [List.length_cons] at hm hK
    have hpT := hp p List.mem_cons_self
    have hlt : W.length < T.length := by
      have e := congrArg List.length hu
      rw [up_len] at e
      simp at e
      omega
    rw [up_cons hlt, List.map_cons] at hu
    injection hu with hu1 hu2
    have hs := hT p.1 (List.mem_of_getElem? hpT)
    rw [List.map_cons, fl_cons]
    unfold fu
    and_intros
    refine os_d h2 ?_
    and_intros
    refine os_d h9 ?_
    unfold s2
    and_intros
    refine os_n h10 ?_
    and_intros
    rw [List.length_map]
    have e1 : (p.2 : Int) + 1 = ((p.2 + 1 : Nat) : Int) := by omega
    rw [e1]
    refine ⟨rng2_ok (by omega) (by omega), ?_⟩
    rw [up_rng]
    refine s3_loop hN p.2 W T hT v6 v7 v8 v13 hs _ (upJ (p.2 + 1) T.length) m b [] v11 v12 v14 (fun j hj => up_lt hj) (by rw [up_len]; simp; omega) hb (by rw [up_len]; omega) (fun r hr => nomatch hr) h11 h12 h14 fun b' re w11 w12 w14 q1 q2 q3 q4 q5 q6 => ?_
    rw [up_len] at q1
    unfold ft
    have e2 : pre p.1 = .tuple [.tuple (p.1.tags.map .str), .tuple (p.1.rules.map (ruD false)), .tuple (p.1.keys.map (keD false))] := rfl
    and_intros
    rw [e2]
    and_intros
    refine ⟨by simp [sizeLine_eq], by rw [List.length_map, sizeLine_eq]; omega, ?_⟩
    rw [flk_next, ← e2]
    have e3 : W.map (shD false) ++ [.tuple ([.tuple (p.1.tags.map .str), .tuple (p.1.rules.map (ruD false)), .tuple (p.1.keys.map (keD false))] ++ [.tuple (re.map (reD false))])] = (W ++ [({ p.1 with refs := re } : Sht)]).map (shD false) := by rw [List.map_append]; rfl
    rw [e3]
    refine ih (m + 40) b' (W ++ [({ p.1 with refs := re } : Sht)]) _ _ _ _ _ _ (fun q hq => hp q (List.mem_cons_of_mem _ hq)) (by rw [hu2, List.length_append]; rfl) (by rw [List.length_append, List.length_singleton]; omega) (q1.mono (by omega)) (by omega) ⟨by rw [List.length_append, List.length_singleton]; omega, fun j w hj => ?_⟩ (.d _) (.d _) (.o _) q4 q5 q6 fun b2 W2 u2 u9 u10 u11 u12 u14 r1 r2 r3 => hK b2 W2 u2 u9 u10 u11 u12 u14 (r1.mono (by omega)) r2 r3
    by_cases hj2 : j < W.length
    · rw [List.getElem?_append_left hj2] at hj
      exact hD.at_ j w hj
    · rw [List.getElem?_append_right (by omega)] at hj
      have hj3 : j - W.length = 0 := by
        have := (List.getElem?_eq_some_iff.mp hj).1
        simp at this
        omega
      rw [hj3] at hj
      cases hj
      have : j = p.2 := by omega
      subst this
      exact ⟨p.1, hpT, rfl, with_refs hs q2 q3⟩
theorem zip_snd {α : Type} (l : List α) : ∀ n, (l.zipIdx n).map (·.2) = (List.range l.length).map fun i => n + i := by
  induction l with
  | nil => intro n; rfl
  | cons x l ih =>
    intro n
    rw [List.zipIdx_cons, List.map_cons, ih, List.length_cons, List.range_succ_eq_map, List.map_cons, List.map_map]
    congr 1
    refine List.map_congr_left fun a _ => ?_
    show n + 1 + a = n + (a + 1)
    omega
theorem nd_flat {T : List Sht} (h : ∀ (j : Nat) (s : Sht), T[j]? = some s → Dr j s) : (cols T).Nodup := by
  unfold cols
  refine List.pairwise_flatMap.mpr ?_
  refine ⟨fun s hs => ?_, ?_⟩
  · obtain ⟨j, hj⟩ := List.getElem?_of_mem hs
    exact (h j s hj).ok.nd
  · rw [List.pairwise_iff_getElem]
    intro i j hi hj hij
    obtain ⟨p, hp, h1⟩ := (h i _ (List.getElem?_eq_getElem hi)).pool
    obtain ⟨q, hq, h2⟩ := (h j _ (List.getElem?_eq_getElem hj)).pool
    intro x hx y hy e
    subst e
    exact P_dis (by omega) hp hq x (h1 x hx) (h2 x hy)
theorem cols_eq {T W : List Sht} (hl : W.length = T.length) (h : ∀ (j : Nat) (w : Sht), W[j]? = some w → ∃ t : Sht, T[j]? = some t ∧ w.tags = t.tags) : cols W = cols T := by
  have : W.map (·.tags) = T.map (·.tags) := by
    apply List.ext_getElem?
    intro i
    rw [List.getElem?_map, List.getElem?_map]
    cases e : W[i]? with
    | none =>
      have : T[i]? = none := by rw [List.getElem?_eq_none_iff] at e ⊢; omega
      rw [this]
    | some w =>
      obtain ⟨t, ht, e2⟩ := h i w e
      rw [ht]
      exact congrArg some e2
  unfold cols
  rw [List.flatMap_def, List.flatMap_def, this]
theorem schema_ok {m : Nat} {b : List D} (hb : Bx m b) (hm : m < 2 ^ 39) : Run F 3 21 [.list b, .int 3] fun w io => ∃ (S : List Sht) (b' : List D), w = .dat (scD false S) ∧ io = some b' ∧ Bx (m + 1000) b' ∧ ScOk S := by
  refine Run.of (fn := f21) rfl rfl rfl fun N hN => ?_
  show Ok (EV.execs F (callN F N) b21 [some (.io b), some (.dat (.int 3)), none, none, none, none, none, none, none, none, none, none, none, none, none]) (Fin (some 0) _)
  rw [b21_eq]
  and_intros
  refine call_ok rfl rfl rfl (take_ok hb (by omega) (by omega) (by omega) N (by omega)) ?_
  rintro w q ⟨c, b1, rfl, rfl, hb1, c0, c1⟩
  and_intros
  have ec : (1 : Int) + c = ((1 + c.toNat : Nat) : Int) := by omega
  rw [ec]
  refine ⟨rng_ok (by omega), ?_⟩
  rw [up_rng0]
  refine s1_loop hN (1 + c.toNat) (by omega) _ _ _ _ _ _ _ 0 (m + 1) b1 [] _ _ _ _ _ rfl (by omega) hb1 (by omega) (fun j s hj => by simp at hj) .n .n .n .n fun b2 T v2 v6 v7 v8 v13 hb2 hTl hT h2 => ?_
  unfold fs
  have hTs : ∀ s ∈ T, ShOk s := fun s hs => by
    obtain ⟨j, hj⟩ := List.getElem?_of_mem hs
    exact (hT j s hj).ok
  and_intros
  rw [show enumD (T.map pre) = T.zipIdx.map (fun p => .tuple [.int p.2, pre p.1]) from enum_map pre T]
  refine s2_loop hN T (by omega) hTs _ _ _ _ _ T.zipIdx (m + 1 + 100 * (1 + c.toNat)) b2 [] _ _ _ _ _ _ (fun p hp => List.mem_zipIdx_iff_getElem?.mp hp) (by rw [zip_snd]; rfl) (Nat.zero_le _) (hb2.mono (by omega)) (by rw [List.length_zipIdx]; omega) ⟨Nat.zero_le _, fun j w hj => by simp at hj⟩ h2 .n .n .n .n .n fun b3 S u2 u9 u10 u11 u12 u14 hb3 hSl hS => ?_
  rw [List.length_zipIdx] at hb3
  unfold fu
  and_intros
  refine ⟨S, b3, rfl, rfl, hb3.mono (by omega), by omega, ?_, fun s hs => ?_, ?_⟩
  · intro z
    rw [z] at hSl
    simp at hSl
    omega
  · obtain ⟨j, hj⟩ := List.getElem?_of_mem hs
    obtain ⟨t, _, _, h⟩ := hS.at_ j s hj
    exact h
  · rw [cols_eq hSl fun j w hj => by obtain ⟨t, h1, h2, _⟩ := hS.at_ j w hj; exact ⟨t, h1, h2⟩]
    exact nd_flat hT
end K04

set_option linter.all false
set_option maxRecDepth 100000
set_option Elab.async false
namespace K04
open PySem EV
theorem lists_tup (n : Nat) (xs : List D) (hx : ∀ x ∈ xs, x.depth ≤ n) : Run F (n + 2) 18 [.tuple xs] fun w io => w = .new (xs.map lisD) ∧ io = none := by
  refine Run.of (fn := f18) rfl rfl rfl fun N hN => ?_
  show Ok (EV.execs F (callN F N) b18 [some (.dat (.tuple xs)), none]) (Fin none _)
  unfold b18
  and_intros
  refine comp_pure [some (.dat (.tuple xs)), none] (fun x => some (lisD x)) _ _ (fun x hm => ?_) ?_
  · and_intros
    refine call_ok rfl rfl rfl (lists_ok n x (hx x hm) N hN) ?_
    rintro w r ⟨hw, rfl⟩
    and_intros
    exact ⟨rfl, congrArg some hw.symm⟩
  · rw [fm_some, List.nil_append]
    and_intros
    (first | exact ⟨rfl, trivial⟩ | exact ⟨trivial, trivial⟩ | exact ⟨rfl, rfl⟩ | trivial)
theorem lis_strs (l : List Str) : (l.map PyData.str).map lisD = l.map .str := by
  rw [List.map_map]; rfl
theorem lis_ru (b : Bool) (r : List Str × Str) : lisD (ruD b r) = ruD true r := by
  unfold ruD
  rw [lis_sq, sq_t, sq_t]
  simp only [List.map_cons, List.map_nil, lis_sq, lis_strs]
  rfl
theorem lis_ke (b : Bool) (r : List Str) : lisD (keD b r) = keD true r := by
  unfold keD
  rw [lis_sq, sq_t, lis_strs]
theorem lis_re (b : Bool) (r : Nat × List Str × List Str) : lisD (reD b r) = reD true r := by
  unfold reD
  rw [lis_sq, sq_t, sq_t]
  simp only [List.map_cons, List.map_nil, lis_sq, lis_strs]
  rfl
theorem lis_sh (b : Bool) (s : Sht) : lisD (shD b s) = shD true s := by
  unfold shD
  rw [lis_sq, sq_t, sq_t]
  simp only [List.map_cons, List.map_nil, lis_sq, lis_strs, List.map_map, Function.comp_def, lis_ru, lis_ke, lis_re, sq_t]
  rfl
theorem lis_shs (S : List Sht) : (S.map (shD false)).map lisD = S.map (shD true) := by
  rw [List.map_map]
  exact List.map_congr_left fun s _ => lis_sh false s
theorem clean_clo {s : Sht} {l : List Str} {d : D} (h : CloD s l d) : lf d = true := by
  obtain ⟨fd, rfl, _⟩ := h
  obtain ⟨m, e, _⟩ := uniq_back fd
  rw [e, lf, lfs_strs]
theorem lf_ring (S : List Sht) (k : Nat) : lf (ring S k) = true := by
  unfold ring
  rw [lf]
  have e : ((upJ 0 S.length).filter fun j => (ledL S j).contains (k : Int)).map (fun j : Nat => (.int (j : Int) : D)) = (((upJ 0 S.length).filter fun j => (ledL S j).contains (k : Int)).map fun j : Nat => (j : Int)).map .int := by rw [List.map_map]; rfl
  rw [e]
  exact lfs_ints _
theorem lf_led (S : List Sht) (k : Nat) : lf (ledT S k) = true := lf_uniqI _
theorem pl_led (S : List Sht) (k : Nat) : Pl 1 (ledT S k) := Pl.uniq (Pl.ints 0 _)
theorem pl_ring (S : List Sht) (k : Nat) : Pl 1 (ring S k) := Pl.tup fun x hx => by
  obtain ⟨j, _, rfl⟩ := List.mem_map.mp hx
  exact Pl.int 0 _
theorem pl_unfit : Pl 1 unfitD := Pl.lst fun x hx => by
  simp only [List.mem_cons, List.not_mem_nil, or_false] at hx
  rcases hx with rfl | rfl
  · exact Pl.str 0 (by decide +kernel)
  · exact Pl.bool 0 _
/-! ### the law's turns -/
def w1 : Ss := (.cons (.par [5, 6] (.cons (.op2 .add (.var 5) (.lst (.cons (.call 24 (.cons (.cst (.int 0)) (.cons (.var 2) (.cons (.var 4) (.cons (.tup .nil) .nil))))) .nil))) (.cons (.op2 .add (.var 6) (.lst (.cons (.call 23 (.cons (.var 2) (.cons (.var 4) .nil))) .nil))) .nil))) .nil)
def w2 : Ss := (.cons (.asg 9 (.call 20 (.cons (.var 0) (.cons (.idx (.var 8) (.cst (.int 0))) .nil))))
 (.cons (.asg 5 (.op2 .add (.var 5) (.lst (.cons (.call 24 (.cons (.cst (.int 1)) (.cons (.var 2) (.cons (.var 7) (.cons (.var 9) .nil))))) (.cons (.call 24 (.cons (.cst (.int 1)) (.cons (.var 3) (.cons (.var 7) (.cons (.bi .list (.cons (.var 9) .nil)) .nil))))) .nil)))))
 (.cons (.asg 5 (.op2 .add (.var 5) (.lst (.cons (.call 24 (.cons (.cst (.int 2)) (.cons (.var 2) (.cons (.var 7) (.cons (.tup .nil) .nil))))) (.cons (.call 24 (.cons (.cst (.int 3)) (.cons (.var 3) (.cons (.var 7) (.cons (.tup .nil) .nil))))) .nil)))))
 (.cons (.asg 6 (.op2 .add (.op2 .add (.var 6) (.rep (.lst (.cons (.call 25 (.cons (.var 8) (.cons (.var 9) .nil))) .nil)) (.cst (.int 2)))) (.lst (.cons (.call 26 (.cons (.var 2) (.cons (.var 7) .nil))) .nil))))
 (.cons (.expr (.meth .append 6 (.cons (.bi .tuple (.cons (.comp (.one 11) (.range1 (.bi .len (.cons (.var 2) .nil))) (.yes (.op2 .isin (.var 7) (.call 26 (.cons (.var 2) (.cons (.var 11) .nil))))) (.var 11)) .nil)) .nil)))
 (.cons (.asg 10 (.slc (.idx (.call 16 (.cons (.var 0) (.cons (.var 2) .nil))) (.cst (.int 0))) .no (.yes (.cst (.int 1)))))
 (.cons (.expr (.meth .append 5 (.cons (.call 24 (.cons (.cst (.int 1)) (.cons (.var 2) (.cons (.var 7) (.cons (.var 10) .nil))))) .nil)))
 (.cons (.expr (.meth .append 6 (.cons (.ite (.op2 .isin (.idx (.var 10) (.cst (.int 0))) (.idx (.var 8) (.cst (.int 0)))) (.call 25 (.cons (.var 8) (.cons (.var 10) .nil))) (.lst (.cons (.cst (.str "unfit")) (.cons (.cst (.bool true)) .nil)))) .nil)))
 .nil))))))))
def w0 : Ss := (.cons (.asg 2 (.call 21 (.cons (.var 0) (.cons (.cst (.int 3)) .nil))))
 (.cons (.asg 3 (.call 18 (.cons (.var 2) .nil)))
 (.cons (.par [5, 6] (.cons (.lst (.cons (.call 3 (.cons (.var 2) .nil)) (.cons (.call 3 (.cons (.var 3) .nil)) .nil))) (.cons (.rep (.lst (.cons (.bi .tuple (.cons (.call 22 (.cons (.var 2) .nil)) .nil)) .nil)) (.cst (.int 2))) .nil)))
 (.cons (.for_ (.one 4) (.seq (.call 22 (.cons (.var 2) .nil))) w1)
 (.cons (.for_ (.many [7, 8]) (.enum (.var 2)) w2)
 (.cons (.ite (.not (.call 17 (.cons (.var 5) (.cons (.var 6) .nil)))) (.cons (.ret (.cst (.bool false))) .nil) .nil)
 .nil))))))
theorem b28_eq : b28 = .cons (.for_ (.one 1) (.range1 (.cst (.int 6))) w0) (.cons (.ret (.cst (.bool true))) .nil) := rfl
def fw (b : List D) (v1 : Option Sv) (S : List Sht) (v4 : Option Sv) (G H : List D) (v7 v8 v9 v10 v11 : Option Sv) : Ro := [some (.io b), v1, some (.dat (scD false S)), some (.own (S.map (shD true))), v4, some (.own G), some (.own H), v7, v8, v9, v10, v11]
theorem w1_loop {N : Nat} (hN : 10 ≤ N) (b : List D) (v1 : Option Sv) {S : List Sht} (h : ScOk S) (v7 v8 v9 v10 v11 : Option Sv) (K : EV.Flow × Ro → Prop) : ∀ (l : List Str) (G : List D) (v4 : Option Sv), (∀ x ∈ l, x ∈ cols S) → G.length + l.length < 100 → (∀ g ∈ G, Pl 1 g) → Fr v4 →
    (∀ (G' : List D) (v4 : Option Sv), G'.length = G.length + l.length → (∀ g ∈ G', Pl 1 g) → Fr v4 → K (.next, fw b v1 S v4 G' G' v7 v8 v9 v10 v11)) →
    Ok (forL (bindT (.one 4)) (EV.execs F (callN F N) w1) (l.map .str) (fw b v1 S v4 G G v7 v8 v9 v10 v11)) K := by
  intro l
  induction l with
  | nil => intro G v4 _ _ hG h4 hK; exact hK G v4 rfl hG h4
  | cons x l ih =>
    intro G v4 hl hn hG h4 hK
    rw [List.length_cons] at hn hK
    have hx := hl x List.mem_cons_self
    rw [List.map_cons, fl_cons]
    unfold fw
    and_intros
    refine os_d h4 ?_
    unfold w1
    and_intros
    refine call_ok rfl rfl rfl (heard0 false h hx (.tuple []) N (by omega)) ?_
    rintro w r ⟨rfl, rfl⟩
    and_intros
    refine ⟨by rw [sizeLine_eq]; simp; omega, ?_⟩
    refine call_ok rfl rfl rfl (law_home_ok false h hx N (by omega)) ?_
    rintro w r ⟨rfl, rfl⟩
    and_intros
    refine ⟨by rw [sizeLine_eq]; simp; omega, ?_⟩
    rw [flk_next]
    refine ih (G ++ [.int (hm S x : Nat)]) _ (fun y hy => hl y (List.mem_cons_of_mem _ hy)) (by simp; omega) (fun g hg => ?_) (.d _) fun G' v4 q1 q2 q3 => hK G' v4 (by rw [q1]; simp; omega) q2 q3
    rcases List.mem_append.mp hg with q | q
    · exact hG g q
    · rw [List.mem_singleton.mp q]; exact Pl.int _ _
end K04

set_option linter.all false
set_option maxRecDepth 100000
set_option Elab.async false
namespace K04
open PySem EV
theorem heard1f (b p : Bool) {S : List Sht} (h : ScOk S) {k : Nat} {s : Sht} (hs : S[k]? = some s) {l : List Str} (hl : Fits l s) (nd : l.Nodup) :
    Run F 9 24 [.int 1, scD b S, .int k, sq p (l.map .str)] fun w io => ∃ d, w = .dat d ∧ io = none ∧ CloD s l d := by
  have hsS := List.mem_of_getElem? hs
  refine (heard1 b p h hs (fun x hx => List.mem_flatMap.mpr ⟨s, hsS, hl x hx⟩) nd).mono (Nat.le_refl _) ?_
  rintro w r ⟨d, rfl, rfl, h1⟩
  rcases h1 with h1 | h1
  · exact ⟨d, rfl, rfl, h1.2⟩
  · exact absurd hl h1.1
theorem w2_loop {N : Nat} (hN : 10 ≤ N) (v1 v4 : Option Sv) {S : List Sht} (h : ScOk S) (K : EV.Flow × Ro → Prop) : ∀ (ps : List (Sht × Nat)) (m : Nat) (b : List D) (G : List D) (v7 v8 v9 v10 v11 : Option Sv), (∀ p ∈ ps, S[p.2]? = some p.1) → Bx m b → m + 10 * ps.length < 2 ^ 40 → G.length + 5 * ps.length < 200 → (∀ g ∈ G, Pl 1 g) → Fr v7 → Fr v8 → Fr v9 → Fr v10 →
    (∀ (b' : List D) (G' : List D) (v7 v8 v9 v10 v11 : Option Sv), Bx (m + 10 * ps.length) b' → G'.length < 200 → (∀ g ∈ G', Pl 1 g) → Fr v7 → Fr v8 → Fr v9 → Fr v10 → K (.next, fw b' v1 S v4 G' G' v7 v8 v9 v10 v11)) →
    Ok (forL (bindT (.many [7, 8])) (EV.execs F (callN F N) w2) (ps.map fun p => .tuple [.int p.2, shD false p.1]) (fw b v1 S v4 G G v7 v8 v9 v10 v11)) K := by
  intro ps
  induction ps with
  | nil => intro m b G v7 v8 v9 v10 v11 _ hb _ hl hG h7 h8 h9 h10 hK; exact hK b G v7 v8 v9 v10 v11 hb (by simpa using hl) hG h7 h8 h9 h10
  | cons p ps ih =>
    intro m b G v7 v8 v9 v10 v11 hp hb hm hl hG h7 h8 h9 h10 hK
    rw [List.length_cons] at hm hl hK
    have hps := hp p List.mem_cons_self
    have hk : p.2 < S.length := (List.getElem?_eq_some_iff.mp hps).1
    have hSm := List.mem_of_getElem? hps
    have hs := h.sh p.1 hSm
    have hSl := h.len
    rw [List.map_cons, fl_cons]
    unfold fw
    and_intros
    refine os_d h7 ?_
    and_intros
    refine os_d h8 ?_
    unfold w2
    have e1 : shD false p.1 = .tuple [.tuple (p.1.tags.map .str), dRules p.1, dKeys p.1, dRefs p.1] := rfl
    and_intros
    rw [e1]
    and_intros
    have tl := hs.tl
    refine call_ok rfl rfl rfl (few_ok hb (l := p.1.tags) (by omega) N (by omega)) ?_
    rintro w r ⟨f, b1, rfl, rfl, hb1, hf⟩
    have ff : Fits f p.1 := fun x hx => hf.subset hx
    have fnd : f.Nodup := hs.nd.sublist hf
    and_intros
    refine os_d h9 ?_
    and_intros
    refine call_ok rfl rfl rfl (heard1f false false h hps ff fnd N (by omega)) ?_
    rintro w r ⟨c1, rfl, rfl, hc1⟩
    and_intros
    refine call_okC (ds := [.int 1, scD true S, .int p.2, sq true (f.map .str)]) rfl rfl rfl (heard1f true true h hps ff fnd N (by omega)) ?_
    rintro w r ⟨c2, rfl, rfl, hc2⟩
    refine ⟨by show (lf c2 && true) = true; rw [clean_clo hc2]; rfl, ?_⟩
    have ec2 := CloD.same hc2 hc1
    subst ec2
    and_intros
    refine ⟨by rw [sizeLine_eq]; simp; omega, ?_⟩
    and_intros
    refine call_ok rfl rfl rfl (heard2 false h hk (.tuple []) N (by omega)) ?_
    rintro w r ⟨rfl, rfl⟩
    and_intros
    refine call_okC (ds := [.int 3, scD true S, .int p.2, .tuple []]) rfl rfl rfl (heard3 true h hk (.tuple []) N (by omega)) ?_
    rintro w r ⟨rfl, rfl⟩
    refine ⟨by show (lf (ring S p.2) && true) = true; rw [lf_ring]; rfl, ?_⟩
    and_intros
    refine ⟨by rw [sizeLine_eq]; simp; omega, ?_⟩
    and_intros
    refine call_ok rfl rfl rfl (law_closed_ok hs ff fnd N (by omega)) ?_
    rintro w r ⟨c3, rfl, rfl, hc3⟩
    have ec3 := CloD.same hc3 hc1
    subst ec3
    and_intros
    refine ⟨⟨by decide, by decide, by rw [sizeLine_eq]; simp⟩, by rw [sizeLine_eq]; simp; omega, ?_⟩
    and_intros
    refine call_ok rfl rfl rfl (law_led_ok false h hk N (by omega)) ?_
    rintro w r ⟨rfl, rfl⟩
    and_intros
    refine ⟨by rw [sizeLine_eq]; simp; omega, ?_⟩
    have e2 : scD false S = .tuple (S.map (shD false)) := rfl
    and_intros
    rw [e2]
    and_intros
    rw [← e2, scD_len]
    refine ⟨rng_ok (by omega), ?_⟩
    rw [show (List.replicate (Int.toNat 2) [c3]).flatten = [c3, c3] from rfl, up_rng0, ← e1]
    refine comp_map (fun j : Nat => (.int (j : Int) : D)) [some (.io b1), v1, some (.dat (scD false S)), some (.own (S.map (shD true))), v4, some (.own (G ++ [c3, c3] ++ [ledT S p.2, ring S p.2])), some (.own (G ++ [c3, c3] ++ [ledT S p.2])), some (.dat (.int p.2)), some (.dat (shD false p.1)), some (.dat (.tuple (f.map .str))), v10, none] (fun j => if (ledL S j).contains (p.2 : Int) = true then some (.int (j : Int)) else none) _ _ (fun j hj => ?_) ?_
    · and_intros
      refine call_ok rfl rfl rfl (law_led_ok false h (up_lt hj) N (by omega)) ?_
      rintro w r ⟨rfl, rfl⟩
      unfold ledT
      and_intros
      rw [led_in]
      exact ⟨led_shaped S j p.2, fun e1 => ⟨rfl, if_pos e1⟩, fun e1 => ⟨rfl, if_neg (by rw [e1]; exact Bool.false_ne_true)⟩⟩
    · rw [filt (fun j : Nat => (ledL S j).contains (p.2 : Int)) (fun j : Nat => (.int (j : Int) : D)), List.nil_append]
      and_intros
      refine ⟨by rw [sizeLine_eq]; simp; omega, ?_⟩
      have er : PyData.tuple (((upJ 0 S.length).filter fun j => (ledL S j).contains (p.2 : Int)).map fun j : Nat => (.int (j : Int) : D)) = ring S p.2 := rfl
      rw [er, List.append_assoc (G ++ [c3, c3]) [ledT S p.2] [ring S p.2], show [ledT S p.2] ++ [ring S p.2] = [ledT S p.2, ring S p.2] from rfl]
      have g1 : ∀ g ∈ G ++ [c3, c3] ++ [ledT S p.2, ring S p.2], Pl 1 g := fun g hg => by
        simp only [List.mem_append, List.mem_cons, List.not_mem_nil, or_false] at hg
        rcases hg with (q | (rfl | rfl)) | (rfl | rfl)
        · exact hG g q
        · exact hc1.pl hs
        · exact hc1.pl hs
        · exact pl_led S _
        · exact pl_ring S _
      have gl : (G ++ [c3, c3] ++ [ledT S p.2, ring S p.2]).length = G.length + 4 := by simp
      generalize G ++ [c3, c3] ++ [ledT S p.2, ring S p.2] = G1 at g1 gl ⊢
      refine call_ok rfl rfl rfl (of_ok hb1 (by omega) (xs := S.map (shD false)) (by simpa using h.ne) (by rw [List.length_map]; omega) (scD false S) (.inl rfl) N (by omega)) ?_
      rintro w r ⟨x, b2, rfl, rfl, hb2, hx⟩
      obtain ⟨t, ht, rfl⟩ := List.mem_map.mp hx
      have hto := h.sh t ht
      obtain ⟨t0, tr, et⟩ : ∃ t0 tr, t.tags = t0 :: tr := by
        cases q : t.tags with
        | nil => exact absurd q hto.ne
        | cons a r => exact ⟨a, r, rfl⟩
      have e3 : shD false t = .tuple [.tuple (t.tags.map .str), dRules t, dKeys t, dRefs t] := rfl
      rw [e3]
      and_intros
      rw [show (1 : Int) = ((1 : Nat) : Int) from rfl, cut_to, et, List.map_cons, List.take_succ_cons, List.take_zero]
      refine os_d h10 ?_
      have t0c : t0 ∈ cols S := List.mem_flatMap.mpr ⟨t, ht, by rw [et]; exact List.mem_cons_self⟩
      have fin : ∀ d, Pl 1 d → Ok (forL (bindT (.many [7, 8])) (EV.execs F (callN F N) w2) (ps.map fun p => .tuple [.int p.2, shD false p.1]) (fw b2 v1 S v4 (G1 ++ [d]) (G1 ++ [d]) (some (.dat (.int p.2))) (some (.dat (shD false p.1))) (some (.dat (.tuple (f.map .str)))) (some (.dat (.tuple [.str t0]))) v11)) K := by
        intro d hd
        refine ih (m + 10) b2 (G1 ++ [d]) _ _ _ _ _ (fun q hq => hp q (List.mem_cons_of_mem _ hq)) (hb2.mono (by omega)) (by omega) (by simp; omega) (fun g hg => ?_) (.d _) (.d _) (.d _) (.d _) fun b' G' v7 v8 v9 v10 v11 q1 q2 q3 q4 q5 q6 q7 => hK b' G' v7 v8 v9 v10 v11 (q1.mono (by omega)) q2 q3 q4 q5 q6 q7
        rcases List.mem_append.mp hg with q | q
        · exact g1 g q
        · rw [List.mem_singleton.mp q]; exact hd
      and_intros
      refine call_ok rfl rfl rfl (heard1 false false h hps (l := [t0]) (by simpa using t0c) (by simp) N (by omega)) ?_
      rintro w r ⟨d, rfl, rfl, hd⟩
      and_intros
      refine ⟨by rw [sizeLine_eq]; omega, ?_⟩
      and_intros
      rw [e1]
      and_intros
      rw [inD_str]
      refine ⟨by rw [shaped_str, h.cols t0 t0c, (shaped_strs hs.tg).2]; rfl, fun e4 => ?_, fun e4 => ?_⟩
      · have ft0 : Fits [t0] p.1 := fun x hx => by rw [List.mem_singleton.mp hx]; simpa [List.contains_iff_mem] using e4
        rcases hd with hd | hd
        · rw [← e1]
          refine call_ok rfl rfl rfl (law_closed_ok hs ft0 (by simp) N (by omega)) ?_
          rintro w r ⟨d2, rfl, rfl, hd2⟩
          have := CloD.same hd2 hd.2
          subst this
          and_intros
          refine ⟨by rw [sizeLine_eq]; omega, ?_⟩
          rw [flk_next]
          exact fin _ (hd2.pl hs)
        · exact absurd ft0 hd.1
      · have ft0 : ¬ Fits [t0] p.1 := fun z => by
          have := z t0 (by simp)
          rw [List.contains_iff_mem.mpr this] at e4; cases e4
        rcases hd with hd | hd
        · exact absurd hd.1 ft0
        · rw [hd.2, ← e1]
          and_intros
          refine ⟨by rw [sizeLine_eq]; omega, ?_⟩
          rw [flk_next]
          exact fin _ pl_unfit
end K04

set_option linter.all false
set_option maxRecDepth 100000
set_option Elab.async false
namespace K04
open PySem EV
theorem lf_cols (S : List Sht) : lf (.tuple (uniqD ((cols S).map .str))) = true := by
  obtain ⟨m, e, _⟩ := uniq_back (cols S)
  rw [e, lf, lfs_strs]
theorem turns_ok {N : Nat} (hN : 12 ≤ N) (K : EV.Flow × Ro → Prop) : ∀ (xs : List D) (m : Nat) (b : List D) (v1 v2 v3 v4 v5 v6 v7 v8 v9 v10 v11 : Option Sv), Bx m b → m + 2000 * xs.length < 2 ^ 38 → Fr v1 → Fr v2 → Fr v3 → Fr v4 → Fr v5 → Fr v6 → Fr v7 → Fr v8 → Fr v9 → Fr v10 →
    (∀ (b' : List D) (v1 v2 v3 v4 v5 v6 v7 v8 v9 v10 v11 : Option Sv), K (.next, [some (.io b'), v1, v2, v3, v4, v5, v6, v7, v8, v9, v10, v11])) →
    Ok (forL (bindT (.one 1)) (EV.execs F (callN F N) w0) xs [some (.io b), v1, v2, v3, v4, v5, v6, v7, v8, v9, v10, v11]) K := by
  intro xs
  induction xs with
  | nil => intro m b v1 v2 v3 v4 v5 v6 v7 v8 v9 v10 v11 hb _ _ _ _ _ _ _ _ _ _ _ hK; exact hK b v1 v2 v3 v4 v5 v6 v7 v8 v9 v10 v11
  | cons x xs ih =>
    intro m b v1 v2 v3 v4 v5 v6 v7 v8 v9 v10 v11 hb hm h1 h2 h3 h4 h5 h6 h7 h8 h9 h10 hK
    rw [List.length_cons] at hm
    rw [fl_cons]
    and_intros
    refine os_d h1 ?_
    unfold w0
    and_intros
    refine call_ok rfl rfl rfl (schema_ok hb (by omega) N (by omega)) ?_
    rintro w r ⟨S, b1, rfl, rfl, hb1, hS⟩
    and_intros
    refine os_d h2 ?_
    and_intros
    refine call_ok rfl rfl rfl (lists_tup 4 (S.map (shD false)) (fun y hy => by obtain ⟨s, hs, rfl⟩ := List.mem_map.mp hy; exact (pl_sh false (hS.sh s hs)).2) N (by omega)) ?_
    rintro w r ⟨rfl, rfl⟩
    rw [lis_shs]
    and_intros
    refine os_n h3 ?_
    have cl := hS.clen
    and_intros
    refine call_ok rfl rfl rfl (columns_ok false (by omega) N (by omega)) ?_
    rintro w r ⟨rfl, rfl⟩
    and_intros
    refine call_okC (ds := [scD true S]) rfl rfl rfl (columns_ok true (by omega) N (by omega)) ?_
    rintro w r ⟨rfl, rfl⟩
    refine ⟨by show (lf _ && true) = true; rw [lf_cols]; rfl, ?_⟩
    and_intros
    refine call_ok rfl rfl rfl (tags_ok hS N (by omega)) ?_
    rintro w r ⟨rfl, rfl⟩
    rw [sort_strs hS.nd fun x => Iff.rfl]
    and_intros
    refine ⟨⟨by decide, by decide, by rw [sizeLine_eq]; simp⟩, ?_⟩
    rw [show (List.replicate (Int.toNat 2) [PyData.tuple (uniqD ((cols S).map .str))]).flatten = [.tuple (uniqD ((cols S).map .str)), .tuple (uniqD ((cols S).map .str))] from rfl]
    refine os_n h5 ?_
    and_intros
    refine os_n h6 ?_
    and_intros
    refine call_ok rfl rfl rfl (tags_ok hS N (by omega)) ?_
    rintro w r ⟨rfl, rfl⟩
    obtain ⟨ms, em, pm⟩ := sort_out (cols S)
    rw [em]
    and_intros
    refine w1_loop (by omega) b1 _ hS _ _ _ _ _ _ ms [.tuple (uniqD ((cols S).map .str)), .tuple (uniqD ((cols S).map .str))] _ (fun y hy => pm.mem_iff.mp hy) (by rw [pm.length_eq]; simp; omega) (fun g hg => ?_) h4 fun G w4 g1 g2 g3 => ?_
    · simp only [List.mem_cons, List.not_mem_nil, or_false, or_self] at hg
      rw [hg]
      exact Pl.uniq (Pl.strs 0 hS.cols)
    · unfold fw
      have e : scD false S = .tuple (S.map (shD false)) := rfl
      and_intros
      rw [e]
      and_intros
      rw [← e, enum_map]
      have pl := pm.length_eq
      have sl := hS.len
      refine w2_loop (by omega) _ w4 hS _ S.zipIdx (m + 1000) b1 G _ _ _ _ _ (fun p hp => List.mem_zipIdx_iff_getElem?.mp hp) hb1 (by rw [List.length_zipIdx]; omega) (by rw [List.length_zipIdx, g1, pl]; simp; omega) g2 h7 h8 h9 h10 fun b2 G2 w7 w8 w9 w10 w11 q1 q2 q3 q4 q5 q6 q7 => ?_
      rw [List.length_zipIdx] at q1
      unfold fw
      and_intros
      refine call_okC (ds := [.list G2, .list G2]) rfl rfl rfl (same_ok 2 (.list G2) (Pl.lst q3).2 (Pl.lst q3).1 N (by omega)) ?_
      rintro w r ⟨rfl, rfl⟩
      refine ⟨rfl, ?_⟩
      and_intros
      rw [flk_next]
      exact ih (m + 2000) b2 _ _ _ _ _ _ _ _ _ _ _ (q1.mono (by omega)) (by omega) (.d _) (.d _) (.o _) g3 (.o _) (.o _) q4 q5 q6 q7 hK
theorem right_ok {b : List D} (hb : Bx 0 b) : Run F 13 28 [.list b] fun w io => w = .dat (.bool true) ∧ ∃ b', io = some b' := by
  refine Run.of (fn := f28) rfl rfl rfl fun N hN => ?_
  show Ok (EV.execs F (callN F N) b28 [some (.io b), none, none, none, none, none, none, none, none, none, none, none]) (Fin (some 0) _)
  rw [b28_eq]
  and_intros
  refine ⟨rng_ok (n := 6) (by omega), ?_⟩
  refine turns_ok (by omega) _ _ 0 b _ _ _ _ _ _ _ _ _ _ _ hb (by rw [show (rangeD 0 6).length = 6 from range_len 6]; omega) .n .n .n .n .n .n .n .n .n .n fun b' v1 v2 v3 v4 v5 v6 v7 v8 v9 v10 v11 => ?_
  and_intros
  exact ⟨trivial, b', rfl⟩
theorem by_hand : callN F 59 27 [] = .ok (.dat (.bool true)) none := by kernel_rfl
theorem law_at (N : Nat) (hN : 14 ≤ N) (hh : callN F N 27 [] = .ok (.dat (.bool true)) none) (ns : List Int) (hn : ns.length ≤ 63) : Yes (callN F (N + 1) 29 [.list (ns.map .int)]) := by
  refine Yes.mk (run_at (fn := f29) rfl rfl rfl ?_)
  show Ok (EV.execs F (callN F N) b29 [some (.dat (.list (ns.map .int))), none, none]) (Fin none _)
  unfold b29
  and_intros
  have F27 : F 27 = some f27 := rfl
  rw [F27]
  and_intros
  refine call_ok (ds := []) (io := none) (Q := fun w io => w = .dat (.bool true) ∧ io = none) rfl rfl rfl ?_ ?_
  · rw [hh]; exact ⟨rfl, rfl⟩
  rintro w r ⟨rfl, rfl⟩
  and_intros
  refine call_ok rfl rfl rfl (cells_ok ns hn N (by omega)) ?_
  intro w r h
  obtain ⟨cs, h1, h2, hc⟩ := h
  subst h1
  subst h2
  and_intros
  rw [List.length_map]
  refine ⟨rng_ok (by omega), ?_⟩
  rw [up_rng0]
  refine comp_map (fun i : Nat => (.int (i : Int) : D)) [some (.dat (.list (ns.map .int))), some (.own (cs.map .int)), none] (fun _ => some (.bool true)) _ _ (fun i hi => ?_) ?_
  · have := up_lt hi
    and_intros
    refine call_okC rfl rfl rfl (box_ok cs i (by omega) N (by omega)) ?_
    rintro w r ⟨b, rfl, rfl, hb⟩
    refine ⟨by show (lfs b && true) = true; rw [lfs_bx hb]; rfl, ?_⟩
    and_intros
    refine call_ok rfl rfl rfl (right_ok hb N (by omega)) ?_
    rintro w r ⟨rfl, b', rfl⟩
    and_intros
    (first | exact ⟨rfl, trivial⟩ | exact ⟨trivial, trivial⟩ | exact ⟨rfl, rfl⟩ | trivial)
  · rw [fm_some, List.nil_append]
    and_intros
    rw [om_all (fun _ => true)]
    and_intros
    simp
theorem law_yes (ns : List Int) (hn : ns.length ≤ 63) : Yes (callN F 60 29 [.list (ns.map .int)]) := law_at 59 (by omega) by_hand ns hn
end K04

end
section
set_option maxRecDepth 100000
set_option maxHeartbeats 0
namespace K04
open PySem PySem.Spec PyProof.Rows L2 EV
def top (i : Nat) : Stmt := PySem.Challenge.pw_rowsathome_k04_columns_closed_and_sheets.main.body.getD i (.Pass ⟨0, 0, 0, 0⟩)
def n0 : List Str := ["thing", "part"]
def ps0 : List Str := ["thing"]
abbrev st0 : Stmt := top 5
def n1 : List Str := ["row"]
def ps1 : List Str := ["row"]
abbrev st1 : Stmt := top 6
def n2 : List Str := ["some", "others", "own"]
def ps2 : List Str := ["some", "others"]
abbrev st2 : Stmt := top 7
def n3 : List Str := ["schema", "own", "name"]
def ps3 : List Str := ["schema"]
abbrev st3 : Stmt := top 9
def n4 : List Str := ["schema", "name", "number", "own"]
def ps4 : List Str := ["schema", "name"]
abbrev st4 : Stmt := top 10
def n5 : List Str := ["schema", "names", "name"]
def ps5 : List Str := ["schema", "names"]
abbrev st5 : Stmt := top 11
def n6 : List Str := ["schema", "numbers", "number"]
def ps6 : List Str := ["schema", "numbers"]
abbrev st6 : Stmt := top 12
def n7 : List Str := ["schema", "column"]
def ps7 : List Str := ["schema", "column"]
abbrev st7 : Stmt := top 13
def n8 : List Str := ["schema", "number", "key"]
def ps8 : List Str := ["schema", "number", "key"]
abbrev st8 : Stmt := top 14
def n9 : List Str := ["sheet", "some", "columns", "rules", "keys", "references", "found", "size", "few", "one", "key"]
def ps9 : List Str := ["sheet", "some"]
abbrev st9 : Stmt := top 15
def n10 : List Str := ["schema", "number", "some"]
def ps10 : List Str := ["schema", "number", "some"]
abbrev st10 : Stmt := top 16
def n11 : List Str := ["schema", "number", "found", "own", "row"]
def ps11 : List Str := ["schema", "number"]
abbrev st11 : Stmt := top 17
def n12 : List Str := ["schema", "number", "own"]
def ps12 : List Str := ["schema", "number"]
abbrev st12 : Stmt := top 18
def n13 : List Str := ["_law_script", "_law_k", "_law_cell"]
def ps13 : List Str := ["_law_script", "_law_k"]
abbrev st13 : Stmt := top 20
def n14 : List Str := ["_law_box_here", "_law_below_so", "_law_once", "_law_far", "_law_twice", "_law_drawn"]
def ps14 : List Str := ["_law_box_here", "_law_below_so"]
abbrev st14 : Stmt := top 21
def n15 : List Str := ["_law_script", "_law_top_so", "_law_cells_so", "_law_k", "_law_cell", "_law_at_so"]
def ps15 : List Str := ["_law_script", "_law_top_so"]
abbrev st15 : Stmt := top 22
def n16 : List Str := ["_law_box_here", "_law_pool_so"]
def ps16 : List Str := ["_law_box_here", "_law_pool_so"]
abbrev st16 : Stmt := top 23
def n17 : List Str := ["_law_got", "_law_due", "_law_mine", "_law_its"]
def ps17 : List Str := ["_law_got", "_law_due"]
abbrev st17 : Stmt := top 24
def n18 : List Str := ["_law_matter_so", "_law_bit"]
def ps18 : List Str := ["_law_matter_so"]
abbrev st18 : Stmt := top 25
def n19 : List Str := ["_law_box_here", "_law_rows_so", "_law_turn", "_law_left_so", "_law_found"]
def ps19 : List Str := ["_law_box_here", "_law_rows_so"]
abbrev st19 : Stmt := top 26
def n20 : List Str := ["_law_box_here", "_law_tags_so", "_law_tag"]
def ps20 : List Str := ["_law_box_here", "_law_tags_so"]
abbrev st20 : Stmt := top 27
def n21 : List Str := ["_law_box_here", "_law_most_so", "_law_k", "_law_whole_so", "_law_pool_so", "_law_found", "_law_tags_so", "_law_rules_so", "_law_keys_so", "_law_own", "_law_refs_so", "_law_j", "_law_fits_so", "_law_lap", "_law_key_so"]
def ps21 : List Str := ["_law_box_here", "_law_most_so"]
abbrev st21 : Stmt := top 28
def n22 : List Str := ["_law_own", "_law_found", "_law_sheet_so"]
def ps22 : List Str := ["_law_own"]
abbrev st22 : Stmt := top 29
def n23 : List Str := ["_law_own", "_law_tag", "_law_k", "_law_sheet_so"]
def ps23 : List Str := ["_law_own", "_law_tag"]
abbrev st23 : Stmt := top 30
def n24 : List Str := ["_law_way_so", "_law_own", "_law_bit", "_law_far", "error", "_law_caught", "_law_told_so"]
def ps24 : List Str := ["_law_way_so", "_law_own", "_law_bit", "_law_far"]
abbrev st24 : Stmt := top 31
def n25 : List Str := ["_law_sheet_so", "_law_lot_so", "_law_found", "_law_lap", "_law_key_so", "_law_few_so", "_law_one_so", "_law_tag"]
def ps25 : List Str := ["_law_sheet_so", "_law_lot_so"]
abbrev st25 : Stmt := top 32
def n26 : List Str := ["_law_own", "_law_k", "_law_found", "_law_j", "_law_ref_so"]
def ps26 : List Str := ["_law_own", "_law_k"]
abbrev st26 : Stmt := top 33
def n27 : List Str := ["_law_own", "_law_two", "_law_got", "_law_due", "_law_rows_so", "_law_far_so", "_law_mixed_so", "_law_soft", "_law_tag", "_law_bit", "_law_k"]
def ps27 : List Str := []
abbrev st27 : Stmt := top 34
def n28 : List Str := ["_law_box_here", "_law_turn", "_law_own", "_law_soft", "_law_tag", "_law_got", "_law_due", "_law_k", "_law_sheet_so", "_law_lot_so", "_law_strange_so", "_law_j"]
def ps28 : List Str := ["_law_box_here"]
abbrev st28 : Stmt := top 35
def n29 : List Str := ["_law_script", "_law_spots_so", "_law_k"]
def ps29 : List Str := ["_law_script"]
abbrev st29 : Stmt := top 36
def G : List (Str × PyData) := []
def W : List (Nat × List Str × List Nat) := [(3, ["schema"], [0]), (7, ["column", "schema"], [1, 0]), (10, ["some", "number", "schema"], [2, 1, 0]), (11, ["number", "schema"], [1, 0]), (12, ["number", "schema"], [1, 0])]
def E : List XC := [⟨"NoColumn", some "name", true⟩, ⟨"NoSheet", some "number", true⟩, ⟨"Unfit", none, false⟩]
theorem ok0 : DefOk T G W E f0 n0 ps0 (defScope st0) (defBody st0) := ⟨⟨rfl, rfl, rfl, by decide +kernel, rfl, by decide +kernel, by decide +kernel⟩, rfl, rfl, rfl, by decide +kernel⟩
theorem ok1 : DefOk T G W E f1 n1 ps1 (defScope st1) (defBody st1) := ⟨⟨rfl, rfl, rfl, by decide +kernel, rfl, by decide +kernel, by decide +kernel⟩, rfl, rfl, rfl, by decide +kernel⟩
theorem ok2 : DefOk T G W E f2 n2 ps2 (defScope st2) (defBody st2) := ⟨⟨rfl, rfl, rfl, by decide +kernel, rfl, by decide +kernel, by decide +kernel⟩, rfl, rfl, rfl, by decide +kernel⟩
theorem ok3 : DefOk T G W E f3 n3 ps3 (defScope st3) (defBody st3) := ⟨⟨rfl, rfl, rfl, by decide +kernel, rfl, by decide +kernel, by decide +kernel⟩, rfl, rfl, rfl, by decide +kernel⟩
theorem ok4 : DefOk T G W E f4 n4 ps4 (defScope st4) (defBody st4) := ⟨⟨rfl, rfl, rfl, by decide +kernel, rfl, by decide +kernel, by decide +kernel⟩, rfl, rfl, rfl, by decide +kernel⟩
theorem ok5 : DefOk T G W E f5 n5 ps5 (defScope st5) (defBody st5) := ⟨⟨rfl, rfl, rfl, by decide +kernel, rfl, by decide +kernel, by decide +kernel⟩, rfl, rfl, rfl, by decide +kernel⟩
theorem ok6 : DefOk T G W E f6 n6 ps6 (defScope st6) (defBody st6) := ⟨⟨rfl, rfl, rfl, by decide +kernel, rfl, by decide +kernel, by decide +kernel⟩, rfl, rfl, rfl, by decide +kernel⟩
theorem ok7 : DefOk T G W E f7 n7 ps7 (defScope st7) (defBody st7) := ⟨⟨rfl, rfl, rfl, by decide +kernel, rfl, by decide +kernel, by decide +kernel⟩, rfl, rfl, rfl, by decide +kernel⟩
theorem ok8 : DefOk T G W E f8 n8 ps8 (defScope st8) (defBody st8) := ⟨⟨rfl, rfl, rfl, by decide +kernel, rfl, by decide +kernel, by decide +kernel⟩, rfl, rfl, rfl, by decide +kernel⟩
theorem ok9 : DefOk T G W E f9 n9 ps9 (defScope st9) (defBody st9) := ⟨⟨rfl, rfl, rfl, by decide +kernel, rfl, by decide +kernel, by decide +kernel⟩, rfl, rfl, rfl, by decide +kernel⟩
theorem ok10 : DefOk T G W E f10 n10 ps10 (defScope st10) (defBody st10) := ⟨⟨rfl, rfl, rfl, by decide +kernel, rfl, by decide +kernel, by decide +kernel⟩, rfl, rfl, rfl, by decide +kernel⟩
theorem ok11 : DefOk T G W E f11 n11 ps11 (defScope st11) (defBody st11) := ⟨⟨rfl, rfl, rfl, by decide +kernel, rfl, by decide +kernel, by decide +kernel⟩, rfl, rfl, rfl, by decide +kernel⟩
theorem ok12 : DefOk T G W E f12 n12 ps12 (defScope st12) (defBody st12) := ⟨⟨rfl, rfl, rfl, by decide +kernel, rfl, by decide +kernel, by decide +kernel⟩, rfl, rfl, rfl, by decide +kernel⟩
theorem ok13 : DefOk T G W E f13 n13 ps13 (defScope st13) (defBody st13) := ⟨⟨rfl, rfl, rfl, by decide +kernel, rfl, by decide +kernel, by decide +kernel⟩, rfl, rfl, rfl, by decide +kernel⟩
theorem ok14 : DefOk T G W E f14 n14 ps14 (defScope st14) (defBody st14) := ⟨⟨rfl, rfl, rfl, by decide +kernel, rfl, by decide +kernel, by decide +kernel⟩, rfl, rfl, rfl, by decide +kernel⟩
theorem ok15 : DefOk T G W E f15 n15 ps15 (defScope st15) (defBody st15) := ⟨⟨rfl, rfl, rfl, by decide +kernel, rfl, by decide +kernel, by decide +kernel⟩, rfl, rfl, rfl, by decide +kernel⟩
theorem ok16 : DefOk T G W E f16 n16 ps16 (defScope st16) (defBody st16) := ⟨⟨rfl, rfl, rfl, by decide +kernel, rfl, by decide +kernel, by decide +kernel⟩, rfl, rfl, rfl, by decide +kernel⟩
theorem ok17 : DefOk T G W E f17 n17 ps17 (defScope st17) (defBody st17) := ⟨⟨rfl, rfl, rfl, by decide +kernel, rfl, by decide +kernel, by decide +kernel⟩, rfl, rfl, rfl, by decide +kernel⟩
theorem ok18 : DefOk T G W E f18 n18 ps18 (defScope st18) (defBody st18) := ⟨⟨rfl, rfl, rfl, by decide +kernel, rfl, by decide +kernel, by decide +kernel⟩, rfl, rfl, rfl, by decide +kernel⟩
theorem ok19 : DefOk T G W E f19 n19 ps19 (defScope st19) (defBody st19) := ⟨⟨rfl, rfl, rfl, by decide +kernel, rfl, by decide +kernel, by decide +kernel⟩, rfl, rfl, rfl, by decide +kernel⟩
theorem ok20 : DefOk T G W E f20 n20 ps20 (defScope st20) (defBody st20) := ⟨⟨rfl, rfl, rfl, by decide +kernel, rfl, by decide +kernel, by decide +kernel⟩, rfl, rfl, rfl, by decide +kernel⟩
theorem ok21 : DefOk T G W E f21 n21 ps21 (defScope st21) (defBody st21) := ⟨⟨rfl, rfl, rfl, by decide +kernel, rfl, by decide +kernel, by decide +kernel⟩, rfl, rfl, rfl, by decide +kernel⟩
theorem ok22 : DefOk T G W E f22 n22 ps22 (defScope st22) (defBody st22) := ⟨⟨rfl, rfl, rfl, by decide +kernel, rfl, by decide +kernel, by decide +kernel⟩, rfl, rfl, rfl, by decide +kernel⟩
theorem ok23 : DefOk T G W E f23 n23 ps23 (defScope st23) (defBody st23) := ⟨⟨rfl, rfl, rfl, by decide +kernel, rfl, by decide +kernel, by decide +kernel⟩, rfl, rfl, rfl, by decide +kernel⟩
theorem ok24 : DefOk T G W E f24 n24 ps24 (defScope st24) (defBody st24) := ⟨⟨rfl, rfl, rfl, by decide +kernel, rfl, by decide +kernel, by decide +kernel⟩, rfl, rfl, rfl, by decide +kernel⟩
theorem ok25 : DefOk T G W E f25 n25 ps25 (defScope st25) (defBody st25) := ⟨⟨rfl, rfl, rfl, by decide +kernel, rfl, by decide +kernel, by decide +kernel⟩, rfl, rfl, rfl, by decide +kernel⟩
theorem ok26 : DefOk T G W E f26 n26 ps26 (defScope st26) (defBody st26) := ⟨⟨rfl, rfl, rfl, by decide +kernel, rfl, by decide +kernel, by decide +kernel⟩, rfl, rfl, rfl, by decide +kernel⟩
theorem ok27 : DefOk T G W E f27 n27 ps27 (defScope st27) (defBody st27) := ⟨⟨rfl, rfl, rfl, by decide +kernel, rfl, by decide +kernel, by decide +kernel⟩, rfl, rfl, rfl, by decide +kernel⟩
theorem ok28 : DefOk T G W E f28 n28 ps28 (defScope st28) (defBody st28) := ⟨⟨rfl, rfl, rfl, by decide +kernel, rfl, by decide +kernel, by decide +kernel⟩, rfl, rfl, rfl, by decide +kernel⟩
theorem ok29 : DefOk T G W E f29 n29 ps29 (defScope st29) (defBody st29) := ⟨⟨rfl, rfl, rfl, by decide +kernel, rfl, by decide +kernel, by decide +kernel⟩, rfl, rfl, rfl, by decide +kernel⟩
def d0 : He.DefD := ⟨("tupled", none), "tupled", "tupled", defArgs st0, defBody st0, defScope st0, [], []⟩
def d1 : He.DefD := ⟨("set_of", none), "set_of", "set_of", defArgs st1, defBody st1, defScope st1, [], []⟩
def d2 : He.DefD := ⟨("unlike", none), "unlike", "unlike", defArgs st2, defBody st2, defScope st2, [], []⟩
def d3 : He.DefD := ⟨("columns_of", none), "columns_of", "columns_of", defArgs st3, defBody st3, defScope st3, [], []⟩
def d4 : He.DefD := ⟨("home_of", none), "home_of", "home_of", defArgs st4, defBody st4, defScope st4, [], []⟩
def d5 : He.DefD := ⟨("check_columns", none), "check_columns", "check_columns", defArgs st5, defBody st5, defScope st5, [], []⟩
def d6 : He.DefD := ⟨("check_sheets", none), "check_sheets", "check_sheets", defArgs st6, defBody st6, defScope st6, [], []⟩
def d7 : He.DefD := ⟨("sheet_of", none), "sheet_of", "sheet_of", defArgs st7, defBody st7, defScope st7, [], []⟩
def d8 : He.DefD := ⟨("check_key", none), "check_key", "check_key", defArgs st8, defBody st8, defScope st8, [], []⟩
def d9 : He.DefD := ⟨("closed_in", none), "closed_in", "closed_in", defArgs st9, defBody st9, defScope st9, [], []⟩
def d10 : He.DefD := ⟨("closed", none), "closed", "closed", defArgs st10, defBody st10, defScope st10, [], []⟩
def d11 : He.DefD := ⟨("referred", none), "referred", "referred", defArgs st11, defBody st11, defScope st11, [], []⟩
def d12 : He.DefD := ⟨("referring", none), "referring", "referring", defArgs st12, defBody st12, defScope st12, [], []⟩
def d13 : He.DefD := ⟨("_law_box", none), "_law_box", "_law_box", defArgs st13, defBody st13, defScope st13, [], []⟩
def d14 : He.DefD := ⟨("_law_take", none), "_law_take", "_law_take", defArgs st14, defBody st14, defScope st14, [], []⟩
def d15 : He.DefD := ⟨("_law_cells", none), "_law_cells", "_law_cells", defArgs st15, defBody st15, defScope st15, [], []⟩
def d16 : He.DefD := ⟨("_law_of", none), "_law_of", "_law_of", defArgs st16, defBody st16, defScope st16, [], []⟩
def d17 : He.DefD := ⟨("_law_same", none), "_law_same", "_law_same", defArgs st17, defBody st17, defScope st17, [], []⟩
def d18 : He.DefD := ⟨("_law_lists", none), "_law_lists", "_law_lists", defArgs st18, defBody st18, defScope st18, [], []⟩
def d19 : He.DefD := ⟨("_law_mixed", none), "_law_mixed", "_law_mixed", defArgs st19, defBody st19, defScope st19, [], []⟩
def d20 : He.DefD := ⟨("_law_few", none), "_law_few", "_law_few", defArgs st20, defBody st20, defScope st20, [], []⟩
def d21 : He.DefD := ⟨("_law_schema", none), "_law_schema", "_law_schema", defArgs st21, defBody st21, defScope st21, [], []⟩
def d22 : He.DefD := ⟨("_law_tags", none), "_law_tags", "_law_tags", defArgs st22, defBody st22, defScope st22, [], []⟩
def d23 : He.DefD := ⟨("_law_home", none), "_law_home", "_law_home", defArgs st23, defBody st23, defScope st23, [], []⟩
def d24 : He.DefD := ⟨("_law_heard", none), "_law_heard", "_law_heard", defArgs st24, defBody st24, defScope st24, [], []⟩
def d25 : He.DefD := ⟨("_law_closed", none), "_law_closed", "_law_closed", defArgs st25, defBody st25, defScope st25, [], []⟩
def d26 : He.DefD := ⟨("_law_led", none), "_law_led", "_law_led", defArgs st26, defBody st26, defScope st26, [], []⟩
def d27 : He.DefD := ⟨("_law_by_hand_right", none), "_law_by_hand_right", "_law_by_hand_right", defArgs st27, defBody st27, defScope st27, [], []⟩
def d28 : He.DefD := ⟨("_law_right", none), "_law_right", "_law_right", defArgs st28, defBody st28, defScope st28, [], []⟩
def d29 : He.DefD := ⟨("law", none), "law", "law", defArgs st29, defBody st29, defScope st29, [], []⟩
def fn0p : List He.DefD := [d0, d1, d2, d3, d4, d5, d6, d7, d8, d9, d10, d11, d12, d13, d14, d15, d16, d17, d18, d19, d20, d21, d22, d23, d24, d25, d26, d27, d28, d29]
def fn : List He.DefD := fn0p
def fa0p : List He.Fa := [.glo "tupled", .glo "set_of", .glo "unlike", .glo "columns_of", .glo "home_of", .glo "check_columns", .glo "check_sheets", .glo "sheet_of", .glo "check_key", .glo "closed_in", .glo "closed", .glo "referred", .glo "referring", .glo "_law_box", .glo "_law_take", .glo "_law_cells", .glo "_law_of", .glo "_law_same", .glo "_law_lists", .glo "_law_mixed", .glo "_law_few", .glo "_law_schema", .glo "_law_tags", .glo "_law_home", .glo "_law_heard", .glo "_law_closed", .glo "_law_led", .glo "_law_by_hand_right", .glo "_law_right", .glo "law"]
def fa1p : List He.Fa := [.free "len", .free "abs", .free "int", .free "list", .free "tuple", .free "sorted", .free "set", .free "all", .free "any", .free "sum", .free "bool", .free "str", .free "isinstance", .free "range", .free "enumerate", .free "zip", .free "LookupError", .free "ValueError", .free "super"]
def fa : List He.Fa := fa0p ++ fa1p
def loose0p : List Str := ["NoColumn", "NoSheet", "Unfit", "tupled", "set_of", "unlike", "columns_of", "home_of", "check_columns", "check_sheets", "sheet_of", "check_key", "closed_in", "closed", "referred", "referring", "_law_box", "_law_take", "_law_cells", "_law_of", "_law_same", "_law_lists", "_law_mixed", "_law_few", "_law_schema", "_law_tags", "_law_home", "_law_heard", "_law_closed", "_law_led"]
def loose1p : List Str := ["_law_by_hand_right", "_law_right"]
def loose : List Str := loose0p ++ loose1p
abbrev R : PySem.W.OpenRow := PySem.W.OpenLaw.row PySem.Challenge.rw_rowsathome_k04_columns_closed_and_sheets
abbrev PR : Program := PySem.W.OpenLaw.prog PySem.Challenge.rw_rowsathome_k04_columns_closed_and_sheets
abbrev hk : PySem.W.Hook := hookL PR 5 fa fn E
abbrev ob := obL PR 5 fa fn E
theorem run (w : World) : HandSHeadRun.RunEq R (PySem.W.view R.prog [36]) hk ob 4000 loose w := by
  intro os
  kernel_rfl
section
variable {K : PySem.W.Frag} {h : Heap} {mg : Str → Option Value}
theorem t0 (X : K.In h) (Gn : h.Ns mainGlobals mg) (c : He.SaysD fa fn K) : ∃ N ps qual params body scope f fd, DefOk T G W E f0 N ps scope body ∧ FunD K f0.name qual params body scope [] [] f fd ∧ mg f0.name = some (.ref f) ∧ (Binds K fd ps [] ∧ ∀ ks perm, (0, ks, perm) ∈ W → KwOk K fd ps ks perm) := by
  obtain ⟨fd, Fd⟩ := c.def_ 0 (d := d0) rfl
  refine ⟨n0, ps0, _, _, _, _, _, fd, ok0, Fd, He.glo_ok X Gn (c.fact 0 (f := .glo "tupled") rfl), FunD.bindsN (ps := ps0) Fd fun _ _ _ _ _ _ us hl => match us, hl with | [_], _ => rfl, fun ks perm m => ?_⟩
  simp [W] at m
theorem t1 (X : K.In h) (Gn : h.Ns mainGlobals mg) (c : He.SaysD fa fn K) : ∃ N ps qual params body scope f fd, DefOk T G W E f1 N ps scope body ∧ FunD K f1.name qual params body scope [] [] f fd ∧ mg f1.name = some (.ref f) ∧ (Binds K fd ps [] ∧ ∀ ks perm, (1, ks, perm) ∈ W → KwOk K fd ps ks perm) := by
  obtain ⟨fd, Fd⟩ := c.def_ 1 (d := d1) rfl
  refine ⟨n1, ps1, _, _, _, _, _, fd, ok1, Fd, He.glo_ok X Gn (c.fact 1 (f := .glo "set_of") rfl), FunD.bindsN (ps := ps1) Fd fun _ _ _ _ _ _ us hl => match us, hl with | [_], _ => rfl, fun ks perm m => ?_⟩
  simp [W] at m
theorem t2 (X : K.In h) (Gn : h.Ns mainGlobals mg) (c : He.SaysD fa fn K) : ∃ N ps qual params body scope f fd, DefOk T G W E f2 N ps scope body ∧ FunD K f2.name qual params body scope [] [] f fd ∧ mg f2.name = some (.ref f) ∧ (Binds K fd ps [] ∧ ∀ ks perm, (2, ks, perm) ∈ W → KwOk K fd ps ks perm) := by
  obtain ⟨fd, Fd⟩ := c.def_ 2 (d := d2) rfl
  refine ⟨n2, ps2, _, _, _, _, _, fd, ok2, Fd, He.glo_ok X Gn (c.fact 2 (f := .glo "unlike") rfl), FunD.bindsN (ps := ps2) Fd fun _ _ _ _ _ _ us hl => match us, hl with | [_, _], _ => rfl, fun ks perm m => ?_⟩
  simp [W] at m
theorem t3 (X : K.In h) (Gn : h.Ns mainGlobals mg) (c : He.SaysD fa fn K) : ∃ N ps qual params body scope f fd, DefOk T G W E f3 N ps scope body ∧ FunD K f3.name qual params body scope [] [] f fd ∧ mg f3.name = some (.ref f) ∧ (Binds K fd ps [] ∧ ∀ ks perm, (3, ks, perm) ∈ W → KwOk K fd ps ks perm) := by
  obtain ⟨fd, Fd⟩ := c.def_ 3 (d := d3) rfl
  refine ⟨n3, ps3, _, _, _, _, _, fd, ok3, Fd, He.glo_ok X Gn (c.fact 3 (f := .glo "columns_of") rfl), FunD.bindsN (ps := ps3) Fd fun _ _ _ _ _ _ us hl => match us, hl with | [_], _ => rfl, fun ks perm m => ?_⟩
  have m2 : (ks = (["schema"] : List Str) ∧ perm = [0]) := by simpa [W] using m
  rcases m2 with ⟨rfl, rfl⟩
  · exact kw_of Fd fun _ _ _ _ _ _ us hl => match us, hl with | [_], _ => rfl
theorem t4 (X : K.In h) (Gn : h.Ns mainGlobals mg) (c : He.SaysD fa fn K) : ∃ N ps qual params body scope f fd, DefOk T G W E f4 N ps scope body ∧ FunD K f4.name qual params body scope [] [] f fd ∧ mg f4.name = some (.ref f) ∧ (Binds K fd ps [] ∧ ∀ ks perm, (4, ks, perm) ∈ W → KwOk K fd ps ks perm) := by
  obtain ⟨fd, Fd⟩ := c.def_ 4 (d := d4) rfl
  refine ⟨n4, ps4, _, _, _, _, _, fd, ok4, Fd, He.glo_ok X Gn (c.fact 4 (f := .glo "home_of") rfl), FunD.bindsN (ps := ps4) Fd fun _ _ _ _ _ _ us hl => match us, hl with | [_, _], _ => rfl, fun ks perm m => ?_⟩
  simp [W] at m
theorem t5 (X : K.In h) (Gn : h.Ns mainGlobals mg) (c : He.SaysD fa fn K) : ∃ N ps qual params body scope f fd, DefOk T G W E f5 N ps scope body ∧ FunD K f5.name qual params body scope [] [] f fd ∧ mg f5.name = some (.ref f) ∧ (Binds K fd ps [] ∧ ∀ ks perm, (5, ks, perm) ∈ W → KwOk K fd ps ks perm) := by
  obtain ⟨fd, Fd⟩ := c.def_ 5 (d := d5) rfl
  refine ⟨n5, ps5, _, _, _, _, _, fd, ok5, Fd, He.glo_ok X Gn (c.fact 5 (f := .glo "check_columns") rfl), FunD.bindsN (ps := ps5) Fd fun _ _ _ _ _ _ us hl => match us, hl with | [_, _], _ => rfl, fun ks perm m => ?_⟩
  simp [W] at m
theorem t6 (X : K.In h) (Gn : h.Ns mainGlobals mg) (c : He.SaysD fa fn K) : ∃ N ps qual params body scope f fd, DefOk T G W E f6 N ps scope body ∧ FunD K f6.name qual params body scope [] [] f fd ∧ mg f6.name = some (.ref f) ∧ (Binds K fd ps [] ∧ ∀ ks perm, (6, ks, perm) ∈ W → KwOk K fd ps ks perm) := by
  obtain ⟨fd, Fd⟩ := c.def_ 6 (d := d6) rfl
  refine ⟨n6, ps6, _, _, _, _, _, fd, ok6, Fd, He.glo_ok X Gn (c.fact 6 (f := .glo "check_sheets") rfl), FunD.bindsN (ps := ps6) Fd fun _ _ _ _ _ _ us hl => match us, hl with | [_, _], _ => rfl, fun ks perm m => ?_⟩
  simp [W] at m
theorem t7 (X : K.In h) (Gn : h.Ns mainGlobals mg) (c : He.SaysD fa fn K) : ∃ N ps qual params body scope f fd, DefOk T G W E f7 N ps scope body ∧ FunD K f7.name qual params body scope [] [] f fd ∧ mg f7.name = some (.ref f) ∧ (Binds K fd ps [] ∧ ∀ ks perm, (7, ks, perm) ∈ W → KwOk K fd ps ks perm) := by
  obtain ⟨fd, Fd⟩ := c.def_ 7 (d := d7) rfl
  refine ⟨n7, ps7, _, _, _, _, _, fd, ok7, Fd, He.glo_ok X Gn (c.fact 7 (f := .glo "sheet_of") rfl), FunD.bindsN (ps := ps7) Fd fun _ _ _ _ _ _ us hl => match us, hl with | [_, _], _ => rfl, fun ks perm m => ?_⟩
  have m2 : (ks = (["column", "schema"] : List Str) ∧ perm = [1, 0]) := by simpa [W] using m
  rcases m2 with ⟨rfl, rfl⟩
  · exact kw_of Fd fun _ _ _ _ _ _ us hl => match us, hl with | [_, _], _ => rfl
theorem t8 (X : K.In h) (Gn : h.Ns mainGlobals mg) (c : He.SaysD fa fn K) : ∃ N ps qual params body scope f fd, DefOk T G W E f8 N ps scope body ∧ FunD K f8.name qual params body scope [] [] f fd ∧ mg f8.name = some (.ref f) ∧ (Binds K fd ps [] ∧ ∀ ks perm, (8, ks, perm) ∈ W → KwOk K fd ps ks perm) := by
  obtain ⟨fd, Fd⟩ := c.def_ 8 (d := d8) rfl
  refine ⟨n8, ps8, _, _, _, _, _, fd, ok8, Fd, He.glo_ok X Gn (c.fact 8 (f := .glo "check_key") rfl), FunD.bindsN (ps := ps8) Fd fun _ _ _ _ _ _ us hl => match us, hl with | [_, _, _], _ => rfl, fun ks perm m => ?_⟩
  simp [W] at m
theorem t9 (X : K.In h) (Gn : h.Ns mainGlobals mg) (c : He.SaysD fa fn K) : ∃ N ps qual params body scope f fd, DefOk T G W E f9 N ps scope body ∧ FunD K f9.name qual params body scope [] [] f fd ∧ mg f9.name = some (.ref f) ∧ (Binds K fd ps [] ∧ ∀ ks perm, (9, ks, perm) ∈ W → KwOk K fd ps ks perm) := by
  obtain ⟨fd, Fd⟩ := c.def_ 9 (d := d9) rfl
  refine ⟨n9, ps9, _, _, _, _, _, fd, ok9, Fd, He.glo_ok X Gn (c.fact 9 (f := .glo "closed_in") rfl), FunD.bindsN (ps := ps9) Fd fun _ _ _ _ _ _ us hl => match us, hl with | [_, _], _ => rfl, fun ks perm m => ?_⟩
  simp [W] at m
theorem t10 (X : K.In h) (Gn : h.Ns mainGlobals mg) (c : He.SaysD fa fn K) : ∃ N ps qual params body scope f fd, DefOk T G W E f10 N ps scope body ∧ FunD K f10.name qual params body scope [] [] f fd ∧ mg f10.name = some (.ref f) ∧ (Binds K fd ps [] ∧ ∀ ks perm, (10, ks, perm) ∈ W → KwOk K fd ps ks perm) := by
  obtain ⟨fd, Fd⟩ := c.def_ 10 (d := d10) rfl
  refine ⟨n10, ps10, _, _, _, _, _, fd, ok10, Fd, He.glo_ok X Gn (c.fact 10 (f := .glo "closed") rfl), FunD.bindsN (ps := ps10) Fd fun _ _ _ _ _ _ us hl => match us, hl with | [_, _, _], _ => rfl, fun ks perm m => ?_⟩
  have m2 : (ks = (["some", "number", "schema"] : List Str) ∧ perm = [2, 1, 0]) := by simpa [W] using m
  rcases m2 with ⟨rfl, rfl⟩
  · exact kw_of Fd fun _ _ _ _ _ _ us hl => match us, hl with | [_, _, _], _ => rfl
theorem t11 (X : K.In h) (Gn : h.Ns mainGlobals mg) (c : He.SaysD fa fn K) : ∃ N ps qual params body scope f fd, DefOk T G W E f11 N ps scope body ∧ FunD K f11.name qual params body scope [] [] f fd ∧ mg f11.name = some (.ref f) ∧ (Binds K fd ps [] ∧ ∀ ks perm, (11, ks, perm) ∈ W → KwOk K fd ps ks perm) := by
  obtain ⟨fd, Fd⟩ := c.def_ 11 (d := d11) rfl
  refine ⟨n11, ps11, _, _, _, _, _, fd, ok11, Fd, He.glo_ok X Gn (c.fact 11 (f := .glo "referred") rfl), FunD.bindsN (ps := ps11) Fd fun _ _ _ _ _ _ us hl => match us, hl with | [_, _], _ => rfl, fun ks perm m => ?_⟩
  have m2 : (ks = (["number", "schema"] : List Str) ∧ perm = [1, 0]) := by simpa [W] using m
  rcases m2 with ⟨rfl, rfl⟩
  · exact kw_of Fd fun _ _ _ _ _ _ us hl => match us, hl with | [_, _], _ => rfl
theorem t12 (X : K.In h) (Gn : h.Ns mainGlobals mg) (c : He.SaysD fa fn K) : ∃ N ps qual params body scope f fd, DefOk T G W E f12 N ps scope body ∧ FunD K f12.name qual params body scope [] [] f fd ∧ mg f12.name = some (.ref f) ∧ (Binds K fd ps [] ∧ ∀ ks perm, (12, ks, perm) ∈ W → KwOk K fd ps ks perm) := by
  obtain ⟨fd, Fd⟩ := c.def_ 12 (d := d12) rfl
  refine ⟨n12, ps12, _, _, _, _, _, fd, ok12, Fd, He.glo_ok X Gn (c.fact 12 (f := .glo "referring") rfl), FunD.bindsN (ps := ps12) Fd fun _ _ _ _ _ _ us hl => match us, hl with | [_, _], _ => rfl, fun ks perm m => ?_⟩
  have m2 : (ks = (["number", "schema"] : List Str) ∧ perm = [1, 0]) := by simpa [W] using m
  rcases m2 with ⟨rfl, rfl⟩
  · exact kw_of Fd fun _ _ _ _ _ _ us hl => match us, hl with | [_, _], _ => rfl
theorem t13 (X : K.In h) (Gn : h.Ns mainGlobals mg) (c : He.SaysD fa fn K) : ∃ N ps qual params body scope f fd, DefOk T G W E f13 N ps scope body ∧ FunD K f13.name qual params body scope [] [] f fd ∧ mg f13.name = some (.ref f) ∧ (Binds K fd ps [] ∧ ∀ ks perm, (13, ks, perm) ∈ W → KwOk K fd ps ks perm) := by
  obtain ⟨fd, Fd⟩ := c.def_ 13 (d := d13) rfl
  refine ⟨n13, ps13, _, _, _, _, _, fd, ok13, Fd, He.glo_ok X Gn (c.fact 13 (f := .glo "_law_box") rfl), FunD.bindsN (ps := ps13) Fd fun _ _ _ _ _ _ us hl => match us, hl with | [_, _], _ => rfl, fun ks perm m => ?_⟩
  simp [W] at m
theorem t14 (X : K.In h) (Gn : h.Ns mainGlobals mg) (c : He.SaysD fa fn K) : ∃ N ps qual params body scope f fd, DefOk T G W E f14 N ps scope body ∧ FunD K f14.name qual params body scope [] [] f fd ∧ mg f14.name = some (.ref f) ∧ (Binds K fd ps [] ∧ ∀ ks perm, (14, ks, perm) ∈ W → KwOk K fd ps ks perm) := by
  obtain ⟨fd, Fd⟩ := c.def_ 14 (d := d14) rfl
  refine ⟨n14, ps14, _, _, _, _, _, fd, ok14, Fd, He.glo_ok X Gn (c.fact 14 (f := .glo "_law_take") rfl), FunD.bindsN (ps := ps14) Fd fun _ _ _ _ _ _ us hl => match us, hl with | [_, _], _ => rfl, fun ks perm m => ?_⟩
  simp [W] at m
theorem t15 (X : K.In h) (Gn : h.Ns mainGlobals mg) (c : He.SaysD fa fn K) : ∃ N ps qual params body scope f fd, DefOk T G W E f15 N ps scope body ∧ FunD K f15.name qual params body scope [] [] f fd ∧ mg f15.name = some (.ref f) ∧ (Binds K fd ps [] ∧ ∀ ks perm, (15, ks, perm) ∈ W → KwOk K fd ps ks perm) := by
  obtain ⟨fd, Fd⟩ := c.def_ 15 (d := d15) rfl
  refine ⟨n15, ps15, _, _, _, _, _, fd, ok15, Fd, He.glo_ok X Gn (c.fact 15 (f := .glo "_law_cells") rfl), FunD.bindsN (ps := ps15) Fd fun _ _ _ _ _ _ us hl => match us, hl with | [_, _], _ => rfl, fun ks perm m => ?_⟩
  simp [W] at m
theorem t16 (X : K.In h) (Gn : h.Ns mainGlobals mg) (c : He.SaysD fa fn K) : ∃ N ps qual params body scope f fd, DefOk T G W E f16 N ps scope body ∧ FunD K f16.name qual params body scope [] [] f fd ∧ mg f16.name = some (.ref f) ∧ (Binds K fd ps [] ∧ ∀ ks perm, (16, ks, perm) ∈ W → KwOk K fd ps ks perm) := by
  obtain ⟨fd, Fd⟩ := c.def_ 16 (d := d16) rfl
  refine ⟨n16, ps16, _, _, _, _, _, fd, ok16, Fd, He.glo_ok X Gn (c.fact 16 (f := .glo "_law_of") rfl), FunD.bindsN (ps := ps16) Fd fun _ _ _ _ _ _ us hl => match us, hl with | [_, _], _ => rfl, fun ks perm m => ?_⟩
  simp [W] at m
theorem t17 (X : K.In h) (Gn : h.Ns mainGlobals mg) (c : He.SaysD fa fn K) : ∃ N ps qual params body scope f fd, DefOk T G W E f17 N ps scope body ∧ FunD K f17.name qual params body scope [] [] f fd ∧ mg f17.name = some (.ref f) ∧ (Binds K fd ps [] ∧ ∀ ks perm, (17, ks, perm) ∈ W → KwOk K fd ps ks perm) := by
  obtain ⟨fd, Fd⟩ := c.def_ 17 (d := d17) rfl
  refine ⟨n17, ps17, _, _, _, _, _, fd, ok17, Fd, He.glo_ok X Gn (c.fact 17 (f := .glo "_law_same") rfl), FunD.bindsN (ps := ps17) Fd fun _ _ _ _ _ _ us hl => match us, hl with | [_, _], _ => rfl, fun ks perm m => ?_⟩
  simp [W] at m
theorem t18 (X : K.In h) (Gn : h.Ns mainGlobals mg) (c : He.SaysD fa fn K) : ∃ N ps qual params body scope f fd, DefOk T G W E f18 N ps scope body ∧ FunD K f18.name qual params body scope [] [] f fd ∧ mg f18.name = some (.ref f) ∧ (Binds K fd ps [] ∧ ∀ ks perm, (18, ks, perm) ∈ W → KwOk K fd ps ks perm) := by
  obtain ⟨fd, Fd⟩ := c.def_ 18 (d := d18) rfl
  refine ⟨n18, ps18, _, _, _, _, _, fd, ok18, Fd, He.glo_ok X Gn (c.fact 18 (f := .glo "_law_lists") rfl), FunD.bindsN (ps := ps18) Fd fun _ _ _ _ _ _ us hl => match us, hl with | [_], _ => rfl, fun ks perm m => ?_⟩
  simp [W] at m
theorem t19 (X : K.In h) (Gn : h.Ns mainGlobals mg) (c : He.SaysD fa fn K) : ∃ N ps qual params body scope f fd, DefOk T G W E f19 N ps scope body ∧ FunD K f19.name qual params body scope [] [] f fd ∧ mg f19.name = some (.ref f) ∧ (Binds K fd ps [] ∧ ∀ ks perm, (19, ks, perm) ∈ W → KwOk K fd ps ks perm) := by
  obtain ⟨fd, Fd⟩ := c.def_ 19 (d := d19) rfl
  refine ⟨n19, ps19, _, _, _, _, _, fd, ok19, Fd, He.glo_ok X Gn (c.fact 19 (f := .glo "_law_mixed") rfl), FunD.bindsN (ps := ps19) Fd fun _ _ _ _ _ _ us hl => match us, hl with | [_, _], _ => rfl, fun ks perm m => ?_⟩
  simp [W] at m
theorem t20 (X : K.In h) (Gn : h.Ns mainGlobals mg) (c : He.SaysD fa fn K) : ∃ N ps qual params body scope f fd, DefOk T G W E f20 N ps scope body ∧ FunD K f20.name qual params body scope [] [] f fd ∧ mg f20.name = some (.ref f) ∧ (Binds K fd ps [] ∧ ∀ ks perm, (20, ks, perm) ∈ W → KwOk K fd ps ks perm) := by
  obtain ⟨fd, Fd⟩ := c.def_ 20 (d := d20) rfl
  refine ⟨n20, ps20, _, _, _, _, _, fd, ok20, Fd, He.glo_ok X Gn (c.fact 20 (f := .glo "_law_few") rfl), FunD.bindsN (ps := ps20) Fd fun _ _ _ _ _ _ us hl => match us, hl with | [_, _], _ => rfl, fun ks perm m => ?_⟩
  simp [W] at m
theorem t21 (X : K.In h) (Gn : h.Ns mainGlobals mg) (c : He.SaysD fa fn K) : ∃ N ps qual params body scope f fd, DefOk T G W E f21 N ps scope body ∧ FunD K f21.name qual params body scope [] [] f fd ∧ mg f21.name = some (.ref f) ∧ (Binds K fd ps [] ∧ ∀ ks perm, (21, ks, perm) ∈ W → KwOk K fd ps ks perm) := by
  obtain ⟨fd, Fd⟩ := c.def_ 21 (d := d21) rfl
  refine ⟨n21, ps21, _, _, _, _, _, fd, ok21, Fd, He.glo_ok X Gn (c.fact 21 (f := .glo "_law_schema") rfl), FunD.bindsN (ps := ps21) Fd fun _ _ _ _ _ _ us hl => match us, hl with | [_, _], _ => rfl, fun ks perm m => ?_⟩
  simp [W] at m
theorem t22 (X : K.In h) (Gn : h.Ns mainGlobals mg) (c : He.SaysD fa fn K) : ∃ N ps qual params body scope f fd, DefOk T G W E f22 N ps scope body ∧ FunD K f22.name qual params body scope [] [] f fd ∧ mg f22.name = some (.ref f) ∧ (Binds K fd ps [] ∧ ∀ ks perm, (22, ks, perm) ∈ W → KwOk K fd ps ks perm) := by
  obtain ⟨fd, Fd⟩ := c.def_ 22 (d := d22) rfl
  refine ⟨n22, ps22, _, _, _, _, _, fd, ok22, Fd, He.glo_ok X Gn (c.fact 22 (f := .glo "_law_tags") rfl), FunD.bindsN (ps := ps22) Fd fun _ _ _ _ _ _ us hl => match us, hl with | [_], _ => rfl, fun ks perm m => ?_⟩
  simp [W] at m
theorem t23 (X : K.In h) (Gn : h.Ns mainGlobals mg) (c : He.SaysD fa fn K) : ∃ N ps qual params body scope f fd, DefOk T G W E f23 N ps scope body ∧ FunD K f23.name qual params body scope [] [] f fd ∧ mg f23.name = some (.ref f) ∧ (Binds K fd ps [] ∧ ∀ ks perm, (23, ks, perm) ∈ W → KwOk K fd ps ks perm) := by
  obtain ⟨fd, Fd⟩ := c.def_ 23 (d := d23) rfl
  refine ⟨n23, ps23, _, _, _, _, _, fd, ok23, Fd, He.glo_ok X Gn (c.fact 23 (f := .glo "_law_home") rfl), FunD.bindsN (ps := ps23) Fd fun _ _ _ _ _ _ us hl => match us, hl with | [_, _], _ => rfl, fun ks perm m => ?_⟩
  simp [W] at m
theorem t24 (X : K.In h) (Gn : h.Ns mainGlobals mg) (c : He.SaysD fa fn K) : ∃ N ps qual params body scope f fd, DefOk T G W E f24 N ps scope body ∧ FunD K f24.name qual params body scope [] [] f fd ∧ mg f24.name = some (.ref f) ∧ (Binds K fd ps [] ∧ ∀ ks perm, (24, ks, perm) ∈ W → KwOk K fd ps ks perm) := by
  obtain ⟨fd, Fd⟩ := c.def_ 24 (d := d24) rfl
  refine ⟨n24, ps24, _, _, _, _, _, fd, ok24, Fd, He.glo_ok X Gn (c.fact 24 (f := .glo "_law_heard") rfl), FunD.bindsN (ps := ps24) Fd fun _ _ _ _ _ _ us hl => match us, hl with | [_, _, _, _], _ => rfl, fun ks perm m => ?_⟩
  simp [W] at m
theorem t25 (X : K.In h) (Gn : h.Ns mainGlobals mg) (c : He.SaysD fa fn K) : ∃ N ps qual params body scope f fd, DefOk T G W E f25 N ps scope body ∧ FunD K f25.name qual params body scope [] [] f fd ∧ mg f25.name = some (.ref f) ∧ (Binds K fd ps [] ∧ ∀ ks perm, (25, ks, perm) ∈ W → KwOk K fd ps ks perm) := by
  obtain ⟨fd, Fd⟩ := c.def_ 25 (d := d25) rfl
  refine ⟨n25, ps25, _, _, _, _, _, fd, ok25, Fd, He.glo_ok X Gn (c.fact 25 (f := .glo "_law_closed") rfl), FunD.bindsN (ps := ps25) Fd fun _ _ _ _ _ _ us hl => match us, hl with | [_, _], _ => rfl, fun ks perm m => ?_⟩
  simp [W] at m
theorem t26 (X : K.In h) (Gn : h.Ns mainGlobals mg) (c : He.SaysD fa fn K) : ∃ N ps qual params body scope f fd, DefOk T G W E f26 N ps scope body ∧ FunD K f26.name qual params body scope [] [] f fd ∧ mg f26.name = some (.ref f) ∧ (Binds K fd ps [] ∧ ∀ ks perm, (26, ks, perm) ∈ W → KwOk K fd ps ks perm) := by
  obtain ⟨fd, Fd⟩ := c.def_ 26 (d := d26) rfl
  refine ⟨n26, ps26, _, _, _, _, _, fd, ok26, Fd, He.glo_ok X Gn (c.fact 26 (f := .glo "_law_led") rfl), FunD.bindsN (ps := ps26) Fd fun _ _ _ _ _ _ us hl => match us, hl with | [_, _], _ => rfl, fun ks perm m => ?_⟩
  simp [W] at m
theorem t27 (X : K.In h) (Gn : h.Ns mainGlobals mg) (c : He.SaysD fa fn K) : ∃ N ps qual params body scope f fd, DefOk T G W E f27 N ps scope body ∧ FunD K f27.name qual params body scope [] [] f fd ∧ mg f27.name = some (.ref f) ∧ (Binds K fd ps [] ∧ ∀ ks perm, (27, ks, perm) ∈ W → KwOk K fd ps ks perm) := by
  obtain ⟨fd, Fd⟩ := c.def_ 27 (d := d27) rfl
  refine ⟨n27, ps27, _, _, _, _, _, fd, ok27, Fd, He.glo_ok X Gn (c.fact 27 (f := .glo "_law_by_hand_right") rfl), FunD.bindsN (ps := ps27) Fd fun _ _ _ _ _ _ us hl => match us, hl with | [], _ => rfl, fun ks perm m => ?_⟩
  simp [W] at m
theorem t28 (X : K.In h) (Gn : h.Ns mainGlobals mg) (c : He.SaysD fa fn K) : ∃ N ps qual params body scope f fd, DefOk T G W E f28 N ps scope body ∧ FunD K f28.name qual params body scope [] [] f fd ∧ mg f28.name = some (.ref f) ∧ (Binds K fd ps [] ∧ ∀ ks perm, (28, ks, perm) ∈ W → KwOk K fd ps ks perm) := by
  obtain ⟨fd, Fd⟩ := c.def_ 28 (d := d28) rfl
  refine ⟨n28, ps28, _, _, _, _, _, fd, ok28, Fd, He.glo_ok X Gn (c.fact 28 (f := .glo "_law_right") rfl), FunD.bindsN (ps := ps28) Fd fun _ _ _ _ _ _ us hl => match us, hl with | [_], _ => rfl, fun ks perm m => ?_⟩
  simp [W] at m
theorem t29 (X : K.In h) (Gn : h.Ns mainGlobals mg) (c : He.SaysD fa fn K) : ∃ N ps qual params body scope f fd, DefOk T G W E f29 N ps scope body ∧ FunD K f29.name qual params body scope [] [] f fd ∧ mg f29.name = some (.ref f) ∧ (Binds K fd ps [] ∧ ∀ ks perm, (29, ks, perm) ∈ W → KwOk K fd ps ks perm) := by
  obtain ⟨fd, Fd⟩ := c.def_ 29 (d := d29) rfl
  refine ⟨n29, ps29, _, _, _, _, _, fd, ok29, Fd, He.glo_ok X Gn (c.fact 29 (f := .glo "law") rfl), FunD.bindsN (ps := ps29) Fd fun _ _ _ _ _ _ us hl => match us, hl with | [_], _ => rfl, fun ks perm m => ?_⟩
  simp [W] at m
theorem tabled (X : K.In h) (Gn : h.Ns mainGlobals mg) (c : He.SaysD fa fn K) : Tabled K mg T G W E := fun i fn e => match i, e with
  | 0, e => by cases e; exact t0 X Gn c
  | 1, e => by cases e; exact t1 X Gn c
  | 2, e => by cases e; exact t2 X Gn c
  | 3, e => by cases e; exact t3 X Gn c
  | 4, e => by cases e; exact t4 X Gn c
  | 5, e => by cases e; exact t5 X Gn c
  | 6, e => by cases e; exact t6 X Gn c
  | 7, e => by cases e; exact t7 X Gn c
  | 8, e => by cases e; exact t8 X Gn c
  | 9, e => by cases e; exact t9 X Gn c
  | 10, e => by cases e; exact t10 X Gn c
  | 11, e => by cases e; exact t11 X Gn c
  | 12, e => by cases e; exact t12 X Gn c
  | 13, e => by cases e; exact t13 X Gn c
  | 14, e => by cases e; exact t14 X Gn c
  | 15, e => by cases e; exact t15 X Gn c
  | 16, e => by cases e; exact t16 X Gn c
  | 17, e => by cases e; exact t17 X Gn c
  | 18, e => by cases e; exact t18 X Gn c
  | 19, e => by cases e; exact t19 X Gn c
  | 20, e => by cases e; exact t20 X Gn c
  | 21, e => by cases e; exact t21 X Gn c
  | 22, e => by cases e; exact t22 X Gn c
  | 23, e => by cases e; exact t23 X Gn c
  | 24, e => by cases e; exact t24 X Gn c
  | 25, e => by cases e; exact t25 X Gn c
  | 26, e => by cases e; exact t26 X Gn c
  | 27, e => by cases e; exact t27 X Gn c
  | 28, e => by cases e; exact t28 X Gn c
  | 29, e => by cases e; exact t29 X Gn c
  | i + 30, e => by cases e
theorem gfacts (X : K.In h) (Gn : h.Ns mainGlobals mg) (c : He.SaysD fa fn K) : ∀ x d, (x, d) ∈ G → ∃ u v, mg x = some u ∧ RelV v u ∧ ∀ M H, Dat K M H v d := by
  intro x d m
  simp only [G, List.mem_cons, List.not_mem_nil, or_false, Prod.mk.injEq] at m
theorem frees (X : K.In h) (Gn : h.Ns mainGlobals mg) (c : He.SaysD fa fn K) : ∀ x, x ∈ biNames → mg x = none := by
  intro x m
  simp only [biNames, List.mem_cons, List.not_mem_nil, or_false] at m
  rcases m with rfl | rfl | rfl | rfl | rfl | rfl | rfl | rfl | rfl | rfl | rfl | rfl | rfl | rfl | rfl | rfl | rfl | rfl | rfl
  · exact He.free_ok X Gn (c.fact 30 (f := .free "len") rfl)
  · exact He.free_ok X Gn (c.fact 31 (f := .free "abs") rfl)
  · exact He.free_ok X Gn (c.fact 32 (f := .free "int") rfl)
  · exact He.free_ok X Gn (c.fact 33 (f := .free "list") rfl)
  · exact He.free_ok X Gn (c.fact 34 (f := .free "tuple") rfl)
  · exact He.free_ok X Gn (c.fact 35 (f := .free "sorted") rfl)
  · exact He.free_ok X Gn (c.fact 36 (f := .free "set") rfl)
  · exact He.free_ok X Gn (c.fact 37 (f := .free "all") rfl)
  · exact He.free_ok X Gn (c.fact 38 (f := .free "any") rfl)
  · exact He.free_ok X Gn (c.fact 39 (f := .free "sum") rfl)
  · exact He.free_ok X Gn (c.fact 40 (f := .free "bool") rfl)
  · exact He.free_ok X Gn (c.fact 41 (f := .free "str") rfl)
  · exact He.free_ok X Gn (c.fact 42 (f := .free "isinstance") rfl)
  · exact He.free_ok X Gn (c.fact 43 (f := .free "range") rfl)
  · exact He.free_ok X Gn (c.fact 44 (f := .free "enumerate") rfl)
  · exact He.free_ok X Gn (c.fact 45 (f := .free "zip") rfl)
  · exact He.free_ok X Gn (c.fact 46 (f := .free "LookupError") rfl)
  · exact He.free_ok X Gn (c.fact 47 (f := .free "ValueError") rfl)
  · exact He.free_ok X Gn (c.fact 48 (f := .free "super") rfl)
theorem facts {w : World} {f : Addr} (X : K.In h) (Gn : h.Ns mainGlobals mg) (hfa : mg ("law" : Str) = some (.ref f)) (c : He.SaysD fa fn K) (cx : xtB PR K E = true) :
    ∃ fd : FuncData, (∀ (s : Shared) (v : Value), BindsTo s fd ⟨[v], []⟩ [("_law_script", v)]) ∧ ∀ base : Heap, K.In base → base.Ns mainGlobals mg → FnOk PR w K mg base (L2.CX PR w) 60 f fd ["_law_script"] (spOf (xR E K mg) K f29 (callN F 60 29)) := by
  obtain ⟨fd, Fd⟩ := c.def_ 29 (d := d29) rfl
  have e := hfa.symm.trans (He.glo_ok X Gn (c.fact 29 (f := .glo "law") rfl))
  cases e
  have b := FunD.bindsA (ps := ["_law_script"]) Fd fun _ _ _ _ _ _ us hl => match us, hl with | [_], _ => rfl
  refine ⟨fd, fun s v => b s [v] rfl, fun base hb hg => ?_⟩
  have tab := xtB_ok X Gn cx
  have st := fn_step (P := PR) (w := w) (base := base) (k := 59) (R := xR E K mg) ok29 Fd (frees X Gn c) (gfacts X Gn c) (calls_all (tabled X Gn c) tab rfl (frees X Gn c) (gfacts X Gn c) 59) tab rfl
  exact st
end
theorem spC {R : XR} {K : PySem.W.Frag} {call : List D → FRes} {H : Hp} {a : Addr} {ns : List Int} (hK : noL K = true) (hS : SqL K H a (ns.map V.int))
    (h : Yes (call [.list (ns.map .int)])) : spOf R K f29 call [.ref a] H (fun v _ => v = .bl true) fun _ _ _ => False := by
  cases h with
  | mk h => exact sp_law rfl rfl hK hS h
theorem spL {R : XR} {K : PySem.W.Frag} {H : Hp} {a : Addr} {ns : List Int} (hK : noL K = true) (hS : SqL K H a (ns.map V.int))
    (h : Yes (callN F 60 29 [.list (ns.map .int)])) : spOf R K f29 (callN F 60 29) [.ref a] H (fun v _ => v = .bl true) fun _ _ _ => False := by
  generalize callN F 60 29 = call at h ⊢
  exact spC hK hS h
end K04
open PySem PySem.W PySem.Calls PyProof.Rows
theorem k04_holds_of (hmath : ∀ ns : List Int, ns.length ≤ 63 → EV.Yes (EV.callN K04.F 60 29 [.list (ns.map .int)])) : PySem.Challenge.rw_rowsathome_k04_columns_closed_and_sheets.Holds := by
  w_on; o_law
  refine HandSHeadRun.head_any (r := OpenLaw.row PySem.Challenge.rw_rowsathome_k04_columns_closed_and_sheets) (q := view (OpenLaw.row PySem.Challenge.rw_rowsathome_k04_columns_closed_and_sheets).prog [36]) (H := K04.hk) (ob := K04.ob) (M := 4000) (loose := K04.loose) (d := HandSHeadRun.topDef (OpenLaw.row PySem.Challenge.rw_rowsathome_k04_columns_closed_and_sheets).prog 36) (kwd := []) EV.obL_eq
    (by kernel_rfl) (fun s => by kernel_rfl) K04.run (by kernel_rfl) (by kernel_rfl) (by kernel_rfl) (by rfl) (by first | assumption | decide +kernel) (by decide +kernel) ⟨rfl, rfl, rfl, rfl, rfl, by decide +kernel⟩ ?hw ?hc
  case hw => w_witness2
  case hc =>
    refine EV.walk_law (l := PySem.Challenge.rw_rowsathome_k04_columns_closed_and_sheets) (n := 63) (k := 60) (x := "_law_script") rfl (by decide) (by kernel_rfl) ⟨rfl, by decide, by decide⟩ ?F
    intro w mg fa h Y G hmg0
    obtain ⟨K, KX, c, hn, hx⟩ := Y
    have hmg : mg ("law" : PySem.Str) = some (.ref fa) := by
      have e : (HandSHeadRun.topDef (OpenLaw.row PySem.Challenge.rw_rowsathome_k04_columns_closed_and_sheets).prog 36).name = ("law" : PySem.Str) := by kernel_rfl
      rw [← e]
      exact hmg0
    obtain ⟨fd, hb, hF⟩ := K04.facts (w := w) KX G hmg c hx
    exact ⟨K, fd, EV.spOf (EV.xR K04.E K mg) K K04.f29 (EV.callN K04.F 60 29), KX, hb, fun H a ns hl hS => K04.spL hn hS (hmath ns hl), hF⟩

end
theorem PySem.Challenge.cw_rowsathome_k04_columns_closed_and_sheets_holds : PySem.Challenge.rw_rowsathome_k04_columns_closed_and_sheets.Holds :=
  k04_holds_of K04.law_yes
