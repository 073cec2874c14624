import PyProof.Rows.All
import Wide.All
import OpenK.AllK
import Wide.FinOn
import PySem.Challenge.RW_rowsathome_k21_plans_or_none
import KE.SortData
import HandS.Walk
import HandS.Zip
import KE.GoesEnum
import KE.GoesMore
import HandS.Style
import HandS.TupAny
import HandS.TupSets
import HandS.SetFor
import PyProof.SumAny
import PyProof.ListOps
import KE.LtData
import HandS.ForMost
import HandS.ForExc
import HandS.Flow
import HandS.Wide
import HandS.CallSlots
import HandS.TryMany
import HandS.IsInst
import HandS.Deep
import KE.KDictKeyed
import PyProof.Rows.IntBool
import PyProof.Rows.SortShell
import HandS.Defaults
import HandS.WordsExc
import HandS.Head0
import HandS.Head1
import HandS.Head2
import HandS.HeadEnd
import HandS.HeadHook1
import HandS.HeadHook2
set_option linter.all false
set_option Elab.async false
section
set_option linter.all false
set_option maxRecDepth 100000
set_option Elab.async false
/-! EV: sorting tuples of which some are empty -/
namespace EVS
open PySem PySem.W PySem.Calls PyProof.Rows PySem.SeqAt
section
variable {prog : Program} {w : World} {A : Around} {E : Value → Shared → Prop} {s : Shared}
/-- tuples by their class's own __lt__ -/
theorem oneLt_tups {xs ys : List PyData} {a b : Value} {as bs : List Addr} {Q : Bool → Shared → Prop} (ra : Reads s.heap a (.tuple xs) as) (rb : Reads s.heap b (.tuple ys) bs) (hal : alikeAll xs ys = true)
    (hu : A.units + min (PyData.tuple xs).depth (PyData.tuple ys).depth < cLine) (hq : Q (dataLt (.tuple xs) (.tuple ys)) s) : wpAny (model prog w) A (oneLt' true a b) Q E s := by
  cases ra with
  | @tuple l o vs n _ as₁ h1 h2 h3 h4 =>
    cases rb with
    | @tuple l' o' vs' n' _ bs₁ k1 k2 k3 k4 =>
      have n1 : vs.size = xs.length := by simpa using ReadsAll.length _ _ _ h4
      have n2 : vs'.size = ys.length := by simpa using ReadsAll.length _ _ _ k4
      have eqs := eqAt_alikeAll xs ys A.in1 s vs.toList vs'.toList _ _ h4 k4 hal (room_in hu)
      have lts := rcLt_alikeAll xs ys A.in1 s vs.toList vs'.toList _ _ h4 k4 hal (room_in hu)
      rw [dataLt_tuple, ← firstLt_toks xs ys hal, ← n1, ← n2] at hq
      rw [oneLt'_eq, if_pos rfl]
      refine wpAny_bind (wpAny_cRoomFor (room_here hu) ?_)
      obtain ⟨c1, d1, e1, s1⟩ := o
      obtain ⟨c2, d2, e2, s2⟩ := o'
      cases h2; cases h3; cases k2; cases k3
      refine wpAny_bind (wpAny_callSpecialIfBound?_slot (T := "tuple") ⟨_, h1, rfl⟩ F.slot_tuple_lt (call_meets F.slot_tuple_lt ⟨_, h1, rfl⟩ F.entry_tuple_lt (F.args_tuple_lt_2 _ _)
        (tuple_ltAt l l' vs vs' n n' d1 d2 s1 s2 (pairEq xs ys) fun j => dataLt (xs.getD j .none) (ys.getD j .none)) ⟨h1, k1, fun j j1 j2 => ?_, fun j j1 j2 hj => ?_, ?_⟩))
      · exact eqs j (by simpa using j1) (by simpa using j2)
      · exact lts j (by simpa using j1) (by simpa using j2) hj
      · exact wpAny_truthy_bool hq
theorem lt_general {xs ys : List PyData} {a b : Value} {as bs : List Addr} {Q : Bool → Shared → Prop} (ra : Reads s.heap a (.tuple xs) as) (rb : Reads s.heap b (.tuple ys) bs) (hal : alikeAll xs ys = true)
    (hu : A.units + min (PyData.tuple xs).depth (PyData.tuple ys).depth < cLine) (hq : Q (dataLt (.tuple xs) (.tuple ys)) s) : wpAny (model prog w) A (keyLt' general' a b) Q E s :=
  oneLt_alike (f := false) (fun z => nomatch z) ra rb (by simpa [alike] using hal) (fun z => nomatch z) hu hq
def full : PyData → Bool
  | .tuple [] => false
  | _ => true
/-- the first items of tuples -/
theorem firstsE {M : Model} : ∀ {vs : List Value} {ds : List PyData} {Q : List (Option Value) → Shared → Prop}, EachIs (fun v d => ∃ as, Reads s.heap v d as) vs ds → (∀ d ∈ ds, ∃ xs, d = .tuple xs) →
    (∀ fs : List (Option Value), fs.map Option.isSome = ds.map full → Q fs s) → wpAny M A (vs.mapM firstOfTuple') Q E s
  | _, _, _, .nil, _, h => by rw [List.mapM_nil]; exact wpAny_pure (h [] rfl)
  | _, _, Q, .cons (a := v) (b := d) (as := vs) (bs := ds) ⟨as, r⟩ t, ht, h => by
    obtain ⟨xs, rfl⟩ := ht d (List.mem_cons_self ..)
    cases r with
    | @tuple a o ws n _ _ ho hc hd hr =>
      rw [List.mapM_cons]
      refine wpAny_bind ?_
      rw [kas_first_eq]
      refine wpAny_bind (Looks.here (show Looks M s.heap (typeOf (.ref a)) o.cls from (Looks.ld ho).andThen .now) ?_)
      rw [hc, if_neg (by first | decide | simp)]
      refine wpAny_bind (listItems_at ho hd (wpAny_pure (wpAny_bind ?_)))
      refine firstsE (Q := fun bs s' => wpAny M A (pure (ws[0]? :: bs)) Q E s') t (fun d hd => ht d (List.mem_cons_of_mem _ hd)) fun fs hfs => wpAny_pure (h (ws[0]? :: fs) ?_)
      have n1 : ws.size = xs.length := by simpa using ReadsAll.length _ _ _ hr
      rw [List.map_cons, List.map_cons, hfs]
      congr 1
      cases xs with
      | nil =>
        have e : ws[0]? = none := by simp at n1; simp [n1]
        rw [e]; rfl
      | cons x r =>
        have l : 0 < ws.size := by simp at n1; omega
        rw [Array.getElem?_eq_getElem l]; rfl
def kindE : List PyData → SortKind
  | d :: _ => if full d then general' else oneType'
  | [] => general'
theorem kind_of {M : Model} {vs : List Value} {ds : List PyData} {Q : SortKind → Shared → Prop} (e : EachIs (fun v d => ∃ as, Reads s.heap v d as) vs ds) (ht : ∀ d ∈ ds, ∃ xs, d = .tuple xs) (hm : PyData.tuple [] ∈ ds) (h : Q (kindE ds) s) : wpAny M A (keyKind' vs.toArray) Q E s := by
  rw [keyKind'_eq, List.mapM_toArray, map_eq_pure_bind]
  refine wpAny_bind (wpAny_bind (firstsE e ht fun fs hfs => wpAny_pure ?_))
  have hno : ¬ (fs.toArray.all (fun x => x.isSome)) = true := by
    rw [List.all_toArray, List.all_eq_true]
    intro hall
    have hm' : (false : Bool) ∈ ds.map full := List.mem_map.mpr ⟨_, hm, rfl⟩
    rw [← hfs] at hm'
    obtain ⟨f, hf, q⟩ := List.mem_map.mp hm'
    have := hall f hf
    rw [this] at q; cases q
  rw [if_neg hno]
  cases ds with
  | nil => cases hm
  | cons d0 dr =>
    cases fs with
    | nil => cases hfs
    | cons f0 fr =>
      have h0 : f0.isSome = full d0 := (List.cons.inj hfs).1
      have e0 : ((f0 :: fr).toArray[0]?.bind id) = f0 := by simp
      rw [e0, h0]
      cases hf : full d0 with
      | true =>
        rw [if_pos rfl]
        have : kindE (d0 :: dr) = general' := if_pos hf
        rw [this] at h
        exact wpAny_pure h
      | false =>
        rw [if_neg Bool.false_ne_true]
        have : kindE (d0 :: dr) = oneType' := if_neg (by rw [hf]; decide)
        rw [this] at h
        rw [oneTypeOnly'_eq, List.mapM_toArray, map_eq_pure_bind]
        refine wpAny_bind (wpAny_bind (wpAny_bind (kas_mapM (r := Value.type "tuple") _ (fun v hv Q' hq => ?_) (wpAny_pure ?_))))
        · obtain ⟨d, hd, as, r⟩ := e.left v hv
          obtain ⟨xs, rfl⟩ := ht d hd
          exact (looks_reads r).here hq
        · cases vs with
          | nil => cases e
          | cons v vr =>
            have q0 : (List.map (fun _ => Value.type "tuple") (v :: vr)).toArray[0]? = some (Value.type "tuple") := by simp
            have qa : ((List.map (fun _ => Value.type "tuple") (v :: vr)).toArray.all fun x => x == Value.type "tuple") = true := by
              simp only [List.all_toArray, List.all_map, List.all_eq_true]
              intro _ _
              rfl
            rw [q0]
            simp only [qa, if_true]
            exact wpAny_pure (wpAny_pure h)
theorem sortsE {vs : List Value} {ds : List PyData} (e : EachIs (fun v d => ∃ as, Reads s.heap v d as) vs ds) (hal : AllAlike ds) (ht : ∀ d ∈ ds, ∃ xs, d = .tuple xs) (hm : PyData.tuple [] ∈ ds) (hu : ∀ d, d ∈ ds → A.units + d.depth < cLine) : SortsAt prog w A s (dataKind s.heap ds) vs := by
  have room : ∀ {d d' : PyData}, d ∈ ds → A.units + min d.depth d'.depth < cLine := fun {d d'} hd => Nat.lt_of_le_of_lt (Nat.add_le_add_left (Nat.min_le_left _ _) _) (hu d hd)
  refine ⟨fun v hv => ?_, kindE ds, ?_, fun h2 E Q hq => kind_of e ht hm hq⟩
  · obtain ⟨d, hd, as, r⟩ := e.left v hv
    exact ⟨_, dataKind_some hal hd r⟩
  · intro E x y a b Q ha hb hq
    obtain ⟨d, as, hd, ra, rfl⟩ := dataKind_inv ha
    obtain ⟨d', as', hd', rb, rfl⟩ := dataKind_inv hb
    have hdd := hal d hd d' hd'
    have hroom := room (d' := d') hd
    obtain ⟨xs, rfl⟩ := ht d hd
    obtain ⟨ys, rfl⟩ := ht d' hd'
    have hall : alikeAll xs ys = true := by simpa [alike] using hdd
    have hq' : Q (dataLt (.tuple xs) (.tuple ys)) s := hq
    have main : ∀ κ, κ = general' ∨ κ = oneType' → wpAny (model prog w) A (keyLt' κ x y) Q E s := by
      rintro κ (rfl | rfl)
      · exact lt_general ra rb hall hroom hq'
      · rw [keyLt'_oneType]
        exact oneLt_tups ra rb hall hroom hq'
    refine main _ ?_
    cases ds with
    | nil => cases hm
    | cons d0 dr =>
      by_cases hf : full d0 = true
      · exact .inl (if_pos hf)
      · exact .inr (if_neg hf)
/-- all can be sorted: alike, none of them None -/
theorem sorts_any {vs : List Value} {ds : List PyData} (e : EachIs (fun v d => ∃ as, Reads s.heap v d as) vs ds) (hal : AllAlike ds) (hn : ∀ d ∈ ds, d ≠ .none) (hu : ∀ d, d ∈ ds → A.units + d.depth < cLine) : SortsAt prog w A s (dataKind s.heap ds) vs := by
  by_cases ht : ∃ d ∈ ds, ∃ xs, d = .tuple xs
  · obtain ⟨d0, hd0, xs0, rfl⟩ := ht
    have all : ∀ d ∈ ds, ∃ xs, d = .tuple xs := fun d hd => by
      have q := hal d hd _ hd0
      cases d with
      | tuple xs => exact ⟨xs, rfl⟩
      | _ => exact absurd q (by simp [alike])
    by_cases hm : PyData.tuple [] ∈ ds
    · exact sortsE e hal all hm hu
    · refine SortsAt.data e hal (.inl fun d hd => ?_) hu
      obtain ⟨xs, rfl⟩ := all d hd
      cases xs with
      | nil => exact absurd hd hm
      | cons x r => exact ⟨x, r, rfl⟩
  · exact SortsAt.data e hal (.inr fun d hd => ⟨hn d hd, fun xs z => ht ⟨d, hd, xs, z⟩⟩) hu
variable {β : Type} {vs : List Value} {bs : List PyData} {R : Value → PyData → Prop}
theorem sorted_any {l : Addr} {Q : Value → Shared → Prop} (hl : s.heap.IsList l vs.toArray) (e : EachIs R vs bs) (er : EachIs (fun v b => ∃ as, Reads s.heap v b as) vs bs) (hal : AllAlike bs) (hn : ∀ d ∈ bs, d ≠ .none) (hL : bs.length ≤ sizeLine)
    (hu : ∀ b, b ∈ bs → A.units + 2 + b.depth < cLine) (h : ∀ out, out.length = bs.length → EachIs R out (bs.mergeSort (dataLe false fun d => d)) → Q (.ref (s.heap.objs.size + 1)) { s with heap := sortedAll s.heap vs (List.toArray out) }) :
    wpAny (model prog w) A (call (.builtin "sorted") [.ref l]) Q E s := by
  have er' : EachIs (fun v b => ∃ as, Reads (sortingHeap (copyHeap s.heap vs) (s.heap.objs.size + 1) vs) v b as) vs bs := er.mono fun _ _ ⟨as, r⟩ => ⟨as, PyProof.Rows.Reads.keeps (fun _ _ => sorting_copy_old) r⟩
  have hm : bs.map (fun d => d) = bs := by simp
  have key := sortVals_data (h' := sortingHeap (copyHeap s.heap vs) (s.heap.objs.size + 1) vs) (R := R) (enc := fun d => d) (vs := vs) (bs := bs) false e er' (by rw [hm]; exact hal)
  rw [hm] at key
  exact sorted_vals hl (sorts_any (s := { s with heap := sortingHeap (copyHeap s.heap vs) (s.heap.objs.size + 1) vs }) er' hal hn hu) (by rw [e.length]; exact hL) (h _ (by rw [sortVals_length false rfl]; exact e.length) key)
end
end EVS

end
section
set_option linter.all false
set_option maxRecDepth 100000
set_option Elab.async false
/-! EV: enumerate of a tuple -/
namespace EVI
open PySem PySem.Spec PyProof.Rows L2
open AutoSeq1 (wpAny_loadPart')
set_option maxHeartbeats 1000000 in
theorem meets_enumT (l : Addr) (items : Array Value) :
    Meets (Builtin.«enumerate.__new__» ⟨[.type "enumerate", .ref l], []⟩) (fun _ R s => s.heap.IsTuple l items ∧
      R (.ok (.ret (.ref (s.heap.push { cls := .type "tuple_iterator", data := .fields #[.ref l, .int 0 0] }).objs.size)))
        { s with heap := (s.heap.push { cls := .type "tuple_iterator", data := .fields #[.ref l, .int 0 0] }).push { cls := .type "enumerate", data := .fields #[.none, .bool false, .ref s.heap.objs.size, rawInt 0, .none, .none] } }) :=
  .of_wp fun prog w A R s h => by
    obtain ⟨hp, g, d, tk, os⟩ := s
    obtain ⟨hL, h⟩ := h
    have hsub := sub_enumerate
    have hL' : Heap.IsTuple (Shared.heap ⟨hp, g, d, tk, os⟩) l items := hL
    obtain ⟨o, hl, _⟩ := id hL
    wp_walk using wpAny_loadPart' hl
    refine wpAny_stack_any fun st => wpAny_pure ?_
    split
    · rename_i c _ _ _ _ _
      cases (c == Value.type "enumerate")
      · wp_walk using wpAny_loadPart' hl, wpAny_pyIter_tuple hL'
        exact ⟨_, rfl, h⟩
      · wp_walk using wpAny_loadPart' hl, wpAny_pyIter_tuple hL'
        exact ⟨_, rfl, h⟩
    · wp_walk using wpAny_loadPart' hl, wpAny_pyIter_tuple hL'
      exact ⟨_, rfl, h⟩
theorem call_enumT {prog : Program} {w : World} {A : Around} {E : Value → Shared → Prop} {s : Shared} {l : Addr} {items : Array Value} {Q : Value → Shared → Prop} (hL : s.heap.IsTuple l items)
    (h : ∀ h', IsEnum h' (s.heap.objs.size + 1) s.heap.objs.size 0 .none → h'.IsTupleIter s.heap.objs.size l 0 → h'.objs.size = s.heap.objs.size + 2 →
      (∀ b o, s.heap.get? b = some o → h'.get? b = some o) → Q (.ref (s.heap.objs.size + 1)) { s with heap := h' }) :
    wpAny (model prog w) A (call (.type "enumerate") [.ref l]) Q E s := by
  refine callType_new F.called_enumerate (by decide) (F.typeCall_enumerate_1 _) (F.newCall_enumerate_1 _) (fun obj => F.args_object_init_2 obj _) F.entry_enumerate_new (meets_enumT l items) ⟨hL, ?_⟩
  have hz : (s.heap.push { cls := .type "tuple_iterator", data := .fields #[.ref l, .int 0 0] }).objs.size = s.heap.objs.size + 1 := Heap.size_push ..
  show _ ∧ _
  rw [hz]
  have he : IsEnum ((s.heap.push { cls := .type "tuple_iterator", data := .fields #[.ref l, .int 0 0] }).push
      { cls := .type "enumerate", data := .fields #[.none, .bool false, .ref s.heap.objs.size, rawInt 0, .none, .none] }) (s.heap.objs.size + 1) s.heap.objs.size 0 .none := by
    have q := Heap.get?_push_size (s.heap.push { cls := .type "tuple_iterator", data := .fields #[.ref l, .int 0 0] })
      (o := { cls := .type "enumerate", data := .fields #[.none, .bool false, .ref s.heap.objs.size, rawInt 0, .none, .none] }) rfl
    rw [hz] at q
    exact q
  refine ⟨⟨_, he, rfl⟩, h _ he ⟨_, Heap.get?_push_of_some _ (Heap.get?_push_size _ rfl), rfl, rfl⟩ (by rw [Heap.size_push, hz]) fun b o x => Heap.get?_push_of_some _ (Heap.get?_push_of_some _ x)⟩
/-- the tuple at a, each item in a new pair -/
def IteT (K : PySem.W.Frag) (a : Addr) : It where
  go := fun i H => ∃ (xs : List V) (x : V), SqT K H a xs ∧ xs[i]? = some x
  yld := fun i H v H' => ∃ T x, v = .ref T ∧ H T = none ∧ H' = upd H T (.tup [.int (i : Nat), x]) ∧ ∀ xs, SqT K H a xs → xs[i]? = some x
  stop := fun i H => ∃ xs : List V, SqT K H a xs ∧ xs.length = i
theorem apart {h : Heap} {a it : Addr} {i : Nat} {items : Array Value} (h1 : h.IsTupleIter it a i) (h2 : h.IsTuple a items) : a ≠ it := by
  rintro rfl
  obtain ⟨o, e, c, _⟩ := h1
  obtain ⟨o', e', c', _⟩ := h2
  rw [e] at e'
  cases e'
  rw [c] at c'
  exact absurd c' (by decide)
theorem apartE {h : Heap} {a e it : Addr} {c : Int} {old : Value} {items : Array Value} (h1 : IsEnum h e it c old) (h2 : h.IsTuple a items) : e ≠ a := by
  rintro rfl
  obtain ⟨o', e', c', _⟩ := h2
  have h1' : h.get? e = some _ := h1
  rw [h1'] at e'
  cases e'
  have c'' : Value.type "enumerate" = Value.type "tuple" := c'
  exact absurd c'' (by decide)
theorem turn_enumT {P : Program} {w : World} {K : PySem.W.Frag} {elts : List Expr} {kk : Nat} {tpos : Pos} (a e it : Addr) :
    Turn P w K (.Tuple elts kk tpos) (IteT K a) [e, it] e (fun i h => (∃ old, IsEnum h e it ((i : Nat) : Int) old) ∧ h.IsTupleIter it a i ∧ e ≠ it) where
  mem := by simp
  obj := fun i h st b hb => by
    obtain ⟨⟨old, he⟩, ⟨o, ho, hc, hd⟩, _⟩ := st
    rcases List.mem_cons.mp hb with z | z
    · rw [z]; exact ⟨_, he, fun v q => nomatch q⟩
    · rw [List.mem_singleton.mp z]; exact ⟨o, ho, fun v q => by rw [hd] at q; cases q⟩
  keep := fun i h h' st k => let ⟨⟨old, he⟩, hi, hne⟩ := st; ⟨⟨old, k e (by simp) _ he⟩, hi.at fun o q => k it (by simp) o q, hne⟩
  item := by
    intro X hP hw hK hc i pins s σ H E I hf st hg
    subst hP hw hK
    obtain ⟨⟨old, he⟩, hit, hne⟩ := st
    obtain ⟨xs, x, hq, hx⟩ := hg
    obtain ⟨its, rv, p, hz⟩ := I.tuple hq
    have p' : s.heap.IsTuple a its.toArray := p
    have nea := apart hit p'
    have neE := apartE he p'
    obtain ⟨u, hu, ru⟩ := rv.get hx
    have hel : e < s.heap.objs.size := Heap.lt_size he
    have hil : it < s.heap.objs.size := by obtain ⟨_, q, _⟩ := hit; exact Heap.lt_size q
    have hi : i < its.toArray.size := by
      have := (List.getElem?_eq_some_iff.mp hu).1
      simpa using this
    refine PySem.wpAny_pyNext_enum_itemC (PySem.Draws.tuple (A := X.A.in1) (I.ok.hd hc) it a nea its.toArray) he ⟨hit, p'⟩ hi hne (by simp [hne, neE]) fun u' h' tk hu' ho hst hT hsz hk => ?_
    have e0 : u' = u := by
      have q : its.toArray[i]? = some u := by simpa using hu
      rw [q] at hu'
      exact (Option.some.inj hu').symm
    subst e0
    refine ⟨_, rfl, wpAny_letOwnedTupleGo_enum (s := { s with heap := h', toks := tk + 1 }) ho fun h'' he' sb => ?_⟩
    have hT2 : h''.get? s.heap.objs.size = some { cls := .type "tuple", data := .seq #[.int i tk, u'] } := (sb.2 _ (Nat.ne_of_gt hel)).trans hT
    have new : ObjOk X.prog X.w (upd H s.heap.objs.size (.tup [.int (i : Nat), x])) h'' s.heap.objs.size (.tup [.int (i : Nat), x]) :=
      ⟨by show 2 ≤ sizeLine; decide, [.int i tk, u'], .cons ⟨_, rfl⟩ (.cons ru .nil), ⟨_, hT2, rfl, _, rfl⟩⟩
    have far : ∀ {b : Addr}, b ∉ [e, it] → b ≠ e ∧ b ≠ it := fun {b} hb => by simpa using hb
    have I1 : Inv X pins σ (upd H s.heap.objs.size (.tup [.int (i : Nat), x])) { s with heap := h'', toks := tk + 1 } :=
      I.turnedNew (ch := [e, it]) (fun b ob hb q => (sb.2 b (far hb).1).trans (hk b ob (far hb).1 (far hb).2 q)) hf (Nat.le_refl _) new
    refine ⟨.ref s.heap.objs.size, _, I1, rfl, ⟨_, x, rfl, I.hok.fresh (Nat.le_refl _), rfl, fun ys hy => by rw [I.tuple_inj hy hq]; exact hx⟩, ⟨⟨u', ?_⟩, hst.1.at fun o q => (sb.2 it (Ne.symm hne)).trans q, hne⟩, fun b hb => ?_⟩
    · have e1 : ((i + 1 : Nat) : Int) = (i : Int) + 1 := by omega
      rw [e1]; exact he'
    · have hb' : b < s.heap.objs.size := by
        rcases List.mem_cons.mp hb with z | z
        · rw [z]; exact hel
        · rw [List.mem_singleton.mp z]; exact hil
      rw [upd_ne (Nat.ne_of_lt hb')]
      exact (hf b hb).1
  done := by
    intro X hP hw hK hc i pins s σ H E I hf st hg
    subst hP hw hK
    obtain ⟨⟨old, he⟩, hit, hne⟩ := st
    obtain ⟨xs, hq, hx⟩ := hg
    obtain ⟨its, rv, p, hz⟩ := I.tuple hq
    have p' : s.heap.IsTuple a its.toArray := p
    have nea := apart hit p'
    obtain ⟨f0, f1, f2, f3, f4, f5⟩ := hf it (by simp)
    have hl := rv.length
    have hi : its.toArray.size = i := by simp; omega
    exact wpAny_pyNext_enum_endD (PySem.Draws.tuple (A := X.A.in1) (I.ok.hd hc) it a nea its.toArray) he ⟨by rw [hi]; exact hit, p'⟩ fun h' eb => ⟨rfl, I.turned (t' := s.toks) (fun b o hb q => eb b o hb q) f0 f1 f3 f4 f5⟩
  self := fun A i s Q E st h => let ⟨⟨_, he⟩, _⟩ := st; wpAny_pyIter_enum he h
/-- enumerate of a list, of a tuple -/
def iEnumA (K : PySem.W.Frag) (ta : TA) : TI := fun σ H R => ta σ H fun vs H1 => ∃ a xs, vs = [.ref a] ∧ ((SqL K H1 a xs ∧ R (Ite K a) H1) ∨ (SqT K H1 a xs ∧ R (IteT K a) H1))
theorem pi_enumA {X : Cx} {e : Expr} {ta : TA} {p pos tpos : Pos} {elts : List Expr} {kk : Nat} (hg : Gl X "enumerate") (hm : X.mg "enumerate" = none) (ha : PA X [e] ta) (hs : starEach [e] X.env = [(false, eval e X.env)]) :
    PI X (.Tuple elts kk tpos) (.Call (.Name "enumerate" p) [e] [] pos) (iEnumA X.K ta) := by
  refine ⟨fun pins s σ H R I h => ?_⟩
  refine Call_ (ld_blt I hg hm boot_enumerate (PyProof.Rows.callWith_type1 (thn (ha.run pos pins s σ H _ I h) fun us s1 ⟨vs, H1, I1, r1, q1⟩ => ?_) hs rfl))
  obtain ⟨a, xs, ex, q⟩ := q1
  subst ex
  cases r1 with
  | cons r rr =>
    cases rr
    cases r
    have fresh : ∀ b ∈ [s1.heap.objs.size + 1, s1.heap.objs.size], FpOk X pins H1 b := fun b hb => by
      have hle : s1.heap.objs.size ≤ b := by
        rcases List.mem_cons.mp hb with z | z
        · rw [z]; exact Nat.le_add_right _ _
        · rw [List.mem_singleton.mp z]; exact Nat.le_refl _
      exact I1.fpOk hle (I1.hok.fresh hle)
    rcases q with ⟨hq, q⟩ | ⟨hq, q⟩
    · obtain ⟨its, rv, p', hz⟩ := I1.list hq
      refine call_enumerate_list p'.isList fun h' he hit hsz hk => wpAny_pyIter_enum he ?_
      have I2 : Inv X pins σ H1 { s1 with heap := h' } := I1.kept (t' := s1.toks) hk
      exact ⟨s1.heap.objs.size + 1, [s1.heap.objs.size + 1, s1.heap.objs.size], _, _, H1, rfl, I2, turn_enum a (s1.heap.objs.size + 1) s1.heap.objs.size, ⟨⟨.none, he⟩, hit, Nat.succ_ne_self _⟩, fresh, q⟩
    · obtain ⟨its, rv, p', hz⟩ := I1.tuple hq
      refine call_enumT p' fun h' he hit hsz hk => wpAny_pyIter_enum he ?_
      have I2 : Inv X pins σ H1 { s1 with heap := h' } := I1.kept (t' := s1.toks) hk
      exact ⟨s1.heap.objs.size + 1, [s1.heap.objs.size + 1, s1.heap.objs.size], _, _, H1, rfl, I2, turn_enumT a (s1.heap.objs.size + 1) s1.heap.objs.size, ⟨⟨.none, he⟩, hit, Nat.succ_ne_self _⟩, fresh, q⟩
theorem walk_enumT {K : PySem.W.Frag} {a : Addr} {xs : List V} : Walk (IteT K a) xs.length (fun H => SqT K H a xs) (YPair (fun i => some (.int (i : Nat))) (fun i => xs[i]?)) := by
  refine ⟨fun i _ hi q => ⟨xs, xs[i], q, by simp [hi]⟩, fun _ q => ⟨xs, q, rfl⟩, fun i H v H' _ q y => ?_⟩
  obtain ⟨T, x, h1, h2, h3, h4⟩ := y
  exact ⟨T, _, x, h1, h2, h3, rfl, h4 xs q⟩
end EVI

end
section
set_option linter.all false
set_option maxRecDepth 100000
set_option Elab.async false
/-! EV: x[::-1] of a tuple -/
namespace EVR
open PySem PySem.Spec PyProof.Rows L2 HT
section
variable {prog : Program} {w : World} {A : Around} {E : Value → Shared → Prop} {s : Shared}
theorem fm_map {α β : Type} {f : α → Option β} {g : α → β} : ∀ l : List α, (∀ m ∈ l, f m = some (g m)) → l.filterMap f = l.map g
  | [], _ => rfl
  | x :: l, h => by
    rw [List.filterMap_cons_some (h x (List.mem_cons_self ..)), List.map_cons, fm_map l fun m hm => h m (List.mem_cons_of_mem _ hm)]
theorem pick_rev (xs : Array Value) : ((List.range xs.size).filterMap fun (m : Nat) => xs[(((xs.size : Int) - 1) + (m : Int) * (-1)).toNat]?).toArray = xs.toList.reverse.toArray := by
  congr 1
  apply List.ext_getElem?
  intro j
  have e : (List.range xs.size).filterMap (fun (m : Nat) => xs[(((xs.size : Int) - 1) + (m : Int) * (-1)).toNat]?) = (List.range xs.size).map fun m => xs.toList.getD (xs.size - 1 - m) .none := by
    refine fm_map _ fun m hm => ?_
    · have hm : m < xs.size := List.mem_range.mp hm
      have q : (((xs.size : Int) - 1) + (m : Int) * (-1)).toNat = xs.size - 1 - m := by omega
      rw [q]
      have l : xs.size - 1 - m < xs.size := by omega
      rw [Array.getElem?_eq_getElem l]
      simp [List.getD, l]
  rw [e]
  by_cases hj : j < xs.size
  · rw [List.getElem?_map, List.getElem?_range hj, List.getElem?_reverse (by simpa using hj)]
    have l : xs.size - 1 - j < xs.size := by omega
    simp [List.getD, l]
  · rw [List.getElem?_eq_none (by simp; omega), List.getElem?_eq_none (by simp; omega)]
theorem applied_rev {sl : Addr} {u : Tok} {n : Nat} {Q : Int × Int × Nat → Shared → Prop} (hs : s.heap.IsSliceOf sl .none .none (.int (-1) u)) (h : Q ((n : Int) - 1, -1, n) s) : wpAny (model prog w) A (Builtin.Slice.sliceApplied (.ref sl) (pure (n : Int))) Q E s := by
  obtain ⟨os, hos, hcs, hds⟩ := id hs
  unfold Builtin.Slice.sliceApplied Builtin.Slice.sliceFields
  refine wpAny_bind (wpAny_bind (wpAny_field hos hds (x := .none) rfl (wpAny_bind (wpAny_field hos hds (x := .none) rfl (wpAny_bind (wpAny_field hos hds (x := .int (-1) u) rfl (wpAny_pure ?_)))))))
  refine wpAny_bind (slicePart_int ?_)
  show wpAny _ _ (if ((-1 : Int) == 0) = true then _ else _) _ _ s
  rw [if_neg (by decide)]
  refine wpAny_bind (slicePart_none (wpAny_bind (slicePart_none (wpAny_bind (wpAny_pure ?_)))))
  have e1 : Builtin.Slice.sliceAdjust none none (-1) (n : Int) = ((n : Int) - 1, -1) := by
    unfold Builtin.Slice.sliceAdjust
    simp
  have e2 : Builtin.Slice.slicePlaces ((n : Int) - 1) (-1) (-1) = n := by
    unfold Builtin.Slice.slicePlaces
    simp
    split <;> omega
  show wpAny _ _ (match Builtin.Slice.sliceAdjust none none (-1) (n : Int) with | (lo, hi) => pure (lo, (-1 : Int), Builtin.Slice.slicePlaces lo hi (-1))) _ _ s
  rw [e1]
  show wpAny _ _ (pure ((n : Int) - 1, (-1 : Int), Builtin.Slice.slicePlaces ((n : Int) - 1) (-1) (-1))) _ _ s
  rw [e2]
  exact wpAny_pure h
theorem getItem_rev {t sl : Addr} {items : Array Value} {u : Tok} {Q : Value → Shared → Prop} (ht : IsTup s.heap t items) (hs : s.heap.IsSliceOf sl .none .none (.int (-1) u))
    (h : Q (.ref s.heap.objs.size) { s with heap := s.heap.push { cls := .type "tuple", data := .seq items.toList.reverse.toArray } }) (hsz : items.size ≤ sizeLine) : wpAny (model prog w) A (getItem (.ref t) (.ref sl)) Q E s := by
  have hz : sizeOk (.seq items.toList.reverse.toArray) := by
    show items.toList.reverse.toArray.size ≤ sizeLine
    simpa using hsz
  obtain ⟨os, hos, hcs, hds⟩ := id hs
  have hTs : s.TypeIs (.ref sl) "slice" := ⟨os, hos, hcs⟩
  unfold getItem
  try with_reducible refine wpAny_holding ?_
  first | refine wpAny_bind (wpAny_pure ?_) | skip
  refine wpAny_bind (wpAny_sequenceKey ht.typeIs (by decide) ?_)
  refine wpAny_bind (wpAny_callSpecial?_slot (name := Str.ofString "__getitem__") ht.typeIs PyProof.Rows.slot_tuple_getitem (wpAny_call_entry PyProof.Rows.slot_tuple_getitem ht.typeIs entry_tuple_getitem ?_ (args_tuple_getitem _ _)))
  show wpAny _ _ (Builtin.Tuple.tupleItemsOf (.ref t) >>= _) _ _ s
  refine wpAny_bind (tupleItemsOf_ ht (wpAny_bind (wpAny_typeOf hTs ?_)))
  rw [if_pos (by decide)]
  refine wpAny_bind (applied_rev hs ?_)
  have hno : ¬ ((((items.size : Int) - 1) == 0 && (-1 : Int) == 1 && items.size == items.size) = true) := by
    intro q
    rw [Bool.and_eq_true, Bool.and_eq_true] at q
    exact absurd q.1.2 (by decide)
  show wpAny _ _ (if ((((items.size : Int) - 1) == 0 && (-1 : Int) == 1 && items.size == items.size) = true) then _ else _) _ _ s
  rw [if_neg hno, pick_rev]
  first
    | exact wpAny_bind (m := Builtin.Tuple.tupleExact _) (wpAny_newObj_type (wpAny_pure ⟨_, rfl, wpAny_pure h⟩) hz)
    | exact wpAny_bind (m := Builtin.Tuple.tupleExact _) (wpAny_newObj_type (wpAny_bind (wpAny_pure (wpAny_pure ⟨_, rfl, wpAny_pure h⟩))) hz)
    | exact wpAny_bind (wpAny_bind (m := Builtin.Tuple.tupleExact _) (wpAny_newObj_type (wpAny_pure (wpAny_pure ⟨_, rfl, wpAny_pure h⟩)) hz))
    | exact wpAny_bind (wpAny_bind (m := Builtin.Tuple.tupleExact _) (wpAny_newObj_type (wpAny_pure ⟨_, rfl, wpAny_pure h⟩) hz))
end
section
variable {X : Cx}
def tRev (K : PySem.W.Frag) (te : TE) : TE := fun σ H Q => te σ H fun x H1 => ∃ a xs, x = .ref a ∧ ((SqL K H1 a xs ∧ ∀ p, H1 p = none → Q (.ref p) (upd H1 p (.lst xs.reverse))) ∨ (SqT K H1 a xs ∧ ∀ p, H1 p = none → Q (.ref p) (upd H1 p (.tup xs.reverse))))
theorem pe_rev {e : Expr} {te : TE} {k : Nat} {p1 p2 p3 pos : Pos} (he : PE X e te) : PE X (.Subscript e (.Slice none none (some (.UnaryOp .USub (.Constant (.int 1) k p1) p2)) p3) pos) (tRev X.K te) := by
  refine ⟨fun pins s σ H Q I h => ?_⟩
  refine Subscript_ (thn (he.run pins s σ H _ I h) fun v s1 ⟨x, H1, I1, r1, a, xs, ex, q⟩ => ?_)
  subst ex
  cases r1
  have step : PO X (some (.UnaryOp .USub (.Constant (.int 1) k p1) p2)) (tPart (tUn (rU fun i => .int (-i)) (tC (.int 1)))) := po_some (pe_un un_neg pe_int)
  refine wpAny_Slice (thn (po_none.run pins s1 σ H1 (fun o H2 => o = none ∧ H2 = H1) I1 ⟨rfl, rfl⟩) fun vl s2 ⟨l, H2, I2, pl, el, e2⟩ => ?_)
  subst el e2
  refine thn (po_none.run pins s2 σ H2 (fun o H3 => o = none ∧ H3 = H2) I2 ⟨rfl, rfl⟩) fun vu s3 ⟨u, H3, I3, pu, eu, e3⟩ => ?_
  subst eu e3
  refine thn (step.run pins s3 σ H3 (fun o H4 => o = some (-1) ∧ H4 = H3) I3 ⟨1, rfl, -1, rfl, rfl, rfl⟩) fun vs s4 ⟨o, H4, I4, ps, eo, e4⟩ => ?_
  subst eo e4
  cases pl
  cases pu
  cases ps with
  | int i t =>
    have I5 : Inv X pins σ H4 { s4 with heap := s4.heap.push { cls := .type "slice", data := .fields #[.none, .none, .int (-1) t] } } := I4.kept (t' := s4.toks) fun b ob q => Heap.get?_push_of_some _ q
    rcases q with ⟨hx, q⟩ | ⟨hx, q⟩
    · obtain ⟨its, r, ht, hz⟩ := I5.list hx
      have hlen := r.length
      show wpAny (model X.prog X.w) X.A (subscriptTail e (.Slice none none (some (.UnaryOp .USub (.Constant (.int 1) k p1) p2)) p3) (.ref a) (.ref s4.heap.objs.size)) (EP X pins σ Q) X.xe { s4 with heap := s4.heap.push { cls := .type "slice", data := .fields #[.none, .none, .int (-1) t] } }
      refine tail_any (ops := [.ref a, .ref s4.heap.objs.size]) ht.isList.typeIs (PySem.slot_list_getitem.lookup) ?_ (by with_unfolding_all rfl)
      refine wpAny_getItem_list_slice ht.isList (Heap.IsSliceOf.new _ .none .none (.int (-1) t)) .none .none (.int (-1) t) (by decide) ?_ (by rw [List.size_toArray]; omega)
      rw [PySem.W.krv_pick]
      refine ⟨.ref _, _, I5.laid (t' := s4.toks) (o := .lst xs.reverse) (fun b ob q => Heap.get?_push_of_some _ q) (Nat.le_refl _) ?_, rfl, q _ (I5.hok.fresh (Nat.le_refl _))⟩
      exact ⟨by rw [List.length_reverse]; exact hz, _, 0, r.reverse, Heap.get?_push_size _ rfl⟩
    · obtain ⟨its, r, ht, hz⟩ := I5.tuple hx
      have hlen := r.length
      show wpAny (model X.prog X.w) X.A (subscriptTail e (.Slice none none (some (.UnaryOp .USub (.Constant (.int 1) k p1) p2)) p3) (.ref a) (.ref s4.heap.objs.size)) (EP X pins σ Q) X.xe { s4 with heap := s4.heap.push { cls := .type "slice", data := .fields #[.none, .none, .int (-1) t] } }
      refine tail_any (ops := [.ref a, .ref s4.heap.objs.size]) ht.typeIs (PyProof.Rows.slot_tuple_getitem.lookup) ?_ (by with_unfolding_all rfl)
      refine getItem_rev (u := t) ht (Heap.IsSliceOf.new _ .none .none (.int (-1) t)) ?_ (by rw [List.size_toArray]; omega)
      refine ⟨.ref _, _, I5.laid (t' := s4.toks) (o := .tup xs.reverse) (fun b ob q => Heap.get?_push_of_some _ q) (Nat.le_refl _) ?_, rfl, q _ (I5.hok.fresh (Nat.le_refl _))⟩
      exact ⟨by rw [List.length_reverse]; exact hz, its.reverse, r.reverse, ⟨_, Heap.get?_push_size _ rfl, rfl, 0, by simp⟩⟩
end
end EVR

end
section
set_option linter.all false
set_option maxRecDepth 100000
set_option Elab.async false
/-! EV: set(x) of a list or a tuple, whatever its items; sorted of a set -/
namespace EVK
open PySem PySem.Spec PyProof.Rows L2
section
variable {P : Program} {w : World} {A : Around} {E : Value → Shared → Prop} {s : Shared}
/-- how the set at S takes the values one by one; J i: i of them are there -/
structure Takes (P : Program) (w : World) (A : Around) (S : Addr) (h0 : Heap) (n : Nat) (Pv : Nat → Value → Prop) (J : Nat → Heap → Prop) : Prop where
  keep : ∀ i h h', J i h → (∀ o, h.get? S = some o → h'.get? S = some o) → (∀ b o, h0.get? b = some o → h'.get? b = some o) → J i h'
  add : ∀ i v (s : Shared) (Q : Bool → Shared → Prop) (E : Value → Shared → Prop), i < n → Pv i v → J i s.heap → (∀ b o, h0.get? b = some o → s.heap.get? b = some o) →
    (∀ b h' tk, Heap.SameBut S s.heap h' → s.toks ≤ tk → J (i + 1) h' → Q b { s with heap := h', toks := tk }) → wpAny (model P w) A (setAdd S v) Q E s
theorem loop {I : Addr} {fp wr : List Addr} {G : Array GenState → Array GenState → Prop} {n : Nat} {Pv : Nat → Value → Prop} {St : Nat → Shared → Prop} {R : Result → Shared → Prop} {J : Nat → Heap → Prop} {h0 : Heap}
    (W : WalksS P w A.in1 I fp wr G n Pv St) (S : Addr) (hSf : S ∉ fp) (hS0 : h0.get? S = none) (hw0 : ∀ b ∈ wr, h0.get? b = none) (T : Takes P w A.in1 S h0 n Pv J) :
    ∀ (k i : Nat) (s : Shared), n - i = k → i ≤ n → St i s → (∀ b o, h0.get? b = some o → s.heap.get? b = some o) → J i s.heap →
      (∀ s', Moved (S :: wr) G s s' → J n s'.heap → (∀ b o, h0.get? b = some o → s'.heap.get? b = some o) → R (.ok (.ret .none)) s') →
      codeAny (model P w) A (.builtin "set.update.loop" ⟨[.ref S, .ref I], []⟩) R s := by
  have nw : S ∉ wr := fun z => hSf (W.sub _ z)
  have up : ∀ b ∈ wr, b ∈ S :: wr := fun b z => List.mem_cons_of_mem _ z
  have kp : ∀ {s s' : Shared}, Moved wr G s s' → (∀ b o, h0.get? b = some o → s.heap.get? b = some o) → ∀ b o, h0.get? b = some o → s'.heap.get? b = some o := fun m q b o e =>
    m.heap b o (fun z => by rw [hw0 b z] at e; cases e) (q b o e)
  intro k
  induction k with
  | zero =>
    intro i s hk' hi hst hkp hJ hR
    obtain rfl : i = n := by omega
    refine codeAny_builtin F.entry_set_update_loop ?_
    rw [Around.under_plainId F.plain_set_update_loop _]
    show wpAny _ A.in1 (pyNext (.ref I) >>= _) _ _ s
    refine wpAny_bind (W.done s _ _ hst fun s1 m => ?_)
    show wpAny _ A.in1 (ret Value.none) _ _ s1
    exact wpAny_pure (hR s1 (m.mono up) (T.keep i _ _ hJ (fun o e => m.heap S o nw e) (kp m hkp)) (kp m hkp))
  | succ k ih =>
    intro i s hk' hi hst hkp hJ hR
    have lt : i < n := by omega
    refine codeAny_builtin F.entry_set_update_loop ?_
    rw [Around.under_plainId F.plain_set_update_loop _]
    show wpAny _ A.in1 (pyNext (.ref I) >>= _) _ _ s
    refine wpAny_bind (W.item i s _ _ lt hst fun v s1 hv st1 m => ?_)
    have k1 := kp m hkp
    have J1 := T.keep i _ _ hJ (fun o e => m.heap S o nw e) k1
    show wpAny _ A.in1 (holding [v] (setAdd S v) >>= _) _ _ s1
    refine wpAny_bind (wpAny_holding (T.add i v s1 _ _ lt hv J1 k1 fun b h2 tk sb ht J2 => ?_))
    have k2 : ∀ b o, h0.get? b = some o → h2.get? b = some o := fun b o e => (sb.2 b (fun z => by rw [z, hS0] at e; cases e)).trans (k1 b o e)
    refine wpAny_pure ⟨plainId_quiet F.plain_set_update_loop _, ih (i + 1) _ (by omega) lt (W.frame _ s1 _ _ st1 ht fun b hb o e => ?_) k2 J2 fun s3 m3 J3 k3 => ?_⟩
    · rw [sb.2 b (fun z : b = S => hSf (z ▸ hb))]; exact e
    · refine hR s3 (Moved.trans W.gtrans ((m.mono up).then_heap ht fun b o hb e => ?_) m3) J3 k3
      rw [sb.2 b (fun z : b = S => hb (z ▸ List.mem_cons_self))]; exact e

/-- where the items are -/
def Src (h : Heap) (l : Addr) (items : Array Value) : Bool → Prop
  | true => h.IsTuple l items
  | false => h.IsList l items
set_option maxHeartbeats 3200000 in
theorem call_set {l : Addr} {items : Array Value} {Q : Value → Shared → Prop} {J : Nat → Heap → Prop} (tp : Bool) (hh : A.handled = none) (hl : Src s.heap l items tp)
    (T : Takes P w A.in1.in1.in1 s.heap.objs.size s.heap items.size (fun i v => items[i]? = some v) J) (hJ0 : ∀ h, h.get? s.heap.objs.size = some ({ cls := .type "set", dict := none, data := .set #[] 0 (.fresh 0 0 (!w.params.followText "set-order")) } : Obj) → J 0 h)
    (h : ∀ (h' : Heap) (tk : Nat), J items.size h' → (∀ b o, s.heap.get? b = some o → h'.get? b = some o) → Q (.ref s.heap.objs.size) { s with heap := h', toks := tk }) :
    wpAny (model P w) A (call (.type "set") [.ref l]) Q E s := by
  obtain ⟨c, tl, hmro⟩ := F.called_set.mro
  have a1 := F.called_set.made
  have a2 := F.called_set.sub
  refine wpAny_call (codeAny_of_tree ?_)
  show wpAny _ _ (callAny (.type "set") _) _ _ _
  refine wpAny_pure ⟨Code.quiet_builtin _ (by decide +kernel), codeAny_builtin F.entry_type_call ?_⟩
  rw [Around.under_plain (weight_type_call_type "set" [.ref l] []) rfl]
  have a3 := F.called_set.notType
  have a4 := F.called_set.canCreate
  have a5 := F.typeCall_set_1 (.ref l)
  repeat (any_goals (first | assumption | wp_step))
  refine codeAny_mono (code_set_led1 (.ref l) (E := E) (Q₁ := fun obj s₁ => obj = .ref s.heap.objs.size ∧ s₁ = { s with heap := s.heap.push ({ cls := .type "set", dict := none, data := .set #[] 0 (.fresh 0 0 (!w.params.followText "set-order")) } : Obj) }) ⟨rfl, rfl⟩) fun r s₁ hr => ?_
  cases r with
  | error e => exact hr
  | ok fl =>
    cases fl with
    | ret obj =>
      obtain ⟨rfl, rfl⟩ := hr
      have g0 : (s.heap.push ({ cls := .type "set", dict := none, data := .set #[] 0 (.fresh 0 0 (!w.params.followText "set-order")) } : Obj)).get? s.heap.objs.size = some ({ cls := .type "set", dict := none, data := .set #[] 0 (.fresh 0 0 (!w.params.followText "set-order")) } : Obj) := Heap.get?_push_size _ rfl
      have t0 : Shared.TypeIs { s with heap := s.heap.push ({ cls := .type "set", dict := none, data := .set #[] 0 (.fresh 0 0 (!w.params.followText "set-order")) } : Obj) } (.ref s.heap.objs.size) "set" := ⟨_, g0, rfl⟩
      have a6 := F.called_set.init.lookup
      have a7 := F.called_set.init.bind (.ref s.heap.objs.size)
      repeat (any_goals (first | assumption | wp_step))
      refine codeAny_mono (codeAny_call_builtin (R := wants (fun r s₂ => r = .none ∧ ∃ h' tk, s₂ = { s with heap := h', toks := tk } ∧ J items.size h' ∧ (∀ b o, s.heap.get? b = some o → h'.get? b = some o)) E) F.called_set.init.plain F.entry_set_init (check_set_init_1 t0 ?_)) fun r₂ s₂ hr₂ => ?_
      · have free : ∀ b, s.heap.objs.size ≤ b → s.heap.get? b = none := fun b hb => by
          cases q : s.heap.get? b with
          | none => rfl
          | some o => exact absurd (Nat.lt_of_lt_of_le (Heap.lt_size q) hb) (Nat.lt_irrefl _)
        have h3 : A.in1.in1.in1.handled = none := by simp [hh]
        have sz1 : (s.heap.push ({ cls := .type "set", dict := none, data := .set #[] 0 (.fresh 0 0 (!w.params.followText "set-order")) } : Obj)).objs.size = s.heap.objs.size + 1 := Heap.size_push ..
        cases tp with
        | true =>
          obtain ⟨ol, hol, hcl, nl, hdl⟩ := hl
          obtain ⟨ocls, odict, odata, oslots⟩ := ol
          simp only at hcl hdl
          subst hcl; subst hdl
          have b1 : (s.heap.push ({ cls := .type "set", dict := none, data := .set #[] 0 (.fresh 0 0 (!w.params.followText "set-order")) } : Obj)).get? l = some { cls := .type "tuple", dict := odict, data := .seq items nl, slots := oslots } := Heap.get?_push_of_some _ hol
          have b2 := F.sub_tuple_set
          have b3 := F.sub_tuple_frozenset
          have b4 : (Value.type "tuple" == Value.type "dict") = false := by decide
          have b5 : (s.heap.push ({ cls := .type "set", dict := none, data := .set #[] 0 (.fresh 0 0 (!w.params.followText "set-order")) } : Obj)).IsTuple l items := ⟨_, b1, rfl, nl, rfl⟩
          unfold Builtin.«set.__init__» noKeywords Builtin.Frozenset.updateFrom
          generalize hPI : pyIter = PI
          wp_walk
          subst hPI
          refine wpAny_pyIter_tuple b5 ?_
          refine wpAny_bind (wpAny_runValue ?_)
          have lt : l < s.heap.objs.size := Heap.lt_size hol
          refine loop (h0 := s.heap) (Walks.tuple h3 (s.heap.push ({ cls := .type "set", dict := none, data := .set #[] 0 (.fresh 0 0 (!w.params.followText "set-order")) } : Obj)).objs.size l (by rw [sz1]; exact Nat.ne_of_lt (Nat.lt_succ_of_lt lt)) items).toS s.heap.objs.size ?_ (free _ (Nat.le_refl _)) (fun b hb => free b (by rw [List.mem_singleton.mp hb, sz1]; omega)) T (items.size - 0) 0 _ rfl (Nat.zero_le _)
            ⟨⟨_, Heap.get?_push_size _ rfl, rfl, rfl⟩, (b5.push _)⟩ (fun b o e => Heap.get?_push_of_some _ (Heap.get?_push_of_some _ e)) (hJ0 _ (Heap.get?_push_of_some _ g0)) ?_
          · rw [sz1]; simp only [List.mem_cons, List.not_mem_nil, or_false, not_or]; exact ⟨Nat.ne_of_lt (Nat.lt_succ_self _), Nat.ne_of_gt lt⟩
          · intro s2 m J2 k2
            obtain ⟨h', g2, d', tk', os'⟩ := s2
            have e1 : g2 = s.gens := m.gens
            have e2 : d' = s.drawn := m.drawn
            have e3 : os' = s.os := m.os
            subst e1; subst e2; subst e3
            show wpAny _ _ _ _ _ _
            refine wpAny_pure ?_
            show wpAny _ _ (ret Value.none) _ _ _
            exact wpAny_pure ⟨rfl, h', tk', rfl, J2, k2⟩
        | false =>
          obtain ⟨ol, hol, hcl, nl, hdl⟩ := hl
          obtain ⟨ocls, odict, odata, oslots⟩ := ol
          simp only at hcl hdl
          subst hcl; subst hdl
          have b1 : (s.heap.push ({ cls := .type "set", dict := none, data := .set #[] 0 (.fresh 0 0 (!w.params.followText "set-order")) } : Obj)).get? l = some { cls := .type "list", dict := odict, data := .seq items nl, slots := oslots } := Heap.get?_push_of_some _ hol
          have b2 := F.sub_list_set
          have b3 := F.sub_list_frozenset
          have b4 : (Value.type "list" == Value.type "dict") = false := by decide
          have b5 : (s.heap.push ({ cls := .type "set", dict := none, data := .set #[] 0 (.fresh 0 0 (!w.params.followText "set-order")) } : Obj)).IsList l items := ⟨_, b1, rfl, nl, rfl⟩
          unfold Builtin.«set.__init__» noKeywords Builtin.Frozenset.updateFrom
          generalize hPI : pyIter = PI
          wp_walk
          subst hPI
          refine wpAny_pyIter_list b5 ?_
          refine wpAny_bind (wpAny_runValue ?_)
          have lt : l < s.heap.objs.size := Heap.lt_size hol
          refine loop (h0 := s.heap) (Walks.list h3 (s.heap.push ({ cls := .type "set", dict := none, data := .set #[] 0 (.fresh 0 0 (!w.params.followText "set-order")) } : Obj)).objs.size l (by rw [sz1]; exact Nat.ne_of_lt (Nat.lt_succ_of_lt lt)) items).toS s.heap.objs.size ?_ (free _ (Nat.le_refl _)) (fun b hb => free b (by rw [List.mem_singleton.mp hb, sz1]; omega)) T (items.size - 0) 0 _ rfl (Nat.zero_le _)
            ⟨⟨_, Heap.get?_push_size _ rfl, rfl, rfl⟩, (b5.push _)⟩ (fun b o e => Heap.get?_push_of_some _ (Heap.get?_push_of_some _ e)) (hJ0 _ (Heap.get?_push_of_some _ g0)) ?_
          · rw [sz1]; simp only [List.mem_cons, List.not_mem_nil, or_false, not_or]; exact ⟨Nat.ne_of_lt (Nat.lt_succ_self _), Nat.ne_of_gt lt⟩
          · intro s2 m J2 k2
            obtain ⟨h', g2, d', tk', os'⟩ := s2
            have e1 : g2 = s.gens := m.gens
            have e2 : d' = s.drawn := m.drawn
            have e3 : os' = s.os := m.os
            subst e1; subst e2; subst e3
            show wpAny _ _ _ _ _ _
            refine wpAny_pure ?_
            show wpAny _ _ (ret Value.none) _ _ _
            exact wpAny_pure ⟨rfl, h', tk', rfl, J2, k2⟩
      · cases r₂ with
        | error e => exact hr₂
        | ok fl₂ =>
          cases fl₂ with
          | ret r =>
            obtain ⟨rfl, h', tk, rfl, J2, k2⟩ := hr₂
            repeat (any_goals (first | assumption | wp_step))
            exact h _ _ J2 k2
          | _ => exact hr₂.elim
    | _ => exact hr.elim
end
end EVK

end
section
set_option linter.all false
set_option maxRecDepth 100000
set_option Elab.async false
/-! EV: sets of ints, of tuples of ints; sorted(set) -/
namespace EVK
open PySem PySem.Spec PyProof.Rows L2 PySem.W
section
variable {P : Program} {w : World} {A : Around} {E : Value → Shared → Prop} {s : Shared}
theorem takes_ints {S : Addr} {h0 : Heap} {items : Array Value} {ns : List Int} (hit : IntsAre items.toList ns) (hb : ns.length + 1 < scanBound) :
    Takes P w A S h0 items.size (fun i v => items[i]? = some v) (fun i h => ∃ c, c ≤ i ∧ SetR w h S (fun j => decide (j ∈ ns.take i)) c) where
  keep := fun i h h' ⟨c, hc, R⟩ k _ => ⟨c, hc, R.at k⟩
  add := by
    intro i v s Q E hi hv ⟨c, hc, R⟩ _ hQ
    have hl : items.size = ns.length := by
      have q := IntsAre.length hit
      rwa [Array.length_toList] at q
    have hi' : i < ns.length := by omega
    obtain ⟨t, rfl⟩ := PyProof.Rows.IntsAre.int_at hit i v (by rw [Array.getElem?_toList]; exact hv)
    have hz : ns[i]? = some (ns.getD i 0) := by rw [List.getD_eq_getElem?_getD, List.getElem?_eq_getElem hi'] ; rfl
    unfold setAdd
    refine wpAny_holding (wpAny_bind ((intKind P w).pyHash (k := ns.getD i 0) (intKind_is _ _ _ _) ?_))
    refine setR_add_hashed (s := { s with toks := s.toks + 1 }) R (by omega) fun h' sb R2 => ?_
    refine hQ _ h' _ sb (Nat.le_succ _) ⟨_, ?_, R2.congr fun j => ?_⟩
    · split <;> omega
    · rw [List.take_add_one, hz]
      simp [List.mem_append]
theorem takes_rows {S : Addr} {h0 : Heap} {items : Array Value} {ks : List (Addr × List Int)} (hit : items.toList = ks.map fun p => Value.ref p.1) (hk : ∀ p ∈ ks, IsT P w h0 p.2 p.1) (hfew : ks.length < 64) (hu : A.units < cLine) :
    Takes P w A S h0 items.size (fun i v => items[i]? = some v) (fun i h => ∃ L es ep t, SetTR P w h S L es ep t ∧ Got ks i L) where
  keep := fun i h h' ⟨L, es, ep, t, R, g⟩ k k0 => ⟨L, es, ep, t, R.keep k fun p hp => isT_keep (hk p (List.mem_of_mem_take (g.sub p hp))) k0, g⟩
  add := by
    intro i v s Q E hi hv ⟨L, es, ep, t, R, g⟩ k0 hQ
    have q : items.toList[i]? = some v := by rw [Array.getElem?_toList]; exact hv
    rw [hit, List.getElem?_map] at q
    cases hp : ks[i]? with
    | none => rw [hp] at q; cases q
    | some p =>
      rw [hp] at q
      cases q
      have hx : IsT P w s.heap p.2 p.1 := isT_keep (hk p (List.mem_of_getElem? hp)) k0
      unfold setAdd
      refine wpAny_holding (wpAny_bind (wpAny_pyHash_tuple hu hx ?_))
      have hl := (List.getElem?_eq_some_iff.mp hp).1
      refine add_at (s := { s with toks := s.toks + (p.2.length + 1) }) R hx hu (by have := g.len; omega) fun b h' L' es' ep' t' sb R2 c1 c2 => ?_
      refine hQ b h' _ sb (Nat.le_add_right _ _) ⟨L', es', ep', t', R2, ?_⟩
      rcases Classical.em (p.2 ∈ L.map (·.2)) with c | c
      · rw [c1 c]; exact g.same hp c
      · exact g.more hp (c2 c)
/-- the set at a: its values in some order -/
def SetV (w : World) (us : List Value) (h : Heap) (a : Addr) : Prop := ∃ es ep t, SetAt h a es ep t ∧ t.fits es.size = true ∧ es.size < scanBound ∧ Ris t.place.toList ∧ (w.params.followText "set-order" = true ∨ t.led = true) ∧ es.toList.map (·.2) = us
theorem SetV.at {us : List Value} {h h' : Heap} {a : Addr} (x : SetV w us h a) (k : ∀ o, h.get? a = some o → h'.get? a = some o) : SetV w us h' a := by
  obtain ⟨es, ep, t, h1, r⟩ := x
  exact ⟨es, ep, t, h1.at k, r⟩
theorem ints_keys : ∀ {l : List (Int × Value)}, (∀ e ∈ l, GoodE e) → IntsAre (l.map (·.2)) (l.map keyOf)
  | [], _ => .nil
  | e :: l, g => by
    obtain ⟨k, t, h1, h2⟩ := g e List.mem_cons_self
    have r := ints_keys (l := l) fun e he => g e (List.mem_cons_of_mem _ he)
    have hk : keyOf e = k := by unfold keyOf; rw [h1]
    rw [List.map_cons, List.map_cons, h1, hk]
    exact .cons k t r
theorem call_set_ints {l : Addr} {items : Array Value} {ns : List Int} {Q : Value → Shared → Prop} (tp : Bool) (hh : A.handled = none) (hl : Src s.heap l items tp) (hit : IntsAre items.toList ns) (hb : ns.length + 1 < scanBound)
    (h : ∀ (h' : Heap) (tk : Nat) (us : List Value) (ks : List Int), SetV w us h' s.heap.objs.size → IntsAre us ks → ks.Nodup → (∀ k, k ∈ ks ↔ k ∈ ns) → (∀ b o, s.heap.get? b = some o → h'.get? b = some o) → Q (.ref s.heap.objs.size) { s with heap := h', toks := tk }) :
    wpAny (model P w) A (call (.type "set") [.ref l]) Q E s := by
  refine call_set tp hh hl (takes_ints hit hb) (fun h1 g => ⟨0, Nat.le_refl 0, setR_new_at g⟩) fun h' tk ⟨c, hc, R⟩ k => ?_
  obtain ⟨o, es, ep, t, ho, hex, hd, g, nd, hm, hb2, hf, hn, hr, hl2⟩ := R
  have hl : items.size = ns.length := by
    have q := IntsAre.length hit
    rwa [Array.length_toList] at q
  refine h h' tk _ _ ⟨es, ep, t, ⟨o, ho, hex.1, hd⟩, hf, hb2, hr, hl2, rfl⟩ (ints_keys g) nd (fun z => ?_) k
  rw [← hm z, decide_eq_true_eq, List.take_of_length_le (by omega)]
theorem call_set_rows {l : Addr} {items : Array Value} (ks : List (Addr × List Int)) {Q : Value → Shared → Prop} (tp : Bool) (hh : A.handled = none) (hl : Src s.heap l items tp) (hit : items.toList = ks.map fun p => Value.ref p.1)
    (hk : ∀ p ∈ ks, IsT P w s.heap p.2 p.1) (hfew : ks.length < 64) (hu : A.units + 3 < cLine)
    (h : ∀ (h' : Heap) (tk : Nat) (L : List (Addr × List Int)), SetV w (L.map fun p => Value.ref p.1) h' s.heap.objs.size → (L.map (·.2)).Nodup → (∀ p ∈ L, p ∈ ks) → (∀ p ∈ ks, p.2 ∈ L.map (·.2)) → (∀ b o, s.heap.get? b = some o → h'.get? b = some o) → Q (.ref s.heap.objs.size) { s with heap := h', toks := tk }) :
    wpAny (model P w) A (call (.type "set") [.ref l]) Q E s := by
  have hl2 : items.size = ks.length := by
    have q := congrArg List.length hit
    rwa [Array.length_toList, List.length_map] at q
  refine call_set tp hh hl (takes_rows hit hk hfew hu) (fun h1 g => ⟨[], #[], 0, _, setTR_fresh g, Got.zero ks⟩) fun h' tk ⟨L, es, ep, t, R, g⟩ k => ?_
  obtain ⟨o, ho, hex, hd⟩ := R.ob
  have hfew2 := R.few
  have hsz := SetTR.size (s := { s with heap := h' }) R
  refine h h' tk L ⟨es, ep, t, ⟨o, ho, hex.1, hd⟩, SetTR.fits (s := { s with heap := h' }) R, by unfold scanBound; omega, R.tab.ris, R.led, ?_⟩ R.nd (fun p hp => List.mem_of_mem_take (g.sub p hp)) (fun p hp => g.all p (by rw [hl2, List.take_length]; exact hp)) k
  rw [R.rows]
  unfold L2.rowsOf
  rw [List.map_map]
  rfl
theorem each_perm {R : Value → PyData → Prop} {us vs : List Value} (p : vs.Perm us) : ∀ {bs : List PyData}, EachIs R us bs → ∃ cs, cs.Perm bs ∧ EachIs R vs cs := by
  induction p with
  | nil => intro bs e; cases e; exact ⟨[], .nil, .nil⟩
  | cons x p ih =>
    intro bs e
    cases e with
    | cons h t =>
      obtain ⟨cs, q, e⟩ := ih t
      exact ⟨_ :: cs, q.cons _, .cons h e⟩
  | swap x y l =>
    intro bs e
    cases e with
    | cons h t =>
      cases t with
      | cons h2 t => exact ⟨_, .swap _ _ _, .cons h2 (.cons h t)⟩
  | trans p q ih1 ih2 =>
    intro bs e
    obtain ⟨cs, q1, e1⟩ := ih2 e
    obtain ⟨cs2, q2, e2⟩ := ih1 e1
    exact ⟨cs2, q2.trans q1, e2⟩
theorem each_both {R R' : Value → PyData → Prop} : ∀ {us : List Value} {bs : List PyData}, EachIs R us bs → EachIs R' us bs → EachIs (fun v b => R v b ∧ R' v b) us bs
  | _, _, .nil, .nil => .nil
  | _, _, .cons h t, .cons h' t' => .cons ⟨h, h'⟩ (each_both t t')
theorem sorted_setV {a : Addr} {us : List Value} {bs : List PyData} {R : Value → PyData → Prop} {Q : Value → Shared → Prop} (S : SetV w us s.heap a) (hh : A.handled = none) (e : EachIs R us bs) (er : EachIs (fun v b => ∃ as, Reads s.heap v b as) us bs)
    (hal : AllAlike bs) (hn : ∀ d ∈ bs, d ≠ .none) (hL : bs.length ≤ sizeLine) (hu : ∀ b, b ∈ bs → A.units + 2 + b.depth < cLine)
    (h : ∀ s' p out c (cs : List PyData), (∀ b o, s.heap.get? b = some o → s'.heap.get? b = some o) → s'.gens = s.gens → s'.os = s.os → s.heap.objs.size ≤ p → s'.heap.get? p = some (seqObj "list" (List.toArray out) c) → cs.Perm bs → EachIs R out (cs.mergeSort (dataLe false fun d => d)) → Q (.ref p) s') :
    wpAny (model P w) A (call (.builtin "sorted") [.ref a]) Q E s := by
  obtain ⟨es, ep, t, ha, hf, hsz, hr, hl, rfl⟩ := S
  refine Calls.call_function_entry kind_sorted plain_sorted entry_sorted (args_sorted1 _) ?_
  unfold Builtin.«sorted»
  refine wpAny_bind (m := checkCount "sorted" 1 1 _) (wpAny_pure ?_)
  refine wpAny_bind (collect_set (A := A.in1) hh ha hf hsz hr hl fun s1 vs k1 hz g1 o1 pm => ?_)
  obtain ⟨cs, hp, e2⟩ := each_perm pm (each_both e er)
  have hlen : vs.length = bs.length := by rw [e2.length, hp.length_eq]
  refine wpAny_bind (wpAny_newList ?_ (by omega))
  have ho : (s1.heap.push (seqObj "list" vs.toArray 0)).get? s1.heap.objs.size = some (seqObj "list" vs.toArray 0) := Heap.get?_push_size _ rfl
  have er2 : EachIs (fun v b => ∃ as, Reads (sortingHeap (s1.heap.push (seqObj "list" vs.toArray 0)) s1.heap.objs.size vs) v b as) vs cs := e2.mono fun v b ⟨_, as, r⟩ =>
    ⟨as, PyProof.Rows.Reads.keeps (fun b o q => by
      have q1 := k1 b o q
      exact sortingHeap_old (Nat.ne_of_lt (Heap.lt_size q1)) (Heap.get?_push_of_some _ q1)) r⟩
  have hm : cs.map (fun d => d) = cs := by simp
  have key := sortVals_data (h' := sortingHeap (s1.heap.push (seqObj "list" vs.toArray 0)) s1.heap.objs.size vs) (R := R) (enc := fun d => d) (vs := vs) (bs := cs) false (e2.mono fun _ _ q => q.1) er2 (by rw [hm]; exact fun d hd d' hd' => hal d (hp.mem_iff.mp hd) d' (hp.mem_iff.mp hd'))
  rw [hm] at key
  refine wpAny_bind (wpAny_holding (wpAny_call_entry slot_list_sort ⟨_, ho, rfl⟩ entry_list_sort (list_sort_vals (s := { s1 with heap := s1.heap.push (seqObj "list" vs.toArray 0) }) (κ := dataKind (sortingHeap (s1.heap.push (seqObj "list" vs.toArray 0)) s1.heap.objs.size vs) cs) ho
    (EVS.sorts_any (s := { s1 with heap := sortingHeap (s1.heap.push (seqObj "list" vs.toArray 0)) s1.heap.objs.size vs }) er2 (fun d hd d' hd' => hal d (hp.mem_iff.mp hd) d' (hp.mem_iff.mp hd')) (fun d hd => hn d (hp.mem_iff.mp hd)) (fun d hd => by have := hu d (hp.mem_iff.mp hd); exact this)) (by omega) ⟨_, rfl, ?_⟩) (args_list_sort _)))
  obtain ⟨c, hc⟩ := sortedHeap_at (vs := vs) (out := (sortVals (dataKind (sortingHeap (s1.heap.push (seqObj "list" vs.toArray 0)) s1.heap.objs.size vs) cs) false vs vs).toArray) ho
  refine wpAny_pure ⟨_, rfl, h _ s1.heap.objs.size _ c cs (fun b u q => ?_) g1 o1 hz hc hp key⟩
  have q1 := k1 b u q
  have hlt := Heap.lt_size q1
  show (sortedHeap (s1.heap.push (seqObj "list" vs.toArray 0)) s1.heap.objs.size vs _).get? b = some u
  rw [sortedHeap_old (Nat.ne_of_lt hlt) (by rw [size_push']; exact Nat.lt_succ_of_lt hlt)]
  exact Heap.get?_push_of_some _ q1
end
end EVK

end
section
set_option linter.all false
set_option maxRecDepth 100000
set_option Elab.async false
/-! EV: sum(xs, []), xs a list of lists -/
namespace EVM
open PySem PyProof.Rows
section
variable {P : Program} {w : World} {A : Around} {E : Value → Shared → Prop} {s : Shared}
abbrev lob (xs : List Value) (c : Nat) : Obj := { cls := .type "list", dict := none, data := .seq xs.toArray c, slots := #[] }
def Kp (h h' : Heap) : Prop := ∀ b o, h.get? b = some o → h'.get? b = some o
theorem loop {I : Addr} {fp wr : List Addr} {G : Array GenState → Array GenState → Prop} {n : Nat} {Pv : Nat → Value → Prop} {St : Nat → Shared → Prop} {R : Result → Shared → Prop} {h0 : Heap}
    (W : WalksS P w A.in1 I fp wr G n Pv St) (S : Addr) (hSf : S ∉ fp) (hS0 : h0.objs.size ≤ S) (hw0 : ∀ b ∈ wr, h0.objs.size ≤ b) (xss : List (List Value)) (hn : n = xss.length)
    (hval : ∀ i v, Pv i v → ∃ b xs c, xss[i]? = some xs ∧ v = .ref b ∧ h0.get? b = some (lob xs c)) (hfp : ∀ b ∈ fp, b < S) :
    ∀ (k i : Nat) (s : Shared) (T : Addr) (c ct : Nat) (pre : List Value), n - i = k → i ≤ n → St i s → Kp h0 s.heap → S < s.heap.objs.size → T ≠ S → T ∉ wr → s.heap.get? S = some (lob [.ref T] c) → s.heap.get? T = some (lob pre ct) →
      pre.length + (xss.drop i).flatten.length ≤ sizeLine →
      (∀ s' T' c', Moved (S :: wr) G s s' → Kp h0 s'.heap → s'.heap.get? T' = some (lob (pre ++ (xss.drop i).flatten) c') → (T' = T ∧ i = n ∨ h0.objs.size ≤ T') → R (.ok (.ret (.ref T'))) s') →
      codeAny (model P w) A (.builtin "sum.loop" ⟨[.ref I, .ref S, rawInt 2, rawInt 0], []⟩) R s := by
  have nw : S ∉ wr := fun z => hSf (W.sub _ z)
  have up : ∀ b ∈ wr, b ∈ S :: wr := fun b z => List.mem_cons_of_mem _ z
  have kp : ∀ {s s' : Shared}, Moved wr G s s' → Kp h0 s.heap → Kp h0 s'.heap := fun m q b o e =>
    m.heap b o (fun z => absurd (Nat.lt_of_lt_of_le (Heap.lt_size e) (hw0 b z)) (Nat.lt_irrefl _)) (q b o e)
  intro k
  induction k with
  | zero =>
    intro i s T c ct pre hk hi hst hkp hSz hTS hTw hS hT hL hR
    obtain rfl : i = n := by omega
    refine codeAny_builtin F.entry_sum_loop ?_
    rw [Around.under_plainId F.plain_sum_loop _]
    show wpAny _ A.in1 (seqItems? (.ref S) >>= _) _ _ s
    refine wpAny_bind (wpAny_seqItems hS rfl ?_)
    show wpAny _ A.in1 (tryCatch (pyNext (.ref I)) _ >>= _) _ _ s
    refine wpAny_bind (wpAny_tryCatch (W.done s _ _ hst fun s1 m => ?_))
    have e : (xss.drop i).flatten = [] := by rw [List.drop_of_length_le (by omega)]; rfl
    refine wpAny_pure (hR s1 T ct (m.mono up) (kp m hkp) ?_ (.inl ⟨rfl, rfl⟩))
    rw [e, List.append_nil]
    exact m.heap T _ hTw hT
  | succ k ih =>
    intro i s T c ct pre hk hi hst hkp hSz hTS hTw hS hT hL hR
    have lt : i < n := by omega
    refine codeAny_builtin F.entry_sum_loop ?_
    rw [Around.under_plainId F.plain_sum_loop _]
    show wpAny _ A.in1 (seqItems? (.ref S) >>= _) _ _ s
    refine wpAny_bind (wpAny_seqItems hS rfl ?_)
    show wpAny _ A.in1 (tryCatch (pyNext (.ref I)) _ >>= _) _ _ s
    refine wpAny_bind (wpAny_tryCatch (W.item i s _ _ lt hst fun v s1 hv st1 m => ?_))
    obtain ⟨b, xs, cb, e1, rfl, hb⟩ := hval i v hv
    have S1 := m.heap S _ nw hS
    have T1 := m.heap T _ hTw hT
    have K1 := kp m hkp
    have B1 := K1 b _ hb
    have dr : xss.drop i = xs :: xss.drop (i + 1) := by
      rw [List.drop_eq_getElem_cons (by omega)]
      congr 1
      exact (List.getElem?_eq_some_iff.mp e1).2
    rw [dr, List.flatten_cons, List.length_append] at hL
    show wpAny _ A.in1 ((holding [Value.ref b] (binaryOp .Add (.ref T) (.ref b))).attempt >>= _) _ _ _
    refine wpAny_bind (wpAny_attempt (wpAny_holding (PySem.P.add_list T1 B1 ?_ (by rw [List.size_toArray, List.size_toArray]; omega))))
    have ea : pre.toArray ++ xs.toArray = (pre ++ xs).toArray := by simp
    rw [ea]
    have sl : S < s1.heap.objs.size := Heap.lt_size S1
    have S2 : (s1.heap.push (lob (pre ++ xs) 0)).get? S = some (lob [.ref T] c) := Heap.get?_push_of_some _ S1
    show wpAny _ A.in1 (updateSeq S (fun _ => #[.ref s1.heap.objs.size]) >>= _) _ _ _
    refine wpAny_bind (wpAny_updateSeq S2 rfl ?_)
    have S3 := Heap.get?_update_self (Obj.mapSeq fun _ => #[Value.ref s1.heap.objs.size]) S2 rfl
    refine wpAny_bind (wpAny_letGo ?_)
    refine wpAny_bind (wpAny_updateSeq S3 rfl (wpAny_pure ⟨plainId_quiet F.plain_sum_loop _, ?_⟩))
    have up2 : ∀ b o, b ≠ S → s1.heap.get? b = some o → (((s1.heap.push (lob (pre ++ xs) 0)).update S (Obj.mapSeq fun _ => #[Value.ref s1.heap.objs.size])).update S (Obj.mapSeq fun _ => #[Value.ref s1.heap.objs.size])).get? b = some o := fun b o hb e =>
      (Heap.get?_update_other _ _ (fun h : S = b => hb h.symm)).trans ((Heap.get?_update_other _ _ (fun h : S = b => hb h.symm)).trans (Heap.get?_push_of_some _ e))
    have nT : s1.heap.objs.size ≠ S := Nat.ne_of_gt sl
    have h0le : h0.objs.size ≤ s1.heap.objs.size := Nat.le_trans hS0 (Nat.le_of_lt sl)
    refine ih (i + 1) _ s1.heap.objs.size _ 0 (pre ++ xs) (by omega) lt (W.frame _ s1 _ _ st1 (Nat.le_refl _) fun b hb o e => up2 b o (fun z => hSf (z ▸ hb)) e) (fun b o e => up2 b o (fun z => absurd (Nat.lt_of_lt_of_le (Heap.lt_size e) hS0) (by rw [z]; exact Nat.lt_irrefl _)) (K1 b o e))
      (by rw [Heap.size_update, Heap.size_update, size_push']; exact Nat.lt_succ_of_lt sl) nT (fun z => absurd (hfp _ (W.sub _ z)) (Nat.not_lt_of_le (Nat.le_of_lt sl))) (Heap.get?_update_self _ S3 rfl) ?_ ?_ fun s3 T3 c3 m3 k3 g3 f3 => ?_
    · rw [Heap.get?_update_other _ _ nT.symm, Heap.get?_update_other _ _ nT.symm]
      exact Heap.get?_push_size _ rfl
    · rw [List.length_append]; omega
    · refine hR s3 T3 c3 (Moved.trans W.gtrans ((m.mono up).then_heap (Nat.le_refl _) fun b o hb e => up2 b o (fun z => hb (z ▸ List.mem_cons_self)) e) m3) k3 ?_ (.inr ?_)
      · rw [dr, List.flatten_cons, ← List.append_assoc]; exact g3
      · rcases f3 with ⟨z, _⟩ | z
        · rw [z]; exact h0le
        · exact z
theorem args_sum2 (a b : Value) : argsOk "sum" ⟨[a, b], []⟩ := by unfold argsOk; kernel_rfl
theorem call_sum {l p : Addr} {vs : List Value} {xss : List (List Value)} {cl cp : Nat} {Q : Value → Shared → Prop} (hh : A.handled = none) (hl : s.heap.get? l = some (lob vs cl)) (hp : s.heap.get? p = some (lob [] cp)) (hn : vs.length = xss.length)
    (hit : ∀ (i : Nat) v, vs[i]? = some v → ∃ b xs c, xss[i]? = some xs ∧ v = .ref b ∧ s.heap.get? b = some (lob xs c)) (hz : xss.flatten.length ≤ sizeLine)
    (h0 : vs = [] → ∀ (h' : Heap) (tk : Nat), Kp s.heap h' → Q (.ref p) { s with heap := h', toks := tk }) (h1 : ∀ (h' : Heap) (tk : Nat) T c, Kp s.heap h' → s.heap.objs.size ≤ T → h'.get? T = some (lob xss.flatten c) → Q (.ref T) { s with heap := h', toks := tk }) :
    wpAny (model P w) A (call (.builtin "sum") [.ref l, .ref p]) Q E s := by
  refine call_function_tree F.kind_sum F.plain_sum F.entry_sum (args_sum2 _ _) ?_
  unfold Builtin.«sum»
  simp only [List.length_cons, List.length_nil]
  rw [if_neg (by decide)]
  refine wpAny_bind (wpAny_of_eq (show Builtin.Builtins.bindParams "sum" ["start"] 0 ⟨[.ref p], []⟩ = pure [some (.ref p)] from rfl) ?_)
  refine wpAny_bind (wpAny_pyIter_list (l := l) (items := vs.toArray) ⟨_, hl, rfl, cl, rfl⟩ ?_)
  have hti : Shared.TypeIs { s with heap := s.heap.push { cls := .type "list_iterator", data := .fields #[.ref l, .int 0 0] } } (.ref p) "list" := ⟨_, Heap.get?_push_of_some _ hp, rfl⟩
  refine wpAny_bind (wpAny_pure ?_)
  simp only [List.forIn_cons, List.forIn_nil]
  refine wpAny_bind (wpAny_bind (wpAny_bind (wpAny_isInstance (T := "list") (b := false) hti F.sub_list_str ?_)))
  simp only [Bool.false_eq_true, if_false]
  refine wpAny_pure (wpAny_bind (wpAny_bind (wpAny_isInstance (T := "list") (b := false) hti F.sub_list_bytes ?_)))
  simp only [Bool.false_eq_true, if_false]
  refine wpAny_pure (wpAny_bind (wpAny_bind (wpAny_isInstance (T := "list") (b := false) hti F.sub_list_bytearray ?_)))
  simp only [Bool.false_eq_true, if_false]
  refine wpAny_pure (wpAny_pure ?_)
  refine wpAny_bind (wpAny_newObj_type ?_)
  have lt : l < s.heap.objs.size := Heap.lt_size hl
  have pt : p < s.heap.objs.size := Heap.lt_size hp
  have sz1 : (s.heap.push { cls := .type "list_iterator", data := .fields #[.ref l, .int 0 0] }).objs.size = s.heap.objs.size + 1 := Heap.size_push ..
  have hh2 : A.in1.handled = none := by simp [hh]
  have W := (Walks.list (prog := P) (w := w) hh2 s.heap.objs.size l (Nat.ne_of_lt lt) vs.toArray).toS
  have li : (s.heap.push { cls := .type "list_iterator", data := .fields #[.ref l, .int 0 0] }).IsList l vs.toArray := ⟨_, Heap.get?_push_of_some _ hl, rfl, cl, rfl⟩
  refine wpAny_pure ⟨plainId_quiet F.plain_sum_loop _, ?_⟩
  show codeAny _ _ (.builtin "sum.loop" ⟨[.ref s.heap.objs.size, .ref (s.heap.push { cls := .type "list_iterator", data := .fields #[.ref l, .int 0 0] }).objs.size, rawInt 2, rawInt 0], []⟩) _ _
  refine loop (h0 := s.heap) W (s.heap.push { cls := .type "list_iterator", data := .fields #[.ref l, .int 0 0] }).objs.size ?_ (by rw [sz1]; exact Nat.le_succ _) (fun b hb => by rw [List.mem_singleton.mp hb]; exact Nat.le_refl _) xss (by rw [List.size_toArray]; exact hn) (fun i v hv => hit i v (by rw [List.getElem?_toArray] at hv; exact hv)) ?_ (vs.toArray.size - 0) 0 { s with heap := (s.heap.push { cls := .type "list_iterator", data := .fields #[.ref l, .int 0 0] }).push (lob [.ref p] 0) } p 0 cp [] rfl (Nat.zero_le _)
    ⟨⟨_, Heap.get?_push_of_some _ (Heap.get?_push_size _ rfl), rfl, rfl⟩, li.push _⟩ (fun b o e => Heap.get?_push_of_some _ (Heap.get?_push_of_some _ e)) ?hsz (by rw [sz1]; exact Nat.ne_of_lt (Nat.lt_succ_of_lt pt)) (fun z => by rw [List.mem_singleton.mp z] at pt; exact Nat.lt_irrefl _ pt)
    (Heap.get?_push_size _ rfl) (Heap.get?_push_of_some _ (Heap.get?_push_of_some _ hp)) (by simpa using hz) fun s2 T c m k g f => ?_
  case hsz => exact Nat.lt_of_lt_of_eq (Nat.lt_succ_self _) (size_push' _ _).symm
  · rw [sz1]; simp only [List.mem_cons, List.not_mem_nil, or_false, not_or]; exact ⟨Nat.ne_of_gt (Nat.lt_succ_self _), Nat.ne_of_gt (Nat.lt_succ_of_lt lt)⟩
  · intro b hb
    rw [sz1]
    rcases List.mem_cons.mp hb with z | z
    · rw [z]; exact Nat.lt_succ_self _
    · rw [List.mem_singleton.mp z]; exact Nat.lt_succ_of_lt lt
  · obtain ⟨h', g2, d', tk', os'⟩ := s2
    have e1 : g2 = s.gens := m.gens
    have e2 : d' = s.drawn := m.drawn
    have e3 : os' = s.os := m.os
    subst e1; subst e2; subst e3
    simp only [List.drop_zero, List.nil_append] at g
    rcases f with ⟨rfl, z⟩ | z
    · have ev : vs = [] := List.eq_nil_of_length_eq_zero (by rw [List.size_toArray] at z; omega)
      exact h0 ev h' tk' k
    · exact h1 h' tk' T c k z g
end
end EVM

end
section
/-! EV, part 0: a small language of pure code over plain data, and its evaluator.
A slot of a frame holds plain data (dat), a list of its own that nothing else refers to (own), or a list that the caller handed in to be changed (io). -/
set_option linter.all false
namespace EV
open PySem

abbrev D := PyData

/-- what a slot holds -/
inductive Sv where
  | dat (d : D) | own (xs : List D) | io (xs : List D)
abbrev Ro := List (Option Sv)
/-- what an expression gives: data, or a new list that nothing refers to -/
inductive W where
  | dat (d : D) | new (xs : List D)
/-- an exception: its class by number, its field -/
structure Exn where
  cls : Nat
  fld : Option D
inductive Res (α : Type) where
  | ok (a : α) | exc (x : Exn) (ρ : Ro) | stuck
inductive FRes where
  | ok (w : W) (io : Option (List D)) | exc (x : Exn) (io : Option (List D)) | stuck
@[inline] def Res.bind {α β : Type} (r : Res α) (f : α → Res β) : Res β :=
  match r with
  | .ok a => f a
  | .exc x ρ => .exc x ρ
  | .stuck => .stuck
def Res.of {α : Type} : Option α → Res α
  | some a => .ok a
  | none => .stuck

def W.d : W → D
  | .dat d => d
  | .new xs => .list xs
def W.sv : W → Sv
  | .dat d => .dat d
  | .new xs => .own xs
def Sv.d : Sv → D
  | .dat d => d
  | .own xs => .list xs
  | .io xs => .list xs

mutual
/-- no list within -/
def lf : D → Bool
  | .none | .bool _ | .int _ | .str _ => true
  | .tuple xs => lfs xs
  | .list _ => false
  | .dict _ => false
def lfs : List D → Bool
  | [] => true
  | x :: xs => lf x && lfs xs
end

/-! ### operators -/
inductive Op2 where
  | add | sub | mul | fdiv | mod | pow | eq | ne | lt | le | gt | ge | isin | notin
  deriving DecidableEq
inductive Op1 where
  | neg | isN | notN
  deriving DecidableEq

def b2i (b : Bool) : Int := if b then 1 else 0
/-- == is answered -/
def eqOk (d e : D) : Bool := SeqAt.shaped d && SeqAt.shaped e
def small64 (i : Int) : Bool := decide (-(2 ^ 64) < i) && decide (i < 2 ^ 64)
def items : D → Option (List D)
  | .list xs => some xs
  | .tuple xs => some xs
  | _ => none
def ltOk (d e : D) : Bool :=
  match d with
  | .int _ | .str _ | .tuple _ => W.alike d e && decide (d.depth ≤ 64)
  | _ => false
def allShaped : List D → Bool
  | [] => true
  | x :: xs => SeqAt.shaped x && allShaped xs
def inD (x : D) (xs : List D) : Bool := xs.any fun y => PyData.eqv y x

def op2 : Op2 → D → D → Option W
  | .add, .int i, .int j => some (.dat (.int (i + j)))
  | .add, .str x, .str y => if x.length + y.length ≤ sizeLine then some (.dat (.str (x ++ y))) else none
  | .add, .list xs, .list ys => if xs.length + ys.length ≤ sizeLine then some (.new (xs ++ ys)) else none
  | .add, .tuple xs, .tuple ys => if xs.length + ys.length ≤ sizeLine then some (.dat (.tuple (xs ++ ys))) else none
  | .sub, .int i, .int j => some (.dat (.int (i - j)))
  | .sub, .int i, .bool b => some (.dat (.int (i - b2i b)))
  | .mul, .int i, .int j => if small64 i || small64 j then some (.dat (.int (i * j))) else none
  | .fdiv, .int i, .int j => if 0 < j ∧ j < 1073741824 then some (.dat (.int (i / j))) else none
  | .mod, .int i, .int j => if 0 < j then some (.dat (.int (i % j))) else none
  | .pow, .int i, .int j => if 0 ≤ j ∧ j ≤ 1000000 ∧ i.natAbs < 2 ^ 64 then some (.dat (.int (i ^ j.toNat))) else none
  | .eq, d, e => if eqOk d e then some (.dat (.bool (PyData.eqv d e))) else none
  | .ne, d, e => if eqOk d e then some (.dat (.bool (!PyData.eqv d e))) else none
  | .lt, d, e => if ltOk d e then some (.dat (.bool (W.dataLt d e))) else none
  | .le, .int i, .int j => some (.dat (.bool (decide (i ≤ j))))
  | .gt, .int i, .int j => some (.dat (.bool (decide (j < i))))
  | .ge, .int i, .int j => some (.dat (.bool (decide (j ≤ i))))
  | .isin, .str x, .str y => some (.dat (.bool (!(Builtin.Str.occurrences y x 0 y.length 1).isEmpty)))
  | .isin, x, .list xs => if SeqAt.shaped x && SeqAt.shaped (.list xs) then some (.dat (.bool (inD x xs))) else none
  | .isin, x, .tuple xs => if SeqAt.shaped x && SeqAt.shaped (.tuple xs) then some (.dat (.bool (inD x xs))) else none
  | .notin, .str x, .str y => some (.dat (.bool (!!(Builtin.Str.occurrences y x 0 y.length 1).isEmpty)))
  | .notin, x, .list xs => if SeqAt.shaped x && SeqAt.shaped (.list xs) then some (.dat (.bool (!inD x xs))) else none
  | .notin, x, .tuple xs => if SeqAt.shaped x && SeqAt.shaped (.tuple xs) then some (.dat (.bool (!inD x xs))) else none
  | _, _, _ => none

def isNone : D → Bool
  | .none => true
  | _ => false
def op1 : Op1 → D → Option W
  | .neg, .int i => some (.dat (.int (-i)))
  | .isN, d => some (.dat (.bool (isNone d)))
  | .notN, d => some (.dat (.bool (!isNone d)))
  | _, _ => none

/-! ### built-in functions -/
inductive Ty where
  | int | bool | str | list | tuple
  deriving DecidableEq
def Ty.has : Ty → D → Bool
  | .int, .int _ => true
  | .int, .bool _ => true
  | .bool, .bool _ => true
  | .str, .str _ => true
  | .list, .list _ => true
  | .tuple, .tuple _ => true
  | _, _ => false
inductive Bi where
  | len | abs | int | list | tuple | sorted | sortset | all | any | sum | sumL
  deriving DecidableEq
def bools : List D → Option (List Bool)
  | [] => some []
  | .bool b :: r => (bools r).map (b :: ·)
  | _ => none
def intL : List D → Option (List Int)
  | [] => some []
  | .int i :: r => (intL r).map (i :: ·)
  | _ => none
/-- all can be compared with one another -/
def allAlike (xs : List D) : Bool := xs.all fun x => xs.all fun y => W.alike x y
def depthOk (xs : List D) : Bool := xs.all fun x => decide (x.depth ≤ 64)
def notNone : D → Bool
  | .none => false
  | _ => true
def sortOk (xs : List D) : Bool := allAlike xs && depthOk xs && xs.all notNone
def dLe (x y : D) : Bool := !W.dataLt y x
def insD (x : D) : List D → List D
  | [] => [x]
  | y :: r => if dLe x y then x :: y :: r else y :: insD x r
def sortD (xs : List D) : List D := xs.foldr insD []
def addD (x : D) : List D → List D
  | [] => [x]
  | y :: r => if W.dataLt x y then x :: y :: r else if W.dataLt y x then y :: addD x r else y :: r
/-- sorted, without repeats -/
def uniqD (xs : List D) : List D := xs.foldr addD []
def intRow : D → Bool
  | .tuple xs => (intL xs).isSome
  | _ => false
def setOk (xs : List D) : Bool := decide (xs.length < 64) && ((intL xs).isSome || xs.all intRow)
def listL : List D → Option (List (List D))
  | [] => some []
  | .list xs :: r => (listL r).map (xs :: ·)
  | _ => none

def chars (x : Str) : List D := x.cps.toList.map fun c => .str ⟨#[c]⟩
def bi : Bi → List D → Option W
  | .len, [.list xs] => some (.dat (.int xs.length))
  | .len, [.tuple xs] => some (.dat (.int xs.length))
  | .len, [.str x] => if x.length ≤ sizeLine then some (.dat (.int x.length)) else none
  | .abs, [.int i] => some (.dat (.int (if i < 0 then -i else i)))
  | .int, [.int i] => some (.dat (.int i))
  | .int, [.bool b] => some (.dat (.int (b2i b)))
  | .list, [.list xs] => some (.new xs)
  | .list, [.tuple xs] => some (.new xs)
  | .list, [.str x] => if x.length ≤ sizeLine then some (.new (chars x)) else none
  | .tuple, [.list xs] => some (.dat (.tuple xs))
  | .tuple, [.tuple xs] => some (.dat (.tuple xs))
  | .all, [.list xs] => (bools xs).map fun bs => .dat (.bool (bs.all id))
  | .any, [.list xs] => (bools xs).map fun bs => .dat (.bool (bs.any id))
  | .sum, [.list xs] => (intL xs).map fun ns => .dat (.int ns.sum)
  | .sorted, [.list xs] => if sortOk xs then some (.new (sortD xs)) else none
  | .sortset, [.list xs] => if setOk xs then some (.new (uniqD xs)) else none
  | .sortset, [.tuple xs] => if setOk xs then some (.new (uniqD xs)) else none
  | .sumL, [.list xs] => (listL xs).bind fun ls => if ls.flatten.length ≤ sizeLine then some (.new ls.flatten) else none
  | _, _ => none

/-! ### the language -/
/-- methods that change a slot's list -/
inductive Me where
  | append | extend | popAt
  deriving DecidableEq
inductive Tg where
  | one (i : Nat) | many (is : List Nat)
def Tg.slots : Tg → List Nat
  | .one i => [i]
  | .many is => is

mutual
inductive E where
  | var (i : Nat)
  | cst (d : D)
  | op2 (o : Op2) (a b : E)
  | op1 (o : Op1) (a : E)
  | chain (o o' : Op2) (a b c : E)
  | bop (isAnd : Bool) (es : Es)
  | not (a : E)
  | orT (a b : E)
  | ite (c a b : E)
  | tup (es : Es)
  | lst (es : Es)
  | idx (a b : E)
  | slc (a : E) (lo hi : Eo)
  | call (f : Nat) (es : Es)
  | bi (b : Bi) (es : Es)
  | rep (a b : E)
  | isi (a : E) (ts : List Ty) (sole : Bool)
  | comp (t : Tg) (it : It) (c : Eo) (e : E)
  | comp2 (t : Tg) (it : It) (c : Eo) (t' : Tg) (it' : It) (c' : Eo) (e : E)
  | meth (m : Me) (i : Nat) (es : Es)
  | rev (a : E)
  | glo (k : Nat) (d : D)
  | call0 (f : Nat)
  | callK (f : Nat) (perm : List Nat) (es : Es)
inductive Eo where
  | no | yes (e : E)
inductive Es where
  | nil | cons (e : E) (r : Es) | star (e : E) (r : Es)
inductive It where
  | seq (e : E) | range1 (e : E) | range2 (a b : E) | down (a b : E) | enum (e : E) | zip (a b : E)
end
mutual
inductive S where
  | asg (i : Nat) (e : E)
  | asgT (is : List Nat) (e : E)
  | par (is : List Nat) (es : Es)
  | sub (i : Nat) (ix v : E)
  | expr (e : E)
  | ret (e : E)
  | retN
  | ite (c : E) (a b : Ss)
  | for_ (t : Tg) (it : It) (b : Ss)
  | while_ (n : Nat) (c : E) (b : Ss)
  | raise (cls : Nat) (e : Eo)
  | pass | brk | cont
inductive Ss where
  | nil | cons (s : S) (r : Ss)
end
inductive Flow where
  | next | ret (w : W) | brk | cont

/-! ### slots -/
def get (ρ : Ro) (i : Nat) : Option Sv := (ρ[i]?).join
/-- a slot's list, read and let go: nothing may change it from now on -/
def leak (ρ : Ro) (i : Nat) : Option (D × Ro) :=
  match get ρ i with
  | some (.dat d) => some (d, ρ)
  | some (.own xs) => some (.list xs, ρ.set i (some (.dat (.list xs))))
  | _ => none
def setD (ρ : Ro) (i : Nat) (w : W) : Option Ro :=
  match ρ[i]? with
  | some (some (.io _)) => none
  | some _ => some (ρ.set i (some w.sv))
  | none => none
def setDs (ρ : Ro) : List Nat → List D → Option Ro
  | [], [] => some ρ
  | i :: is, d :: ds => (setD ρ i (.dat d)).bind fun ρ' => setDs ρ' is ds
  | _, _ => none
def bindT : Tg → D → Ro → Option Ro
  | .one i, d, ρ => setD ρ i (.dat d)
  | .many is, .tuple ds, ρ => setDs ρ is ds
  | .many _, _, _ => none
def wipeR (ρ : Ro) (is : List Nat) : Ro := is.foldr (fun i r => r.set i none) ρ
/-- the slots is as they were in ρ0 -/
def backR (ρ0 ρ : Ro) (is : List Nat) : Ro := is.foldr (fun i r => r.set i ((ρ0[i]?).join)) ρ

/-- an operand: a slot that is looked at when all operands are there, or a value -/
inductive Opd where
  | slot (i : Nat) | val (w : W)
def Opd.rd (ρ : Ro) : Opd → Option D
  | .slot i => (get ρ i).map Sv.d
  | .val w => some w.d
def rdAll (ρ : Ro) : List Opd → Option (List D)
  | [] => some []
  | o :: os => (o.rd ρ).bind fun d => (rdAll ρ os).map (d :: ·)

/-! ### items of what is walked -/
def rangeD (a b : Int) : List D := (List.range (b - a).toNat).map fun (i : Nat) => .int (a + i)
def downD (a b : Int) : List D := (List.range (a - b).toNat).map fun (i : Nat) => .int (a + i * (-1))
def small62 (i : Int) : Bool := decide (-(2 ^ 62) ≤ i) && decide (i < 2 ^ 62)
def seqD : D → Option (List D)
  | .list xs => some xs
  | .tuple xs => some xs
  | .str x => if x.length ≤ sizeLine then some (chars x) else none
  | _ => none
def enumD (xs : List D) : List D := (xs.zipIdx).map fun p => .tuple [.int p.2, p.1]
def zipD (xs ys : List D) : List D := (xs.zip ys).map fun p => .tuple [p.1, p.2]

def sIx (n d : Nat) : Option Int → Nat
  | none => d
  | some v => if v < 0 then ((v + n).toNat) else min v.toNat n
def cutD (xs : List D) (lo hi : Option Int) : List D := (xs.drop (sIx xs.length 0 lo)).take (sIx xs.length xs.length hi - sIx xs.length 0 lo)
def ixN (n : Nat) (i : Int) : Option Nat := if 0 ≤ i then (if i < n then some i.toNat else none) else if -(n : Int) ≤ i then some (i + n).toNat else none
def atD (xs : List D) (i : Int) : Option D := (ixN xs.length i).bind fun j => xs[j]?
def idxD : D → D → Option D
  | .list xs, .int i => atD xs i
  | .tuple xs, .int i => atD xs i
  | .str x, .int i => if x.length ≤ sizeLine then (ixN x.length i).bind fun j => (x.cps[j]?).map fun c => .str ⟨#[c]⟩ else none
  | _, _ => none
def slcD : D → Option Int → Option Int → Option W
  | .list xs, lo, hi => some (.new (cutD xs lo hi))
  | .tuple xs, lo, hi => some (.dat (.tuple (cutD xs lo hi)))
  | _, _, _ => none

def revD : D → Option W
  | .list xs => some (.new xs.reverse)
  | .tuple xs => some (.dat (.tuple xs.reverse))
  | _ => none
/-! ### loops -/
/-- no exception leaves a comprehension -/
def noExc {α : Type} : Res α → Res α
  | .ok a => .ok a
  | .exc _ _ => .stuck
  | .stuck => .stuck
def compL (bnd : D → Ro → Option Ro) (test : Ro → Res (Bool × Ro)) (elt : Ro → Res (D × Ro)) (is : List Nat) : List D → Ro → List D → Res (List D × Ro)
  | [], ρ, acc => .ok (acc, ρ)
  | x :: xs, ρ, acc => (Res.of (bnd x ρ)).bind fun ρ1 => (noExc (test ρ1)).bind fun p =>
      if p.1 then (noExc (elt p.2)).bind fun q => compL bnd test elt is xs (wipeR q.2 is) (acc ++ [q.1])
      else compL bnd test elt is xs (wipeR p.2 is) acc
def compL2 (bnd : D → Ro → Option Ro) (test : Ro → Res (Bool × Ro)) (inner : Ro → List D → Res (List D × Ro)) (is : List Nat) : List D → Ro → List D → Res (List D × Ro)
  | [], ρ, acc => .ok (acc, ρ)
  | x :: xs, ρ, acc => (Res.of (bnd x ρ)).bind fun ρ1 => (noExc (test ρ1)).bind fun p =>
      if p.1 then (noExc (inner p.2 acc)).bind fun q => compL2 bnd test inner is xs (wipeR q.2 is) q.1
      else compL2 bnd test inner is xs (wipeR p.2 is) acc
def forL (bnd : D → Ro → Option Ro) (body : Ro → Res (Flow × Ro)) : List D → Ro → Res (Flow × Ro)
  | [], ρ => .ok (.next, ρ)
  | x :: xs, ρ => (Res.of (bnd x ρ)).bind fun ρ1 => (body ρ1).bind fun p =>
      match p.1 with
      | .next => forL bnd body xs p.2
      | .cont => forL bnd body xs p.2
      | .brk => .ok (.next, p.2)
      | .ret w => .ok (.ret w, p.2)
def whileL (test : Ro → Res (Bool × Ro)) (body : Ro → Res (Flow × Ro)) : Nat → Ro → Res (Flow × Ro)
  | 0, _ => .stuck
  | n + 1, ρ => (test ρ).bind fun q =>
      if q.1 then (body q.2).bind fun p =>
        match p.1 with
        | .next => whileL test body n p.2
        | .cont => whileL test body n p.2
        | .brk => .ok (.next, p.2)
        | .ret w => .ok (.ret w, p.2)
      else .ok (.next, q.2)

/-! ### calls -/
/-- the function's table: name, how many parameters, which of them is handed in to be changed, how many slots, the body -/
structure Fn where
  name : Str
  np : Nat
  io : Option Nat
  ns : Nat
  body : Ss
def isListSlot (ρ : Ro) (i : Nat) : Bool := match get ρ i with | some (.own _) => true | some (.io _) => true | _ => false
def isOwnSlot (ρ : Ro) (i : Nat) : Bool := match get ρ i with | some (.own _) => true | _ => false
/-- one place on -/
def down : Option Nat → Option Nat
  | some (n + 1) => some n
  | _ => none
/-- the slots whose own lists are lent (passed where nothing is to be changed) -/
def lentOf (ρ : Ro) : List Opd → Option Nat → List Nat
  | [], _ => []
  | o :: os, io => (if io = some 0 then [] else match o with | .slot i => if isListSlot ρ i then [i] else [] | _ => []) ++ lentOf ρ os (down io)
/-- the slot that is handed in to be changed (none: a new list, or nothing) -/
def ioOf (ρ : Ro) (os : List Opd) : Option Nat → Option (Option Nat)
  | none => some none
  | some j => match os[j]? with
    | some (.slot i) => if isListSlot ρ i then some (some i) else none
    | some (.val (.new _)) => some none
    | _ => none
def putIo (ρ : Ro) : Option Nat → Option (List D) → Ro
  | some i, some xs => match get ρ i with
    | some (.own _) => ρ.set i (some (.own xs))
    | some (.io _) => ρ.set i (some (.io xs))
    | _ => ρ
  | _, _ => ρ
/-- a lent list may have got into the answer: nothing may change it any more -/
def frzSv : Option Sv → Option Sv
  | some (.own xs) => some (.dat (.list xs))
  | s => s
def frzR (lent : List Nat) (ρ : Ro) : Ro := ρ.mapIdx fun i s => if lent.contains i then frzSv s else s
def lfW : W → Bool
  | .dat d => lf d
  | .new xs => lfs xs
def clean (w : W) (io : Option (List D)) : Bool := lfW w && (match io with | some xs => lfs xs | none => true)
def notLent : Option Nat → List Nat → Bool
  | some i, lent => !lent.contains i
  | none, _ => true
def callE (fn : Fn) (cl : List D → FRes) (os : List Opd) (ρ : Ro) : Res (W × Ro) :=
  match rdAll ρ os, ioOf ρ os fn.io with
  | some ds, some io =>
    let lent := lentOf ρ os fn.io
    if notLent io lent then
      match cl ds with
      | .ok w r => if clean w r then .ok (w, putIo ρ io r) else if lent.all (isOwnSlot ρ) then .ok (w, frzR lent (putIo ρ io r)) else .stuck
      | .exc x r => if lent.all (isOwnSlot ρ) then .exc x (frzR lent (putIo ρ io r)) else .stuck
      | .stuck => .stuck
    else .stuck
  | _, _ => .stuck

def tru : D → Option Bool
  | .none => some false
  | .bool b => some b
  | .int i => some (i != 0)
  | .str _ => none
  | .list xs => some (!xs.isEmpty)
  | .tuple xs => some (!xs.isEmpty)
  | .dict _ => none

def intO : D → Option Int
  | .int i => some i
  | _ => none
def boolO : D → Option Bool
  | .bool b => some b
  | _ => none

/-! ### expressions -/
section
variable (F : Nat → Option Fn) (cl : Nat → List D → FRes)
/-- a method on a slot's list -/
def methE (m : Me) (i : Nat) (ds : List D) (ρ : Ro) : Res (W × Ro) :=
  match get ρ i with
  | some (.own xs) =>
    match m, ds with
    | .append, [d] => if xs.length < sizeLine then .ok (.dat .none, ρ.set i (some (.own (xs ++ [d])))) else .stuck
    | .extend, [d] => match items d with
      | some ys => if xs.length + ys.length ≤ sizeLine then .ok (.dat .none, ρ.set i (some (.own (xs ++ ys)))) else .stuck
      | none => .stuck
    | .popAt, [.int k] => match ixN xs.length k with
      | some j => match xs[j]? with
        | some d => .ok (.dat d, ρ.set i (some (.own (xs.eraseIdx j))))
        | none => .stuck
      | none => .stuck
    | _, _ => .stuck
  | _ => .stuck
/-- an operand: a name is looked at later -/
def opdOf (r : Ro → Res (W × Ro)) : E → Ro → Res (Opd × Ro)
  | .var i, ρ => (Res.of (get ρ i)).bind fun _ => .ok (.slot i, ρ)
  | _, ρ => (r ρ).bind fun p => .ok (.val p.1, p.2)
/-- an operand that is data, or a slot -/
def opdD (r : Ro → Res (W × Ro)) : E → Ro → Res (Opd × Ro)
  | .var i, ρ => (Res.of (get ρ i)).bind fun _ => .ok (.slot i, ρ)
  | _, ρ => (r ρ).bind fun p => .ok (.val (.dat p.1.d), p.2)
def datOf (r : Ro → Res (W × Ro)) (ρ : Ro) : Res (D × Ro) := (r ρ).bind fun p => .ok (p.1.d, p.2)
def testOf (r : Ro → Res (W × Ro)) (ρ : Ro) : Res (Bool × Ro) := (r ρ).bind fun p => (Res.of (boolO p.1.d)).bind fun b => .ok (b, p.2)
mutual
def ev : E → Ro → Res (W × Ro)
  | .var i, ρ => (Res.of (leak ρ i)).bind fun p => .ok (.dat p.1, p.2)
  | .cst d, ρ => .ok (.dat d, ρ)
  | .op2 o a b, ρ => (opdOf (ev a) a ρ).bind fun p => (opdOf (ev b) b p.2).bind fun q =>
      match p.1.rd q.2, q.1.rd q.2 with
      | some d, some e => (Res.of (op2 o d e)).bind fun w => .ok (w, q.2)
      | _, _ => .stuck
  | .op1 o a, ρ => (opdOf (ev a) a ρ).bind fun p => (Res.of ((p.1.rd p.2).bind (op1 o))).bind fun w => .ok (w, p.2)
  | .chain o o' a b c, ρ => (opdOf (ev a) a ρ).bind fun p => (opdOf (ev b) b p.2).bind fun q =>
      match p.1.rd q.2, q.1.rd q.2 with
      | some d, some e =>
        match op2 o d e with
        | some (.dat (.bool true)) => (opdOf (ev c) c q.2).bind fun r =>
          match q.1.rd r.2, r.1.rd r.2 with
          | some e, some g => (Res.of (op2 o' e g)).bind fun w => .ok (w, r.2)
          | _, _ => .stuck
        | some (.dat (.bool false)) => .ok (.dat (.bool false), q.2)
        | _ => .stuck
      | _, _ => .stuck
  | .bop k es, ρ => evB k es ρ
  | .not a, ρ => (testOf (ev a) ρ).bind fun p => .ok (.dat (.bool (!p.1)), p.2)
  | .orT a b, ρ => (ev a ρ).bind fun p => match tru p.1.d with
      | some true => .ok p
      | some false => ev b p.2
      | none => .stuck
  | .ite c a b, ρ => (testOf (ev c) ρ).bind fun p => if p.1 then ev a p.2 else ev b p.2
  | .tup es, ρ => (evL es ρ).bind fun p => if p.1.length ≤ sizeLine then .ok (.dat (.tuple p.1), p.2) else .stuck
  | .lst es, ρ => (evL es ρ).bind fun p => if p.1.length ≤ sizeLine then .ok (.new p.1, p.2) else .stuck
  | .idx a b, ρ => (opdOf (ev a) a ρ).bind fun p => (opdOf (ev b) b p.2).bind fun q =>
      match p.1.rd q.2, q.1.rd q.2 with
      | some d, some e => (Res.of (idxD d e)).bind fun w => .ok (.dat w, q.2)
      | _, _ => .stuck
  | .slc a lo hi, ρ => (opdOf (ev a) a ρ).bind fun p => (evI lo p.2).bind fun q => (evI hi q.2).bind fun r =>
      match p.1.rd r.2 with
      | some d => (Res.of (slcD d q.1 r.1)).bind fun w => .ok (w, r.2)
      | none => .stuck
  | .call f es, ρ => match F f with
      | some fn => (evCA es fn.io ρ).bind fun p => callE fn (cl f) p.1 p.2
      | none => .stuck
  | .bi b es, ρ => (evA es ρ).bind fun p => (Res.of ((rdAll p.2 p.1).bind (bi b))).bind fun w => .ok (w, p.2)
  | .rep a b, ρ => (ev a ρ).bind fun p => (opdOf (ev b) b p.2).bind fun q => match p.1, q.1.rd q.2 with
      | .new xs, some (.int k) => if 0 ≤ k ∧ k < 2 ^ 30 ∧ xs.length * k.toNat ≤ sizeLine then .ok (.new (List.replicate k.toNat xs).flatten, q.2) else .stuck
      | _, _ => .stuck
  | .isi a ts _, ρ => (opdOf (ev a) a ρ).bind fun p => match p.1.rd p.2 with
      | some d => .ok (.dat (.bool (ts.any fun t => t.has d)), p.2)
      | none => .stuck
  | .comp t it c e, ρ => (evIt it ρ).bind fun p => (compL (bindT t) (evC c) (datOf (ev e)) t.slots p.1 (wipeR p.2 t.slots) []).bind fun q => .ok (.new q.1, backR p.2 q.2 t.slots)
  | .comp2 t it c t' it' c' e, ρ => (evIt it ρ).bind fun p =>
      (compL2 (bindT t) (evC c) (fun ρ1 acc => (evIt it' ρ1).bind fun q => compL (bindT t') (evC c') (datOf (ev e)) t'.slots q.1 (wipeR q.2 t'.slots) acc) (t.slots ++ t'.slots) p.1 (wipeR p.2 (t.slots ++ t'.slots)) []).bind fun q =>
        if q.1.length ≤ sizeLine then .ok (.new q.1, backR p.2 q.2 (t.slots ++ t'.slots)) else .stuck
  | .meth m i es, ρ => if isOwnSlot ρ i then (evL es ρ).bind fun p => methE m i p.1 p.2 else .stuck
  | .rev a, ρ => (opdOf (ev a) a ρ).bind fun p => (Res.of ((p.1.rd p.2).bind revD)).bind fun w => .ok (w, p.2)
  | .glo _ d, ρ => .ok (.dat d, ρ)
  | .call0 f, ρ => match F f with
      | some fn => callE fn (cl f) [] ρ
      | none => .stuck
  | .callK f perm es, ρ => match F f with
      | some fn => if fn.io = none then (evCA es none ρ).bind fun p => callE fn (cl f) (perm.filterMap fun i => p.1[i]?) p.2 else .stuck
      | none => .stuck
/-- all of them data -/
def evL : Es → Ro → Res (List D × Ro)
  | .nil, ρ => .ok ([], ρ)
  | .cons e r, ρ => (datOf (ev e) ρ).bind fun p => (evL r p.2).bind fun q => .ok (p.1 :: q.1, q.2)
  | .star e r, ρ => (opdOf (ev e) e ρ).bind fun p => match (p.1.rd p.2).bind items with
      | some xs => (evL r p.2).bind fun q => .ok (xs ++ q.1, q.2)
      | none => .stuck
/-- operands -/
def evA : Es → Ro → Res (List Opd × Ro)
  | .nil, ρ => .ok ([], ρ)
  | .cons e r, ρ => (opdOf (ev e) e ρ).bind fun p => (evA r p.2).bind fun q => .ok (p.1 :: q.1, q.2)
  | .star _ _, _ => .stuck
/-- a call's arguments: the one that is to be changed may be a new list, all others are data or slots -/
def evCA : Es → Option Nat → Ro → Res (List Opd × Ro)
  | .nil, _, ρ => .ok ([], ρ)
  | .cons e r, io, ρ => ((if io = some 0 then opdOf (ev e) e else opdD (ev e) e) ρ).bind fun p => (evCA r (down io) p.2).bind fun q => .ok (p.1 :: q.1, q.2)
  | .star _ _, _, _ => .stuck
/-- and, or -/
def evB (k : Bool) : Es → Ro → Res (W × Ro)
  | .nil, _ => .stuck
  | .star _ _, _ => .stuck
  | .cons e .nil, ρ => ev e ρ
  | .cons e r, ρ => (testOf (ev e) ρ).bind fun p => if p.1 == k then evB k r p.2 else .ok (.dat (.bool p.1), p.2)
/-- a slice's part -/
def evI : Eo → Ro → Res (Option Int × Ro)
  | .no, ρ => .ok (none, ρ)
  | .yes e, ρ => (datOf (ev e) ρ).bind fun p => (Res.of (intO p.1)).bind fun i => .ok (some i, p.2)
/-- a comprehension's test -/
def evC : Eo → Ro → Res (Bool × Ro)
  | .no, ρ => .ok (true, ρ)
  | .yes e, ρ => testOf (ev e) ρ
/-- what is walked -/
def evIt : It → Ro → Res (List D × Ro)
  | .seq e, ρ => (datOf (ev e) ρ).bind fun p => (Res.of (seqD p.1)).bind fun xs => .ok (xs, p.2)
  | .range1 e, ρ => (datOf (ev e) ρ).bind fun p => match p.1 with
      | .int j => if small62 j && decide (j ≤ sizeLine) then .ok (rangeD 0 j, p.2) else .stuck
      | _ => .stuck
  | .range2 a b, ρ => (datOf (ev a) ρ).bind fun p => (datOf (ev b) p.2).bind fun q => match p.1, q.1 with
      | .int i, .int j => if small62 i && small62 j && decide (j - i ≤ sizeLine) then .ok (rangeD i j, q.2) else .stuck
      | _, _ => .stuck
  | .down a b, ρ => (datOf (ev a) ρ).bind fun p => (datOf (ev b) p.2).bind fun q => match p.1, q.1 with
      | .int i, .int j => if small62 i && small62 j && decide (i - j ≤ sizeLine) then .ok (downD i j, q.2) else .stuck
      | _, _ => .stuck
  | .enum e, ρ => (datOf (ev e) ρ).bind fun p => (Res.of (items p.1)).bind fun xs => .ok (enumD xs, p.2)
  | .zip a b, ρ => (datOf (ev a) ρ).bind fun p => (datOf (ev b) p.2).bind fun q => match p.1, q.1 with
      | .list xs, .list ys => .ok (zipD xs ys, q.2)
      | .tuple xs, .tuple ys => .ok (zipD xs ys, q.2)
      | _, _ => .stuck
end
end
/-! ### statements -/
section
variable (F : Nat → Option Fn) (cl : Nat → List D → FRes)
def setAll (ρ : Ro) : List Nat → List W → Option Ro
  | [], [] => some ρ
  | i :: is, w :: ws => (setD ρ i w).bind fun ρ' => setAll ρ' is ws
  | _, _ => none
def evWs : Es → Ro → Res (List W × Ro)
  | .nil, ρ => .ok ([], ρ)
  | .cons e r, ρ => (ev F cl e ρ).bind fun p => (evWs r p.2).bind fun q => .ok (p.1 :: q.1, q.2)
  | .star _ _, _ => .stuck
/-- x[k] = d -/
def subD (i : Nat) (k d : D) (ρ : Ro) : Option Ro :=
  match k with
  | .int j =>
    match get ρ i with
    | some (.own xs) => (ixN xs.length j).map fun n => ρ.set i (some (.own (xs.set n d)))
    | some (.io xs) => (ixN xs.length j).map fun n => ρ.set i (some (.io (xs.set n d)))
    | _ => none
  | _ => none
/-- a returned name: its list leaves with it -/
def retOf (r : Ro → Res (W × Ro)) : E → Ro → Res (W × Ro)
  | .var i, ρ => match get ρ i with
      | some (.own xs) => .ok (.new xs, ρ.set i none)
      | _ => r ρ
  | _, ρ => r ρ
mutual
def exec : S → Ro → Res (Flow × Ro)
  | .asg i e, ρ => (ev F cl e ρ).bind fun p => (Res.of (setD p.2 i p.1)).bind fun ρ' => .ok (.next, ρ')
  | .asgT is e, ρ => (datOf (ev F cl e) ρ).bind fun p => match p.1 with
      | .tuple ds => (Res.of (setDs p.2 is ds)).bind fun ρ' => .ok (.next, ρ')
      | _ => .stuck
  | .par is es, ρ => (evWs F cl es ρ).bind fun p => (Res.of (setAll p.2 is p.1)).bind fun ρ' => .ok (.next, ρ')
  | .sub i k v, ρ => if isListSlot ρ i = false then .stuck else (datOf (ev F cl v) ρ).bind fun p => (datOf (ev F cl k) p.2).bind fun q => (Res.of (subD i q.1 p.1 q.2)).bind fun ρ' => .ok (.next, ρ')
  | .expr e, ρ => (ev F cl e ρ).bind fun p => .ok (.next, p.2)
  | .ret e, ρ => (retOf (ev F cl e) e ρ).bind fun p => .ok (.ret p.1, p.2)
  | .retN, ρ => .ok (.ret (.dat .none), ρ)
  | .ite c a b, ρ => (testOf (ev F cl c) ρ).bind fun p => if p.1 then execs a p.2 else execs b p.2
  | .for_ t it b, ρ => (evIt F cl it ρ).bind fun p => forL (bindT t) (execs b) p.1 p.2
  | .while_ n c b, ρ => whileL (testOf (ev F cl c)) (execs b) n ρ
  | .raise c e, ρ => match e with
      | .no => .exc ⟨c, none⟩ ρ
      | .yes e => (datOf (ev F cl e) ρ).bind fun p => .exc ⟨c, some p.1⟩ p.2
  | .pass, ρ => .ok (.next, ρ)
  | .brk, ρ => .ok (.brk, ρ)
  | .cont, ρ => .ok (.cont, ρ)
def execs : Ss → Ro → Res (Flow × Ro)
  | .nil, ρ => .ok (.next, ρ)
  | .cons s r, ρ => (exec s ρ).bind fun p => match p.1 with
      | .next => execs r p.2
      | f => .ok (f, p.2)
end
end

/-- the slots at the entry -/
def start : List D → Option Nat → Option Ro
  | [], _ => some []
  | d :: ds, io => (start ds (down io)).bind fun ρ => if io = some 0 then (match d with | .list xs => some (some (.io xs) :: ρ) | _ => none) else some (some (.dat d) :: ρ)
def ioEnd (ρ : Ro) : Option Nat → Option (Option (List D))
  | none => some none
  | some j => match get ρ j with | some (.io xs) => some (some xs) | _ => none
def finish (io : Option Nat) (w : W) (ρ : Ro) : FRes := match ioEnd ρ io with
  | some r => .ok w r
  | none => .stuck
def finishX (io : Option Nat) (x : Exn) (ρ : Ro) : FRes := match ioEnd ρ io with
  | some r => .exc x r
  | none => .stuck
def runFn (F : Nat → Option Fn) (cl : Nat → List D → FRes) (fn : Fn) (ds : List D) : FRes :=
  if ds.length = fn.np then
    match start ds fn.io with
    | none => .stuck
    | some ρ =>
      match execs F cl fn.body (ρ ++ List.replicate (fn.ns - fn.np) none) with
      | .ok (.next, ρ') => finish fn.io (.dat .none) ρ'
      | .ok (.ret w, ρ') => finish fn.io w ρ'
      | .ok _ => .stuck
      | .exc x ρ' => finishX fn.io x ρ'
      | .stuck => .stuck
  else .stuck
def callN (F : Nat → Option Fn) : Nat → Nat → List D → FRes
  | 0, _, _ => .stuck
  | n + 1, f, ds => match F f with
    | none => .stuck
    | some fn => runFn F (callN F n) fn ds
end EV

end
section
set_option linter.all false
set_option Elab.async false
/-! EV: the order of data, sorting by insertion -/
namespace EV
open PySem PyProof.Rows
theorem dLt_irrefl (x : D) : W.dataLt x x = false := lex_irrefl (O := itemOrd) _
theorem dLt_trans {x y z : D} (h : W.dataLt x y = true) (h' : W.dataLt y z = true) : W.dataLt x z = true := lex_trans (O := itemOrd) _ _ _ h h'
theorem dLt_asymm {x y : D} (h : W.dataLt x y = true) : W.dataLt y x = false := by
  cases e : W.dataLt y x with
  | false => rfl
  | true => rw [← dLt_irrefl x, dLt_trans h e]
theorem dLe_trans (a b c : D) (h : dLe a b = true) (h' : dLe b c = true) : dLe a c = true := by
  simp only [dLe, Bool.not_eq_true'] at h h' ⊢
  cases e : W.dataLt c a with
  | false => rfl
  | true =>
    rcases lex_negTrans (O := itemOrd) _ (W.keyToks b) _ e with q | q
    · have q : W.dataLt c b = true := q
      rw [h'] at q; cases q
    · have q : W.dataLt b a = true := q
      rw [h] at q; cases q
theorem dLe_total (a b : D) : (dLe a b || dLe b a) = true := by
  simp only [dLe, Bool.or_eq_true, Bool.not_eq_true']
  cases e : W.dataLt b a with
  | false => exact .inl rfl
  | true => exact .inr (dLt_asymm e)
theorem insD_at (a : D) : ∀ (l₁ l₂ : List D), (∀ b ∈ l₁, (!dLe a b) = true) → (∀ b ∈ l₂, dLe a b = true) → insD a (l₁ ++ l₂) = l₁ ++ a :: l₂
  | [], [], _, _ => rfl
  | [], b :: l, _, h => by
    show (if dLe a b then _ else _) = _
    rw [if_pos (h b List.mem_cons_self)]; rfl
  | b :: l₁, l₂, h, h' => by
    show (if dLe a b then _ else _) = _
    have q := h b List.mem_cons_self
    simp only [Bool.not_eq_true'] at q
    rw [if_neg (by rw [q]; exact Bool.false_ne_true)]
    exact congrArg (b :: ·) (insD_at a l₁ l₂ (fun c hc => h c (List.mem_cons_of_mem _ hc)) h')
theorem sortD_eq : ∀ xs : List D, xs.mergeSort dLe = sortD xs
  | [] => by simp [sortD]
  | a :: l => by
    obtain ⟨l₁, l₂, h1, h2, h3⟩ := List.mergeSort_cons dLe_trans dLe_total a l
    have p := List.pairwise_mergeSort dLe_trans dLe_total (a :: l)
    rw [h1] at p ⊢
    have e : sortD (a :: l) = insD a (sortD l) := rfl
    rw [e, ← sortD_eq l, h2, insD_at a l₁ l₂ h3]
    exact (List.pairwise_cons.mp (List.pairwise_append.mp p).2.1).1
theorem sortD_perm (xs : List D) : (sortD xs).Perm xs := by rw [← sortD_eq]; exact List.mergeSort_perm xs dLe
theorem sortD_sorted (xs : List D) : (sortD xs).Pairwise (fun a b => dLe a b = true) := by rw [← sortD_eq]; exact List.pairwise_mergeSort dLe_trans dLe_total xs
/-- strictly rising -/
def Rise (l : List D) : Prop := l.Pairwise fun a b => W.dataLt a b = true
theorem Rise.ext : ∀ {l m : List D}, Rise l → Rise m → (∀ x, x ∈ l ↔ x ∈ m) → l = m
  | [], [], _, _, _ => rfl
  | [], y :: m, _, _, h => nomatch (h y).mpr List.mem_cons_self
  | x :: l, [], _, _, h => nomatch (h x).mp List.mem_cons_self
  | x :: l, y :: m, hl, hm, h => by
    obtain ⟨a1, a2⟩ := List.pairwise_cons.mp hl
    obtain ⟨b1, b2⟩ := List.pairwise_cons.mp hm
    have e : x = y := by
      rcases List.mem_cons.mp ((h x).mp List.mem_cons_self) with q | q
      · exact q
      · rcases List.mem_cons.mp ((h y).mpr List.mem_cons_self) with r | r
        · exact r.symm
        · have u := dLt_asymm (b1 x q)
          rw [a1 y r] at u; cases u
    subst e
    have t : ∀ z, z ∈ l ↔ z ∈ m := fun z => by
      constructor
      · intro hz
        rcases List.mem_cons.mp ((h z).mp (List.mem_cons_of_mem _ hz)) with q | q
        · subst q; have := a1 z hz; rw [dLt_irrefl] at this; cases this
        · exact q
      · intro hz
        rcases List.mem_cons.mp ((h z).mpr (List.mem_cons_of_mem _ hz)) with q | q
        · subst q; have := b1 z hz; rw [dLt_irrefl] at this; cases this
        · exact q
    rw [Rise.ext a2 b2 t]
theorem addD_mem (x : D) : ∀ (l : List D) (z : D), z ∈ addD x l → z = x ∨ z ∈ l
  | [], z, h => .inl (List.mem_singleton.mp h)
  | y :: r, z, h => by
    unfold addD at h
    split at h
    · exact List.mem_cons.mp h
    · split at h
      · rcases List.mem_cons.mp h with q | q
        · exact .inr (q ▸ List.mem_cons_self)
        · rcases addD_mem x r z q with q | q
          · exact .inl q
          · exact .inr (List.mem_cons_of_mem _ q)
      · exact .inr h
theorem addD_rise (x : D) : ∀ (l : List D), Rise l → Rise (addD x l)
  | [], _ => List.pairwise_singleton _ _
  | y :: r, h => by
    obtain ⟨h1, h2⟩ := List.pairwise_cons.mp h
    unfold addD
    split
    · rename_i c
      exact List.pairwise_cons.mpr ⟨fun z hz => by
        rcases List.mem_cons.mp hz with q | q
        · exact q ▸ c
        · exact dLt_trans c (h1 z q), h⟩
    · split
      · rename_i c
        exact List.pairwise_cons.mpr ⟨fun z hz => by
          rcases addD_mem x r z hz with q | q
          · exact q ▸ c
          · exact h1 z q, addD_rise x r h2⟩
      · exact h
theorem addD_keep (x : D) : ∀ (l : List D) (z : D), z ∈ l → z ∈ addD x l
  | y :: r, z, h => by
    unfold addD
    split
    · exact List.mem_cons_of_mem _ h
    · split
      · rcases List.mem_cons.mp h with q | q
        · exact q ▸ List.mem_cons_self
        · exact List.mem_cons_of_mem _ (addD_keep x r z q)
      · exact h
theorem addD_self (x : D) : ∀ (l : List D), (∀ y ∈ l, W.dataLt x y = false → W.dataLt y x = false → x = y) → x ∈ addD x l
  | [], _ => List.mem_singleton.mpr rfl
  | y :: r, h => by
    unfold addD
    split
    · exact List.mem_cons_self
    · rename_i c
      split
      · exact List.mem_cons_of_mem _ (addD_self x r fun z hz => h z (List.mem_cons_of_mem _ hz))
      · rename_i c'
        rw [h y List.mem_cons_self (by simpa using c) (by simpa using c')]
        exact List.mem_cons_self
theorem uniqD_rise : ∀ xs : List D, Rise (uniqD xs)
  | [] => List.Pairwise.nil
  | x :: xs => addD_rise x _ (uniqD_rise xs)
theorem uniqD_sub : ∀ (xs : List D) (z : D), z ∈ uniqD xs → z ∈ xs
  | x :: xs, z, h => by
    rcases addD_mem x _ z h with q | q
    · exact q ▸ List.mem_cons_self
    · exact List.mem_cons_of_mem _ (uniqD_sub xs z q)
/-- neither is less: the same -/
def Tot (xs : List D) : Prop := ∀ x ∈ xs, ∀ y ∈ xs, W.dataLt x y = false → W.dataLt y x = false → x = y
theorem uniqD_mem : ∀ {xs : List D}, Tot xs → ∀ z, z ∈ uniqD xs ↔ z ∈ xs
  | [], _, z => Iff.rfl
  | x :: xs, t, z => by
    have t' : Tot xs := fun a ha b hb => t a (List.mem_cons_of_mem _ ha) b (List.mem_cons_of_mem _ hb)
    refine ⟨uniqD_sub _ z, fun h => ?_⟩
    show z ∈ addD x (uniqD xs)
    rcases List.mem_cons.mp h with q | q
    · subst q
      exact addD_self z _ fun y hy => t z List.mem_cons_self y (List.mem_cons_of_mem _ (uniqD_sub xs y hy))
    · exact addD_keep x _ z ((uniqD_mem t' z).mpr q)
theorem sortD_rise {es : List D} (t : Tot es) (nd : es.Nodup) : Rise (sortD es) := by
  have p := sortD_perm es
  have nd' : (sortD es).Nodup := p.nodup_iff.mpr nd
  refine ((sortD_sorted es).and nd').imp_of_mem fun {a b} ha hb h => ?_
  obtain ⟨h1, h2⟩ := h
  cases e : W.dataLt a b with
  | true => rfl
  | false => exact absurd (t a (p.mem_iff.mp ha) b (p.mem_iff.mp hb) e (by simpa [dLe] using h1)) h2
theorem uniq_eq {xs es : List D} (t : Tot xs) (nd : es.Nodup) (hm : ∀ x, x ∈ es ↔ x ∈ xs) : sortD es = uniqD xs := by
  refine Rise.ext (sortD_rise (fun x hx y hy => t x ((hm x).mp hx) y ((hm y).mp hy)) nd) (uniqD_rise xs) fun x => ?_
  rw [(sortD_perm es).mem_iff, uniqD_mem t, hm]
theorem tot_ints (ns : List Int) : Tot (ns.map .int) := by
  intro x hx y hy h1 h2
  obtain ⟨i, _, rfl⟩ := List.mem_map.mp hx
  obtain ⟨j, _, rfl⟩ := List.mem_map.mp hy
  rw [W.dataLt_int] at h1 h2
  have h1 := of_decide_eq_false h1
  have h2 := of_decide_eq_false h2
  congr 1; omega
def rowT (ns : List Int) : D := .tuple (ns.map .int)
theorem dLt_rows (a b : List Int) : W.dataLt (rowT a) (rowT b) = decide (a < b) := by
  rw [rowT, rowT, W.dataLt_tuple]; exact W.dataLt_ints a b
theorem tot_rows (ks : List (List Int)) : Tot (ks.map rowT) := by
  intro x hx y hy h1 h2
  obtain ⟨i, _, rfl⟩ := List.mem_map.mp hx
  obtain ⟨j, _, rfl⟩ := List.mem_map.mp hy
  rw [dLt_rows] at h1 h2
  have h1 := of_decide_eq_false h1
  have h2 := of_decide_eq_false h2
  have e : i = j := List.le_antisymm (by simpa using h2) (by simpa using h1)
  rw [e]
theorem intL_some : ∀ {xs : List D} {ns : List Int}, intL xs = some ns → xs = ns.map .int
  | [], ns, h => by cases h; rfl
  | x :: xs, ns, h => by
    cases x with
    | int i =>
      simp only [intL, Option.map_eq_some_iff] at h
      obtain ⟨a, h1, rfl⟩ := h
      rw [intL_some h1]; rfl
    | _ => cases h
theorem rows_some : ∀ {xs : List D}, xs.all intRow = true → ∃ ks : List (List Int), xs = ks.map rowT
  | [], _ => ⟨[], rfl⟩
  | x :: xs, h => by
    simp only [List.all_cons, Bool.and_eq_true] at h
    obtain ⟨ks, rfl⟩ := rows_some h.2
    cases x with
    | tuple ys =>
      have q : (intL ys).isSome = true := h.1
      obtain ⟨ns, e⟩ := Option.isSome_iff_exists.mp q
      exact ⟨ns :: ks, by rw [intL_some e]; rfl⟩
    | _ => cases h.1
end EV

end
section
set_option linter.all false
set_option maxRecDepth 100000
set_option Elab.async false
/-! EV, part 1: data in the abstract heap, the frame's slots -/
namespace EV
open PySem L2

abbrev AS := Addr → Prop
section
variable (K : PySem.W.Frag)
mutual
inductive Dat (M : AS) (H : Hp) : V → D → Prop
  | non : Dat M H .non .none
  | bl (b : Bool) : Dat M H (.bl b) (.bool b)
  | int (i : Int) : Dat M H (.int i) (.int i)
  | str (x : Str) : Dat M H (.str x) (.str x)
  | lst {a : Addr} {xs : List V} {ds : List D} : Rd H a (.lst xs) → ¬ M a → DatA M H xs ds → Dat M H (.ref a) (.list ds)
  | tup {a : Addr} {xs : List V} {ds : List D} : SqT K H a xs → DatA M H xs ds → Dat M H (.ref a) (.tuple ds)
inductive DatA (M : AS) (H : Hp) : List V → List D → Prop
  | nil : DatA M H [] []
  | cons {v : V} {vs : List V} {d : D} {ds : List D} : Dat M H v d → DatA M H vs ds → DatA M H (v :: vs) (d :: ds)
end
end
/-- from (M, H) to (M', H'): what stands outside O stays -/
structure Stp (O M : AS) (H : Hp) (M' : AS) (H' : Hp) : Prop where
  keep : ∀ a o, H a = some o → ¬ O a → H' a = some o
  new : ∀ a, M' a → M a ∨ H a = none
  old : ∀ a, M a → ¬ O a → M' a
  there : ∀ a o, H a = some o → ∃ o', H' a = some o'
/-- lists of one's own -/
structure OwL (O M : AS) (H : Hp) : Prop where
  sub : ∀ a, O a → M a
  lst : ∀ a, O a → ∃ xs, H a = some (.lst xs)
variable {K : PySem.W.Frag} {O O' M M' M0 : AS} {H H' : Hp}
theorem rd_keep {a : Addr} {xs : List V} (r : Rd H a (.lst xs)) (n : ¬ M a) (w : OwL O M H) (k : ∀ a o, H a = some o → ¬ O a → H' a = some o) : Rd H' a (.lst xs) := by
  have nO : ¬ O a := fun z => n (w.sub a z)
  rcases r with r | ⟨o, r⟩
  · exact .inl (k a _ r nO)
  · exact .inr ⟨o, k a _ r nO⟩
theorem sqt_keep {a : Addr} {xs : List V} (r : SqT K H a xs) (w : OwL O M H) (k : ∀ a o, H a = some o → ¬ O a → H' a = some o) : SqT K H' a xs := by
  rcases r with (r | ⟨o, r⟩) | r
  · refine .inl (.inl (k a _ r fun z => ?_))
    obtain ⟨ys, e⟩ := w.lst a z
    rw [r] at e; cases e
  · refine .inl (.inr ⟨o, k a _ r fun z => ?_⟩)
    obtain ⟨ys, e⟩ := w.lst a z
    rw [r] at e; cases e
  · exact .inr r
theorem rd_some {a : Addr} {u : HO} (r : Rd H a u) : ∃ o, H a = some o := by
  rcases r with r | ⟨o, r⟩
  · exact ⟨_, r⟩
  · exact ⟨_, r⟩
mutual
theorem Dat.step {v : V} {d : D} (w : OwL O M H) (s : Stp O M H M' H') : Dat K M H v d → Dat K M' H' v d
  | .non => .non
  | .bl b => .bl b
  | .int i => .int i
  | .str x => .str x
  | .lst r n h => .lst (rd_keep r n w s.keep) (fun z => by
      rcases s.new _ z with q | q
      · exact n q
      · obtain ⟨o, e⟩ := rd_some r
        rw [q] at e; cases e) (DatA.step w s h)
  | .tup r h => .tup (sqt_keep r w s.keep) (DatA.step w s h)
theorem DatA.step {vs : List V} {ds : List D} (w : OwL O M H) (s : Stp O M H M' H') : DatA K M H vs ds → DatA K M' H' vs ds
  | .nil => .nil
  | .cons h t => .cons (Dat.step w s h) (DatA.step w s t)
end
mutual
/-- fewer addresses to be avoided -/
theorem Dat.less {v : V} {d : D} (s : ∀ a, M' a → M a) : Dat K M H v d → Dat K M' H v d
  | .non => .non
  | .bl b => .bl b
  | .int i => .int i
  | .str x => .str x
  | .lst r n h => .lst r (fun z => n (s _ z)) (DatA.less s h)
  | .tup r h => .tup r (DatA.less s h)
theorem DatA.less {vs : List V} {ds : List D} (s : ∀ a, M' a → M a) : DatA K M H vs ds → DatA K M' H vs ds
  | .nil => .nil
  | .cons h t => .cons (Dat.less s h) (DatA.less s t)
end
mutual
/-- without lists nothing is to be avoided -/
theorem Dat.lf {v : V} {d : D} (l : EV.lf d = true) (h : Dat K M H v d) : Dat K M' H v d := by
  cases h with
  | non => exact .non
  | bl b => exact .bl b
  | int i => exact .int i
  | str x => exact .str x
  | lst r n h => simp [EV.lf] at l
  | tup r h => exact .tup r (DatA.lf (by simpa [EV.lf] using l) h)
theorem DatA.lf {vs : List V} {ds : List D} (l : EV.lfs ds = true) (h : DatA K M H vs ds) : DatA K M' H vs ds := by
  cases h with
  | nil => exact .nil
  | cons h t =>
    simp only [EV.lfs, Bool.and_eq_true] at l
    exact .cons (Dat.lf l.1 h) (DatA.lf l.2 t)
end
mutual
theorem Dat.dp {v : V} {d : D} : Dat K M H v d → Dp K H v d
  | .non => .non
  | .bl b => .bl b
  | .int i => .int i
  | .str x => .str x
  | .lst r n h => .lst (.inl r) (DatA.dp h)
  | .tup r h => .tup r (DatA.dp h)
theorem DatA.dp {vs : List V} {ds : List D} : DatA K M H vs ds → DpAll K H vs ds
  | .nil => .nil
  | .cons h t => .cons (Dat.dp h) (DatA.dp t)
end
theorem DatA.length {vs : List V} {ds : List D} (h : DatA K M H vs ds) : vs.length = ds.length := by
  induction ds generalizing vs with
  | nil => cases h; rfl
  | cons d ds ih => cases h with | cons h t => simp [ih t]
theorem DatA.get {vs : List V} {ds : List D} {i : Nat} (h : DatA K M H vs ds) {d : D} (e : ds[i]? = some d) : ∃ v, vs[i]? = some v ∧ Dat K M H v d := by
  induction ds generalizing vs i with
  | nil => simp at e
  | cons x ds ih =>
    cases h with
    | cons h t =>
      cases i with
      | zero => simp at e; subst e; exact ⟨_, rfl, h⟩
      | succ i => simp at e; obtain ⟨v, e1, e2⟩ := ih t e; exact ⟨v, by simpa using e1, e2⟩
theorem DatA.getV {vs : List V} {ds : List D} {i : Nat} (h : DatA K M H vs ds) {v : V} (e : vs[i]? = some v) : ∃ d, ds[i]? = some d ∧ Dat K M H v d := by
  induction ds generalizing vs i with
  | nil => cases h; simp at e
  | cons x ds ih =>
    cases h with
    | cons h t =>
      cases i with
      | zero => simp at e; subst e; exact ⟨_, rfl, h⟩
      | succ i => simp at e; obtain ⟨v, e1, e2⟩ := ih t e; exact ⟨v, by simpa using e1, e2⟩
theorem DatA.append {vs ws : List V} {ds es : List D} (h : DatA K M H vs ds) (h' : DatA K M H ws es) : DatA K M H (vs ++ ws) (ds ++ es) := by
  induction ds generalizing vs with
  | nil => cases h; exact h'
  | cons d ds ih => cases h with | cons h t => exact .cons h (ih t)
theorem DatA.drop {vs : List V} {ds : List D} (n : Nat) (h : DatA K M H vs ds) : DatA K M H (vs.drop n) (ds.drop n) := by
  induction n generalizing vs ds with
  | zero => exact h
  | succ n ih => cases h with
    | nil => exact .nil
    | cons h t => exact ih t
theorem DatA.take {vs : List V} {ds : List D} (n : Nat) (h : DatA K M H vs ds) : DatA K M H (vs.take n) (ds.take n) := by
  induction n generalizing vs ds with
  | zero => exact .nil
  | succ n ih => cases h with
    | nil => exact .nil
    | cons h t => exact .cons h (ih t)
theorem DatA.set {vs : List V} {ds : List D} {v : V} {d : D} (n : Nat) (h : DatA K M H vs ds) (q : Dat K M H v d) : DatA K M H (vs.set n v) (ds.set n d) := by
  induction ds generalizing vs n with
  | nil => cases h; exact .nil
  | cons x ds ih => cases h with
    | cons h t => cases n with
      | zero => exact .cons q t
      | succ n => exact .cons h (ih n t)
theorem DatA.eraseIdx {vs : List V} {ds : List D} (n : Nat) (h : DatA K M H vs ds) : DatA K M H (vs.eraseIdx n) (ds.eraseIdx n) := by
  induction ds generalizing vs n with
  | nil => cases h; exact .nil
  | cons x ds ih => cases h with
    | cons h t => cases n with
      | zero => exact t
      | succ n => exact .cons h (ih n t)
theorem DatA.rep {vs : List V} {ds : List D} (h : DatA K M H vs ds) : ∀ k : Nat, DatA K M H (List.replicate k vs).flatten (List.replicate k ds).flatten
  | 0 => .nil
  | k + 1 => by simpa [List.replicate_succ] using h.append (DatA.rep h k)

/-! ### slots -/
def Sv.lst? : Sv → Option (List D)
  | .dat _ => none
  | .own xs => some xs
  | .io xs => some xs
/-- the addresses of a frame's own lists and of those handed in -/
def Ow (ρ : Ro) (σ : St) : AS := fun a => ∃ (i : Nat) (s : Sv) (xs : List D), ρ[i]? = some (some s) ∧ s.lst? = some xs ∧ σ[i]? = some (some (V.ref a))
structure Rep (K : PySem.W.Frag) (M0 M : AS) (ρ : Ro) (σ : St) (H : Hp) : Prop where
  len : ρ.length = σ.length
  dom : ∀ a, M a → ∃ o, H a = some o
  sub : ∀ a, M0 a → M a
  dat : ∀ (i : Nat) (d : D), ρ[i]? = some (some (.dat d)) → ∃ v, σ[i]? = some (some v) ∧ Dat K M H v d
  lst : ∀ (i : Nat) (s : Sv) (xs : List D), ρ[i]? = some (some s) → s.lst? = some xs → ∃ a vs, σ[i]? = some (some (.ref a)) ∧ H a = some (.lst vs) ∧ DatA K M H vs xs ∧ M a
  own : ∀ (i : Nat) (xs : List D) (a : Addr), ρ[i]? = some (some (.own xs)) → σ[i]? = some (some (.ref a)) → ¬ M0 a
  io : ∀ (i : Nat) (xs : List D) (a : Addr), ρ[i]? = some (some (.io xs)) → σ[i]? = some (some (.ref a)) → M0 a
  inj : ∀ (i j : Nat) (a : Addr) (s t : Sv) (xs ys : List D), ρ[i]? = some (some s) → ρ[j]? = some (some t) → s.lst? = some xs → t.lst? = some ys → σ[i]? = some (some (.ref a)) → σ[j]? = some (some (.ref a)) → i = j
variable {ρ ρ' ρ1 : Ro} {σ : St}
theorem Rep.owl (r : Rep K M0 M ρ σ H) : OwL (Ow ρ σ) M H where
  sub := fun a ⟨i, s, xs, h1, h2, h3⟩ => by
    obtain ⟨b, vs, e1, _, _, q⟩ := r.lst i s xs h1 h2
    rw [h3] at e1; cases e1; exact q
  lst := fun a ⟨i, s, xs, h1, h2, h3⟩ => by
    obtain ⟨b, vs, e1, e2, _, q⟩ := r.lst i s xs h1 h2
    rw [h3] at e1; cases e1; exact ⟨vs, e2⟩
theorem Stp.refl : Stp O M H M H := ⟨fun _ _ e _ => e, fun _ h => .inl h, fun _ h _ => h, fun _ o e => ⟨o, e⟩⟩
theorem Stp.trans {M1 M2 : AS} {H1 H2 : Hp} (hs : ∀ a, O' a → O a) (s : Stp O M H M1 H1) (t : Stp O' M1 H1 M2 H2) : Stp O M H M2 H2 where
  keep := fun a o e n => t.keep a o (s.keep a o e n) fun z => n (hs a z)
  new := fun a z => by
    rcases t.new a z with q | q
    · exact s.new a q
    · cases e : H a with
      | none => exact .inr rfl
      | some o => obtain ⟨o', e'⟩ := s.there a o e; rw [e'] at q; cases q
  old := fun a z n => t.old a (s.old a z n) fun z => n (hs a z)
  there := fun a o e => by
    obtain ⟨o', e'⟩ := s.there a o e
    exact t.there a o' e'
theorem Stp.wide (hs : ∀ a, O' a → O a) (s : Stp O' M H M' H') : Stp O M H M' H' := ⟨fun a o e n => s.keep a o e fun z => n (hs a z), s.new, fun a z n => s.old a z fun q => n (hs a q), s.there⟩
/-- nothing that stands is changed -/
structure Stp0 (M : AS) (H : Hp) (M' : AS) (H' : Hp) : Prop where
  keep : ∀ a o, H a = some o → H' a = some o
  new : ∀ a, M' a → M a ∨ H a = none
  old : ∀ a, M a → M' a
  dom : (∀ a, M a → ∃ o, H a = some o) → ∀ a, M' a → ∃ o, H' a = some o
theorem Stp0.stp (s : Stp0 M H M' H') : Stp O M H M' H' := ⟨fun a o e _ => s.keep a o e, s.new, fun a h _ => s.old a h, fun a o e => ⟨o, s.keep a o e⟩⟩
theorem Stp0.refl : Stp0 M H M H := ⟨fun _ _ e => e, fun _ h => .inl h, fun _ h => h, fun h => h⟩
theorem Stp0.trans {M1 M2 : AS} {H1 H2 : Hp} (s : Stp0 M H M1 H1) (t : Stp0 M1 H1 M2 H2) : Stp0 M H M2 H2 where
  keep := fun a o e => t.keep a o (s.keep a o e)
  new := fun a z => by
    rcases t.new a z with q | q
    · exact s.new a q
    · cases e : H a with
      | none => exact .inr rfl
      | some o => rw [s.keep a o e] at q; cases q
  old := fun a z => t.old a (s.old a z)
  dom := fun h => t.dom (s.dom h)
/-- a new object -/
theorem Stp0.laid {p : Addr} {o : HO} (hp : H p = none) : Stp0 M H M (upd H p o) := ⟨fun a u e => by rw [upd_ne (ne_of_none e hp)]; exact e, fun _ h => .inl h, fun _ h => h, fun h a z => by
  obtain ⟨u, e⟩ := h a z
  exact ⟨u, by rw [upd_ne (ne_of_none e hp)]; exact e⟩⟩
/-- a new list of one's own -/
theorem Stp0.lnew {p : Addr} {xs : List V} (hp : H p = none) : Stp0 M H (fun a => M a ∨ a = p) (upd H p (.lst xs)) := ⟨fun a u e => by rw [upd_ne (ne_of_none e hp)]; exact e, fun a h => by
    rcases h with h | h
    · exact .inl h
    · subst h; exact .inr hp, fun _ h => .inl h, fun h a z => by
  rcases z with z | z
  · obtain ⟨u, e⟩ := h a z
    exact ⟨u, by rw [upd_ne (ne_of_none e hp)]; exact e⟩
  · subst z; exact ⟨_, upd_same⟩⟩
theorem owl0 : OwL (fun _ => False) M H := ⟨fun _ z => z.elim, fun _ z => z.elim⟩
theorem Dat.step0 {v : V} {d : D} (s : Stp0 M H M' H') (h : Dat K M H v d) : Dat K M' H' v d := h.step owl0 s.stp
theorem DatA.step0 {vs : List V} {ds : List D} (s : Stp0 M H M' H') (h : DatA K M H vs ds) : DatA K M' H' vs ds := h.step owl0 s.stp
/-- the slots behind a step that changes none of them -/
theorem Rep.step0 (r : Rep K M0 M ρ σ H) (s : Stp0 M H M' H') : Rep K M0 M' ρ σ H' where
  len := r.len
  dom := s.dom r.dom
  sub := fun a z => s.old a (r.sub a z)
  dat := fun i d e => by
    obtain ⟨v, h1, h2⟩ := r.dat i d e
    exact ⟨v, h1, h2.step0 s⟩
  lst := fun i t xs e l => by
    obtain ⟨a, vs, h1, h2, h3, h4⟩ := r.lst i t xs e l
    exact ⟨a, vs, h1, s.keep a _ h2, h3.step0 s, s.old a h4⟩
  own := r.own
  io := r.io
  inj := r.inj
/-- a value that is looked at: a list, whoever has it; or data -/
def Pk (K : PySem.W.Frag) (M : AS) (H : Hp) (v : V) (d : D) : Prop := match d with
  | .list ds => ∃ a vs, v = .ref a ∧ Rd H a (.lst vs) ∧ DatA K M H vs ds
  | d => Dat K M H v d
theorem Dat.pk {v : V} {d : D} (h : Dat K M H v d) : Pk K M H v d := by
  cases h with
  | non => exact .non
  | bl b => exact .bl b
  | int i => exact .int i
  | str x => exact .str x
  | lst r n h => exact ⟨_, _, rfl, r, h⟩
  | tup r h => exact .tup r h
theorem Pk.dp {v : V} {d : D} (h : Pk K M H v d) : Dp K H v d := by
  cases d with
  | list ds => obtain ⟨a, vs, rfl, r, q⟩ := h; exact .lst (.inl r) q.dp
  | none => exact Dat.dp h
  | bool _ => exact Dat.dp h
  | int _ => exact Dat.dp h
  | str _ => exact Dat.dp h
  | tuple _ => exact Dat.dp h
  | dict _ => exact Dat.dp h
/-- a sequence that is looked at -/
theorem Pk.seq {v : V} {d : D} {ds : List D} (h : Pk K M H v d) (e : items d = some ds) : ∃ a vs, v = .ref a ∧ (SqL K H a vs ∨ SqT K H a vs) ∧ DatA K M H vs ds := by
  cases d with
  | list xs => cases e; obtain ⟨a, vs, rfl, r, q⟩ := h; exact ⟨a, vs, rfl, .inl (.inl r), q⟩
  | tuple xs => cases e; cases h with | tup r q => exact ⟨_, _, rfl, .inr r, q⟩
  | none => cases e
  | bool _ => cases e
  | int _ => cases e
  | str _ => cases e
  | dict _ => cases e
/-- what an operator leaves -/
def VW0 (K : PySem.W.Frag) (H : Hp) (M' : AS) (H' : Hp) (v : V) : W → Prop
  | .dat d => Dat K M' H' v d
  | .new xs => ∃ a vs, v = .ref a ∧ H a = none ∧ H' a = some (.lst vs) ∧ DatA K M' H' vs xs ∧ M' a
def Rs (K : PySem.W.Frag) (M : AS) (H : Hp) (Q : VK) (w : W) : Prop := ∀ M' H' v, Stp0 M H M' H' → VW0 K H M' H' v w → Q v H'
theorem Rs.scalar {Q : VK} {v : V} {d : D} (h : Rs K M H Q (.dat d)) (q : Dat K M H v d) : Q v H := h M H v .refl q
theorem Rs.tup {Q : VK} {ds : List D} {vs : List V} {p : Addr} (h : Rs K M H Q (.dat (.tuple ds))) (q : DatA K M H vs ds) (hp : H p = none) : Q (.ref p) (upd H p (.tup vs)) :=
  h M _ _ (.laid hp) (.tup (.inl (.inl upd_same)) (q.step0 (.laid hp)))
theorem Rs.lst {Q : VK} {ds : List D} {vs : List V} {p : Addr} (h : Rs K M H Q (.new ds)) (q : DatA K M H vs ds) (hp : H p = none) : Q (.ref p) (upd H p (.lst vs)) :=
  h _ _ _ (.lnew hp) ⟨p, vs, rfl, hp, upd_same, q.step0 (.lnew hp), .inr rfl⟩
theorem VW0.pk {v : V} {w : W} (h : VW0 K H M' H' v w) : Pk K M' H' v w.d := by
  cases w with
  | dat d => exact Dat.pk h
  | new xs => obtain ⟨a, vs, e, _, h1, h2, _⟩ := h; exact ⟨a, vs, e, .inl h1, h2⟩
/-- what is new behind a step is not one of the slots' own -/
theorem Rep.fresh {a : Addr} (r : Rep K M0 M ρ σ H) (n : H a = none) : ¬ M a ∧ ¬ M0 a ∧ ¬ Ow ρ σ a := by
  have na : ¬ M a := fun z => by obtain ⟨o, q⟩ := r.dom a z; rw [n] at q; cases q
  exact ⟨na, fun z => na (r.sub a z), fun z => na (r.owl.sub a z)⟩
/-- a pending value behind a further step -/
theorem VW0.step {v : V} {w : W} {M1 M2 : AS} {H1 H2 : Hp} (r : Rep K M0 M ρ σ H) (o : OwL O M1 H1) (hs : ∀ a, O a → Ow ρ σ a) (s : Stp O M1 H1 M2 H2) (h : VW0 K H M1 H1 v w) : VW0 K H M2 H2 v w := by
  cases w with
  | dat d => exact Dat.step o s h
  | new xs =>
    obtain ⟨a, vs, e, n, h1, h2, h3⟩ := h
    have nO : ¬ O a := fun z => (r.fresh n).2.2 (hs a z)
    exact ⟨a, vs, e, n, s.keep a _ h1 nO, h2.step o s, s.old a h3 nO⟩
/-- seen from an earlier start -/
theorem VW0.from {v : V} {w : W} {H1 : Hp} {M2 : AS} {H2 : Hp} (t : ∀ a o, H a = some o → ∃ o', H1 a = some o') (h : VW0 K H1 M2 H2 v w) : VW0 K H M2 H2 v w := by
  cases w with
  | dat d => exact h
  | new xs =>
    obtain ⟨a, vs, e, n, h⟩ := h
    refine ⟨a, vs, e, ?_, h⟩
    cases q : H a with
    | none => rfl
    | some o => obtain ⟨o', e'⟩ := t a o q; rw [n] at e'; cases e'
theorem Rep.less {M' : AS} (r : Rep K M0 M ρ σ H) (s : ∀ a, M' a → M a) (k : ∀ a, Ow ρ σ a → M' a) (k0 : ∀ a, M0 a → M' a) : Rep K M0 M' ρ σ H where
  len := r.len
  dom := fun a z => r.dom a (s a z)
  sub := k0
  dat := fun i d e => by
    obtain ⟨v, h1, h2⟩ := r.dat i d e
    exact ⟨v, h1, h2.less s⟩
  lst := fun i t xs e l => by
    obtain ⟨a, vs, h1, h2, h3, h4⟩ := r.lst i t xs e l
    exact ⟨a, vs, h1, h2, h3.less s, k a ⟨i, t, xs, e, l, h1⟩⟩
  own := r.own
  io := r.io
  inj := r.inj
/-- a temporary becomes data -/
theorem VW0.freeze {v : V} {w : W} {M1 : AS} {H1 : Hp} (r : Rep K M0 M ρ σ H) (s : Stp (Ow ρ σ) M H M1 H1) (r1 : Rep K M0 M1 ρ1 σ H1) (hs : ∀ a, Ow ρ1 σ a → Ow ρ σ a) (h : VW0 K H M1 H1 v w) :
    ∃ M2, Stp (Ow ρ σ) M H M2 H1 ∧ Rep K M0 M2 ρ1 σ H1 ∧ Dat K M2 H1 v w.d ∧ (∀ a, M2 a → M1 a) ∧ ∀ a, M a → M1 a → M2 a := by
  cases w with
  | dat d => exact ⟨M1, s, r1, h, fun _ z => z, fun _ _ z => z⟩
  | new xs =>
    obtain ⟨a, vs, rfl, n, h1, h2, h3⟩ := h
    obtain ⟨f1, f2, f3⟩ := r.fresh n
    refine ⟨fun b => M1 b ∧ b ≠ a, ⟨s.keep, fun b z => s.new b z.1, fun b z nO => ⟨s.old b z nO, fun e => f1 (e ▸ z)⟩, s.there⟩, r1.less (fun b z => z.1) (fun b z => ⟨r1.owl.sub b z, fun e => f3 (e ▸ hs b z)⟩) (fun b z => ⟨r1.sub b z, fun e => f2 (e ▸ z)⟩), ?_, fun b z => z.1, fun b z q => ⟨q, fun e => f1 (e ▸ z)⟩⟩
    exact .lst (.inl h1) (fun z => z.2 rfl) (h2.less fun b z => z.1)
/-- an operand's value -/
def VO (K : PySem.W.Frag) (H : Hp) (M' : AS) (H' : Hp) (σ : St) (v : V) : Opd → Prop
  | .slot i => σ[i]? = some (some v)
  | .val w => VW0 K H M' H' v w
theorem VO.step {v : V} {o : Opd} {M1 M2 : AS} {H1 H2 : Hp} (r : Rep K M0 M ρ σ H) (w : OwL O M1 H1) (hs : ∀ a, O a → Ow ρ σ a) (s : Stp O M1 H1 M2 H2) (h : VO K H M1 H1 σ v o) : VO K H M2 H2 σ v o := by
  cases o with
  | slot i => exact h
  | val w' => exact VW0.step r w hs s h
theorem VO.from {v : V} {o : Opd} {H1 : Hp} {M2 : AS} {H2 : Hp} (t : ∀ a o, H a = some o → ∃ o', H1 a = some o') (h : VO K H1 M2 H2 σ v o) : VO K H M2 H2 σ v o := by
  cases o with
  | slot i => exact h
  | val w => exact VW0.from t h
theorem get_some {i : Nat} {s : Sv} (h : get ρ i = some s) : ρ[i]? = some (some s) := by
  unfold get at h
  cases e : ρ[i]? with
  | none => rw [e] at h; cases h
  | some x => rw [e] at h; simp only [Option.join_some] at h; rw [h]
theorem Rep.pk {i : Nat} {s : Sv} {v : V} (r : Rep K M0 M ρ σ H) (h : get ρ i = some s) (hv : σ[i]? = some (some v)) : Pk K M H v s.d := by
  have e := get_some h
  cases s with
  | dat d =>
    obtain ⟨u, h1, h2⟩ := r.dat i d e
    rw [hv] at h1; cases h1
    exact h2.pk
  | own xs =>
    obtain ⟨a, vs, h1, h2, h3, _⟩ := r.lst i _ xs e rfl
    rw [hv] at h1; cases h1
    exact ⟨a, vs, rfl, .inl h2, h3⟩
  | io xs =>
    obtain ⟨a, vs, h1, h2, h3, _⟩ := r.lst i _ xs e rfl
    rw [hv] at h1; cases h1
    exact ⟨a, vs, rfl, .inl h2, h3⟩
theorem VO.pk {v : V} {o : Opd} {d : D} {M1 : AS} {H1 : Hp} (r : Rep K M0 M1 ρ1 σ H1) (h : VO K H M1 H1 σ v o) (e : o.rd ρ1 = some d) : Pk K M1 H1 v d := by
  cases o with
  | slot i =>
    simp only [Opd.rd, Option.map_eq_some_iff] at e
    obtain ⟨s, e1, rfl⟩ := e
    exact r.pk e1 h
  | val w =>
    simp only [Opd.rd, Option.some.injEq] at e
    subst e
    exact VW0.pk h

/-! ### what follows -/
/-- an exception: its class, its own dict -/
abbrev XR := AS → Hp → Value → Option Addr → Exn → Prop
structure Ctx where
  K : PySem.W.Frag
  M0 : AS
  H0 : Hp
  R : XR
  Wx : Value → Option Addr → St → Hp → Prop
def After (C : Ctx) {α : Type} (σ : St) (M : AS) (H : Hp) (ρ : Ro) (r : Res (α × Ro)) (k : AS → Hp → α → Ro → Prop) : Prop :=
  match r with
  | .ok (a, ρ') => ∀ M' H', Stp (Ow ρ σ) M H M' H' → Rep C.K C.M0 M' ρ' σ H' → (∀ a, Ow ρ' σ a → Ow ρ σ a) → k M' H' a ρ'
  | .exc x ρ' => ∀ M' H' cls d, Stp (Ow ρ σ) M H M' H' → Rep C.K C.M0 M' ρ' σ H' → (∀ a, Ow ρ' σ a → Ow ρ σ a) → C.R M' H' cls d x → C.Wx cls d σ H'
  | .stuck => False
variable {C : Ctx} {α β : Type}
theorem After.mono {r : Res (α × Ro)} {k k' : AS → Hp → α → Ro → Prop} (h : After C σ M H ρ r k)
    (f : ∀ M' H' a ρ', Stp (Ow ρ σ) M H M' H' → Rep C.K C.M0 M' ρ' σ H' → (∀ a, Ow ρ' σ a → Ow ρ σ a) → k M' H' a ρ' → k' M' H' a ρ') : After C σ M H ρ r k' := by
  cases r with
  | ok p => exact fun M' H' s r' hs => f M' H' _ _ s r' hs (h M' H' s r' hs)
  | exc x ρ' => exact h
  | stuck => exact h
theorem After.bind {r : Res (α × Ro)} {f : α × Ro → Res (β × Ro)} {k : AS → Hp → β → Ro → Prop} (h : After C σ M H ρ (r.bind f) k) :
    After C σ M H ρ r (fun M1 H1 a ρ1 => After C σ M1 H1 ρ1 (f (a, ρ1)) fun M2 H2 b ρ2 => k M2 H2 b ρ2) := by
  cases r with
  | ok p =>
    intro M1 H1 s1 r1 hs1
    have h : After C σ M H ρ (f p) k := h
    show After C σ M1 H1 p.2 (f p) _
    cases e : f p with
    | ok q =>
      rw [e] at h
      intro M2 H2 s2 r2 hs2
      exact h M2 H2 (s1.trans hs1 s2) r2 fun a z => hs1 a (hs2 a z)
    | exc x ρ' =>
      rw [e] at h
      intro M2 H2 cls d s2 r2 hs2 hR
      exact h M2 H2 cls d (s1.trans hs1 s2) r2 (fun a z => hs1 a (hs2 a z)) hR
    | stuck => rw [e] at h; exact h
  | exc x ρ' => exact h
  | stuck => exact h
theorem After.of {o : Option α} {f : α → Res (β × Ro)} {k : AS → Hp → β → Ro → Prop} (h : After C σ M H ρ ((Res.of o).bind f) k) : ∃ a, o = some a ∧ After C σ M H ρ (f a) k := by
  cases o with
  | none => exact h.elim
  | some a => exact ⟨a, rfl, h⟩
/-- the end, where nothing was done any more -/
theorem After.now {a : α} {k : AS → Hp → α → Ro → Prop} (r : Rep C.K C.M0 M ρ σ H) (h : After C σ M H ρ (.ok (a, ρ)) k) : k M H a ρ := h M H .refl r fun _ z => z
theorem After.now0 {a : α} {k : AS → Hp → α → Ro → Prop} {M' : AS} {H' : Hp} (r : Rep C.K C.M0 M ρ σ H) (s : Stp0 M H M' H') (h : After C σ M H ρ (.ok (a, ρ)) k) : k M' H' a ρ := h M' H' s.stp (r.step0 s) fun _ z => z
/-- readings -/
def tW (C : Ctx) (f : Ro → Res (W × Ro)) : TE := fun σ H Q => ∃ M ρ, Rep C.K C.M0 M ρ σ H ∧ After C σ M H ρ (f ρ) fun M' H' w _ => ∀ v, VW0 C.K H M' H' v w → Q v H'
def tD (C : Ctx) (f : Ro → Res (D × Ro)) : TE := fun σ H Q => ∃ M ρ, Rep C.K C.M0 M ρ σ H ∧ After C σ M H ρ (f ρ) fun M' H' d _ => ∀ v, Dat C.K M' H' v d → Q v H'
def tO (C : Ctx) (f : Ro → Res (Opd × Ro)) : TE := fun σ H Q => ∃ M ρ, Rep C.K C.M0 M ρ σ H ∧ After C σ M H ρ (f ρ) fun M' H' o _ => ∀ v, VO C.K H M' H' σ v o → Q v H'
def tT (C : Ctx) (f : Ro → Res (Bool × Ro)) : TT := fun σ H Q => ∃ M ρ, Rep C.K C.M0 M ρ σ H ∧ After C σ M H ρ (f ρ) fun _ H' b _ => Q b H'
variable {X : Cx} {e : Expr}
theorem PE_imp {t t' : TE} (h : PE X e t) (f : ∀ σ H Q, t' σ H Q → t σ H Q) : PE X e t' := ⟨fun pins s σ H Q I q => h.run pins s σ H Q I (f σ H Q q)⟩
theorem PT_imp {t t' : TT} (h : PT X e t) (f : ∀ σ H Q, t' σ H Q → t σ H Q) : PT X e t' := ⟨fun pins s σ H Q I q => h.run pins s σ H Q I (f σ H Q q)⟩
theorem PA_imp {es : List Expr} {t t' : TA} (h : PA X es t) (f : ∀ σ H Q, t' σ H Q → t σ H Q) : PA X es t' := ⟨fun pos pins s σ H Q I q => h.run pos pins s σ H Q I (f σ H Q q)⟩
/-- data out of a value -/
theorem After.dat {f : Ro → Res (W × Ro)} {k : AS → Hp → D → Ro → Prop} (r : Rep C.K C.M0 M ρ σ H) (a : After C σ M H ρ (datOf f ρ) k) :
    After C σ M H ρ (f ρ) fun M1 H1 w ρ1 => ∀ v, VW0 C.K H M1 H1 v w → ∃ M2, Stp (Ow ρ σ) M H M2 H1 ∧ Rep C.K C.M0 M2 ρ1 σ H1 ∧ Dat C.K M2 H1 v w.d ∧ k M2 H1 w.d ρ1 := by
  unfold datOf at a
  cases e : f ρ with
  | ok p =>
    rw [e] at a
    intro M1 H1 s1 r1 hs1 v hv
    obtain ⟨M2, s2, r2, d2, l2, _⟩ := hv.freeze r s1 r1 hs1
    exact ⟨M2, s2, r2, d2, a M2 H1 s2 r2 hs1⟩
  | exc x ρ' => rw [e] at a; exact a
  | stuck => rw [e] at a; exact a
theorem tD_of {f : Ro → Res (W × Ro)} (h : PE X e (tW C f)) : PE X e (tD C (datOf f)) := by
  refine PE_imp h fun σ H Q ⟨M, ρ, r, a⟩ => ⟨M, ρ, r, ?_⟩
  refine (After.dat r a).mono fun M1 H1 w ρ1 s1 r1 hs1 h v hv => ?_
  obtain ⟨M2, s2, r2, d2, q⟩ := h v hv
  exact q v d2
end EV

end
section
set_option linter.all false
set_option maxRecDepth 100000
set_option Elab.async false
/-! EV, part 2: operators and built-in functions over data -/
namespace EV
open PySem L2 PyProof.Rows
variable {K : PySem.W.Frag} {M : AS} {H : Hp} {X : Cx} {pins : List (Addr × Obj)} {σ : L2.St} {s : Shared}
def rOp (K : PySem.W.Frag) (o : Op2) : R2 := fun x y H Q => ∃ M d e w, Pk K M H x d ∧ Pk K M H y e ∧ op2 o d e = some w ∧ Rs K M H Q w
def rUn (K : PySem.W.Frag) (o : Op1) : V → Hp → VK → Prop := fun x H Q => ∃ M d w, Pk K M H x d ∧ op1 o d = some w ∧ Rs K M H Q w
/-- a list that is read -/
theorem lstR {l : Addr} {xs : List V} (I : Inv X pins σ H s) (r : Rd H l (.lst xs)) : xs.length ≤ sizeLine ∧ ∃ (its : List Value) (n : Nat), Vals xs its ∧ xs.length = its.length ∧ s.heap.get? l = some { cls := .type "list", data := .seq its.toArray n } := by
  obtain ⟨z, its, n, h1, h2⟩ := (show ObjOk X.prog X.w H s.heap l (.lst xs) from L2.Rd.ok r I.hok)
  exact ⟨z, its, n, h1, h1.length, h2⟩
/-! ### shapes -/
theorem Pk.int {v : V} {i : Int} (h : Pk K M H v (.int i)) : v = .int i := by cases (show Dat K M H v (.int i) from h); rfl
theorem Pk.bool {v : V} {b : Bool} (h : Pk K M H v (.bool b)) : v = .bl b := by cases (show Dat K M H v (.bool b) from h); rfl
theorem Pk.str {v : V} {x : Str} (h : Pk K M H v (.str x)) : v = .str x := by cases (show Dat K M H v (.str x) from h); rfl
theorem Pk.non {v : V} (h : Pk K M H v .none) : v = .non := by cases (show Dat K M H v .none from h); rfl
theorem Pk.lst {v : V} {ds : List D} (h : Pk K M H v (.list ds)) : ∃ a vs, v = .ref a ∧ Rd H a (.lst vs) ∧ DatA K M H vs ds := h
theorem Pk.tup {v : V} {ds : List D} (h : Pk K M H v (.tuple ds)) : ∃ a vs, v = .ref a ∧ SqT K H a vs ∧ DatA K M H vs ds := by
  cases (show Dat K M H v (.tuple ds) from h) with | tup r q => exact ⟨_, _, rfl, r, q⟩
theorem Pk.dict {v : V} {ds : List (D × D)} (h : Pk K M H v (.dict ds)) : False := by
  cases (show Dat K M H v (.dict ds) from h)
theorem some_ite {α : Type} {c : Prop} [Decidable c] {a w : α} (h : (if c then some a else none) = some w) : c ∧ a = w := by
  split at h
  · rename_i hc; exact ⟨hc, Option.some.inj h⟩
  · cases h
/-! ### arithmetic -/
theorem o_add : OpR X (binaryOp .Add) (rOp X.K .add) := by
  intro pins s σ H x y v u Q I rx ry h
  obtain ⟨M, d, e, w, hd, he, hw, hR⟩ := h
  cases d with
  | int i =>
    cases e with
    | int j => cases hw; exact op_add pins s σ H x y v u Q I rx ry ⟨i, j, hd.int, he.int, hR.scalar (.int _)⟩
    | _ => cases hw
  | str a =>
    cases e with
    | str b => obtain ⟨z, rfl⟩ := some_ite hw; exact op_add_str pins s σ H x y v u Q I rx ry ⟨a, b, hd.str, he.str, z, hR.scalar (.str _)⟩
    | _ => cases hw
  | list xs =>
    cases e with
    | list ys =>
      obtain ⟨z, rfl⟩ := some_ite hw
      obtain ⟨l, vs, rfl, r1, q1⟩ := hd.lst
      obtain ⟨b, ws, rfl, r2, q2⟩ := he.lst
      cases rx
      cases ry
      obtain ⟨z1, its, n, r, hl, e⟩ := lstR I r1
      obtain ⟨z2, its2, n2, r2, hl2, e2⟩ := lstR I r2
      have h1 := q1.length
      have h2 := q2.length
      refine PySem.P.add_list e e2 ?_ (by rw [List.size_toArray, List.size_toArray]; omega)
      have ea : its.toArray ++ its2.toArray = (its ++ its2).toArray := by simp
      rw [ea]
      exact ⟨.ref _, _, I.lnew (t' := s.toks) (r.append r2) (by rw [List.length_append]; omega), rfl, hR.lst (q1.append q2) I.fresh⟩
    | _ => cases hw
  | tuple xs =>
    cases e with
    | tuple ys =>
      obtain ⟨z, rfl⟩ := some_ite hw
      obtain ⟨l, vs, rfl, r1, q1⟩ := hd.tup
      obtain ⟨b, ws, rfl, r2, q2⟩ := he.tup
      have h1 := q1.length
      have h2 := q2.length
      refine op_catA pins s σ H _ _ v u Q I rx ry ⟨l, b, vs, ws, rfl, rfl, r1, r2, by omega, fun ev => ?_, fun _ ew => ?_, fun _ _ p hp => hR.tup (q1.append q2) hp⟩
      · subst ev
        cases q1
        exact hR.scalar (.tup r2 q2)
      · subst ew
        cases q2
        rw [List.append_nil] at hR
        exact hR.scalar (.tup r1 q1)
    | _ => cases hw
  | _ => cases e <;> cases hw
theorem o_sub : OpR X (binaryOp .Sub) (rOp X.K .sub) := by
  intro pins s σ H x y v u Q I rx ry h
  obtain ⟨M, d, e, w, hd, he, hw, hR⟩ := h
  cases d with
  | int i =>
    cases e with
    | int j => cases hw; exact op_sub pins s σ H x y v u Q I rx ry ⟨i, j, hd.int, he.int, hR.scalar (.int _)⟩
    | bool b =>
      cases hw
      cases hd.int
      cases he.bool
      obtain ⟨t, rfl⟩ := rx
      cases ry
      exact PySem.IntBool.sub_int_bool ⟨.int (i - EV.b2i b), H, I.tok _, ⟨_, rfl⟩, hR.scalar (.int _)⟩
    | _ => cases hw
  | _ => cases e <;> cases hw
theorem small64_of {i : Int} (h : small64 i = true) : -(2 ^ 64) < i ∧ i < 2 ^ 64 := by
  unfold small64 at h
  rw [Bool.and_eq_true] at h
  exact ⟨of_decide_eq_true h.1, of_decide_eq_true h.2⟩
theorem o_mul : OpR X (binaryOp .Mult) (rOp X.K .mul) := by
  intro pins s σ H x y v u Q I rx ry h
  obtain ⟨M, d, e, w, hd, he, hw, hR⟩ := h
  cases d with
  | int i =>
    cases e with
    | int j =>
      obtain ⟨z, rfl⟩ := some_ite hw
      rw [Bool.or_eq_true] at z
      exact op_mul pins s σ H x y v u Q I rx ry ⟨i, j, hd.int, he.int, z.imp small64_of small64_of, hR.scalar (.int _)⟩
    | _ => cases hw
  | _ => cases e <;> cases hw
theorem o_fdiv : OpR X (binaryOp .FloorDiv) (rOp X.K .fdiv) := by
  intro pins s σ H x y v u Q I rx ry h
  obtain ⟨M, d, e, w, hd, he, hw, hR⟩ := h
  cases d with
  | int i =>
    cases e with
    | int j => obtain ⟨z, rfl⟩ := some_ite hw; exact op_fdiv pins s σ H x y v u Q I rx ry ⟨i, j, hd.int, he.int, z, hR.scalar (.int _)⟩
    | _ => cases hw
  | _ => cases e <;> cases hw
theorem o_mod : OpR X (binaryOp .Mod) (rOp X.K .mod) := by
  intro pins s σ H x y v u Q I rx ry h
  obtain ⟨M, d, e, w, hd, he, hw, hR⟩ := h
  cases d with
  | int i =>
    cases e with
    | int j => obtain ⟨z, rfl⟩ := some_ite hw; exact op_mod pins s σ H x y v u Q I rx ry ⟨i, j, hd.int, he.int, z, hR.scalar (.int _)⟩
    | _ => cases hw
  | _ => cases e <;> cases hw
theorem o_pow : OpR X (binaryOp .Pow) (rOp X.K .pow) := by
  intro pins s σ H x y v u Q I rx ry h
  obtain ⟨M, d, e, w, hd, he, hw, hR⟩ := h
  cases d with
  | int i =>
    cases e with
    | int j => obtain ⟨z, rfl⟩ := some_ite hw; exact op_pow pins s σ H x y v u Q I rx ry ⟨i, j, hd.int, he.int, z, hR.scalar (.int _)⟩
    | _ => cases hw
  | _ => cases e <;> cases hw
/-! ### comparisons -/
theorem o_eq (hu : X.A.units + 65 < cLine) : OpR X (compareOp .Eq) (rOp X.K .eq) := by
  intro pins s σ H x y v u Q I rx ry h
  obtain ⟨M, d, e, w, hd, he, hw, hR⟩ := h
  obtain ⟨z, rfl⟩ := some_ite (show (if eqOk d e = true then some (W.dat (.bool (PyData.eqv d e))) else none) = some w from hw)
  simp only [eqOk, Bool.and_eq_true] at z
  exact op_eqD (by omega) pins s σ H x y v u Q I rx ry ⟨d, e, hd.dp, he.dp, z.1, z.2, hR.scalar (.bl _)⟩
theorem o_ne (hu : X.A.units + 65 < cLine) : OpR X (compareOp .NotEq) (rOp X.K .ne) := by
  intro pins s σ H x y v u Q I rx ry h
  obtain ⟨M, d, e, w, hd, he, hw, hR⟩ := h
  obtain ⟨z, rfl⟩ := some_ite (show (if eqOk d e = true then some (W.dat (.bool (!PyData.eqv d e))) else none) = some w from hw)
  simp only [eqOk, Bool.and_eq_true] at z
  exact op_neD (by omega) pins s σ H x y v u Q I rx ry ⟨d, e, hd.dp, he.dp, z.1, z.2, hR.scalar (.bl _)⟩
theorem o_lt (hu : X.A.units + 65 < cLine) : OpR X (compareOp .Lt) (rOp X.K .lt) := by
  intro pins s σ H x y v u Q I rx ry h
  obtain ⟨M, d, e, w, hd, he, hw, hR⟩ := h
  obtain ⟨z, rfl⟩ := some_ite (show (if ltOk d e = true then some (W.dat (.bool (PySem.W.dataLt d e))) else none) = some w from hw)
  have hz : PySem.W.alike d e = true ∧ d.depth ≤ 64 ∧ d ≠ .none := by
    cases d <;> simp_all [ltOk]
  obtain ⟨as, r1⟩ := Dp.reads I d x v hd.dp rx
  obtain ⟨bs, r2⟩ := Dp.reads I e y u he.dp ry
  have hl := PySem.W.rcLt_alike d e X.A s v u as bs r1 r2 hz.1 hz.2.2 (by have := Nat.min_le_left d.depth e.depth; omega)
  exact hl X.prog X.w X.xe _ ⟨.bl _, H, I, rfl, hR.scalar (.bl _)⟩
theorem o_le : OpR X (compareOp .LtE) (rOp X.K .le) := by
  intro pins s σ H x y v u Q I rx ry h
  obtain ⟨M, d, e, w, hd, he, hw, hR⟩ := h
  cases d with
  | int i =>
    cases e with
    | int j => cases hw; exact op_le pins s σ H x y v u Q I rx ry ⟨i, j, hd.int, he.int, hR.scalar (.bl _)⟩
    | _ => cases hw
  | _ => cases e <;> cases hw
theorem o_gt : OpR X (compareOp .Gt) (rOp X.K .gt) := by
  intro pins s σ H x y v u Q I rx ry h
  obtain ⟨M, d, e, w, hd, he, hw, hR⟩ := h
  cases d with
  | int i =>
    cases e with
    | int j => cases hw; exact op_gt pins s σ H x y v u Q I rx ry ⟨i, j, hd.int, he.int, hR.scalar (.bl _)⟩
    | _ => cases hw
  | _ => cases e <;> cases hw
theorem o_ge : OpR X (compareOp .GtE) (rOp X.K .ge) := by
  intro pins s σ H x y v u Q I rx ry h
  obtain ⟨M, d, e, w, hd, he, hw, hR⟩ := h
  cases d with
  | int i =>
    cases e with
    | int j => cases hw; exact op_ge pins s σ H x y v u Q I rx ry ⟨i, j, hd.int, he.int, hR.scalar (.bl _)⟩
    | _ => cases hw
  | _ => cases e <;> cases hw
theorem room_in {A : Around} {d : D} {xs : List D} (sd : SeqAt.shaped d = true) (hu : A.units + 65 < cLine) : A.units + 1 + min (PyData.depthAll xs) d.depth < cLine := by
  have h : d.depth ≤ 64 := by
    simp only [SeqAt.shaped, Bool.and_eq_true, decide_eq_true_eq] at sd
    exact sd.2
  have := Nat.min_le_right (PyData.depthAll xs) d.depth
  omega
theorem o_in (hu : X.A.units + 65 < cLine) : OpR X (compareOp .In) (rOp X.K .isin) := by
  intro pins s σ H x y v u Q I rx ry h
  obtain ⟨M, d, e, w, hd, he, hw, hR⟩ := h
  cases e with
  | str b =>
    cases d with
    | str a => cases hw; exact op_in_str pins s σ H x y v u Q I rx ry ⟨a, b, hd.str, he.str, hR.scalar (.bl _)⟩
    | _ => cases hw
  | list xs =>
    obtain ⟨z, rfl⟩ := some_ite (show (if (SeqAt.shaped d && SeqAt.shaped (.list xs)) = true then some (W.dat (.bool (inD d xs))) else none) = some w by cases d <;> exact hw)
    rw [Bool.and_eq_true] at z
    obtain ⟨as, r1⟩ := Dp.reads I d x v hd.dp rx
    obtain ⟨bs, r2⟩ := Dp.reads I (.list xs) y u he.dp ry
    exact SeqAt.in_list_reads r2 r1 (SeqAt.canLay_of_shaped z.2) (SeqAt.canLay_of_shaped z.1) (room_in z.1 hu) ⟨.bl _, H, I, rfl, hR.scalar (.bl _)⟩
  | tuple xs =>
    obtain ⟨z, rfl⟩ := some_ite (show (if (SeqAt.shaped d && SeqAt.shaped (.tuple xs)) = true then some (W.dat (.bool (inD d xs))) else none) = some w by cases d <;> exact hw)
    rw [Bool.and_eq_true] at z
    obtain ⟨as, r1⟩ := Dp.reads I d x v hd.dp rx
    obtain ⟨bs, r2⟩ := Dp.reads I (.tuple xs) y u he.dp ry
    exact SeqAt.in_tuple_reads r2 r1 (SeqAt.canLay_of_shaped z.2) (SeqAt.canLay_of_shaped z.1) (room_in z.1 hu) ⟨.bl _, H, I, rfl, hR.scalar (.bl _)⟩
  | _ => cases d <;> cases hw
theorem o_notin (hu : X.A.units + 65 < cLine) : OpR X (compareOp .NotIn) (rOp X.K .notin) := by
  intro pins s σ H x y v u Q I rx ry h
  obtain ⟨M, d, e, w, hd, he, hw, hR⟩ := h
  cases e with
  | str b =>
    cases d with
    | str a => cases hw; exact L2.op_notIn_str pins s σ H x y v u Q I rx ry ⟨a, b, hd.str, he.str, hR.scalar (.bl _)⟩
    | _ => cases hw
  | list xs =>
    obtain ⟨z, rfl⟩ := some_ite (show (if (SeqAt.shaped d && SeqAt.shaped (.list xs)) = true then some (W.dat (.bool (!inD d xs))) else none) = some w by cases d <;> exact hw)
    rw [Bool.and_eq_true] at z
    obtain ⟨as, r1⟩ := Dp.reads I d x v hd.dp rx
    obtain ⟨bs, r2⟩ := Dp.reads I (.list xs) y u he.dp ry
    exact SeqAt.notIn_list_reads r2 r1 (SeqAt.canLay_of_shaped z.2) (SeqAt.canLay_of_shaped z.1) (room_in z.1 hu) ⟨.bl _, H, I, rfl, hR.scalar (.bl _)⟩
  | tuple xs =>
    obtain ⟨z, rfl⟩ := some_ite (show (if (SeqAt.shaped d && SeqAt.shaped (.tuple xs)) = true then some (W.dat (.bool (!inD d xs))) else none) = some w by cases d <;> exact hw)
    rw [Bool.and_eq_true] at z
    obtain ⟨as, r1⟩ := Dp.reads I d x v hd.dp rx
    obtain ⟨bs, r2⟩ := Dp.reads I (.tuple xs) y u he.dp ry
    exact SeqAt.notIn_tuple_reads r2 r1 (SeqAt.canLay_of_shaped z.2) (SeqAt.canLay_of_shaped z.1) (room_in z.1 hu) ⟨.bl _, H, I, rfl, hR.scalar (.bl _)⟩
  | _ => cases d <;> cases hw
/-! ### one operand -/
theorem o_neg : UnR X (unaryOp .USub) (rUn X.K .neg) := by
  intro pins s σ H x v Q I rx h
  obtain ⟨M, d, w, hd, hw, hR⟩ := h
  cases d with
  | int i => cases hw; exact un_neg pins s σ H x v Q I rx ⟨i, hd.int, hR.scalar (.int _)⟩
  | _ => cases hw
theorem isNone_of {v : V} {d : D} (h : Pk K M H v d) : decide (v = .non) = isNone d := by
  cases d with
  | none => cases h.non; rfl
  | bool b => cases h.bool; rfl
  | int i => cases h.int; rfl
  | str x => cases h.str; rfl
  | list xs => obtain ⟨a, vs, rfl, _⟩ := h.lst; rfl
  | tuple xs => obtain ⟨a, vs, rfl, _⟩ := h.tup; rfl
  | dict xs => exact (h.dict).elim
/-! ### built-in functions -/
def PkA (K : PySem.W.Frag) (M : AS) (H : Hp) : List V → List D → Prop := Paired fun v d => Pk K M H v d
def rBi (K : PySem.W.Frag) (b : Bi) : List V → Hp → VK → Prop := fun vs H Q => ∃ M ds w, PkA K M H vs ds ∧ bi b ds = some w ∧ Rs K M H Q w
theorem PkA.one {vs : List V} {d : D} (h : PkA K M H vs [d]) : ∃ v, vs = [v] ∧ Pk K M H v d := by
  cases h with | cons a t => cases t; exact ⟨_, rfl, a⟩
theorem bi_one {b : Bi} {ds : List D} {w : W} (h : bi b ds = some w) : ∃ d, ds = [d] := by
  match ds with
  | [] => cases b <;> cases h
  | [d] => exact ⟨d, rfl⟩
  | d :: e :: r => cases b <;> cases d <;> cases h
theorem c_len : CallR X (.builtin "len") (rBi X.K .len) := by
  intro pins s σ H vs us Q I r h
  obtain ⟨M, ds, w, hd, hw, hR⟩ := h
  obtain ⟨d, rfl⟩ := bi_one hw
  obtain ⟨v, rfl, hv⟩ := hd.one
  cases d with
  | list xs =>
    cases hw
    obtain ⟨a, ys, rfl, r1, q1⟩ := hv.lst
    refine call_len_seq pins s σ H _ us Q I r ⟨a, ys, rfl, .inl (.inl r1), ?_⟩
    rw [q1.length]
    exact hR.scalar (.int _)
  | tuple xs =>
    cases hw
    obtain ⟨a, ys, rfl, r1, q1⟩ := hv.tup
    refine call_len_seq pins s σ H _ us Q I r ⟨a, ys, rfl, .inr r1, ?_⟩
    rw [q1.length]
    exact hR.scalar (.int _)
  | str x =>
    obtain ⟨z, rfl⟩ := some_ite hw
    exact call_len_str pins s σ H _ us Q I r ⟨x, by rw [hv.str], z, hR.scalar (.int _)⟩
  | _ => cases hw
theorem c_abs : CallR X (.builtin "abs") (rBi X.K .abs) := by
  intro pins s σ H vs us Q I r h
  obtain ⟨M, ds, w, hd, hw, hR⟩ := h
  obtain ⟨d, rfl⟩ := bi_one hw
  obtain ⟨v, rfl, hv⟩ := hd.one
  cases d with
  | int i => cases hw; exact call_abs pins s σ H _ us Q I r ⟨i, by rw [hv.int], hR.scalar (.int _)⟩
  | _ => cases hw
theorem c_int : CallR X (.type "int") (rBi X.K .int) := by
  intro pins s σ H vs us Q I r h
  obtain ⟨M, ds, w, hd, hw, hR⟩ := h
  obtain ⟨d, rfl⟩ := bi_one hw
  obtain ⟨v, rfl, hv⟩ := hd.one
  cases d with
  | int i => cases hw; exact call_int1 pins s σ H _ us Q I r (.inl ⟨i, by rw [hv.int], hR.scalar (.int _)⟩)
  | bool b => cases hw; exact call_int1 pins s σ H _ us Q I r (.inr ⟨b, by rw [hv.bool], hR.scalar (.int _)⟩)
  | _ => cases hw
theorem signs_vals : ∀ (us : List Value) (cs : List Nat), us.length = cs.length → (∀ (j : Nat) (v : Value), us[j]? = some v → ∃ c u, cs[j]? = some c ∧ v = .str ⟨#[c]⟩ u) → Vals (cs.map fun c => V.str ⟨#[c]⟩) us
  | [], [], _, _ => .nil
  | [], _ :: _, h, _ => nomatch h
  | _ :: _, [], h, _ => nomatch h
  | v :: us, c :: cs, h, q => by
    obtain ⟨c', u, e, rfl⟩ := q 0 v rfl
    cases e
    exact .cons ⟨u, rfl⟩ (signs_vals us cs (by simpa using h) fun j w hw => q (j + 1) w hw)
theorem signs_dat : ∀ cs : List Nat, DatA K M H (cs.map fun c => V.str ⟨#[c]⟩) (cs.map fun c => PyData.str ⟨#[c]⟩)
  | [] => .nil
  | c :: cs => .cons (.str _) (signs_dat cs)
theorem chars_at {x : Str} {acc : Array Value} (h : ItemsOf (SignAt x) acc x.cps.size) : ∃ vs, Vals vs acc.toList ∧ DatA K M H vs (chars x) := by
  refine ⟨x.cps.toList.map fun c => V.str ⟨#[c]⟩, signs_vals _ _ (by simpa using h.1) fun j v hv => ?_, signs_dat _⟩
  obtain ⟨c, u, e1, e2⟩ := h.2 j v (by simpa using hv)
  exact ⟨c, u, by simpa using e1, e2⟩
theorem c_list (hc : X.calm = true) : CallR X (.type "list") (rBi X.K .list) := by
  intro pins s σ H vs us Q I r h
  obtain ⟨M, ds, w, hd, hw, hR⟩ := h
  obtain ⟨d, rfl⟩ := bi_one hw
  obtain ⟨v, rfl, hv⟩ := hd.one
  cases d with
  | list xs =>
    cases hw
    obtain ⟨a, ys, rfl, r1, q1⟩ := hv.lst
    exact call_list_of pins s σ H _ us Q I r ⟨a, ys, rfl, .inl (.inl r1), fun l hl => hR.lst q1 hl⟩
  | tuple xs =>
    cases hw
    obtain ⟨a, ys, rfl, r1, q1⟩ := hv.tup
    exact call_list_of pins s σ H _ us Q I r ⟨a, ys, rfl, .inr r1, fun l hl => hR.lst q1 hl⟩
  | str x =>
    obtain ⟨hz, rfl⟩ := some_ite hw
    obtain ⟨u, rfl, ru⟩ := Vals.one r
    cases hv
    obtain ⟨t, rfl⟩ := ru
    refine call_list_str (I.ok.hd hc) x t (fun h' tk acc' c' hk hS hacc => ?_) hz
    obtain ⟨vs, h1, h2⟩ := chars_at (K := X.K) (M := M) (H := H) hacc
    have hp : H s.heap.objs.size = none := I.hok.fresh (Nat.le_refl _)
    have hl := h2.length
    refine ⟨.ref _, upd H s.heap.objs.size (.lst vs), I.laid (t' := tk) hk (Nat.le_refl _) ?_, rfl, hR.lst h2 hp⟩
    exact ⟨by rw [hl]; simpa [chars, Str.length] using hz, acc'.toList, c', h1, by simpa using hS⟩
  | _ => cases hw
theorem c_tuple : CallR X (.type "tuple") (rBi X.K .tuple) := by
  intro pins s σ H vs us Q I r h
  obtain ⟨M, ds, w, hd, hw, hR⟩ := h
  obtain ⟨d, rfl⟩ := bi_one hw
  obtain ⟨v, rfl, hv⟩ := hd.one
  cases d with
  | list xs =>
    cases hw
    obtain ⟨a, ys, rfl, r1, q1⟩ := hv.lst
    exact call_tuple_of pins s σ H _ us Q I r ⟨a, ys, rfl, .inl ⟨.inl r1, fun l hl => hR.tup q1 hl⟩⟩
  | tuple xs =>
    cases hw
    obtain ⟨a, ys, rfl, r1, q1⟩ := hv.tup
    exact call_tuple_of pins s σ H _ us Q I r ⟨a, ys, rfl, .inr ⟨r1, hR.scalar (.tup r1 q1)⟩⟩
  | _ => cases hw
theorem bools_of : ∀ {ds : List D} {bs : List Bool} {vs : List V}, bools ds = some bs → DatA K M H vs ds → vs = bs.map V.bl
  | [], bs, vs, h, q => by cases h; cases q; rfl
  | .bool b :: r, bs, vs, h, q => by
    simp only [bools, Option.map_eq_some_iff] at h
    obtain ⟨bs', h, rfl⟩ := h
    cases q with
    | cons q t => cases q; rw [bools_of h t]; rfl
  | .none :: _, _, _, h, _ => by cases h
  | .int _ :: _, _, _, h, _ => by cases h
  | .str _ :: _, _, _, h, _ => by cases h
  | .list _ :: _, _, _, h, _ => by cases h
  | .tuple _ :: _, _, _, h, _ => by cases h
  | .dict _ :: _, _, _, h, _ => by cases h
theorem ints_of : ∀ {ds : List D} {ns : List Int} {vs : List V}, intL ds = some ns → DatA K M H vs ds → vs = ns.map V.int
  | [], bs, vs, h, q => by cases h; cases q; rfl
  | .int b :: r, bs, vs, h, q => by
    simp only [intL, Option.map_eq_some_iff] at h
    obtain ⟨bs', h, rfl⟩ := h
    cases q with
    | cons q t => cases q; rw [ints_of h t]; rfl
  | .none :: _, _, _, h, _ => by cases h
  | .bool _ :: _, _, _, h, _ => by cases h
  | .str _ :: _, _, _, h, _ => by cases h
  | .list _ :: _, _, _, h, _ => by cases h
  | .tuple _ :: _, _, _, h, _ => by cases h
  | .dict _ :: _, _, _, h, _ => by cases h
theorem c_all (hc : X.calm = true) : CallR X (.builtin "all") (rBi X.K .all) := by
  intro pins s σ H vs us Q I r h
  obtain ⟨M, ds, w, hd, hw, hR⟩ := h
  obtain ⟨d, rfl⟩ := bi_one hw
  obtain ⟨v, rfl, hv⟩ := hd.one
  cases d with
  | list xs =>
    simp only [bi, Option.map_eq_some_iff] at hw
    obtain ⟨bs, hb, rfl⟩ := hw
    obtain ⟨a, ys, rfl, r1, q1⟩ := hv.lst
    cases bools_of hb q1
    exact cr_all hc pins s σ H _ us Q I r ⟨a, bs, rfl, .inl r1, hR.scalar (.bl _)⟩
  | _ => cases hw
theorem c_any (hc : X.calm = true) : CallR X (.builtin "any") (rBi X.K .any) := by
  intro pins s σ H vs us Q I r h
  obtain ⟨M, ds, w, hd, hw, hR⟩ := h
  obtain ⟨d, rfl⟩ := bi_one hw
  obtain ⟨v, rfl, hv⟩ := hd.one
  cases d with
  | list xs =>
    simp only [bi, Option.map_eq_some_iff] at hw
    obtain ⟨bs, hb, rfl⟩ := hw
    obtain ⟨a, ys, rfl, r1, q1⟩ := hv.lst
    cases bools_of hb q1
    exact cr_any hc pins s σ H _ us Q I r ⟨a, bs, rfl, .inl r1, hR.scalar (.bl _)⟩
  | _ => cases hw
theorem c_sum (hc : X.calm = true) : CallR X (.builtin "sum") (rBi X.K .sum) := by
  intro pins s σ H vs us Q I r h
  obtain ⟨M, ds, w, hd, hw, hR⟩ := h
  obtain ⟨d, rfl⟩ := bi_one hw
  obtain ⟨v, rfl, hv⟩ := hd.one
  cases d with
  | list xs =>
    simp only [bi, Option.map_eq_some_iff] at hw
    obtain ⟨bs, hb, rfl⟩ := hw
    obtain ⟨a, ys, rfl, r1, q1⟩ := hv.lst
    cases ints_of hb q1
    exact cr_sum hc pins s σ H _ us Q I r ⟨a, bs, rfl, .inl r1, hR.scalar (.int _)⟩
  | _ => cases hw
/-! ### sorted -/
theorem reads_each (I : Inv X pins σ H s) : ∀ {vs : List V} {ds : List D} {us : List Value}, DatA X.K M H vs ds → Vals vs us → PySem.W.EachIs (fun u d => (∃ v, RelV v u ∧ Dat X.K M H v d) ∧ ∃ as, Reads s.heap u d as) us ds
  | _, _, _, .nil, .nil => .nil
  | _, _, _, .cons h t, .cons r q => .cons ⟨⟨_, r, h⟩, Dp.reads I _ _ _ h.dp r⟩ (reads_each I t q)
theorem each_vals : ∀ {us : List Value} {ds : List D}, PySem.W.EachIs (fun u d => ∃ v, RelV v u ∧ Dat K M H v d) us ds → ∃ vs, Vals vs us ∧ DatA K M H vs ds
  | _, _, .nil => ⟨[], .nil, .nil⟩
  | _, _, .cons ⟨v, r, h⟩ t => by
    obtain ⟨vs, h1, h2⟩ := each_vals t
    exact ⟨v :: vs, .cons r h1, .cons h h2⟩
theorem sortOk_of {xs : List D} (h : sortOk xs = true) : PySem.W.AllAlike xs ∧ (∀ x ∈ xs, x ≠ .none) ∧ ∀ x ∈ xs, x.depth ≤ 64 := by
  simp only [sortOk, Bool.and_eq_true, allAlike, depthOk, List.all_eq_true, decide_eq_true_eq] at h
  obtain ⟨⟨h1, h2⟩, h3⟩ := h
  refine ⟨fun d hd d' hd' => h1 d hd d' hd', fun d hd z => ?_, h2⟩
  have q := h3 d hd
  subst z
  cases q
theorem dLe_eq : (PySem.W.dataLe false fun d : D => d) = dLe := by
  rw [PySem.W.dataLe_eq]; rfl
/-- what sorted leaves: a new list -/
theorem sorted_left {l : Addr} {vs : List V} {ds : List D} {its : List Value} {Q : VK} (I : Inv X pins σ H s) (hl : s.heap.IsList l its.toArray) (q1 : DatA X.K M H vs ds) (r : Vals vs its) (hz : vs.length ≤ sizeLine) (ok : sortOk ds = true) (hu : X.A.units + 67 < cLine)
    (hQ : ∀ ws, DatA X.K M H ws (sortD ds) → ∀ p, H p = none → Q (.ref p) (upd H p (.lst ws))) : wpAny (model X.prog X.w) X.A (call (.builtin "sorted") [.ref l]) (EP X pins σ Q) X.xe s := by
  obtain ⟨h1, h2, h3⟩ := sortOk_of ok
  have hlen := q1.length
  have hr := reads_each I q1 r
  refine EVS.sorted_any (R := fun u d => ∃ v, RelV v u ∧ Dat X.K M H v d) hl (hr.mono fun _ _ q => q.1) (hr.mono fun _ _ q => q.2) h1 h2 (by omega) (fun d hd => by have := h3 d hd; omega) fun out ho eo => ?_
  rw [dLe_eq, sortD_eq] at eo
  obtain ⟨ws, hw, hd⟩ := each_vals eo
  obtain ⟨e, he⟩ := sortedAll_at s.heap its out.toArray
  have sz : H (s.heap.objs.size + 1) = none := I.hok.fresh (Nat.le_succ _)
  have e1 := hw.length
  refine ⟨.ref _, upd H (s.heap.objs.size + 1) (.lst ws), I.laid (t' := s.toks) (fun b o q => sortedAll_old q) (Nat.le_succ _) ?_, rfl, hQ ws hd _ sz⟩
  exact ⟨by omega, out, e, hw, he⟩
theorem c_sorted (hu : X.A.units + 67 < cLine) : CallR X (.builtin "sorted") (rBi X.K .sorted) := by
  intro pins s σ H vs us Q I r h
  obtain ⟨M, ds, w, hd, hw, hR⟩ := h
  obtain ⟨d, rfl⟩ := bi_one hw
  obtain ⟨v, rfl, hv⟩ := hd.one
  cases d with
  | list xs =>
    obtain ⟨z, rfl⟩ := some_ite hw
    obtain ⟨a, ys, rfl, r1, q1⟩ := hv.lst
    obtain ⟨u, rfl, ru⟩ := Vals.one r
    cases ru
    obtain ⟨hz, its, n, rv, hl, e⟩ := lstR I r1
    exact sorted_left I ⟨_, e, rfl, n, rfl⟩ q1 rv hz z hu fun ws hw p hp => hR.lst hw hp
  | _ => cases hw
/-! ### sorted(set(x)) -/
def SetVO (w : World) (us : List Value) (a : Addr) : HO := .ext fun h => EVK.SetV w us h a
theorem setVO_new {w : World} {P : Program} {H : Hp} {h : Heap} {a : Addr} {us : List Value} (R : EVK.SetV w us h a) : ObjOk P w H h a (SetVO w us a) := by
  have ⟨es, ep, t, ⟨o, ho, r⟩, q⟩ := R
  exact ⟨R, ⟨o, ho⟩, fun h1 h2 p k => EVK.SetV.at p k⟩
def rSetD (K : PySem.W.Frag) (w : World) : List V → Hp → VK → Prop := fun vs H Q => ∃ M d ds, PkA K M H vs [d] ∧ items d = some ds ∧ setOk ds = true ∧
  ∀ a us ws es, H a = none → Vals ws us → DatA K M H ws es → es.Nodup → (∀ x, x ∈ es ↔ x ∈ ds) → Q (.ref a) (upd H a (SetVO w us a))
theorem setOk_of {ds : List D} (h : setOk ds = true) : ds.length < 64 ∧ ((∃ ns : List Int, ds = ns.map .int) ∨ ∃ ks : List (List Int), ds = ks.map rowT) := by
  simp only [setOk, Bool.and_eq_true, Bool.or_eq_true, decide_eq_true_eq] at h
  refine ⟨h.1, ?_⟩
  rcases h.2 with q | q
  · obtain ⟨ns, e⟩ := Option.isSome_iff_exists.mp q
    exact .inl ⟨ns, intL_some e⟩
  · exact .inr (rows_some q)
theorem setOk_tot {ds : List D} (h : setOk ds = true) : Tot ds := by
  rcases (setOk_of h).2 with ⟨ns, rfl⟩ | ⟨ks, rfl⟩
  · exact tot_ints ns
  · exact tot_rows ks
theorem dat_ints : ∀ {ns : List Int} {vs : List V}, DatA K M H vs (ns.map .int) → vs = ns.map V.int
  | [], _, h => by cases h; rfl
  | n :: ns, _, h => by
    cases h with
    | cons h t =>
      cases h
      rw [dat_ints t]; rfl
theorem ints_dat : ∀ (ns : List Int), DatA K M H (ns.map V.int) (ns.map .int)
  | [] => .nil
  | n :: ns => .cons (.int n) (ints_dat ns)
theorem intsAre_of : ∀ {ns : List Int} {us : List Value}, Vals (ns.map V.int) us → PyProof.Rows.IntsAre us ns
  | [], _, .nil => .nil
  | n :: ns, _, .cons r t => by
    obtain ⟨tk, rfl⟩ := r
    exact .cons n tk (intsAre_of t)
theorem vals_ints : ∀ {ns : List Int} {us : List Value}, PyProof.Rows.IntsAre us ns → Vals (ns.map V.int) us
  | _, _, .nil => .nil
  | _, _, .cons n tk t => .cons ⟨tk, rfl⟩ (vals_ints t)
theorem dat_rows : ∀ {ks : List (List Int)} {vs : List V}, DatA K M H vs (ks.map rowT) → ∃ L : List (Addr × List Int), ks = L.map (·.2) ∧ vs = L.map (fun p => V.ref p.1) ∧ ∀ p ∈ L, SqT K H p.1 (p.2.map V.int)
  | [], _, h => by cases h; exact ⟨[], rfl, rfl, fun p hp => nomatch hp⟩
  | k :: ks, _, h => by
    cases h with
    | cons h t =>
      obtain ⟨L, e1, e2, e3⟩ := dat_rows t
      cases h with
      | tup r q =>
        cases dat_ints q
        refine ⟨(_, k) :: L, by rw [e1]; rfl, by rw [e2]; rfl, fun p hp => ?_⟩
        rcases List.mem_cons.mp hp with z | z
        · subst z; exact r
        · exact e3 p z
theorem rows_dat : ∀ (L : List (Addr × List Int)), (∀ p ∈ L, SqT K H p.1 (p.2.map V.int)) → DatA K M H (L.map fun p => V.ref p.1) ((L.map (·.2)).map rowT)
  | [], _ => .nil
  | p :: L, h => .cons (.tup (h p List.mem_cons_self) (ints_dat p.2)) (rows_dat L fun q hq => h q (List.mem_cons_of_mem _ hq))
theorem int_inj {i j : Int} (h : (PyData.int i) = .int j) : i = j := by cases h; rfl
theorem rowT_inj {a b : List Int} (h : rowT a = rowT b) : a = b := by
  unfold rowT at h
  injection h with h
  exact List.map_inj_right (fun _ _ => int_inj) |>.mp h
theorem nodup_map {α β : Type} {f : α → β} (hf : ∀ a b, f a = f b → a = b) {l : List α} (h : l.Nodup) : (l.map f).Nodup := List.pairwise_map.mpr (List.Pairwise.imp (fun {a b} n e => n (hf a b e)) h)
theorem c_set (hc : X.calm = true) (hu : X.A.units + 67 < cLine) : CallR X (.type "set") (rSetD X.K X.w) := by
  intro pins s σ H vs us Q I r h
  obtain ⟨M, d, ds, hd, hi, hok, q⟩ := h
  obtain ⟨v, rfl, hv⟩ := hd.one
  have hn : H s.heap.objs.size = none := I.hok.fresh (Nat.le_refl _)
  obtain ⟨hl, hk⟩ := setOk_of hok
  have main : ∀ (a : Addr) (xs : List V) (its : List Value) (tp : Bool), v = .ref a → Vals xs its → DatA X.K M H xs ds → EVK.Src s.heap a its.toArray tp → wpAny (model X.prog X.w) X.A (call (.type "set") us) (EP X pins σ Q) X.xe s := by
    intro a xs its tp ev rv dv sr
    subst ev
    rw [Vals.ref1 r]
    rcases hk with ⟨ns, rfl⟩ | ⟨ks, rfl⟩
    · cases dat_ints dv
      rw [List.length_map] at hl
      refine EVK.call_set_ints tp (I.ok.hd hc) sr (ns := ns) (intsAre_of rv) (by unfold scanBound; omega) fun h' tk us2 ks hS hi nd hm k => ?_
      refine ⟨.ref _, upd H s.heap.objs.size (SetVO X.w us2 s.heap.objs.size), I.laid (t' := tk) k (Nat.le_refl _) (setVO_new hS), rfl, q _ us2 (ks.map V.int) (ks.map .int) hn (vals_ints hi) (ints_dat ks) (nodup_map (fun _ _ => int_inj) nd) fun x => ?_⟩
      simp only [List.mem_map, hm]
    · obtain ⟨L, rfl, rfl, hL⟩ := dat_rows dv
      rw [List.length_map, List.length_map] at hl
      refine EVK.call_set_rows L tp (I.ok.hd hc) sr (by simpa using refs_of_vals rv) (fun p hp => I.isT (hL p hp)) hl (by omega) fun h' tk L2 hS nd h1 h2 k => ?_
      refine ⟨.ref _, upd H s.heap.objs.size (SetVO X.w _ s.heap.objs.size), I.laid (t' := tk) k (Nat.le_refl _) (setVO_new hS), rfl, q _ _ (L2.map fun p => V.ref p.1) ((L2.map (·.2)).map rowT) hn (vals_of_refs L2) (rows_dat L2 fun p hp => hL p (h1 p hp)) (nodup_map (fun _ _ => rowT_inj) nd) fun x => ?_⟩
      simp only [List.mem_map]
      constructor
      · rintro ⟨y, ⟨p, hp, rfl⟩, rfl⟩
        exact ⟨_, ⟨p, h1 p hp, rfl⟩, rfl⟩
      · rintro ⟨y, ⟨p, hp, rfl⟩, rfl⟩
        exact ⟨_, List.mem_map.mp (h2 p hp), rfl⟩
  cases d with
  | list xs =>
    cases hi
    obtain ⟨a, ys, rfl, r1, q1⟩ := hv.lst
    obtain ⟨hz, its, n, rv, hl, e⟩ := lstR I r1
    exact main a ys its false rfl rv q1 ⟨_, e, rfl, n, rfl⟩
  | tuple xs =>
    cases hi
    obtain ⟨a, ys, rfl, r1, q1⟩ := hv.tup
    obtain ⟨its, rv, ⟨o, ho, hc, n, hd⟩, _⟩ := I.tuple r1
    exact main a ys its true rfl rv q1 ⟨o, ho, hc, n, hd⟩
  | _ => cases hi
def rSortV (K : PySem.W.Frag) (w : World) : List V → Hp → VK → Prop := fun vs H Q => ∃ a us ws es M, vs = [.ref a] ∧ H a = some (SetVO w us a) ∧ Vals ws us ∧ DatA K M H ws es ∧ sortOk es = true ∧ es.length < 64 ∧
  ∀ ws' cs, cs.Perm es → DatA K M H ws' (sortD cs) → ∀ p, H p = none → Q (.ref p) (upd H p (.lst ws'))
theorem c_sortV (hc : X.calm = true) (hu : X.A.units + 67 < cLine) : CallR X (.builtin "sorted") (rSortV X.K X.w) := by
  intro pins s σ H vs us Q I r h
  obtain ⟨a, us2, ws, es, M, rfl, ha, hv, hd, hok, hl, q⟩ := h
  have S : EVK.SetV X.w us2 s.heap a := (I.hok a _ ha).1
  rw [Vals.ref1 r]
  obtain ⟨h1, h2, h3⟩ := sortOk_of hok
  have hr := reads_each I hd hv
  refine EVK.sorted_setV (R := fun u d => ∃ v, RelV v u ∧ Dat X.K M H v d) S (I.ok.hd hc) (hr.mono fun _ _ q => q.1) (hr.mono fun _ _ q => q.2) h1 h2 (by rw [sizeLine_eq]; omega) (fun d hd => by have := h3 d hd; omega) fun s' p out c cs k g o hp hg hperm eo => ?_
  rw [dLe_eq, sortD_eq] at eo
  obtain ⟨ws2, hw, hd2⟩ := each_vals eo
  have hn : H p = none := I.hok.fresh hp
  have hlen : ws2.length ≤ sizeLine := by
    rw [hd2.length, (sortD_perm cs).length_eq, hperm.length_eq, sizeLine_eq]; omega
  have J : Inv X pins σ (upd H p (.lst ws2)) { s with heap := s'.heap, gens := s'.gens, drawn := s'.drawn, toks := s'.toks } :=
    I.call (ch := []) (Un.laid k hp hn) (I.hok.laid k hp ⟨hlen, out, c, hw, hg⟩) (by rw [g]; exact I.bare) (fun _ z => nomatch z)
  have e : s' = { s with heap := s'.heap, gens := s'.gens, drawn := s'.drawn, toks := s'.toks } := by
    cases s'
    cases s
    cases o
    rfl
  rw [e]
  exact ⟨.ref p, _, J, rfl, q ws2 cs hperm hd2 p hn⟩
/-! ### sum(xs, []) -/
def rSumL (K : PySem.W.Frag) : List V → Hp → VK → Prop := fun vs H Q => ∃ M v p xs ls, vs = [v, .ref p] ∧ Pk K M H v (.list xs) ∧ H p = some (.lst []) ∧ listL xs = some ls ∧ ls.flatten.length ≤ sizeLine ∧
  (ls.flatten = [] → Q (.ref p) H) ∧ ∀ ws q, DatA K M H ws ls.flatten → H q = none → Q (.ref q) (upd H q (.lst ws))
theorem lists_dat (I : Inv X pins σ H s) : ∀ {xs : List D} {ls : List (List D)} {vs : List V} {us : List Value}, listL xs = some ls → DatA X.K M H vs xs → Vals vs us →
    ∃ (zss : List (List Value)) (wss : List (List V)), us.length = zss.length ∧ (∀ (i : Nat) v, us[i]? = some v → ∃ b zs c, zss[i]? = some zs ∧ v = .ref b ∧ s.heap.get? b = some (EVM.lob zs c)) ∧ Vals wss.flatten zss.flatten ∧ DatA X.K M H wss.flatten ls.flatten
  | [], ls, _, _, e, .nil, .nil => by
    cases e
    exact ⟨[], [], rfl, fun i v h => by simp at h, .nil, .nil⟩
  | x :: xs, ls, _, _, e, .cons h t, .cons r q => by
    cases x with
    | list ys =>
      simp only [listL, Option.map_eq_some_iff] at e
      obtain ⟨ls', e1, rfl⟩ := e
      obtain ⟨zss, wss, a1, a2, a3, a4⟩ := lists_dat I e1 t q
      cases h with
      | lst r1 n q1 =>
        cases r
        obtain ⟨hz, its, n, rv, hl, e⟩ := lstR I r1
        refine ⟨its :: zss, _ :: wss, by simp [a1], fun i v h => ?_, rv.append a3, q1.append a4⟩
        cases i with
        | zero => simp at h; exact ⟨_, its, n, rfl, h.symm, e⟩
        | succ i => exact a2 i v (by simpa using h)
    | _ => cases e
theorem c_sumL (hc : X.calm = true) : CallR X (.builtin "sum") (rSumL X.K) := by
  intro pins s σ H vs us Q I r h
  obtain ⟨M, v, p, xs, ls, rfl, hv, hp, hls, hz, q0, q1⟩ := h
  obtain ⟨a, ys, rfl, r1, d1⟩ := hv.lst
  cases r with
  | cons ra t =>
    cases t with
    | cons rp t =>
      cases t
      cases ra
      cases rp
      obtain ⟨hz1, its, n, rv, hl, e⟩ := lstR I r1
      obtain ⟨hz2, its2, n2, rv2, hl2, e2⟩ := lstR I (.inl hp)
      cases rv2
      obtain ⟨zss, wss, a1, a2, a3, a4⟩ := lists_dat I hls d1 rv
      have hlen : zss.flatten.length ≤ sizeLine := by rw [← a3.length, a4.length]; exact hz
      refine EVM.call_sum (I.ok.hd hc) e e2 a1 a2 hlen (fun ev h' tk k => ?_) fun h' tk T c k hT g => ?_
      · subst ev
        have z0 : zss = [] := List.eq_nil_of_length_eq_zero (by simpa using a1.symm)
        subst z0
        have w0 : wss.flatten = [] := by
          cases hw : wss.flatten with
          | nil => rfl
          | cons x y => rw [hw] at a3; cases a3
        rw [w0] at a4
        have l0 : ls.flatten = [] := by
          cases hw : ls.flatten with
          | nil => rfl
          | cons x y => rw [hw] at a4; cases a4
        exact ⟨.ref p, H, I.kept (t' := tk) k, rfl, q0 l0⟩
      · have hn : H T = none := I.hok.fresh hT
        exact ⟨.ref T, upd H T (.lst wss.flatten), I.laid (t' := tk) k hT ⟨by rw [a3.length]; exact hlen, _, c, a3, g⟩, rfl, q1 _ T a4 hn⟩
end EV

end
section
set_option linter.all false
set_option maxRecDepth 100000
set_option Elab.async false
/-! EV, part 3: expressions -/
namespace EV
open PySem L2 PyProof.Rows
abbrev St := L2.St
/-! ### the text and the language side by side -/
def Fn.ioOk (fn : Fn) : Bool := match fn.io with | some j => decide (j < fn.np) | none => true
structure Gam where
  T : List Fn
  N : List Str
  /-- the module's constants -/
  G : List (Str × D)
  /-- calls by names: the def, the names as they stand, where each parameter's value stands -/
  W : List (Nat × List Str × List Nat)
def Gam.F (Γ : Gam) (i : Nat) : Option Fn := Γ.T[i]?
def visC (sc : Scope) (x : Str) : Bool := match sc.names.lookup x with
  | some .local => true
  | some .cell => true
  | some .free => true
  | _ => false
def glC (sc : Scope) (x : Str) : Bool := match sc.names.lookup x with
  | some .globalImplicit => true
  | _ => false
def nmC (x : Str) : Bool := decide (x ≠ ("__debug__" : Str)) && decide (x ≠ ("__classdict__" : Str)) && decide (x ≠ ("__name__" : Str))
def cstC : D → Const → Bool
  | .none, .none => true
  | .bool a, .bool b => a == b
  | .int a, .int b => decide (a = b)
  | .str a, .str b => decide (a = b)
  | _, _ => false
def opC : Op2 → Operator → Bool
  | .add, .Add | .sub, .Sub | .mul, .Mult | .fdiv, .FloorDiv | .mod, .Mod | .pow, .Pow => true
  | _, _ => false
def cmpC : Op2 → CmpOp → Bool
  | .eq, .Eq | .ne, .NotEq | .lt, .Lt | .le, .LtE | .gt, .Gt | .ge, .GtE | .isin, .In | .notin, .NotIn => true
  | _, _ => false
def biName : Bi → Str
  | .len => "len" | .abs => "abs" | .int => "int" | .list => "list" | .tuple => "tuple" | .sorted => "sorted" | .sortset => "sorted" | .all => "all" | .any => "any" | .sum => "sum" | .sumL => "sum"
def tyName : Ty → Str
  | .int => "int" | .bool => "bool" | .str => "str" | .list => "list" | .tuple => "tuple"
/-- the built-in names that may be met -/
def biNames : List Str := ["len", "abs", "int", "list", "tuple", "sorted", "set", "all", "any", "sum", "bool", "str", "isinstance", "range", "enumerate", "zip"]
/-- built-ins that are met in one form alone -/
def Bi.odd : Bi → Bool
  | .sortset | .sumL => true
  | _ => false
def argsOf : Bi → List Expr → List Expr
  | .sortset, [.Call _ ys _ _] => ys
  | .sumL, [x, _] => [x]
  | .sortset, _ => []
  | .sumL, _ => []
  | _, xs => xs
def oddC (sc : Scope) : Bi → List Expr → Bool
  | .sortset, [.Call (.Name y _) [_] [] _] => decide (y = "set") && glC sc y
  | .sumL, [_, .List [] _] => true
  | .sortset, _ => false
  | .sumL, _ => false
  | _, _ => true
def isSlice : Expr → Bool
  | .Slice .. => true
  | _ => false
def tysC (sc : Scope) : List Ty → List Expr → Bool
  | [], [] => true
  | t :: ts, .Name x _ :: es => decide (x = tyName t) && glC sc x && tysC sc ts es
  | _, _ => false
def ownOf (N : List Str) (is : List Nat) : List (Str × Nat) := is.map fun i => (N.getD i "", i)
/-- a comprehension's target: names of its own -/
def locC (scope : Scope) (x : Str) : Bool := match scope.names.lookup x with
  | some .local => true
  | some .cell => true
  | _ => false
def nameC (N : List Str) (scope : Scope) (i : Nat) : Expr → Bool
  | .Name x _ => decide (N[i]? = some x) && locC scope x
  | _ => false
def namesC (N : List Str) (scope : Scope) : List Nat → List Expr → Bool
  | [], [] => true
  | i :: is, e :: es => nameC N scope i e && namesC N scope is es
  | _, _ => false
def tgC (N : List Str) (scope : Scope) : Tg → Expr → Bool
  | .one i, e => nameC N scope i e
  | .many is, .Tuple es _ _ => namesC N scope is es
  | _, _ => false
def isTuple : Expr → Bool
  | .Tuple .. => true
  | _ => false
def methName : Me → Str
  | .append => "append" | .extend => "extend" | .popAt => "pop"
def isNC (op : CmpOp) : List CmpOp → List Expr → Bool
  | [o], [.Constant .none _ _] => decide (o = op)
  | _, _ => false
theorem isNC_of {op : CmpOp} {ops : List CmpOp} {ys : List Expr} (h : isNC op ops ys = true) : ∃ k p, ops = [op] ∧ ys = [.Constant .none k p] := by
  unfold isNC at h
  split at h
  · rename_i o k p
    cases (of_decide_eq_true h)
    exact ⟨k, p, rfl, rfl⟩
  · cases h
def headC (f : Expr → Bool) : List Expr → Bool
  | x :: _ => f x
  | [] => false
def soleC (sc : Scope) (t : Str) : List Ty → Bool
  | [ty] => decide (t = tyName ty) && glC sc t
  | _ => false
def clsC (sc : Scope) (ts : List Ty) : Bool → Expr → Bool
  | true, .Name t _ => soleC sc t ts
  | false, .Tuple tys _ _ => tysC sc ts tys && decide (ts.length ≤ 10)
  | _, _ => false
def isiC (sc : Scope) (ts : List Ty) (b : Bool) : Expr → List Expr → List Keyword → Bool
  | .Name f _, [_, t], [] => decide (f = "isinstance") && glC sc f && clsC sc ts b t
  | _, _, _ => false
def cstEq : D → D → Bool
  | .none, .none => true
  | .bool a, .bool b => a == b
  | .int a, .int b => decide (a = b)
  | .str a, .str b => decide (a = b)
  | _, _ => false
theorem cstEq_eq {a b : D} (h : cstEq a b = true) : a = b := by
  cases a <;> cases b <;> simp_all [cstEq]
def kwNames : List Keyword → Option (List Str)
  | [] => some []
  | ⟨some x, _, _⟩ :: r => (kwNames r).map (x :: ·)
  | ⟨none, _, _⟩ :: _ => none
def kwVals : List Keyword → List Expr
  | [] => []
  | ⟨_, e, _⟩ :: r => e :: kwVals r
def gloC (Γ : Gam) (sc : Scope) (k : Nat) (d : D) (x : Str) : Bool := (match Γ.G[k]? with | some p => decide (p.1 = x) && cstEq p.2 d | none => false) && glC sc x && nmC x
def kwC (Γ : Gam) (f : Nat) (perm : List Nat) (kws : List Keyword) : Bool := match kwNames kws with
  | some ks => Γ.W.any fun p => decide (p = (f, ks, perm))
  | none => false
def methC (N : List Str) (sc : Scope) (m : Me) (i : Nat) : Expr → Pos → Bool
  | .Attribute (.Name x _) nm ap, p => decide (nm = methName m) && decide (N[i]? = some x) && visC sc x && nmC x && (ap.endLine == p.line)
  | _, _ => false
/-- -1 -/
def negC : Expr → Bool
  | .UnaryOp .USub (.Constant (.int n) _ _) _ => decide (n = 1)
  | _ => false
/-- ::-1 -/
def revC : Expr → Bool
  | .Slice none none (some z) _ => negC z
  | _ => false
mutual
def okE (Γ : Gam) : E → Scope → Expr → Bool
  | .var i, sc, .Name x _ => decide (Γ.N[i]? = some x) && visC sc x && nmC x
  | .cst d, _, .Constant c _ _ => cstC d c
  | .op2 o a b, sc, .BinOp x op y _ => opC o op && okE Γ a sc x && okE Γ b sc y
  | .op2 o a b, sc, .Compare x [op] [y] _ => cmpC o op && !behindInMarks op y && okE Γ a sc x && okE Γ b sc y
  | .op1 .neg a, sc, .UnaryOp .USub x _ => okE Γ a sc x
  | .op1 .isN a, sc, .Compare x ops ys _ => isNC .Is ops ys && okE Γ a sc x
  | .op1 .notN a, sc, .Compare x ops ys _ => isNC .IsNot ops ys && okE Γ a sc x
  | .chain o o' a b c, sc, .Compare x [op, op'] [y, z] _ => cmpC o op && cmpC o' op' && !behindInMarks op y && !behindInMarks op' z && okE Γ a sc x && okE Γ b sc y && okE Γ c sc z
  | .bop k es, sc, .BoolOp op xs _ => (k == decide (op = .And)) && okB Γ es sc xs
  | .not a, sc, .UnaryOp .Not x _ => okE Γ a sc x
  | .orT a b, sc, .BoolOp .Or [x, y] _ => okE Γ a sc x && okE Γ b sc y
  | .ite c a b, sc, .IfExp t x y _ => okT Γ c sc t && okE Γ a sc x && okE Γ b sc y
  | .tup es, sc, .Tuple xs _ _ => okEs Γ es sc xs
  | .lst es, sc, .List xs _ => okEs Γ es sc xs
  | .idx a b, sc, .Subscript x y _ => !isSlice y && okE Γ a sc x && okE Γ b sc y
  | .slc a lo hi, sc, .Subscript x (.Slice l h none _) _ => okE Γ a sc x && okO Γ lo sc l && okO Γ hi sc h
  | .call f es, sc, .Call (.Name x _) xs [] _ => (match Γ.F f with | some fn => decide (fn.name = x) && fn.ioOk && decide (xs.length = fn.np) | none => false) && glC sc x && nmC x && !xs.isEmpty && okEs Γ es sc xs
  | .bi b es, sc, .Call (.Name x _) xs [] _ => decide (x = biName b) && oddC sc b xs && glC sc x && okEs Γ es sc (argsOf b xs)
  | .rep a b, sc, .BinOp x .Mult y _ => okE Γ a sc x && okE Γ b sc y
  | .isi a ts b, sc, .Call f xs ks _ => isiC sc ts b f xs ks && headC (okE Γ a sc) xs
  | .meth m i es, sc, .Call f xs [] p => methC Γ.N sc m i f p && decide (xs.length = 1) && okEs Γ es sc xs
  | .comp2 t it c t' it' c' e, sc, .ListComp elt [⟨tg, iter, ifs, 0⟩, ⟨tg1, iter1, ifs1, 0⟩] scope _ => okIt Γ it sc iter (isTuple tg) && tgC Γ.N scope t tg && okC Γ c (relS scope sc) ifs && okIt Γ it' (relS scope sc) iter1 (isTuple tg1) && tgC Γ.N scope t' tg1 && okC Γ c' (relS scope sc) ifs1 && okE Γ e (relS scope sc) elt && blkC Γ.N sc scope (ownOf Γ.N (t.slots ++ t'.slots))
  | .rev a, sc, .Subscript x y _ => revC y && okE Γ a sc x
  | .glo k d, sc, .Name x _ => gloC Γ sc k d x
  | .call0 f, sc, .Call (.Name x _) [] [] _ => (match Γ.F f with | some fn => decide (fn.name = x) && fn.ioOk && decide (0 = fn.np) | none => false) && glC sc x && nmC x
  | .callK f perm es, sc, .Call (.Name x _) [] kws _ => (match Γ.F f with | some fn => decide (fn.name = x) && decide (fn.io = none) && decide (perm.length = fn.np) && perm.all (fun i => decide (i < kws.length)) | none => false) && glC sc x && nmC x && kwC Γ f perm kws && okEs Γ es sc (kwVals kws)
  | .comp t it c e, sc, .ListComp elt [⟨tg, iter, ifs, 0⟩] scope _ => okIt Γ it sc iter (isTuple tg) && tgC Γ.N scope t tg && okC Γ c (relS scope sc) ifs && okE Γ e (relS scope sc) elt && blkC Γ.N sc scope (ownOf Γ.N t.slots)
  | _, _, _ => false
/-- in a test -/
def okT (Γ : Gam) : E → Scope → Expr → Bool
  | .var i, sc, .Name x _ => decide (Γ.N[i]? = some x) && visC sc x && nmC x
  | .cst d, _, .Constant c _ _ => cstC d c
  | .op2 o a b, sc, .Compare x [op] [y] _ => cmpC o op && !behindInMarks op y && okE Γ a sc x && okE Γ b sc y
  | .op1 .isN a, sc, .Compare x ops ys _ => isNC .Is ops ys && okE Γ a sc x
  | .op1 .notN a, sc, .Compare x ops ys _ => isNC .IsNot ops ys && okE Γ a sc x
  | .chain o o' a b c, sc, .Compare x [op, op'] [y, z] _ => cmpC o op && cmpC o' op' && !behindInMarks op y && !behindInMarks op' z && okE Γ a sc x && okE Γ b sc y && okE Γ c sc z
  | .bop k es, sc, .BoolOp op xs _ => (k == decide (op = .And)) && okTB Γ es sc xs
  | .not a, sc, .UnaryOp .Not x _ => okT Γ a sc x
  | .idx a b, sc, .Subscript x y _ => !isSlice y && okE Γ a sc x && okE Γ b sc y
  | .call f es, sc, .Call (.Name x _) xs [] _ => (match Γ.F f with | some fn => decide (fn.name = x) && fn.ioOk && decide (xs.length = fn.np) | none => false) && glC sc x && nmC x && !xs.isEmpty && okEs Γ es sc xs
  | .bi b es, sc, .Call (.Name x _) xs [] _ => decide (x = biName b) && oddC sc b xs && glC sc x && okEs Γ es sc (argsOf b xs)
  | .isi a ts b, sc, .Call f xs ks _ => isiC sc ts b f xs ks && headC (okE Γ a sc) xs
  | .call0 f, sc, .Call (.Name x _) [] [] _ => (match Γ.F f with | some fn => decide (fn.name = x) && fn.ioOk && decide (0 = fn.np) | none => false) && glC sc x && nmC x
  | _, _, _ => false
def okEs (Γ : Gam) : Es → Scope → List Expr → Bool
  | .nil, _, [] => true
  | .cons e r, sc, x :: xs => okE Γ e sc x && okEs Γ r sc xs
  | _, _, _ => false
def okB (Γ : Gam) : Es → Scope → List Expr → Bool
  | .cons e .nil, sc, [x] => okE Γ e sc x
  | .cons e r, sc, x :: y :: xs => okE Γ e sc x && okB Γ r sc (y :: xs)
  | _, _, _ => false
def okTB (Γ : Gam) : Es → Scope → List Expr → Bool
  | .cons e .nil, sc, [x] => okT Γ e sc x
  | .cons e r, sc, x :: y :: xs => okT Γ e sc x && okTB Γ r sc (y :: xs)
  | _, _, _ => false
def okO (Γ : Gam) : Eo → Scope → Option Expr → Bool
  | .no, _, none => true
  | .yes e, sc, some x => okE Γ e sc x
  | _, _, _ => false
def okC (Γ : Gam) : Eo → Scope → List Expr → Bool
  | .no, _, [] => true
  | .yes e, sc, [x] => okT Γ e sc x
  | _, _, _ => false
def okIt (Γ : Gam) : It → Scope → Expr → Bool → Bool
  | .seq e, sc, x, _ => okE Γ e sc x
  | .range1 e, sc, .Call (.Name f _) [x] [] _, _ => decide (f = "range") && glC sc f && okE Γ e sc x
  | .range2 a b, sc, .Call (.Name f _) [x, y] [] _, _ => decide (f = "range") && glC sc f && okE Γ a sc x && okE Γ b sc y
  | .down a b, sc, .Call (.Name f _) [x, y, z] [] _, _ => decide (f = "range") && glC sc f && okE Γ a sc x && okE Γ b sc y && negC z
  | .enum e, sc, .Call (.Name f _) [x] [] _, true => decide (f = "enumerate") && glC sc f && okE Γ e sc x
  | .zip a b, sc, .Call (.Name f _) [x, y] [] _, true => decide (f = "zip") && glC sc f && okE Γ a sc x && okE Γ b sc y
  | _, _, _, _ => false
end

/-! ### what a def promises -/
def Io (io : Option Nat) (vs : List V) : AS := fun a => ∃ j : Nat, io = some j ∧ vs[j]? = some (V.ref a)
structure Args (K : PySem.W.Frag) (M : AS) (H : Hp) (io : Option Nat) (vs : List V) (ds : List D) : Prop where
  len : vs.length = ds.length
  dat : ∀ (j : Nat) (v : V) (d : D), io ≠ some j → vs[j]? = some v → ds[j]? = some d → Dat K M H v d
  io : ∀ (j : Nat), io = some j → ∃ a us xs, vs[j]? = some (V.ref a) ∧ ds[j]? = some (.list xs) ∧ H a = some (.lst us) ∧ DatA K M H us xs ∧ M a
/-- the list that was handed in, as it is left -/
def IoEnd (K : PySem.W.Frag) (M : AS) (H : Hp) (io : Option Nat) (vs : List V) (r : Option (List D)) : Prop := match io with
  | none => r = none
  | some j => ∃ a us xs, vs[j]? = some (V.ref a) ∧ r = some xs ∧ H a = some (.lst us) ∧ DatA K M H us xs ∧ M a
def spOf (R : XR) (K : PySem.W.Frag) (fn : Fn) (call : List D → FRes) : Sp := fun vs H Q E => ∃ (M : AS) (ds : List D), vs.length = fn.np ∧ Args K M H fn.io vs ds ∧ (∀ a, M a → ∃ o, H a = some o) ∧
  match call ds with
  | .ok w r => ∀ M' H' v, Stp (Io fn.io vs) M H M' H' → (∀ a, M' a → ∃ o, H' a = some o) → IoEnd K M' H' fn.io vs r → VW0 K H M' H' v w → Q v H'
  | .exc x r => ∀ M' H' cls d, Stp (Io fn.io vs) M H M' H' → (∀ a, M' a → ∃ o, H' a = some o) → IoEnd K M' H' fn.io vs r → R M' H' cls d x → E cls d H'
  | .stuck => False
/-- how a call by names binds -/
def KwOk (K : PySem.W.Frag) (fd : FuncData) (ps ks : List Str) (perm : List Nat) : Prop := ∀ (s : Shared) (ws : List Value), K.In s.heap → ws.length = ks.length → BindsTo s fd ⟨[], ks.zip ws⟩ (ps.zip (perm.filterMap fun i => ws[i]?))
/-- the context of code -/
structure Lk (Γ : Gam) (cl : Nat → List D → FRes) (X : Cx) (C : Ctx) (sc : Scope) : Prop where
  K : X.K = C.K
  N : X.N = Γ.N
  nd : Γ.N.Nodup
  calm : X.calm = true
  scope : X.env.scope = sc
  kind : sc.kind = .function
  room : X.A.units + 200 < cLine
  takes : Takes X C.Wx
  bi : ∀ x, x ∈ biNames → X.mg x = none
  call : ∀ i fn, Γ.F i = some fn → ∃ k a fd ps, X.mg fn.name = some (.ref a) ∧ PySem.W.keepIn X.K (.ref a) = true ∧ (Binds X.K fd ps [] ∧ ∀ ks perm, (i, ks, perm) ∈ Γ.W → KwOk X.K fd ps ks perm) ∧ Room k X.A ∧ FnOk X.prog X.w X.K X.mg X.base (CX X.prog X.w) k a fd ps (spOf C.R X.K fn (cl i))
  glo : ∀ x d, (x, d) ∈ Γ.G → ∃ u v, X.mg x = some u ∧ RelV v u ∧ ∀ M H, Dat X.K M H v d
variable {Γ : Gam} {cl : Nat → List D → FRes} {X : Cx} {C : Ctx} {sc : Scope} {K : PySem.W.Frag} {M M' : AS} {H H' : Hp} {σ : St} {ρ ρ' ρ1 : Ro}
abbrev evG (Γ : Gam) (cl : Nat → List D → FRes) (E : E) : Ro → Res (W × Ro) := ev Γ.F cl E
/-- an expression of the language tells what its text does -/
structure SE (Γ : Gam) (cl : Nat → List D → FRes) (E : E) : Prop where
  pe : ∀ X C sc e, Lk Γ cl X C sc → okE Γ E sc e = true → PE X e (tW C (evG Γ cl E))
  pt : ∀ X C sc e, Lk Γ cl X C sc → okT Γ E sc e = true → PT X e (tT C (testOf (evG Γ cl E)))
theorem visC_of {x : Str} (h : visC sc x = true) : Vis sc x := by
  unfold visC at h
  split at h
  · exact .inl (by assumption)
  · exact .inr (.inl (by assumption))
  · exact .inr (.inr (by assumption))
  · cases h
theorem glC_of {x : Str} (L : Lk Γ cl X C sc) (h : glC sc x = true) : Gl X x := by
  unfold glC at h
  split at h
  · show X.env.scope.names.lookup x = _
    rw [L.scope]
    assumption
  · cases h
theorem nmC_of {x : Str} (h : nmC x = true) : (x == ("__debug__" : Str)) = false ∧ (x == ("__classdict__" : Str)) = false ∧ x ≠ "__name__" := by
  simp only [nmC, Bool.and_eq_true, decide_eq_true_eq] at h
  exact ⟨by simpa using h.1.1, by simpa using h.1.2, h.2⟩
/-! ### a name -/
theorem var_pe {i : Nat} {x : Str} {pos : Pos} (L : Lk Γ cl X C sc) (h : (decide (Γ.N[i]? = some x) && visC sc x && nmC x) = true) : PE X (.Name x pos) (tVar i) := by
  simp only [Bool.and_eq_true, decide_eq_true_eq] at h
  obtain ⟨⟨h1, h2⟩, h3⟩ := h
  obtain ⟨n1, n2, _⟩ := nmC_of h3
  exact pe_var (by rw [L.N]; exact h1) (by rw [L.scope]; exact visC_of h2) n1 n2
theorem Rep.at {i : Nat} {s : Sv} {M0 : AS} (r : Rep K M0 M ρ σ H) (h : get ρ i = some s) : ∃ v, σ[i]? = some (some v) := by
  have e := get_some h
  cases s with
  | dat d => obtain ⟨v, h1, _⟩ := r.dat i d e; exact ⟨v, h1⟩
  | own xs => obtain ⟨a, _, h1, _⟩ := r.lst i _ xs e rfl; exact ⟨_, h1⟩
  | io xs => obtain ⟨a, _, h1, _⟩ := r.lst i _ xs e rfl; exact ⟨_, h1⟩
theorem set_get {i j : Nat} {x : Option Sv} {s : Option Sv} (h : (ρ.set i x)[j]? = some s) : (j = i ∧ s = x) ∨ (j ≠ i ∧ ρ[j]? = some s) := by
  by_cases e : i = j
  · subst e
    by_cases hl : i < ρ.length
    · rw [List.getElem?_set_self hl] at h; cases h; exact .inl ⟨rfl, rfl⟩
    · rw [List.getElem?_eq_none (by simpa using hl)] at h; cases h
  · rw [List.getElem?_set_ne e] at h
    exact .inr ⟨fun z => e z.symm, h⟩
/-- a slot's own list becomes data -/
theorem Rep.frz {i : Nat} {xs : List D} {a : Addr} {M0 : AS} (r : Rep K M0 M ρ σ H) (h : ρ[i]? = some (some (.own xs))) (ha : σ[i]? = some (some (.ref a))) :
    Rep K M0 (fun b => M b ∧ b ≠ a) (ρ.set i (some (.dat (.list xs)))) σ H ∧ Dat K (fun b => M b ∧ b ≠ a) H (.ref a) (.list xs) ∧ (∀ b, Ow (ρ.set i (some (.dat (.list xs)))) σ b → Ow ρ σ b ∧ b ≠ a) ∧ Ow ρ σ a := by
  obtain ⟨a', us, h1, h2, h3, h4⟩ := r.lst i _ xs h rfl
  rw [ha] at h1; cases h1
  have hd : Dat K (fun b => M b ∧ b ≠ a) H (.ref a) (.list xs) := .lst (.inl h2) (fun z => z.2 rfl) (h3.less fun b z => z.1)
  have n0 := r.own i xs a h ha
  refine ⟨⟨by simpa using r.len, fun b z => r.dom b z.1, fun b z => ⟨r.sub b z, fun e => n0 (e ▸ z)⟩, fun j d e => ?_, fun j t ys e l => ?_, fun j ys b e q => ?_, fun j ys b e q => ?_, fun j k b t u ys zs e1 e2 l1 l2 q1 q2 => ?_⟩, hd, fun b ⟨j, t, ys, e, l, q⟩ => ?_, ⟨i, _, xs, h, rfl, ha⟩⟩
  · rcases set_get e with ⟨rfl, e'⟩ | ⟨hj, e⟩
    · cases e'; exact ⟨_, ha, hd⟩
    · obtain ⟨v, q1, q2⟩ := r.dat j d e; exact ⟨v, q1, q2.less fun b z => z.1⟩
  · rcases set_get e with ⟨rfl, e'⟩ | ⟨hj, e⟩
    · cases e'; cases l
    · obtain ⟨b, ws, q1, q2, q3, q4⟩ := r.lst j t ys e l
      exact ⟨b, ws, q1, q2, q3.less fun b z => z.1, q4, fun z => hj (r.inj j i a t _ ys xs e h l rfl (z ▸ q1) ha)⟩
  · rcases set_get e with ⟨rfl, e'⟩ | ⟨hj, e⟩
    · cases e'
    · exact r.own j ys b e q
  · rcases set_get e with ⟨rfl, e'⟩ | ⟨hj, e⟩
    · cases e'
    · exact r.io j ys b e q
  · rcases set_get e1 with ⟨rfl, e'⟩ | ⟨_, e1⟩
    · cases e'; cases l1
    · rcases set_get e2 with ⟨rfl, e'⟩ | ⟨_, e2⟩
      · cases e'; cases l2
      · exact r.inj j k b t u ys zs e1 e2 l1 l2 q1 q2
  · rcases set_get e with ⟨rfl, e'⟩ | ⟨hj, e⟩
    · cases e'; cases l
    · exact ⟨⟨j, t, ys, e, l, q⟩, fun z => hj (r.inj j i a t _ ys xs e h l rfl (z ▸ q) ha)⟩
theorem boolO_of {w : W} {b : Bool} (h : boolO w.d = some b) : w = .dat (.bool b) := by
  cases w with
  | new xs => cases h
  | dat d => cases d <;> cases h; rfl
/-- a value as a test -/
theorem After.test {f : Ro → Res (W × Ro)} {Q : Bool → Hp → Prop} (a : After C σ M H ρ (testOf f ρ) fun _ H' b _ => Q b H') :
    After C σ M H ρ (f ρ) fun M1 H1 w ρ1 => ∀ v, VW0 C.K H M1 H1 v w → ∃ c, v = .bl c ∧ w = .dat (.bool c) ∧ Q c H1 := by
  refine (After.bind a).mono fun M1 H1 w ρ1 s1 r1 hs1 h v hv => ?_
  obtain ⟨b, hb, q⟩ := h.of
  cases boolO_of hb
  cases (show Dat C.K M1 H1 v (.bool b) from hv)
  exact ⟨b, rfl, rfl, q.now r1⟩
theorem pt_of_pe {f : Ro → Res (W × Ro)} {e : Expr} (h : PE X e (tW C f)) (he : ∀ whole, isTrue e X.env whole = (do let v ← whole; standAt e.pos; holding [v] (truthy v))) : PT X e (tT C (testOf f)) := by
  refine PT_imp (pt_val h he) fun σ H Q ⟨M, ρ, r, a⟩ => ⟨M, ρ, r, ?_⟩
  refine a.test.mono fun M1 H1 w ρ1 s1 r1 hs1 h v hv => ?_
  obtain ⟨c, h1, _, h2⟩ := h v hv
  exact ⟨c, h1, h2⟩
theorem se_var {i : Nat} : SE Γ cl (.var i) := by
  have main : ∀ X C sc x pos, Lk Γ cl X C sc → (decide (Γ.N[i]? = some x) && visC sc x && nmC x) = true → PE X (.Name x pos) (tW C (evG Γ cl (.var i))) := by
    intro X C sc x pos L h
    refine PE_imp (var_pe L h) fun σ H Q ⟨M, ρ, r, a⟩ => ?_
    have a : After C σ M H ρ ((Res.of (leak ρ i)).bind fun p => .ok (W.dat p.1, p.2)) _ := a
    obtain ⟨p, e, a⟩ := a.of
    unfold leak at e
    split at e
    · rename_i d hd
      cases e
      obtain ⟨v, h1, h2⟩ := r.dat i d (get_some hd)
      exact ⟨v, h1, a.now r v h2⟩
    · rename_i xs hd
      cases e
      obtain ⟨b, us, h1, h2, h3, h4⟩ := r.lst i _ xs (get_some hd) rfl
      obtain ⟨r', d', s', o'⟩ := Rep.frz r (get_some hd) h1
      exact ⟨_, h1, a _ H ⟨fun _ _ e _ => e, fun _ z => .inl z.1, fun b z n => ⟨z, fun e => n (e ▸ o')⟩, fun _ o e => ⟨o, e⟩⟩ r' (fun b z => (s' b z).1) _ d'⟩
    · cases e
  refine ⟨fun X C sc e L h => ?_, fun X C sc e L h => ?_⟩
  · cases e with
    | Name x pos => exact main X C sc x pos L h
    | _ => cases h
  · cases e with
    | Name x pos => exact pt_of_pe (main X C sc x pos L h) fun _ => rfl
    | _ => cases h
/-! ### a constant -/
theorem cst_pe {d : D} {c : Const} {k : Nat} {pos : Pos} (h : cstC d c = true) : ∃ v, PE X (.Constant c k pos) (tC v) ∧ ∀ K M H, Dat K M H v d := by
  cases d with
  | none => cases c with
    | none => exact ⟨_, pe_non, fun _ _ _ => .non⟩
    | _ => cases h
  | bool a => cases c with
    | bool b => cases (show a = b by simpa [cstC] using h); exact ⟨_, pe_bl, fun _ _ _ => .bl _⟩
    | _ => cases h
  | int a => cases c with
    | int b => cases (show a = b by simpa [cstC] using h); exact ⟨_, pe_int, fun _ _ _ => .int _⟩
    | _ => cases h
  | str a => cases c with
    | str b => cases (show a = b by simpa [cstC] using h); exact ⟨_, pe_str, fun _ _ _ => .str _⟩
    | _ => cases h
  | list xs => cases c <;> cases h
  | tuple xs => cases c <;> cases h
  | dict xs => cases c <;> cases h
theorem se_cst {d : D} : SE Γ cl (.cst d) := by
  have main : ∀ X C c k pos, cstC d c = true → PE X (.Constant c k pos) (tW C (evG Γ cl (.cst d))) := by
    intro X C c k pos h
    obtain ⟨v, h1, h2⟩ := cst_pe (X := X) (k := k) (pos := pos) h
    exact PE_imp h1 fun σ H Q ⟨M, ρ, r, a⟩ => After.now r a v (h2 _ _ _)
  refine ⟨fun X C sc e L h => ?_, fun X C sc e L h => ?_⟩
  · cases e with
    | Constant c k pos => exact main X C c k pos h
    | _ => cases h
  · cases e with
    | Constant c k pos => exact pt_of_pe (main X C c k pos h) fun _ => rfl
    | _ => cases h
/-! ### operands -/
theorem opd_pe {E : E} {e : Expr} (s : SE Γ cl E) (L : Lk Γ cl X C sc) (h : okE Γ E sc e = true) : PE X e (tO C (opdOf (evG Γ cl E) E)) := by
  have other : opdOf (evG Γ cl E) E = (fun ρ => (evG Γ cl E ρ).bind fun p => .ok (.val p.1, p.2)) → PE X e (tO C (opdOf (evG Γ cl E) E)) := by
    intro eq
    rw [eq]
    refine PE_imp (s.pe X C sc e L h) fun σ H Q ⟨M, ρ, r, a⟩ => ⟨M, ρ, r, ?_⟩
    refine (After.bind a).mono fun M1 H1 w ρ1 s1 r1 hs1 h v hv => h.now r1 v hv
  cases E with
  | var i =>
    cases e with
    | Name x pos =>
      refine PE_imp (var_pe L h) fun σ H Q ⟨M, ρ, r, a⟩ => ?_
      have a : After C σ M H ρ ((Res.of (get ρ i)).bind fun _ => .ok (Opd.slot i, ρ)) _ := a
      obtain ⟨s, e, a⟩ := a.of
      obtain ⟨v, hv⟩ := r.at e
      exact ⟨v, hv, a.now r v hv⟩
    | _ => cases h
  | _ => exact other rfl
/-! ### two operands -/
/-- both operands are there -/
theorem two_opd {a b : E} {ta tb : TE} {x y : Expr} (ha : PE X x (tO C (opdOf (evG Γ cl a) a))) (hb : PE X y (tO C (opdOf (evG Γ cl b) b))) {R : R2} {σ : St} {Q : VK} {r : Rep C.K C.M0 M ρ σ H}
    {f : Opd × Ro → Opd × Ro → Res (W × Ro)} {k : AS → Hp → W → Ro → Prop} (h : After C σ M H ρ ((opdOf (evG Γ cl a) a ρ).bind fun p => (opdOf (evG Γ cl b) b p.2).bind fun q => f p q) k)
    (fin : ∀ M2 H2 p q v u, Stp (Ow ρ σ) M H M2 H2 → Rep C.K C.M0 M2 q.2 σ H2 → (∀ a, Ow q.2 σ a → Ow ρ σ a) → VO C.K H M2 H2 σ v p.1 → VO C.K H M2 H2 σ u q.1 → After C σ M2 H2 q.2 (f p q) k → R v u H2 Q) :
    tO C (opdOf (evG Γ cl a) a) σ H fun v H1 => tO C (opdOf (evG Γ cl b) b) σ H1 fun u H2 => R v u H2 Q := by
  refine ⟨M, ρ, r, (After.bind h).mono fun M1 H1 o1 ρ1 s1 r1 hs1 h1 v hv => ⟨M1, ρ1, r1, (After.bind h1).mono fun M2 H2 o2 ρ2 s2 r2 hs2 h2 u hu => ?_⟩⟩
  refine fin M2 H2 (o1, ρ1) (o2, ρ2) v u (s1.trans hs1 s2) r2 (fun a z => hs1 a (hs2 a z)) ?_ ?_ h2
  · exact hv.step r r1.owl hs1 s2
  · exact hu.from s1.there

theorem rs_of {w : W} {Q : VK} {M2 : AS} {H2 : Hp} {ρ2 : Ro} (st : ∀ a o, H a = some o → ∃ o', H2 a = some o') (r2 : Rep C.K C.M0 M2 ρ2 σ H2) (h : After C σ M2 H2 ρ2 (.ok (w, ρ2)) fun M' H' w _ => ∀ v, VW0 C.K H M' H' v w → Q v H') : Rs C.K M2 H2 Q w :=
  fun M' H' v s hv => h M' H' s.stp (r2.step0 s) (fun _ z => z) v (hv.from st)
theorem bin_rule (L : Lk Γ cl X C sc) {o : Op2} {op : Operator} (h : opC o op = true) : OpR X (binaryOp op) (rOp C.K o) := by
  rw [← L.K]
  cases o <;> cases op <;> first | exact absurd h (by decide) | skip
  · exact o_add
  · exact o_sub
  · exact o_mul
  · exact o_fdiv
  · exact o_mod
  · exact o_pow
theorem cmp_rule (L : Lk Γ cl X C sc) {o : Op2} {op : CmpOp} (h : cmpC o op = true) : OpR X (compareOp op) (rOp C.K o) := by
  rw [← L.K]
  have hu := L.room
  cases o <;> cases op <;> first | exact absurd h (by decide) | skip
  · exact o_eq (by omega)
  · exact o_ne (by omega)
  · exact o_lt (by omega)
  · exact o_le
  · exact o_gt
  · exact o_ge
  · exact o_in (by omega)
  · exact o_notin (by omega)
/-- the reading of an operator over two operands -/
theorem op2_read {a b : E} {o : Op2} {Q : VK} (h : tW C (evG Γ cl (.op2 o a b)) σ H Q) : tOp (rOp C.K o) (tO C (opdOf (evG Γ cl a) a)) (tO C (opdOf (evG Γ cl b) b)) σ H Q := by
  obtain ⟨M, ρ, r, h⟩ := h
  refine ⟨M, ρ, r, (After.bind h).mono fun M1 H1 o1 ρ1 s1 r1 hs1 h1 v hv => ⟨M1, ρ1, r1, (After.bind h1).mono fun M2 H2 o2 ρ2 s2 r2 hs2 h2 u hu => ?_⟩⟩
  have hv' := hv.step r r1.owl hs1 s2
  have st := (s1.trans hs1 s2).there
  simp only at h2
  split at h2
  · rename_i d e e1 e2
    obtain ⟨w, hw, q⟩ := h2.of
    exact ⟨M2, d, e, w, hv'.pk r2 e1, hu.pk r2 e2, hw, rs_of st r2 q⟩
  · exact h2.elim
theorem okE_op2 {o : Op2} {a b : E} {x : Expr} {ops : List CmpOp} {ys : List Expr} {pos : Pos} (h : okE Γ (.op2 o a b) sc (.Compare x ops ys pos) = true) :
    ∃ op y, ops = [op] ∧ ys = [y] ∧ cmpC o op = true ∧ behindInMarks op y = false ∧ okE Γ a sc x = true ∧ okE Γ b sc y = true := by
  match ops, ys with
  | [op], [y] =>
    have h : (cmpC o op && !behindInMarks op y && okE Γ a sc x && okE Γ b sc y) = true := h
    simp only [Bool.and_eq_true, Bool.not_eq_true'] at h
    exact ⟨op, y, rfl, rfl, h.1.1.1, h.1.1.2, h.1.2, h.2⟩
  | [], _ => exact nomatch h
  | [_], [] => exact nomatch h
  | [_], _ :: _ :: _ => exact nomatch h
  | _ :: _ :: _, _ => exact nomatch h
theorem okT_op2 {o : Op2} {a b : E} {x : Expr} {ops : List CmpOp} {ys : List Expr} {pos : Pos} (h : okT Γ (.op2 o a b) sc (.Compare x ops ys pos) = true) : okE Γ (.op2 o a b) sc (.Compare x ops ys pos) = true := by
  match ops, ys with
  | [op], [y] => exact h
  | [], _ => exact nomatch h
  | [_], [] => exact nomatch h
  | [_], _ :: _ :: _ => exact nomatch h
  | _ :: _ :: _, _ => exact nomatch h
theorem se_op2 {o : Op2} {a b : E} (ha : SE Γ cl a) (hb : SE Γ cl b) : SE Γ cl (.op2 o a b) := by
  refine ⟨fun X C sc e L h => ?_, fun X C sc e L h => ?_⟩
  · cases e with
    | BinOp x op y pos =>
      have h : (opC o op && okE Γ a sc x && okE Γ b sc y) = true := h
      simp only [Bool.and_eq_true] at h
      exact PE_imp (pe_op (bin_rule L h.1.1) (opd_pe ha L h.1.2) (opd_pe hb L h.2)) fun σ H Q q => op2_read q
    | Compare x ops ys pos =>
      obtain ⟨op, y, rfl, rfl, h1, h2, h3, h4⟩ := okE_op2 h
      exact PE_imp (pe_cmpR (cmp_rule L h1) (opd_pe ha L h3) (opd_pe hb L h4) h2) fun σ H Q q => op2_read q
    | _ => exact nomatch h
  · cases e with
    | Compare x ops ys pos =>
      obtain ⟨op, y, rfl, rfl, h1, h2, h3, h4⟩ := okE_op2 (okT_op2 h)
      refine PT_imp (pt_cmpR (cmp_rule L h1) (opd_pe ha L h3) (opd_pe hb L h4) h2) fun σ H Q q => ?_
      obtain ⟨M, ρ, r, q⟩ := q
      refine op2_read (Γ := Γ) (cl := cl) ⟨M, ρ, r, q.test.mono fun M1 H1 w ρ1 s1 r1 hs1 h v hv => ?_⟩
      obtain ⟨c, h1, _, h2⟩ := h v hv
      exact ⟨c, h1, h2⟩
    | _ => exact nomatch h
/-! ### one operand -/
theorem op1_val {o : Op1} {a : E} {Q : VK} (h : tW C (evG Γ cl (.op1 o a)) σ H Q) : tO C (opdOf (evG Γ cl a) a) σ H fun v H1 => ∃ M1 d w, Pk C.K M1 H1 v d ∧ op1 o d = some w ∧ Rs C.K M1 H1 Q w := by
  obtain ⟨M, ρ, r, h⟩ := h
  refine ⟨M, ρ, r, (After.bind h).mono fun M1 H1 o1 ρ1 s1 r1 hs1 h1 v hv => ?_⟩
  obtain ⟨w, hw, q⟩ := h1.of
  simp only [Option.bind_eq_some_iff] at hw
  obtain ⟨d, e1, e2⟩ := hw
  exact ⟨M1, d, w, hv.pk r1 e1, e2, rs_of s1.there r1 q⟩
theorem isN_read {a : E} {Q : VK} (h : tW C (evG Γ cl (.op1 .isN a)) σ H Q) : tIsN (tO C (opdOf (evG Γ cl a) a)) σ H Q := by
  obtain ⟨M, ρ, r, q⟩ := op1_val h
  refine ⟨M, ρ, r, q.mono fun M1 H1 o1 ρ1 s1 r1 hs1 h1 v hv => ?_⟩
  obtain ⟨M2, d, w, hp, hw, hR⟩ := h1 v hv
  cases hw
  rw [isNone_of hp]
  exact hR.scalar (.bl _)
theorem notN_read {a : E} {Q : VK} (h : tW C (evG Γ cl (.op1 .notN a)) σ H Q) : tNotN (tO C (opdOf (evG Γ cl a) a)) σ H Q := by
  obtain ⟨M, ρ, r, q⟩ := op1_val h
  refine ⟨M, ρ, r, q.mono fun M1 H1 o1 ρ1 s1 r1 hs1 h1 v hv => ?_⟩
  obtain ⟨M2, d, w, hp, hw, hR⟩ := h1 v hv
  cases hw
  rw [isNone_of hp]
  exact hR.scalar (.bl _)
/-- a test out of a reading of a value -/
theorem test_read {E : E} {Q : Bool → Hp → Prop} (h : tT C (testOf (evG Γ cl E)) σ H Q) : tW C (evG Γ cl E) σ H fun x H1 => ∃ c, x = .bl c ∧ Q c H1 := by
  obtain ⟨M, ρ, r, q⟩ := h
  refine ⟨M, ρ, r, q.test.mono fun M1 H1 w ρ1 s1 r1 hs1 h v hv => ?_⟩
  obtain ⟨c, h1, _, h2⟩ := h v hv
  exact ⟨c, h1, h2⟩
theorem se_op1 {o : Op1} {a : E} (ha : SE Γ cl a) : SE Γ cl (.op1 o a) := by
  cases o with
  | neg =>
    refine ⟨fun X C sc e L h => ?_, fun X C sc e L h => by cases e <;> exact nomatch h⟩
    cases e with
    | UnaryOp op x pos =>
      cases op with
      | USub =>
        have h : okE Γ a sc x = true := h
        refine PE_imp (pe_un (o_neg (X := X)) (opd_pe ha L h)) fun σ H Q q => ?_
        have q := op1_val q
        rw [← L.K] at q
        exact q
      | _ => exact nomatch h
    | _ => exact nomatch h
  | isN =>
    refine ⟨fun X C sc e L h => ?_, fun X C sc e L h => ?_⟩
    · cases e with
      | Compare x ops ys pos =>
        have h : (isNC .Is ops ys && okE Γ a sc x) = true := h
        rw [Bool.and_eq_true] at h
        obtain ⟨k, p, rfl, rfl⟩ := isNC_of h.1
        exact PE_imp (pe_cmp (pc_isN (opd_pe ha L h.2)) rfl) fun σ H Q q => isN_read q
      | _ => exact nomatch h
    · cases e with
      | Compare x ops ys pos =>
        have h : (isNC .Is ops ys && okE Γ a sc x) = true := h
        rw [Bool.and_eq_true] at h
        obtain ⟨k, p, rfl, rfl⟩ := isNC_of h.1
        exact PT_imp (pt_cmp (pc_isN (opd_pe ha L h.2)) rfl) fun σ H Q q => isN_read (test_read q)
      | _ => exact nomatch h
  | notN =>
    refine ⟨fun X C sc e L h => ?_, fun X C sc e L h => ?_⟩
    · cases e with
      | Compare x ops ys pos =>
        have h : (isNC .IsNot ops ys && okE Γ a sc x) = true := h
        rw [Bool.and_eq_true] at h
        obtain ⟨k, p, rfl, rfl⟩ := isNC_of h.1
        exact PE_imp (pe_cmp (pc_notN (opd_pe ha L h.2)) rfl) fun σ H Q q => notN_read q
      | _ => exact nomatch h
    · cases e with
      | Compare x ops ys pos =>
        have h : (isNC .IsNot ops ys && okE Γ a sc x) = true := h
        rw [Bool.and_eq_true] at h
        obtain ⟨k, p, rfl, rfl⟩ := isNC_of h.1
        exact PT_imp (pt_cmp (pc_notN (opd_pe ha L h.2)) rfl) fun σ H Q q => notN_read (test_read q)
      | _ => exact nomatch h
/-! ### a chain -/
theorem After.later {α : Type} {q : Res (α × Ro)} {k : AS → Hp → α → Ro → Prop} {M3 : AS} {H3 : Hp} (s : Stp (Ow ρ σ) M H M3 H3) (h : After C σ M H ρ q k) : After C σ M3 H3 ρ q k := by
  cases q with
  | ok p => exact fun M' H' s' r' hs' => h M' H' (s.trans (fun _ z => z) s') r' hs'
  | exc x ρ' => exact fun M' H' cls d s' r' hs' => h M' H' cls d (s.trans (fun _ z => z) s') r' hs'
  | stuck => exact h
theorem chain_read {o o' : Op2} {a b c : E} {Q : VK} (h : tW C (evG Γ cl (.chain o o' a b c)) σ H Q) :
    tChain (rOp C.K o) (rOp C.K o') (tO C (opdOf (evG Γ cl a) a)) (tO C (opdOf (evG Γ cl b) b)) (tO C (opdOf (evG Γ cl c) c)) σ H Q := by
  obtain ⟨M, ρ, r, h⟩ := h
  refine ⟨M, ρ, r, (After.bind h).mono fun M1 H1 o1 ρ1 s1 r1 hs1 h1 v hv => ⟨M1, ρ1, r1, (After.bind h1).mono fun M2 H2 o2 ρ2 s2 r2 hs2 h2 u hu => ?_⟩⟩
  have hv' := hv.step r r1.owl hs1 s2
  have s12 := s1.trans hs1 s2
  have hs12 : ∀ a, Ow ρ2 σ a → Ow ρ σ a := fun a z => hs1 a (hs2 a z)
  simp only at h2
  split at h2
  · rename_i d e e1 e2
    split at h2
    · rename_i hw
      refine ⟨M2, d, e, _, hv'.pk r2 e1, hu.pk r2 e2, hw, fun M3 H3 z s3 hz => ?_⟩
      cases (show Dat C.K M3 H3 z (.bool true) from hz)
      refine ⟨true, rfl, ?_⟩
      rw [if_pos rfl]
      have r3 := r2.step0 s3
      refine ⟨M3, ρ2, r3, (After.bind (h2.later s3.stp)).mono fun M4 H4 o4 ρ4 s4 r4 hs4 h4 y hy => ?_⟩
      have hu4 := (hu.from s1.there).step r r2.owl hs12 ((s3.stp (O := Ow ρ2 σ)).trans (fun _ z => z) s4)
      have st := s12.trans hs12 ((s3.stp (O := Ow ρ2 σ)).trans (fun _ z => z) s4)
      simp only at h4
      split at h4
      · rename_i e' g e3 e4
        obtain ⟨w, hw', q⟩ := h4.of
        exact ⟨M4, e', g, w, hu4.pk r4 e3, hy.pk r4 e4, hw', rs_of st.there r4 q⟩
      · exact h4.elim
    · rename_i hw
      refine ⟨M2, d, e, _, hv'.pk r2 e1, hu.pk r2 e2, hw, fun M3 H3 z s3 hz => ?_⟩
      cases (show Dat C.K M3 H3 z (.bool false) from hz)
      refine ⟨false, rfl, ?_⟩
      rw [if_neg Bool.false_ne_true]
      exact h2 M3 H3 s3.stp (r2.step0 s3) (fun _ z => z) _ (.bl _)
    · exact h2.elim
  · exact h2.elim
theorem okE_chain {o o' : Op2} {a b c : E} {x : Expr} {ops : List CmpOp} {ys : List Expr} {pos : Pos} (h : okE Γ (.chain o o' a b c) sc (.Compare x ops ys pos) = true) :
    ∃ op op' y z, ops = [op, op'] ∧ ys = [y, z] ∧ cmpC o op = true ∧ cmpC o' op' = true ∧ behindInMarks op y = false ∧ behindInMarks op' z = false ∧ okE Γ a sc x = true ∧ okE Γ b sc y = true ∧ okE Γ c sc z = true := by
  match ops, ys with
  | [op, op'], [y, z] =>
    have h : (cmpC o op && cmpC o' op' && !behindInMarks op y && !behindInMarks op' z && okE Γ a sc x && okE Γ b sc y && okE Γ c sc z) = true := h
    simp only [Bool.and_eq_true, Bool.not_eq_true'] at h
    exact ⟨op, op', y, z, rfl, rfl, h.1.1.1.1.1.1, h.1.1.1.1.1.2, h.1.1.1.1.2, h.1.1.1.2, h.1.1.2, h.1.2, h.2⟩
  | [], _ => exact nomatch h
  | [_], _ => exact nomatch h
  | [_, _], [] => exact nomatch h
  | [_, _], [_] => exact nomatch h
  | [_, _], _ :: _ :: _ :: _ => exact nomatch h
  | _ :: _ :: _ :: _, _ => exact nomatch h
theorem okT_chain {o o' : Op2} {a b c : E} {x : Expr} {ops : List CmpOp} {ys : List Expr} {pos : Pos} (h : okT Γ (.chain o o' a b c) sc (.Compare x ops ys pos) = true) : okE Γ (.chain o o' a b c) sc (.Compare x ops ys pos) = true := by
  match ops, ys with
  | [op, op'], [y, z] => exact h
  | [], _ => exact nomatch h
  | [_], _ => exact nomatch h
  | [_, _], [] => exact nomatch h
  | [_, _], [_] => exact nomatch h
  | [_, _], _ :: _ :: _ :: _ => exact nomatch h
  | _ :: _ :: _ :: _, _ => exact nomatch h
theorem se_chain {o o' : Op2} {a b c : E} (ha : SE Γ cl a) (hb : SE Γ cl b) (hc : SE Γ cl c) : SE Γ cl (.chain o o' a b c) := by
  refine ⟨fun X C sc e L h => ?_, fun X C sc e L h => ?_⟩
  · cases e with
    | Compare x ops ys pos =>
      obtain ⟨op, op', y, z, rfl, rfl, h1, h2, h3, h4, h5, h6, h7⟩ := okE_chain h
      exact PE_imp (pe_chain (cmp_rule L h1) (cmp_rule L h2) (opd_pe ha L h5) (opd_pe hb L h6) (opd_pe hc L h7) h4) fun σ H Q q => chain_read q
    | _ => exact nomatch h
  · cases e with
    | Compare x ops ys pos =>
      obtain ⟨op, op', y, z, rfl, rfl, h1, h2, h3, h4, h5, h6, h7⟩ := okE_chain (okT_chain h)
      exact PT_imp (pt_chain (cmp_rule L h1) (cmp_rule L h2) (opd_pe ha L h5) (opd_pe hb L h6) (opd_pe hc L h7) h4) fun σ H Q q => chain_read (test_read q)
    | _ => exact nomatch h
/-! ### not -/
theorem bl_of {c : Bool} {v : V} {w : W} {K : PySem.W.Frag} {M1 : AS} {H1 : Hp} (h : VW0 K H M1 H1 v w) (e : boolO w.d = some c) : v = .bl c := by
  cases boolO_of e
  cases (show Dat K M1 H1 v (.bool c) from h)
  rfl
theorem se_not {a : E} (ha : SE Γ cl a) : SE Γ cl (.not a) := by
  refine ⟨fun X C sc e L h => ?_, fun X C sc e L h => ?_⟩
  · cases e with
    | UnaryOp op x pos =>
      cases op with
      | Not =>
        refine PE_imp (pe_not (ha.pe X C sc x L h)) fun σ H Q q => ?_
        obtain ⟨M, ρ, r, q⟩ := q
        refine test_read (Q := fun c H1 => Q (.bl (!c)) H1) ⟨M, ρ, r, (After.bind q).mono fun M1 H1 b ρ1 s1 r1 hs1 h1 => ?_⟩
        exact h1.now r1 _ (.bl _)
      | _ => exact nomatch h
    | _ => exact nomatch h
  · cases e with
    | UnaryOp op x pos =>
      cases op with
      | Not =>
        refine PT_imp (pt_not (ha.pt X C sc x L h)) fun σ H Q q => ?_
        obtain ⟨M, ρ, r, q⟩ := q
        have q := After.bind q
        refine ⟨M, ρ, r, ?_⟩
        have q : After C σ M H ρ ((testOf (evG Γ cl a) ρ).bind fun p => .ok (W.dat (.bool (!p.1)), p.2)) _ := q
        refine (After.bind q).mono fun M1 H1 b ρ1 s1 r1 hs1 h1 => ?_
        have h2 := h1.now r1
        exact h2.now r1
      | _ => exact nomatch h
    | _ => exact nomatch h
/-! ### and, or -/
def SAll (Γ : Gam) (cl : Nat → List D → FRes) : Es → Prop
  | .nil => True
  | .cons e r => SE Γ cl e ∧ SAll Γ cl r
  | .star e r => SE Γ cl e ∧ SAll Γ cl r
abbrev evBG (Γ : Gam) (cl : Nat → List D → FRes) (k : Bool) (es : Es) : Ro → Res (W × Ro) := evB Γ.F cl k es
theorem evB_cons {k : Bool} {e e' : E} {r : Es} : evBG Γ cl k (.cons e (.cons e' r)) ρ = (testOf (evG Γ cl e) ρ).bind fun p => if p.1 == k then evBG Γ cl k (.cons e' r) p.2 else .ok (.dat (.bool p.1), p.2) := rfl
theorem evB_one {k : Bool} {e : E} : evBG Γ cl k (.cons e .nil) ρ = evG Γ cl e ρ := rfl
theorem bop_pe (L : Lk Γ cl X C sc) {op : BoolOp} {k : Bool} (hk : k = decide (op = .And)) {pos : Pos} : ∀ (es : Es) (xs : List Expr), SAll Γ cl es → okB Γ es sc xs = true → PE X (.BoolOp op xs pos) (tW C (evBG Γ cl k es))
  | .nil, xs, _, h => by cases xs <;> exact nomatch h
  | .star _ _, xs, _, h => by cases xs <;> exact nomatch h
  | .cons e .nil, xs, s, h => by
    match xs with
    | [x] => exact pe_one (s.1.pe X C sc x L h)
    | [] => exact nomatch h
    | x :: y :: r =>
      have h : (okE Γ e sc x && okB Γ .nil sc (y :: r)) = true := h
      rw [Bool.and_eq_true] at h
      exact nomatch h.2
  | .cons e (.star e' r), xs, s, h => by
    match xs with
    | [x] => exact nomatch h
    | [] => exact nomatch h
    | x :: y :: ys =>
      have h : (okE Γ e sc x && okB Γ (.star e' r) sc (y :: ys)) = true := h
      rw [Bool.and_eq_true] at h
      cases ys <;> exact nomatch h.2
  | .cons e (.cons e' r), xs, s, h => by
    match xs with
    | [x] => exact nomatch h
    | [] => exact nomatch h
    | x :: y :: ys =>
      have h : (okE Γ e sc x && okB Γ (.cons e' r) sc (y :: ys)) = true := h
      rw [Bool.and_eq_true] at h
      have ih := bop_pe L hk (pos := pos) (.cons e' r) (y :: ys) s.2 h.2
      have he := s.1.pe X C sc x L h.1
      cases op with
      | And =>
        cases hk
        refine PE_imp (pe_and he ih) fun σ H Q ⟨M, ρ, r0, q⟩ => ?_
        simp only [evB_cons] at q
        refine test_read (Q := fun c H1 => if c = true then tW C (evBG Γ cl true (.cons e' r)) σ H1 Q else Q (.bl false) H1) ⟨M, ρ, r0, (After.bind q).mono fun M1 H1 b ρ1 s1 r1 hs1 h1 => ?_⟩
        cases b with
        | true =>
          rw [if_pos rfl]
          exact ⟨M1, ρ1, r1, After.mono (h1 : After C σ M1 H1 ρ1 (evBG Γ cl true (.cons e' r) ρ1) _) fun M2 H2 w ρ2 s2 r2 hs2 h2 v hv => h2 v (hv.from s1.there)⟩
        | false =>
          rw [if_neg Bool.false_ne_true]
          exact After.now (a := W.dat (.bool false)) r1 h1 _ (.bl _)
      | Or =>
        cases hk
        refine PE_imp (pe_or he ih) fun σ H Q ⟨M, ρ, r0, q⟩ => ?_
        simp only [evB_cons] at q
        refine test_read (Q := fun c H1 => if c = true then Q (.bl true) H1 else tW C (evBG Γ cl false (.cons e' r)) σ H1 Q) ⟨M, ρ, r0, (After.bind q).mono fun M1 H1 b ρ1 s1 r1 hs1 h1 => ?_⟩
        cases b with
        | false =>
          rw [if_neg Bool.false_ne_true]
          exact ⟨M1, ρ1, r1, After.mono (h1 : After C σ M1 H1 ρ1 (evBG Γ cl false (.cons e' r) ρ1) _) fun M2 H2 w ρ2 s2 r2 hs2 h2 v hv => h2 v (hv.from s1.there)⟩
        | true =>
          rw [if_pos rfl]
          exact After.now (a := W.dat (.bool true)) r1 h1 _ (.bl _)
theorem testB_cons {k : Bool} {e e' : E} {r : Es} : testOf (evBG Γ cl k (.cons e (.cons e' r))) ρ = (testOf (evG Γ cl e) ρ).bind fun p => if p.1 == k then testOf (evBG Γ cl k (.cons e' r)) p.2 else .ok (p.1, p.2) := by
  unfold testOf
  rw [evB_cons]
  unfold testOf
  cases evG Γ cl e ρ with
  | ok p =>
    show (((Res.of (boolO p.1.d)).bind fun b => Res.ok (b, p.2)).bind _).bind _ = ((Res.of (boolO p.1.d)).bind fun b => Res.ok (b, p.2)).bind _
    cases boolO p.1.d with
    | none => rfl
    | some b =>
      show Res.bind (if (b == k) = true then _ else _) _ = if (b == k) = true then _ else _
      cases b <;> cases k <;> rfl
  | exc x ρ' => rfl
  | stuck => rfl
theorem bop_pt (L : Lk Γ cl X C sc) {op : BoolOp} {k : Bool} (hk : k = decide (op = .And)) {pos : Pos} : ∀ (es : Es) (xs : List Expr), SAll Γ cl es → okTB Γ es sc xs = true → PW X (.BoolOp op xs pos) (tT C (testOf (evBG Γ cl k es)))
  | .nil, xs, _, h => by cases xs <;> exact nomatch h
  | .star _ _, xs, _, h => by cases xs <;> exact nomatch h
  | .cons e .nil, xs, s, h => by
    match xs with
    | [x] =>
      cases op with
      | And => exact pw_and1 (s.1.pt X C sc x L h)
      | Or => exact pw_or1 (s.1.pt X C sc x L h)
    | [] => exact nomatch h
    | x :: y :: r =>
      have h : (okT Γ e sc x && okTB Γ .nil sc (y :: r)) = true := h
      rw [Bool.and_eq_true] at h
      exact nomatch h.2
  | .cons e (.star e' r), xs, s, h => by
    match xs with
    | [x] => exact nomatch h
    | [] => exact nomatch h
    | x :: y :: ys =>
      have h : (okT Γ e sc x && okTB Γ (.star e' r) sc (y :: ys)) = true := h
      rw [Bool.and_eq_true] at h
      cases ys <;> exact nomatch h.2
  | .cons e (.cons e' r), xs, s, h => by
    match xs with
    | [x] => exact nomatch h
    | [] => exact nomatch h
    | x :: y :: ys =>
      have h : (okT Γ e sc x && okTB Γ (.cons e' r) sc (y :: ys)) = true := h
      rw [Bool.and_eq_true] at h
      have ih := bop_pt L hk (pos := pos) (.cons e' r) (y :: ys) s.2 h.2
      have he := s.1.pt X C sc x L h.1
      cases op with
      | And =>
        cases hk
        refine ⟨fun wh pins st σ H Q I q => (pw_and he ih).run wh pins st σ H Q I ?_⟩
        obtain ⟨M, ρ, r0, q⟩ := q
        simp only [testB_cons] at q
        refine ⟨M, ρ, r0, (After.bind q).mono fun M1 H1 b ρ1 s1 r1 hs1 h1 => ?_⟩
        cases b with
        | true =>
          rw [if_pos rfl]
          exact ⟨M1, ρ1, r1, h1⟩
        | false =>
          rw [if_neg Bool.false_ne_true]
          exact After.now (a := false) r1 h1
      | Or =>
        cases hk
        refine ⟨fun wh pins st σ H Q I q => (pw_or he ih).run wh pins st σ H Q I ?_⟩
        obtain ⟨M, ρ, r0, q⟩ := q
        simp only [testB_cons] at q
        refine ⟨M, ρ, r0, (After.bind q).mono fun M1 H1 b ρ1 s1 r1 hs1 h1 => ?_⟩
        cases b with
        | false =>
          rw [if_neg Bool.false_ne_true]
          exact ⟨M1, ρ1, r1, h1⟩
        | true =>
          rw [if_pos rfl]
          exact After.now (a := true) r1 h1
theorem se_bop {k : Bool} {es : Es} (hs : SAll Γ cl es) : SE Γ cl (.bop k es) := by
  refine ⟨fun X C sc e L h => ?_, fun X C sc e L h => ?_⟩
  · cases e with
    | BoolOp op xs pos =>
      have h : ((k == decide (op = .And)) && okB Γ es sc xs) = true := h
      rw [Bool.and_eq_true] at h
      exact bop_pe L (by simpa using h.1) es xs hs h.2
    | _ => exact nomatch h
  · cases e with
    | BoolOp op xs pos =>
      have h : ((k == decide (op = .And)) && okTB Γ es sc xs) = true := h
      rw [Bool.and_eq_true] at h
      exact (bop_pt L (by simpa using h.1) es xs hs h.2).pt
    | _ => exact nomatch h
end EV

end
section
set_option linter.all false
set_option maxRecDepth 100000
set_option Elab.async false
namespace EV
open PySem L2 PyProof.Rows
variable {Γ : Gam} {cl : Nat → List D → FRes} {X : Cx} {C : Ctx} {sc : Scope} {K : PySem.W.Frag} {M M' : AS} {H H' : Hp} {σ : EV.St} {ρ ρ' ρ1 : Ro}
/-! ### x or y by truth, a if t else b -/
theorem tru_of {v : V} {d : D} {b : Bool} (h : Pk K M H v d) (e : tru d = some b): TruV K v H b := by
  cases d with
  | none => cases h.non; cases e; rfl
  | bool c => cases h.bool; cases e; rfl
  | int i => cases h.int; cases e; rfl
  | str x =>
    cases e
  | list xs =>
    obtain ⟨a, vs, rfl, r, q⟩ := h.lst
    cases e
    refine .inl ⟨vs, .inl r, ?_⟩
    cases q <;> rfl
  | tuple xs =>
    obtain ⟨a, vs, rfl, r, q⟩ := h.tup
    cases e
    refine .inr (.inl ⟨vs, r, ?_⟩)
    cases q <;> rfl
  | dict xs => cases e
theorem se_orT {a b : E} (ha : SE Γ cl a) (hb : SE Γ cl b) : SE Γ cl (.orT a b) := by
  refine ⟨fun X C sc e L h => ?_, fun X C sc e L h => by cases e <;> exact nomatch h⟩
  cases e with
  | BoolOp op xs pos =>
    match op, xs with
    | .Or, [x, y] =>
      have h : (okE Γ a sc x && okE Γ b sc y) = true := h
      rw [Bool.and_eq_true] at h
      refine PE_imp (pe_orT (ha.pe X C sc x L h.1) (pe_one (hb.pe X C sc y L h.2))) fun σ H Q ⟨M, ρ, r, q⟩ => ?_
      refine ⟨M, ρ, r, (After.bind q).mono fun M1 H1 w ρ1 s1 r1 hs1 h1 v hv => ?_⟩
      simp only at h1
      split at h1
      · rename_i hw
        rw [L.K]
        exact ⟨true, tru_of hv.pk hw, by rw [if_pos rfl]; exact h1.now r1 v hv⟩
      · rename_i hw
        rw [L.K]
        refine ⟨false, tru_of hv.pk hw, ?_⟩
        rw [if_neg Bool.false_ne_true]
        exact ⟨M1, ρ1, r1, h1.mono fun M2 H2 w ρ2 s2 r2 hs2 h2 v hv => h2 v (hv.from s1.there)⟩
      · exact h1.elim
    | .And, _ => exact nomatch h
    | .Or, [] => exact nomatch h
    | .Or, [_] => exact nomatch h
    | .Or, _ :: _ :: _ :: _ => exact nomatch h
  | _ => exact nomatch h
theorem se_ite {c a b : E} (hc : SE Γ cl c) (ha : SE Γ cl a) (hb : SE Γ cl b) : SE Γ cl (.ite c a b) := by
  refine ⟨fun X C sc e L h => ?_, fun X C sc e L h => by cases e <;> exact nomatch h⟩
  cases e with
  | IfExp t x y pos =>
    have h : (okT Γ c sc t && okE Γ a sc x && okE Γ b sc y) = true := h
    simp only [Bool.and_eq_true] at h
    refine PE_imp (pe_ifExp (hc.pt X C sc t L h.1.1) (ha.pe X C sc x L h.1.2) (hb.pe X C sc y L h.2)) fun σ H Q ⟨M, ρ, r, q⟩ => ?_
    refine ⟨M, ρ, r, (After.bind q).mono fun M1 H1 k ρ1 s1 r1 hs1 h1 => ?_⟩
    cases k with
    | true =>
      rw [if_pos rfl]
      exact ⟨M1, ρ1, r1, After.mono (h1 : After C σ M1 H1 ρ1 (evG Γ cl a ρ1) _) fun M2 H2 w ρ2 s2 r2 hs2 h2 v hv => h2 v (hv.from s1.there)⟩
    | false =>
      rw [if_neg Bool.false_ne_true]
      exact ⟨M1, ρ1, r1, After.mono (h1 : After C σ M1 H1 ρ1 (evG Γ cl b ρ1) _) fun M2 H2 w ρ2 s2 r2 hs2 h2 v hv => h2 v (hv.from s1.there)⟩
  | _ => exact nomatch h
/-! ### items and slices -/
theorem ixN_same : EV.ixN = L2.ixN := rfl
theorem at_of {vs : List V} {ds : List D} {i : Int} {d : D} (q : DatA K M H vs ds) (e : atD ds i = some d) : ∃ v, atI vs i = some v ∧ Dat K M H v d := by
  unfold atD at e
  unfold atI
  rw [q.length]
  cases h : EV.ixN ds.length i with
  | none => rw [h] at e; cases e
  | some j =>
    rw [h] at e
    obtain ⟨v, h1, h2⟩ := q.get (i := j) e
    rw [ixN_same] at h
    rw [h]
    exact ⟨v, h1, h2⟩
def rIdx (K : PySem.W.Frag) : R2 := fun x y H Q => ∃ M d e g, Pk K M H x d ∧ Pk K M H y e ∧ idxD d e = some g ∧ Rs K M H Q (.dat g)
theorem ix_data : IxR X (rIdx X.K) := by
  intro value slice pins s σ H x y v u Q I rx ry h hsl
  obtain ⟨M, d, e, g, hd, he, hg, hR⟩ := h
  cases d with
  | list xs =>
    cases e with
    | int i =>
      obtain ⟨a, vs, rfl, r, q⟩ := hd.lst
      obtain ⟨w, h1, h2⟩ := at_of q hg
      exact ix_list value slice pins s σ H _ y v u Q I rx ry ⟨a, vs, i, w, rfl, he.int, .inl r, h1, hR.scalar h2⟩ hsl
    | _ => cases hg
  | tuple xs =>
    cases e with
    | int i =>
      obtain ⟨a, vs, rfl, r, q⟩ := hd.tup
      obtain ⟨w, h1, h2⟩ := at_of q hg
      exact ix_tup value slice pins s σ H _ y v u Q I rx ry ⟨a, vs, i, w, rfl, he.int, r, h1, hR.scalar h2⟩ hsl
    | _ => cases hg
  | str x =>
    cases e with
    | int i =>
      have hg : (if x.length ≤ sizeLine then (EV.ixN x.length i).bind fun j => (x.cps[j]?).map fun c => PyData.str ⟨#[c]⟩ else none) = some g := hg
      split at hg
      · rename_i hz
        simp only [Option.bind_eq_some_iff, Option.map_eq_some_iff] at hg
        obtain ⟨j, hj, c, hc, rfl⟩ := hg
        refine ix_str value slice pins s σ H _ y v u Q I rx ry ⟨x, i, c, hd.str, he.int, hz, ?_, hR.scalar (.str _)⟩ hsl
        unfold atI
        have e1 : x.cps.toList.length = x.length := by simp [Str.length]
        rw [e1, ← ixN_same, hj]
        simpa using hc
      · cases hg
    | _ => cases hg
  | _ => cases e <;> cases hg
theorem plainIx {y : Expr} (h : isSlice y = false) : PlainIx y := by
  intro o i
  cases y <;> first | rfl | cases h
theorem se_idx {a b : E} (ha : SE Γ cl a) (hb : SE Γ cl b) : SE Γ cl (.idx a b) := by
  have main : ∀ X C sc x y pos, Lk Γ cl X C sc → (!isSlice y && okE Γ a sc x && okE Γ b sc y) = true → PE X (.Subscript x y pos) (tW C (evG Γ cl (.idx a b))) := by
    intro X C sc x y pos L h
    simp only [Bool.and_eq_true, Bool.not_eq_true'] at h
    refine PE_imp (pe_ix (ix_data (X := X)) (opd_pe ha L h.1.2) (opd_pe hb L h.2) (plainIx h.1.1)) fun σ H Q ⟨M, ρ, r, q⟩ => ?_
    refine ⟨M, ρ, r, (After.bind q).mono fun M1 H1 o1 ρ1 s1 r1 hs1 h1 v hv => ⟨M1, ρ1, r1, (After.bind h1).mono fun M2 H2 o2 ρ2 s2 r2 hs2 h2 u hu => ?_⟩⟩
    have hv' := hv.step r r1.owl hs1 s2
    have st := (s1.trans hs1 s2).there
    rw [L.K]
    simp only at h2
    split at h2
    · rename_i d e e1 e2
      obtain ⟨g, hg, q⟩ := h2.of
      exact ⟨M2, d, e, g, hv'.pk r2 e1, hu.pk r2 e2, hg, rs_of st r2 q⟩
    · exact h2.elim
  refine ⟨fun X C sc e L h => ?_, fun X C sc e L h => ?_⟩
  · cases e with
    | Subscript x y pos =>
      cases y <;> first | exact main X C sc x _ pos L h | exact nomatch h
    | _ => exact nomatch h
  · cases e with
    | Subscript x y pos => exact pt_of_pe (main X C sc x y pos L h) fun _ => rfl
    | _ => exact nomatch h
theorem sIx_same (n d : Nat) (o : Option Int) (hd : d ≤ n) : EV.sIx n d o = HT.sIx n d o := by
  cases o with
  | none => rfl
  | some v =>
    have e := HT.clip_eq v n d
    show (if v < 0 then (v + n).toNat else min v.toNat n) = _
    split at e <;> split <;> omega
theorem cut_of {vs : List V} {ds : List D} {lo hi : Option Int} (q : DatA K M H vs ds) : DatA K M H (cutV vs lo hi) (cutD ds lo hi) := by
  unfold cutV cutD
  rw [q.length, ← sIx_same _ _ lo (Nat.zero_le _), ← sIx_same _ _ hi (Nat.le_refl _)]
  exact (q.drop _).take _
def rSlc (K : PySem.W.Frag) : V → Option Int → Option Int → Hp → VK → Prop := fun x lo hi H Q => ∃ M d w, Pk K M H x d ∧ slcD d lo hi = some w ∧ Rs K M H Q w
theorem sl_data : SlR X (rSlc X.K) := by
  intro pins s σ H x v vl vu lo hi sl Q I rx hs pl pu h
  obtain ⟨M, d, w, hd, hw, hR⟩ := h
  cases d with
  | list xs =>
    cases hw
    obtain ⟨a, vs, rfl, r, q⟩ := hd.lst
    exact sl_list pins s σ H _ v vl vu lo hi sl Q I rx hs pl pu ⟨a, vs, rfl, .inl r, fun p hp => hR.lst (cut_of q) hp⟩
  | tuple xs =>
    cases hw
    obtain ⟨a, vs, rfl, r, q⟩ := hd.tup
    refine sl_tupA pins s σ H _ v vl vu lo hi sl Q I rx hs pl pu ⟨a, vs, rfl, r, fun hz => ?_, fun _ p hp => hR.tup (cut_of q) hp⟩
    have e : cutD xs lo hi = xs := by
      unfold cutD
      rw [sIx_same _ _ lo (Nat.zero_le _), sIx_same _ _ hi (Nat.le_refl _), ← q.length, hz.1, hz.2]
      rw [q.length]
      simp
    rw [e] at hR
    exact hR.scalar (.tup r q)
  | _ => cases hw
theorem part_po {lo : Eo} {l : Option Expr} (hlo : ∀ e, lo = .yes e → SE Γ cl e) (L : Lk Γ cl X C sc) (h : okO Γ lo sc l = true) :
    PO X l (fun σ H Q => ∃ M ρ, Rep C.K C.M0 M ρ σ H ∧ After C σ M H ρ (evI Γ.F cl lo ρ) fun _ H' i _ => Q i H') := by
  cases lo with
  | no =>
    cases l with
    | none => exact ⟨fun pins s σ H Q I ⟨M, ρ, r, q⟩ => po_none.run pins s σ H Q I (After.now (a := (none : Option Int)) r q)⟩
    | some x => exact nomatch h
  | yes e =>
    cases l with
    | none => exact nomatch h
    | some x =>
      refine ⟨fun pins s σ H Q I ⟨M, ρ, r, q⟩ => (po_some (tD_of ((hlo e rfl).pe X C sc x L h))).run pins s σ H Q I ⟨M, ρ, r, ?_⟩⟩
      refine (After.bind q).mono fun M1 H1 d ρ1 s1 r1 hs1 h1 v hv => ?_
      obtain ⟨i, hi, q⟩ := h1.of
      cases d with
      | int j => cases hi; cases hv; exact ⟨i, rfl, q.now r1⟩
      | _ => cases hi
theorem se_slc {a : E} {lo hi : Eo} (ha : SE Γ cl a) (hlo : ∀ e, lo = .yes e → SE Γ cl e) (hhi : ∀ e, hi = .yes e → SE Γ cl e) : SE Γ cl (.slc a lo hi) := by
  refine ⟨fun X C sc e L h => ?_, fun X C sc e L h => by cases e <;> exact nomatch h⟩
  cases e with
  | Subscript x y pos =>
    cases y with
    | Slice l u st pos' =>
      cases st with
      | none =>
        have h : (okE Γ a sc x && okO Γ lo sc l && okO Γ hi sc u) = true := h
        simp only [Bool.and_eq_true] at h
        refine PE_imp (pe_slice (sl_data (X := X)) (opd_pe ha L h.1.1) (part_po hlo L h.1.2) (part_po hhi L h.2)) fun σ H Q ⟨M, ρ, r, q⟩ => ?_
        refine ⟨M, ρ, r, (After.bind q).mono fun M1 H1 o1 ρ1 s1 r1 hs1 h1 v hv => ⟨M1, ρ1, r1, (After.bind h1).mono fun M2 H2 i ρ2 s2 r2 hs2 h2 => ⟨M2, ρ2, r2, (After.bind h2).mono fun M3 H3 j ρ3 s3 r3 hs3 h3 => ?_⟩⟩⟩
        have s23 := s2.trans hs2 s3
        have hv' := hv.step r r1.owl hs1 s23
        have st := (s1.trans hs1 s23).there
        rw [L.K]
        simp only at h3
        split at h3
        · rename_i d e1
          obtain ⟨w, hw, q⟩ := h3.of
          exact ⟨M3, d, w, hv'.pk r3 e1, hw, rs_of st r3 q⟩
        · exact h3.elim
      | some z => exact nomatch h
    | _ => exact nomatch h
  | _ => exact nomatch h
/-! ### argument lists -/
theorem star_of {E : E} {e : Expr} (h : okE Γ E sc e = true) (es : List Expr) (env : Env) : starEach (e :: es) env = (false, eval e env) :: starEach es env := by
  cases e with
  | Starred x p =>
    cases E with
    | op1 o a => cases o <;> exact nomatch h
    | _ => exact nomatch h
  | _ => rfl
theorem nostar (pos : Pos) (env : Env) : ∀ {es : Es} {xs : List Expr}, okEs Γ es sc xs = true → (backTo pos (starEach xs env)).any (·.1) = false
  | .nil, [], _ => rfl
  | .nil, _ :: _, h => nomatch h
  | .star _ _, xs, h => by cases xs <;> exact nomatch h
  | .cons e es, [], h => nomatch h
  | .cons e es, x :: xs, h => by
    have h : (okE Γ e sc x && okEs Γ es sc xs) = true := h
    rw [Bool.and_eq_true] at h
    rw [star_of h.1]
    have ih := nostar pos env h.2
    simpa [backTo] using ih
/-- all data -/
theorem pa_L (L : Lk Γ cl X C sc) : ∀ (es : Es) (xs : List Expr), SAll Γ cl es → okEs Γ es sc xs = true →
    PA X xs (fun σ H Q => ∃ M ρ, Rep C.K C.M0 M ρ σ H ∧ After C σ M H ρ (evL Γ.F cl es ρ) fun M' H' ds _ => ∀ vs, DatA C.K M' H' vs ds → Q vs H')
  | .nil, [], _, _ => PA_imp pa_nil fun σ H Q ⟨M, ρ, r, q⟩ => After.now (a := ([] : List D)) r q [] .nil
  | .nil, _ :: _, _, h => nomatch h
  | .star _ _, xs, _, h => by cases xs <;> exact nomatch h
  | .cons e es, [], _, h => nomatch h
  | .cons e es, x :: xs, s, h => by
    have h : (okE Γ e sc x && okEs Γ es sc xs) = true := h
    rw [Bool.and_eq_true] at h
    refine PA_imp (pa_cons (tD_of (s.1.pe X C sc x L h.1)) (pa_L L es xs s.2 h.2) (star_of h.1 xs X.env)) fun σ H Q ⟨M, ρ, r, q⟩ => ?_
    refine ⟨M, ρ, r, (After.bind q).mono fun M1 H1 d ρ1 s1 r1 hs1 h1 v hv => ⟨M1, ρ1, r1, (After.bind h1).mono fun M2 H2 ds ρ2 s2 r2 hs2 h2 vs hvs => ?_⟩⟩
    exact h2.now r2 (v :: vs) (.cons (hv.step r1.owl s2) hvs)
theorem se_tup {es : Es} (hs : SAll Γ cl es) : SE Γ cl (.tup es) := by
  refine ⟨fun X C sc e L h => ?_, fun X C sc e L h => by cases e <;> exact nomatch h⟩
  cases e with
  | Tuple xs k pos =>
    refine PE_imp (pe_tup (pa_L L es xs hs h)) fun σ H Q ⟨M, ρ, r, q⟩ => ⟨M, ρ, r, (After.bind q).mono fun M1 H1 ds ρ1 s1 r1 hs1 h1 vs hvs => ?_⟩
    simp only at h1
    split at h1
    · rename_i hz
      exact ⟨by rw [hvs.length]; exact hz, fun p hp => (rs_of s1.there r1 h1).tup hvs hp⟩
    · exact h1.elim
  | _ => exact nomatch h
theorem se_lst {es : Es} (hs : SAll Γ cl es) : SE Γ cl (.lst es) := by
  refine ⟨fun X C sc e L h => ?_, fun X C sc e L h => by cases e <;> exact nomatch h⟩
  cases e with
  | List xs pos =>
    refine PE_imp (pe_lst (pa_L L es xs hs h)) fun σ H Q ⟨M, ρ, r, q⟩ => ⟨M, ρ, r, (After.bind q).mono fun M1 H1 ds ρ1 s1 r1 hs1 h1 vs hvs => ?_⟩
    simp only at h1
    split at h1
    · rename_i hz
      exact ⟨by rw [hvs.length]; exact hz, fun p hp => (rs_of s1.there r1 h1).lst hvs hp⟩
    · exact h1.elim
  | _ => exact nomatch h
/-! ### operands as arguments -/
/-- values of operands, each as it was when it came -/
def VOs (K : PySem.W.Frag) (H : Hp) (M : AS) (H' : Hp) (σ : St) : List V → List Opd → Prop := Paired fun v o => VO K H M H' σ v o
theorem VOs.step {M0 M1 M2 : AS} {H1 H2 : Hp} {O : AS} {vs : List V} {os : List Opd} (r : Rep K M0 M ρ σ H) (w : OwL O M1 H1) (hs : ∀ a, O a → Ow ρ σ a) (s : Stp O M1 H1 M2 H2) : VOs K H M1 H1 σ vs os → VOs K H M2 H2 σ vs os := fun h => Paired.mapP h fun _ _ q => q.step r w hs s
theorem VOs.from {H1 : Hp} {M2 : AS} {H2 : Hp} {vs : List V} {os : List Opd} (t : ∀ a o, H a = some o → ∃ o', H1 a = some o') : VOs K H1 M2 H2 σ vs os → VOs K H M2 H2 σ vs os := fun h => Paired.mapP h fun _ _ q => q.from t
theorem pa_A (L : Lk Γ cl X C sc) : ∀ (es : Es) (xs : List Expr), SAll Γ cl es → okEs Γ es sc xs = true →
    PA X xs (fun σ H Q => ∃ M ρ, Rep C.K C.M0 M ρ σ H ∧ After C σ M H ρ (evA Γ.F cl es ρ) fun M' H' os _ => ∀ vs, VOs C.K H M' H' σ vs os → Q vs H')
  | .nil, [], _, _ => PA_imp pa_nil fun σ H Q ⟨M, ρ, r, q⟩ => After.now (a := ([] : List Opd)) r q [] .nil
  | .nil, _ :: _, _, h => nomatch h
  | .star _ _, xs, _, h => by cases xs <;> exact nomatch h
  | .cons e es, [], _, h => nomatch h
  | .cons e es, x :: xs, s, h => by
    have h : (okE Γ e sc x && okEs Γ es sc xs) = true := h
    rw [Bool.and_eq_true] at h
    refine PA_imp (pa_cons (opd_pe s.1 L h.1) (pa_A L es xs s.2 h.2) (star_of h.1 xs X.env)) fun σ H Q ⟨M, ρ, r, q⟩ => ?_
    refine ⟨M, ρ, r, (After.bind q).mono fun M1 H1 d ρ1 s1 r1 hs1 h1 v hv => ⟨M1, ρ1, r1, (After.bind h1).mono fun M2 H2 ds ρ2 s2 r2 hs2 h2 vs hvs => ?_⟩⟩
    exact h2.now r2 (v :: vs) (.cons (hv.step r r1.owl hs1 s2) (hvs.from s1.there))
theorem VOs.pk {M0 M1 : AS} {H1 : Hp} (r : Rep K M0 M1 ρ1 σ H1) : ∀ {vs : List V} {os : List Opd} {ds : List D}, VOs K H M1 H1 σ vs os → rdAll ρ1 os = some ds → PkA K M1 H1 vs ds
  | _, _, ds, .nil, e => by cases e; exact .nil
  | _, _, ds, .cons (b := o) h t, e => by
    simp only [rdAll, Option.bind_eq_some_iff, Option.map_eq_some_iff] at e
    obtain ⟨d, e1, ds', e2, rfl⟩ := e
    exact .cons (h.pk r e1) (VOs.pk r t e2)
/-! ### built-in functions -/
theorem bi_mem (b : Bi) : biName b ∈ biNames := by cases b <;> decide
theorem bi_rule (L : Lk Γ cl X C sc) {b : Bi} (hb : b.odd = false) : (∃ id, CallR X (.builtin id) (rBi C.K b) ∧ bootBuiltins (biName b) = some (.builtin id)) ∨ (∃ T, CallR X (.type T) (rBi C.K b) ∧ bootBuiltins (biName b) = some (.type T)) := by
  rw [← L.K]
  have hu := L.room
  cases b with
  | len => exact .inl ⟨_, c_len, by decide +kernel⟩
  | abs => exact .inl ⟨_, c_abs, by decide +kernel⟩
  | int => exact .inr ⟨_, c_int, by decide +kernel⟩
  | list => exact .inr ⟨_, c_list L.calm, by decide +kernel⟩
  | tuple => exact .inr ⟨_, c_tuple, by decide +kernel⟩
  | sorted => exact .inl ⟨_, c_sorted (by omega), by decide +kernel⟩
  | sortset => cases hb
  | sumL => cases hb
  | all => exact .inl ⟨_, c_all L.calm, by decide +kernel⟩
  | any => exact .inl ⟨_, c_any L.calm, by decide +kernel⟩
  | sum => exact .inl ⟨_, c_sum L.calm, by decide +kernel⟩
theorem bi_nm (b : Bi) : biName b ≠ "__name__" ∧ (biName b == ("__debug__" : Str)) = false := by cases b <;> decide
theorem odd_args {b : Bi} (h : b.odd = false) (sc : Scope) (xs : List Expr) : argsOf b xs = xs ∧ oddC sc b xs = true := by
  cases b <;> first | (cases h; done) | exact ⟨rfl, rfl⟩
theorem sort_read {C : Ctx} {Q : VK} {w : World} {M1 : AS} {H1 : Hp} {vs : List V} {d : D} {u : W} (hv : PkA C.K M1 H1 vs [d]) (hw : bi .sortset [d] = some u) (q : Rs C.K M1 H1 Q u) : rSetD C.K w vs H1 fun x H2 => tNil (σ : St) H2 fun xs H3 => rSortV C.K w (x :: xs) H3 Q := by
  obtain ⟨ds, hi, hok, rfl⟩ : ∃ ds, items d = some ds ∧ setOk ds = true ∧ u = .new (uniqD ds) := by
    cases d with
    | list xs => obtain ⟨z, rfl⟩ := some_ite hw; exact ⟨xs, rfl, z, rfl⟩
    | tuple xs => obtain ⟨z, rfl⟩ := some_ite hw; exact ⟨xs, rfl, z, rfl⟩
    | _ => cases hw
  refine ⟨M1, d, ds, hv, hi, hok, fun a us ws es ha hvs hd nd hm => ?_⟩
  have s1 : Stp0 M1 H1 M1 (upd H1 a (SetVO w us a)) := .laid ha
  have hlen : es.length < 64 := by
    have h1 := (setOk_of hok).1
    have h2 : (uniqD ds).length ≤ ds.length := by
      have r : ∀ l : List D, (uniqD l).length ≤ l.length := by
        intro l
        induction l with
        | nil => exact Nat.le_refl _
        | cons x l ih =>
          have : ∀ m : List D, (addD x m).length ≤ m.length + 1 := by
            intro m
            induction m with
            | nil => exact Nat.le_refl _
            | cons y m ih2 =>
              unfold addD
              split
              · simp
              · split
                · simp only [List.length_cons]; omega
                · simp
          have h := this (uniqD l)
          show (addD x (uniqD l)).length ≤ l.length + 1
          omega
      exact r ds
    have h3 := congrArg List.length (uniq_eq (setOk_tot hok) nd hm)
    rw [(sortD_perm es).length_eq] at h3
    omega
  have sok : sortOk es = true := by
    simp only [sortOk, allAlike, depthOk, Bool.and_eq_true, List.all_eq_true, decide_eq_true_eq]
    rcases (setOk_of hok).2 with ⟨ns, rfl⟩ | ⟨ks, rfl⟩
    · have r : ∀ x ∈ es, ∃ i, x = PyData.int i := fun x hx => by
        obtain ⟨i, _, e⟩ := List.mem_map.mp ((hm x).mp hx)
        exact ⟨i, e.symm⟩
      refine ⟨⟨fun x hx y hy => ?_, fun x hx => ?_⟩, fun x hx => ?_⟩
      · obtain ⟨i, rfl⟩ := r x hx
        obtain ⟨j, rfl⟩ := r y hy
        rfl
      · obtain ⟨i, rfl⟩ := r x hx
        show PyData.depth (.int i) ≤ 64
        simp [PyData.depth]
      · obtain ⟨i, rfl⟩ := r x hx
        rfl
    · have r : ∀ x ∈ es, ∃ i, x = rowT i := fun x hx => by
        obtain ⟨i, _, e⟩ := List.mem_map.mp ((hm x).mp hx)
        exact ⟨i, e.symm⟩
      refine ⟨⟨fun x hx y hy => ?_, fun x hx => ?_⟩, fun x hx => ?_⟩
      · obtain ⟨i, rfl⟩ := r x hx
        obtain ⟨j, rfl⟩ := r y hy
        show PySem.W.alike (.tuple _) (.tuple _) = true
        rw [PySem.W.alike]
        exact PySem.W.alike_ints i j
      · obtain ⟨i, rfl⟩ := r x hx
        show PyData.depth (.tuple _) ≤ 64
        rw [PyData.depth, PySem.W.depth_ints]
        omega
      · obtain ⟨i, rfl⟩ := r x hx
        rfl
  refine ⟨a, us, ws, es, M1, rfl, upd_same, hvs, hd.step0 s1, sok, hlen, fun ws' cs hp hd2 p hp2 => ?_⟩
  have e : sortD cs = uniqD ds := uniq_eq (setOk_tot hok) (hp.nodup_iff.mpr nd) fun x => (hp.mem_iff).trans (hm x)
  rw [e] at hd2
  have hpn : H1 p = none := by
    cases hh : H1 p with
    | none => rfl
    | some o => have := s1.keep p o hh; rw [hp2] at this; cases this
  exact q _ _ _ (s1.trans (.lnew hp2)) ⟨p, ws', rfl, hpn, upd_same, hd2.step0 (.lnew hp2), .inr rfl⟩
theorem sum_read {C : Ctx} {Q : VK} {M1 : AS} {H1 : Hp} {v : V} {d : D} {u : W} (hv : Pk C.K M1 H1 v d) (hw : bi .sumL [d] = some u) (q : Rs C.K M1 H1 Q u) (p : Addr) (hp : H1 p = none) : rSumL C.K [v, .ref p] (upd H1 p (.lst [])) Q := by
  cases d with
  | list xs =>
    simp only [bi, Option.bind_eq_some_iff] at hw
    obtain ⟨ls, h1, h2⟩ := hw
    obtain ⟨hz, rfl⟩ := some_ite h2
    have s1 : Stp0 M1 H1 M1 (upd H1 p (.lst [])) := .laid hp
    refine ⟨M1, v, p, xs, ls, rfl, ?_, upd_same, h1, hz, fun e => ?_, fun ws r hd hr => ?_⟩
    · obtain ⟨a, ys, rfl, r1, q1⟩ := hv.lst
      refine ⟨a, ys, rfl, ?_, q1.step0 s1⟩
      rcases r1 with r | ⟨o, r⟩
      · exact .inl (s1.keep _ _ r)
      · exact .inr ⟨o, s1.keep _ _ r⟩
    · rw [e] at q
      exact q _ _ _ (.lnew hp) ⟨p, [], rfl, hp, upd_same, .nil, .inr rfl⟩
    · have hrn : H1 r = none := by
        cases hh : H1 r with
        | none => rfl
        | some o => have := s1.keep r o hh; rw [hr] at this; cases this
      exact q _ _ _ (s1.trans (.lnew hr)) ⟨r, ws, rfl, hrn, upd_same, hd.step0 (.lnew hr), .inr rfl⟩
  | _ => cases hw
theorem se_bi {b : Bi} {es : Es} (hs : SAll Γ cl es) : SE Γ cl (.bi b es) := by
  have main : ∀ X C sc f xs ks pos, Lk Γ cl X C sc → okE Γ (.bi b es) sc (.Call f xs ks pos) = true → PE X (.Call f xs ks pos) (tW C (evG Γ cl (.bi b es))) := by
    intro X C sc f xs ks pos L h
    cases f with
    | Name x p =>
      cases ks with
      | cons _ _ => exact nomatch h
      | nil =>
        have h : (decide (x = biName b) && oddC sc b xs && glC sc x && okEs Γ es sc (argsOf b xs)) = true := h
        simp only [Bool.and_eq_true, decide_eq_true_eq] at h
        obtain ⟨⟨⟨rfl, h2⟩, h3⟩, h4⟩ := h
        obtain ⟨n1, n2⟩ := bi_nm b
        have hu := L.room
        cases hodd : b.odd with
        | false =>
          rw [(odd_args hodd sc xs).1] at h4
          have read : ∀ σ H Q, tW C (evG Γ cl (.bi b es)) σ H Q → tCB (rBi C.K b) (fun σ H Q => ∃ M ρ, Rep C.K C.M0 M ρ σ H ∧ After C σ M H ρ (evA Γ.F cl es ρ) fun M' H' os _ => ∀ vs, VOs C.K H M' H' σ vs os → Q vs H') σ H Q := by
            intro σ H Q ⟨M, ρ, r, q⟩
            refine ⟨M, ρ, r, (After.bind q).mono fun M1 H1 os ρ1 s1 r1 hs1 h1 vs hvs => ?_⟩
            obtain ⟨w, hw, q⟩ := h1.of
            simp only [Option.bind_eq_some_iff] at hw
            obtain ⟨ds, e1, e2⟩ := hw
            exact ⟨M1, ds, w, hvs.pk r1 e1, e2, rs_of s1.there r1 q⟩
          match xs, es, hs, h4 with
          | [], .nil, _, _ =>
            exact ⟨fun pins s σ H Q I q => by
              obtain ⟨M, ρ, r, q⟩ := q
              have q : After C σ M H ρ ((Res.of (bi b [])).bind fun w => .ok (w, ρ)) _ := q
              obtain ⟨w, hw, _⟩ := q.of
              cases b <;> cases hw⟩
          | y :: ys, .cons e r, hs, h4 =>
            have h5 : (okE Γ e sc y && okEs Γ r sc ys) = true := h4
            rw [Bool.and_eq_true] at h5
            rcases bi_rule L hodd with ⟨id, c1, c2⟩ | ⟨T, c1, c2⟩
            · exact PE_imp (pe_callB c1 (glC_of L h3) (L.bi _ (bi_mem b)) c2 (pa_A L (.cons e r) (y :: ys) hs h4) n1 n2 (star_of h5.1 ys X.env) (nostar pos X.env h5.2)) read
            · exact PE_imp (pe_callTy c1 (glC_of L h3) (L.bi _ (bi_mem b)) c2 (pa_A L (.cons e r) (y :: ys) hs h4) n1 n2 (star_of h5.1 ys X.env) (nostar pos X.env h5.2)) read
        | true =>
          have two : b = .sortset ∨ b = .sumL := by cases b <;> first | (cases hodd; done) | exact .inl rfl | exact .inr rfl
          rcases two with rfl | rfl
          · match xs, h2, h4 with
            | [.Call (.Name y p2) [z] [] pos2], h2, h4 =>
              have h2 : (decide (y = "set") && glC sc y) = true := h2
              simp only [Bool.and_eq_true, decide_eq_true_eq] at h2
              obtain ⟨rfl, hg⟩ := h2
              have h4 : okEs Γ es sc [z] = true := h4
              match es, hs, h4 with
              | .cons e (.cons _ _), hs, h4 =>
                have h5 : (okE Γ e sc z && false) = true := h4
                rw [Bool.and_false] at h5; cases h5
              | .cons e (.star _ _), hs, h4 =>
                have h5 : (okE Γ e sc z && false) = true := h4
                rw [Bool.and_false] at h5; cases h5
              | .cons e .nil, hs, h4 =>
                have h5 : (okE Γ e sc z && true) = true := h4
                rw [Bool.and_true] at h5
                have cs : CallR X (.type "set") (rSetD C.K X.w) := by rw [← L.K]; exact c_set L.calm (by omega)
                have cv : CallR X (.builtin "sorted") (rSortV C.K X.w) := by rw [← L.K]; exact c_sortV L.calm (by omega)
                have pin : PE X (.Call (.Name "set" p2) [z] [] pos2) _ := pe_callTy cs (glC_of L hg) (L.bi _ (by decide)) (by decide +kernel) (pa_A L (.cons e .nil) [z] hs h4) (by decide) (by decide) (star_of h5 [] X.env) rfl
                refine PE_imp (pe_callB cv (glC_of L h3) (L.bi _ (bi_mem .sortset)) (by decide +kernel) (pa_cons pin pa_nil rfl) n1 n2 rfl rfl) ?_
                intro σ H Q ⟨M, ρ, r, q⟩
                refine ⟨M, ρ, r, (After.bind q).mono fun M1 H1 os ρ1 s1 r1 hs1 h1 vs hvs => ?_⟩
                obtain ⟨w, hw, q⟩ := h1.of
                simp only [Option.bind_eq_some_iff] at hw
                obtain ⟨ds, e1, e2⟩ := hw
                obtain ⟨d, rfl⟩ := bi_one e2
                exact sort_read (σ := σ) (hvs.pk r1 e1) e2 (rs_of s1.there r1 q)
          · match xs, h2, h4 with
            | [z, .List [] pos2], h2, h4 =>
              have h4 : okEs Γ es sc [z] = true := h4
              match es, hs, h4 with
              | .cons e (.cons _ _), hs, h4 =>
                have h5 : (okE Γ e sc z && false) = true := h4
                rw [Bool.and_false] at h5; cases h5
              | .cons e (.star _ _), hs, h4 =>
                have h5 : (okE Γ e sc z && false) = true := h4
                rw [Bool.and_false] at h5; cases h5
              | .cons e .nil, hs, h4 =>
                have h5 : (okE Γ e sc z && true) = true := h4
                rw [Bool.and_true] at h5
                have cv : CallR X (.builtin "sum") (rSumL C.K) := by rw [← L.K]; exact c_sumL L.calm
                refine PE_imp (pe_callB cv (glC_of L h3) (L.bi _ (bi_mem .sumL)) (by decide +kernel) (pa_cons (opd_pe hs.1 L h5) (pa_cons (pe_lst pa_nil) pa_nil rfl) (star_of h5 [.List [] pos2] X.env)) n1 n2 (star_of h5 [.List [] pos2] X.env) rfl) ?_
                intro σ H Q ⟨M, ρ, r, q⟩
                have q1 : After C σ M H ρ (((opdOf (evG Γ cl e) e ρ).bind fun p => (.ok ([p.1], p.2) : Res (List Opd × Ro))).bind fun p => (Res.of ((rdAll p.2 p.1).bind (bi .sumL))).bind fun w => .ok (w, p.2)) _ := q
                refine ⟨M, ρ, r, (After.bind (After.bind q1)).mono fun M1 H1 o ρ1 s1 r1 hs1 h1 v hv => ?_⟩
                have h2 : After C σ M1 H1 ρ1 ((Res.of ((rdAll ρ1 [o]).bind (bi .sumL))).bind fun w => .ok (w, ρ1)) _ := h1.now r1
                obtain ⟨w, hw, q⟩ := h2.of
                simp only [Option.bind_eq_some_iff] at hw
                obtain ⟨ds, e1, e2⟩ := hw
                obtain ⟨d, rfl⟩ := bi_one e2
                refine ⟨Nat.zero_le _, fun p hp => ?_⟩
                obtain ⟨v', ev, hv'⟩ := PkA.one (VOs.pk r1 (.cons hv .nil) e1)
                cases ev
                exact sum_read hv' e2 (rs_of s1.there r1 q) p hp
    | _ => exact nomatch h
  refine ⟨fun X C sc e L h => ?_, fun X C sc e L h => ?_⟩
  · cases e with
    | Call f xs ks pos => exact main X C sc f xs ks pos L h
    | _ => exact nomatch h
  · cases e with
    | Call f xs ks pos =>
      refine pt_of_pe (main X C sc f xs ks pos L ?_) fun _ => rfl
      cases f with
      | Name x p => cases ks with
        | cons _ _ => exact nomatch h
        | nil => exact h
      | _ => exact nomatch h
    | _ => exact nomatch h
/-! ### [..] * k -/
theorem se_rep {a b : E} (ha : SE Γ cl a) (hb : SE Γ cl b) : SE Γ cl (.rep a b) := by
  refine ⟨fun X C sc e L h => ?_, fun X C sc e L h => by cases e <;> exact nomatch h⟩
  cases e with
  | BinOp x op y pos =>
    cases op with
    | Mult =>
      have h : (okE Γ a sc x && okE Γ b sc y) = true := h
      rw [Bool.and_eq_true] at h
      refine PE_imp (pe_op op_rep (ha.pe X C sc x L h.1) (opd_pe hb L h.2)) fun σ H Q ⟨M, ρ, r, q⟩ => ?_
      refine ⟨M, ρ, r, (After.bind q).mono fun M1 H1 w ρ1 s1 r1 hs1 h1 v hv => ⟨M1, ρ1, r1, (After.bind h1).mono fun M2 H2 o2 ρ2 s2 r2 hs2 h2 u hu => ?_⟩⟩
      have hv' := VW0.step r r1.owl hs1 s2 hv
      have st := (s1.trans hs1 s2).there
      simp only at h2
      split at h2
      · rename_i xs k e2
        split at h2
        · rename_i hz
          obtain ⟨p, vs, rfl, hn, hp, hd, hm⟩ := hv'
          have hk := (hu.pk r2 e2).int
          have hl := hd.length
          exact ⟨p, k, vs, rfl, hk, hp, by omega, by omega, by rw [hl]; exact hz.2.2, fun q hq => (rs_of st r2 h2).lst (hd.rep _) hq⟩
        · exact h2.elim
      · exact h2.elim
    | _ => exact nomatch h
  | _ => exact nomatch h
/-! ### isinstance -/
def dTy : D → String
  | .none => "NoneType"
  | .bool _ => "bool"
  | .int _ => "int"
  | .str _ => "str"
  | .list _ => "list"
  | .tuple _ => "tuple"
  | .dict _ => "dict"
def tyStr : Ty → String
  | .int => "int" | .bool => "bool" | .str => "str" | .list => "list" | .tuple => "tuple"
theorem kit_has (t : Ty) (d : D) : kitB (dTy d) (tyStr t) = some (t.has d) := by
  cases d <;> cases t <;> (simp only [dTy, tyStr, Ty.has]; decide +kernel)
theorem Pk.step0 {v : V} {d : D} (s : Stp0 M H M' H') (h : Pk K M H v d) : Pk K M' H' v d := by
  cases d with
  | list xs =>
    obtain ⟨a, vs, rfl, r, q⟩ := h.lst
    refine ⟨a, vs, rfl, ?_, q.step0 s⟩
    rcases r with r | ⟨o, r⟩
    · exact .inl (s.keep _ _ r)
    · exact .inr ⟨o, s.keep _ _ r⟩
  | none => exact Dat.step0 s h
  | bool _ => exact Dat.step0 s h
  | int _ => exact Dat.step0 s h
  | str _ => exact Dat.step0 s h
  | tuple _ => exact Dat.step0 s h
  | dict _ => exact Dat.step0 s h
theorem ty_of {v : V} {d : D} (h : Pk K M H v d) : TyX K H v (.type (dTy d)) := by
  cases d with
  | none => cases h.non; exact .base .non
  | bool b => cases h.bool; exact .base (.bl _)
  | int i => cases h.int; exact .base (.int _)
  | str x => cases h.str; exact .base (.str _)
  | list xs =>
    obtain ⟨a, vs, rfl, r, q⟩ := h.lst
    rcases r with r | ⟨o, r⟩
    · exact .base (.lst r)
    · exact .base (.frz r)
  | tuple xs =>
    obtain ⟨a, vs, rfl, r, q⟩ := h.tup
    rcases r with (r | ⟨o, r⟩) | ⟨o, its, n, h1, h2, h3⟩
    · exact .base (.tup r)
    · exact .fTuple r
    · exact .kTuple h1 h2
  | dict xs => exact h.dict.elim
theorem kits_has (d : D) : ∀ ts : List Ty, PySem.W.kitAny K (.type (dTy d)) (ts.map fun t => Value.type (tyStr t)) = some (ts.any fun t => t.has d)
  | [] => kitAny_nil
  | t :: ts => by
    refine kitAny_cons (kit_ty (kit_has t d)) (fun hf => ?_) fun ht => ?_
    · rw [List.any_cons, hf, Bool.false_or]
      exact kits_has d ts
    · rw [List.any_cons, ht, Bool.true_or]
theorem ty_mem (t : Ty) : tyName t ∈ biNames ∧ bootBuiltins (tyName t) = some (.type (tyStr t)) ∧ tyName t ≠ "__name__" ∧ (tyName t == ("__debug__" : Str)) = false := by
  cases t <;> exact ⟨by decide, by decide +kernel, by decide, by decide⟩
theorem ty_pe (L : Lk Γ cl X C sc) {t : Ty} {pos : Pos} (h : glC sc (tyName t) = true) : PE X (.Name (tyName t) pos) (tC (.ty (tyStr t))) := by
  obtain ⟨h1, h2, h3, h4⟩ := ty_mem t
  exact pe_bltn (glC_of L h) (L.bi _ h1) h2 rfl h3 h4
theorem tys_pa (L : Lk Γ cl X C sc) : ∀ (ts : List Ty) (xs : List Expr), tysC sc ts xs = true → PA X xs (fun _ H Q => Q (ts.map fun t => V.ty (tyStr t)) H)
  | [], [], _ => pa_nil
  | [], _ :: _, h => nomatch h
  | _ :: _, [], h => nomatch h
  | t :: ts, .Name x p :: xs, h => by
    have h : (decide (x = tyName t) && glC sc x && tysC sc ts xs) = true := h
    simp only [Bool.and_eq_true, decide_eq_true_eq] at h
    obtain ⟨⟨rfl, h2⟩, h3⟩ := h
    exact pa_cons (ty_pe L h2) (tys_pa L ts xs h3)
theorem paired_cls : ∀ ts : List Ty, Paired ClsV (ts.map fun t => V.ty (tyStr t)) (ts.map fun t => Value.type (tyStr t))
  | [] => .nil
  | t :: ts => .cons (.ty _) (paired_cls ts)
theorem isi_read {a : E} {ts : List Ty} {b : Bool} {Q : VK} (h : tW C (evG Γ cl (.isi a ts b)) σ H Q) : tO C (opdOf (evG Γ cl a) a) σ H fun v H1 => ∃ M1 d, Pk C.K M1 H1 v d ∧ Rs C.K M1 H1 Q (.dat (.bool (ts.any fun t => t.has d))) := by
  obtain ⟨M, ρ, r, h⟩ := h
  refine ⟨M, ρ, r, (After.bind h).mono fun M1 H1 o1 ρ1 s1 r1 hs1 h1 v hv => ?_⟩
  simp only at h1
  split at h1
  · rename_i d e1
    exact ⟨M1, d, hv.pk r1 e1, rs_of s1.there r1 h1⟩
  · exact h1.elim
theorem isiC_of {ts : List Ty} {b : Bool} {f : Expr} {xs : List Expr} {ks : List Keyword} (h : isiC sc ts b f xs ks = true) :
    ∃ p x t, f = .Name "isinstance" p ∧ ks = [] ∧ xs = [x, t] ∧ glC sc "isinstance" = true ∧ ((∃ ty p', ts = [ty] ∧ t = .Name (tyName ty) p' ∧ glC sc (tyName ty) = true) ∨ ∃ tys k p', t = .Tuple tys k p' ∧ tysC sc ts tys = true ∧ ts.length ≤ 10) := by
  unfold isiC at h
  split at h
  · rename_i g p x t
    simp only [Bool.and_eq_true, decide_eq_true_eq] at h
    obtain ⟨⟨rfl, h2⟩, h4⟩ := h
    refine ⟨p, x, t, rfl, rfl, rfl, h2, ?_⟩
    unfold clsC at h4
    split at h4
    · rename_i y p'
      unfold soleC at h4
      split at h4
      · rename_i ty
        simp only [Bool.and_eq_true, decide_eq_true_eq] at h4
        obtain ⟨rfl, h5⟩ := h4
        exact .inl ⟨ty, p', rfl, rfl, h5⟩
      · cases h4
    · rename_i tys k p'
      simp only [Bool.and_eq_true, decide_eq_true_eq] at h4
      exact .inr ⟨tys, k, p', rfl, h4.1, h4.2⟩
    · cases h4
  · cases h
theorem se_isi {a : E} {ts : List Ty} {b : Bool} (ha : SE Γ cl a) : SE Γ cl (.isi a ts b) := by
  have main : ∀ X C sc f xs ks pos, Lk Γ cl X C sc → okE Γ (.isi a ts b) sc (.Call f xs ks pos) = true → PE X (.Call f xs ks pos) (tW C (evG Γ cl (.isi a ts b))) := by
    intro X C sc f xs ks pos L h
    have h : (isiC sc ts b f xs ks && headC (okE Γ a sc) xs) = true := h
    rw [Bool.and_eq_true] at h
    obtain ⟨p, x, t, rfl, rfl, rfl, h2, h4⟩ := isiC_of h.1
    have h3 : okE Γ a sc x = true := h.2
    have hm := L.bi "isinstance" (by decide)
    have hv : bootBuiltins "isinstance" = some (.builtin "isinstance") := by decide +kernel
    rcases h4 with ⟨ty, p', rfl, rfl, h5⟩ | ⟨tys, k, p', rfl, h5, h6⟩
    · refine PE_imp (pe_callB (call_isi (X := X)) (glC_of L h2) hm hv (pa_cons (opd_pe ha L h3) (pa_cons (ty_pe L h5) pa_nil) (star_of h3 _ _)) (he := star_of h3 _ _)) fun σ H Q q => ?_
      obtain ⟨M, ρ, r, q⟩ := isi_read q
      refine ⟨M, ρ, r, q.mono fun M1 H1 o1 ρ1 s1 r1 hs1 h1 v hv => ?_⟩
      obtain ⟨M2, d, hp, hR⟩ := h1 v hv
      rw [L.K]
      refine ⟨v, _, _, _, _, rfl, .ty _, ty_of hp, kit_ty (kit_has ty d), ?_⟩
      have e : ([ty].any fun t => t.has d) = ty.has d := by simp
      rw [e] at hR
      exact hR.scalar (.bl _)
    · refine PE_imp (pe_callB (call_isiT (X := X)) (glC_of L h2) hm hv (pa_cons (opd_pe ha L h3) (pa_cons (pe_tup (tys_pa L ts tys h5)) pa_nil) (star_of h3 _ _)) (he := star_of h3 _ _)) fun σ H Q q => ?_
      obtain ⟨M, ρ, r, q⟩ := isi_read q
      refine ⟨M, ρ, r, q.mono fun M1 H1 o1 ρ1 s1 r1 hs1 h1 v hv => ?_⟩
      obtain ⟨M2, d, hp, hR⟩ := h1 v hv
      rw [L.K]
      refine ⟨by rw [List.length_map, sizeLine_eq]; omega, fun p hpn => ?_⟩
      have st : Stp0 M2 H1 M2 (upd H1 p (.tup (ts.map fun t => V.ty (tyStr t)))) := .laid hpn
      exact ⟨v, p, _, _, _, _, rfl, upd_same, paired_cls ts, ty_of (hp.step0 st), kits_has d ts, hR M2 _ _ st (.bl _)⟩
  refine ⟨fun X C sc e L h => ?_, fun X C sc e L h => ?_⟩
  · cases e with
    | Call f xs ks pos => exact main X C sc f xs ks pos L h
    | _ => exact nomatch h
  · cases e with
    | Call f xs ks pos =>
      exact pt_of_pe (main X C sc f xs ks pos L h) fun _ => rfl
    | _ => exact nomatch h
/-! ### x[::-1] -/
theorem none_of {H H' : Hp} {p : Addr} (t : ∀ a o, H a = some o → ∃ o', H' a = some o') (h : H' p = none) : H p = none := by
  cases e : H p with
  | none => rfl
  | some o => obtain ⟨o', e'⟩ := t p o e; rw [h] at e'; cases e'
theorem DatA.reverse {vs : List V} {ds : List D} (h : DatA K M H vs ds) : DatA K M H vs.reverse ds.reverse := by
  induction vs generalizing ds with
  | nil => cases h; exact .nil
  | cons v vs ih =>
    cases h with
    | cons a b =>
      rw [List.reverse_cons, List.reverse_cons]
      exact (ih b).append (.cons a .nil)
theorem se_rev {a : E} (ha : SE Γ cl a) : SE Γ cl (.rev a) := by
  refine ⟨fun X C sc e L h => ?_, fun X C sc e L h => by cases e <;> exact nomatch h⟩
  cases e with
  | Subscript x y pos =>
    have h : (revC y && okE Γ a sc x) = true := by cases y <;> exact h
    rw [Bool.and_eq_true] at h
    obtain ⟨h1, h2⟩ := h
    have shape : ∃ k p1 p2 p3, y = .Slice none none (some (.UnaryOp .USub (.Constant (.int 1) k p1) p2)) p3 := by
      unfold revC at h1
      split at h1
      · unfold negC at h1
        split at h1
        · cases (of_decide_eq_true h1)
          exact ⟨_, _, _, _, rfl⟩
        · cases h1
      · cases h1
    obtain ⟨k, p1, p2, p3, rfl⟩ := shape
    refine PE_imp (EVR.pe_rev (opd_pe ha L h2)) fun σ H Q ⟨M, ρ, r, q⟩ => ?_
    refine ⟨M, ρ, r, (After.bind q).mono fun M1 H1 o ρ1 s1 r1 hs1 q1 v hv => ?_⟩
    obtain ⟨w, e1, q2⟩ := q1.of
    obtain ⟨d, e2, e3⟩ := Option.bind_eq_some_iff.mp e1
    have hd := hv.pk r1 e2
    rw [L.K]
    cases d with
    | list xs =>
      cases e3
      obtain ⟨b, vs, rfl, z1, z2⟩ := hd.lst
      exact ⟨b, vs, rfl, .inl ⟨.inl z1, fun p hp => q2.now0 r1 (.lnew hp) _ ⟨p, _, rfl, none_of s1.there hp, upd_same, z2.reverse.step0 (.lnew hp), .inr rfl⟩⟩⟩
    | tuple xs =>
      cases e3
      obtain ⟨b, vs, rfl, z1, z2⟩ := hd.tup
      exact ⟨b, vs, rfl, .inr ⟨z1, fun p hp => q2.now0 r1 (.laid hp) _ (.tup (.inl (.inl upd_same)) (z2.reverse.step0 (.laid hp)))⟩⟩
    | _ => cases e3
  | _ => exact nomatch h
end EV

end
section
set_option linter.all false
set_option maxRecDepth 100000
set_option Elab.async false
namespace EV
open PySem L2 PyProof.Rows
variable {Γ : Gam} {cl : Nat → List D → FRes} {X : Cx} {C : Ctx} {sc : Scope} {K : PySem.W.Frag} {M M' M0 M1 : AS} {H H' H1 : Hp} {σ : EV.St} {ρ ρ' ρ1 : Ro}
/-! ### the slots behind a call -/
def lentA (σ : EV.St) (lent : List Nat) : AS := fun a => ∃ i ∈ lent, σ[i]? = some (some (V.ref a))
theorem frzR_get {lent : List Nat} {j : Nat} {s : Option Sv} (h : (frzR lent ρ)[j]? = some s) : ∃ s1, ρ[j]? = some s1 ∧ s = if j ∈ lent then frzSv s1 else s1 := by
  unfold frzR at h
  rw [List.getElem?_mapIdx, Option.map_eq_some_iff] at h
  obtain ⟨s1, h1, rfl⟩ := h
  exact ⟨s1, h1, by simp⟩
theorem putIo_get {io : Option Nat} {r : Option (List D)} {j : Nat} {s : Option Sv} (h : (putIo ρ io r)[j]? = some s) :
    (∃ xs t, io = some j ∧ r = some xs ∧ ρ[j]? = some (some t) ∧ ((∃ ys, t = .own ys ∧ s = some (.own xs)) ∨ ∃ ys, t = .io ys ∧ s = some (.io xs))) ∨ ((∀ xs, r = some xs → io = some j → ∀ t ys, ρ[j]? = some (some t) → t.lst? = some ys → False) ∧ ρ[j]? = some s) := by
  unfold putIo at h
  split at h
  · rename_i i xs
    split at h
    · rename_i ys hg
      rcases set_get h with ⟨rfl, rfl⟩ | ⟨hj, h⟩
      · exact .inl ⟨xs, _, rfl, rfl, get_some hg, .inl ⟨ys, rfl, rfl⟩⟩
      · exact .inr ⟨fun _ _ z => absurd (Option.some.inj z).symm hj, h⟩
    · rename_i ys hg
      rcases set_get h with ⟨rfl, rfl⟩ | ⟨hj, h⟩
      · exact .inl ⟨xs, _, rfl, rfl, get_some hg, .inr ⟨ys, rfl, rfl⟩⟩
      · exact .inr ⟨fun _ _ z => absurd (Option.some.inj z).symm hj, h⟩
    · rename_i h1 h2
      refine .inr ⟨fun _ _ z t ys e l => ?_, h⟩
      cases z
      cases t with
      | dat d => cases l
      | own zs => exact h1 zs (by unfold get; rw [e]; rfl)
      | io zs => exact h2 zs (by unfold get; rw [e]; rfl)
  · rename_i hn
    refine .inr ⟨fun xs e1 e2 => (hn _ _ e2 e1).elim, h⟩
theorem putIo_len {io : Option Nat} {r : Option (List D)} : (putIo ρ io r).length = ρ.length := by
  unfold putIo
  split
  · split <;> simp
  · rfl
theorem frzR_len {lent : List Nat} : (frzR lent ρ).length = ρ.length := by unfold frzR; simp
/-- how the list that is handed in lies in the slots -/
structure IoSlot (K : PySem.W.Frag) (M0 : AS) (ρ : Ro) (σ : EV.St) (IoA : AS) (lent : List Nat) (M' : AS) (H' : Hp) (io : Option Nat) (r : Option (List D)) : Prop where
  at_ : ∀ i, io = some i → i ∉ lent ∧ ∃ s ys xs a us, ρ[i]? = some (some s) ∧ s.lst? = some ys ∧ r = some xs ∧ σ[i]? = some (some (V.ref a)) ∧ (∀ b, IoA b → b = a) ∧ H' a = some (.lst us) ∧ DatA K M' H' us xs ∧ M' a
  no : io = none → ∀ b, IoA b → ¬ M0 b ∧ ¬ Ow ρ σ b
theorem Rep.called {IoA : AS} {lent : List Nat} {io : Option Nat} {r : Option (List D)} (r1 : Rep K M0 M1 ρ1 σ H1) (hl : ∀ i ∈ lent, ∃ xs, ρ1[i]? = some (some (.own xs))) (wI : OwL IoA (fun a => M1 a ∧ ¬ lentA σ lent a) H1)
    (SS : Stp IoA (fun a => M1 a ∧ ¬ lentA σ lent a) H1 M' H') (hio : IoSlot K M0 ρ1 σ IoA lent M' H' io r) (dom' : ∀ a, M' a → ∃ o, H' a = some o) :
    Rep K M0 M' (frzR lent (putIo ρ1 io r)) σ H' ∧ ∀ a, Ow (frzR lent (putIo ρ1 io r)) σ a → Ow ρ1 σ a := by
  have lessD : ∀ {v d}, Dat K M1 H1 v d → Dat K M' H' v d := fun h => (h.less (fun _ z => z.1)).step wI SS
  have lessA : ∀ {v d}, DatA K M1 H1 v d → DatA K M' H' v d := fun h => (h.less (fun _ z => z.1)).step wI SS
  -- a list slot of the new frame
  have back : ∀ (j : Nat) (s : Sv) (xs : List D), (frzR lent (putIo ρ1 io r))[j]? = some (some s) → s.lst? = some xs →
      j ∉ lent ∧ ∃ t ys, ρ1[j]? = some (some t) ∧ t.lst? = some ys ∧ ((∃ z, t = .own z) ↔ ∃ z, s = .own z) ∧ ((io = some j ∧ r = some xs) ∨ (io ≠ some j ∧ t = s)) := by
    intro j s xs h l
    obtain ⟨s1, h1, h2⟩ := frzR_get h
    have notl : j ∉ lent := by
      intro hj
      rw [if_pos hj] at h2
      obtain ⟨zs, hz⟩ := hl j hj
      rcases putIo_get h1 with ⟨ys, t, e1, _⟩ | ⟨_, h1⟩
      · exact (hio.at_ j e1).1 hj
      · rw [hz] at h1; cases h1
        cases h2
        cases l
    rw [if_neg notl] at h2
    subst h2
    refine ⟨notl, ?_⟩
    rcases putIo_get h1 with ⟨ys, t, e1, e2, e3, e4⟩ | ⟨hn, h1⟩
    · rcases e4 with ⟨zs, rfl, e5⟩ | ⟨zs, rfl, e5⟩
      · cases e5; cases l
        exact ⟨_, zs, e3, rfl, ⟨fun _ => ⟨_, rfl⟩, fun _ => ⟨_, rfl⟩⟩, .inl ⟨e1, e2⟩⟩
      · cases e5; cases l
        exact ⟨_, zs, e3, rfl, ⟨fun ⟨_, z⟩ => (nomatch z), fun ⟨_, z⟩ => (nomatch z)⟩, .inl ⟨e1, e2⟩⟩
    · refine ⟨s, xs, h1, l, Iff.rfl, ?_⟩
      by_cases e : io = some j
      · obtain ⟨_, _, _, zs, _, _, _, _, e2, _⟩ := hio.at_ j e
        exact (hn zs e2 e s xs h1 l).elim
      · exact .inr ⟨e, rfl⟩
  -- an address of another list slot
  have other : ∀ (j : Nat) (t : Sv) (ys : List D) (a : Addr), ρ1[j]? = some (some t) → t.lst? = some ys → σ[j]? = some (some (V.ref a)) → io ≠ some j → ¬ IoA a := by
    intro j t ys a e l q hj z
    cases eio : io with
    | none => exact (hio.no eio a z).2 ⟨j, t, ys, e, l, q⟩
    | some i =>
      obtain ⟨_, s, zs, xs, b, us, e1, l1, _, q1, hb, _⟩ := hio.at_ i eio
      have := hb a z
      subst this
      exact hj (by rw [eio, r1.inj i j _ s t zs ys e1 e l1 l q1 q])
  refine ⟨⟨by rw [frzR_len, putIo_len]; exact r1.len, dom', fun a z => ?_, fun j d e => ?_, fun j s xs e l => ?_, fun j xs a e q => ?_, fun j xs a e q => ?_, fun i j a s t xs ys e1 e2 l1 l2 q1 q2 => ?_⟩, fun a ⟨j, s, xs, e, l, q⟩ => ?_⟩
  · by_cases hI : IoA a
    · cases eio : io with
      | none => exact absurd z (hio.no eio a hI).1
      | some i =>
        obtain ⟨_, s, zs, xs, b, us, e1, l1, _, q1, hb, _, _, hm⟩ := hio.at_ i eio
        rw [hb a hI]; exact hm
    · refine SS.old a ⟨r1.sub a z, fun ⟨i, hi, q⟩ => ?_⟩ hI
      obtain ⟨zs, hz⟩ := hl i hi
      exact r1.own i zs a hz q z
  · obtain ⟨s1, h1, h2⟩ := frzR_get e
    by_cases hj : j ∈ lent
    · rw [if_pos hj] at h2
      obtain ⟨zs, hz⟩ := hl j hj
      have h1' : ρ1[j]? = some s1 := by
        rcases putIo_get h1 with ⟨ys, t, e1, _⟩ | ⟨_, h1⟩
        · exact absurd hj (hio.at_ j e1).1
        · exact h1
      rw [hz] at h1'; cases h1'
      cases h2
      obtain ⟨a, us, q1, q2, q3, q4⟩ := r1.lst j _ zs hz rfl
      have nI : ¬ IoA a := other j _ zs a hz rfl q1 fun z => (hio.at_ j z).1 hj
      refine ⟨_, q1, .lst (.inl (SS.keep a _ q2 nI)) (fun z => ?_) (lessA q3)⟩
      rcases SS.new a z with z | z
      · exact z.2 ⟨j, hj, q1⟩
      · rw [q2] at z; cases z
    · rw [if_neg hj] at h2
      subst h2
      rcases putIo_get h1 with ⟨ys, t, e1, e2, e3, e4⟩ | ⟨_, h1⟩
      · rcases e4 with ⟨zs, rfl, e5⟩ | ⟨zs, rfl, e5⟩ <;> cases e5
      · obtain ⟨v, q1, q2⟩ := r1.dat j d h1
        exact ⟨v, q1, lessD q2⟩
  · obtain ⟨notl, t, ys, e1, l1, _, hc⟩ := back j s xs e l
    obtain ⟨a, us, q1, q2, q3, q4⟩ := r1.lst j t ys e1 l1
    rcases hc with ⟨e2, e3⟩ | ⟨e2, rfl⟩
    · obtain ⟨_, s', zs, xs', b, us', f1, f2, f3, f4, _, f6, f7, f8⟩ := hio.at_ j e2
      rw [q1] at f4; cases f4
      rw [e3] at f3; cases f3
      exact ⟨a, us', q1, f6, f7, f8⟩
    · have nI := other j t ys a e1 l1 q1 e2
      rw [l] at l1; cases l1
      refine ⟨a, us, q1, SS.keep a _ q2 nI, lessA q3, SS.old a ⟨q4, fun ⟨i, hi, q⟩ => ?_⟩ nI⟩
      obtain ⟨zs, hz⟩ := hl i hi
      exact notl (r1.inj i j a _ t zs xs hz e1 rfl l q q1 ▸ hi)
  · obtain ⟨_, t, ys, e1, l1, hk, _⟩ := back j _ xs e rfl
    obtain ⟨zs, rfl⟩ := hk.mpr ⟨xs, rfl⟩
    exact r1.own j zs a e1 q
  · obtain ⟨_, t, ys, e1, l1, hk, _⟩ := back j _ xs e rfl
    cases t with
    | dat d => cases l1
    | own zs => obtain ⟨_, z⟩ := hk.mp ⟨zs, rfl⟩; cases z
    | io zs => exact r1.io j zs a e1 q
  · obtain ⟨_, t1, ys1, f1, g1, _⟩ := back i s xs e1 l1
    obtain ⟨_, t2, ys2, f2, g2, _⟩ := back j t ys e2 l2
    exact r1.inj i j a t1 t2 ys1 ys2 f1 f2 g1 g2 q1 q2
  · obtain ⟨_, t, ys, e1, l1, _⟩ := back j s xs e l
    exact ⟨j, t, ys, e1, l1, q⟩
/-! ### a call's arguments -/
/-- what is not to be changed is data or a slot -/
def OsOk : List Opd → Option Nat → Prop
  | [], _ => True
  | o :: os, io => (io ≠ some 0 → ∀ xs, o ≠ .val (.new xs)) ∧ OsOk os (down io)
theorem opdD_pe {E : E} {e : Expr} (s : SE Γ cl E) (L : Lk Γ cl X C sc) (h : okE Γ E sc e = true) : PE X e (tO C (opdD (evG Γ cl E) E)) := by
  have other : opdD (evG Γ cl E) E = (fun ρ => (evG Γ cl E ρ).bind fun p => .ok (.val (.dat p.1.d), p.2)) → PE X e (tO C (opdD (evG Γ cl E) E)) := by
    intro eq
    rw [eq]
    refine PE_imp (s.pe X C sc e L h) fun σ H Q ⟨M, ρ, r, a⟩ => ⟨M, ρ, r, ?_⟩
    change After C σ M H ρ ((evG Γ cl E ρ).bind fun p => .ok (Opd.val (W.dat p.1.d), p.2)) _ at a
    cases e : evG Γ cl E ρ with
    | ok p =>
      rw [e] at a
      intro M1 H1 s1 r1 hs1 v hv
      obtain ⟨M2, s2, r2, d2, l2, _⟩ := hv.freeze r s1 r1 hs1
      exact a M2 H1 s2 r2 hs1 v d2
    | exc x ρ' => rw [e] at a; exact a
    | stuck => rw [e] at a; exact a
  cases E with
  | var i => exact opd_pe s L h
  | _ => exact other rfl
theorem pa_CA (L : Lk Γ cl X C sc) : ∀ (es : Es) (xs : List Expr) (io : Option Nat), SAll Γ cl es → okEs Γ es sc xs = true →
    PA X xs (fun σ H Q => ∃ M ρ, Rep C.K C.M0 M ρ σ H ∧ After C σ M H ρ (evCA Γ.F cl es io ρ) fun M' H' os _ => ∀ vs, VOs C.K H M' H' σ vs os → Q vs H')
  | .nil, [], _, _, _ => PA_imp pa_nil fun σ H Q ⟨M, ρ, r, q⟩ => After.now (a := ([] : List Opd)) r q [] .nil
  | .nil, _ :: _, _, _, h => nomatch h
  | .star _ _, xs, _, _, h => by cases xs <;> exact nomatch h
  | .cons e es, [], _, _, h => nomatch h
  | .cons e es, x :: xs, io, s, h => by
    have h : (okE Γ e sc x && okEs Γ es sc xs) = true := h
    rw [Bool.and_eq_true] at h
    have head : PE X x (tO C (if io = some 0 then opdOf (evG Γ cl e) e else opdD (evG Γ cl e) e)) := by
      split
      · exact opd_pe s.1 L h.1
      · exact opdD_pe s.1 L h.1
    refine PA_imp (pa_cons head (pa_CA L es xs (down io) s.2 h.2) (star_of h.1 xs X.env)) fun σ H Q ⟨M, ρ, r, q⟩ => ?_
    refine ⟨M, ρ, r, (After.bind q).mono fun M1 H1 d ρ1 s1 r1 hs1 h1 v hv => ⟨M1, ρ1, r1, (After.bind h1).mono fun M2 H2 ds ρ2 s2 r2 hs2 h2 vs hvs => ?_⟩⟩
    exact h2.now r2 (v :: vs) (.cons (hv.step r r1.owl hs1 s2) (hvs.from s1.there))
theorem bind_ok {α β : Type} {r : Res α} {f : α → Res β} {b : β} (h : r.bind f = .ok b) : ∃ a, r = .ok a ∧ f a = .ok b := by
  cases r with
  | ok a => exact ⟨a, rfl, h⟩
  | exc x ρ => cases h
  | stuck => cases h
theorem opdD_val {f : Ro → Res (W × Ro)} {e : E} {p : Opd × Ro} (h : opdD f e ρ = .ok p) (xs : List D) : p.1 ≠ .val (.new xs) := by
  have other : (f ρ).bind (fun q => .ok (Opd.val (W.dat q.1.d), q.2)) = .ok p → p.1 ≠ .val (.new xs) := by
    intro h
    obtain ⟨_, _, h5⟩ := bind_ok h
    cases h5
    exact fun z => nomatch z
  cases e with
  | var i =>
    obtain ⟨_, _, h5⟩ := bind_ok (show (Res.of (get ρ i)).bind (fun _ => .ok (Opd.slot i, ρ)) = .ok p from h)
    cases h5
    exact fun z => nomatch z
  | _ => exact other h
theorem evCA_ok : ∀ (es : Es) (io : Option Nat) (os : List Opd) (ρ ρ' : Ro), evCA Γ.F cl es io ρ = .ok (os, ρ') → OsOk os io := by
  intro es io os ρ ρ' h
  match es with
  | .nil => cases h; exact trivial
  | .star _ _ => cases h
  | .cons e r =>
    obtain ⟨p, h1, h2⟩ := bind_ok h
    obtain ⟨q, h3, h4⟩ := bind_ok h2
    cases h4
    refine ⟨fun hio xs hx => ?_, evCA_ok r (down io) _ _ _ h3⟩
    rw [if_neg hio] at h1
    exact opdD_val h1 xs hx
theorem After.bindS {α β : Type} {r : Res (α × Ro)} {f : α × Ro → Res (β × Ro)} {k : AS → Hp → β → Ro → Prop} (h : After C σ M H ρ (r.bind f) k) :
    After C σ M H ρ r (fun _ _ a ρ1 => r = .ok (a, ρ1) ∧ After C σ M H ρ (f (a, ρ1)) k) := by
  cases r with
  | ok p => exact fun _ _ _ _ _ => ⟨rfl, h⟩
  | exc x ρ' => exact h
  | stuck => exact h
theorem lent_list : ∀ {os : List Opd} {io : Option Nat} {i : Nat}, i ∈ lentOf ρ os io → isListSlot ρ i = true
  | [], _, _, h => by cases h
  | o :: os, io, i, h => by
    unfold lentOf at h
    rcases List.mem_append.mp h with h | h
    · split at h
      · cases h
      · split at h
        · split at h
          · rename_i hs
            cases List.mem_singleton.mp h
            exact hs
          · cases h
        · cases h
    · exact lent_list h
theorem lent_has : ∀ {os : List Opd} {io : Option Nat} {j i : Nat}, os[j]? = some (.slot i) → io ≠ some j → isListSlot ρ i = true → i ∈ lentOf ρ os io
  | [], _, _, _, h, _, _ => by simp at h
  | o :: os, io, 0, i, h, hio, hs => by
    simp at h
    subst h
    unfold lentOf
    rw [if_neg hio]
    exact List.mem_append_left _ (by simp [hs])
  | o :: os, io, j + 1, i, h, hio, hs => by
    unfold lentOf
    refine List.mem_append_right _ (lent_has (j := j) (by simpa using h) (fun e => hio ?_) hs)
    cases io with
    | none => cases e
    | some n => cases n with
      | zero => cases e
      | succ m => cases e; rfl
theorem OsOk.at : ∀ {os : List Opd} {io : Option Nat} {j : Nat} {o : Opd}, OsOk os io → os[j]? = some o → io ≠ some j → ∀ xs, o ≠ .val (.new xs)
  | [], _, _, _, _, h, _ => by simp at h
  | o' :: os, io, 0, o, k, h, hio => by simp at h; subst h; exact k.1 hio
  | o' :: os, io, j + 1, o, k, h, hio => OsOk.at (j := j) k.2 (by simpa using h) fun e => hio (by
    cases io with
    | none => cases e
    | some n => cases n with
      | zero => cases e
      | succ m => cases e; rfl)
theorem rdAll_len : ∀ {os : List Opd} {ds : List D}, rdAll ρ os = some ds → os.length = ds.length
  | [], ds, e => by cases e; rfl
  | o :: os, ds, e => by
    simp only [rdAll, Option.bind_eq_some_iff, Option.map_eq_some_iff] at e
    obtain ⟨d, e1, ds', e2, rfl⟩ := e
    simp [rdAll_len e2]
theorem rdAll_at : ∀ {os : List Opd} {ds : List D} {j : Nat} {d : D}, rdAll ρ os = some ds → ds[j]? = some d → ∃ o, os[j]? = some o ∧ o.rd ρ = some d
  | [], ds, j, d, e, h => by cases e; simp at h
  | o :: os, ds, j, d, e, h => by
    simp only [rdAll, Option.bind_eq_some_iff, Option.map_eq_some_iff] at e
    obtain ⟨d', e1, ds', e2, rfl⟩ := e
    cases j with
    | zero => simp at h; subst h; exact ⟨o, rfl, e1⟩
    | succ j => simp at h; obtain ⟨o', q1, q2⟩ := rdAll_at e2 h; exact ⟨o', by simpa using q1, q2⟩
theorem rdAll_op : ∀ {os : List Opd} {ds : List D} {j : Nat} {o : Opd}, rdAll ρ os = some ds → os[j]? = some o → ∃ d, ds[j]? = some d ∧ o.rd ρ = some d
  | [], ds, j, d, e, h => by simp at h
  | o :: os, ds, j, d, e, h => by
    simp only [rdAll, Option.bind_eq_some_iff, Option.map_eq_some_iff] at e
    obtain ⟨d', e1, ds', e2, rfl⟩ := e
    cases j with
    | zero => simp at h; subst h; exact ⟨_, rfl, e1⟩
    | succ j => simp at h; obtain ⟨o', q1, q2⟩ := rdAll_op e2 h; exact ⟨o', by simpa using q1, q2⟩
theorem paired_at {α β : Type} {R : α → β → Prop} : ∀ {xs : List α} {ys : List β} {j : Nat} {x : α} {y : β}, Paired R xs ys → xs[j]? = some x → ys[j]? = some y → R x y
  | _, _, _, _, _, .nil, h, _ => by simp at h
  | _, _, 0, _, _, .cons r t, h, h' => by simp at h h'; subst h; subst h'; exact r
  | _, _, j + 1, _, _, .cons r t, h, h' => paired_at (j := j) t (by simpa using h) (by simpa using h')
theorem paired_get {α β : Type} {R : α → β → Prop} : ∀ {xs : List α} {ys : List β} {j : Nat} {y : β}, Paired R xs ys → ys[j]? = some y → ∃ x, xs[j]? = some x ∧ R x y
  | _, _, _, _, .nil, h => by simp at h
  | _, _, 0, _, .cons r t, h => by simp at h; subst h; exact ⟨_, rfl, r⟩
  | _, _, j + 1, _, .cons r t, h => by obtain ⟨x, h1, h2⟩ := paired_get (j := j) t (by simpa using h); exact ⟨x, by simpa using h1, h2⟩
theorem listSlot {i : Nat} (h : isListSlot ρ i = true) : ∃ s xs, ρ[i]? = some (some s) ∧ s.lst? = some xs ∧ get ρ i = some s := by
  unfold isListSlot at h
  split at h
  · rename_i xs hg; exact ⟨_, xs, get_some hg, rfl, hg⟩
  · rename_i xs hg; exact ⟨_, xs, get_some hg, rfl, hg⟩
  · cases h
theorem ownSlot {i : Nat} (h : isOwnSlot ρ i = true) : ∃ xs, ρ[i]? = some (some (.own xs)) := by
  unfold isOwnSlot at h
  split at h
  · rename_i xs hg; exact ⟨xs, get_some hg⟩
  · cases h
theorem evCA_len : ∀ (es : Es) (xs : List Expr) (io : Option Nat) (os : List Opd) (ρ ρ' : Ro), okEs Γ es sc xs = true → evCA Γ.F cl es io ρ = .ok (os, ρ') → os.length = xs.length
  | .nil, [], _, os, ρ, ρ', _, h => by cases h; rfl
  | .nil, _ :: _, _, _, _, _, h, _ => nomatch h
  | .star _ _, xs, _, _, _, _, h, _ => by cases xs <;> exact nomatch h
  | .cons _ _, [], _, _, _, _, h, _ => nomatch h
  | .cons e r, x :: xs, io, os, ρ, ρ', h, h' => by
    have h : (okE Γ e sc x && okEs Γ r sc xs) = true := h
    rw [Bool.and_eq_true] at h
    obtain ⟨p, h1, h2⟩ := bind_ok h'
    obtain ⟨q, h3, h4⟩ := bind_ok h2
    cases h4
    simp [evCA_len r xs (down io) q.1 p.2 q.2 h.2 h3]
/-- from the arguments to the promise -/
theorem call_read {fn : Fn} {g : List D → FRes} {Q : VK} {os : List Opd} {vs : List V} (hioOk : fn.ioOk = true) (hnp : vs.length = fn.np) (r : Rep C.K C.M0 M ρ σ H) (s1 : Stp (Ow ρ σ) M H M1 H1) (r1 : Rep C.K C.M0 M1 ρ1 σ H1) (hs1 : ∀ a, Ow ρ1 σ a → Ow ρ σ a) (hos : OsOk os fn.io)
    (hv : VOs C.K H M1 H1 σ vs os) (h : After C σ M H ρ (callE fn g os ρ1) fun M' H' w _ => ∀ v, VW0 C.K H M' H' v w → Q v H') : spOf C.R C.K fn g vs H1 Q (WE C.Wx σ) := by
  unfold callE at h
  split at h
  · rename_i ds io e1 e2
    simp only at h
    split at h
    · rename_i hnl
      generalize hlent : lentOf ρ1 os fn.io = lent at h hnl
      -- the address that is handed in
      have hIo : ∀ a, Io fn.io vs a → (∃ i, io = some i ∧ σ[i]? = some (some (V.ref a)) ∧ isListSlot ρ1 i = true) ∨ (io = none ∧ H a = none ∧ ∃ us xs, H1 a = some (.lst us) ∧ DatA C.K M1 H1 us xs ∧ M1 a) := by
        rintro a ⟨j, hj, hva⟩
        rw [hj] at e2
        simp only [ioOf] at e2
        split at e2
        · rename_i i ho
          split at e2
          · rename_i hs
            cases e2
            exact .inl ⟨i, rfl, (show VO C.K H M1 H1 σ (V.ref a) (.slot i) from paired_at (R := fun v o => VO C.K H M1 H1 σ v o) hv hva ho), hs⟩
          · cases e2
        · rename_i xs ho
          cases e2
          obtain ⟨b, us, q1, q2, q3, q4, q5⟩ := (show VO C.K H M1 H1 σ (V.ref a) (.val (.new xs)) from paired_at (R := fun v o => VO C.K H M1 H1 σ v o) hv hva ho)
          cases q1
          exact .inr ⟨rfl, q2, us, xs, q3, q4, q5⟩
        · cases e2
      have lentNot : ∀ i, io = some i → i ∉ lent := by
        rintro i rfl
        simpa [notLent] using hnl
      have ioUniq : ∀ a b, Io fn.io vs a → Io fn.io vs b → a = b := by
        rintro a b ⟨j, h1, h2⟩ ⟨j', h1', h2'⟩
        rw [h1] at h1'; cases h1'
        rw [h2] at h2'; cases h2'; rfl
      have lentOw : ∀ a, lentA σ lent a → Ow ρ1 σ a := by
        rintro a ⟨i, hi, q⟩
        obtain ⟨s, xs, q1, q2, _⟩ := listSlot (lent_list (hlent ▸ hi))
        exact ⟨i, s, xs, q1, q2, q⟩
      -- a list that is handed in is not lent
      have ioNotLent : ∀ a, Io fn.io vs a → ¬ lentA σ lent a := by
        intro a ha hl
        rcases hIo a ha with ⟨i, hi, q1, hs⟩ | ⟨_, q1, _⟩
        · obtain ⟨i', hi', q2⟩ := hl
          obtain ⟨s, xs, f1, f2, _⟩ := listSlot hs
          obtain ⟨s', xs', g1, g2, _⟩ := listSlot (lent_list (hlent ▸ hi'))
          have := r1.inj i i' a s s' xs xs' f1 g1 f2 g2 q1 q2
          subst this
          exact lentNot i hi hi'
        · exact (r.fresh q1).2.2 (hs1 a (lentOw a hl))
      have wI : OwL (Io fn.io vs) (fun a => M1 a ∧ ¬ lentA σ lent a) H1 := by
        refine ⟨fun a ha => ⟨?_, ioNotLent a ha⟩, fun a ha => ?_⟩
        · rcases hIo a ha with ⟨i, hi, q1, hs⟩ | ⟨_, q1, us, xs, q2, q3, q4⟩
          · obtain ⟨s, xs, f1, f2, _⟩ := listSlot hs
            exact r1.owl.sub a ⟨i, s, xs, f1, f2, q1⟩
          · exact q4
        · rcases hIo a ha with ⟨i, hi, q1, hs⟩ | ⟨_, q1, us, xs, q2, q3, q4⟩
          · obtain ⟨s, xs, f1, f2, _⟩ := listSlot hs
            exact r1.owl.lst a ⟨i, s, xs, f1, f2, q1⟩
          · exact ⟨us, q2⟩
      have hargs : Args C.K (fun a => M1 a ∧ ¬ lentA σ lent a) H1 fn.io vs ds := by
        refine ⟨by rw [Paired.length hv, rdAll_len e1], fun j v d hj hvj hdj => ?_, fun j hj => ?_⟩
        · obtain ⟨o, ho, hrd⟩ := rdAll_at e1 hdj
          have hvo := paired_at hv hvj ho
          cases o with
          | slot i =>
            simp only [Opd.rd, Option.map_eq_some_iff] at hrd
            obtain ⟨s, hg, rfl⟩ := hrd
            have hvo : σ[i]? = some (some v) := hvo
            cases s with
            | dat d =>
              obtain ⟨u, q1, q2⟩ := r1.dat i d (get_some hg)
              rw [hvo] at q1; cases q1
              exact q2.less fun _ z => z.1
            | own xs =>
              obtain ⟨a, us, q1, q2, q3, q4⟩ := r1.lst i _ xs (get_some hg) rfl
              rw [hvo] at q1; cases q1
              have hin : i ∈ lent := hlent ▸ lent_has ho hj (by unfold isListSlot; rw [hg])
              exact .lst (.inl q2) (fun z => z.2 ⟨i, hin, hvo⟩) (q3.less fun _ z => z.1)
            | io xs =>
              obtain ⟨a, us, q1, q2, q3, q4⟩ := r1.lst i _ xs (get_some hg) rfl
              rw [hvo] at q1; cases q1
              have hin : i ∈ lent := hlent ▸ lent_has ho hj (by unfold isListSlot; rw [hg])
              exact .lst (.inl q2) (fun z => z.2 ⟨i, hin, hvo⟩) (q3.less fun _ z => z.1)
          | val w =>
            simp only [Opd.rd, Option.some.injEq] at hrd
            subst hrd
            cases w with
            | dat d => exact Dat.less (fun _ z => z.1) hvo
            | new xs => exact absurd rfl (hos.at ho hj xs)
        · rw [hj] at e2
          simp only [ioOf] at e2
          split at e2
          · rename_i i ho
            split at e2
            · rename_i hs
              obtain ⟨s, xs, f1, f2, f3⟩ := listSlot hs
              obtain ⟨a, us, q1, q2, q3, q4⟩ := r1.lst i s xs f1 f2
              obtain ⟨v, hvj, hvo⟩ := paired_get hv ho
              have hvo : σ[i]? = some (some v) := hvo
              rw [q1] at hvo; cases hvo
              obtain ⟨d, hd1, hd2⟩ := rdAll_op e1 ho
              have ha : Io fn.io vs a := ⟨j, hj, hvj⟩
              refine ⟨a, us, xs, hvj, ?_, q2, q3.less fun _ z => z.1, q4, ioNotLent a ha⟩
              simp only [Opd.rd, Option.map_eq_some_iff] at hd2
              obtain ⟨s', hg', rfl⟩ := hd2
              rw [f3] at hg'; cases hg'
              rw [hd1]
              cases s <;> cases f2 <;> rfl
            · cases e2
          · rename_i xs ho
            obtain ⟨v, hvj, hvo⟩ := paired_get hv ho
            obtain ⟨a, us, q1, q2, q3, q4, q5⟩ := (show VW0 C.K H M1 H1 v (.new xs) from hvo)
            subst q1
            obtain ⟨d, hd1, hd2⟩ := rdAll_op e1 ho
            cases hd2
            exact ⟨a, us, xs, hvj, hd1, q3, q4.less fun _ z => z.1, q5, ioNotLent a ⟨j, hj, hvj⟩⟩
          · cases e2
      -- the slots behind it
      have slots : ∀ {lent' : List Nat} {M' : AS} {H' : Hp} {rr : Option (List D)}, (∀ i ∈ lent', i ∈ lent) → IoEnd C.K M' H' fn.io vs rr → IoSlot C.K C.M0 ρ1 σ (Io fn.io vs) lent' M' H' io rr := by
        intro lent' M' H' rr hsub hend
        refine ⟨fun i hi => ⟨fun z => lentNot i hi (hsub i z), ?_⟩, fun hi b hb => ?_⟩
        · cases hfio : fn.io with
          | none => rw [hfio] at e2; simp only [ioOf] at e2; cases e2; cases hi
          | some j =>
            rw [hfio] at hend
            obtain ⟨a, us, xs, g1, g2, g3, g4, g5⟩ := hend
            have ha : Io fn.io vs a := ⟨j, hfio, g1⟩
            rcases hIo a ha with ⟨i', hi', q1, hs⟩ | ⟨hn, _⟩
            · rw [hi] at hi'; cases hi'
              obtain ⟨s, ys, f1, f2, f3⟩ := listSlot hs
              exact ⟨s, ys, xs, a, us, f1, f2, g2, q1, fun b hb => ioUniq b a (hfio ▸ hb) ha, g3, g4, g5⟩
            · rw [hn] at hi; cases hi
        · rcases hIo b hb with ⟨i', hi', _⟩ | ⟨_, q1, _⟩
          · rw [hi] at hi'; cases hi'
          · exact ⟨(r.fresh q1).2.1, fun z => (r.fresh q1).2.2 (hs1 b z)⟩
      -- seen from the start
      have whole : ∀ {M' : AS} {H' : Hp}, Stp (Io fn.io vs) M1 H1 M' H' → Stp (Ow ρ σ) M H M' H' := by
        intro M' H' s2
        have nIo : ∀ a o, H a = some o → ¬ Ow ρ σ a → ¬ Io fn.io vs a := by
          intro a o e n z
          rcases hIo a z with ⟨i, _, q1, hs⟩ | ⟨_, q1, _⟩
          · obtain ⟨s, xs, f1, f2, _⟩ := listSlot hs
            exact n (hs1 a ⟨i, s, xs, f1, f2, q1⟩)
          · rw [e] at q1; cases q1
        refine ⟨fun a o e n => s2.keep a o (s1.keep a o e n) (nIo a o e n), fun a z => ?_, fun a z n => ?_, fun a o e => ?_⟩
        · rcases s2.new a z with z | z
          · exact s1.new a z
          · cases q : H a with
            | none => exact .inr rfl
            | some o => obtain ⟨o', e'⟩ := s1.there a o q; rw [z] at e'; cases e'
        · obtain ⟨o, e⟩ := r.dom a z
          exact s2.old a (s1.old a z n) (nIo a o e n)
        · obtain ⟨o', e'⟩ := s1.there a o e
          exact s2.there a o' e'
      -- where something lent may have stayed in the answer
      have frozen : ∀ {M' : AS} {H' : Hp} {rr : Option (List D)}, lent.all (isOwnSlot ρ1) = true → Stp (Io fn.io vs) (fun a => M1 a ∧ ¬ lentA σ lent a) H1 M' H' → (∀ a, M' a → ∃ o, H' a = some o) → IoEnd C.K M' H' fn.io vs rr →
          Stp (Ow ρ σ) M H M' H' ∧ Rep C.K C.M0 M' (frzR lent (putIo ρ1 io rr)) σ H' ∧ ∀ a, Ow (frzR lent (putIo ρ1 io rr)) σ a → Ow ρ σ a := by
        intro M' H' rr hall s2 dom' hend
        have hl : ∀ i ∈ lent, ∃ xs, ρ1[i]? = some (some (.own xs)) := fun i hi => ownSlot (List.all_eq_true.mp hall i hi)
        obtain ⟨q1, q2⟩ := Rep.called r1 hl wI s2 (slots (fun _ z => z) hend) dom'
        refine ⟨?_, q1, fun a z => hs1 a (q2 a z)⟩
        have nIo : ∀ a o, H a = some o → ¬ Ow ρ σ a → ¬ Io fn.io vs a := by
          intro a o e n z
          rcases hIo a z with ⟨i, _, q1, hs⟩ | ⟨_, q1, _⟩
          · obtain ⟨s, xs, f1, f2, _⟩ := listSlot hs
            exact n (hs1 a ⟨i, s, xs, f1, f2, q1⟩)
          · rw [e] at q1; cases q1
        refine ⟨fun a o e n => s2.keep a o (s1.keep a o e n) (nIo a o e n), fun a z => ?_, fun a z n => ?_, fun a o e => ?_⟩
        · rcases s2.new a z with z | z
          · exact s1.new a z.1
          · cases q : H a with
            | none => exact .inr rfl
            | some o => obtain ⟨o', e'⟩ := s1.there a o q; rw [z] at e'; cases e'
        · obtain ⟨o, e⟩ := r.dom a z
          exact s2.old a ⟨s1.old a z n, fun q => n (hs1 a (lentOw a q))⟩ (nIo a o e n)
        · obtain ⟨o', e'⟩ := s1.there a o e
          exact s2.there a o' e'
      refine ⟨_, ds, hnp, hargs, fun a z => r1.dom a z.1, ?_⟩
      cases hg : g ds with
      | stuck => rw [hg] at h; exact h
      | exc x rr =>
        rw [hg] at h
        simp only at h ⊢
        split at h
        · rename_i hall
          intro M' H' cls d s2 dom' hend hR
          obtain ⟨q1, q2, q3⟩ := frozen hall s2 dom' hend
          exact h M' H' cls d q1 q2 q3 hR
        · exact h.elim
      | ok w rr =>
        rw [hg] at h
        simp only at h ⊢
        intro M' H' v s2 dom' hend hw
        split at h
        · rename_i hcl
          simp only [clean, Bool.and_eq_true] at hcl
          -- the lent ones are the slots' own again
          have s2' : Stp (Io fn.io vs) M1 H1 (fun a => M' a ∨ lentA σ lent a) H' := by
            refine ⟨s2.keep, fun a z => ?_, fun a z n => ?_, s2.there⟩
            · rcases z with z | z
              · rcases s2.new a z with q | q
                · exact .inl q.1
                · exact .inr q
              · exact .inl (r1.owl.sub a (lentOw a z))
            · by_cases q : lentA σ lent a
              · exact .inr q
              · exact .inl (s2.old a ⟨z, q⟩ n)
          have dom2 : ∀ a, (M' a ∨ lentA σ lent a) → ∃ o, H' a = some o := by
            rintro a (z | z)
            · exact dom' a z
            · obtain ⟨us, e⟩ := r1.owl.lst a (lentOw a z)
              exact s2.there a _ e
          have e0 : ∀ a, (M1 a ∧ ¬ lentA σ [] a) ↔ M1 a := fun a => ⟨fun z => z.1, fun z => ⟨z, fun ⟨i, hi, _⟩ => by cases hi⟩⟩
          have e1' : (fun a => M1 a ∧ ¬ lentA σ [] a) = M1 := funext fun a => propext (e0 a)
          have hend' : IoEnd C.K (fun a => M' a ∨ lentA σ lent a) H' fn.io vs rr := by
            unfold IoEnd at hend ⊢
            split at hend
            · exact hend
            · obtain ⟨a, us, xs, g1, g2, g3, g4, g5⟩ := hend
              rw [g2] at hcl
              exact ⟨a, us, xs, g1, g2, g3, g4.lf hcl.2, .inl g5⟩
          obtain ⟨q1, q2⟩ := Rep.called (lent := []) (M' := fun a => M' a ∨ lentA σ lent a) r1 (fun i hi => by cases hi) (by rw [e1']; exact ⟨fun a z => (wI.sub a z).1, wI.lst⟩) (by rw [e1']; exact s2') (slots (fun i hi => by cases hi) hend') dom2
          have ef : frzR [] (putIo ρ1 io rr) = putIo ρ1 io rr := by
            unfold frzR
            apply List.ext_getElem?
            intro j
            rw [List.getElem?_mapIdx]
            cases (putIo ρ1 io rr)[j]? <;> simp
          rw [ef] at q1 q2
          refine h _ H' (whole s2') q1 (fun a z => hs1 a (q2 a z)) v (VW0.from s1.there ?_)
          cases w with
          | dat d => exact Dat.lf hcl.1 hw
          | new xs =>
            obtain ⟨a, us, g1, g2, g3, g4, g5⟩ := hw
            exact ⟨a, us, g1, g2, g3, g4.lf hcl.1, .inl g5⟩
        · split at h
          · rename_i hall
            obtain ⟨q1, q2, q3⟩ := frozen hall s2 dom' hend
            exact h M' H' q1 q2 q3 v (VW0.from s1.there hw)
          · exact h.elim
    · exact h.elim
  · exact h.elim
theorem se_call {f : Nat} {es : Es} (hs : SAll Γ cl es) : SE Γ cl (.call f es) := by
  have main : ∀ X C sc g xs ks pos, Lk Γ cl X C sc → okE Γ (.call f es) sc (.Call g xs ks pos) = true → PE X (.Call g xs ks pos) (tW C (evG Γ cl (.call f es))) := by
    intro X C sc g xs ks pos L h
    cases g with
    | Name x p =>
      cases ks with
      | cons _ _ => exact nomatch h
      | nil =>
        have h : ((match Γ.F f with | some fn => decide (fn.name = x) && fn.ioOk && decide (xs.length = fn.np) | none => false) && glC sc x && nmC x && !xs.isEmpty && okEs Γ es sc xs) = true := h
        cases hF : Γ.F f with
        | none => rw [hF] at h; simp at h
        | some fn =>
          rw [hF] at h
          simp only [Bool.and_eq_true, decide_eq_true_eq] at h
          obtain ⟨⟨⟨⟨⟨⟨rfl, hio⟩, hnp⟩, h3⟩, h4⟩, h5⟩, h6⟩ := h
          obtain ⟨k, a, fd, ps, mg, keep, ⟨binds, _⟩, room, F⟩ := L.call f fn hF
          obtain ⟨n1, n2, n3⟩ := nmC_of h4
          match xs, es, hs, h6, h5, hnp with
          | y :: ys, .cons e r, hs, h6, _, hnp =>
            have h7 : (okE Γ e sc y && okEs Γ r sc ys) = true := h6
            rw [Bool.and_eq_true] at h7
            refine PE_imp (pe_callSD (dvs := []) F room (glC_of L h3) mg keep binds .nil (passAt L.takes) (pa_CA L (.cons e r) (y :: ys) fn.io hs h6) n1 (star_of h7.1 ys X.env) (nostar pos X.env h7.2)) fun σ H Q ⟨M, ρ, r0, q⟩ => ?_
            have q : After C σ M H ρ (match Γ.F f with | some fn => (evCA Γ.F cl (.cons e r) fn.io ρ).bind fun p => callE fn (cl f) p.1 p.2 | none => .stuck) fun M' H' w _ => ∀ v, VW0 C.K H M' H' v w → Q v H' := q
            rw [hF] at q
            refine ⟨M, ρ, r0, (After.bindS q).mono fun M1 H1 os ρ1 s1 r1 hs1 h1 vs hvs => ?_⟩
            show spOf C.R X.K fn (cl f) (vs ++ []) H1 Q (WE C.Wx σ)
            rw [List.append_nil, L.K]
            have hos := evCA_ok _ _ _ _ _ h1.1
            have hl : vs.length = fn.np := by
              rw [Paired.length hvs, ← hnp]
              exact (evCA_len (.cons e r) (y :: ys) fn.io os ρ ρ1 h6 h1.1)
            exact call_read hio hl r0 s1 r1 hs1 hos hvs h1.2
          | [], _, _, _, h5, _ => simp at h5
    | _ => exact nomatch h
  refine ⟨fun X C sc e L h => ?_, fun X C sc e L h => ?_⟩
  · cases e with
    | Call g xs ks pos => exact main X C sc g xs ks pos L h
    | _ => exact nomatch h
  · cases e with
    | Call g xs ks pos =>
      refine pt_of_pe (main X C sc g xs ks pos L ?_) fun _ => rfl
      cases g with
      | Name x p => cases ks with
        | cons _ _ => exact nomatch h
        | nil => exact h
      | _ => exact nomatch h
    | _ => exact nomatch h
theorem se_glo {k : Nat} {d : D} : SE Γ cl (.glo k d) := by
  refine ⟨fun X C sc e L h => ?_, fun X C sc e L h => by cases e <;> exact nomatch h⟩
  cases e with
  | Name x pos =>
    have h : ((match Γ.G[k]? with | some p => decide (p.1 = x) && cstEq p.2 d | none => false) && glC sc x && nmC x) = true := h
    simp only [Bool.and_eq_true] at h
    obtain ⟨⟨h1, h2⟩, h3⟩ := h
    cases hG : Γ.G[k]? with
    | none => rw [hG] at h1; cases h1
    | some p =>
      rw [hG] at h1
      simp only [Bool.and_eq_true, decide_eq_true_eq] at h1
      obtain ⟨rfl, h1⟩ := h1
      cases cstEq_eq h1
      obtain ⟨u, v, g1, g2, g3⟩ := L.glo p.1 p.2 (List.mem_of_getElem? hG)
      refine PE_imp (pe_glob (glC_of L h2) g1 g2 (nmC_of h3).1) fun σ H Q ⟨M, ρ, r, q⟩ => ?_
      exact After.now (a := W.dat p.2) r q v (L.K ▸ g3 M H)
  | _ => exact nomatch h
theorem pe_call0S {CX : CXT} {k : Nat} {f : Addr} {fd : FuncData} {ps : List Str} {sp : Sp} {E : L2.St → XK} {x : Str} {p pos : Pos} (F : FnOk X.prog X.w X.K X.mg X.base CX k f fd ps sp) (hr : Room k X.A) (hg : Gl X x) (hm : X.mg x = some (.ref f)) (hk : PySem.W.keepIn X.K (.ref f) = true) (hb : Binds X.K fd ps []) (hx : ∀ σ, PassesAt CX X σ (E σ))
    (hdb : (x == ("__debug__" : Str)) = false) : PE X (.Call (.Name x p) [] [] pos) (tCallS sp E tNil) := by
  refine ⟨fun pins s σ H Q I h => ?_⟩
  refine wpAny_Call_Name_kw (ld_glob I hg hm ?_ hdb)
  exact PySem.W.callWith_K0 I.kIn hk (run_fnS (us := []) F hr hb (hx σ) I .nil h)
theorem se_call0 {f : Nat} : SE Γ cl (.call0 f) := by
  have main : ∀ X C sc g xs ks pos, Lk Γ cl X C sc → okE Γ (.call0 f) sc (.Call g xs ks pos) = true → PE X (.Call g xs ks pos) (tW C (evG Γ cl (.call0 f))) := by
    intro X C sc g xs ks pos L h
    match g, xs, ks, h with
    | .Name x p, [], [], h =>
      have h : ((match Γ.F f with | some fn => decide (fn.name = x) && fn.ioOk && decide (0 = fn.np) | none => false) && glC sc x && nmC x) = true := h
      cases hF : Γ.F f with
      | none => rw [hF] at h; simp at h
      | some fn =>
        rw [hF] at h
        simp only [Bool.and_eq_true, decide_eq_true_eq] at h
        obtain ⟨⟨⟨⟨rfl, hio⟩, hnp⟩, h3⟩, h4⟩ := h
        obtain ⟨k, a, fd, ps, mg, keep, ⟨binds, _⟩, room, F⟩ := L.call f fn hF
        refine PE_imp (pe_call0S F room (glC_of L h3) mg keep binds (passAt L.takes) (nmC_of h4).1) fun σ H Q ⟨M, ρ, r0, q⟩ => ?_
        have q : After C σ M H ρ (match Γ.F f with | some fn => callE fn (cl f) [] ρ | none => .stuck) fun M' H' w _ => ∀ v, VW0 C.K H M' H' v w → Q v H' := q
        rw [hF] at q
        show spOf C.R X.K fn (cl f) [] H Q (WE C.Wx σ)
        rw [L.K]
        exact call_read (os := []) hio hnp r0 .refl r0 (fun _ z => z) (show OsOk [] fn.io from trivial) .nil q
    | .Name _ _, _ :: _, _, h => exact nomatch h
    | .Name _ _, [], _ :: _, h => exact nomatch h
  refine ⟨fun X C sc e L h => ?_, fun X C sc e L h => ?_⟩
  · cases e with
    | Call g xs ks pos => exact main X C sc g xs ks pos L h
    | _ => exact nomatch h
  · cases e with
    | Call g xs ks pos =>
      refine pt_of_pe (main X C sc g xs ks pos L ?_) fun _ => rfl
      match g, xs, ks, h with
      | .Name x p, [], [], h => exact h
      | .Name _ _, _ :: _, _, h => exact nomatch h
      | .Name _ _, [], _ :: _, h => exact nomatch h
    | _ => exact nomatch h
/-! ### calls by names -/
theorem kw_each (pos : Pos) (env : Env) : ∀ {kws : List Keyword} {ks : List Str}, kwNames kws = some ks → (backToKw pos (keywordEach kws env)).all (·.1.isSome) = true ∧ (backToKw pos (keywordEach kws env)).filterMap (·.1) = ks ∧ (backToKw pos (keywordEach kws env)).any (·.1.isNone) = false
  | [], ks, h => by cases h; exact ⟨rfl, rfl, rfl⟩
  | ⟨none, _, _⟩ :: _, _, h => nomatch h
  | ⟨some x, e, p⟩ :: r, ks, h => by
    have h : (kwNames r).map (x :: ·) = some ks := h
    obtain ⟨ks', h1, rfl⟩ := Option.map_eq_some_iff.mp h
    obtain ⟨g1, g2, g3⟩ := kw_each pos env h1
    refine ⟨?_, ?_, ?_⟩
    · show (true && (backToKw pos (keywordEach r env)).all (·.1.isSome)) = true
      rw [g1]; rfl
    · show x :: (backToKw pos (keywordEach r env)).filterMap (·.1) = _
      rw [g2]
    · show (false || (backToKw pos (keywordEach r env)).any (·.1.isNone)) = false
      rw [g3]; rfl
theorem pk_CA (L : Lk Γ cl X C sc) : ∀ (es : Es) (kws : List Keyword), SAll Γ cl es → okEs Γ es sc (kwVals kws) = true →
    PK X kws (fun σ H Q => ∃ M ρ, Rep C.K C.M0 M ρ σ H ∧ After C σ M H ρ (evCA Γ.F cl es none ρ) fun M' H' os _ => ∀ vs, VOs C.K H M' H' σ vs os → Q vs H')
  | .nil, [], _, _ => ⟨fun pos pins s σ H Q I ⟨M, ρ, r, q⟩ => pk_nil.run pos pins s σ H Q I (After.now (a := ([] : List Opd)) r q [] .nil)⟩
  | .nil, ⟨_, _, _⟩ :: _, _, h => nomatch h
  | .star _ _, kws, _, h => by
    cases kws with
    | nil => exact nomatch h
    | cons k r => cases k; exact nomatch h
  | .cons e es, [], _, h => nomatch h
  | .cons e es, ⟨nm, x, kp⟩ :: xs, s, h => by
    have h : (okE Γ e sc x && okEs Γ es sc (kwVals xs)) = true := h
    rw [Bool.and_eq_true] at h
    have rule := pk_cons (nm := nm) (kpos := kp) (opdD_pe (C := C) s.1 L h.1) (pk_CA L es xs s.2 h.2)
    refine ⟨fun pos pins s σ H Q I ⟨M, ρ, r, q⟩ => rule.run pos pins s σ H Q I ?_⟩
    refine ⟨M, ρ, r, (After.bind q).mono fun M1 H1 d ρ1 s1 r1 hs1 h1 v hv => ⟨M1, ρ1, r1, (After.bind h1).mono fun M2 H2 ds ρ2 s2 r2 hs2 h2 vs hvs => ?_⟩⟩
    exact h2.now r2 (v :: vs) (.cons (hv.step r r1.owl hs1 s2) (hvs.from s1.there))
theorem vals_perm {vs : List V} {us : List Value} (r : Vals vs us) : ∀ perm : List Nat, Vals (perm.filterMap fun i => vs[i]?) (perm.filterMap fun i => us[i]?)
  | [] => .nil
  | i :: is => by
    cases e : vs[i]? with
    | none =>
      have e2 : us[i]? = none := by
        rw [List.getElem?_eq_none_iff] at e ⊢
        rw [← r.length]; exact e
      rw [List.filterMap_cons_none e, List.filterMap_cons_none e2]
      exact vals_perm r is
    | some v =>
      obtain ⟨u, h1, h2⟩ := r.get e
      rw [List.filterMap_cons_some e, List.filterMap_cons_some h1]
      exact .cons h2 (vals_perm r is)
theorem vos_perm {M : AS} {H H' : Hp} {σ : EV.St} {vs : List V} {os : List Opd} (r : VOs K H M H' σ vs os) : ∀ perm : List Nat, VOs K H M H' σ (perm.filterMap fun i => vs[i]?) (perm.filterMap fun i => os[i]?)
  | [] => .nil
  | i :: is => by
    cases e : os[i]? with
    | none =>
      have e2 : vs[i]? = none := by
        rw [List.getElem?_eq_none_iff] at e ⊢
        rw [Paired.length r]; exact e
      rw [List.filterMap_cons_none e, List.filterMap_cons_none e2]
      exact vos_perm r is
    | some o =>
      obtain ⟨v, h1, h2⟩ := paired_get r e
      rw [List.filterMap_cons_some e, List.filterMap_cons_some h1]
      exact .cons h2 (vos_perm r is)
theorem perm_len {α : Type} {xs : List α} : ∀ {perm : List Nat}, perm.all (fun i => decide (i < xs.length)) = true → (perm.filterMap fun i => xs[i]?).length = perm.length
  | [], _ => rfl
  | i :: is, h => by
    simp only [List.all_cons, Bool.and_eq_true, decide_eq_true_eq] at h
    rw [List.filterMap_cons_some (List.getElem?_eq_getElem h.1)]
    simp [perm_len h.2]
theorem osOk_none : ∀ {os : List Opd}, (∀ o ∈ os, ∀ xs, o ≠ .val (.new xs)) → OsOk os none
  | [], _ => trivial
  | o :: os, h => ⟨fun _ => h o (List.mem_cons_self ..), osOk_none fun o' ho => h o' (List.mem_cons_of_mem _ ho)⟩
theorem kwVals_len : ∀ {kws : List Keyword}, (kwVals kws).length = kws.length
  | [] => rfl
  | ⟨_, _, _⟩ :: r => by
    show (kwVals r).length + 1 = r.length + 1
    rw [kwVals_len]
theorem kwNames_len : ∀ {kws : List Keyword} {ks : List Str}, kwNames kws = some ks → ks.length = kws.length
  | [], ks, h => by cases h; rfl
  | ⟨none, _, _⟩ :: _, _, h => nomatch h
  | ⟨some x, e, p⟩ :: r, ks, h => by
    have h : (kwNames r).map (x :: ·) = some ks := h
    obtain ⟨ks', h1, rfl⟩ := Option.map_eq_some_iff.mp h
    simp [kwNames_len h1]
theorem osOk_all : ∀ {os : List Opd}, OsOk os none → ∀ o ∈ os, ∀ xs, o ≠ .val (.new xs)
  | o :: os, ⟨h1, h2⟩, o', ho => by
    rcases List.mem_cons.mp ho with rfl | ho
    · exact h1 (fun z => nomatch z)
    · exact osOk_all h2 o' ho
def tCallN (sp : Sp) (E : L2.St → XK) (perm : List Nat) (t : TA) : TE := fun σ H Q => t σ H fun vs H1 => vs.length = vs.length ∧ sp (perm.filterMap fun i => vs[i]?) H1 Q (E σ)
theorem pe_callN {CX : CXT} {k : Nat} {f : Addr} {fd : FuncData} {ps ks : List Str} {sp : Sp} {E : L2.St → XK} {x : Str} {p pos : Pos} {kws : List Keyword} {perm : List Nat} {t : TA} (F : FnOk X.prog X.w X.K X.mg X.base CX k f fd ps sp) (hr : Room k X.A) (hg : Gl X x) (hm : X.mg x = some (.ref f)) (hk : PySem.W.keepIn X.K (.ref f) = true)
    (hb : KwOk X.K fd ps ks perm) (hn : kwNames kws = some ks) (hx : ∀ σ, PassesAt CX X σ (E σ)) (hkw : PK X kws t) (hdb : (x == ("__debug__" : Str)) = false)
    (hlen : ∀ σ H Q, t σ H Q → t σ H fun vs H1 => vs.length = kws.length ∧ Q vs H1) : PE X (.Call (.Name x p) [] kws pos) (tCallN sp E perm t) := by
  refine ⟨fun pins s σ H Q I h => ?_⟩
  obtain ⟨g1, g2, g3⟩ := kw_each pos X.env hn
  refine wpAny_Call_Name_kw (ld_glob I hg hm ?_ hdb)
  refine PySem.W.callWith_KW0 (h₀ := X.base) I.ok.mod.kin hk g1 ?_ (by rw [g3]; rfl)
  refine thn (hkw.run pos pins s σ H _ I (hlen σ H _ h)) fun ws s2 ⟨zs, H2, I2, rz, hl, _, q2⟩ => ⟨I2.kIn, ?_⟩
  rw [g2]
  have r2 := vals_perm rz perm
  have b := hb s2 ws I2.kIn (by rw [← rz.length, hl, kwNames_len hn])
  refine wpAny_call (codeAny_mono (F.run X.A X.stack s2 H2 ⟨[], ks.zip ws⟩ _ _ Q (E σ) hr I2.env0 b r2 q2) fun r s' hq => ?_)
  cases r with
  | error e => exact hx σ pins H2 s2 e s' I2 hq
  | ok fl =>
    cases fl with
    | ret u => exact I2.after hq
    | next => exact False.elim hq
    | brk => exact False.elim hq
    | cont => exact False.elim hq
theorem se_callK {f : Nat} {perm : List Nat} {es : Es} (hs : SAll Γ cl es) : SE Γ cl (.callK f perm es) := by
  refine ⟨fun X C sc e L h => ?_, fun X C sc e L h => by cases e <;> exact nomatch h⟩
  cases e with
  | Call g xs kws pos =>
    match g, xs, h with
    | .Name x p, [], h =>
      have h : ((match Γ.F f with | some fn => decide (fn.name = x) && decide (fn.io = none) && decide (perm.length = fn.np) && perm.all (fun i => decide (i < kws.length)) | none => false) && glC sc x && nmC x && kwC Γ f perm kws && okEs Γ es sc (kwVals kws)) = true := by
        cases kws <;> exact h
      cases hF : Γ.F f with
      | none => rw [hF] at h; simp at h
      | some fn =>
        rw [hF] at h
        simp only [Bool.and_eq_true, decide_eq_true_eq] at h
        obtain ⟨⟨⟨⟨⟨⟨⟨rfl, hio⟩, hnp⟩, hp⟩, h3⟩, h4⟩, h5⟩, h6⟩ := h
        obtain ⟨k, a, fd, ps, mg, keep, ⟨_, binds⟩, room, F⟩ := L.call f fn hF
        unfold kwC at h5
        cases hn : kwNames kws with
        | none => rw [hn] at h5; cases h5
        | some ks =>
          rw [hn] at h5
          have hmem : (f, ks, perm) ∈ Γ.W := by
            rw [List.any_eq_true] at h5
            obtain ⟨q, q1, q2⟩ := h5
            rw [of_decide_eq_true q2] at q1
            exact q1
          refine PE_imp (pe_callN F room (glC_of L h3) mg keep (binds ks perm hmem) hn (passAt L.takes) (pk_CA L es kws hs h6) (nmC_of h4).1 fun σ H Q ⟨M, ρ, r, q⟩ => ?_) fun σ H Q ⟨M, ρ, r0, q⟩ => ?_
          · refine ⟨M, ρ, r, ?_⟩
            cases e : evCA Γ.F cl es none ρ with
            | ok pr =>
              rw [e] at q
              refine fun M1 H1 s1 r1 hs1 vs hvs => ⟨?_, q M1 H1 s1 r1 hs1 vs hvs⟩
              rw [Paired.length hvs, evCA_len es (kwVals kws) none pr.1 ρ pr.2 h6 e, kwVals_len]
            | exc x ρ' => rw [e] at q; exact q
            | stuck => rw [e] at q; exact q
          · have q : After C σ M H ρ (match Γ.F f with | some fn => (if fn.io = none then (evCA Γ.F cl es none ρ).bind fun p => callE fn (cl f) (perm.filterMap fun i => p.1[i]?) p.2 else .stuck) | none => .stuck) fun M' H' w _ => ∀ v, VW0 C.K H M' H' v w → Q v H' := q
            rw [hF] at q
            dsimp only at q
            rw [if_pos hio] at q
            refine ⟨M, ρ, r0, (After.bindS q).mono fun M1 H1 os ρ1 s1 r1 hs1 h1 vs hvs => ⟨rfl, ?_⟩⟩
            show spOf C.R X.K fn (cl f) _ H1 Q (WE C.Wx σ)
            rw [L.K]
            have hos := osOk_all (evCA_ok _ _ _ _ _ h1.1)
            have hvl : vs.length = kws.length := by rw [Paired.length hvs, evCA_len es (kwVals kws) none os ρ ρ1 h6 h1.1, kwVals_len]
            have hl : (perm.filterMap fun i => vs[i]?).length = fn.np := by
              rw [perm_len (by rw [hvl]; exact hp)]
              exact hnp
            have hio' : fn.ioOk = true := by unfold Fn.ioOk; rw [hio]
            refine call_read hio' hl r0 s1 r1 hs1 ?_ (vos_perm hvs perm) h1.2
            rw [hio]
            refine osOk_none fun o ho => ?_
            obtain ⟨i, hi, q⟩ := List.mem_filterMap.mp ho
            exact hos o (List.mem_of_getElem? q)
    | .Name _ _, _ :: _, h => cases kws <;> exact nomatch h
  | _ => exact nomatch h
end EV

end
section
set_option linter.all false
set_option maxRecDepth 100000
set_option Elab.async false
namespace EV
open PySem L2 PyProof.Rows
variable {Γ : Gam} {cl : Nat → List D → FRes} {X : Cx} {C : Ctx} {sc : Scope} {K : PySem.W.Frag} {M M' M0 M1 : AS} {H H' H1 : Hp} {σ : EV.St} {ρ ρ' ρ1 : Ro}
/-! ### what is walked -/
/-- J gives the items ds, from (M, H) on, whatever else is done -/
def ItR (K : PySem.W.Frag) (M : AS) (H : Hp) (J : L2.It) (ds : List D) : Prop := ∃ n G Y, n = ds.length ∧ Walk J n G Y ∧ (∀ O M' H', OwL O M H → Stp O M H M' H' → G H') ∧
  ∀ O M1 H1 i x H2, OwL O M H → Stp O M H M1 H1 → i < ds.length → Y i H1 x H2 → Stp0 M1 H1 M1 H2 ∧ ∃ d, ds[i]? = some d ∧ Dat K M1 H2 x d
def tIt (C : Ctx) (f : Ro → Res (List D × Ro)) : TI := fun σ H R => ∃ M ρ, Rep C.K C.M0 M ρ σ H ∧ After C σ M H ρ (f ρ) fun M' H' ds _ => ∀ J, ItR C.K M' H' J ds → ds.length ≤ sizeLine → R J H'
/-- no list, no tuple is too long -/
def HZ (H : Hp) : Prop := ∀ a xs, Rd H a (.lst xs) ∨ Rd H a (.tup xs) → xs.length ≤ sizeLine
theorem hz_of {pins : List (Addr × Obj)} {s : Shared} (I : Inv X pins σ H s) : HZ H := fun a xs h => by
  rcases h with h | h
  · obtain ⟨_, _, _, z⟩ := I.list (.inl h); exact z
  · obtain ⟨_, _, _, z⟩ := I.tuple (.inl h); exact z
theorem PI_hz {tg iter : Expr} {t t' : TI} (h : PI X tg iter t) (f : ∀ σ H R, t' σ H R → t σ H (fun J H' => HZ H' → R J H')) : PI X tg iter t' :=
  ⟨fun pins s σ H R I q => thn (h.run pins s σ H _ I (f σ H R q)) fun v s1 h1 => thn h1 fun itv s2 ⟨it, fp, tn, J, H2, e, I2, T, st2, f2, q2⟩ => ⟨it, fp, tn, J, H2, e, I2, T, st2, f2, q2 (hz_of I2)⟩⟩
theorem PI_imp {tg iter : Expr} {t t' : TI} (h : PI X tg iter t) (f : ∀ σ H R, t' σ H R → t σ H R) : PI X tg iter t' := ⟨fun pins s σ H R I q => h.run pins s σ H R I (f σ H R q)⟩
theorem itr_list {a : Addr} {vs : List V} {ds : List D} (r : Rd H a (.lst vs)) (n : ¬ M a) (q : DatA K M H vs ds) : ItR K M H (Itl K a) ds := by
  have hl := q.length
  refine ⟨_, _, _, hl, walk_list (K := K) (a := a) (xs := vs), fun O M' H' w s => .inl (rd_keep r n w s.keep), fun O M1 H1 i x H2 w s hi y => ?_⟩
  obtain ⟨rfl, hx⟩ := y
  obtain ⟨d, h1, h2⟩ := (q.step w s).getV hx
  exact ⟨.refl, d, h1, h2⟩
theorem itr_tup {a : Addr} {vs : List V} {ds : List D} (r : SqT K H a vs) (q : DatA K M H vs ds) : ItR K M H (Itt K a) ds := by
  have hl := q.length
  refine ⟨_, _, _, hl, walk_tup (K := K) (a := a) (xs := vs), fun O M' H' w s => sqt_keep r w s.keep, fun O M1 H1 i x H2 w s hi y => ?_⟩
  obtain ⟨rfl, hx⟩ := y
  obtain ⟨d, h1, h2⟩ := (q.step w s).getV hx
  exact ⟨.refl, d, h1, h2⟩
theorem itr_range {lo : Int} {n : Nat} : ItR K M H (Itr lo n) ((List.range n).map fun (i : Nat) => .int (lo + i)) := by
  have hl : ((List.range n).map fun (i : Nat) => PyData.int (lo + i)).length = n := by simp
  refine ⟨_, _, _, hl.symm, walk_range (lo := lo) (n := n), fun O M' H' w s => trivial, fun O M1 H1 i x H2 w s hi y => ?_⟩
  obtain ⟨rfl, rfl⟩ := y
  have hi' : i < n := by simpa using hi
  exact ⟨.refl, .int (lo + i), by simp [hi'], .int _⟩
theorem itr_str {z : Str} : ItR K M H (Its z) (chars z) := by
  have hl : (chars z).length = z.cps.size := by simp [chars]
  refine ⟨_, _, _, hl.symm, walk_str (z := z), fun O M' H' w s => trivial, fun O M1 H1 i x H2 w s hi y => ?_⟩
  obtain ⟨rfl, c, hc, rfl⟩ := y
  refine ⟨.refl, .str ⟨#[c]⟩, ?_, .str _⟩
  unfold chars
  rw [List.getElem?_map, Array.getElem?_toList, hc]
  rfl
/-- a new pair -/
theorem dat_pair {M1 : AS} {H1 H2 : Hp} {T : Addr} {v u : V} {d e : D} (hT : H1 T = none) (h2 : H2 = upd H1 T (.tup [v, u])) (hv : Dat K M1 H1 v d) (hu : Dat K M1 H1 u e) : Stp0 M1 H1 M1 H2 ∧ Dat K M1 H2 (.ref T) (.tuple [d, e]) := by
  subst h2
  exact ⟨.laid hT, .tup (.inl (.inl upd_same)) (.cons (hv.step0 (.laid hT)) (.cons (hu.step0 (.laid hT)) .nil))⟩
theorem enumD_at (ds : List D) (i : Nat) : (enumD ds)[i]? = (ds[i]?).map fun d => .tuple [.int (i : Nat), d] := by
  unfold enumD
  rw [List.getElem?_map, List.getElem?_zipIdx]
  cases ds[i]? <;> simp
theorem itr_enum {a : Addr} {vs : List V} {ds : List D} (r : Rd H a (.lst vs)) (n : ¬ M a) (q : DatA K M H vs ds) : ItR K M H (Ite K a) (enumD ds) := by
  have hl : vs.length = (enumD ds).length := by rw [q.length]; simp [enumD]
  refine ⟨_, _, _, hl, walk_enum (K := K) (a := a) (xs := vs), fun O M' H' w s => .inl (rd_keep r n w s.keep), fun O M1 H1 i x H2 w s hi y => ?_⟩
  obtain ⟨T, v, u, rfl, hT, h2, e1, e2⟩ := y
  obtain ⟨d, g1, g2⟩ := (q.step w s).getV e2
  cases e1
  obtain ⟨s0, hd⟩ := dat_pair hT h2 (.int _) g2
  exact ⟨s0, _, by rw [enumD_at, g1]; rfl, hd⟩
theorem itr_enumT {a : Addr} {vs : List V} {ds : List D} (r : SqT K H a vs) (q : DatA K M H vs ds) : ItR K M H (EVI.IteT K a) (enumD ds) := by
  have hl : vs.length = (enumD ds).length := by rw [q.length]; simp [enumD]
  refine ⟨_, _, _, hl, EVI.walk_enumT (K := K) (a := a) (xs := vs), fun O M' H' w s => sqt_keep r w s.keep, fun O M1 H1 i x H2 w s hi y => ?_⟩
  obtain ⟨T, v, u, rfl, hT, h2, e1, e2⟩ := y
  obtain ⟨d, g1, g2⟩ := (q.step w s).getV e2
  cases e1
  obtain ⟨s0, hd⟩ := dat_pair hT h2 (.int _) g2
  exact ⟨s0, _, by rw [enumD_at, g1]; rfl, hd⟩
theorem zipD_at : ∀ (xs ys : List D) (i : Nat), (zipD xs ys)[i]? = (xs[i]?).bind fun x => (ys[i]?).map fun y => .tuple [x, y]
  | [], ys, i => by simp [zipD]
  | x :: xs, [], i => by
    simp only [zipD, List.zip_nil_right, List.map_nil, List.getElem?_nil, Option.map_none]
    cases (x :: xs)[i]? <;> rfl
  | x :: xs, y :: ys, 0 => by simp [zipD]
  | x :: xs, y :: ys, i + 1 => by
    have := zipD_at xs ys i
    simpa [zipD] using this
theorem itr_zip {a b : Addr} {vs us : List V} {ds es : List D} (r : Rd H a (.lst vs)) (n : ¬ M a) (q : DatA K M H vs ds) (r' : Rd H b (.lst us)) (n' : ¬ M b) (q' : DatA K M H us es) : ItR K M H (Itz K a b) (zipD ds es) := by
  have hl : min vs.length us.length = (zipD ds es).length := by rw [q.length, q'.length]; simp [zipD]
  refine ⟨_, _, _, hl, walk_zip (K := K) (a := a) (b := b) (xs := vs) (ys := us) rfl, fun O M' H' w s => ⟨.inl (rd_keep r n w s.keep), .inl (rd_keep r' n' w s.keep)⟩, fun O M1 H1 i x H2 w s hi y => ?_⟩
  obtain ⟨T, v, u, rfl, hT, h2, e1, e2⟩ := y
  obtain ⟨d, g1, g2⟩ := (q.step w s).getV e1
  obtain ⟨e, g3, g4⟩ := (q'.step w s).getV e2
  obtain ⟨s0, hd⟩ := dat_pair hT h2 g2 g4
  exact ⟨s0, _, by rw [zipD_at, g1, g3]; rfl, hd⟩
theorem walk_zipT {K : PySem.W.Frag} {a b : Addr} {xs ys : List V} : Walk (RZ.ItzT K a b) (min xs.length ys.length) (fun H => SqT K H a xs ∧ SqT K H b ys) (YPair (fun i => xs[i]?) (fun i => ys[i]?)) := by
  refine ⟨fun i _ hi q => ?_, fun _ q => ⟨xs, ys, q.1, q.2, by omega⟩, fun i H v H' _ q y => ?_⟩
  · have h1 : i < xs.length := by omega
    have h2 : i < ys.length := by omega
    exact ⟨xs, ys, xs[i], ys[i], q.1, q.2, by simp [h1], by simp [h2]⟩
  · obtain ⟨T, x, z, h1, h2, h3, h4, h5⟩ := y
    exact ⟨T, x, z, h1, h2, h3, h4 xs q.1, h5 ys q.2⟩
theorem itr_zipT {a b : Addr} {vs us : List V} {ds es : List D} (r : SqT K H a vs) (q : DatA K M H vs ds) (r' : SqT K H b us) (q' : DatA K M H us es) : ItR K M H (RZ.ItzT K a b) (zipD ds es) := by
  have hl : min vs.length us.length = (zipD ds es).length := by rw [q.length, q'.length]; simp [zipD]
  refine ⟨_, _, _, hl, walk_zipT (K := K) (a := a) (b := b) (xs := vs) (ys := us), fun O M' H' w s => ⟨sqt_keep r w s.keep, sqt_keep r' w s.keep⟩, fun O M1 H1 i x H2 w s hi y => ?_⟩
  obtain ⟨T, v, u, rfl, hT, h2, e1, e2⟩ := y
  obtain ⟨d, g1, g2⟩ := (q.step w s).getV e1
  obtain ⟨e, g3, g4⟩ := (q'.step w s).getV e2
  obtain ⟨s0, hd⟩ := dat_pair hT h2 g2 g4
  exact ⟨s0, _, by rw [zipD_at, g1, g3]; rfl, hd⟩
/-! ### how walks begin -/
theorem iter_data {pins : List (Addr × Obj)} {s : Shared} {v : V} {u : Value} {d : D} {ds : List D} {tg : Expr} {R : L2.It → Hp → Prop} (I : Inv X pins σ H s) (rv : RelV v u) (hd : Dat X.K M H v d) (e : seqD d = some ds)
    (hR : ∀ J, ItR X.K M H J ds → ds.length ≤ sizeLine → R J H) : wpAny (model X.prog X.w) X.A (pyIter u) (PIE X pins σ tg R) X.xe s := by
  cases hd with
  | non => cases e
  | bl b => cases e
  | int i => cases e
  | str x =>
    obtain ⟨hz, rfl⟩ := some_ite (show (if x.length ≤ sizeLine then some (chars x) else none) = some ds from e)
    have hz : (chars x).length ≤ sizeLine := by simpa [chars, Str.length] using hz
    obtain ⟨t, rfl⟩ := rv
    cases ha : x.cps.all (· < 128)
    · exact wpAny_pyIter_wide ha (pi_one (tk := s.toks) I _ (turn_str _ x t "str_iterator" (.inr rfl)) ⟨_, Heap.get?_push_size _ rfl, rfl, rfl⟩ (hR _ itr_str hz))
    · exact wpAny_pyIter_ascii ha (pi_one (tk := s.toks) I _ (turn_str _ x t "str_ascii_iterator" (.inl rfl)) ⟨_, Heap.get?_push_size _ rfl, rfl, rfl⟩ (hR _ itr_str hz))
  | lst r n q =>
    cases e
    cases rv
    obtain ⟨its, _, p, hz⟩ := I.list (.inl r)
    exact wpAny_pyIter_list p.isList (pi_one (tk := s.toks) I _ (turn_list _ _) ⟨_, Heap.get?_push_size _ rfl, rfl, rfl⟩ (hR _ (itr_list r n q) (by rw [← q.length]; exact hz)))
  | tup r q =>
    cases e
    cases rv
    obtain ⟨its, _, p, hz⟩ := I.tuple r
    exact wpAny_pyIter_tuple (show s.heap.IsTuple _ its.toArray from p) (pi_one (tk := s.toks) I _ (turn_tuple _ _) ⟨_, Heap.get?_push_size _ rfl, rfl, rfl⟩ (hR _ (itr_tup r q) (by rw [← q.length]; exact hz)))
theorem pi_seq {tg e : Expr} {f : Ro → Res (D × Ro)} (L : X.K = C.K) (h : PE X e (tD C f)) : PI X tg e (tIt C fun ρ => (f ρ).bind fun p => (Res.of (seqD p.1)).bind fun xs => .ok (xs, p.2)) := by
  refine ⟨fun pins s σ H R I ⟨M, ρ, r, q⟩ => ?_⟩
  have q' : tD C f σ H fun v H1 => ∃ M1 d ds, Dat C.K M1 H1 v d ∧ seqD d = some ds ∧ ∀ J, ItR C.K M1 H1 J ds → ds.length ≤ sizeLine → R J H1 := by
    refine ⟨M, ρ, r, (After.bind q).mono fun M1 H1 d ρ1 s1 r1 hs1 h1 v hv => ?_⟩
    obtain ⟨ds, e1, h2⟩ := h1.of
    exact ⟨M1, d, ds, hv, e1, h2.now r1⟩
  refine thn (h.run pins s σ H _ I q') fun u s1 ⟨v, H1, I1, rv, M1, d, ds, hd, e1, hR⟩ => ?_
  rw [← L] at hd hR
  exact iter_data I1 rv hd e1 hR
structure SIt (Γ : Gam) (cl : Nat → List D → FRes) (it : It) : Prop where
  pi : ∀ X C sc tg iter, Lk Γ cl X C sc → okIt Γ it sc iter (isTuple tg) = true → PI X tg iter (tIt C (evIt Γ.F cl it))
theorem sit_seq {e : E} (h : SE Γ cl e) : SIt Γ cl (.seq e) := ⟨fun X C sc tg iter L ok => pi_seq L.K (tD_of (h.pe X C sc iter L ok))⟩
/-- one data argument -/
theorem pa_one {e : E} {x : Expr} (L : Lk Γ cl X C sc) (h : SE Γ cl e) (ok : okE Γ e sc x = true) : PA X [x] (tCons (tD C (datOf (evG Γ cl e))) tNil) := pa_cons (tD_of (h.pe X C sc x L ok)) pa_nil (star_of ok [] X.env)
theorem pa_two {a b : E} {x y : Expr} (L : Lk Γ cl X C sc) (ha : SE Γ cl a) (hb : SE Γ cl b) (oka : okE Γ a sc x = true) (okb : okE Γ b sc y = true) : PA X [x, y] (tCons (tD C (datOf (evG Γ cl a))) (tCons (tD C (datOf (evG Γ cl b))) tNil)) :=
  pa_cons (tD_of (ha.pe X C sc x L oka)) (pa_one L hb okb) (star_of oka [y] X.env)
theorem small62_of {i : Int} (h : small62 i = true) : -(2 ^ 62) ≤ i ∧ i < 2 ^ 62 := by
  unfold small62 at h
  rw [Bool.and_eq_true] at h
  exact ⟨of_decide_eq_true h.1, of_decide_eq_true h.2⟩
theorem sit_range1 {e : E} (h : SE Γ cl e) : SIt Γ cl (.range1 e) := by
  refine ⟨fun X C sc tg iter L ok => ?_⟩
  have inv : ∃ f p x pos, iter = .Call (.Name f p) [x] [] pos ∧ (decide (f = "range") && glC sc f && okE Γ e sc x) = true := by
    unfold okIt at ok
    split at ok <;> first | contradiction | skip
    all_goals first | (rename_i heq _; cases heq; exact ⟨_, _, _, _, rfl, ok⟩) | (rename_i heq; cases heq; exact ⟨_, _, _, _, rfl, ok⟩) | skip
  obtain ⟨f, p, x, pos, rfl, ok'⟩ := inv
  simp only [Bool.and_eq_true, decide_eq_true_eq] at ok'
  obtain ⟨⟨rfl, h2⟩, h3⟩ := ok'
  refine PI_imp (pi_range1 (glC_of L h2) (L.bi _ (by decide)) (pa_one L h h3) (star_of h3 [] X.env)) fun σ H R ⟨M, ρ, r, q⟩ => ?_
  refine ⟨M, ρ, r, (After.bind q).mono fun M1 H1 d ρ1 s1 r1 hs1 h1 v hv => ?_⟩
  cases d with
  | int j =>
    cases hv
    have h1 : After C σ M1 H1 ρ1 (if (small62 j && decide (j ≤ sizeLine)) = true then .ok (rangeD 0 j, ρ1) else .stuck) _ := h1
    split at h1
    · rename_i hz
      rw [Bool.and_eq_true] at hz
      obtain ⟨z1, z2⟩ := small62_of hz.1
      have hj := of_decide_eq_true hz.2
      have : rangeD 0 j = (List.range j.toNat).map fun (i : Nat) => PyData.int (0 + i) := by unfold rangeD; simp
      rw [this] at h1
      exact ⟨j, rfl, z1, z2, h1.now r1 _ itr_range (by simp; omega)⟩
    · exact h1.elim
  | _ => exact h1.elim
theorem sit_range2 {a b : E} (ha : SE Γ cl a) (hb : SE Γ cl b) : SIt Γ cl (.range2 a b) := by
  refine ⟨fun X C sc tg iter L ok => ?_⟩
  have inv : ∃ f p x y pos, iter = .Call (.Name f p) [x, y] [] pos ∧ (decide (f = "range") && glC sc f && okE Γ a sc x && okE Γ b sc y) = true := by
    unfold okIt at ok
    split at ok <;> first | contradiction | skip
    all_goals first | (rename_i heq _; cases heq; exact ⟨_, _, _, _, _, rfl, ok⟩) | (rename_i heq; cases heq; exact ⟨_, _, _, _, _, rfl, ok⟩) | skip
  obtain ⟨f, p, x, y, pos, rfl, ok'⟩ := inv
  simp only [Bool.and_eq_true, decide_eq_true_eq] at ok'
  obtain ⟨⟨⟨rfl, h2⟩, h3⟩, h4⟩ := ok'
  refine PI_imp (pi_range2 (glC_of L h2) (L.bi _ (by decide)) (pa_two L ha hb h3 h4) (by rw [star_of h3, star_of h4]; rfl) (star_of h4 [] X.env)) fun σ H R ⟨M, ρ, r, q⟩ => ?_
  refine ⟨M, ρ, r, (After.bind q).mono fun M1 H1 d ρ1 s1 r1 hs1 h1 v hv => ⟨M1, ρ1, r1, (After.bind h1).mono fun M2 H2 e ρ2 s2 r2 hs2 h2 u hu => ?_⟩⟩
  have hv' := hv.step r1.owl s2
  cases d with
  | int i =>
    cases e with
    | int j =>
      cases hv'
      cases hu
      have h2 : After C σ M2 H2 ρ2 (if (small62 i && small62 j && decide (j - i ≤ sizeLine)) = true then .ok (rangeD i j, ρ2) else .stuck) _ := h2
      split at h2
      · rename_i hz
        simp only [Bool.and_eq_true] at hz
        have z1 := small62_of hz.1.1
        have z2 := small62_of hz.1.2
        have hj := of_decide_eq_true hz.2
        exact ⟨i, j, rfl, ⟨z1.1, z1.2, z2.1, z2.2⟩, h2.now r2 _ itr_range (by unfold rangeD; simp; omega)⟩
      · exact h2.elim
    | _ => exact h2.elim
  | _ => cases e <;> exact h2.elim
theorem itr_down {lo : Int} {n : Nat} : ItR K M H (Itc lo (-1) n) ((List.range n).map fun (i : Nat) => .int (lo + i * (-1))) := by
  have hl : ((List.range n).map fun (i : Nat) => PyData.int (lo + i * (-1))).length = n := by simp
  refine ⟨_, _, _, hl.symm, walk_rangeC (lo := lo) (c := -1) (n := n), fun O M' H' w s => trivial, fun O M1 H1 i x H2 w s hi y => ?_⟩
  obtain ⟨rfl, rfl⟩ := y
  have hi' : i < n := by simpa using hi
  exact ⟨.refl, .int (lo + i * (-1)), by simp [hi'], .int _⟩
theorem neg_pe (L : Lk Γ cl X C sc) {z : Expr} (h : negC z = true) : PE X z (tD C (datOf (evG Γ cl (.op1 .neg (.cst (.int 1)))))) ∧ okE Γ (.op1 .neg (.cst (.int 1))) sc z = true := by
  have ok : okE Γ (.op1 .neg (.cst (.int 1))) sc z = true := by
    unfold negC at h
    split at h
    · cases (of_decide_eq_true h)
      rfl
    · cases h
  exact ⟨tD_of ((se_op1 se_cst).pe X C sc z L ok), ok⟩
theorem sit_down {a b : E} (ha : SE Γ cl a) (hb : SE Γ cl b) : SIt Γ cl (.down a b) := by
  refine ⟨fun X C sc tg iter L ok => ?_⟩
  have inv : ∃ f p x y z pos, iter = .Call (.Name f p) [x, y, z] [] pos ∧ (decide (f = "range") && glC sc f && okE Γ a sc x && okE Γ b sc y && negC z) = true := by
    unfold okIt at ok
    split at ok <;> first | contradiction | skip
    all_goals first | (rename_i heq _; cases heq; exact ⟨_, _, _, _, _, _, rfl, ok⟩) | (rename_i heq; cases heq; exact ⟨_, _, _, _, _, _, rfl, ok⟩) | skip
  obtain ⟨f, p, x, y, z, pos, rfl, ok'⟩ := inv
  simp only [Bool.and_eq_true, decide_eq_true_eq] at ok'
  obtain ⟨⟨⟨⟨rfl, h2⟩, h3⟩, h4⟩, h5⟩ := ok'
  obtain ⟨nz, okz⟩ := neg_pe (C := C) L h5
  have pz : PA X [z] (tCons (tD C (datOf (evG Γ cl (.op1 .neg (.cst (.int 1)))))) tNil) := pa_cons nz pa_nil (star_of okz [] X.env)
  refine PI_imp (pi_range3 (glC_of L h2) (L.bi _ (by decide)) (pa_cons (tD_of (ha.pe X C sc x L h3)) (pa_cons (tD_of (hb.pe X C sc y L h4)) pz (star_of h4 [z] X.env)) (star_of h3 [y, z] X.env)) (star_of h3 _ X.env) (by rw [star_of h4, star_of okz]; rfl)) fun σ H R ⟨M, ρ, r, q⟩ => ?_
  refine ⟨M, ρ, r, (After.bind q).mono fun M1 H1 d ρ1 s1 r1 hs1 h1 v hv => ⟨M1, ρ1, r1, (After.bind h1).mono fun M2 H2 e ρ2 s2 r2 hs2 h2 u hu => ?_⟩⟩
  have hv' := hv.step r1.owl s2
  refine ⟨M2, ρ2, r2, ?_⟩
  show After C σ M2 H2 ρ2 (Res.ok (PyData.int (-1), ρ2)) _
  intro M3 H3 s3 r3 hs3 w hw
  have hw : w = .int (-1) := by cases hw; rfl
  subst hw
  cases d with
  | int i =>
    cases e with
    | int j =>
      cases hv'
      cases hu
      have h2 : After C σ M2 H2 ρ2 (if (small62 i && small62 j && decide (i - j ≤ sizeLine)) = true then .ok (downD i j, ρ2) else .stuck) _ := h2
      split at h2
      · rename_i hz
        simp only [Bool.and_eq_true] at hz
        have z1 := small62_of hz.1.1
        have z2 := small62_of hz.1.2
        have hj := of_decide_eq_true hz.2
        exact ⟨i, j, -1, (i - j).toNat, rfl, RgC.neg z1.1 z1.2 z2.1 z2.2, h2 M3 H3 s3 r3 hs3 _ itr_down (by unfold downD; simp; omega)⟩
      · exact h2.elim
    | _ => exact h2.elim
  | _ => cases e <;> exact h2.elim
theorem dat_items {v : V} {d : D} {ds : List D} (h : Dat K M H v d) (e : items d = some ds) : (∃ a vs, v = .ref a ∧ d = .list ds ∧ Rd H a (.lst vs) ∧ ¬ M a ∧ DatA K M H vs ds) ∨ ∃ a vs, v = .ref a ∧ d = .tuple ds ∧ SqT K H a vs ∧ DatA K M H vs ds := by
  cases h with
  | lst r n q => cases e; exact .inl ⟨_, _, rfl, rfl, r, n, q⟩
  | tup r q => cases e; exact .inr ⟨_, _, rfl, rfl, r, q⟩
  | _ => cases e
theorem tuple_of {e : Expr} (h : isTuple e = true) : ∃ es k p, e = .Tuple es k p := by
  cases e with
  | Tuple es k p => exact ⟨es, k, p, rfl⟩
  | _ => exact nomatch h
theorem sqt_len {a : Addr} {xs : List V} (hz : HZ H) (h : SqT K H a xs) : xs.length ≤ sizeLine := by
  rcases h with h | ⟨o, its, n, _, _, _, h1, h2⟩
  · exact hz a xs (.inr h)
  · rw [Paired.length h2]
    simpa using h1
theorem sit_enum {e : E} (h : SE Γ cl e) : SIt Γ cl (.enum e) := by
  refine ⟨fun X C sc tg iter L ok => ?_⟩
  have inv : isTuple tg = true ∧ ∃ f p x pos, iter = .Call (.Name f p) [x] [] pos ∧ (decide (f = "enumerate") && glC sc f && okE Γ e sc x) = true := by
    cases hb : isTuple tg with
    | false => rw [hb] at ok; unfold okIt at ok; split at ok <;> contradiction
    | true =>
      rw [hb] at ok
      refine ⟨rfl, ?_⟩
      unfold okIt at ok
      split at ok <;> first | contradiction | skip
      all_goals first | (rename_i heq _ _; cases heq; exact ⟨_, _, _, _, rfl, ok⟩) | (rename_i heq _; cases heq; exact ⟨_, _, _, _, rfl, ok⟩) | (rename_i heq; cases heq; exact ⟨_, _, _, _, rfl, ok⟩) | skip
  obtain ⟨ht, f, p, x, pos, rfl, ok'⟩ := inv
  obtain ⟨es, k, tp, rfl⟩ := tuple_of ht
  simp only [Bool.and_eq_true, decide_eq_true_eq] at ok'
  obtain ⟨⟨rfl, h2⟩, h3⟩ := ok'
  refine PI_hz (EVI.pi_enumA (glC_of L h2) (L.bi _ (by decide)) (pa_one L h h3) (star_of h3 [] X.env)) fun σ H R ⟨M, ρ, r, q⟩ => ?_
  refine ⟨M, ρ, r, (After.bind q).mono fun M1 H1 d ρ1 s1 r1 hs1 h1 v hv => ?_⟩
  obtain ⟨ds, e1, h1⟩ := h1.of
  rw [L.K]
  rcases dat_items hv e1 with ⟨a, vs, rfl, _, q1, q2, q3⟩ | ⟨a, vs, rfl, _, q1, q3⟩
  · exact ⟨a, vs, rfl, .inl ⟨.inl q1, fun hz => h1.now r1 _ (itr_enum q1 q2 q3) (by have := hz a vs (.inl q1); rw [q3.length] at this; simpa [enumD] using this)⟩⟩
  · exact ⟨a, vs, rfl, .inr ⟨q1, fun hz => h1.now r1 _ (itr_enumT q1 q3) (by have := sqt_len hz q1; rw [q3.length] at this; simpa [enumD] using this)⟩⟩
theorem sit_zip {a b : E} (ha : SE Γ cl a) (hb : SE Γ cl b) : SIt Γ cl (.zip a b) := by
  refine ⟨fun X C sc tg iter L ok => ?_⟩
  have inv : isTuple tg = true ∧ ∃ f p x y pos, iter = .Call (.Name f p) [x, y] [] pos ∧ (decide (f = "zip") && glC sc f && okE Γ a sc x && okE Γ b sc y) = true := by
    cases hb : isTuple tg with
    | false => rw [hb] at ok; unfold okIt at ok; split at ok <;> contradiction
    | true =>
      rw [hb] at ok
      refine ⟨rfl, ?_⟩
      unfold okIt at ok
      split at ok <;> first | contradiction | skip
      all_goals first | (rename_i heq _ _; cases heq; exact ⟨_, _, _, _, _, rfl, ok⟩) | (rename_i heq _; cases heq; exact ⟨_, _, _, _, _, rfl, ok⟩) | (rename_i heq; cases heq; exact ⟨_, _, _, _, _, rfl, ok⟩) | skip
  obtain ⟨ht, f, p, x, y, pos, rfl, ok'⟩ := inv
  obtain ⟨es, k, tp, rfl⟩ := tuple_of ht
  simp only [Bool.and_eq_true, decide_eq_true_eq] at ok'
  obtain ⟨⟨⟨rfl, h2⟩, h3⟩, h4⟩ := ok'
  refine PI_hz (RZ.pi_zipA (glC_of L h2) (L.bi _ (by decide)) (pa_two L ha hb h3 h4) (star_of h3 _ _) (by rw [star_of h4]; rfl)) fun σ H R ⟨M, ρ, r, q⟩ => ?_
  refine ⟨M, ρ, r, (After.bind q).mono fun M1 H1 d ρ1 s1 r1 hs1 h1 v hv => ⟨M1, ρ1, r1, (After.bind h1).mono fun M2 H2 e ρ2 s2 r2 hs2 h2 u hu => ?_⟩⟩
  have hv' := hv.step r1.owl s2
  rw [L.K]
  cases hv' with
  | lst q1 q2 q3 =>
    cases hu with
    | lst p1 p2 p3 => exact ⟨_, _, _, _, rfl, .inl ⟨.inl q1, .inl p1, fun hz => After.now (a := zipD _ _) r2 h2 _ (itr_zip q1 q2 q3 p1 p2 p3) (by have := hz _ _ (.inl q1); rw [q3.length] at this; simp [zipD]; omega)⟩⟩
    | _ => exact h2.elim
  | tup q1 q3 =>
    cases hu with
    | tup p1 p3 => exact ⟨_, _, _, _, rfl, .inr ⟨q1, p1, fun hz => After.now (a := zipD _ _) r2 h2 _ (itr_zipT q1 q3 p1 p3) (by have := sqt_len hz q1; rw [q3.length] at this; simp [zipD]; omega)⟩⟩
    | _ => exact h2.elim
  | _ => cases e <;> exact h2.elim
theorem folded {it : It} {iter : Expr} {b : Bool} (h : okIt Γ it sc iter b = true) (env : Env) (x : Value) : foldedSetIterable iter env x = pure x := by
  cases iter with
  | Set es k p =>
    cases it with
    | seq e => cases e with
      | op1 o a => cases o <;> exact nomatch h
      | _ => exact nomatch h
    | _ => exact nomatch h
  | _ => rfl
/-! ### a comprehension's own names -/
theorem wipeR_len (is : List Nat) : (wipeR ρ is).length = ρ.length := by
  unfold wipeR
  induction is with
  | nil => rfl
  | cons i is ih => simp [List.foldr_cons, ih]
theorem wipeR_get (is : List Nat) (j : Nat) : (wipeR ρ is)[j]? = if j ∈ is then (ρ[j]?).map (fun _ => none) else ρ[j]? := by
  unfold wipeR
  induction is with
  | nil => simp
  | cons i is ih =>
    rw [List.foldr_cons]
    by_cases e : i = j
    · subst e
      rw [if_pos List.mem_cons_self]
      by_cases hl : i < (List.foldr (fun i r => r.set i none) ρ is).length
      · rw [List.getElem?_set_self hl]
        have hl' : i < ρ.length := by
          have := wipeR_len (ρ := ρ) is
          unfold wipeR at this
          omega
        rw [List.getElem?_eq_getElem hl']
        rfl
      · have hl' : ¬ i < ρ.length := by
          have := wipeR_len (ρ := ρ) is
          unfold wipeR at this
          omega
        rw [List.getElem?_eq_none (by simpa using hl), List.getElem?_eq_none (by omega)]
        rfl
    · rw [List.getElem?_set_ne e, ih]
      have e2 : (j ∈ i :: is) ↔ j ∈ is := by
        constructor
        · intro z
          rcases List.mem_cons.mp z with z | z
          · exact absurd z.symm e
          · exact z
        · exact List.mem_cons_of_mem _
      by_cases hj : j ∈ is
      · rw [if_pos hj, if_pos (e2.mpr hj)]
      · rw [if_neg hj, if_neg (fun z => hj (e2.mp z))]
theorem wipe_get (is : List Nat) (j : Nat) : (wipe σ is)[j]? = if j ∈ is then (σ[j]?).map (fun _ => none) else σ[j]? := by
  induction is with
  | nil => simp [wipe]
  | cons i is ih =>
    unfold wipe
    by_cases e : i = j
    · subst e
      rw [if_pos List.mem_cons_self]
      by_cases hl : i < (wipe σ is).length
      · rw [List.getElem?_set_self hl]
        rw [wipe_length] at hl
        rw [List.getElem?_eq_getElem hl]
        rfl
      · rw [List.getElem?_eq_none (by simpa using hl)]
        rw [wipe_length] at hl
        rw [List.getElem?_eq_none (by omega)]
        rfl
    · rw [List.getElem?_set_ne e, ih]
      have e2 : (j ∈ i :: is) ↔ j ∈ is := by
        constructor
        · intro z
          rcases List.mem_cons.mp z with z | z
          · exact absurd z.symm e
          · exact z
        · exact List.mem_cons_of_mem _
      by_cases hj : j ∈ is
      · rw [if_pos hj, if_pos (e2.mpr hj)]
      · rw [if_neg hj, if_neg (fun z => hj (e2.mp z))]
theorem wipeR_some {is : List Nat} {j : Nat} {s : Sv} (h : (wipeR ρ is)[j]? = some (some s)) : j ∉ is ∧ ρ[j]? = some (some s) := by
  rw [wipeR_get] at h
  split at h
  · cases q : ρ[j]? <;> rw [q] at h <;> cases h
  · exact ⟨by assumption, h⟩
/-- the slots within a comprehension -/
theorem Rep.wipe (is : List Nat) (r : Rep K M0 M ρ σ H) : Rep K M0 M (wipeR ρ is) (L2.wipe σ is) H ∧ ∀ a, Ow (wipeR ρ is) (L2.wipe σ is) a → Ow ρ σ a := by
  have sg : ∀ {j : Nat}, j ∉ is → (L2.wipe σ is)[j]? = σ[j]? := fun {j} hj => by rw [wipe_get, if_neg hj]
  refine ⟨⟨by rw [wipeR_len, wipe_length]; exact r.len, r.dom, r.sub, fun j d e => ?_, fun j s xs e l => ?_, fun j xs a e q => ?_, fun j xs a e q => ?_, fun i j a s t xs ys e1 e2 l1 l2 q1 q2 => ?_⟩, fun a ⟨j, s, xs, e, l, q⟩ => ?_⟩
  · obtain ⟨hj, e⟩ := wipeR_some e
    rw [sg hj]
    exact r.dat j d e
  · obtain ⟨hj, e⟩ := wipeR_some e
    rw [sg hj]
    exact r.lst j s xs e l
  · obtain ⟨hj, e⟩ := wipeR_some e
    rw [sg hj] at q
    exact r.own j xs a e q
  · obtain ⟨hj, e⟩ := wipeR_some e
    rw [sg hj] at q
    exact r.io j xs a e q
  · obtain ⟨hi, e1⟩ := wipeR_some e1
    obtain ⟨hj, e2⟩ := wipeR_some e2
    rw [sg hi] at q1
    rw [sg hj] at q2
    exact r.inj i j a s t xs ys e1 e2 l1 l2 q1 q2
  · obtain ⟨hj, e⟩ := wipeR_some e
    rw [sg hj] at q
    exact ⟨j, s, xs, e, l, q⟩
theorem backR_len {ρ0 : Ro} (is : List Nat) : (backR ρ0 ρ is).length = ρ.length := by
  unfold backR
  induction is with
  | nil => rfl
  | cons i is ih => simp [List.foldr_cons, ih]
theorem backR_get {ρ0 : Ro} (is : List Nat) (j : Nat) : (backR ρ0 ρ is)[j]? = if j ∈ is then (ρ[j]?).map (fun _ => (ρ0[j]?).join) else ρ[j]? := by
  unfold backR
  induction is with
  | nil => simp
  | cons i is ih =>
    rw [List.foldr_cons]
    by_cases e : i = j
    · subst e
      rw [if_pos List.mem_cons_self]
      by_cases hl : i < (List.foldr (fun i r => r.set i ((ρ0[i]?).join)) ρ is).length
      · rw [List.getElem?_set_self hl]
        have hl' : i < ρ.length := by
          have := backR_len (ρ := ρ) (ρ0 := ρ0) is
          unfold backR at this
          omega
        rw [List.getElem?_eq_getElem hl']
        rfl
      · have hl' : ¬ i < ρ.length := by
          have := backR_len (ρ := ρ) (ρ0 := ρ0) is
          unfold backR at this
          omega
        rw [List.getElem?_eq_none (by simpa using hl), List.getElem?_eq_none (l := ρ) (by omega)]
        rfl
    · rw [List.getElem?_set_ne e, ih]
      have e2 : (j ∈ i :: is) ↔ j ∈ is := by
        constructor
        · intro z
          rcases List.mem_cons.mp z with z | z
          · exact absurd z.symm e
          · exact z
        · exact List.mem_cons_of_mem _
      by_cases hj : j ∈ is
      · rw [if_pos hj, if_pos (e2.mpr hj)]
      · rw [if_neg hj, if_neg (fun z => hj (e2.mp z))]
/-- out of it: the own names are as they were, the others as they are -/
theorem Rep.back {is : List Nat} (r1 : Rep K M0 M1 ρ1 σ H1) (s : Stp (Ow (wipeR ρ1 is) (L2.wipe σ is)) M1 H1 M H) (hs : ∀ a, Ow ρ (L2.wipe σ is) a → Ow (wipeR ρ1 is) (L2.wipe σ is) a) (r : Rep K M0 M ρ (L2.wipe σ is) H) :
    Rep K M0 M (backR ρ1 ρ is) σ H ∧ ∀ a, Ow (backR ρ1 ρ is) σ a → Ow ρ1 σ a := by
  have sg : ∀ {j : Nat}, j ∉ is → (L2.wipe σ is)[j]? = σ[j]? := fun {j} hj => by rw [wipe_get, if_neg hj]
  obtain ⟨rw1, sw1⟩ := r1.wipe is
  have from' : ∀ {j : Nat} {x : Sv}, (backR ρ1 ρ is)[j]? = some (some x) → (j ∈ is ∧ ρ1[j]? = some (some x)) ∨ (j ∉ is ∧ ρ[j]? = some (some x)) := by
    intro j x h
    rw [backR_get] at h
    split at h
    · rename_i hj
      refine .inl ⟨hj, ?_⟩
      cases q : ρ[j]? with
      | none => rw [q] at h; cases h
      | some y =>
        rw [q] at h
        simp only [Option.map_some, Option.some.injEq] at h
        cases q2 : ρ1[j]? with
        | none => rw [q2] at h; cases h
        | some z => rw [q2] at h; simp only [Option.join_some] at h; rw [h]
    · rename_i hj
      exact .inr ⟨hj, h⟩
  -- a list hidden within is not touched
  have hidden : ∀ {j : Nat} {x : Sv} {xs : List D} {a : Addr}, j ∈ is → ρ1[j]? = some (some x) → x.lst? = some xs → σ[j]? = some (some (V.ref a)) → ¬ Ow (wipeR ρ1 is) (L2.wipe σ is) a := by
    rintro j x xs a hj e l q ⟨i, t, ys, e', l', q'⟩
    obtain ⟨hi, e'⟩ := wipeR_some e'
    rw [sg hi] at q'
    have := r1.inj i j a t x ys xs e' e l' l q' q
    subst this
    exact hi hj
  refine ⟨⟨by rw [backR_len, r.len, wipe_length], r.dom, r.sub, fun j d e => ?_, fun j x xs e l => ?_, fun j xs a e q => ?_, fun j xs a e q => ?_, fun i j a x t xs ys e1 e2 l1 l2 q1 q2 => ?_⟩, fun a ⟨j, x, xs, e, l, q⟩ => ?_⟩
  · rcases from' e with ⟨hj, e⟩ | ⟨hj, e⟩
    · obtain ⟨v, h1, h2⟩ := r1.dat j d e
      exact ⟨v, h1, h2.step rw1.owl s⟩
    · rw [← sg hj]
      exact r.dat j d e
  · rcases from' e with ⟨hj, e⟩ | ⟨hj, e⟩
    · obtain ⟨a, vs, h1, h2, h3, h4⟩ := r1.lst j x xs e l
      have nh := hidden hj e l h1
      exact ⟨a, vs, h1, s.keep a _ h2 nh, h3.step rw1.owl s, s.old a h4 nh⟩
    · rw [← sg hj]
      exact r.lst j x xs e l
  · rcases from' e with ⟨hj, e⟩ | ⟨hj, e⟩
    · exact r1.own j xs a e q
    · rw [← sg hj] at q
      exact r.own j xs a e q
  · rcases from' e with ⟨hj, e⟩ | ⟨hj, e⟩
    · exact r1.io j xs a e q
    · rw [← sg hj] at q
      exact r.io j xs a e q
  · rcases from' e1 with ⟨hi, e1⟩ | ⟨hi, e1⟩
    · rcases from' e2 with ⟨hj, e2⟩ | ⟨hj, e2⟩
      · exact r1.inj i j a x t xs ys e1 e2 l1 l2 q1 q2
      · rw [← sg hj] at q2
        exact (hidden hi e1 l1 q1 (hs a ⟨j, t, ys, e2, l2, q2⟩)).elim
    · rcases from' e2 with ⟨hj, e2⟩ | ⟨hj, e2⟩
      · rw [← sg hi] at q1
        exact (hidden hj e2 l2 q2 (hs a ⟨i, x, xs, e1, l1, q1⟩)).elim
      · rw [← sg hi] at q1
        rw [← sg hj] at q2
        exact r.inj i j a x t xs ys e1 e2 l1 l2 q1 q2
  · rcases from' e with ⟨hj, e⟩ | ⟨hj, e⟩
    · exact ⟨j, x, xs, e, l, q⟩
    · rw [← sg hj] at q
      exact sw1 a (hs a ⟨j, x, xs, e, l, q⟩)
/-! ### targets -/
theorem setD_some {i : Nat} {w : W} (h : setD ρ i w = some ρ') : i < ρ.length ∧ (∀ xs, ρ[i]? ≠ some (some (.io xs))) ∧ ρ' = ρ.set i (some w.sv) := by
  unfold setD at h
  split at h
  · cases h
  · rename_i s hn e
    refine ⟨?_, fun xs z => ?_, (Option.some.inj h).symm⟩
    · exact (List.getElem?_eq_some_iff.mp e).1
    · rw [e] at z
      cases z
      exact hn xs rfl
  · cases h
theorem st_set {i j : Nat} {x : Option V} {v : Option V} (h : (σ.set i x)[j]? = some v) : (j = i ∧ v = x) ∨ (j ≠ i ∧ σ[j]? = some v) := by
  by_cases e : i = j
  · subst e
    by_cases hl : i < σ.length
    · rw [List.getElem?_set_self hl] at h; cases h; exact .inl ⟨rfl, rfl⟩
    · rw [List.getElem?_eq_none (by simpa using hl)] at h; cases h
  · rw [List.getElem?_set_ne e] at h
    exact .inr ⟨fun z => e z.symm, h⟩
/-- data stored in a slot -/
theorem Rep.setDat {i : Nat} {v : V} {d : D} (r : Rep K M0 M ρ σ H) (hv : Dat K M H v d) (h : setD ρ i (.dat d) = some ρ') : Rep K M0 M ρ' (σ.set i (some v)) H ∧ ∀ a, Ow ρ' (σ.set i (some v)) a → Ow ρ σ a := by
  obtain ⟨hl, hio, rfl⟩ := setD_some h
  have hlσ : i < σ.length := by rw [← r.len]; exact hl
  have ne : ∀ {j : Nat}, j ≠ i → (σ.set i (some v))[j]? = σ[j]? := fun hj => List.getElem?_set_ne (Ne.symm hj)
  refine ⟨⟨by simpa using r.len, r.dom, r.sub, fun j d' e => ?_, fun j s xs e l => ?_, fun j xs a e q => ?_, fun j xs a e q => ?_, fun j k a s t xs ys e1 e2 l1 l2 q1 q2 => ?_⟩, fun a ⟨j, s, xs, e, l, q⟩ => ?_⟩
  · rcases set_get e with ⟨rfl, e'⟩ | ⟨hj, e⟩
    · cases e'; exact ⟨v, List.getElem?_set_self hlσ, hv⟩
    · rw [ne hj]; exact r.dat j d' e
  · rcases set_get e with ⟨rfl, e'⟩ | ⟨hj, e⟩
    · cases e'; cases l
    · rw [ne hj]; exact r.lst j s xs e l
  · rcases set_get e with ⟨rfl, e'⟩ | ⟨hj, e⟩
    · cases e'
    · rw [ne hj] at q; exact r.own j xs a e q
  · rcases set_get e with ⟨rfl, e'⟩ | ⟨hj, e⟩
    · cases e'
    · rw [ne hj] at q; exact r.io j xs a e q
  · rcases set_get e1 with ⟨rfl, e'⟩ | ⟨hj, e1⟩
    · cases e'; cases l1
    · rcases set_get e2 with ⟨rfl, e'⟩ | ⟨hk, e2⟩
      · cases e'; cases l2
      · rw [ne hj] at q1; rw [ne hk] at q2
        exact r.inj j k a s t xs ys e1 e2 l1 l2 q1 q2
  · rcases set_get e with ⟨rfl, e'⟩ | ⟨hj, e⟩
    · cases e'; cases l
    · rw [ne hj] at q; exact ⟨j, s, xs, e, l, q⟩
theorem wipe_set {is : List Nat} {i : Nat} (h : i ∈ is) (x : Option V) : L2.wipe (σ.set i x) is = L2.wipe σ is := by
  apply List.ext_getElem?
  intro j
  rw [wipe_get, wipe_get]
  split
  · by_cases e : i = j
    · subst e
      by_cases hl : i < σ.length
      · rw [List.getElem?_set_self hl, List.getElem?_eq_getElem hl]; rfl
      · rw [List.getElem?_eq_none (by simpa using hl), List.getElem?_eq_none (l := σ) (by omega)]
    · rw [List.getElem?_set_ne e]
  · rename_i hj
    rw [List.getElem?_set_ne (fun (e : i = j) => hj (e ▸ h))]
/-- a target's reading -/
def gTg (K : PySem.W.Frag) : Tg → TG
  | .one i => gName i
  | .many is => gTup K is.length (is.foldr (fun i u => gCons (gName i) u) gNil)
theorem gTg_many {is : List Nat} {vs : List V} {ds : List D} {all : List Nat} {Q : St → Hp → Prop} (r : Rep K M0 M ρ σ H) (hd : DatA K M H vs ds) (h : setDs ρ is ds = some ρ') (hall : ∀ i ∈ is, i ∈ all)
    (hQ : ∀ σ', Rep K M0 M ρ' σ' H → (∀ a, Ow ρ' σ' a → Ow ρ σ a) → L2.wipe σ' all = L2.wipe σ all → Q σ' H) : (is.foldr (fun i u => gCons (gName i) u) gNil) vs σ H Q := by
  induction is generalizing vs ds ρ σ with
  | nil =>
    cases ds with
    | nil => cases hd; cases h; exact ⟨rfl, hQ σ r (fun _ z => z) rfl⟩
    | cons _ _ => cases h
  | cons i is ih =>
    cases ds with
    | nil => cases h
    | cons d ds =>
      cases hd with
      | @cons v vs _ _ h1 h2 =>
        simp only [setDs, Option.bind_eq_some_iff] at h
        obtain ⟨ρ1, e1, e2⟩ := h
        obtain ⟨r1, s1⟩ := r.setDat h1 e1
        refine ⟨v, vs, rfl, ?_⟩
        refine ih r1 h2 e2 (fun j hj => hall j (List.mem_cons_of_mem _ hj)) fun σ' r' s' w' => hQ σ' r' (fun a z => s1 a (s' a z)) ?_
        rw [w', wipe_set (hall i List.mem_cons_self)]
theorem setDs_len : ∀ {is : List Nat} {ds : List D} {ρ ρ' : Ro}, setDs ρ is ds = some ρ' → is.length = ds.length
  | [], [], _, _, _ => rfl
  | [], _ :: _, _, _, h => by cases h
  | _ :: _, [], _, _, h => by cases h
  | i :: is, d :: ds, ρ, ρ', h => by
    simp only [setDs, Option.bind_eq_some_iff] at h
    obtain ⟨ρ1, e1, e2⟩ := h
    simp [setDs_len e2]
theorem gTg_read {t : Tg} {v : V} {d : D} {Q : St → Hp → Prop} (r : Rep K M0 M ρ σ H) (hd : Dat K M H v d) (h : bindT t d ρ = some ρ') 
    (hQ : ∀ σ', Rep K M0 M ρ' σ' H → (∀ a, Ow ρ' σ' a → Ow ρ σ a) → L2.wipe σ' t.slots = L2.wipe σ t.slots → Q σ' H) : gTg K t v σ H Q := by
  cases t with
  | one i =>
    obtain ⟨r1, s1⟩ := r.setDat hd h
    exact hQ _ r1 s1 (wipe_set (by simp [Tg.slots]) _)
  | many is =>
    cases d with
    | tuple ds =>
      cases hd with
      | tup hr hq => exact ⟨_, _, rfl, hr, by rw [hq.length, ← setDs_len h], gTg_many r hq h (fun i hi => hi) hQ⟩
    | _ => cases h
end EV

end
section
set_option linter.all false
set_option maxRecDepth 100000
set_option Elab.async false
namespace EV
open PySem L2 PyProof.Rows
variable {Γ : Gam} {cl : Nat → List D → FRes} {X : Cx} {C : Ctx} {sc : Scope} {K : PySem.W.Frag} {M M' M0 M1 : AS} {H H' H1 : Hp} {σ : EV.St} {ρ ρ' ρ1 : Ro}
/-! ### list comprehensions -/
/-- the wish within a comprehension -/
def Ctx.calm (C : Ctx) : Ctx := { C with Wx := fun _ _ _ _ => False }
theorem takes_no {X : Cx} : Takes X (fun _ _ _ _ => False) := fun _ _ ⟨_, _, _, _, _, _, _, _, _, _, _, _, _, _, _, _, w⟩ => w.elim
theorem Lk.blk (L : Lk Γ cl X C sc) {scope : Scope} (hk : scope.kind = .function) (s : Shared) (H : Hp) (Cc : Addr) (cls : List (Str × Addr)) (fp : List Addr) : Lk Γ cl (X.blk s H scope (compEnvC scope cls Cc X.env) fp) C.calm (relS scope sc) where
  K := L.K
  N := L.N
  nd := L.nd
  calm := L.calm
  scope := by
    show relS scope X.env.scope = relS scope sc
    rw [L.scope]
  kind := hk
  room := L.room
  takes := takes_no
  bi := L.bi
  call := L.call
  glo := L.glo
theorem blk_kind {N : List Str} {scope : Scope} {own : List (Str × Nat)} (h : blkC N sc scope own = true) : scope.kind = .function := (blkOk_by h).kind
theorem own_snd (N : List Str) (is : List Nat) : (ownOf N is).map (·.2) = is := by
  unfold ownOf
  rw [List.map_map]
  exact List.map_id _
theorem relS_at {scope : Scope} {x : Str} {k : NameKind} (hk : k ≠ .free) (h : scope.names.lookup x = some k) : (relS scope sc).names.lookup x = some k := lookup_relS_keep hk h
theorem locC_of {scope : Scope} {x : Str} (h : locC scope x = true) : scope.names.lookup x = some .local ∨ scope.names.lookup x = some .cell := by
  unfold locC at h
  split at h
  · exact .inl (by assumption)
  · exact .inr (by assumption)
  · cases h
theorem pg_own (L : Lk Γ cl X C sc) {scope : Scope} (hk : scope.kind = .function) {i : Nat} {e : Expr} (h : nameC Γ.N scope i e = true) (s : Shared) (H : Hp) (Cc : Addr) (cls : List (Str × Addr)) (fp : List Addr) :
    PG (X.blk s H scope (compEnvC scope cls Cc X.env) fp) e (gName i) := by
  cases e with
  | Name x p =>
    have h : (decide (Γ.N[i]? = some x) && locC scope x) = true := h
    simp only [Bool.and_eq_true, decide_eq_true_eq] at h
    have LB := L.blk hk s H Cc cls fp
    refine pg_name (by rw [LB.N]; exact LB.nd) (by rw [LB.N]; exact h.1) ?_ ?_
    · rw [LB.scope]
      exact (locC_of h.2).imp (relS_at (by decide)) (relS_at (by decide))
    · rcases locC_of h.2 with q | q
      · right
        rw [LB.scope]
        exact relS_at (by decide) q
      · left
        show (scope.names.lookup x == some .cell) = true
        rw [q]; rfl
  | _ => exact nomatch h
theorem pgs_own (L : Lk Γ cl X C sc) {scope : Scope} (hk : scope.kind = .function) (s : Shared) (H : Hp) (Cc : Addr) (cls : List (Str × Addr)) (fp : List Addr) : ∀ (is : List Nat) (es : List Expr), namesC Γ.N scope is es = true →
    PGs (X.blk s H scope (compEnvC scope cls Cc X.env) fp) es (is.foldr (fun i u => gCons (gName i) u) gNil) ∧ (assignEach es (compEnvC scope cls Cc X.env)).length = is.length ∧ (assignEach es (compEnvC scope cls Cc X.env)).findIdx? (·.1) = none
  | [], [], _ => ⟨pgs_nil, rfl, rfl⟩
  | [], _ :: _, h => nomatch h
  | _ :: _, [], h => nomatch h
  | i :: is, e :: es, h => by
    have h : (nameC Γ.N scope i e && namesC Γ.N scope is es) = true := h
    rw [Bool.and_eq_true] at h
    obtain ⟨g1, g2, g3⟩ := pgs_own L hk s H Cc cls fp is es h.2
    cases e with
    | Name x p =>
      refine ⟨pgs_cons (pg_own L hk h.1 s H Cc cls fp) g1 rfl, ?_, ?_⟩
      · show (assignEach (Expr.Name x p :: es) _).length = _
        rw [show assignEach (Expr.Name x p :: es) (compEnvC scope cls Cc X.env) = (false, assign (Expr.Name x p) (compEnvC scope cls Cc X.env)) :: assignEach es (compEnvC scope cls Cc X.env) from rfl]
        simp [g2]
      · rw [show assignEach (Expr.Name x p :: es) (compEnvC scope cls Cc X.env) = (false, assign (Expr.Name x p) (compEnvC scope cls Cc X.env)) :: assignEach es (compEnvC scope cls Cc X.env) from rfl]
        rw [List.findIdx?_cons]
        simp [g3]
    | _ => exact nomatch h.1
theorem pg_tg (L : Lk Γ cl X C sc) {scope : Scope} (hk : scope.kind = .function) {t : Tg} {e : Expr} (h : tgC Γ.N scope t e = true) (s : Shared) (H : Hp) (Cc : Addr) (cls : List (Str × Addr)) (fp : List Addr) :
    PG (X.blk s H scope (compEnvC scope cls Cc X.env) fp) e (gTg C.K t) := by
  cases t with
  | one i => exact pg_own L hk h s H Cc cls fp
  | many is =>
    cases e with
    | Tuple es k p =>
      obtain ⟨g1, g2, g3⟩ := pgs_own L hk s H Cc cls fp is es h
      rw [← L.K]
      exact pg_tup (X := X.blk s H scope (compEnvC scope cls Cc X.env) fp) L.calm g1 g2 g3
    | _ => exact nomatch h
/-- a result that is known -/
theorem After.ok {α : Type} {q : Res (α × Ro)} {a : α} {k : AS → Hp → α → Ro → Prop} (e : q = .ok (a, ρ'))
    (f : ∀ M' H', Stp (Ow ρ σ) M H M' H' → Rep C.K C.M0 M' ρ' σ H' → (∀ a, Ow ρ' σ a → Ow ρ σ a) → k M' H' a ρ') : After C σ M H ρ q k := by
  rw [e]; exact f
/-- a list of one's own that is no slot's is changed -/
theorem Rep.touch {p : Addr} {us vs : List V} (r : Rep K M0 M ρ σ H) (hp : H p = some (.lst us)) (hm : M p) (hn : ¬ Ow ρ σ p) : Rep K M0 M ρ σ (upd H p (.lst vs)) ∧ Stp (fun a => a = p) M H M (upd H p (.lst vs)) ∧ OwL (fun a => a = p) M H := by
  have s : Stp (fun a => a = p) M H M (upd H p (.lst vs)) := by
    refine ⟨fun a o e n => by rw [upd_ne n]; exact e, fun a z => .inl z, fun a z _ => z, fun a o e => ?_⟩
    by_cases q : a = p
    · subst q; exact ⟨_, upd_same⟩
    · exact ⟨o, by rw [upd_ne q]; exact e⟩
  have w : OwL (fun a => a = p) M H := ⟨fun a z => z ▸ hm, fun a z => ⟨us, z ▸ hp⟩⟩
  refine ⟨⟨r.len, fun a z => ?_, r.sub, fun j d e => ?_, fun j t xs e l => ?_, r.own, r.io, r.inj⟩, s, w⟩
  · obtain ⟨o, e⟩ := r.dom a z
    exact s.there a o e
  · obtain ⟨v, h1, h2⟩ := r.dat j d e
    exact ⟨v, h1, h2.step w s⟩
  · obtain ⟨a, ws, h1, h2, h3, h4⟩ := r.lst j t xs e l
    have ne : a ≠ p := fun z => hn (by rw [← z]; exact ⟨j, t, xs, e, l, h1⟩)
    exact ⟨a, ws, h1, by rw [upd_ne ne]; exact h2, h3.step w s, h4⟩
/-- the slots of the block's own names forgotten again -/
theorem Rep.rewipe {is : List Nat} {σ' : EV.St} (r : Rep K M0 M ρ σ' H) (hw : L2.wipe σ' is = L2.wipe σ is) : Rep K M0 M (wipeR ρ is) (L2.wipe σ is) H ∧ ∀ a, Ow (wipeR ρ is) (L2.wipe σ is) a → Ow ρ σ' a := by
  rw [← hw]
  exact r.wipe is
theorem bind_not_stuck {α β : Type} {r : Res α} {f : α → Res β} (h : r.bind f ≠ .stuck) (h' : ∀ x ρ, r ≠ .exc x ρ) : ∃ a, r = .ok a ∧ f a ≠ .stuck := by
  cases r with
  | ok a => exact ⟨a, rfl, h⟩
  | exc x ρ => exact absurd rfl (h' x ρ)
  | stuck => exact absurd rfl h
theorem noExc_ne {α : Type} (r : Res α) (x : Exn) (ρ : Ro) : noExc r ≠ .exc x ρ := by cases r <;> exact fun z => nomatch z
theorem noExc_ok {α : Type} {r : Res α} {a : α} (h : noExc r = .ok a) : r = .ok a := by cases r <;> first | exact h | cases h
theorem of_ne {α : Type} (o : Option α) (x : Exn) (ρ : Ro) : Res.of o ≠ .exc x ρ := by cases o <;> exact fun z => nomatch z
theorem of_ok {α : Type} {o : Option α} {a : α} (h : Res.of o = .ok a) : o = some a := by cases o <;> cases h; rfl
theorem compL_noexc {bnd : D → Ro → Option Ro} {test : Ro → Res (Bool × Ro)} {elt : Ro → Res (D × Ro)} {is : List Nat} : ∀ (xs : List D) (ρ : Ro) (acc : List D) (x : Exn) (ρ' : Ro), compL bnd test elt is xs ρ acc ≠ .exc x ρ'
  | [], _, _, _, _ => fun z => nomatch z
  | d :: xs, ρ, acc, x, ρ' => by
    intro h
    unfold compL at h
    cases e1 : bnd d ρ with
    | none => rw [e1] at h; cases h
    | some ρ1 =>
      rw [e1] at h
      simp only [Res.of, Res.bind] at h
      split at h
      · split at h
        · split at h
          · exact compL_noexc xs _ _ x ρ' h
          · rename_i q; exact noExc_ne _ _ _ q
          · cases h
        · exact compL_noexc xs _ _ x ρ' h
      · rename_i q; exact noExc_ne _ _ _ q
      · cases h
theorem wipe_wipe {is : List Nat} : L2.wipe (L2.wipe σ is) is = L2.wipe σ is := by
  apply List.ext_getElem?
  intro j
  rw [wipe_get, wipe_get]
  split
  · cases σ[j]? <;> rfl
  · rfl
/-- the turns of a comprehension -/
theorem comp_turns {t : Tg} {J : L2.It} {items : List D} {test : Ro → Res (Bool × Ro)} {elt : Ro → Res (D × Ro)} {Dd : Addr} {Qd : Hp → Prop}
    (r1 : Rep C.K C.M0 M1 ρ1 σ H1) (hJ : ItR C.K M1 H1 J items) (hD : H1 Dd = none) (hz : items.length ≤ sizeLine)
    (hne : compL (bindT t) test elt t.slots items (wipeR ρ1 t.slots) [] ≠ .stuck)
    (hend : ∀ M H' ρ acc vacc, compL (bindT t) test elt t.slots items (wipeR ρ1 t.slots) [] = .ok (acc, ρ) → Rep C.K C.M0 M ρ (L2.wipe σ t.slots) H' → Stp (Ow (wipeR ρ1 t.slots) (L2.wipe σ t.slots)) M1 H1 M H' → (∀ a, Ow ρ (L2.wipe σ t.slots) a → Ow (wipeR ρ1 t.slots) (L2.wipe σ t.slots) a) →
      H' Dd = some (.lst vacc) → DatA C.K M H' vacc acc → M Dd → Qd H') :
    ∃ W : Nat → Nat → Hp → Prop, (∃ m, W 0 m (upd H1 Dd (.lst []))) ∧ ∀ i m H, W i m H →
      (J.stop i H ∧ Qd H) ∨ (J.go i H ∧ ∃ Nx : Hp → Prop, (∀ H', Nx H' → ∃ m', m' < m ∧ W (i + 1) m' H') ∧ ∀ x H', J.yld i H x H' → gTg C.K t x (L2.wipe σ t.slots) H' fun σ2 H2 => L2.wipe σ2 t.slots = L2.wipe σ t.slots ∧ tT C.calm test σ2 H2 fun b H3 =>
        if b = true then tD C.calm elt σ2 H3 fun y H4 => ∃ acc, H4 Dd = some (.lst acc) ∧ acc.length < sizeLine ∧ Nx (upd H4 Dd (.lst (acc ++ [y]))) else Nx H3) := by
  obtain ⟨n, G, Y, hn, wk, hG, hY⟩ := hJ
  obtain ⟨rb, sb⟩ := r1.wipe t.slots
  obtain ⟨fD1, fD2, fD3⟩ := r1.fresh hD
  have owb := rb.owl
  have nD : ¬ Ow (wipeR ρ1 t.slots) (L2.wipe σ t.slots) Dd := fun z => fD3 (sb Dd z)
  have wv : L2.wipe (L2.wipe σ t.slots) t.slots = L2.wipe σ t.slots := wipe_wipe
  generalize htot : compL (bindT t) test elt t.slots items (wipeR ρ1 t.slots) [] = tot at hne hend
  refine lc_it wk (σ := σ) (vs := t.slots) (fun i H' => ∃ M ρ acc vacc, Rep C.K C.M0 M ρ (L2.wipe σ t.slots) H' ∧ Stp (Ow (wipeR ρ1 t.slots) (L2.wipe σ t.slots)) M1 H1 M H' ∧ (∀ a, Ow ρ (L2.wipe σ t.slots) a → Ow (wipeR ρ1 t.slots) (L2.wipe σ t.slots) a) ∧
    H' Dd = some (.lst vacc) ∧ DatA C.K M H' vacc acc ∧ M Dd ∧ acc.length ≤ i ∧ tot = compL (bindT t) test elt t.slots (items.drop i) ρ acc) ?_ ?_ ?_ ?_
  · exact ⟨fun a => M1 a ∨ a = Dd, wipeR ρ1 t.slots, [], [], rb.step0 (.lnew hD), (Stp0.lnew hD).stp, fun _ z => z, upd_same, .nil, .inr rfl, Nat.le_refl _, by rw [List.drop_zero, htot]⟩
  · rintro i H' hi ⟨M, ρ, acc, vacc, r, s, hs, _⟩
    exact hG _ M H' owb s
  · rintro i x H' H2 hi ⟨M, ρ, acc, vacc, r, s, hs, hDl, hDd, hDm, hlen, htt⟩ hy
    rw [hn] at hi
    obtain ⟨s0, d, hd1, hd2⟩ := hY _ M H' i x H2 owb s hi hy
    have hdrop : items.drop i = d :: items.drop (i + 1) := by
      rw [List.drop_eq_getElem_cons hi]
      rw [List.getElem?_eq_getElem hi] at hd1
      cases hd1
      rfl
    rw [hdrop] at htt
    unfold compL at htt
    rw [htt] at hne
    obtain ⟨ρ2, e2, hne2⟩ := bind_not_stuck hne (of_ne _)
    have r2 := r.step0 s0
    have hlt : acc.length < sizeLine := by omega
    refine gTg_read r2 hd2 (of_ok e2) fun σ3 r3 hs3 hw3 => ⟨hw3.trans wv, ?_⟩
    obtain ⟨⟨b, ρ4⟩, e4, hne4⟩ := bind_not_stuck hne2 (noExc_ne _)
    rw [e2] at htt
    simp only [Res.bind] at htt hne4
    rw [e4] at htt
    simp only at htt
    refine ⟨M, ρ2, r3, After.ok (noExc_ok e4) fun M4 H4 s4 r4 hs4 => ?_⟩
    -- the list so far, behind the test
    have sA : Stp (Ow (wipeR ρ1 t.slots) (L2.wipe σ t.slots)) M1 H1 M4 H4 := (s.trans (fun _ z => z) s0.stp).trans (fun a z => hs a (hs3 a z)) s4
    have nD2 : ¬ Ow ρ2 σ3 Dd := fun z => nD (hs Dd (hs3 Dd z))
    have hD4 : H4 Dd = some (.lst vacc) := s4.keep Dd _ (s0.keep _ _ hDl) nD2
    have hM4 : M4 Dd := s4.old Dd hDm nD2
    have hd4 : DatA C.K M4 H4 vacc acc := (hDd.step0 s0).step r3.owl s4
    cases b with
    | false =>
      show ite (false = true) _ _
      rw [if_neg Bool.false_ne_true]
      rw [if_neg Bool.false_ne_true] at htt
      obtain ⟨r5, s5⟩ := r4.rewipe (hw3.trans wv)
      exact ⟨M4, _, acc, vacc, r5, sA, fun a z => hs a (hs3 a (hs4 a (s5 a z))), hD4, hd4, hM4, by omega, htt⟩
    | true =>
      show ite (true = true) _ _
      rw [if_pos rfl]
      rw [if_pos rfl] at htt hne4
      obtain ⟨⟨dd, ρ5⟩, e5, hne5⟩ := bind_not_stuck hne4 (noExc_ne _)
      rw [e5] at htt
      simp only [Res.bind] at htt
      refine ⟨M4, ρ4, r4, After.ok (noExc_ok e5) fun M5 H5 s5 r5 hs5 y hy => ?_⟩
      have nD4 : ¬ Ow ρ4 σ3 Dd := fun z => nD2 (hs4 Dd z)
      have hD5 : H5 Dd = some (.lst vacc) := s5.keep Dd _ hD4 nD4
      have hM5 : M5 Dd := s5.old Dd hM4 nD4
      have hd5 : DatA C.K M5 H5 vacc acc := hd4.step r4.owl s5
      have nD5 : ¬ Ow ρ5 σ3 Dd := fun z => nD4 (hs5 Dd z)
      obtain ⟨r6, s6, w6⟩ := r5.touch (vs := vacc ++ [y]) hD5 hM5 nD5
      obtain ⟨r7, s7⟩ := r6.rewipe (hw3.trans wv)
      refine ⟨vacc, hD5, by rw [hd5.length]; exact hlt, M5, _, acc ++ [dd], vacc ++ [y], r7, ?_, fun a z => hs a (hs3 a (hs4 a (hs5 a (s7 a z)))), upd_same, ?_, hM5, by simp; omega, htt⟩
      · have sB := sA.trans (O' := Ow ρ4 σ3) (fun a z => hs a (hs3 a (hs4 a z))) s5
        refine ⟨fun a o e n => ?_, sB.new, sB.old, fun a o e => ?_⟩
        · rw [upd_ne (fun z => by rw [z, hD] at e; cases e)]
          exact sB.keep a o e n
        · obtain ⟨o', e'⟩ := sB.there a o e
          exact s6.there a o' e'
      · exact (hd5.append (.cons hy .nil)).step w6 s6
  · rintro H' ⟨M, ρ, acc, vacc, r, s, hs, hDl, hDd, hDm, hlen, htt⟩
    rw [hn, List.drop_length] at htt
    exact hend M H' ρ acc vacc htt r s hs hDl hDd hDm
theorem test_pts {c : Eo} {ifs : List Expr} (hc : ∀ e, c = .yes e → SE Γ cl e) (L : Lk Γ cl X C sc) (h : okC Γ c sc ifs = true) : PTs X ifs (tT C (evC Γ.F cl c)) := by
  cases c with
  | no =>
    match ifs with
    | [] => exact ⟨fun pins s σ H Q I ⟨M, ρ, r, q⟩ => pts_nil.run pins s σ H Q I (After.now (a := true) r q)⟩
    | _ :: _ => exact nomatch h
  | yes e =>
    match ifs with
    | [x] => exact pts_one ((hc e rfl).pt X C sc x L h)
    | [] => exact nomatch h
    | _ :: _ :: _ => exact nomatch h
theorem comp_read {t : Tg} {it : It} {c : Eo} {e : E} {Q : VK} (hit : SIt Γ cl it) (hc : ∀ e, c = .yes e → SE Γ cl e) (he : SE Γ cl e) (h : tW C (evG Γ cl (.comp t it c e)) σ H Q) :
    tLc (tIt C (evIt Γ.F cl it)) (gTg C.K t) (tT C.calm (evC Γ.F cl c)) (tD C.calm (datOf (evG Γ cl e))) t.slots σ H Q := by
  obtain ⟨M, ρ, r, q⟩ := h
  refine ⟨M, ρ, r, (After.bind q).mono fun M1 H1 items ρ1 s1 r1 hs1 q1 J hJ hz Dd hD => ?_⟩
  have q1 : After C σ M1 H1 ρ1 ((compL (bindT t) (evC Γ.F cl c) (datOf (evG Γ cl e)) t.slots items (wipeR ρ1 t.slots) []).bind fun q => .ok (W.new q.1, backR ρ1 q.2 t.slots)) _ := q1
  refine comp_turns r1 hJ hD hz (fun z => ?_) fun M2 H2 ρ2 acc vacc e2 r2 s2 hs2 hDl hDd hDm => ?_
  · rw [z] at q1
    exact q1
  · rw [e2] at q1
    obtain ⟨rb, sb⟩ := r1.wipe t.slots
    obtain ⟨r3, s3⟩ := Rep.back r1 s2 hs2 r2
    refine q1 M2 H2 (s2.wide sb) r3 s3 (.ref Dd) ⟨Dd, vacc, rfl, ?_, hDl, hDd, hDm⟩
    cases qd : H Dd with
    | none => rfl
    | some o => obtain ⟨o', e'⟩ := s1.there Dd o qd; rw [hD] at e'; cases e'
theorem se_comp {t : Tg} {it : It} {c : Eo} {e : E} (hit : SIt Γ cl it) (hc : ∀ e, c = .yes e → SE Γ cl e) (he : SE Γ cl e) : SE Γ cl (.comp t it c e) := by
  refine ⟨fun X C sc x L h => ?_, fun X C sc x L h => by cases x <;> exact nomatch h⟩
  cases x with
  | ListComp elt gens scope pos =>
    match gens with
    | [⟨tg, iter, ifs, 0⟩] =>
      have h : (okIt Γ it sc iter (isTuple tg) && tgC Γ.N scope t tg && okC Γ c (relS scope sc) ifs && okE Γ e (relS scope sc) elt && blkC Γ.N sc scope (ownOf Γ.N t.slots)) = true := h
      simp only [Bool.and_eq_true] at h
      obtain ⟨⟨⟨⟨h1, h2⟩, h3⟩, h4⟩, h5⟩ := h
      have hk := blk_kind h5
      have ok : BlkOk X.N X.env.scope scope (ownOf Γ.N t.slots) := by rw [L.N, L.scope]; exact blkOk_by h5
      have rule := pe_lc (pos := pos) L.calm (by rw [L.N]; exact L.nd) (hit.pi X C sc tg iter L h1) ok (fun s H Cc cls fp => pg_tg L hk h2 s H Cc cls fp)
        (fun s H Cc cls fp => test_pts hc (L.blk hk s H Cc cls fp) h3) (fun s H Cc cls fp => tD_of (he.pe _ _ _ elt (L.blk hk s H Cc cls fp) h4)) (folded h1 X.env)
      refine PE_imp rule fun σ H Q q => ?_
      rw [own_snd]
      exact comp_read hit hc he q
    | [] => exact nomatch h
    | [⟨_, _, _, .ofNat (_ + 1)⟩] => exact nomatch h
    | [⟨_, _, _, .negSucc _⟩] => exact nomatch h
    | ⟨_, _, _, .ofNat 0⟩ :: _ :: _ => exact nomatch h
    | ⟨_, _, _, .ofNat (_ + 1)⟩ :: _ :: _ => exact nomatch h
    | ⟨_, _, _, .negSucc _⟩ :: _ :: _ => exact nomatch h
  | _ => exact nomatch h
end EV

end
section
set_option linter.all false
set_option maxRecDepth 100000
set_option Elab.async false
namespace EV
open PySem L2 PyProof.Rows
variable {Γ : Gam} {cl : Nat → List D → FRes} {X : Cx} {C : Ctx} {sc : Scope} {K : PySem.W.Frag} {M M' M0 M1 : AS} {H H' H1 : Hp} {σ : EV.St} {ρ ρ' ρ1 : Ro}
/-! ### comprehensions with two fors -/
theorem compL_len {bnd : D → Ro → Option Ro} {test : Ro → Res (Bool × Ro)} {elt : Ro → Res (D × Ro)} {is : List Nat} : ∀ (xs : List D) (ρ : Ro) (acc acc' : List D) (ρ' : Ro), compL bnd test elt is xs ρ acc = .ok (acc', ρ') → acc.length ≤ acc'.length
  | [], ρ, acc, acc', ρ', h => by cases h; exact Nat.le_refl _
  | x :: xs, ρ, acc, acc', ρ', h => by
    unfold compL at h
    obtain ⟨ρ1, h1, h⟩ := bind_ok h
    obtain ⟨⟨b, ρ2⟩, h2, h⟩ := bind_ok h
    cases b with
    | true =>
      rw [if_pos rfl] at h
      obtain ⟨⟨d, ρ3⟩, h3, h⟩ := bind_ok h
      have := compL_len xs _ _ _ _ h
      simp at this
      omega
    | false =>
      rw [if_neg Bool.false_ne_true] at h
      exact compL_len xs _ _ _ _ h
/-- the turns of the inner for: the list is there already -/
theorem comp_turnsG {t : Tg} {J : L2.It} {items : List D} {test : Ro → Res (Bool × Ro)} {elt : Ro → Res (D × Ro)} {Dd : Addr} {Qd : Hp → Prop} {acc0 : List D} {vacc0 : List V}
    (r1 : Rep C.K C.M0 M1 ρ1 σ H1) (hJ : ItR C.K M1 H1 J items) (hD : H1 Dd = some (.lst vacc0)) (hDa : DatA C.K M1 H1 vacc0 acc0) (hDM : M1 Dd) (hDn : ¬ Ow ρ1 σ Dd)
    (hz : ∀ acc ρ, compL (bindT t) test elt t.slots items (wipeR ρ1 t.slots) acc0 = .ok (acc, ρ) → acc.length ≤ sizeLine)
    (hne : compL (bindT t) test elt t.slots items (wipeR ρ1 t.slots) acc0 ≠ .stuck)
    (hend : ∀ M H' ρ acc vacc, compL (bindT t) test elt t.slots items (wipeR ρ1 t.slots) acc0 = .ok (acc, ρ) → Rep C.K C.M0 M ρ (L2.wipe σ t.slots) H' → Stp (fun a => Ow ρ1 σ a ∨ a = Dd) M1 H1 M H' → (∀ a, Ow ρ (L2.wipe σ t.slots) a → Ow (wipeR ρ1 t.slots) (L2.wipe σ t.slots) a) →
      H' Dd = some (.lst vacc) → DatA C.K M H' vacc acc → M Dd → Qd H') :
    ∃ W : Nat → Nat → Hp → Prop, (∃ m, W 0 m H1) ∧ ∀ i m H, W i m H →
      (J.stop i H ∧ Qd H) ∨ (J.go i H ∧ ∃ Nx : Hp → Prop, (∀ H', Nx H' → ∃ m', m' < m ∧ W (i + 1) m' H') ∧ ∀ x H', J.yld i H x H' → gTg C.K t x (L2.wipe σ t.slots) H' fun σ2 H2 => L2.wipe σ2 t.slots = L2.wipe σ t.slots ∧ tT C.calm test σ2 H2 fun b H3 =>
        if b = true then tD C.calm elt σ2 H3 fun y H4 => ∃ acc, H4 Dd = some (.lst acc) ∧ acc.length < sizeLine ∧ Nx (upd H4 Dd (.lst (acc ++ [y]))) else Nx H3) := by
  obtain ⟨n, G, Y, hn, wk, hG, hY⟩ := hJ
  obtain ⟨rb, sb⟩ := r1.wipe t.slots
  have owb : OwL (fun a => Ow ρ1 σ a ∨ a = Dd) M1 H1 := ⟨fun a z => z.elim (r1.owl.sub a) fun e => e ▸ hDM, fun a z => z.elim (r1.owl.lst a) fun e => e ▸ ⟨_, hD⟩⟩
  have nD : ¬ Ow (wipeR ρ1 t.slots) (L2.wipe σ t.slots) Dd := fun z => hDn (sb Dd z)
  have wv : L2.wipe (L2.wipe σ t.slots) t.slots = L2.wipe σ t.slots := wipe_wipe
  generalize htot : compL (bindT t) test elt t.slots items (wipeR ρ1 t.slots) acc0 = tot at hne hend hz
  let Pv : Nat → Hp → Prop := fun i H' => ∃ M ρ acc vacc, Rep C.K C.M0 M ρ (L2.wipe σ t.slots) H' ∧ Stp (fun a => Ow ρ1 σ a ∨ a = Dd) M1 H1 M H' ∧ (∀ a, Ow ρ (L2.wipe σ t.slots) a → Ow (wipeR ρ1 t.slots) (L2.wipe σ t.slots) a) ∧
    H' Dd = some (.lst vacc) ∧ DatA C.K M H' vacc acc ∧ M Dd ∧ tot = compL (bindT t) test elt t.slots (items.drop i) ρ acc
  have h0 : Pv 0 H1 := ⟨M1, _, acc0, vacc0, rb, .refl, fun _ z => z, hD, hDa, hDM, by rw [List.drop_zero, htot]⟩
  have hGv : ∀ i H', Pv i H' → G H' := fun i H' ⟨M, ρ, acc, vacc, r, s, _⟩ => hG _ M H' owb s
  refine ⟨fun i m H => m = n - i ∧ i ≤ n ∧ Pv i H, ⟨n, by simp, Nat.zero_le _, h0⟩, ?_⟩
  rintro i m H' ⟨rfl, hi, hp⟩
  have q := hGv i H' hp
  by_cases hlt : i < n
  · refine .inr ⟨wk.goes i H' hlt q, Pv (i + 1), fun H2 p2 => ⟨n - (i + 1), by omega, rfl, hlt, p2⟩, fun x H2 y => ?_⟩
    have hy := wk.yields i H' x H2 hlt q y
    obtain ⟨M, ρ, acc, vacc, r, s, hs, hDl, hDd, hDm, htt⟩ := hp
    rw [hn] at hlt
    obtain ⟨s0, d, hd1, hd2⟩ := hY _ M H' i x H2 owb s hlt hy
    have hdrop : items.drop i = d :: items.drop (i + 1) := by
      rw [List.drop_eq_getElem_cons hlt]
      rw [List.getElem?_eq_getElem hlt] at hd1
      cases hd1
      rfl
    rw [hdrop] at htt
    unfold compL at htt
    rw [htt] at hne
    obtain ⟨ρ2, e2, hne2⟩ := bind_not_stuck hne (of_ne _)
    have r2 := r.step0 s0
    refine gTg_read r2 hd2 (of_ok e2) fun σ3 r3 hs3 hw3 => ⟨hw3.trans wv, ?_⟩
    obtain ⟨⟨b, ρ4⟩, e4, hne4⟩ := bind_not_stuck hne2 (noExc_ne _)
    rw [e2] at htt
    simp only [Res.bind] at htt hne4
    rw [e4] at htt
    simp only at htt
    refine ⟨M, ρ2, r3, After.ok (noExc_ok e4) fun M4 H4 s4 r4 hs4 => ?_⟩
    have sA : Stp (fun a => Ow ρ1 σ a ∨ a = Dd) M1 H1 M4 H4 := (s.trans (O' := fun _ => False) (fun _ z => z.elim) s0.stp).trans (fun a z => .inl (sb a (hs a (hs3 a z)))) s4
    have nD2 : ¬ Ow ρ2 σ3 Dd := fun z => nD (hs Dd (hs3 Dd z))
    have hD4 : H4 Dd = some (.lst vacc) := s4.keep Dd _ (s0.keep _ _ hDl) nD2
    have hM4 : M4 Dd := s4.old Dd hDm nD2
    have hd4 : DatA C.K M4 H4 vacc acc := (hDd.step0 s0).step r3.owl s4
    cases b with
    | false =>
      show ite (false = true) _ _
      rw [if_neg Bool.false_ne_true]
      rw [if_neg Bool.false_ne_true] at htt
      obtain ⟨r5, s5⟩ := r4.rewipe (hw3.trans wv)
      exact ⟨M4, _, acc, vacc, r5, sA, fun a z => hs a (hs3 a (hs4 a (s5 a z))), hD4, hd4, hM4, htt⟩
    | true =>
      show ite (true = true) _ _
      rw [if_pos rfl]
      rw [if_pos rfl] at htt hne4
      obtain ⟨⟨dd, ρ5⟩, e5, hne5⟩ := bind_not_stuck hne4 (noExc_ne _)
      rw [e5] at htt
      simp only [Res.bind] at htt
      have hlen : acc.length < sizeLine := by
        cases hr : tot with
        | ok p =>
          rw [hr] at htt
          have l1 := compL_len _ _ _ _ _ htt.symm
          have l2 := hz p.1 p.2 hr
          simp at l1
          omega
        | exc x ρ' => rw [hr] at htt; exact (compL_noexc _ _ _ _ _ htt.symm).elim
        | stuck => rw [← htt] at hne5; exact (hne5 hr).elim
      refine ⟨M4, ρ4, r4, After.ok (noExc_ok e5) fun M5 H5 s5 r5 hs5 y hy => ?_⟩
      have nD4 : ¬ Ow ρ4 σ3 Dd := fun z => nD2 (hs4 Dd z)
      have hD5 : H5 Dd = some (.lst vacc) := s5.keep Dd _ hD4 nD4
      have hM5 : M5 Dd := s5.old Dd hM4 nD4
      have hd5 : DatA C.K M5 H5 vacc acc := hd4.step r4.owl s5
      have nD5 : ¬ Ow ρ5 σ3 Dd := fun z => nD4 (hs5 Dd z)
      obtain ⟨r6, s6, w6⟩ := r5.touch (vs := vacc ++ [y]) hD5 hM5 nD5
      obtain ⟨r7, s7⟩ := r6.rewipe (hw3.trans wv)
      refine ⟨vacc, hD5, by rw [hd5.length]; exact hlen, M5, _, acc ++ [dd], vacc ++ [y], r7, ?_, fun a z => hs a (hs3 a (hs4 a (hs5 a (s7 a z)))), upd_same, ?_, hM5, htt⟩
      · have sB := sA.trans (O' := Ow ρ4 σ3) (fun a z => .inl (sb a (hs a (hs3 a (hs4 a z))))) s5
        exact sB.trans (O' := fun a => a = Dd) (fun a z => .inr z) s6
      · exact (hd5.append (.cons hy .nil)).step w6 s6
  · have e : i = n := by omega
    subst e
    refine .inl ⟨wk.stops H' q, ?_⟩
    obtain ⟨M, ρ, acc, vacc, r, s, hs, hDl, hDd, hDm, htt⟩ := hp
    rw [hn, List.drop_length] at htt
    exact hend M H' ρ acc vacc htt r s hs hDl hDd hDm
theorem wipe_sub {σ : EV.St} {is js : List Nat} (h : ∀ i ∈ js, i ∈ is) : L2.wipe (L2.wipe σ js) is = L2.wipe σ is := by
  apply List.ext_getElem?
  intro j
  rw [wipe_get, wipe_get]
  split
  · rw [wipe_get]
    split
    · cases σ[j]? <;> rfl
    · rfl
  · rename_i hj
    rw [wipe_get, if_neg fun z => hj (h j z), if_neg hj]
abbrev inL (Γ : Gam) (cl : Nat → List D → FRes) (t' : Tg) (it' : It) (c' : Eo) (e : E) (ρ1 : Ro) (acc : List D) : Res (List D × Ro) :=
  (evIt Γ.F cl it' ρ1).bind fun q => compL (bindT t') (evC Γ.F cl c') (datOf (evG Γ cl e)) t'.slots q.1 (wipeR q.2 t'.slots) acc
theorem compL2_len {bnd : D → Ro → Option Ro} {test : Ro → Res (Bool × Ro)} {t' : Tg} {it' : It} {c' : Eo} {e : E} {is : List Nat} : ∀ (xs : List D) (ρ : Ro) (acc acc' : List D) (ρ' : Ro), compL2 bnd test (inL Γ cl t' it' c' e) is xs ρ acc = .ok (acc', ρ') → acc.length ≤ acc'.length
  | [], ρ, acc, acc', ρ', h => by cases h; exact Nat.le_refl _
  | x :: xs, ρ, acc, acc', ρ', h => by
    unfold compL2 at h
    obtain ⟨ρ1, h1, h⟩ := bind_ok h
    obtain ⟨⟨b, ρ2⟩, h2, h⟩ := bind_ok h
    cases b with
    | true =>
      rw [if_pos rfl] at h
      obtain ⟨⟨d, ρ3⟩, h3, h⟩ := bind_ok h
      have l1 := compL2_len xs _ _ _ _ h
      obtain ⟨⟨its, ρ4⟩, h4, h5⟩ := bind_ok (noExc_ok h3)
      have l2 := compL_len _ _ _ _ _ h5
      dsimp only at l1
      omega
    | false =>
      rw [if_neg Bool.false_ne_true] at h
      exact compL2_len xs _ _ _ _ h
theorem compL2_noexc {bnd : D → Ro → Option Ro} {test : Ro → Res (Bool × Ro)} {inner : Ro → List D → Res (List D × Ro)} {is : List Nat} : ∀ (xs : List D) (ρ : Ro) (acc : List D) (x : Exn) (ρ' : Ro), compL2 bnd test inner is xs ρ acc ≠ .exc x ρ'
  | [], _, _, _, _ => fun z => nomatch z
  | d :: xs, ρ, acc, x, ρ' => by
    intro h
    unfold compL2 at h
    cases e1 : bnd d ρ with
    | none => rw [e1] at h; cases h
    | some ρ1 =>
      rw [e1] at h
      simp only [Res.of, Res.bind] at h
      split at h
      · split at h
        · split at h
          · exact compL2_noexc xs _ _ x ρ' h
          · rename_i q; exact noExc_ne _ _ _ q
          · cases h
        · exact compL2_noexc xs _ _ x ρ' h
      · rename_i q; exact noExc_ne _ _ _ q
      · cases h
theorem comp2_read {t t' : Tg} {it it' : It} {c c' : Eo} {e : E} {Q : VK} (h : tW C (evG Γ cl (.comp2 t it c t' it' c' e)) σ H Q) :
    tLc2 (tIt C (evIt Γ.F cl it)) (gTg C.K t) (tT C.calm (evC Γ.F cl c)) (tIt C.calm (evIt Γ.F cl it')) (gTg C.K t') (tT C.calm (evC Γ.F cl c')) (tD C.calm (datOf (evG Γ cl e))) (t.slots ++ t'.slots) t'.slots σ H Q := by
  obtain ⟨M, ρ, r, q⟩ := h
  refine ⟨M, ρ, r, (After.bind q).mono fun M1 H1 items ρ1 s1 r1 hs1 q1 J hJ hz Dd hD => ?_⟩
  have q1 : After C σ M1 H1 ρ1 ((compL2 (bindT t) (evC Γ.F cl c) (inL Γ cl t' it' c' e) (t.slots ++ t'.slots) items (wipeR ρ1 (t.slots ++ t'.slots)) []).bind fun q => if q.1.length ≤ sizeLine then .ok (W.new q.1, backR ρ1 q.2 (t.slots ++ t'.slots)) else .stuck) _ := q1
  generalize hvs : t.slots ++ t'.slots = vs at *
  have sub : ∀ i ∈ t.slots, i ∈ vs := fun i hi => by rw [← hvs]; exact List.mem_append_left _ hi
  have sub' : ∀ i ∈ t'.slots, i ∈ vs := fun i hi => by rw [← hvs]; exact List.mem_append_right _ hi
  obtain ⟨n, G, Y, hn, wk, hG, hY⟩ := hJ
  obtain ⟨rb, sb⟩ := r1.wipe vs
  obtain ⟨fD1, fD2, fD3⟩ := r1.fresh hD
  have owb := rb.owl
  have nD : ¬ Ow (wipeR ρ1 vs) (L2.wipe σ vs) Dd := fun z => fD3 (sb Dd z)
  have wv : L2.wipe (L2.wipe σ vs) vs = L2.wipe σ vs := wipe_wipe
  generalize htot : compL2 (bindT t) (evC Γ.F cl c) (inL Γ cl t' it' c' e) vs items (wipeR ρ1 vs) [] = tot at q1
  cases tot with
  | stuck => exact q1.elim
  | exc x ρ' => exact (compL2_noexc _ _ _ _ _ htot).elim
  | ok p =>
    obtain ⟨accF, ρF⟩ := p
    have q1 : After C σ M1 H1 ρ1 (if accF.length ≤ sizeLine then .ok (W.new accF, backR ρ1 ρF vs) else .stuck) _ := q1
    split at q1
    case isFalse => exact q1.elim
    rename_i hsz
    let Pv : Nat → Hp → Prop := fun i H' => ∃ M ρ acc vacc, Rep C.K C.M0 M ρ (L2.wipe σ vs) H' ∧ Stp (Ow (wipeR ρ1 vs) (L2.wipe σ vs)) M1 H1 M H' ∧ (∀ a, Ow ρ (L2.wipe σ vs) a → Ow (wipeR ρ1 vs) (L2.wipe σ vs) a) ∧
      H' Dd = some (.lst vacc) ∧ DatA C.K M H' vacc acc ∧ M Dd ∧ compL2 (bindT t) (evC Γ.F cl c) (inL Γ cl t' it' c' e) vs (items.drop i) ρ acc = .ok (accF, ρF)
    have h0 : Pv 0 (upd H1 Dd (.lst [])) := ⟨fun a => M1 a ∨ a = Dd, _, [], [], rb.step0 (.lnew hD), (Stp0.lnew hD).stp, fun _ z => z, upd_same, .nil, .inr rfl, by rw [List.drop_zero, htot]⟩
    have hGv : ∀ i H', Pv i H' → G H' := fun i H' ⟨M, ρ, acc, vacc, r, s, _⟩ => hG _ M H' owb s
    refine ⟨fun i m H => m = n - i ∧ i ≤ n ∧ Pv i H, ⟨n, by simp, Nat.zero_le _, h0⟩, ?_⟩
    rintro i m H' ⟨rfl, hi, hp⟩
    have qg := hGv i H' hp
    by_cases hlt : i < n
    · refine .inr ⟨wk.goes i H' hlt qg, Pv (i + 1), fun H2 p2 => ⟨n - (i + 1), by omega, rfl, hlt, p2⟩, fun x H2 y => ?_⟩
      have hy := wk.yields i H' x H2 hlt qg y
      obtain ⟨M, ρ, acc, vacc, r, s, hs, hDl, hDd, hDm, htt⟩ := hp
      rw [hn] at hlt
      obtain ⟨s0, d, hd1, hd2⟩ := hY _ M H' i x H2 owb s hlt hy
      have hdrop : items.drop i = d :: items.drop (i + 1) := by
        rw [List.drop_eq_getElem_cons hlt]
        rw [List.getElem?_eq_getElem hlt] at hd1
        cases hd1
        rfl
      rw [hdrop] at htt
      unfold compL2 at htt
      obtain ⟨ρ2, e2, htt⟩ := bind_ok htt
      obtain ⟨⟨b, ρ4⟩, e4, htt⟩ := bind_ok htt
      have r2 := r.step0 s0
      refine gTg_read r2 hd2 (of_ok e2) fun σ3 r3 hs3 hw3 => ?_
      have hw3' : L2.wipe σ3 vs = L2.wipe σ vs := by
        rw [← wipe_sub sub, hw3, wipe_sub sub, wv]
      refine ⟨hw3', M, ρ2, r3, After.ok (noExc_ok e4) fun M4 H4 s4 r4 hs4 => ?_⟩
      have sA : Stp (Ow (wipeR ρ1 vs) (L2.wipe σ vs)) M1 H1 M4 H4 := (s.trans (fun _ z => z) s0.stp).trans (fun a z => hs a (hs3 a z)) s4
      have nD2 : ¬ Ow ρ2 σ3 Dd := fun z => nD (hs Dd (hs3 Dd z))
      have hD4 : H4 Dd = some (.lst vacc) := s4.keep Dd _ (s0.keep _ _ hDl) nD2
      have hM4 : M4 Dd := s4.old Dd hDm nD2
      have hd4 : DatA C.K M4 H4 vacc acc := (hDd.step0 s0).step r3.owl s4
      cases b with
      | false =>
        show ite (false = true) _ _
        rw [if_neg Bool.false_ne_true]
        rw [if_neg Bool.false_ne_true] at htt
        obtain ⟨r5, s5⟩ := r4.rewipe hw3'
        exact ⟨M4, _, acc, vacc, r5, sA, fun a z => hs a (hs3 a (hs4 a (s5 a z))), hD4, hd4, hM4, htt⟩
      | true =>
        show ite (true = true) _ _
        rw [if_pos rfl]
        rw [if_pos rfl] at htt
        obtain ⟨⟨acc6, ρ6⟩, e6, htt⟩ := bind_ok htt
        obtain ⟨⟨items5, ρ5⟩, e5, e6'⟩ := bind_ok (noExc_ok e6)
        refine ⟨M4, ρ4, r4, After.ok e5 fun M5 H5 s5 r5 hs5 J1 hJ1 hz1 => ?_⟩
        have nD4 : ¬ Ow ρ4 σ3 Dd := fun z => nD2 (hs4 Dd z)
        have nD5 : ¬ Ow ρ5 σ3 Dd := fun z => nD4 (hs5 Dd z)
        have hlF := compL2_len _ _ _ _ _ htt
        refine comp_turnsG (C := C) r5 hJ1 (s5.keep Dd _ hD4 nD4) (hd4.step r4.owl s5) (s5.old Dd hM4 nD4) nD5 (fun acc' ρ' z => ?_) (fun z => ?_) fun M7 H7 ρ7 acc7 vacc7 e7 r7 s7 hs7 hD7 hd7 hM7 => ?_
        · rw [z] at e6'
          cases e6'
          dsimp only at hlF
          omega
        · rw [z] at e6'; cases e6'
        · rw [e7] at e6'
          cases e6'
          have ww : L2.wipe (L2.wipe σ3 t'.slots) vs = L2.wipe σ vs := by rw [wipe_sub sub', hw3']
          obtain ⟨r8, s8⟩ := r7.rewipe ww
          obtain ⟨_, sb5⟩ := r5.wipe t'.slots
          have toB : ∀ a, Ow ρ5 σ3 a → Ow (wipeR ρ1 vs) (L2.wipe σ vs) a := fun a z => hs a (hs3 a (hs4 a (hs5 a z)))
          have sB := sA.trans (O' := Ow ρ4 σ3) (fun a z => hs a (hs3 a (hs4 a z))) s5
          refine ⟨M7, _, _, vacc7, r8, ?_, fun a z => toB a (sb5 a (hs7 a (s8 a z))), hD7, hd7, hM7, htt⟩
          refine ⟨fun a o ea na => ?_, fun a z => ?_, fun a z na => ?_, fun a o ea => ?_⟩
          · have ne : a ≠ Dd := fun z => by rw [z, hD] at ea; cases ea
            exact s7.keep a o (sB.keep a o ea na) fun z => z.elim (fun z => na (toB a z)) ne
          · rcases s7.new a z with z | z
            · exact sB.new a z
            · right
              cases qa : H1 a with
              | none => rfl
              | some o => obtain ⟨o', e'⟩ := sB.there a o qa; rw [e'] at z; cases z
          · have ne : a ≠ Dd := fun q => fD1 (q ▸ z)
            exact s7.old a (sB.old a z na) fun z => z.elim (fun z => na (toB a z)) ne
          · obtain ⟨o', e'⟩ := sB.there a o ea
            exact s7.there a o' e'
    · have ei : i = n := by omega
      subst ei
      refine .inl ⟨wk.stops H' qg, ?_⟩
      obtain ⟨M2, ρ2, acc, vacc, r2, s2, hs2, hDl, hDd, hDm, htt⟩ := hp
      rw [hn, List.drop_length] at htt
      cases htt
      obtain ⟨r3, s3⟩ := Rep.back r1 s2 hs2 r2
      refine q1 M2 H' (s2.wide sb) r3 s3 (.ref Dd) ⟨Dd, vacc, rfl, ?_, hDl, hDd, hDm⟩
      cases qd : H Dd with
      | none => rfl
      | some o => obtain ⟨o', e'⟩ := s1.there Dd o qd; rw [hD] at e'; cases e'
theorem comp2_inv {t t' : Tg} {it it' : It} {c c' : Eo} {e : E} {v : Expr} (h : okE Γ (.comp2 t it c t' it' c' e) sc v = true) : ∃ elt tg iter ifs tg1 iter1 ifs1 scope pos, v = .ListComp elt [⟨tg, iter, ifs, 0⟩, ⟨tg1, iter1, ifs1, 0⟩] scope pos ∧
    okIt Γ it sc iter (isTuple tg) = true ∧ tgC Γ.N scope t tg = true ∧ okC Γ c (relS scope sc) ifs = true ∧ okIt Γ it' (relS scope sc) iter1 (isTuple tg1) = true ∧ tgC Γ.N scope t' tg1 = true ∧ okC Γ c' (relS scope sc) ifs1 = true ∧ okE Γ e (relS scope sc) elt = true ∧ blkC Γ.N sc scope (ownOf Γ.N (t.slots ++ t'.slots)) = true := by
  unfold okE at h
  split at h <;> first | contradiction | skip
  all_goals
    rename_i heq
    cases heq
    simp only [Bool.and_eq_true] at h
    obtain ⟨⟨⟨⟨⟨⟨⟨h1, h2⟩, h3⟩, h4⟩, h5⟩, h6⟩, h7⟩, h8⟩ := h
    exact ⟨_, _, _, _, _, _, _, _, _, rfl, h1, h2, h3, h4, h5, h6, h7, h8⟩
theorem se_comp2 {t t' : Tg} {it it' : It} {c c' : Eo} {e : E} (hit : SIt Γ cl it) (hc : ∀ e, c = .yes e → SE Γ cl e) (hit' : SIt Γ cl it') (hc' : ∀ e, c' = .yes e → SE Γ cl e) (he : SE Γ cl e) : SE Γ cl (.comp2 t it c t' it' c' e) := by
  refine ⟨fun X C sc x L h => ?_, fun X C sc x L h => by cases x <;> exact nomatch h⟩
  obtain ⟨elt, tg, iter, ifs, tg1, iter1, ifs1, scope, pos, rfl, h1, h2, h3, h4, h5, h6, h7, h8⟩ := comp2_inv h
  have hk := blk_kind h8
  have ok : BlkOk X.N X.env.scope scope (ownOf Γ.N (t.slots ++ t'.slots)) := by rw [L.N, L.scope]; exact blkOk_by h8
  have rule := pe_lc2 (pos := pos) (vs1 := t'.slots) L.calm (by rw [L.N]; exact L.nd) (hit.pi X C sc tg iter L h1) ok (fun i hi => by rw [own_snd]; exact List.mem_append_right _ hi) (fun s H Cc cls fp => pg_tg L hk h2 s H Cc cls fp)
    (fun s H Cc cls fp => test_pts hc (L.blk hk s H Cc cls fp) h3) (fun s H Cc cls fp => hit'.pi _ _ _ tg1 iter1 (L.blk hk s H Cc cls fp) h4) (fun s H Cc cls fp => pg_tg L hk h5 s H Cc cls fp) (fun s H Cc cls fp => test_pts hc' (L.blk hk s H Cc cls fp) h6)
    (fun s H Cc cls fp => tD_of (he.pe _ _ _ elt (L.blk hk s H Cc cls fp) h7)) (folded h1 X.env) (fun env x => folded h4 env x)
  refine PE_imp rule fun σ H Q q => ?_
  rw [own_snd]
  exact comp2_read q
end EV

end
section
set_option linter.all false
set_option maxRecDepth 100000
set_option Elab.async false
namespace EV
open PySem L2 PyProof.Rows
variable {Γ : Gam} {cl : Nat → List D → FRes} {X : Cx} {C : Ctx} {sc : Scope} {K : PySem.W.Frag} {M M' M0 M1 : AS} {H H' H1 : Hp} {σ : EV.St} {ρ ρ' ρ1 : Ro}
/-! ### statements: the text beside the language -/
def lineC (sc scope : Scope) (y : Str) (py p : Pos) : Bool := (sc.names.lookup y == some .local && py.line == p.line) && !(scope.names.any fun (n, k) => n == y && (k == .local || k == .cell))
def isStarred : Expr → Bool
  | .Starred .. => true
  | _ => false
def swN (sc : Scope) (line : Nat) : Expr → Option Str
  | .Name id pos => if sc.names.lookup id == some .local && pos.line == line then some id else none
  | _ => none
/-- a, b = x, y: the names, where they are stored from the right -/
def swP (sc : Scope) (ts xs : List Expr) : Option (Option (List Str)) :=
  if (!(ts.length == 2 || ts.length == 3) || xs.length != ts.length) = true then some none
  else if xs.any isStarred = true then some none
  else
    let names := ts.filterMap (swN sc ((ts.head?.map (·.pos.line)).getD 0))
    if (names.length != ts.length || names.eraseDups.length != names.length) = true then some none
    else if xs.all (foldedForSure 8) = true then some none
    else if xs.all (constantsAlone 8) = true then none
    else some (some names)
def isComp : Expr → Bool
  | .ListComp .. => true
  | .SetComp .. => true
  | .DictComp .. => true
  | _ => false
mutual
def okS (Γ : Gam) (sc : Scope) : S → Stmt → Bool
  | .asg i e, .Assign [.Name x _] v _ => decide (Γ.N[i]? = some x) && locC sc x && okE Γ e sc v
  | .asgT is e, .Assign [.Tuple ts _ _] v _ => namesC Γ.N sc is ts && !isTuple v && okE Γ e sc v
  | .par is es, .Assign [.Tuple ts _ _] (.Tuple xs _ _) _ => namesC Γ.N sc is ts && decide (is.Nodup) && okEs Γ es sc xs && decide (xs.length ≤ 3) && decide (xs.length = ts.length) && (swP sc ts xs).isSome
  | .sub i k e, .Assign [.Subscript (.Name x _) ix _] v _ => decide (Γ.N[i]? = some x) && visC sc x && nmC x && !isSlice ix && okE Γ k sc ix && okE Γ e sc v
  | .expr e, .Expr v _ => !isComp v && okE Γ e sc v
  | .ret e, .Return (some v) _ => okE Γ e sc v
  | .retN, .Return none _ => true
  | .ite c a b, .If t x y _ => okT Γ c sc t && okSs Γ sc a x && okSs Γ sc b y
  | .for_ t it b, .For tg iter body [] _ => okIt Γ it sc iter (isTuple tg) && tgC Γ.N sc t tg && okSs Γ sc b body
  | .while_ _ c b, .While t body [] _ => okT Γ c sc t && okSs Γ sc b body
  | .pass, .Pass _ => true
  | .brk, .Break _ => true
  | .cont, .Continue _ => true
  | _, _ => false
def okSs (Γ : Gam) (sc : Scope) : Ss → List Stmt → Bool
  | .nil, [] => true
  | .cons s r, x :: xs => okS Γ sc s x && okSs Γ sc r xs
  | _, _ => false
end
/-- the slots of a def's frame -/
structure RepS (C : Ctx) (M : AS) (ρ : Ro) (σ : EV.St) (H : Hp) : Prop where
  rep : Rep C.K C.M0 M ρ σ H
  new0 : ∀ a, M a → C.M0 a ∨ C.H0 a = none
  there0 : ∀ a o, C.H0 a = some o → ∃ o', H a = some o'
/-- what the slots' own lists may be behind a statement -/
def OwS (ρ : Ro) (σ : EV.St) (H : Hp) (ρ' : Ro) (σ' : EV.St) : Prop := ∀ a, Ow ρ' σ' a → Ow ρ σ a ∨ H a = none
def ends (C : Ctx) (D : Ends) (M' : AS) (H' : Hp) (σ' : EV.St) : Flow → Prop
  | .next => D.nx σ' H'
  | .brk => D.bk σ' H'
  | .cont => D.ct σ' H'
  | .ret w => ∀ v, VW0 C.K C.H0 M' H' v w → D.rt v H'
def AfterS (C : Ctx) (σ : EV.St) (M : AS) (H : Hp) (ρ : Ro) (r : Res (Flow × Ro)) (D : Ends) : Prop := match r with
  | .ok (fl, ρ') => ∀ M' H' σ', Stp (Ow ρ σ) M H M' H' → RepS C M' ρ' σ' H' → OwS ρ σ H ρ' σ' → ends C D M' H' σ' fl
  | .exc x ρ' => ∀ M' H' σ' cls d, Stp (Ow ρ σ) M H M' H' → RepS C M' ρ' σ' H' → OwS ρ σ H ρ' σ' → C.R M' H' cls d x → C.Wx cls d σ' H'
  | .stuck => False
def tS (C : Ctx) (f : Ro → Res (Flow × Ro)) : TS := fun D σ H => ∃ M ρ, RepS C M ρ σ H ∧ AfterS C σ M H ρ (f ρ) D
theorem RepS.after (r : RepS C M ρ σ H) (s : Stp (Ow ρ σ) M H M' H') {σ' : EV.St} (r' : Rep C.K C.M0 M' ρ' σ' H') : RepS C M' ρ' σ' H' := by
  refine ⟨r', fun a z => ?_, fun a o e => ?_⟩
  · rcases s.new a z with q | q
    · exact r.new0 a q
    · right
      cases e : C.H0 a with
      | none => rfl
      | some o => obtain ⟨o', e'⟩ := r.there0 a o e; rw [q] at e'; cases e'
  · obtain ⟨o', e'⟩ := r.there0 a o e
    exact s.there a o' e'
theorem Stp.transS {M2 : AS} {H2 : Hp} {σ1 : EV.St} (r : Rep K M0 M ρ σ H) (hs : OwS ρ σ H ρ1 σ1) (s : Stp (Ow ρ σ) M H M1 H1) (t : Stp (Ow ρ1 σ1) M1 H1 M2 H2) : Stp (Ow ρ σ) M H M2 H2 := by
  have no : ∀ a o, H a = some o → ¬ Ow ρ σ a → ¬ Ow ρ1 σ1 a := fun a o e n z => by
    rcases hs a z with q | q
    · exact n q
    · rw [e] at q; cases q
  refine ⟨fun a o e n => t.keep a o (s.keep a o e n) (no a o e n), fun a z => ?_, fun a z n => ?_, fun a o e => ?_⟩
  · rcases t.new a z with q | q
    · exact s.new a q
    · cases e : H a with
      | none => exact .inr rfl
      | some o => obtain ⟨o', e'⟩ := s.there a o e; rw [e'] at q; cases q
  · obtain ⟨o, e⟩ := r.dom a z
    exact t.old a (s.old a z n) (no a o e n)
  · obtain ⟨o', e'⟩ := s.there a o e
    exact t.there a o' e'
theorem OwS.trans {σ1 σ2 : EV.St} {ρ2 : Ro} (th : ∀ a o, H a = some o → ∃ o', H1 a = some o') (a1 : OwS ρ σ H ρ1 σ1) (a2 : OwS ρ1 σ1 H1 ρ2 σ2) : OwS ρ σ H ρ2 σ2 := fun a z => by
  rcases a2 a z with q | q
  · exact a1 a q
  · right
    cases e : H a with
    | none => rfl
    | some o => obtain ⟨o', e'⟩ := th a o e; rw [q] at e'; cases e'
/-- an expression within a statement -/
theorem AfterS.expr {α : Type} {q : Res (α × Ro)} {f : α × Ro → Res (Flow × Ro)} {D : Ends} (r : RepS C M ρ σ H) (h : AfterS C σ M H ρ (q.bind f) D) :
    After C σ M H ρ q (fun M1 H1 a ρ1 => RepS C M1 ρ1 σ H1 ∧ AfterS C σ M H ρ (f (a, ρ1)) D) := by
  cases q with
  | ok p => exact fun M1 H1 s1 r1 hs1 => ⟨r.after s1 r1, h⟩
  | exc x ρ' => exact fun M1 H1 cls d s1 r1 hs1 hR => h M1 H1 σ cls d s1 (r.after s1 r1) (fun a z => .inl (hs1 a z)) hR
  | stuck => exact h
theorem AfterS.of {α : Type} {o : Option α} {f : α → Res (Flow × Ro)} {D : Ends} (h : AfterS C σ M H ρ ((Res.of o).bind f) D) : ∃ a, o = some a ∧ AfterS C σ M H ρ (f a) D := by
  cases o with
  | none => exact h.elim
  | some a => exact ⟨a, rfl, h⟩
theorem PS_imp {st : Stmt} {t t' : TS} (h : PS X st t) (f : ∀ D σ H, t' D σ H → t D σ H) : PS X st t' := ⟨fun pins s σ H D I q => h.run pins s σ H D I (f D σ H q)⟩
theorem PSs_imp {st : List Stmt} {t t' : TS} (h : PSs X st t) (f : ∀ D σ H, t' D σ H → t D σ H) : PSs X st t' := ⟨fun pins s σ H D I q => h.run pins s σ H D I (f D σ H q)⟩
/-- a def's frame -/
structure LkS (Γ : Gam) (cl : Nat → List D → FRes) (X : Cx) (C : Ctx) (sc : Scope) : Prop extends Lk Γ cl X C sc where
  pass : PassesOwn (model X.prog X.w) X.A X.env X.xe
  fnT : ∀ x, X.fn x = true
structure SSt (Γ : Gam) (cl : Nat → List D → FRes) (s : S) : Prop where
  ps : ∀ X C sc st, LkS Γ cl X C sc → okS Γ sc s st = true → PS X st (tS C (exec Γ.F cl s))
structure SSts (Γ : Gam) (cl : Nat → List D → FRes) (s : Ss) : Prop where
  pss : ∀ X C sc st, LkS Γ cl X C sc → okSs Γ sc s st = true → PSs X st (tS C (execs Γ.F cl s))
/-- a value stored in a slot -/
theorem Rep.setW {i : Nat} {v : V} {w : W} (r0 : Rep K M0 M ρ σ H) (s : Stp (Ow ρ σ) M H M1 H1) (r : Rep K M0 M1 ρ1 σ H1) (hs : ∀ a, Ow ρ1 σ a → Ow ρ σ a) (hv : VW0 K H M1 H1 v w) (h : setD ρ1 i w = some ρ') :
    Rep K M0 M1 ρ' (σ.set i (some v)) H1 ∧ OwS ρ σ H ρ' (σ.set i (some v)) := by
  cases w with
  | dat d =>
    obtain ⟨q1, q2⟩ := r.setDat hv h
    exact ⟨q1, fun a z => .inl (hs a (q2 a z))⟩
  | new xs =>
    obtain ⟨p, us, rfl, hn, hp, hd, hm⟩ := hv
    obtain ⟨f1, f2, f3⟩ := r0.fresh hn
    have f4 : ¬ Ow ρ1 σ p := fun z => f3 (hs p z)
    obtain ⟨hl, hio, rfl⟩ := setD_some h
    have hlσ : i < σ.length := by rw [← r.len]; exact hl
    have ne : ∀ {j : Nat}, j ≠ i → (σ.set i (some (V.ref p)))[j]? = σ[j]? := fun hj => List.getElem?_set_ne (Ne.symm hj)
    have at_ : (σ.set i (some (V.ref p)))[i]? = some (some (V.ref p)) := List.getElem?_set_self hlσ
    refine ⟨⟨by simpa using r.len, r.dom, r.sub, fun j d' e => ?_, fun j t ys e l => ?_, fun j ys a e q => ?_, fun j ys a e q => ?_, fun j k a t u ys zs e1 e2 l1 l2 q1 q2 => ?_⟩, fun a ⟨j, t, ys, e, l, q⟩ => ?_⟩
    · rcases set_get e with ⟨rfl, e'⟩ | ⟨hj, e⟩
      · cases e'
      · rw [ne hj]; exact r.dat j d' e
    · rcases set_get e with ⟨rfl, e'⟩ | ⟨hj, e⟩
      · cases e'; cases l; exact ⟨p, us, at_, hp, hd, hm⟩
      · rw [ne hj]; exact r.lst j t ys e l
    · rcases set_get e with ⟨rfl, e'⟩ | ⟨hj, e⟩
      · rw [at_] at q; cases q; exact f2
      · rw [ne hj] at q; exact r.own j ys a e q
    · rcases set_get e with ⟨rfl, e'⟩ | ⟨hj, e⟩
      · cases e'
      · rw [ne hj] at q; exact r.io j ys a e q
    · rcases set_get e1 with ⟨hj, e'⟩ | ⟨hj, e1'⟩
      · rcases set_get e2 with ⟨hk, e''⟩ | ⟨hk, e2'⟩
        · rw [hj, hk]
        · rw [hj, at_] at q1; cases q1
          rw [ne hk] at q2
          exact (f4 ⟨k, u, zs, e2', l2, q2⟩).elim
      · rcases set_get e2 with ⟨hk, e''⟩ | ⟨hk, e2'⟩
        · rw [hk, at_] at q2; cases q2
          rw [ne hj] at q1
          exact (f4 ⟨j, t, ys, e1', l1, q1⟩).elim
        · rw [ne hj] at q1; rw [ne hk] at q2
          exact r.inj j k a t u ys zs e1' e2' l1 l2 q1 q2
    · rcases set_get e with ⟨rfl, e'⟩ | ⟨hj, e⟩
      · rw [at_] at q; cases q; exact .inr hn
      · rw [ne hj] at q; exact .inl (hs a ⟨j, t, ys, e, l, q⟩)
theorem locC_loc {x : Str} (L : Lk Γ cl X C sc) (h : locC sc x = true) : Loc X.env.scope x := by
  rw [L.scope]; exact locC_of h
theorem swaps_no {v : Expr} (h : isComp v = false) (tg : Option Expr) (l : Nat) (env : Env) : swapsWith v tg l env = pure false := by
  cases v <;> first | rfl | cases h
/-- x = e -/
theorem asg_read {i : Nat} {e : E} {D : Ends} (h : tS C (exec Γ.F cl (.asg i e)) D σ H) : tAsg (tW C (evG Γ cl e)) (gName i) D σ H := by
  obtain ⟨M, ρ, r, q⟩ := h
  refine ⟨M, ρ, r.rep, (AfterS.expr r q).mono fun M1 H1 w ρ1 s1 r1 hs1 ⟨rs1, h1⟩ v hv => ?_⟩
  obtain ⟨ρ2, e2, h2⟩ := h1.of
  obtain ⟨r2, o2⟩ := Rep.setW r.rep s1 r1 hs1 hv e2
  exact h2 M1 H1 _ s1 (r.after s1 r2) o2
/-- a comprehension stored: the rule by the text's own lines -/
theorem comp_set {t : Tg} {it : It} {c : Eo} {e : E} {i : Nat} {y : Str} {py spos pos : Pos} {elt : Expr} {gens : List Comprehension} {scope : Scope} (hit : SIt Γ cl it) (hc : ∀ e, c = .yes e → SE Γ cl e) (he : SE Γ cl e) (L : LkS Γ cl X C sc)
    (hi : Γ.N[i]? = some y) (hl : locC sc y = true) (h : okE Γ (.comp t it c e) sc (.ListComp elt gens scope pos) = true) :
    PS X (.Assign [.Name y py] (.ListComp elt gens scope pos) spos) (tAsg (tW C (evG Γ cl (.comp t it c e))) (gName i)) := by
  have hN : X.N[i]? = some y := by rw [L.N]; exact hi
  have nd : X.N.Nodup := by rw [L.N]; exact L.nd
  have plain := (se_comp (t := t) hit hc he).pe X C sc _ L.toLk h
  cases hb : lineC sc scope y py pos with
  | false =>
    refine ps_set nd hN (locC_loc L.toLk hl) plain ?_ (.inl (L.fnT y))
    unfold swapsWith
    have hbk : X.env.blockKind = .function := by unfold Env.blockKind; rw [L.scope, L.kind]; rfl
    have hky : X.env.kindOf y = sc.names.lookup y := by unfold Env.kindOf; rw [L.scope]
    simp only [hbk, hky, Expr.pos]
    unfold lineC at hb
    show (pure ((true && sc.names.lookup y == some NameKind.local && py.line == pos.line) && !(scope.names.any fun (n, k) => n == y && (k == .local || k == .cell))) : Sem Bool) = pure false
    rw [Bool.true_and, hb]
  | true =>
    unfold lineC at hb
    simp only [Bool.and_eq_true, Bool.not_eq_true'] at hb
    obtain ⟨⟨b1, b2⟩, b3⟩ := hb
    have b1 : sc.names.lookup y = some .local := by simpa using b1
    match gens with
    | [⟨tg, iter, ifs, 0⟩] =>
      have h' : (okIt Γ it sc iter (isTuple tg) && tgC Γ.N scope t tg && okC Γ c (relS scope sc) ifs && okE Γ e (relS scope sc) elt && blkC Γ.N sc scope (ownOf Γ.N t.slots)) = true := h
      simp only [Bool.and_eq_true] at h'
      obtain ⟨⟨⟨⟨h1, h2⟩, h3⟩, h4⟩, h5⟩ := h'
      have hk := blk_kind h5
      have ok : BlkOk X.N X.env.scope scope (ownOf Γ.N t.slots) := by rw [L.N, L.scope]; exact blkOk_by h5
      have rule := ps_setLc (pos := pos) (spos := spos) (py := py) L.calm nd hN (by rw [L.scope]; exact b1) (sw_true (by rw [L.scope]; exact L.kind) (by rw [L.scope]; exact b1) b2 b3) (hit.pi X C sc tg iter L.toLk h1) ok (fun s H Cc cls fp => pg_tg L.toLk hk h2 s H Cc cls fp)
        (fun s H Cc cls fp => test_pts hc (L.toLk.blk hk s H Cc cls fp) h3) (fun s H Cc cls fp => tD_of (he.pe _ _ _ elt (L.toLk.blk hk s H Cc cls fp) h4)) (folded h1 X.env)
      refine PS_imp rule fun D σ H q => ?_
      rw [own_snd]
      exact comp_read hit hc he q
    | [] => exact nomatch h
    | [⟨_, _, _, .ofNat (_ + 1)⟩] => exact nomatch h
    | [⟨_, _, _, .negSucc _⟩] => exact nomatch h
    | ⟨_, _, _, .ofNat 0⟩ :: _ :: _ => exact nomatch h
    | ⟨_, _, _, .ofNat (_ + 1)⟩ :: _ :: _ => exact nomatch h
    | ⟨_, _, _, .negSucc _⟩ :: _ :: _ => exact nomatch h
theorem comp2_set {t t' : Tg} {it it' : It} {c c' : Eo} {e : E} {i : Nat} {y : Str} {py spos : Pos} {v : Expr} (hit : SIt Γ cl it) (hc : ∀ e, c = .yes e → SE Γ cl e) (hit' : SIt Γ cl it') (hc' : ∀ e, c' = .yes e → SE Γ cl e) (he : SE Γ cl e) (L : LkS Γ cl X C sc)
    (hi : Γ.N[i]? = some y) (hl : locC sc y = true) (h : okE Γ (.comp2 t it c t' it' c' e) sc v = true) : PS X (.Assign [.Name y py] v spos) (tAsg (tW C (evG Γ cl (.comp2 t it c t' it' c' e))) (gName i)) := by
  have hN : X.N[i]? = some y := by rw [L.N]; exact hi
  have nd : X.N.Nodup := by rw [L.N]; exact L.nd
  have plain := (se_comp2 (t := t) (t' := t') hit hc hit' hc' he).pe X C sc _ L.toLk h
  obtain ⟨elt, tg, iter, ifs, tg1, iter1, ifs1, scope, pos, rfl, h1, h2, h3, h4, h5, h6, h7, h8⟩ := comp2_inv h
  cases hb : lineC sc scope y py pos with
  | false =>
    refine ps_set nd hN (locC_loc L.toLk hl) plain ?_ (.inl (L.fnT y))
    unfold swapsWith
    have hbk : X.env.blockKind = .function := by unfold Env.blockKind; rw [L.scope, L.kind]; rfl
    have hky : X.env.kindOf y = sc.names.lookup y := by unfold Env.kindOf; rw [L.scope]
    simp only [hbk, hky, Expr.pos]
    unfold lineC at hb
    show (pure ((true && sc.names.lookup y == some NameKind.local && py.line == pos.line) && !(scope.names.any fun (n, k) => n == y && (k == .local || k == .cell))) : Sem Bool) = pure false
    rw [Bool.true_and, hb]
  | true =>
    unfold lineC at hb
    simp only [Bool.and_eq_true, Bool.not_eq_true'] at hb
    obtain ⟨⟨b1, b2⟩, b3⟩ := hb
    have b1 : sc.names.lookup y = some .local := by simpa using b1
    have hk := blk_kind h8
    have ok : BlkOk X.N X.env.scope scope (ownOf Γ.N (t.slots ++ t'.slots)) := by rw [L.N, L.scope]; exact blkOk_by h8
    have rule := ps_setLc2 (pos := pos) (spos := spos) (py := py) (vs1 := t'.slots) L.calm nd hN (by rw [L.scope]; exact b1) (sw_true (by rw [L.scope]; exact L.kind) (by rw [L.scope]; exact b1) b2 b3) (hit.pi X C sc tg iter L.toLk h1) ok (fun i hi => by rw [own_snd]; exact List.mem_append_right _ hi)
      (fun s H Cc cls fp => pg_tg L.toLk hk h2 s H Cc cls fp) (fun s H Cc cls fp => test_pts hc (L.toLk.blk hk s H Cc cls fp) h3) (fun s H Cc cls fp => hit'.pi _ _ _ tg1 iter1 (L.toLk.blk hk s H Cc cls fp) h4) (fun s H Cc cls fp => pg_tg L.toLk hk h5 s H Cc cls fp)
      (fun s H Cc cls fp => test_pts hc' (L.toLk.blk hk s H Cc cls fp) h6) (fun s H Cc cls fp => tD_of (he.pe _ _ _ elt (L.toLk.blk hk s H Cc cls fp) h7)) (folded h1 X.env) (fun env x => folded h4 env x)
    refine PS_imp rule fun D σ H q => ?_
    rw [own_snd]
    exact comp2_read q
/-- what a statement x = e asks of e -/
def SSet (Γ : Gam) (cl : Nat → List D → FRes) (e : E) : Prop := ∀ X C sc i y py v spos, LkS Γ cl X C sc → Γ.N[i]? = some y → locC sc y = true → okE Γ e sc v = true → PS X (.Assign [.Name y py] v spos) (tAsg (tW C (evG Γ cl e)) (gName i))
theorem sset_plain {e : E} (h : SE Γ cl e) (hn : ∀ sc v, okE Γ e sc v = true → isComp v = false) : SSet Γ cl e := fun X C sc i y py v spos L hi hl ok =>
  ps_set (by rw [L.N]; exact L.nd) (by rw [L.N]; exact hi) (locC_loc L.toLk hl) (h.pe X C sc v L.toLk ok) (swaps_no (hn sc v ok) _ _ _) (.inl (L.fnT y))
theorem sset_comp {t : Tg} {it : It} {c : Eo} {e : E} (hit : SIt Γ cl it) (hc : ∀ e, c = .yes e → SE Γ cl e) (he : SE Γ cl e) : SSet Γ cl (.comp t it c e) := fun X C sc i y py v spos L hi hl ok => by
  cases v with
  | ListComp elt gens scope pos => exact comp_set hit hc he L hi hl ok
  | _ => exact nomatch ok
theorem st_asg {i : Nat} {e : E} (h : SSet Γ cl e) : SSt Γ cl (.asg i e) := by
  refine ⟨fun X C sc st L ok => ?_⟩
  have inv : ∃ y py v spos, st = .Assign [.Name y py] v spos ∧ (decide (Γ.N[i]? = some y) && locC sc y && okE Γ e sc v) = true := by
    unfold okS at ok
    split at ok <;> first | contradiction | skip
    all_goals first | (rename_i heq; cases heq; exact ⟨_, _, _, _, rfl, ok⟩) | (rename_i heq _; cases heq; exact ⟨_, _, _, _, rfl, ok⟩)
  obtain ⟨y, py, v, spos, rfl, ok'⟩ := inv
  simp only [Bool.and_eq_true, decide_eq_true_eq] at ok'
  exact PS_imp (h X C sc i y py v spos L ok'.1.1 ok'.1.2 ok'.2) fun D σ H q => asg_read q
theorem st_expr {e : E} (h : SE Γ cl e) : SSt Γ cl (.expr e) := by
  refine ⟨fun X C sc st L ok => ?_⟩
  cases st with
  | Expr v pos =>
    have ok : (!isComp v && okE Γ e sc v) = true := ok
    simp only [Bool.and_eq_true, Bool.not_eq_true'] at ok
    refine PS_imp (ps_expr (h.pe X C sc v L.toLk ok.2) (swaps_no ok.1 _ _ _)) fun D σ H ⟨M, ρ, r, q⟩ => ?_
    refine ⟨M, ρ, r.rep, (AfterS.expr r q).mono fun M1 H1 w ρ1 s1 r1 hs1 ⟨rs1, h1⟩ v hv => ?_⟩
    exact h1 M1 H1 σ s1 rs1 fun a z => .inl (hs1 a z)
  | _ => exact nomatch ok
theorem VW0.entry {v : V} {w : W} (r : RepS C M ρ σ H) (h : VW0 C.K H M' H' v w) : VW0 C.K C.H0 M' H' v w := h.from r.there0
theorem ret_other {e : E} {v : Expr} {pos : Pos} (h : PE X v (tW C (evG Γ cl e))) (heq : ∀ ρ, retOf (evG Γ cl e) e ρ = evG Γ cl e ρ) : PS X (.Return (some v) pos) (tS C (exec Γ.F cl (.ret e))) := by
  refine PS_imp (ps_ret h) fun D σ H ⟨M, ρ, r, q⟩ => ?_
  have q : AfterS C σ M H ρ ((retOf (evG Γ cl e) e ρ).bind fun p => .ok (.ret p.1, p.2)) D := q
  rw [heq] at q
  refine ⟨M, ρ, r.rep, (AfterS.expr r q).mono fun M1 H1 w ρ1 s1 r1 hs1 ⟨rs1, h1⟩ v hv => ?_⟩
  exact h1 M1 H1 σ s1 rs1 (fun a z => .inl (hs1 a z)) v (VW0.entry r hv)
/-- a slot is forgotten -/
theorem Rep.drop {i : Nat} (r : Rep K M0 M ρ σ H) : Rep K M0 M (ρ.set i none) σ H ∧ ∀ a, Ow (ρ.set i none) σ a → Ow ρ σ a := by
  refine ⟨⟨by simpa using r.len, r.dom, r.sub, fun j d e => ?_, fun j s xs e l => ?_, fun j xs a e q => ?_, fun j xs a e q => ?_, fun j k a s t xs ys e1 e2 l1 l2 q1 q2 => ?_⟩, fun a ⟨j, s, xs, e, l, q⟩ => ?_⟩
  · rcases set_get e with ⟨_, e'⟩ | ⟨hj, e⟩
    · cases e'
    · exact r.dat j d e
  · rcases set_get e with ⟨_, e'⟩ | ⟨hj, e⟩
    · cases e'
    · exact r.lst j s xs e l
  · rcases set_get e with ⟨_, e'⟩ | ⟨hj, e⟩
    · cases e'
    · exact r.own j xs a e q
  · rcases set_get e with ⟨_, e'⟩ | ⟨hj, e⟩
    · cases e'
    · exact r.io j xs a e q
  · rcases set_get e1 with ⟨_, e'⟩ | ⟨hj, e1⟩
    · cases e'
    · rcases set_get e2 with ⟨_, e'⟩ | ⟨hk, e2⟩
      · cases e'
      · exact r.inj j k a s t xs ys e1 e2 l1 l2 q1 q2
  · rcases set_get e with ⟨_, e'⟩ | ⟨hj, e⟩
    · cases e'
    · exact ⟨j, s, xs, e, l, q⟩
theorem st_ret {e : E} (h : SE Γ cl e) : SSt Γ cl (.ret e) := by
  refine ⟨fun X C sc st L ok => ?_⟩
  have inv : ∃ v pos, st = .Return (some v) pos ∧ okE Γ e sc v = true := by
    unfold okS at ok
    split at ok <;> first | contradiction | skip
    all_goals first | (rename_i heq; cases heq; exact ⟨_, _, rfl, ok⟩) | (rename_i heq _; cases heq; exact ⟨_, _, rfl, ok⟩)
  obtain ⟨v, pos, rfl, ok'⟩ := inv
  cases e with
  | var i =>
    cases v with
    | Name x p =>
      -- an own list leaves with the name
      refine PS_imp (ps_ret (var_pe L.toLk ok' : PE X (.Name x p) (tVar i))) fun D σ H ⟨M, ρ, r, q⟩ => ?_
      have q : AfterS C σ M H ρ ((retOf (evG Γ cl (.var i)) (.var i) ρ).bind fun p => .ok (.ret p.1, p.2)) D := q
      have q : AfterS C σ M H ρ ((match get ρ i with | some (.own xs) => .ok (.new xs, ρ.set i none) | _ => (Res.of (leak ρ i)).bind fun p => .ok (W.dat p.1, p.2) : Res (W × Ro)).bind fun p => .ok (.ret p.1, p.2)) D := q
      unfold leak at q
      cases hg : get ρ i with
      | none => rw [hg] at q; exact q.elim
      | some sv =>
        rw [hg] at q
        cases sv with
        | io xs => exact q.elim
        | dat d =>
          obtain ⟨v, h1, h2⟩ := r.rep.dat i d (get_some hg)
          exact ⟨v, h1, q M H σ .refl r (fun a z => .inl z) v h2⟩
        | own xs =>
          obtain ⟨b, us, h1, h2, h3, h4⟩ := r.rep.lst i _ xs (get_some hg) rfl
          obtain ⟨d1, d2⟩ := r.rep.drop (i := i)
          refine ⟨_, h1, q M H σ .refl ⟨d1, r.new0, r.there0⟩ (fun a z => .inl (d2 a z)) _ ⟨b, us, rfl, ?_, h2, h3, h4⟩⟩
          rcases r.new0 b h4 with z | z
          · exact (r.rep.own i xs b (get_some hg) h1 z).elim
          · exact z
    | _ => exact nomatch ok'
  | _ => exact ret_other (h.pe X C sc v L.toLk ok') fun _ => rfl
theorem st_retN : SSt Γ cl .retN := by
  refine ⟨fun X C sc st L ok => ?_⟩
  cases st with
  | Return v pos =>
    cases v with
    | none => exact PS_imp ps_retN fun D σ H ⟨M, ρ, r, q⟩ => q M H σ .refl r (fun a z => .inl z) _ (Dat.non)
    | some v => exact nomatch ok
  | _ => exact nomatch ok
end EV

end
section
set_option linter.all false
set_option maxRecDepth 100000
set_option Elab.async false
namespace EV
open PySem L2 PyProof.Rows
variable {Γ : Gam} {cl : Nat → List D → FRes} {X : Cx} {C : Ctx} {sc : Scope} {K : PySem.W.Frag} {M M' M0 M1 : AS} {H H' H1 : Hp} {σ : EV.St} {ρ ρ' ρ1 : Ro}
/-! ### statements one behind another -/
theorem AfterS.go {q : Res (Flow × Ro)} {D : Ends} {σ1 : EV.St} (r : RepS C M ρ σ H) (s : Stp (Ow ρ σ) M H M1 H1) (hs : OwS ρ σ H ρ1 σ1) (h : AfterS C σ M H ρ q D) : AfterS C σ1 M1 H1 ρ1 q D := by
  cases q with
  | ok p => exact fun M2 H2 σ2 s2 r2 hs2 => h M2 H2 σ2 (s.transS r.rep hs s2) r2 (hs.trans s.there hs2)
  | exc x ρ' => exact fun M2 H2 σ2 cls d s2 r2 hs2 => h M2 H2 σ2 cls d (s.transS r.rep hs s2) r2 (hs.trans s.there hs2)
  | stuck => exact h
theorem AfterS.bindS {q : Res (Flow × Ro)} {f : Flow × Ro → Res (Flow × Ro)} {D D' : Ends} (r : RepS C M ρ σ H) (h : AfterS C σ M H ρ (q.bind f) D)
    (hE : ∀ fl ρ1 M1 H1 σ1, q = .ok (fl, ρ1) → RepS C M1 ρ1 σ1 H1 → Stp (Ow ρ σ) M H M1 H1 → OwS ρ σ H ρ1 σ1 → AfterS C σ1 M1 H1 ρ1 (f (fl, ρ1)) D → ends C D' M1 H1 σ1 fl) : AfterS C σ M H ρ q D' := by
  cases q with
  | ok p => exact fun M1 H1 σ1 s1 r1 hs1 => hE p.1 p.2 M1 H1 σ1 rfl r1 s1 hs1 (AfterS.go r s1 hs1 h)
  | exc x ρ' => exact h
  | stuck => exact h
/-- an expression, then a statement -/
theorem AfterS.exprS {α : Type} {q : Res (α × Ro)} {f : α × Ro → Res (Flow × Ro)} {D : Ends} (r : RepS C M ρ σ H) (h : AfterS C σ M H ρ (q.bind f) D) :
    After C σ M H ρ q (fun M1 H1 a ρ1 => RepS C M1 ρ1 σ H1 ∧ AfterS C σ M1 H1 ρ1 (f (a, ρ1)) D) :=
  (AfterS.expr r h).mono fun M1 H1 a ρ1 s1 r1 hs1 ⟨rs, h1⟩ => ⟨rs, AfterS.go r s1 (fun a z => .inl (hs1 a z)) h1⟩
theorem AfterS.nowS {fl : Flow} {D : Ends} (r : RepS C M ρ σ H) (h : AfterS C σ M H ρ (.ok (fl, ρ)) D) : ends C D M H σ fl := h M H σ .refl r fun a z => .inl z
theorem st_pass : SSt Γ cl .pass := ⟨fun X C sc st L ok => by
  cases st with
  | Pass p => exact PS_imp ps_pass fun D σ H ⟨M, ρ, r, q⟩ => AfterS.nowS r q
  | _ => exact nomatch ok⟩
theorem st_brk : SSt Γ cl .brk := ⟨fun X C sc st L ok => by
  cases st with
  | Break p => exact PS_imp ps_break fun D σ H ⟨M, ρ, r, q⟩ => AfterS.nowS r q
  | _ => exact nomatch ok⟩
theorem st_cont : SSt Γ cl .cont := ⟨fun X C sc st L ok => by
  cases st with
  | Continue p => exact PS_imp ps_continue fun D σ H ⟨M, ρ, r, q⟩ => AfterS.nowS r q
  | _ => exact nomatch ok⟩
theorem st_ite {c : E} {a b : Ss} (hc : SE Γ cl c) (ha : SSts Γ cl a) (hb : SSts Γ cl b) : SSt Γ cl (.ite c a b) := by
  refine ⟨fun X C sc st L ok => ?_⟩
  cases st with
  | If t x y pos =>
    have ok : (okT Γ c sc t && okSs Γ sc a x && okSs Γ sc b y) = true := ok
    simp only [Bool.and_eq_true] at ok
    refine PS_imp (ps_if (hc.pt X C sc t L.toLk ok.1.1) (ha.pss X C sc x L ok.1.2) (hb.pss X C sc y L ok.2)) fun D σ H ⟨M, ρ, r, q⟩ => ?_
    refine ⟨M, ρ, r.rep, (AfterS.exprS r q).mono fun M1 H1 k ρ1 s1 r1 hs1 ⟨rs, h1⟩ => ?_⟩
    cases k with
    | true => exact ⟨M1, ρ1, rs, h1⟩
    | false => exact ⟨M1, ρ1, rs, h1⟩
  | _ => exact nomatch ok
theorem sts_nil : SSts Γ cl .nil := ⟨fun X C sc st L ok => by
  cases st with
  | nil => exact PSs_imp pss_nil fun D σ H ⟨M, ρ, r, q⟩ => AfterS.nowS r q
  | cons => exact nomatch ok⟩
theorem sts_cons {s : S} {rs : Ss} (h1 : SSt Γ cl s) (h2 : SSts Γ cl rs) : SSts Γ cl (.cons s rs) := ⟨fun X C sc st L ok => by
  cases st with
  | nil => exact nomatch ok
  | cons x xs =>
    have ok : (okS Γ sc s x && okSs Γ sc rs xs) = true := ok
    rw [Bool.and_eq_true] at ok
    refine PSs_imp (pss_cons (h1.ps X C sc x L ok.1) (h2.pss X C sc xs L ok.2)) fun D σ H ⟨M, ρ, r, q⟩ => ?_
    refine ⟨M, ρ, r, AfterS.bindS r q fun fl ρ1 M1 H1 σ1 e r1 s1 hs1 h => ?_⟩
    cases fl with
    | next => exact ⟨M1, ρ1, r1, h⟩
    | ret w => exact AfterS.nowS r1 h
    | brk => exact AfterS.nowS r1 h
    | cont => exact AfterS.nowS r1 h⟩
/-! ### targets in a def's own frame -/
theorem pg_fn (L : LkS Γ cl X C sc) {i : Nat} {e : Expr} (h : nameC Γ.N sc i e = true) : PG X e (gName i) := by
  cases e with
  | Name x p =>
    have h : (decide (Γ.N[i]? = some x) && locC sc x) = true := h
    simp only [Bool.and_eq_true, decide_eq_true_eq] at h
    exact pg_name (by rw [L.N]; exact L.nd) (by rw [L.N]; exact h.1) (locC_loc L.toLk h.2) (.inl (L.fnT x))
  | _ => exact nomatch h
theorem pgs_fn (L : LkS Γ cl X C sc) : ∀ (is : List Nat) (es : List Expr), namesC Γ.N sc is es = true →
    PGs X es (is.foldr (fun i u => gCons (gName i) u) gNil) ∧ (assignEach es X.env).length = is.length ∧ (assignEach es X.env).findIdx? (·.1) = none
  | [], [], _ => ⟨pgs_nil, rfl, rfl⟩
  | [], _ :: _, h => nomatch h
  | _ :: _, [], h => nomatch h
  | i :: is, e :: es, h => by
    have h : (nameC Γ.N sc i e && namesC Γ.N sc is es) = true := h
    rw [Bool.and_eq_true] at h
    obtain ⟨g1, g2, g3⟩ := pgs_fn L is es h.2
    cases e with
    | Name x p =>
      refine ⟨pgs_cons (pg_fn L h.1) g1 rfl, ?_, ?_⟩
      · rw [show assignEach (Expr.Name x p :: es) X.env = (false, assign (Expr.Name x p) X.env) :: assignEach es X.env from rfl]
        simp [g2]
      · rw [show assignEach (Expr.Name x p :: es) X.env = (false, assign (Expr.Name x p) X.env) :: assignEach es X.env from rfl]
        rw [List.findIdx?_cons]
        simp [g3]
    | _ => exact nomatch h.1
theorem pg_tgf (L : LkS Γ cl X C sc) {t : Tg} {e : Expr} (h : tgC Γ.N sc t e = true) : PG X e (gTg C.K t) := by
  cases t with
  | one i => exact pg_fn L h
  | many is =>
    cases e with
    | Tuple es k p =>
      obtain ⟨g1, g2, g3⟩ := pgs_fn L is es h
      rw [← L.K]
      exact pg_tup L.calm g1 g2 g3
    | _ => exact nomatch h
/-! ### loops -/
theorem st_while {n : Nat} {c : E} {b : Ss} (hc : SE Γ cl c) (hb : SSts Γ cl b) : SSt Γ cl (.while_ n c b) := by
  refine ⟨fun X C sc st L ok => ?_⟩
  have inv : ∃ t body pos, st = .While t body [] pos ∧ (okT Γ c sc t && okSs Γ sc b body) = true := by
    unfold okS at ok
    split at ok <;> first | contradiction | skip
    all_goals first | (rename_i heq; cases heq; exact ⟨_, _, _, rfl, ok⟩) | (rename_i heq _; cases heq; exact ⟨_, _, _, rfl, ok⟩)
  obtain ⟨t, body, pos, rfl, ok'⟩ := inv
  rw [Bool.and_eq_true] at ok'
  refine PS_imp (ps_while L.pass (hc.pt X C sc t L.toLk ok'.1) (hb.pss X C sc body L ok'.2)) fun D σ H ⟨M, ρ, r, q⟩ => ?_
  refine ⟨fun m σ' H' => ∃ M ρ, RepS C M ρ σ' H' ∧ AfterS C σ' M H' ρ (whileL (testOf (ev Γ.F cl c)) (execs Γ.F cl b) m ρ) D, ⟨n, M, ρ, r, q⟩, ?_⟩
  rintro m σ H ⟨M, ρ, r, q⟩
  cases m with
  | zero => exact q.elim
  | succ m =>
    unfold whileL at q
    refine ⟨M, ρ, r.rep, (AfterS.exprS r q).mono fun M1 H1 k ρ1 s1 r1 hs1 ⟨rs, h1⟩ => ?_⟩
    cases k with
    | true =>
      rw [if_pos rfl]
      refine ⟨fun σ' H' => ∃ M ρ, RepS C M ρ σ' H' ∧ AfterS C σ' M H' ρ (whileL (testOf (ev Γ.F cl c)) (execs Γ.F cl b) m ρ) D, fun σ' H' z => ⟨m, Nat.lt_succ_self _, z⟩, M1, ρ1, rs, AfterS.bindS (f := fun p => match p.1 with
        | .next => whileL (testOf (ev Γ.F cl c)) (execs Γ.F cl b) m p.2
        | .cont => whileL (testOf (ev Γ.F cl c)) (execs Γ.F cl b) m p.2
        | .brk => .ok (.next, p.2)
        | .ret w => .ok (.ret w, p.2)) rs h1 fun fl ρ2 M2 H2 σ2 e r2 s2 hs2 h => ?_⟩
      cases fl with
      | next => exact ⟨M2, ρ2, r2, h⟩
      | cont => exact ⟨M2, ρ2, r2, h⟩
      | brk => exact AfterS.nowS (fl := .next) r2 h
      | ret w => exact AfterS.nowS r2 h
    | false => exact AfterS.nowS (fl := .next) rs h1
theorem RepS.step0 (r : RepS C M ρ σ H) (s : Stp0 M H M1 H1) : RepS C M1 ρ σ H1 := r.after s.stp (r.rep.step0 s)
theorem st_for {t : Tg} {it : It} {b : Ss} (hit : SIt Γ cl it) (hb : SSts Γ cl b) : SSt Γ cl (.for_ t it b) := by
  refine ⟨fun X C sc st L ok => ?_⟩
  have inv : ∃ tg iter body pos, st = .For tg iter body [] pos ∧ (okIt Γ it sc iter (isTuple tg) && tgC Γ.N sc t tg && okSs Γ sc b body) = true := by
    unfold okS at ok
    split at ok <;> first | contradiction | skip
    all_goals first | (rename_i heq; cases heq; exact ⟨_, _, _, _, rfl, ok⟩) | (rename_i heq _; cases heq; exact ⟨_, _, _, _, rfl, ok⟩)
  obtain ⟨tg, iter, body, pos, rfl, ok'⟩ := inv
  simp only [Bool.and_eq_true] at ok'
  refine PS_imp (ps_for L.pass L.calm (hit.pi X C sc tg iter L.toLk ok'.1.1) (pg_tgf L ok'.1.2) (hb.pss X C sc body L ok'.2) (folded ok'.1.1 X.env)) fun D σ H ⟨M, ρ, r, q⟩ => ?_
  refine ⟨M, ρ, r.rep, (AfterS.exprS r q).mono fun M1 H1 items ρ1 s1 r1 hs1 ⟨rs, h1⟩ J hJ hz => ?_⟩
  obtain ⟨n, G, Y, hn, wk, hG, hY⟩ := hJ
  refine for_it wk (fun i σ' H' => ∃ M ρ, RepS C M ρ σ' H' ∧ Stp (Ow ρ1 σ) M1 H1 M H' ∧ OwS ρ1 σ H1 ρ σ' ∧ AfterS C σ' M H' ρ (forL (bindT t) (execs Γ.F cl b) (items.drop i) ρ) D) ?_ ?_ ?_ ?_
  · exact ⟨M1, ρ1, rs, .refl, fun a z => .inl z, h1⟩
  · rintro i σ' H' hi ⟨M2, ρ2, r2, s2, hs2, q2⟩
    exact hG _ M2 H' r1.owl s2
  · rintro i x σ' H' H2 hi ⟨M2, ρ2, r2, s2, hs2, q2⟩ hy
    rw [hn] at hi
    obtain ⟨s0, d, hd1, hd2⟩ := hY _ M2 H' i x H2 r1.owl s2 hi hy
    have hdrop : items.drop i = d :: items.drop (i + 1) := by
      rw [List.drop_eq_getElem_cons hi]
      rw [List.getElem?_eq_getElem hi] at hd1
      cases hd1
      rfl
    rw [hdrop] at q2
    unfold forL at q2
    obtain ⟨ρ3, e3, q3⟩ := q2.of
    have r2' := r2.step0 s0
    have sB : Stp (Ow ρ1 σ) M1 H1 M2 H2 := s2.trans (O' := fun _ => False) (fun _ z => z.elim) s0.stp
    refine gTg_read r2'.rep hd2 e3 fun σ3 r3 hs3 _ => ?_
    have r3' : RepS C M2 ρ3 σ3 H2 := ⟨r3, r2'.new0, r2'.there0⟩
    have o3 : OwS ρ2 σ' H' ρ3 σ3 := fun a z => .inl (hs3 a z)
    have q3' := AfterS.go r2 s0.stp o3 q3
    refine ⟨M2, ρ3, r3', AfterS.bindS r3' q3' fun fl ρ4 M4 H4 σ4 e r4 s4 hs4 h => ?_⟩
    have oB : OwS ρ1 σ H1 ρ3 σ3 := hs2.trans s2.there o3
    have cont : AfterS C σ4 M4 H4 ρ4 (forL (bindT t) (execs Γ.F cl b) (items.drop (i + 1)) ρ4) D → ∃ M ρ, RepS C M ρ σ4 H4 ∧ Stp (Ow ρ1 σ) M1 H1 M H4 ∧ OwS ρ1 σ H1 ρ σ4 ∧ AfterS C σ4 M H4 ρ (forL (bindT t) (execs Γ.F cl b) (items.drop (i + 1)) ρ) D :=
      fun h => ⟨M4, ρ4, r4, sB.transS r1 oB s4, oB.trans sB.there hs4, h⟩
    cases fl with
    | next => exact cont h
    | cont => exact cont h
    | brk => exact AfterS.nowS (fl := .next) r4 h
    | ret w => exact AfterS.nowS r4 h
  · rintro σ' H' ⟨M2, ρ2, r2, s2, hs2, q2⟩
    rw [hn, List.drop_length] at q2
    exact AfterS.nowS (fl := .next) r2 q2
end EV

end
section
set_option linter.all false
set_option maxRecDepth 100000
set_option Elab.async false
namespace EV
open PySem L2 PyProof.Rows
variable {Γ : Gam} {cl : Nat → List D → FRes} {X : Cx} {C : Ctx} {sc : Scope} {K : PySem.W.Frag} {M M' M0 M1 : AS} {H H' H1 : Hp} {σ : EV.St} {ρ ρ' ρ1 : Ro}
/-! ### a slot's list is changed -/
def Sv.put : Sv → List D → Sv
  | .dat d, _ => .dat d
  | .own _, ys => .own ys
  | .io _, ys => .io ys
theorem put_lst {s : Sv} {xs ys : List D} (h : s.lst? = some xs) : (s.put ys).lst? = some ys := by
  cases s with
  | dat d => cases h
  | own zs => rfl
  | io zs => rfl
theorem put_dat {s : Sv} {xs ys : List D} {d : D} (h : s.lst? = some xs) (e : s.put ys = .dat d) : False := by
  cases s with
  | dat d => cases h
  | own zs => cases e
  | io zs => cases e
theorem put_own {s : Sv} {xs ys zs : List D} (h : s.lst? = some xs) (e : s.put ys = .own zs) : s = .own xs ∧ zs = ys := by cases s <;> cases h <;> cases e <;> exact ⟨rfl, rfl⟩
theorem put_io {s : Sv} {xs ys zs : List D} (h : s.lst? = some xs) (e : s.put ys = .io zs) : s = .io xs ∧ zs = ys := by cases s <;> cases h <;> cases e <;> exact ⟨rfl, rfl⟩
theorem Rep.write {i : Nat} {s : Sv} {xs ys : List D} {a : Addr} {us vs : List V} (r : Rep K M0 M ρ σ H) (hi : ρ[i]? = some (some s)) (hl : s.lst? = some xs) (ha : σ[i]? = some (some (V.ref a))) (hH : H a = some (.lst us)) (hM : M a) (hd : DatA K M H vs ys) :
    Rep K M0 M (ρ.set i (some (s.put ys))) σ (upd H a (.lst vs)) ∧ Stp (Ow ρ σ) M H M (upd H a (.lst vs)) ∧ ∀ b, Ow (ρ.set i (some (s.put ys))) σ b → Ow ρ σ b := by
  have st : Stp (Ow ρ σ) M H M (upd H a (.lst vs)) := by
    refine ⟨fun b o e n => ?_, fun b z => .inl z, fun b z _ => z, fun b o e => ?_⟩
    · have ne : b ≠ a := fun z => n (z ▸ ⟨i, s, xs, hi, hl, ha⟩)
      rw [upd_ne ne]; exact e
    · by_cases q : b = a
      · subst q; exact ⟨_, upd_same⟩
      · exact ⟨o, by rw [upd_ne q]; exact e⟩
  have w := r.owl
  refine ⟨⟨by simpa using r.len, fun b z => ?_, r.sub, fun j d e => ?_, fun j t zs e l => ?_, fun j zs b e q => ?_, fun j zs b e q => ?_, fun j k b t u zs ws e1 e2 l1 l2 q1 q2 => ?_⟩, st, fun b ⟨j, t, zs, e, l, q⟩ => ?_⟩
  · obtain ⟨o, e⟩ := r.dom b z
    exact st.there b o e
  · rcases set_get e with ⟨rfl, e'⟩ | ⟨hj, e⟩
    · exact (put_dat hl (Option.some.inj e').symm).elim
    · obtain ⟨v, h1, h2⟩ := r.dat j d e
      exact ⟨v, h1, h2.step w st⟩
  · rcases set_get e with ⟨rfl, e'⟩ | ⟨hj, e⟩
    · cases e'
      rw [put_lst hl] at l
      cases l
      exact ⟨a, vs, ha, upd_same, hd.step w st, hM⟩
    · obtain ⟨b, ws, h1, h2, h3, h4⟩ := r.lst j t zs e l
      have ne : b ≠ a := fun z => hj (r.inj j i a t s zs xs e hi l hl (z ▸ h1) ha)
      exact ⟨b, ws, h1, by rw [upd_ne ne]; exact h2, h3.step w st, h4⟩
  · rcases set_get e with ⟨rfl, e'⟩ | ⟨hj, e⟩
    · obtain ⟨q1, _⟩ := put_own hl (Option.some.inj e').symm
      exact r.own j xs b (q1 ▸ hi) q
    · exact r.own j zs b e q
  · rcases set_get e with ⟨rfl, e'⟩ | ⟨hj, e⟩
    · obtain ⟨q1, _⟩ := put_io hl (Option.some.inj e').symm
      exact r.io j xs b (q1 ▸ hi) q
    · exact r.io j zs b e q
  · have old : ∀ {j : Nat} {t : Sv} {zs : List D}, (ρ.set i (some (s.put ys)))[j]? = some (some t) → t.lst? = some zs → ∃ t' zs', ρ[j]? = some (some t') ∧ t'.lst? = some zs' := fun {j t zs} e l => by
      rcases set_get e with ⟨rfl, e'⟩ | ⟨hj, e⟩
      · exact ⟨s, xs, hi, hl⟩
      · exact ⟨t, zs, e, l⟩
    obtain ⟨t', zs', e1', l1'⟩ := old e1 l1
    obtain ⟨u', ws', e2', l2'⟩ := old e2 l2
    exact r.inj j k b t' u' zs' ws' e1' e2' l1' l2' q1 q2
  · rcases set_get e with ⟨rfl, e'⟩ | ⟨hj, e⟩
    · exact ⟨_, s, xs, hi, hl, q⟩
    · exact ⟨j, t, zs, e, l, q⟩
/-! ### methods -/
theorem ext_seq {T : String} (hT : T = "list" ∨ T = "tuple") (l : Addr) (items : Array Value) (n : Nat) (b : Addr) (items2 : Array Value) (n2 : Nat) (dct : Option Addr) (sl : Array (Option Value)) (hs0 : ¬(!items.isEmpty && Builtin.List.listTooLong (items.size + items2.size)) = true) (hs1 : items.size ≤ sizeLine) (hs2 : items.size + items2.size ≤ sizeLine + 1) :
    Meets (Builtin.«list.extend» ⟨[.ref l, .ref b], []⟩) (fun _ R s => s.heap.get? l = some { cls := .type "list", dict := none, data := .seq items n, slots := #[] } ∧ s.heap.get? b = some { cls := .type T, dict := dct, data := .seq items2 n2, slots := sl } ∧ R (.ok (.ret Value.none)) { s with heap := s.heap.update l (Obj.mapSeq fun x => x ++ items2), toks := s.toks }) := by
  have hz' : (items ++ items2).size ≤ sizeLine + 1 := by rw [Array.size_append]; exact hs2
  have f1 := AutoSeq1.idx_int; have f2 := AutoSeq1.sub_tuple_tuple; have f3 := AutoSeq1.sub_list_list; have f4 := AutoSeq1.sub_tuple_list; have f5 := AutoSeq1.sub_list_tuple
  rcases hT with rfl | rfl
  · refine .of_wp fun prog w A R s h => ?_
    obtain ⟨hp, g, d, tk, os⟩ := s
    obtain ⟨hl, hb, h⟩ := h
    wp_walk using (wpAny_updateSeq hl rfl (hz := hs1) (_hz' := hz')), AutoSeq1.wpAny_loadPart' hl, AutoSeq1.wpAny_loadPart' hb; exact ⟨_, rfl, h⟩
  · refine .of_wp fun prog w A R s h => ?_
    obtain ⟨hp, g, d, tk, os⟩ := s
    obtain ⟨hl, hb, h⟩ := h
    wp_walk using (wpAny_updateSeq hl rfl (hz := hs1) (_hz' := hz')), AutoSeq1.wpAny_loadPart' hl, AutoSeq1.wpAny_loadPart' hb; exact ⟨_, rfl, h⟩
def rExt (K : PySem.W.Frag) : V → List V → Hp → VK → Prop := fun x vs H Q => ∃ M l us y d ys, x = .ref l ∧ vs = [y] ∧ H l = some (.lst us) ∧ Dat K M H y d ∧ items d = some ys ∧ us.length + ys.length ≤ sizeLine ∧ ∀ ws, DatA K M H ws ys → Q .non (upd H l (.lst (us ++ ws)))
theorem mt_ext : MtM X "list.extend" (rExt X.K) := by
  intro pins s σ H x vs v us' Q I rx rv h
  obtain ⟨M, l, xs, y, d, ys, rfl, rfl, hH, hd, hi, hz, q⟩ := h
  cases rx
  obtain ⟨u, rfl, ru⟩ := rv.one
  obtain ⟨z, its, n, r, hl, e⟩ := I.lstM hH
  have go : ∀ (T : String) (hT : T = "list" ∨ T = "tuple") (b : Addr) (ws : List V) (its2 : List Value) (o : Obj) (n2 : Nat), DatA X.K M H ws ys → Vals ws its2 → s.heap.get? b = some o → o.cls = .type T → o.data = .seq its2.toArray n2 → wpAny (model X.prog X.w) X.A (call (.builtin "list.extend") [.ref l, .ref b]) (EP X pins σ Q) X.xe s := by
    intro T hT b ws its2 o n2 hws r2 e2 hc hda
    have hl2 := r2.length
    have hl3 := hws.length
    have hsz : its.toArray.size + its2.toArray.size ≤ sizeLine := by rw [List.size_toArray, List.size_toArray]; omega
    have hlong : ¬ (!its.toArray.isEmpty && Builtin.List.listTooLong (its.toArray.size + its2.toArray.size)) = true := by
      rw [notLongL hsz, Bool.and_false]
      exact Bool.false_ne_true
    obtain ⟨c, dct, da, sl⟩ := o
    cases hc
    cases hda
    refine call_meets F.slot_list_extend ⟨_, e, rfl⟩ F.entry_list_extend (F.args_list_extend_2 _ _)
      (ext_seq hT l its.toArray n b its2.toArray n2 dct sl hlong (by rw [List.size_toArray]; omega) (by omega)) ⟨e, e2, ?_⟩
    refine ⟨.non, _, I.lset (its' := its ++ its2) hH e (by simp) (r.append r2) ?_, rfl, q ws hws⟩
    rw [List.length_append]
    omega
  cases hd with
  | lst rr nn qq =>
    cases hi
    cases ru
    obtain ⟨its2, r2, ⟨o, n2, p1, p2, p3, p4⟩, _⟩ := I.list (.inl rr)
    exact go "list" (.inl rfl) _ _ its2 o n2 qq r2 p1 p2 p4
  | tup rr qq =>
    cases hi
    cases ru
    obtain ⟨its2, r2, ⟨o, p1, p2, n2, p4⟩, _⟩ := I.tuple rr
    exact go "tuple" (.inr rfl) _ _ its2 o n2 qq r2 p1 p2 p4
  | _ => cases hi
def rPopK : V → List V → Hp → VK → Prop := fun x vs H Q => ∃ l xs i k y, x = .ref l ∧ vs = [.int i] ∧ H l = some (.lst xs) ∧ EV.ixN xs.length i = some k ∧ xs[k]? = some y ∧ Q y (upd H l (.lst (xs.eraseIdx k)))
theorem mt_popK : MtM X "list.pop" rPopK := by
  intro pins s σ H x vs v us Q I rx rv h
  obtain ⟨l, xs, i, k, y, e1, e2, hH, hk, hy, q⟩ := h
  obtain ⟨z, _⟩ := I.lstM hH
  obtain ⟨h1, h2, h3, h4⟩ := ixN_seq (ixN_same ▸ hk)
  have hn := line63
  exact mt_popAt pins s σ H x vs v us Q I rx rv ⟨l, xs, i, k, y, e1, e2, hH, by omega, by omega, h1, hy, q⟩
end EV

end
section
set_option linter.all false
set_option maxRecDepth 100000
set_option Elab.async false
namespace EV
open PySem L2 PyProof.Rows
variable {Γ : Gam} {cl : Nat → List D → FRes} {X : Cx} {C : Ctx} {sc : Scope} {K : PySem.W.Frag} {M M' M0 M1 : AS} {H H' H1 : Hp} {σ : EV.St} {ρ ρ' ρ1 : Ro}
/-! ### a method on a slot's list -/
theorem backTo_plain (pos : Pos) (env : Env) : ∀ {es : Es} {xs : List Expr}, okEs Γ es sc xs = true → (backTo pos (starEach xs env)).all (fun x => !x.1) = true
  | es, xs, h => by
    have := nostar pos env h
    rw [List.any_eq_false] at this
    rw [List.all_eq_true]
    intro x hx
    have q := this x hx
    cases e : x.1 with
    | false => rfl
    | true => exact absurd e q
def rMe (K : PySem.W.Frag) : Me → V → List V → Hp → VK → Prop
  | .append => rAppend
  | .extend => rExt K
  | .popAt => rPopK
theorem me_rule {m : Me} : ∃ id, Slot "list" (methName m) id ∧ typeOf (.builtin id) = pure (.type "method_descriptor") ∧ MtR X id (rMe X.K m) := by
  cases m with
  | append => exact ⟨_, F.slot_list_append, F.type_list_append, mt_append⟩
  | extend => exact ⟨_, F.slot_list_extend, F.type_list_extend, mt_ext⟩
  | popAt => exact ⟨_, F.slot_list_pop, F.type_list_pop, mt_popK⟩
theorem meth_read {m : Me} {i : Nat} {es : Es} {Q : VK} (h : tW C (evG Γ cl (.meth m i es)) σ H Q) :
    tBM C.K "list" (rMe C.K m) (tVar i) (fun σ H Q => ∃ M ρ, Rep C.K C.M0 M ρ σ H ∧ After C σ M H ρ (evL Γ.F cl es ρ) fun M' H' ds _ => ∀ vs, DatA C.K M' H' vs ds → Q vs H') σ H Q := by
  obtain ⟨M, ρ, r, q⟩ := h
  have q : After C σ M H ρ (if isOwnSlot ρ i then (evL Γ.F cl es ρ).bind fun p => methE m i p.1 p.2 else .stuck) _ := q
  split at q
  · rename_i ho
    obtain ⟨xs0, ho⟩ := ownSlot ho
    obtain ⟨a, us0, h1, h2, h3, h4⟩ := r.lst i _ xs0 ho rfl
    refine ⟨_, h1, .inl ⟨rfl, us0, .inl (.inl h2)⟩, M, ρ, r, (After.bind q).mono fun M1 H1 ds ρ1 s1 r1 hs1 q1 vs hvs => ?_⟩
    unfold methE at q1
    cases hg : get ρ1 i with
    | none => rw [hg] at q1; exact q1.elim
    | some sv =>
      rw [hg] at q1
      cases sv with
      | dat d => exact q1.elim
      | io d => exact q1.elim
      | own xs =>
        have hg' := get_some hg
        obtain ⟨a', us, g1, g2, g3, g4⟩ := r1.lst i _ xs hg' rfl
        rw [h1] at g1
        cases g1
        have hlen := g3.length
        cases m with
        | append =>
          match ds, hvs, q1 with
          | [d], .cons (v := y) hy .nil, q1 =>
            dsimp only at q1
            split at q1
            · rename_i hz
              obtain ⟨w1, w2, w3⟩ := r1.write hg' rfl h1 g2 g4 (g3.append (.cons hy .nil))
              exact ⟨a, us, y, rfl, rfl, g2, by omega, q1 M1 _ w2 w1 w3 _ .non⟩
            · exact q1.elim
          | [], _, q1 => exact q1.elim
          | _ :: _ :: _, _, q1 => exact q1.elim
        | extend =>
          match ds, hvs, q1 with
          | [d], .cons (v := y) hy .nil, q1 =>
            dsimp only at q1
            split at q1
            · rename_i ys hys
              split at q1
              · rename_i hz
                refine ⟨M1, a, us, y, d, ys, rfl, rfl, g2, hy, hys, by omega, fun ws hws => ?_⟩
                obtain ⟨w1, w2, w3⟩ := r1.write hg' rfl h1 g2 g4 (g3.append hws)
                exact q1 M1 _ w2 w1 w3 _ .non
              · exact q1.elim
            · exact q1.elim
          | [], _, q1 => exact q1.elim
          | _ :: _ :: _, _, q1 => exact q1.elim
        | popAt =>
          match ds, hvs, q1 with
          | [.int k], .cons (.int _) .nil, q1 =>
            dsimp only at q1
            split at q1
            · rename_i j hj
              split at q1
              · rename_i d hd
                obtain ⟨y, hy1, hy2⟩ := g3.get hd
                obtain ⟨w1, w2, w3⟩ := r1.write hg' rfl h1 g2 g4 (g3.eraseIdx j)
                exact ⟨a, us, k, j, y, rfl, rfl, g2, by rw [hlen]; exact hj, hy1, q1 M1 _ w2 w1 w3 _ (hy2.step r1.owl w2)⟩
              · exact q1.elim
            · exact q1.elim
          | [.none], _, q1 => exact q1.elim
          | [.bool _], _, q1 => exact q1.elim
          | [.str _], _, q1 => exact q1.elim
          | [.list _], _, q1 => exact q1.elim
          | [.tuple _], _, q1 => exact q1.elim
          | [.dict _], _, q1 => exact q1.elim
          | [], _, q1 => exact q1.elim
          | .int _ :: _ :: _, _, q1 => exact q1.elim
          | .none :: _ :: _, _, q1 => exact q1.elim
          | .bool _ :: _ :: _, _, q1 => exact q1.elim
          | .str _ :: _ :: _, _, q1 => exact q1.elim
          | .list _ :: _ :: _, _, q1 => exact q1.elim
          | .tuple _ :: _ :: _, _, q1 => exact q1.elim
          | .dict _ :: _ :: _, _, q1 => exact q1.elim
  · exact q.elim
theorem se_meth {m : Me} {i : Nat} {es : Es} (hs : SAll Γ cl es) : SE Γ cl (.meth m i es) := by
  refine ⟨fun X C sc e L h => ?_, fun X C sc e L h => by cases e <;> exact nomatch h⟩
  cases e with
  | Call f xs ks pos =>
    cases ks with
    | cons => exact nomatch h
    | nil =>
      have h : (methC Γ.N sc m i f pos && decide (xs.length = 1) && okEs Γ es sc xs) = true := h
      simp only [Bool.and_eq_true, decide_eq_true_eq] at h
      obtain ⟨⟨h1, h2⟩, h3⟩ := h
      cases f with
      | Attribute o nm ap =>
        cases o with
        | Name x p =>
          have h1 : (decide (nm = methName m) && decide (Γ.N[i]? = some x) && visC sc x && nmC x && (ap.endLine == pos.line)) = true := h1
          simp only [Bool.and_eq_true] at h1
          obtain ⟨⟨⟨⟨g1, g2⟩, g3⟩, g4⟩, g5⟩ := h1
          cases (of_decide_eq_true g1)
          match xs, h2 with
          | [y], _ =>
            obtain ⟨id, r1, r2, r3⟩ := me_rule (X := X) (m := m)
            match es, hs, h3 with
            | .cons e0 .nil, hs, h3 =>
              have h3' := h3
              have h3 : (okE Γ e0 sc y && true) = true := h3
              rw [Bool.and_true] at h3
              have star := star_of h3 [] X.env
              refine PE_imp (pe_bm F.plainAttrs_list r1 r2 r3 (var_pe L (by simp only [Bool.and_eq_true]; exact ⟨⟨g2, g3⟩, g4⟩) : PE X (.Name x p) (tVar i)) (pa_L L _ [y] hs h3') rfl ?_ g5 star rfl) fun σ H Q q => ?_
              · rw [backTo_plain pos X.env h3']; rfl
              · have := meth_read q
                rw [L.K]
                exact this
            | .nil, _, h3 => exact nomatch h3
            | .star _ _, _, h3 => exact nomatch h3
            | .cons _ (.cons _ _), _, h3 =>
              have h3 : (okE Γ _ sc y && false) = true := h3
              rw [Bool.and_false] at h3; cases h3
            | .cons _ (.star _ _), _, h3 =>
              have h3 : (okE Γ _ sc y && false) = true := h3
              rw [Bool.and_false] at h3; cases h3
        | _ => exact nomatch h1
      | _ => exact nomatch h1
  | _ => exact nomatch h
end EV

end
section
set_option linter.all false
set_option maxRecDepth 100000
set_option Elab.async false
namespace EV
open PySem L2 PyProof.Rows
variable {Γ : Gam} {cl : Nat → List D → FRes} {X : Cx} {C : Ctx} {sc : Scope} {K : PySem.W.Frag} {M M' M0 M1 : AS} {H H' H1 : Hp} {σ : EV.St} {ρ ρ' ρ1 : Ro}
/-! ### x[k] = v -/
theorem swaps_other {v tg : Expr} (h : ∀ x p, tg ≠ .Name x p) (l : Nat) (env : Env) : swapsWithSole [tg] v l env = pure false := by
  unfold swapsWithSole
  cases v <;> first | rfl | (unfold swapsWith; cases tg <;> first | rfl | (exact absurd rfl (h _ _)))
theorem sub_read {i : Nat} {k e : E} {D : Ends} (h : tS C (exec Γ.F cl (.sub i k e)) D σ H) : tAsg (tD C (datOf (evG Γ cl e))) (gSub (tVar i) (tD C (datOf (evG Γ cl k))) rSetL) D σ H := by
  obtain ⟨M, ρ, r, q⟩ := h
  have q : AfterS C σ M H ρ (if isListSlot ρ i = false then .stuck else (datOf (evG Γ cl e) ρ).bind fun p => (datOf (evG Γ cl k) p.2).bind fun q => (Res.of (subD i q.1 p.1 q.2)).bind fun ρ' => .ok (.next, ρ')) D := q
  cases hl : isListSlot ρ i with
  | false => rw [hl, if_pos rfl] at q; exact q.elim
  | true =>
    rw [hl, if_neg (by decide)] at q
    obtain ⟨s, xs0, e0, e1, e2⟩ := listSlot hl
    obtain ⟨a, us0, h1, h2, h3, h4⟩ := r.rep.lst i s xs0 e0 e1
    refine ⟨M, ρ, r.rep, (AfterS.exprS r q).mono fun M1 H1 d ρ1 s1 r1 hs1 ⟨rs1, q1⟩ v hv => ?_⟩
    refine ⟨_, h1, M1, ρ1, r1, (AfterS.exprS rs1 q1).mono fun M2 H2 kd ρ2 s2 r2 hs2 ⟨rs2, q2⟩ kv hkv => ?_⟩
    obtain ⟨ρ3, g1, q3⟩ := q2.of
    have hv2 := hv.step r1.owl s2
    have main : ∀ (j : Int) (t : Sv) (xs : List EV.D) (n : Nat), kd = .int j → get ρ2 i = some t → t.lst? = some xs → EV.ixN xs.length j = some n → ρ3 = ρ2.set i (some (t.put (xs.set n d))) → rSetL (.ref a) kv v H2 fun H3 => D.nx σ H3 := by
      intro j t xs n hk ht htl hn hρ
      subst hk
      cases hkv
      have ht' := get_some ht
      obtain ⟨a', us, z1, z2, z3, z4⟩ := r2.lst i t xs ht' htl
      rw [h1] at z1
      cases z1
      obtain ⟨w1, w2, w3⟩ := r2.write ht' htl h1 z2 z4 (z3.set n hv2)
      refine ⟨a, us, j, n, rfl, rfl, z2, by rw [z3.length]; exact hn, ?_⟩
      subst hρ
      exact q3 M2 _ σ w2 (rs2.after w2 w1) fun b z => .inl (w3 b z)
    unfold subD at g1
    split at g1
    · rename_i j hj
      split at g1
      · rename_i xs hx
        obtain ⟨n, hn, rfl⟩ := Option.map_eq_some_iff.mp g1
        exact main j _ xs n (by assumption) hx rfl hn rfl
      · rename_i xs hx
        obtain ⟨n, hn, rfl⟩ := Option.map_eq_some_iff.mp g1
        exact main j _ xs n (by assumption) hx rfl hn rfl
      · cases g1
    · cases g1
theorem st_sub {i : Nat} {k e : E} (hk : SE Γ cl k) (he : SE Γ cl e) : SSt Γ cl (.sub i k e) := by
  refine ⟨fun X C sc st L ok => ?_⟩
  have inv : ∃ x p ix p2 v pos, st = .Assign [.Subscript (.Name x p) ix p2] v pos ∧ (decide (Γ.N[i]? = some x) && visC sc x && nmC x && !isSlice ix && okE Γ k sc ix && okE Γ e sc v) = true := by
    unfold okS at ok
    split at ok <;> first | contradiction | skip
    all_goals first | (rename_i heq; cases heq; exact ⟨_, _, _, _, _, _, rfl, ok⟩) | (rename_i heq _; cases heq; exact ⟨_, _, _, _, _, _, rfl, ok⟩)
  obtain ⟨x, p, ix, p2, v, pos, rfl, ok'⟩ := inv
  simp only [Bool.and_eq_true, Bool.not_eq_true'] at ok'
  obtain ⟨⟨⟨⟨⟨g1, g2⟩, g3⟩, g4⟩, g5⟩, g6⟩ := ok'
  have name : PE X (.Name x p) (tVar i) := var_pe L.toLk (by simp only [Bool.and_eq_true]; exact ⟨⟨g1, g2⟩, g3⟩)
  refine PS_imp (ps_asg (tD_of (he.pe X C sc v L.toLk g6)) (pg_sub name (tD_of (hk.pe X C sc ix L.toLk g5)) set_list (by intro u; cases ix <;> first | rfl | cases g4)) (swaps_other (by intro x p h; cases h) _ _) rfl rfl) fun D σ H q => sub_read q
/-! ### a, b = e -/
theorem swS_no {ts : List Expr} {k : Nat} {p : Pos} {v : Expr} (h : isTuple v = false) (env : Env) : swappedStores [.Tuple ts k p] v env = pure none := by
  cases v <;> first | rfl | cases h
theorem asgT_read {is : List Nat} {e : E} {D : Ends} (h : tS C (exec Γ.F cl (.asgT is e)) D σ H) : tAsg (tD C (datOf (evG Γ cl e))) (gTg C.K (.many is)) D σ H := by
  obtain ⟨M, ρ, r, q⟩ := h
  refine ⟨M, ρ, r.rep, (AfterS.exprS r q).mono fun M1 H1 d ρ1 s1 r1 hs1 ⟨rs1, q1⟩ v hv => ?_⟩
  cases d with
  | tuple ds =>
    obtain ⟨ρ2, e2, q2⟩ := AfterS.of (o := setDs ρ1 is ds) q1
    exact gTg_read r1 hv (t := .many is) (d := .tuple ds) e2 fun σ2 r2 hs2 _ => q2 M1 H1 σ2 .refl ⟨r2, rs1.new0, rs1.there0⟩ fun a z => .inl (hs2 a z)
  | _ => exact q1.elim
theorem st_asgT {is : List Nat} {e : E} (he : SE Γ cl e) : SSt Γ cl (.asgT is e) := by
  refine ⟨fun X C sc st L ok => ?_⟩
  have inv : ∃ ts k p v pos, st = .Assign [.Tuple ts k p] v pos ∧ (namesC Γ.N sc is ts && !isTuple v && okE Γ e sc v) = true := by
    unfold okS at ok
    split at ok <;> first | contradiction | skip
    all_goals first | (rename_i heq; cases heq; exact ⟨_, _, _, _, _, rfl, ok⟩) | (rename_i heq _; cases heq; exact ⟨_, _, _, _, _, rfl, ok⟩)
  obtain ⟨ts, k, p, v, pos, rfl, ok'⟩ := inv
  simp only [Bool.and_eq_true, Bool.not_eq_true'] at ok'
  obtain ⟨⟨g1, g2⟩, g3⟩ := ok'
  exact PS_imp (ps_asg (tD_of (he.pe X C sc v L.toLk g3)) (pg_tgf (t := .many is) L g1) (swaps_other (by intro x p h; cases h) _ _) (swS_no g2 _) rfl) fun D σ H q => asgT_read q
/-! ### a, b = x, y -/
def VWs (K : PySem.W.Frag) (M : AS) (H' : Hp) : Hp → List V → List W → Prop
  | _, [], [] => True
  | H, v :: vs, w :: ws => VW0 K H M H' v w ∧ ∃ H1, (∀ a o, H a = some o → ∃ o', H1 a = some o') ∧ (∀ p xs, w = .new xs → v = .ref p → ∃ o, H1 p = some o) ∧ VWs K M H' H1 vs ws
  | _, _, _ => False
theorem VWs.from : ∀ {vs : List V} {ws : List W} {H H0 : Hp}, (∀ a o, H0 a = some o → ∃ o', H a = some o') → VWs K M H' H vs ws → VWs K M H' H0 vs ws
  | [], [], _, _, _, _ => trivial
  | v :: vs, w :: ws, H, H0, t, ⟨h1, H1, h2, h3, h4⟩ => ⟨h1.from t, H1, fun a o e => by obtain ⟨o', e'⟩ := t a o e; exact h2 a o' e', h3, h4⟩
theorem pa_W (L : Lk Γ cl X C sc) : ∀ (es : Es) (xs : List Expr), SAll Γ cl es → okEs Γ es sc xs = true →
    PA X xs (fun σ H Q => ∃ M ρ, Rep C.K C.M0 M ρ σ H ∧ After C σ M H ρ (evWs Γ.F cl es ρ) fun M' H' ws _ => ∀ vs, VWs C.K M' H' H vs ws → Q vs H')
  | .nil, [], _, _ => PA_imp pa_nil fun σ H Q ⟨M, ρ, r, q⟩ => After.now (a := ([] : List W)) r q [] trivial
  | .nil, _ :: _, _, h => nomatch h
  | .star _ _, xs, _, h => by cases xs <;> exact nomatch h
  | .cons e es, [], _, h => nomatch h
  | .cons e es, x :: xs, s, h => by
    have h : (okE Γ e sc x && okEs Γ es sc xs) = true := h
    rw [Bool.and_eq_true] at h
    refine PA_imp (pa_cons (s.1.pe X C sc x L h.1) (pa_W L es xs s.2 h.2) (star_of h.1 xs X.env)) fun σ H Q ⟨M, ρ, r, q⟩ => ?_
    refine ⟨M, ρ, r, (After.bind q).mono fun M1 H1 d ρ1 s1 r1 hs1 h1 v hv => ⟨M1, ρ1, r1, (After.bind h1).mono fun M2 H2 ds ρ2 s2 r2 hs2 h2 vs hvs => ?_⟩⟩
    refine h2.now r2 (v :: vs) ⟨hv.step r r1.owl hs1 s2, H1, s1.there, fun p ys ew ev => ?_, hvs⟩
    subst ew; subst ev
    obtain ⟨p', us, e1, e2, e3, e4, e5⟩ := hv
    cases e1
    exact ⟨_, e3⟩
theorem Rep.setNew {i : Nat} {p : Addr} {xs : List EV.D} {us : List V} (r : Rep K M0 M ρ σ H) (hp : H p = some (.lst us)) (hd : DatA K M H us xs) (hm : M p) (f2 : ¬ M0 p) (f4 : ¬ Ow ρ σ p) (h : setD ρ i (.new xs) = some ρ') :
    Rep K M0 M ρ' (σ.set i (some (V.ref p))) H ∧ ∀ a, Ow ρ' (σ.set i (some (V.ref p))) a → Ow ρ σ a ∨ a = p := by
  obtain ⟨hl, hio, rfl⟩ := setD_some h
  have hlσ : i < σ.length := by rw [← r.len]; exact hl
  have ne : ∀ {j : Nat}, j ≠ i → (σ.set i (some (V.ref p)))[j]? = σ[j]? := fun hj => List.getElem?_set_ne (Ne.symm hj)
  have at_ : (σ.set i (some (V.ref p)))[i]? = some (some (V.ref p)) := List.getElem?_set_self hlσ
  refine ⟨⟨by simpa using r.len, r.dom, r.sub, fun j d' e => ?_, fun j t ys e l => ?_, fun j ys a e q => ?_, fun j ys a e q => ?_, fun j k a t u ys zs e1 e2 l1 l2 q1 q2 => ?_⟩, fun a ⟨j, t, ys, e, l, q⟩ => ?_⟩
  · rcases set_get e with ⟨rfl, e'⟩ | ⟨hj, e⟩
    · cases e'
    · rw [ne hj]; exact r.dat j d' e
  · rcases set_get e with ⟨rfl, e'⟩ | ⟨hj, e⟩
    · cases e'; cases l; exact ⟨p, us, at_, hp, hd, hm⟩
    · rw [ne hj]; exact r.lst j t ys e l
  · rcases set_get e with ⟨rfl, e'⟩ | ⟨hj, e⟩
    · rw [at_] at q; cases q; exact f2
    · rw [ne hj] at q; exact r.own j ys a e q
  · rcases set_get e with ⟨rfl, e'⟩ | ⟨hj, e⟩
    · cases e'
    · rw [ne hj] at q; exact r.io j ys a e q
  · rcases set_get e1 with ⟨hj, e'⟩ | ⟨hj, e1'⟩
    · rcases set_get e2 with ⟨hk, e''⟩ | ⟨hk, e2'⟩
      · rw [hj, hk]
      · rw [hj, at_] at q1; cases q1
        rw [ne hk] at q2
        exact (f4 ⟨k, u, zs, e2', l2, q2⟩).elim
    · rcases set_get e2 with ⟨hk, e''⟩ | ⟨hk, e2'⟩
      · rw [hk, at_] at q2; cases q2
        rw [ne hj] at q1
        exact (f4 ⟨j, t, ys, e1', l1, q1⟩).elim
      · rw [ne hj] at q1; rw [ne hk] at q2
        exact r.inj j k a t u ys zs e1' e2' l1 l2 q1 q2
  · rcases set_get e with ⟨rfl, e'⟩ | ⟨hj, e⟩
    · rw [at_] at q; cases q; exact .inr rfl
    · rw [ne hj] at q; exact .inl ⟨j, t, ys, e, l, q⟩
theorem setAll_rep : ∀ (is : List Nat) {vs : List V} {ws : List W} {ρ ρ' : Ro} {σ : EV.St} {H0 : Hp} {Q : EV.St → Hp → Prop}, VWs K M H H0 vs ws → Rep K M0 M ρ σ H → (∀ a, Ow ρ σ a ∨ M0 a → ∃ o, H0 a = some o) → setAll ρ is ws = some ρ' →
    (∀ σ', Rep K M0 M ρ' σ' H → (∀ a, Ow ρ' σ' a → Ow ρ σ a ∨ H0 a = none) → Q σ' H) → (is.foldr (fun i u => gCons (gName i) u) gNil) vs σ H Q
  | [], [], [], ρ, ρ', σ, H0, Q, _, r, _, e, k => by cases e; exact ⟨rfl, k σ r fun a z => .inl z⟩
  | [], [], _ :: _, _, _, _, _, _, h, _, _, _, _ => h.elim
  | [], _ :: _, [], _, _, _, _, _, h, _, _, _, _ => h.elim
  | [], _ :: _, _ :: _, _, _, _, _, _, _, _, _, e, _ => nomatch e
  | _ :: _, [], [], _, _, _, _, _, _, _, _, e, _ => nomatch e
  | _ :: _, [], _ :: _, _, _, _, _, _, h, _, _, _, _ => h.elim
  | _ :: _, _ :: _, [], _, _, _, _, _, h, _, _, _, _ => h.elim
  | i :: is, v :: vs, w :: ws, ρ, ρ', σ, H0, Q, ⟨h1, H1, h2, h3, h4⟩, r, hd, e, k => by
    have e : ((setD ρ i w).bind fun ρ' => setAll ρ' is ws) = some ρ' := e
    obtain ⟨ρ1, e1, e2⟩ := Option.bind_eq_some_iff.mp e
    refine ⟨v, vs, rfl, ?_⟩
    cases w with
    | dat d =>
      obtain ⟨r1, o1⟩ := r.setDat h1 e1
      refine setAll_rep is h4 r1 (fun a z => ?_) e2 fun σ' r' o' => k σ' r' fun a z => ?_
      · obtain ⟨o, q⟩ := hd a (z.imp (o1 a) id); exact h2 a o q
      · rcases o' a z with q | q
        · exact .inl (o1 a q)
        · right
          cases e : H0 a with
          | none => rfl
          | some o => obtain ⟨o', e'⟩ := h2 a o e; rw [q] at e'; cases e'
    | new xs =>
      obtain ⟨p, us, rfl, hn, hp, hda, hm⟩ := h1
      have f2 : ¬ M0 p := fun z => by obtain ⟨o, q⟩ := hd p (.inr z); rw [hn] at q; cases q
      have f4 : ¬ Ow ρ σ p := fun z => by obtain ⟨o, q⟩ := hd p (.inl z); rw [hn] at q; cases q
      obtain ⟨r1, o1⟩ := r.setNew hp hda hm f2 f4 e1
      refine setAll_rep is h4 r1 (fun a z => ?_) e2 fun σ' r' o' => k σ' r' fun a z => ?_
      · rcases z with z | z
        · rcases o1 a z with q | q
          · obtain ⟨o, q⟩ := hd a (.inl q); exact h2 a o q
          · subst q; exact h3 a xs rfl rfl
        · obtain ⟨o, q⟩ := hd a (.inr z); exact h2 a o q
      · rcases o' a z with q | q
        · rcases o1 a q with q | q
          · exact .inl q
          · subst q; exact .inr hn
        · right
          cases e : H0 a with
          | none => rfl
          | some o => obtain ⟨o', e'⟩ := h2 a o e; rw [q] at e'; cases e'
theorem VWs.step0 {H2 : Hp} {M2 : AS} (s : Stp0 M H' M2 H2) : ∀ {vs : List V} {ws : List W} {H : Hp}, VWs K M H' H vs ws → VWs K M2 H2 H vs ws
  | [], [], _, h => h
  | [], _ :: _, _, h => h.elim
  | _ :: _, [], _, h => h.elim
  | v :: vs, w :: ws, H, ⟨h1, H1, h2, h3, h4⟩ => by
    refine ⟨?_, H1, h2, h3, VWs.step0 s h4⟩
    cases w with
    | dat d => exact Dat.step0 s h1
    | new xs =>
      obtain ⟨p, us, e, hn, hp, hda, hm⟩ := h1
      exact ⟨p, us, e, hn, s.keep _ _ hp, hda.step0 s, s.old _ hm⟩
theorem names_each {is : List Nat} {ts : List Expr} (h : namesC Γ.N sc is ts = true) : ∀ {i : Nat}, i < is.length → ∃ x p, ts[i]? = some (.Name x p) := by
  induction is generalizing ts with
  | nil => intro i hi; cases hi
  | cons j js ih =>
    cases ts with
    | nil => exact nomatch h
    | cons t ts =>
      have h : (nameC Γ.N sc j t && namesC Γ.N sc js ts) = true := h
      rw [Bool.and_eq_true] at h
      intro i hi
      cases i with
      | zero =>
        cases t with
        | Name x p => exact ⟨x, p, rfl⟩
        | _ => exact nomatch h.1
      | succ i => exact ih h.2 (by simpa using hi)
theorem sw_same {ts xs : List Expr} {k k2 : Nat} {p p2 : Pos} {o : Option (List Str)} (L : Lk Γ cl X C sc) (h : swP sc ts xs = some o) : swappedStores [.Tuple ts k p] (.Tuple xs k2 p2) X.env = pure o := by
  have hb : X.env.blockKind = .function := by unfold Env.blockKind; rw [L.scope, L.kind]; rfl
  have hk : ∀ x, X.env.kindOf x = sc.names.lookup x := fun x => by unfold Env.kindOf; rw [L.scope]
  unfold swappedStores
  unfold swP at h
  simp only [hb, hk]
  have e1 : (ScopeKind.function != ScopeKind.function) = false := by decide
  rw [e1, Bool.or_false]
  by_cases q1 : (!(ts.length == 2 || ts.length == 3) || xs.length != ts.length) = true
  · rw [if_pos q1] at h ⊢; cases h; rfl
  rw [if_neg q1] at h ⊢
  by_cases q2 : xs.any isStarred = true
  · rw [if_pos q2] at h
    cases h
    exact if_pos q2
  rw [if_neg q2] at h
  refine (if_neg q2).trans ?_
  dsimp only at h
  split at h
  · rename_i q3
    cases h
    exact if_pos q3
  · rename_i q3
    refine (if_neg q3).trans ?_
    split at h
    · rename_i q4
      cases h
      exact if_pos q4
    · rename_i q4
      refine (if_neg q4).trans ?_
      split at h
      · cases h
      · rename_i q5
        cases h
        exact if_neg q5
theorem filterMap_full {α β : Type} {f : α → Option β} : ∀ {ts : List α}, (ts.filterMap f).length = ts.length → ts.map f = (ts.filterMap f).map some
  | [], _ => rfl
  | t :: ts, h => by
    cases e : f t with
    | none =>
      rw [List.filterMap_cons_none e] at h
      have := List.length_filterMap_le f ts
      simp at h
      omega
    | some b =>
      rw [List.filterMap_cons_some e] at h ⊢
      simp only [List.length_cons, Nat.succ.injEq, List.map_cons] at h ⊢
      rw [e, filterMap_full (by omega)]
theorem swN_some {x y : Str} {p : Pos} {line : Nat} (h : swN sc line (.Name x p) = some y) : y = x ∧ sc.names.lookup x = some .local := by
  have h : (if sc.names.lookup x == some .local && p.line == line then some x else none) = some y := h
  split at h
  · rename_i q
    rw [Bool.and_eq_true] at q
    cases h
    exact ⟨rfl, by simpa using q.1⟩
  · cases h
theorem sw_names {ts xs : List Expr} {o : List Str} (h : swP sc ts xs = some (some o)) : ∃ line, ts.map (swN sc line) = o.map some := by
  unfold swP at h
  split at h
  · cases h
  split at h
  · cases h
  dsimp only at h
  split at h
  · cases h
  rename_i q
  split at h
  · cases h
  split at h
  · cases h
  cases h
  simp only [Bool.or_eq_true, not_or] at q
  have q := q.1
  exact ⟨_, filterMap_full (Decidable.byContradiction fun z => q (bne_iff_ne.mpr z))⟩
theorem sw_two {x y : Str} {px py : Pos} {xs : List Expr} {o : List Str} (h : swP sc [.Name x px, .Name y py] xs = some (some o)) : o = [x, y] ∧ sc.names.lookup x = some .local ∧ sc.names.lookup y = some .local := by
  obtain ⟨line, q⟩ := sw_names h
  match o, q with
  | [a, b], q =>
    simp only [List.map_cons, List.map_nil, List.cons.injEq, and_true] at q
    obtain ⟨rfl, h1⟩ := swN_some q.1
    obtain ⟨rfl, h2⟩ := swN_some q.2
    exact ⟨rfl, h1, h2⟩
  | [], q => simp at q
  | [_], q => simp at q
  | _ :: _ :: _ :: _, q => simp at q
theorem sw_three {x y z : Str} {px py pz : Pos} {xs : List Expr} {o : List Str} (h : swP sc [.Name x px, .Name y py, .Name z pz] xs = some (some o)) : o = [x, y, z] ∧ sc.names.lookup x = some .local ∧ sc.names.lookup y = some .local ∧ sc.names.lookup z = some .local := by
  obtain ⟨line, q⟩ := sw_names h
  match o, q with
  | [a, b, c], q =>
    simp only [List.map_cons, List.map_nil, List.cons.injEq, and_true] at q
    obtain ⟨rfl, h1⟩ := swN_some q.1
    obtain ⟨rfl, h2⟩ := swN_some q.2.1
    obtain ⟨rfl, h3⟩ := swN_some q.2.2
    exact ⟨rfl, h1, h2, h3⟩
  | [], q => simp at q
  | [_], q => simp at q
  | [_, _], q => simp at q
  | _ :: _ :: _ :: _ :: _, q => simp at q
/-- the slots behind a, b = x, y -/
theorem par_read {is : List Nat} {es : Es} {D : Ends} (h : tS C (exec Γ.F cl (.par is es)) D σ H) :
    ∃ M ρ, Rep C.K C.M0 M ρ σ H ∧ After C σ M H ρ (evWs Γ.F cl es ρ) fun M' H' ws _ => ∀ vs, VWs C.K M' H' H vs ws →
      (is.foldr (fun i u => gCons (gName i) u) gNil) vs σ H' D.nx ∧ ∀ p, H' p = none → (is.foldr (fun i u => gCons (gName i) u) gNil) vs σ (upd H' p (.tup vs)) D.nx := by
  obtain ⟨M, ρ, r, q⟩ := h
  refine ⟨M, ρ, r.rep, (AfterS.expr r q).mono fun M1 H1 ws ρ1 s1 r1 hs1 ⟨rs1, q1⟩ vs hvs => ?_⟩
  obtain ⟨ρ2, e2, q2⟩ := q1.of
  have dom : ∀ a, Ow ρ1 σ a ∨ C.M0 a → ∃ o, H a = some o := fun a z => by
    rcases z with z | z
    · exact r.rep.dom a (r.rep.owl.sub a (hs1 a z))
    · exact r.rep.dom a (r.rep.sub a z)
  refine ⟨setAll_rep is hvs r1 dom e2 fun σ2 r2 o2 => ?_, fun p hp => setAll_rep is (hvs.step0 (.laid hp)) (r1.step0 (.laid hp)) dom e2 fun σ2 r2 o2 => ?_⟩
  · exact q2 M1 H1 σ2 s1 (rs1.after .refl r2) fun a z => (o2 a z).imp (hs1 a) id
  · have s2 : Stp0 M1 H1 M1 (upd H1 p (.tup vs)) := .laid hp
    exact q2 M1 _ σ2 (s1.trans (O' := fun _ => False) (fun _ z => z.elim) s2.stp) (rs1.after (s2.stp) r2) fun a z => (o2 a z).imp (hs1 a) id
theorem len2 {α : Type} {l : List α} (h : l.length = 2) : ∃ a b, l = [a, b] := by
  match l, h with
  | [a, b], _ => exact ⟨a, b, rfl⟩
theorem len3 {α : Type} {l : List α} (h : l.length = 3) : ∃ a b c, l = [a, b, c] := by
  match l, h with
  | [a, b, c], _ => exact ⟨a, b, c, rfl⟩
theorem gFold_len : ∀ {is : List Nat} {vs : List V} {σ : EV.St} {Q : EV.St → Hp → Prop}, (is.foldr (fun i u => gCons (gName i) u) gNil) vs σ H Q → vs.length = is.length
  | [], vs, _, _, h => by obtain ⟨rfl, _⟩ := h; rfl
  | i :: is, vs, _, _, h => by
    obtain ⟨v, r, rfl, q⟩ := h
    simp [gFold_len q]
theorem names_len : ∀ {is : List Nat} {ts : List Expr}, namesC Γ.N sc is ts = true → is.length = ts.length
  | [], [], _ => rfl
  | [], _ :: _, h => nomatch h
  | _ :: _, [], h => nomatch h
  | i :: is, t :: ts, h => by
    have h : (nameC Γ.N sc i t && namesC Γ.N sc is ts) = true := h
    rw [Bool.and_eq_true] at h
    simp [names_len h.2]
theorem nameC_of {i : Nat} {t : Expr} (h : nameC Γ.N sc i t = true) : ∃ x p, t = .Name x p ∧ Γ.N[i]? = some x := by
  cases t with
  | Name x p =>
    have h : (decide (Γ.N[i]? = some x) && locC sc x) = true := h
    rw [Bool.and_eq_true] at h
    exact ⟨x, p, rfl, of_decide_eq_true h.1⟩
  | _ => exact nomatch h
theorem sw_len {ts xs : List Expr} {o : List Str} (h : swP sc ts xs = some (some o)) : ts.length = 2 ∨ ts.length = 3 := by
  unfold swP at h
  split at h
  · cases h
  · rename_i q
    simp only [Bool.or_eq_true, not_or, Bool.not_eq_true', Bool.not_eq_false', Bool.not_eq_false] at q
    simpa using q.1
theorem st_par {is : List Nat} {es : Es} (hs : SAll Γ cl es) : SSt Γ cl (.par is es) := by
  refine ⟨fun X C sc st L ok => ?_⟩
  have inv : ∃ ts k p xs k2 p2 pos, st = .Assign [.Tuple ts k p] (.Tuple xs k2 p2) pos ∧ (namesC Γ.N sc is ts && decide (is.Nodup) && okEs Γ es sc xs && decide (xs.length ≤ 3) && decide (xs.length = ts.length) && (swP sc ts xs).isSome) = true := by
    unfold okS at ok
    split at ok <;> first | contradiction | skip
    all_goals first | (rename_i heq; cases heq; exact ⟨_, _, _, _, _, _, _, rfl, ok⟩) | (rename_i heq _; cases heq; exact ⟨_, _, _, _, _, _, _, rfl, ok⟩)
  obtain ⟨ts, k, p, xs, k2, p2, pos, rfl, ok'⟩ := inv
  simp only [Bool.and_eq_true, decide_eq_true_eq] at ok'
  obtain ⟨⟨⟨⟨⟨g1, g2⟩, g3⟩, g4⟩, g5⟩, g6⟩ := ok'
  have pa := pa_W (C := C) L.toLk es xs hs g3
  obtain ⟨o, ho⟩ := Option.isSome_iff_exists.mp g6
  have hsw := sw_same (k := k) (k2 := k2) (p := p) (p2 := p2) L.toLk ho
  cases o with
  | none =>
    refine PS_imp (ps_asg (pe_tup pa) (pg_tgf (t := .many is) L (e := .Tuple ts k p) g1) (swaps_other (by intro x p h; cases h) _ _) hsw rfl) fun D σ H q => ?_
    obtain ⟨M, ρ, r, q⟩ := par_read q
    refine ⟨M, ρ, r, q.mono fun M1 H1 ws ρ1 s1 r1 hs1 q1 vs hvs => ?_⟩
    obtain ⟨q1, q2⟩ := q1 vs hvs
    have l1 := gFold_len q1
    have l2 := names_len g1
    have hz : vs.length ≤ sizeLine := by
      have : 3 ≤ sizeLine := by decide
      omega
    exact ⟨hz, fun p hp => ⟨p, vs, rfl, .inl (.inl upd_same), l1, q2 p hp⟩⟩
  | some names =>
    have l2 := names_len g1
    rcases sw_len ho with h2 | h3
    · obtain ⟨i, j, rfl⟩ := len2 (l2.trans h2)
      obtain ⟨t1, t2, rfl⟩ := len2 h2
      obtain ⟨e1, e2, rfl⟩ := len2 (g5.trans h2)
      · 
        have g1 : (nameC Γ.N sc i t1 && (nameC Γ.N sc j t2 && true)) = true := g1
        simp only [Bool.and_eq_true, and_true] at g1
        obtain ⟨x, px, rfl, hx⟩ := nameC_of g1.1
        obtain ⟨y, py, rfl, hy⟩ := nameC_of g1.2
        obtain ⟨rfl, k1, k2⟩ := sw_two ho
        have hij : i ≠ j := by simpa using g2
        refine PS_imp (ps_par L.calm (by rw [L.N]; exact L.nd) (by rw [L.N]; exact hx) (by rw [L.N]; exact hy) hij (by rw [L.scope]; exact k1) (by rw [L.scope]; exact k2) pa hsw (swaps_other (by intro x p h; cases h) _ _)) fun D σ H q => ?_
        obtain ⟨M, ρ, r, q⟩ := par_read q
        refine ⟨M, ρ, r, q.mono fun M1 H1 ws ρ1 s1 r1 hs1 q1 vs hvs => ?_⟩
        obtain ⟨v, _, rfl, w, _, rfl, rfl, q⟩ := (q1 vs hvs).1
        exact ⟨v, w, rfl, q⟩
    · obtain ⟨i, j, l, rfl⟩ := len3 (l2.trans h3)
      obtain ⟨t1, t2, t3, rfl⟩ := len3 h3
      obtain ⟨e1, e2, e3, rfl⟩ := len3 (g5.trans h3)
      · 
        have g1 : (nameC Γ.N sc i t1 && (nameC Γ.N sc j t2 && (nameC Γ.N sc l t3 && true))) = true := g1
        simp only [Bool.and_eq_true, and_true] at g1
        obtain ⟨x, px, rfl, hx⟩ := nameC_of g1.1
        obtain ⟨y, py, rfl, hy⟩ := nameC_of g1.2.1
        obtain ⟨z, pz, rfl, hz⟩ := nameC_of g1.2.2
        obtain ⟨rfl, k1, k2, k3⟩ := sw_three ho
        have hij : i ≠ j ∧ i ≠ l ∧ j ≠ l := by
          simp only [List.nodup_cons, List.mem_cons, List.not_mem_nil, or_false, not_or, List.nodup_nil, and_true, not_false_eq_true] at g2
          exact ⟨g2.1.1, g2.1.2, g2.2⟩
        refine PS_imp (ps_par3 L.calm (by rw [L.N]; exact L.nd) (by rw [L.N]; exact hx) (by rw [L.N]; exact hy) (by rw [L.N]; exact hz) hij.1 hij.2.1 hij.2.2 (by rw [L.scope]; exact k1) (by rw [L.scope]; exact k2) (by rw [L.scope]; exact k3) pa hsw (swaps_other (by intro x p h; cases h) _ _)) fun D σ H q => ?_
        obtain ⟨M, ρ, r, q⟩ := par_read q
        refine ⟨M, ρ, r, q.mono fun M1 H1 ws ρ1 s1 r1 hs1 q1 vs hvs => ?_⟩
        obtain ⟨v, _, rfl, w, _, rfl, u, _, rfl, rfl, q⟩ := (q1 vs hvs).1
        exact ⟨v, w, u, rfl, q⟩
end EV

end
section
set_option linter.all false
set_option maxRecDepth 100000
set_option Elab.async false
namespace EV
open PySem L2 PyProof.Rows
variable {Γ : Gam} {cl : Nat → List D → FRes} {X : Cx} {C : Ctx} {sc : Scope} {K : PySem.W.Frag} {M M' M0 M1 : AS} {H H' H1 : Hp} {σ : EV.St} {ρ ρ' ρ1 : Ro}
/-! ### all of the language -/
mutual
theorem se_all : (e : E) → SE Γ cl e
  | .var i => se_var
  | .cst d => se_cst
  | .op2 o a b => se_op2 (se_all a) (se_all b)
  | .op1 o a => se_op1 (se_all a)
  | .chain o o' a b c => se_chain (se_all a) (se_all b) (se_all c)
  | .bop k es => se_bop (ses_all es)
  | .not a => se_not (se_all a)
  | .orT a b => se_orT (se_all a) (se_all b)
  | .ite c a b => se_ite (se_all c) (se_all a) (se_all b)
  | .tup es => se_tup (ses_all es)
  | .lst es => se_lst (ses_all es)
  | .idx a b => se_idx (se_all a) (se_all b)
  | .slc a lo hi => se_slc (se_all a) (seo_all lo) (seo_all hi)
  | .call f es => se_call (ses_all es)
  | .bi b es => se_bi (ses_all es)
  | .rep a b => se_rep (se_all a) (se_all b)
  | .isi a ts b => se_isi (se_all a)
  | .comp t it c e => se_comp (sit_all it) (seo_all c) (se_all e)
  | .comp2 t it c t' it' c' e => se_comp2 (sit_all it) (seo_all c) (sit_all it') (seo_all c') (se_all e)
  | .meth m i es => se_meth (ses_all es)
  | .rev a => se_rev (se_all a)
  | .glo k d => se_glo
  | .call0 f => se_call0
  | .callK f perm es => se_callK (ses_all es)
theorem ses_all : (es : Es) → SAll Γ cl es
  | .nil => trivial
  | .cons e r => ⟨se_all e, ses_all r⟩
  | .star e r => ⟨se_all e, ses_all r⟩
theorem seo_all : (o : Eo) → ∀ e, o = .yes e → SE Γ cl e
  | .no, _, h => nomatch h
  | .yes e, _, h => by cases h; exact se_all e
theorem sit_all : (it : It) → SIt Γ cl it
  | .seq e => sit_seq (se_all e)
  | .range1 e => sit_range1 (se_all e)
  | .range2 a b => sit_range2 (se_all a) (se_all b)
  | .down a b => sit_down (se_all a) (se_all b)
  | .enum e => sit_enum (se_all e)
  | .zip a b => sit_zip (se_all a) (se_all b)
end
def isCp : E → Bool
  | .comp .. => true
  | .comp2 .. => true
  | _ => false
theorem plain_of {e : E} (h : isCp e = false) (sc : Scope) (v : Expr) (ok : okE Γ e sc v = true) : isComp v = false := by
  cases v with
  | ListComp elt gens scope pos =>
    cases e with
    | comp t it c e => cases h
    | comp2 t it c t' it' c' e => cases h
    | op1 o a => cases o <;> exact nomatch ok
    | _ => exact nomatch ok
  | SetComp elt gens scope pos =>
    cases e with
    | op1 o a => cases o <;> exact nomatch ok
    | _ => exact nomatch ok
  | DictComp k elt gens scope pos =>
    cases e with
    | op1 o a => cases o <;> exact nomatch ok
    | _ => exact nomatch ok
  | _ => rfl
theorem sset_all (e : E) : SSet Γ cl e := by
  cases hc : isCp e with
  | false => exact sset_plain (se_all e) fun sc v ok => plain_of hc sc v ok
  | true =>
    cases e with
    | comp t it c e => exact sset_comp (sit_all it) (seo_all c) (se_all e)
    | comp2 t it c t' it' c' e => exact fun X C sc i y py v spos L hi hl ok => comp2_set (sit_all it) (seo_all c) (sit_all it') (seo_all c') (se_all e) L hi hl ok
    | _ => cases hc
theorem no_st {s : S} (h : ∀ sc st, okS Γ sc s st = false) : SSt Γ cl s := ⟨fun X C sc st L ok => by rw [h] at ok; cases ok⟩
mutual
theorem st_all : (s : S) → SSt Γ cl s
  | .asg i e => st_asg (sset_all e)
  | .asgT is e => st_asgT (se_all e)
  | .par is es => st_par (ses_all es)
  | .sub i k e => st_sub (se_all k) (se_all e)
  | .expr e => st_expr (se_all e)
  | .ret e => st_ret (se_all e)
  | .retN => st_retN
  | .ite c a b => st_ite (se_all c) (sts_all a) (sts_all b)
  | .for_ t it b => st_for (sit_all it) (sts_all b)
  | .while_ n c b => st_while (se_all c) (sts_all b)
  | .raise c e => no_st fun sc st => by cases st <;> rfl
  | .pass => st_pass
  | .brk => st_brk
  | .cont => st_cont
theorem sts_all : (s : Ss) → SSts Γ cl s
  | .nil => sts_nil
  | .cons s r => sts_cons (st_all s) (sts_all r)
end
/-! ### a def -/
theorem start_len : ∀ {ds : List EV.D} {io : Option Nat} {ρ : Ro}, EV.start ds io = some ρ → ρ.length = ds.length
  | [], _, _, h => by cases h; rfl
  | d :: ds, io, ρ, h => by
    have h : ((EV.start ds (down io)).bind fun ρ => if io = some 0 then (match d with | .list xs => some (some (.io xs) :: ρ) | _ => none) else some (some (.dat d) :: ρ)) = some ρ := h
    obtain ⟨ρ1, h1, h2⟩ := Option.bind_eq_some_iff.mp h
    split at h2
    · split at h2
      · cases h2; simp [start_len h1]
      · cases h2
    · cases h2; simp [start_len h1]
theorem start_at : ∀ {ds : List EV.D} {io : Option Nat} {ρ : Ro} {j : Nat} {s : Option Sv}, EV.start ds io = some ρ → ρ[j]? = some s → ∃ d, ds[j]? = some d ∧ ((io ≠ some j ∧ s = some (.dat d)) ∨ (io = some j ∧ ∃ xs, d = .list xs ∧ s = some (.io xs)))
  | [], _, _, j, _, h, e => by cases h; cases e
  | d :: ds, io, ρ, j, s, h, e => by
    have h : ((EV.start ds (down io)).bind fun ρ => if io = some 0 then (match d with | .list xs => some (some (.io xs) :: ρ) | _ => none) else some (some (.dat d) :: ρ)) = some ρ := h
    obtain ⟨ρ1, h1, h2⟩ := Option.bind_eq_some_iff.mp h
    cases j with
    | zero =>
      refine ⟨d, rfl, ?_⟩
      split at h2
      · rename_i q
        split at h2
        · cases h2; cases e; exact .inr ⟨q, _, rfl, rfl⟩
        · cases h2
      · rename_i q
        cases h2; cases e; exact .inl ⟨q, rfl⟩
    | succ j =>
      have e1 : ρ1[j]? = some s := by
        split at h2
        · split at h2
          · cases h2; exact e
          · cases h2
        · cases h2; exact e
      obtain ⟨d', g1, g2⟩ := start_at h1 e1
      refine ⟨d', g1, g2.imp (fun ⟨a, b⟩ => ⟨fun z => a (by rw [z]; rfl), b⟩) fun ⟨a, b⟩ => ⟨?_, b⟩⟩
      cases io with
      | none => cases a
      | some n => cases n with
        | zero => cases a
        | succ n => have a : some n = some j := a; cases a; rfl
/-- the slots at the entry of a def -/
theorem entry {fn : Fn} {N : List Str} {vs : List V} {ds : List EV.D} {ρ : Ro} (hio : fn.ioOk = true) (hn : vs.length = fn.np) (hN : N.length = fn.ns) (a : Args K M H fn.io vs ds) (dom : ∀ a, M a → ∃ o, H a = some o) (h : EV.start ds fn.io = some ρ) :
    Rep K M M (ρ ++ List.replicate (fn.ns - fn.np) none) (L2.start N vs) H ∧ ∀ b, Ow (ρ ++ List.replicate (fn.ns - fn.np) none) (L2.start N vs) b → Io fn.io vs b := by
  have hl := start_len h
  have hvl := a.len
  have low : ∀ {j : Nat} {s : Sv}, (ρ ++ List.replicate (fn.ns - fn.np) none)[j]? = some (some s) → j < vs.length ∧ ρ[j]? = some (some s) := fun {j s} e => by
    by_cases hj : j < ρ.length
    · rw [List.getElem?_append_left hj] at e
      exact ⟨by omega, e⟩
    · rw [List.getElem?_append_right (by omega)] at e
      rw [List.getElem?_replicate] at e
      split at e <;> cases e
  have slot : ∀ {j : Nat}, j < vs.length → (L2.start N vs)[j]? = (vs[j]?).map some := fun {j} hj => by
    unfold L2.start
    rw [List.getElem?_append_left (by simpa using hj), List.getElem?_map]
  have lst : ∀ {j : Nat} {s : Sv} {xs : List EV.D}, (ρ ++ List.replicate (fn.ns - fn.np) none)[j]? = some (some s) → s.lst? = some xs → fn.io = some j ∧ s = .io xs ∧ ds[j]? = some (.list xs) := fun {j s xs} e l => by
    obtain ⟨hj, e⟩ := low e
    obtain ⟨d, h1, h2⟩ := start_at h e
    rcases h2 with ⟨_, h2⟩ | ⟨h2, ys, rfl, h3⟩
    · cases h2; cases l
    · cases h3; cases l; exact ⟨h2, rfl, h1⟩
  have at_ : ∀ {j : Nat} {b : Addr}, fn.io = some j → (L2.start N vs)[j]? = some (some (V.ref b)) → vs[j]? = some (.ref b) := fun {j b} hj e => by
    have hj' : j < vs.length := by
      obtain ⟨a', _, _, q, _⟩ := a.io j hj
      exact (List.getElem?_eq_some_iff.mp q).1
    rw [slot hj'] at e
    cases q : vs[j]? with
    | none => rw [q] at e; cases e
    | some v => rw [q] at e; cases e; rfl
  refine ⟨⟨?_, dom, fun _ z => z, fun j d e => ?_, fun j s xs e l => ?_, fun j xs b e q => ?_, fun j xs b e q => ?_, fun i j b s t xs ys e1 e2 l1 l2 q1 q2 => ?_⟩, fun b ⟨j, s, xs, e, l, q⟩ => ?_⟩
  · unfold L2.start
    simp only [List.length_append, List.length_map, List.length_replicate]
    omega
  · obtain ⟨hj, e⟩ := low e
    obtain ⟨d', h1, h2⟩ := start_at h e
    rcases h2 with ⟨h2, h3⟩ | ⟨_, ys, _, h3⟩
    · cases h3
      have q : vs[j]? = some vs[j] := List.getElem?_eq_getElem hj
      exact ⟨vs[j], by rw [slot hj, q]; rfl, a.dat j _ d h2 q h1⟩
    · cases h3
  · obtain ⟨h1, rfl, h3⟩ := lst e l
    obtain ⟨b, us, ys, g1, g2, g3, g4, g5⟩ := a.io j h1
    rw [h3] at g2
    cases g2
    have hj' : j < vs.length := (List.getElem?_eq_some_iff.mp g1).1
    exact ⟨b, us, by rw [slot hj', g1]; rfl, g3, g4, g5⟩
  · obtain ⟨_, h2, _⟩ := lst e rfl
    cases h2
  · obtain ⟨h1, _, _⟩ := lst e rfl
    have g := at_ h1 q
    obtain ⟨b', us, ys, g1, g2, g3, g4, g5⟩ := a.io j h1
    rw [g] at g1
    cases g1
    exact g5
  · obtain ⟨h1, _, _⟩ := lst e1 l1
    obtain ⟨h2, _, _⟩ := lst e2 l2
    rw [h1] at h2
    exact Option.some.inj h2
  · obtain ⟨h1, _, _⟩ := lst e l
    exact ⟨j, h1, at_ h1 q⟩
end EV

end
section
set_option linter.all false
set_option maxRecDepth 100000
set_option Elab.async false
namespace EV
open PySem L2 PyProof.Rows
/-! ### a def keeps what the language tells of it -/
structure DefOk (T : List Fn) (G : List (Str × D)) (W : List (Nat × List Str × List Nat)) (fn : Fn) (N ps : List Str) (scope : Scope) (body : List Stmt) : Prop where
  sc : FnScope N ps scope
  np : ps.length = fn.np
  ns : N.length = fn.ns
  io : fn.ioOk = true
  ok : okSs ⟨T, N, G, W⟩ scope fn.body body = true
section
variable {P : Program} {w : World} {K : PySem.W.Frag} {mg : Str → Option Value} {base : Heap} {T : List Fn} {G : List (Str × D)} {W : List (Nat × List Str × List Nat)} {R : XR} {cl : Nat → List D → FRes}
/-- what calls find -/
def Calls (P : Program) (w : World) (K : PySem.W.Frag) (mg : Str → Option Value) (base : Heap) (T : List Fn) (W : List (Nat × List Str × List Nat)) (R : XR) (cl : Nat → List D → FRes) (k : Nat) : Prop :=
  ∀ (i : Nat) (fn : Fn), T[i]? = some fn → ∃ a fd ps, mg fn.name = some (.ref a) ∧ PySem.W.keepIn K (.ref a) = true ∧ (Binds K fd ps [] ∧ ∀ ks perm, (i, ks, perm) ∈ W → KwOk K fd ps ks perm) ∧ FnOk P w K mg base (L2.CX P w) k a fd ps (spOf R K fn (cl i))
theorem fn_step {fn : Fn} {N ps : List Str} {qual : Str} {params : Arguments} {body : List Stmt} {scope : Scope} {f : Addr} {fd : FuncData} {k : Nat} (hd : DefOk T G W fn N ps scope body) (F : FunD K fn.name qual params body scope [] [] f fd)
    (hbi : ∀ x, x ∈ biNames → mg x = none) (hG : ∀ x d, (x, d) ∈ G → ∃ u v, mg x = some u ∧ RelV v u ∧ ∀ M H, Dat K M H v d) (hc : Calls P w K mg base T W R cl k) : FnOk P w K mg base (L2.CX P w) (k + 1) f fd ps (spOf R K fn (runFn (Gam.F ⟨T, N, G, W⟩) cl fn)) := by
  refine F.ok hd.sc (fun vs H Q E ⟨M, ds, hl, _⟩ => hl.trans hd.np.symm) fun cdv A outer s H vs Q E hr ⟨M, ds, hl, ha, hdom, hq⟩ => ?_
  let C : Ctx := { K := K, M0 := M, H0 := H, R := R, Wx := fun cls d _ H' => E cls d H' }
  have L : LkS ⟨T, N, G, W⟩ cl (cxOf (L2.CX P w) P w K mg base N qual scope f cdv A outer s H E) C scope := {
    K := rfl
    N := rfl
    nd := hd.sc.nd
    calm := rfl
    scope := rfl
    kind := hd.sc.kind
    room := by have := hr.un; show (A.deeper (envOfC qual scope s.heap.objs.size f cdv)).units + 200 < cLine; omega
    takes := takes_of rfl rfl rfl (E := E) (E₁ := fun e' s'' => L2.CX P w outer H s E e' s'') rfl
    bi := hbi
    call := fun i fn' e => by
      obtain ⟨a, fd', ps', h1, h2, h3, h4⟩ := hc i fn' e
      exact ⟨k, a, fd', ps', h1, h2, h3, hr, h4⟩
    glo := hG
    pass := passes_of (K := fun e s'' => L2.CX P w outer H s E e s'') (E₁ := fun e' s'' => L2.CX P w outer H s E e' s'') rfl
    fnT := fun _ => rfl }
  refine ⟨_, (sts_all fn.body).pss _ C scope body L hd.ok, ?_⟩
  unfold runFn at hq
  have hdl : ds.length = fn.np := by rw [← ha.len]; exact hl
  rw [if_pos hdl] at hq
  cases hst : EV.start ds fn.io with
  | none => rw [hst] at hq; exact hq.elim
  | some ρ =>
    rw [hst] at hq
    dsimp only at hq
    obtain ⟨r0, o0⟩ := entry hd.io hl hd.ns ha hdom hst
    have iow : ∀ {M' : AS} {H' : Hp}, Stp (Ow (ρ ++ List.replicate (fn.ns - fn.np) none) (L2.start N vs)) M H M' H' → Stp (Io fn.io vs) M H M' H' := fun s => s.wide o0
    have fin : ∀ {M' : AS} {H' : Hp} {ρ' : Ro} {σ' : EV.St} {r : Option (List EV.D)}, RepS C M' ρ' σ' H' → OwS (ρ ++ List.replicate (fn.ns - fn.np) none) (L2.start N vs) H ρ' σ' → ioEnd ρ' fn.io = some r → IoEnd K M' H' fn.io vs r := by
      intro M' H' ρ' σ' r rs os e
      unfold ioEnd at e
      unfold IoEnd
      cases hio : fn.io with
      | none => rw [hio] at e; cases e; rfl
      | some j =>
        rw [hio] at e
        dsimp only at e ⊢
        split at e
        · rename_i xs hg
          cases e
          obtain ⟨a, us, h1, h2, h3, h4⟩ := rs.rep.lst j _ xs (get_some hg) rfl
          have hm0 := rs.rep.io j xs a (get_some hg) h1
          rcases os a ⟨j, _, xs, get_some hg, rfl, h1⟩ with q | q
          · obtain ⟨j', hj', hv⟩ := o0 a q
            rw [hio] at hj'
            cases hj'
            exact ⟨a, us, xs, hv, rfl, h2, h3, h4⟩
          · obtain ⟨o, e⟩ := hdom a hm0
            rw [q] at e; cases e
        · cases e
    refine ⟨M, _, ⟨r0, fun a z => .inl z, fun a o e => ⟨o, e⟩⟩, ?_⟩
    show AfterS C _ M H _ (execs (Gam.F ⟨T, N, G, W⟩) cl fn.body (ρ ++ List.replicate (fn.ns - fn.np) none)) _
    cases hx : execs (Gam.F ⟨T, N, G, W⟩) cl fn.body (ρ ++ List.replicate (fn.ns - fn.np) none) with
    | stuck => rw [hx] at hq; exact hq.elim
    | exc x ρ' =>
      rw [hx] at hq
      dsimp only at hq
      unfold finishX at hq
      cases hi : ioEnd ρ' fn.io with
      | none => rw [hi] at hq; exact hq.elim
      | some r =>
        rw [hi] at hq
        exact fun M' H' σ' cls d s1 r1 o1 hR => hq M' H' cls d (iow s1) r1.rep.dom (fin r1 o1 hi) hR
    | ok p =>
      obtain ⟨fl, ρ'⟩ := p
      rw [hx] at hq
      cases fl with
      | brk => exact hq.elim
      | cont => exact hq.elim
      | next =>
        dsimp only at hq
        unfold finish at hq
        cases hi : ioEnd ρ' fn.io with
        | none => rw [hi] at hq; exact hq.elim
        | some r =>
          rw [hi] at hq
          exact fun M' H' σ' s1 r1 o1 => hq M' H' .non (iow s1) r1.rep.dom (fin r1 o1 hi) .non
      | ret u =>
        dsimp only at hq
        unfold finish at hq
        cases hi : ioEnd ρ' fn.io with
        | none => rw [hi] at hq; exact hq.elim
        | some r =>
          rw [hi] at hq
          exact fun M' H' σ' s1 r1 o1 v hv => hq M' H' v (iow s1) r1.rep.dom (fin r1 o1 hi) hv
/-- the table's defs, as the head tells them -/
def Tabled (K : PySem.W.Frag) (mg : Str → Option Value) (T : List Fn) (G : List (Str × D)) (W : List (Nat × List Str × List Nat)) : Prop :=
  ∀ (i : Nat) (fn : Fn), T[i]? = some fn → ∃ N ps qual params body scope f fd, DefOk T G W fn N ps scope body ∧ FunD K fn.name qual params body scope [] [] f fd ∧ mg fn.name = some (.ref f) ∧ (Binds K fd ps [] ∧ ∀ ks perm, (i, ks, perm) ∈ W → KwOk K fd ps ks perm)
theorem calls_all (ht : Tabled K mg T G W) (hbi : ∀ x, x ∈ biNames → mg x = none) (hG : ∀ x d, (x, d) ∈ G → ∃ u v, mg x = some u ∧ RelV v u ∧ ∀ M H, Dat K M H v d) : ∀ n, Calls P w K mg base T W R (callN (fun i => T[i]?) n) n
  | 0 => fun i fn e => by
    obtain ⟨N, ps, qual, params, body, scope, f, fd, _, h2, h3, h4⟩ := ht i fn e
    exact ⟨f, fd, ps, h3, h2.kp, h4, ⟨fun vs H Q E ⟨M, ds, _, _, _, q⟩ => q.elim, fun A outer s H args us vs Q E hr e0 hb r ⟨M, ds, _, _, _, q⟩ => q.elim⟩⟩
  | n + 1 => fun i fn e => by
    obtain ⟨N, ps, qual, params, body, scope, f, fd, h1, h2, h3, h4⟩ := ht i fn e
    have step := fn_step (P := P) (w := w) (base := base) (R := R) h1 h2 hbi hG (calls_all ht hbi hG n)
    refine ⟨f, fd, ps, h3, h2.kp, h4, ?_⟩
    have e1 : callN (fun i => T[i]?) (n + 1) i = runFn (Gam.F ⟨T, N, G, W⟩) (callN (fun i => T[i]?) n) fn := by
      funext ds
      show (match T[i]? with | none => FRes.stuck | some fn => runFn (fun i => T[i]?) (callN (fun i => T[i]?) n) fn ds) = _
      rw [e]
      rfl
    rw [e1]
    exact step
end
end EV

end
section
set_option linter.all false
set_option maxRecDepth 100000
set_option Elab.async false
/-! EV: the evaluator's rules, head first -/
namespace EV
open PySem
def Ok {α : Type} (r : Res α) (Q : α → Prop) : Prop := match r with
  | .ok a => Q a
  | _ => False
def OkF (r : FRes) (Q : W → Option (List D) → Prop) : Prop := match r with
  | .ok w io => Q w io
  | _ => False
def OM {α : Type} (o : Option α) (k : α → Prop) : Prop := match o with
  | some a => k a
  | none => False
def OG (ρ : Ro) (i : Nat) (k : D → Prop) : Prop := OM (EV.get ρ i) fun s => k s.d
def OL (ρ : Ro) (i : Nat) (k : D → Ro → Prop) : Prop := OM (leak ρ i) fun p => k p.1 p.2
def OS (ρ : Ro) (i : Nat) (w : W) (k : Ro → Prop) : Prop := OM (setD ρ i w) k
def OSs (ρ : Ro) (is : List Nat) (ds : List D) (k : Ro → Prop) : Prop := OM (setDs ρ is ds) k
def OSw (ρ : Ro) (is : List Nat) (ds : List W) (k : Ro → Prop) : Prop := OM (setAll ρ is ds) k
def OU (ρ : Ro) (i : Nat) (e d : D) (k : Ro → Prop) : Prop := OM (subD i e d ρ) k
def OR (ρ : Ro) (o : Opd) (k : D → Prop) : Prop := OM (o.rd ρ) k
def ORs (ρ : Ro) (os : List Opd) (k : List D → Prop) : Prop := OM (rdAll ρ os) k
def OW (w : W) (k : D → Prop) : Prop := k w.d
def OB (d : D) (k : Bool → Prop) : Prop := OM (boolO d) k
def OI (b : Bool) (p q : Prop) : Prop := (b = true → p) ∧ (b = false → q)
def ON (b : Bool) (k : Bool → Prop) : Prop := k !b
def OX (xs : List D) (n : Nat) (d : D) (k : List D → Prop) : Prop := k (xs.set n d)
def OZ (xs : List D) (p : Prop) : Prop := xs.length ≤ sizeLine ∧ p
def OH (ts : List Ty) (d : D) (k : Bool → Prop) : Prop := k (ts.any fun t => t.has d)
def PI (ρ : Ro) (io : Option Nat) (r : Option (List D)) (k : Ro → Prop) : Prop := k (putIo ρ io r)
def BK (ρ0 ρ : Ro) (is : List Nat) (k : Ro → Prop) : Prop := k (backR ρ0 ρ is)
def OT (d : D) (k : List D → Prop) : Prop := match d with
  | .tuple ds => k ds
  | _ => False
def OO (ρ : Ro) (i : Nat) (p : Prop) : Prop := isOwnSlot ρ i = true ∧ p
def OLs (ρ : Ro) (i : Nat) (p : Prop) : Prop := isListSlot ρ i = true ∧ p
def ORt (ρ : Ro) (i : Nat) (k : W → Ro → Prop) : Prop := match EV.get ρ i with
  | some (.own xs) => k (.new xs) (ρ.set i none)
  | _ => OL ρ i fun d r => k (.dat d) r
def OE (ρ : Ro) (io : Option Nat) (k : Option (List D) → Prop) : Prop := OM (ioEnd ρ io) k
def Fin (io : Option Nat) (Q : W → Option (List D) → Prop) : EV.Flow × Ro → Prop
  | (.next, ρ) => OE ρ io (Q (.dat .none))
  | (.ret w, ρ) => OE ρ io (Q w)
  | _ => False
def KN (F : Nat → Option Fn) (cl : Nat → List D → FRes) (r : Ss) (k : EV.Flow × Ro → Prop) : EV.Flow × Ro → Prop
  | (.next, ρ) => Ok (EV.execs F cl r ρ) k
  | (f, ρ) => k (f, ρ)
def rng1 : D → Option (List D)
  | .int j => if (small62 j && decide (j ≤ sizeLine)) = true then some (rangeD 0 j) else none
  | _ => none
def rng2 : D → D → Option (List D)
  | .int i, .int j => if (small62 i && small62 j && decide (j - i ≤ sizeLine)) = true then some (rangeD i j) else none
  | _, _ => none
def rngD : D → D → Option (List D)
  | .int i, .int j => if (small62 i && small62 j && decide (i - j ≤ sizeLine)) = true then some (downD i j) else none
  | _, _ => none
def zipO : D → D → Option (List D)
  | .list xs, .list ys => some (zipD xs ys)
  | .tuple xs, .tuple ys => some (zipD xs ys)
  | _, _ => none
def repD : W → D → Option W
  | .new xs, .int k => if 0 ≤ k ∧ k < 2 ^ 30 ∧ xs.length * k.toNat ≤ sizeLine then some (.new (List.replicate k.toNat xs).flatten) else none
  | _, _ => none
section
variable {α β : Type}
theorem ok_bind (r : Res α) (f : α → Res β) (Q : β → Prop) : Ok (r.bind f) Q = Ok r fun a => Ok (f a) Q := by cases r <;> rfl
theorem ok_noExc (r : Res α) (Q : α → Prop) : Ok (noExc r) Q = Ok r Q := by cases r <;> rfl
theorem Ok.mono {r : Res α} {Q Q' : α → Prop} (h : Ok r Q) (f : ∀ a, Q a → Q' a) : Ok r Q' := by
  cases r with
  | ok a => exact f a h
  | _ => exact h
theorem OkF.mono {r : FRes} {Q Q' : W → Option (List D) → Prop} (h : OkF r Q) (f : ∀ a b, Q a b → Q' a b) : OkF r Q' := by
  cases r with
  | ok a b => exact f a b h
  | _ => exact h
theorem om_ite {c : Prop} [Decidable c] (a : α) (k : α → Prop) : OM (if c then some a else none) k = (c ∧ k a) := by
  by_cases h : c
  · rw [if_pos h]; exact propext ⟨fun x => ⟨h, x⟩, fun x => x.2⟩
  · rw [if_neg h]; exact propext ⟨fun x => x.elim, fun x => (h x.1).elim⟩
theorem om_eq (x y : D) (k : W → Prop) : OM (op2 .eq x y) k = (eqOk x y = true ∧ k (.dat (.bool (PyData.eqv x y)))) := by
  have e : op2 .eq x y = if eqOk x y then some (.dat (.bool (PyData.eqv x y))) else none := by cases x <;> cases y <;> rfl
  rw [e]; exact om_ite _ _
theorem om_ne (x y : D) (k : W → Prop) : OM (op2 .ne x y) k = (eqOk x y = true ∧ k (.dat (.bool (!PyData.eqv x y)))) := by
  have e : op2 .ne x y = if eqOk x y then some (.dat (.bool (!PyData.eqv x y))) else none := by cases x <;> cases y <;> rfl
  rw [e]; exact om_ite _ _
end
theorem om_lt (i j : Int) (k : W → Prop) : OM (op2 .lt (.int i) (.int j)) k = k (.dat (.bool (decide (i < j)))) := by
  have e : op2 .lt (.int i) (.int j) = some (.dat (.bool (decide (i < j)))) := by
    rw [← PySem.W.dataLt_int]; rfl
  rw [e]; rfl
theorem om_p18 (k : W → Prop) : OM (op2 .pow (.int 10) (.int 18)) k = k (.dat (.int 1000000000000000000)) := by
  have e : op2 .pow (.int 10) (.int 18) = some (.dat (.int 1000000000000000000)) := by
    have h : (0 : Int) ≤ 18 ∧ (18 : Int) ≤ 1000000 ∧ (10 : Int).natAbs < 2 ^ 64 := by decide
    simp only [op2, if_pos h]; rfl
  rw [e]; rfl
theorem eqv_int (i j : Int) : PyData.eqv (.int i) (.int j) = decide (i = j) := by
  rw [PyData.eqv]
  by_cases h : i = j <;> simp [h]
theorem eqv_str (i j : Str) : PyData.eqv (.str i) (.str j) = decide (i = j) := by
  rw [PyData.eqv]
  by_cases h : i = j <;> simp [h]
theorem om_eqI (i j : Int) (k : W → Prop) : OM (op2 .eq (.int i) (.int j)) k = k (.dat (.bool (decide (i = j)))) := by
  rw [← eqv_int]; rfl
theorem om_neI (i j : Int) (k : W → Prop) : OM (op2 .ne (.int i) (.int j)) k = k (.dat (.bool (!decide (i = j)))) := by
  rw [← eqv_int]; rfl
theorem om_eqBB (a : Bool) (k : W → Prop) : OM (op2 .eq (.bool a) (.bool a)) k = k (.dat (.bool true)) := by
  cases a <;> rfl
theorem om_neBB (a : Bool) (k : W → Prop) : OM (op2 .ne (.bool a) (.bool a)) k = k (.dat (.bool false)) := by
  cases a <;> rfl
theorem shaped_str (i : Str) : SeqAt.shaped (.str i) = PyData.strOk i := by
  unfold SeqAt.shaped
  rw [PyData.canLay0, PyData.depth]; simp
theorem om_eqS (i j : Str) (k : W → Prop) : OM (op2 .eq (.str i) (.str j)) k = ((PyData.strOk i && PyData.strOk j) = true ∧ k (.dat (.bool (decide (i = j))))) := by
  rw [om_eq, eqv_str, eqOk, shaped_str, shaped_str]
theorem om_neS (i j : Str) (k : W → Prop) : OM (op2 .ne (.str i) (.str j)) k = ((PyData.strOk i && PyData.strOk j) = true ∧ k (.dat (.bool (!decide (i = j))))) := by
  rw [om_ne, eqv_str, eqOk, shaped_str, shaped_str]
theorem om_inL (x : D) (xs : List D) (k : W → Prop) : OM (op2 .isin x (.list xs)) k = ((SeqAt.shaped x && SeqAt.shaped (.list xs)) = true ∧ k (.dat (.bool (inD x xs)))) := by
  have e : op2 .isin x (.list xs) = if (SeqAt.shaped x && SeqAt.shaped (.list xs)) = true then some (.dat (.bool (inD x xs))) else none := by cases x <;> rfl
  rw [e]; exact om_ite _ _
theorem om_inT (x : D) (xs : List D) (k : W → Prop) : OM (op2 .isin x (.tuple xs)) k = ((SeqAt.shaped x && SeqAt.shaped (.tuple xs)) = true ∧ k (.dat (.bool (inD x xs)))) := by
  have e : op2 .isin x (.tuple xs) = if (SeqAt.shaped x && SeqAt.shaped (.tuple xs)) = true then some (.dat (.bool (inD x xs))) else none := by cases x <;> rfl
  rw [e]; exact om_ite _ _
theorem om_niL (x : D) (xs : List D) (k : W → Prop) : OM (op2 .notin x (.list xs)) k = ((SeqAt.shaped x && SeqAt.shaped (.list xs)) = true ∧ k (.dat (.bool (!inD x xs)))) := by
  have e : op2 .notin x (.list xs) = if (SeqAt.shaped x && SeqAt.shaped (.list xs)) = true then some (.dat (.bool (!inD x xs))) else none := by cases x <;> rfl
  rw [e]; exact om_ite _ _
theorem om_niT (x : D) (xs : List D) (k : W → Prop) : OM (op2 .notin x (.tuple xs)) k = ((SeqAt.shaped x && SeqAt.shaped (.tuple xs)) = true ∧ k (.dat (.bool (!inD x xs)))) := by
  have e : op2 .notin x (.tuple xs) = if (SeqAt.shaped x && SeqAt.shaped (.tuple xs)) = true then some (.dat (.bool (!inD x xs))) else none := by cases x <;> rfl
  rw [e]; exact om_ite _ _
theorem oi_true0 (p q : Prop) : OI true p q = p := propext ⟨fun h => h.1 rfl, fun h => ⟨fun _ => h, fun z => Bool.noConfusion z⟩⟩
theorem oi_false0 (p q : Prop) : OI false p q = q := propext ⟨fun h => h.2 rfl, fun h => ⟨fun z => Bool.noConfusion z, fun _ => h⟩⟩
theorem oi_t {b : Bool} {p q : Prop} (h : b = true) : OI b p q = p := by rw [h]; exact oi_true0 p q
theorem oi_f {b : Bool} {p q : Prop} (h : b = false) : OI b p q = q := by rw [h]; exact oi_false0 p q
theorem oz_small (xs : List D) (k : Prop) (h : xs.length ≤ 100) : OZ xs k = k := propext ⟨fun h => h.2, fun q => ⟨by rw [sizeLine_eq]; omega, q⟩⟩
theorem ixN_k (xs : List D) (n : Nat) (k : Nat → Prop) (h : n < xs.length) : OM (ixN xs.length (n : Int)) k = k n := by
  unfold ixN
  rw [if_pos (by omega), if_pos (by omega)]
  rfl
theorem atD_k (xs : List D) (n : Nat) (x : D) (k : D → Prop) (e : xs[n]? = some x) (h : n < xs.length) : OM (atD xs (n : Int)) k = k x := by
  unfold atD ixN
  rw [if_pos (by omega), if_pos (by omega)]
  show OM (xs[(n : Int).toNat]?) k = k x
  rw [Int.toNat_natCast, e]; rfl
theorem ol_s0 (x : Option Sv) (ρ : Ro) (n : Nat) (k : D → Ro → Prop) : OL (x :: ρ) (n + 1) k = OL ρ n fun d r => k d (x :: r) := by
  have e : EV.get (x :: ρ) (n + 1) = EV.get ρ n := rfl
  unfold OL leak
  rw [e]
  cases EV.get ρ n with
  | none => rfl
  | some s => cases s <;> rfl
theorem os_s0 (x : Option Sv) (ρ : Ro) (n : Nat) (w : W) (k : Ro → Prop) : OS (x :: ρ) (n + 1) w k = OS ρ n w fun r => k (x :: r) := by
  have e : (x :: ρ)[n + 1]? = ρ[n]? := rfl
  unfold OS setD
  rw [e]
  cases ρ[n]? with
  | none => rfl
  | some s =>
    cases s with
    | none => rfl
    | some s => cases s <;> rfl
theorem ou_s0 (x : Option Sv) (ρ : Ro) (n : Nat) (e d : D) (k : Ro → Prop) : OU (x :: ρ) (n + 1) e d k = OU ρ n e d fun r => k (x :: r) := by
  have g : EV.get (x :: ρ) (n + 1) = EV.get ρ n := rfl
  unfold OU subD
  rw [g]
  cases e with
  | int j =>
    dsimp only
    cases EV.get ρ n with
    | none => rfl
    | some s =>
      cases s with
      | dat _ => rfl
      | own xs => dsimp only; cases ixN xs.length j <;> rfl
      | io xs => dsimp only; cases ixN xs.length j <;> rfl
  | _ => rfl
theorem ou_own0 (xs : List D) (ρ : Ro) (j : Int) (d : D) (k : Ro → Prop) : OU (some (.own xs) :: ρ) 0 (.int j) d k = OM (ixN xs.length j) fun n => k (some (.own (xs.set n d)) :: ρ) := by
  show OM ((ixN xs.length j).map _) k = _
  cases ixN xs.length j <;> rfl
theorem ou_io0 (xs : List D) (ρ : Ro) (j : Int) (d : D) (k : Ro → Prop) : OU (some (.io xs) :: ρ) 0 (.int j) d k = OM (ixN xs.length j) fun n => k (some (.io (xs.set n d)) :: ρ) := by
  show OM ((ixN xs.length j).map _) k = _
  cases ixN xs.length j <;> rfl
theorem ors_cons0 (ρ : Ro) (o : Opd) (os : List Opd) (k : List D → Prop) : ORs ρ (o :: os) k = OR ρ o fun d => ORs ρ os fun ds => k (d :: ds) := by
  unfold ORs OR
  show OM ((o.rd ρ).bind _) k = _
  cases o.rd ρ with
  | none => rfl
  | some d =>
    show OM ((rdAll ρ os).map _) k = _
    cases rdAll ρ os <;> rfl
theorem or_slot0 (ρ : Ro) (i : Nat) (k : D → Prop) : OR ρ (.slot i) k = OG ρ i k := by
  show OM ((EV.get ρ i).map _) k = OM (EV.get ρ i) _
  cases EV.get ρ i <;> rfl
theorem oss_cons0 (ρ : Ro) (i : Nat) (is : List Nat) (d : D) (ds : List D) (k : Ro → Prop) : OSs ρ (i :: is) (d :: ds) k = OS ρ i (.dat d) fun ρ2 => OSs ρ2 is ds k := by
  show OM ((setD ρ i (.dat d)).bind _) k = OM (setD ρ i (.dat d)) _
  cases setD ρ i (.dat d) <;> rfl
theorem osw_cons0 (ρ : Ro) (i : Nat) (is : List Nat) (d : W) (ds : List W) (k : Ro → Prop) : OSw ρ (i :: is) (d :: ds) k = OS ρ i d fun ρ2 => OSw ρ2 is ds k := by
  show OM ((setD ρ i d).bind _) k = OM (setD ρ i d) _
  cases setD ρ i d <;> rfl
theorem oo_z0 (xs : List D) (ρ : Ro) (p : Prop) : OO (some (.own xs) :: ρ) 0 p = p := propext ⟨fun h => h.2, fun h => ⟨rfl, h⟩⟩
theorem ols_own0 (xs : List D) (ρ : Ro) (p : Prop) : OLs (some (.own xs) :: ρ) 0 p = p := propext ⟨fun h => h.2, fun h => ⟨rfl, h⟩⟩
theorem ols_io0 (xs : List D) (ρ : Ro) (p : Prop) : OLs (some (.io xs) :: ρ) 0 p = p := propext ⟨fun h => h.2, fun h => ⟨rfl, h⟩⟩
theorem ort_s0 (x : Option Sv) (ρ : Ro) (n : Nat) (k : W → Ro → Prop) : ORt (x :: ρ) (n + 1) k = ORt ρ n fun d r => k d (x :: r) := by
  have e : EV.get (x :: ρ) (n + 1) = EV.get ρ n := rfl
  unfold ORt
  rw [e, ol_s0]
  cases EV.get ρ n with
  | none => rfl
  | some s => cases s <;> rfl
section
variable (F : Nat → Option Fn) (cl : Nat → List D → FRes)
theorem e_var0 (i : Nat) (ρ : Ro) (k : W × Ro → Prop) : Ok (EV.ev F cl (.var i) ρ) k = OL ρ i fun d r => k (.dat d, r) := by
  show Ok ((Res.of (leak ρ i)).bind _) k = _
  rw [ok_bind]; unfold OL; cases leak ρ i <;> rfl
theorem p_var0 (i : Nat) (ρ : Ro) (k : Opd × Ro → Prop) : Ok (opdOf (EV.ev F cl (.var i)) (.var i) ρ) k = OG ρ i fun _ => k (.slot i, ρ) := by
  show Ok ((Res.of (EV.get ρ i)).bind _) k = _
  rw [ok_bind]; unfold OG; cases EV.get ρ i <;> rfl
theorem pd_var0 (i : Nat) (ρ : Ro) (k : Opd × Ro → Prop) : Ok (opdD (EV.ev F cl (.var i)) (.var i) ρ) k = OG ρ i fun _ => k (.slot i, ρ) := p_var0 F cl i ρ k
theorem two_rd (ρ : Ro) (o o' : Opd) {α : Type} (f : D → D → Res α) (k : α → Prop) : Ok (match o.rd ρ, o'.rd ρ with | some d, some e => f d e | _, _ => .stuck) k = OR ρ o fun d => OR ρ o' fun e => Ok (f d e) k := by
  unfold OR
  cases o.rd ρ <;> cases o'.rd ρ <;> rfl
theorem tru_ok (o : Option Bool) (r r' : Res (W × Ro)) (k : W × Ro → Prop) : Ok (match o with | some true => r | some false => r' | none => .stuck) k = OM o fun t => OI t (Ok r k) (Ok r' k) := by
  cases o with
  | none => rfl
  | some t =>
    cases t
    · exact (oi_false0 _ _).symm
    · exact (oi_true0 _ _).symm
theorem ok_ofM0 {α : Type} (o : Option α) (k : α → Prop) : Ok (Res.of o) k = OM o k := by cases o <;> rfl
theorem e_op20 (o : Op2) (a b : E) (ρ : Ro) (k : W × Ro → Prop) : Ok (EV.ev F cl (.op2 o a b) ρ) k = Ok (opdOf (EV.ev F cl a) a ρ) fun p => Ok (opdOf (EV.ev F cl b) b p.2) fun q => OR q.2 p.1 fun d => OR q.2 q.1 fun e => OM (op2 o d e) fun w => k (w, q.2) := by
  rw [EV.ev]
  rw [ok_bind]; congr 1; funext p
  rw [ok_bind]; congr 1; funext q
  refine (two_rd q.2 p.1 q.1 _ k).trans ?_
  simp only [ok_bind, ok_ofM0]; rfl
theorem e_idx0 (a b : E) (ρ : Ro) (k : W × Ro → Prop) : Ok (EV.ev F cl (.idx a b) ρ) k = Ok (opdOf (EV.ev F cl a) a ρ) fun p => Ok (opdOf (EV.ev F cl b) b p.2) fun q => OR q.2 p.1 fun d => OR q.2 q.1 fun e => OM (idxD d e) fun w => k (.dat w, q.2) := by
  rw [EV.ev]
  rw [ok_bind]; congr 1; funext p
  rw [ok_bind]; congr 1; funext q
  refine (two_rd q.2 p.1 q.1 _ k).trans ?_
  simp only [ok_bind, ok_ofM0]; rfl
theorem bind_om {α β : Type} (o : Option α) (f : α → Option β) (k : β → Prop) : OM (o.bind f) k = OM o fun a => OM (f a) k := by cases o <;> rfl
theorem e_op10 (o : Op1) (a : E) (ρ : Ro) (k : W × Ro → Prop) : Ok (EV.ev F cl (.op1 o a) ρ) k = Ok (opdOf (EV.ev F cl a) a ρ) fun p => OR p.2 p.1 fun d => OM (op1 o d) fun w => k (w, p.2) := by
  rw [EV.ev]
  simp only [ok_bind, ok_ofM0, bind_om]; rfl
theorem e_rev0 (a : E) (ρ : Ro) (k : W × Ro → Prop) : Ok (EV.ev F cl (.rev a) ρ) k = Ok (opdOf (EV.ev F cl a) a ρ) fun p => OR p.2 p.1 fun d => OM (revD d) fun w => k (w, p.2) := by
  rw [EV.ev]
  simp only [ok_bind, ok_ofM0, bind_om]; rfl
theorem e_bi0 (b : Bi) (es : Es) (ρ : Ro) (k : W × Ro → Prop) : Ok (EV.ev F cl (.bi b es) ρ) k = Ok (EV.evA F cl es ρ) fun p => ORs p.2 p.1 fun ds => OM (EV.bi b ds) fun w => k (w, p.2) := by
  rw [EV.ev]
  simp only [ok_bind, ok_ofM0, bind_om]; rfl
theorem t_test0 (e : E) (ρ : Ro) (k : Bool × Ro → Prop) : Ok (testOf (EV.ev F cl e) ρ) k = Ok (EV.ev F cl e ρ) fun p => OW p.1 fun d => OB d fun b => k (b, p.2) := by
  unfold testOf
  simp only [ok_bind, ok_ofM0]; rfl
theorem t_dat0 (e : E) (ρ : Ro) (k : D × Ro → Prop) : Ok (datOf (EV.ev F cl e) ρ) k = Ok (EV.ev F cl e ρ) fun p => OW p.1 fun d => k (d, p.2) := by
  unfold datOf
  simp only [ok_bind]; rfl
theorem ok_if {α : Type} (b : Bool) (r r' : Res α) (k : α → Prop) : Ok (if b = true then r else r') k = OI b (Ok r k) (Ok r' k) := by
  cases b
  · rw [oi_false0]; rfl
  · rw [oi_true0]; rfl
theorem e_bopT0 (e e2 : E) (r : Es) (ρ : Ro) (k : W × Ro → Prop) : Ok (EV.evB F cl true (.cons e (.cons e2 r)) ρ) k = Ok (testOf (EV.ev F cl e) ρ) fun p => OI p.1 (Ok (EV.evB F cl true (.cons e2 r) p.2) k) (k (.dat (.bool false), p.2)) := by
  rw [EV.evB]
  rw [ok_bind]; congr 1; funext p
  obtain ⟨b, ρ'⟩ := p
  cases b
  · rw [oi_false0]; rfl
  · rw [oi_true0]; rfl
  · intro z; cases z
theorem e_bopF0 (e e2 : E) (r : Es) (ρ : Ro) (k : W × Ro → Prop) : Ok (EV.evB F cl false (.cons e (.cons e2 r)) ρ) k = Ok (testOf (EV.ev F cl e) ρ) fun p => OI p.1 (k (.dat (.bool true), p.2)) (Ok (EV.evB F cl false (.cons e2 r) p.2) k) := by
  rw [EV.evB]
  rw [ok_bind]; congr 1; funext p
  obtain ⟨b, ρ'⟩ := p
  cases b
  · rw [oi_false0]; rfl
  · rw [oi_true0]; rfl
  · intro z; cases z
theorem e_not0 (a : E) (ρ : Ro) (k : W × Ro → Prop) : Ok (EV.ev F cl (.not a) ρ) k = Ok (testOf (EV.ev F cl a) ρ) fun p => ON p.1 fun b => k (.dat (.bool b), p.2) := by
  rw [EV.ev, ok_bind]; rfl
theorem e_ite0 (c a b : E) (ρ : Ro) (k : W × Ro → Prop) : Ok (EV.ev F cl (.ite c a b) ρ) k = Ok (testOf (EV.ev F cl c) ρ) fun p => OI p.1 (Ok (EV.ev F cl a p.2) k) (Ok (EV.ev F cl b p.2) k) := by
  rw [EV.ev, ok_bind]; congr 1; funext p; exact ok_if _ _ _ _
theorem e_orT0 (a b : E) (ρ : Ro) (k : W × Ro → Prop) : Ok (EV.ev F cl (.orT a b) ρ) k = Ok (EV.ev F cl a ρ) fun p => OW p.1 fun d => OM (tru d) fun t => OI t (k p) (Ok (EV.ev F cl b p.2) k) := by
  rw [EV.ev, ok_bind]; congr 1; funext p
  exact tru_ok (tru p.1.d) (.ok p) (EV.ev F cl b p.2) k
theorem ok_len {α : Type} (n : Nat) (a : α) (k : α → Prop) : Ok (if n ≤ sizeLine then .ok a else .stuck) k = (n ≤ sizeLine ∧ k a) := by
  by_cases h : n ≤ sizeLine
  · rw [if_pos h]; exact propext ⟨fun x => ⟨h, x⟩, fun x => x.2⟩
  · rw [if_neg h]; exact propext ⟨fun x => x.elim, fun x => (h x.1).elim⟩
theorem e_tup0 (es : Es) (ρ : Ro) (k : W × Ro → Prop) : Ok (EV.ev F cl (.tup es) ρ) k = Ok (EV.evL F cl es ρ) fun p => OZ p.1 (k (.dat (.tuple p.1), p.2)) := by
  rw [EV.ev, ok_bind]; congr 1; funext p; exact ok_len _ _ _
theorem e_lst0 (es : Es) (ρ : Ro) (k : W × Ro → Prop) : Ok (EV.ev F cl (.lst es) ρ) k = Ok (EV.evL F cl es ρ) fun p => OZ p.1 (k (.new p.1, p.2)) := by
  rw [EV.ev, ok_bind]; congr 1; funext p; exact ok_len _ _ _
theorem one_rd (ρ : Ro) (o : Opd) {α : Type} (f : D → Res α) (k : α → Prop) : Ok (match o.rd ρ with | some d => f d | none => .stuck) k = OR ρ o fun d => Ok (f d) k := by
  unfold OR
  cases o.rd ρ <;> rfl
theorem e_slc0 (a : E) (lo hi : Eo) (ρ : Ro) (k : W × Ro → Prop) : Ok (EV.ev F cl (.slc a lo hi) ρ) k = Ok (opdOf (EV.ev F cl a) a ρ) fun p => Ok (EV.evI F cl lo p.2) fun q => Ok (EV.evI F cl hi q.2) fun r => OR r.2 p.1 fun d => OM (slcD d q.1 r.1) fun w => k (w, r.2) := by
  rw [EV.ev]
  rw [ok_bind]; congr 1; funext p
  rw [ok_bind]; congr 1; funext q
  rw [ok_bind]; congr 1; funext r
  refine (one_rd r.2 p.1 _ k).trans ?_
  simp only [ok_bind, ok_ofM0]; rfl
theorem e_isi0 (a : E) (ts : List Ty) (b : Bool) (ρ : Ro) (k : W × Ro → Prop) : Ok (EV.ev F cl (.isi a ts b) ρ) k = Ok (opdOf (EV.ev F cl a) a ρ) fun p => OR p.2 p.1 fun d => OH ts d fun c => k (.dat (.bool c), p.2) := by
  rw [EV.ev]
  rw [ok_bind]; congr 1; funext p
  exact one_rd p.2 p.1 _ k
theorem e_rep0 (a b : E) (ρ : Ro) (k : W × Ro → Prop) : Ok (EV.ev F cl (.rep a b) ρ) k = Ok (EV.ev F cl a ρ) fun p => Ok (opdOf (EV.ev F cl b) b p.2) fun q => OR q.2 q.1 fun d => OM (repD p.1 d) fun w => k (w, q.2) := by
  rw [EV.ev]
  rw [ok_bind]; congr 1; funext p
  rw [ok_bind]; congr 1; funext q
  obtain ⟨w, ρ1⟩ := p
  obtain ⟨o, ρ2⟩ := q
  unfold OR
  dsimp only
  cases o.rd ρ2 with
  | none => cases w <;> rfl
  | some d =>
    show _ = OM (repD w d) _
    cases w with
    | dat e => cases d <;> rfl
    | new xs =>
      cases d with
      | int n =>
        dsimp only [repD]
        split
        · rfl
        · rfl
      | _ => rfl
theorem e_call0 (f : Nat) (es : Es) (ρ : Ro) (k : W × Ro → Prop) : Ok (EV.ev F cl (.call f es) ρ) k = OM (F f) fun fn => Ok (EV.evCA F cl es fn.io ρ) fun p => Ok (callE fn (cl f) p.1 p.2) k := by
  rw [EV.ev]
  cases F f with
  | none => rfl
  | some fn => exact ok_bind _ _ _
theorem e_call00 (f : Nat) (ρ : Ro) (k : W × Ro → Prop) : Ok (EV.ev F cl (.call0 f) ρ) k = OM (F f) fun fn => Ok (callE fn (cl f) [] ρ) k := by
  rw [EV.ev]
  cases F f <;> rfl
theorem e_comp0 (t : Tg) (it : It) (c : Eo) (e : E) (ρ : Ro) (k : W × Ro → Prop) : Ok (EV.ev F cl (.comp t it c e) ρ) k = Ok (EV.evIt F cl it ρ) fun p => Ok (compL (bindT t) (EV.evC F cl c) (datOf (EV.ev F cl e)) t.slots p.1 (wipeR p.2 t.slots) []) fun q => k (.new q.1, backR p.2 q.2 t.slots) := by
  rw [EV.ev, ok_bind]; congr 1; funext p; rw [ok_bind]; rfl
theorem e_meth0 (m : Me) (i : Nat) (es : Es) (ρ : Ro) (k : W × Ro → Prop) : Ok (EV.ev F cl (.meth m i es) ρ) k = OO ρ i (Ok (EV.evL F cl es ρ) fun p => Ok (methE m i p.1 p.2) k) := by
  rw [EV.ev]
  unfold OO
  cases isOwnSlot ρ i with
  | false => exact propext ⟨fun h => h.elim, fun h => nomatch h.1⟩
  | true =>
    rw [if_pos rfl, ok_bind]
    exact propext ⟨fun h => ⟨rfl, h⟩, fun h => h.2⟩
theorem l_cons0 (e : E) (r : Es) (ρ : Ro) (k : List D × Ro → Prop) : Ok (EV.evL F cl (.cons e r) ρ) k = Ok (EV.ev F cl e ρ) fun p => OW p.1 fun d => Ok (EV.evL F cl r p.2) fun q => k (d :: q.1, q.2) := by
  rw [EV.evL, ok_bind, t_dat0]; congr 1; funext p; simp only [ok_bind]; rfl
theorem a_cons0 (e : E) (r : Es) (ρ : Ro) (k : List Opd × Ro → Prop) : Ok (EV.evA F cl (.cons e r) ρ) k = Ok (opdOf (EV.ev F cl e) e ρ) fun p => Ok (EV.evA F cl r p.2) fun q => k (p.1 :: q.1, q.2) := by
  rw [EV.evA, ok_bind]; congr 1; funext p; simp only [ok_bind]; rfl
theorem c_cons00 (e : E) (r : Es) (ρ : Ro) (k : List Opd × Ro → Prop) : Ok (EV.evCA F cl (.cons e r) (some 0) ρ) k = Ok (opdOf (EV.ev F cl e) e ρ) fun p => Ok (EV.evCA F cl r none p.2) fun q => k (p.1 :: q.1, q.2) := by
  rw [EV.evCA, ok_bind, if_pos rfl]; congr 1; funext p; simp only [ok_bind]; rfl
theorem c_consN0 (e : E) (r : Es) (ρ : Ro) (k : List Opd × Ro → Prop) : Ok (EV.evCA F cl (.cons e r) none ρ) k = Ok (opdD (EV.ev F cl e) e ρ) fun p => Ok (EV.evCA F cl r none p.2) fun q => k (p.1 :: q.1, q.2) := by
  rw [EV.evCA, ok_bind, if_neg (by decide)]; congr 1; funext p; simp only [ok_bind]; rfl
theorem i_yes0 (e : E) (ρ : Ro) (k : Option Int × Ro → Prop) : Ok (EV.evI F cl (.yes e) ρ) k = Ok (EV.ev F cl e ρ) fun p => OW p.1 fun d => OM (intO d) fun i => k (some i, p.2) := by
  rw [EV.evI, ok_bind, t_dat0]; congr 1; funext p; simp only [ok_bind, ok_ofM0]; rfl
theorem it_seq0 (e : E) (ρ : Ro) (k : List D × Ro → Prop) : Ok (EV.evIt F cl (.seq e) ρ) k = Ok (EV.ev F cl e ρ) fun p => OW p.1 fun d => OM (seqD d) fun xs => k (xs, p.2) := by
  rw [EV.evIt, ok_bind, t_dat0]; congr 1; funext p; simp only [ok_bind, ok_ofM0]; rfl
theorem it_en0 (e : E) (ρ : Ro) (k : List D × Ro → Prop) : Ok (EV.evIt F cl (.enum e) ρ) k = Ok (EV.ev F cl e ρ) fun p => OW p.1 fun d => OM (items d) fun xs => k (enumD xs, p.2) := by
  rw [EV.evIt, ok_bind, t_dat0]; congr 1; funext p; simp only [ok_bind, ok_ofM0]; rfl
theorem ok_ifO {α β : Type} (c : Prop) [Decidable c] (a : α) (f : α → β) (k : β → Prop) : Ok (if c then .ok (f a) else .stuck) k = OM (if c then some a else none) fun x => k (f x) := by
  split <;> rfl
theorem it_r10 (e : E) (ρ : Ro) (k : List D × Ro → Prop) : Ok (EV.evIt F cl (.range1 e) ρ) k = Ok (EV.ev F cl e ρ) fun p => OW p.1 fun d => OM (rng1 d) fun xs => k (xs, p.2) := by
  rw [EV.evIt, ok_bind, t_dat0]; congr 1; funext p
  unfold OW
  cases p.1.d with
  | int j => exact ok_ifO _ _ (fun xs => (xs, p.2)) k
  | _ => rfl
theorem it_r20 (a b : E) (ρ : Ro) (k : List D × Ro → Prop) : Ok (EV.evIt F cl (.range2 a b) ρ) k = Ok (EV.ev F cl a ρ) fun p => OW p.1 fun d => Ok (EV.ev F cl b p.2) fun q => OW q.1 fun e => OM (rng2 d e) fun xs => k (xs, q.2) := by
  rw [EV.evIt, ok_bind, t_dat0]; congr 1; funext p
  unfold OW
  dsimp only
  rw [ok_bind, t_dat0]; congr 1; funext q
  unfold OW
  cases p.1.d with
  | int i =>
    cases q.1.d with
    | int j => exact ok_ifO _ _ (fun xs => (xs, q.2)) k
    | _ => rfl
  | _ => rfl
theorem it_dn0 (a b : E) (ρ : Ro) (k : List D × Ro → Prop) : Ok (EV.evIt F cl (.down a b) ρ) k = Ok (EV.ev F cl a ρ) fun p => OW p.1 fun d => Ok (EV.ev F cl b p.2) fun q => OW q.1 fun e => OM (rngD d e) fun xs => k (xs, q.2) := by
  rw [EV.evIt, ok_bind, t_dat0]; congr 1; funext p
  unfold OW
  dsimp only
  rw [ok_bind, t_dat0]; congr 1; funext q
  unfold OW
  cases p.1.d with
  | int i =>
    cases q.1.d with
    | int j => exact ok_ifO _ _ (fun xs => (xs, q.2)) k
    | _ => rfl
  | _ => rfl
theorem it_zp0 (a b : E) (ρ : Ro) (k : List D × Ro → Prop) : Ok (EV.evIt F cl (.zip a b) ρ) k = Ok (EV.ev F cl a ρ) fun p => OW p.1 fun d => Ok (EV.ev F cl b p.2) fun q => OW q.1 fun e => OM (zipO d e) fun xs => k (xs, q.2) := by
  rw [EV.evIt, ok_bind, t_dat0]; congr 1; funext p
  unfold OW
  dsimp only
  rw [ok_bind, t_dat0]; congr 1; funext q
  unfold OW
  cases p.1.d <;> cases q.1.d <;> rfl
theorem step (s : S) (r : Ss) (ρ : Ro) (k : EV.Flow × Ro → Prop) : Ok (EV.execs F cl (.cons s r) ρ) k = Ok (EV.exec F cl s ρ) (KN F cl r k) := by
  rw [EV.execs, ok_bind]; congr 1; funext p
  obtain ⟨f, ρ'⟩ := p
  cases f <;> rfl
theorem s_asg0 (i : Nat) (e : E) (r : Ss) (ρ : Ro) (k : EV.Flow × Ro → Prop) : Ok (EV.execs F cl (.cons (.asg i e) r) ρ) k = Ok (EV.ev F cl e ρ) fun p => OS p.2 i p.1 fun ρ2 => Ok (EV.execs F cl r ρ2) k := by
  rw [step, EV.exec, ok_bind]; congr 1; funext p; simp only [ok_bind, ok_ofM0]; rfl
theorem s_asgT0 (is : List Nat) (e : E) (r : Ss) (ρ : Ro) (k : EV.Flow × Ro → Prop) : Ok (EV.execs F cl (.cons (.asgT is e) r) ρ) k = Ok (EV.ev F cl e ρ) fun p => OW p.1 fun d => OT d fun ds => OSs p.2 is ds fun ρ2 => Ok (EV.execs F cl r ρ2) k := by
  rw [step, EV.exec, ok_bind, t_dat0]; congr 1; funext p
  unfold OW
  cases p.1.d with
  | tuple ds => dsimp only; simp only [ok_bind, ok_ofM0]; rfl
  | _ => rfl
theorem s_par0 (is : List Nat) (es : Es) (r : Ss) (ρ : Ro) (k : EV.Flow × Ro → Prop) : Ok (EV.execs F cl (.cons (.par is es) r) ρ) k = Ok (EV.evWs F cl es ρ) fun p => OSw p.2 is p.1 fun ρ2 => Ok (EV.execs F cl r ρ2) k := by
  rw [step, EV.exec, ok_bind]; congr 1; funext p; simp only [ok_bind, ok_ofM0]; rfl
theorem ws_cons0 (e : E) (r : Es) (ρ : Ro) (k : List W × Ro → Prop) : Ok (EV.evWs F cl (.cons e r) ρ) k = Ok (EV.ev F cl e ρ) fun p => Ok (EV.evWs F cl r p.2) fun q => k (p.1 :: q.1, q.2) := by
  rw [EV.evWs, ok_bind]; congr 1; funext p; simp only [ok_bind]; rfl
theorem s_sub0 (i : Nat) (x v : E) (r : Ss) (ρ : Ro) (k : EV.Flow × Ro → Prop) : Ok (EV.execs F cl (.cons (.sub i x v) r) ρ) k = OLs ρ i (Ok (EV.ev F cl v ρ) fun p => OW p.1 fun d => Ok (EV.ev F cl x p.2) fun q => OW q.1 fun e => OU q.2 i e d fun ρ2 => Ok (EV.execs F cl r ρ2) k) := by
  rw [step, EV.exec]
  unfold OLs
  cases isListSlot ρ i with
  | false => exact propext ⟨fun h => h.elim, fun h => nomatch h.1⟩
  | true =>
    rw [if_neg (by decide), ok_bind, t_dat0]
    have e : ∀ p q : Prop, p = q → p = (true = true ∧ q) := fun p q h => propext ⟨fun z => ⟨rfl, h ▸ z⟩, fun z => h ▸ z.2⟩
    apply e
    congr 1; funext p
    unfold OW
    dsimp only
    rw [ok_bind, t_dat0]
    congr 1; funext q
    unfold OW
    simp only [ok_bind, ok_ofM0]; rfl
theorem s_expr0 (e : E) (r : Ss) (ρ : Ro) (k : EV.Flow × Ro → Prop) : Ok (EV.execs F cl (.cons (.expr e) r) ρ) k = Ok (EV.ev F cl e ρ) fun p => Ok (EV.execs F cl r p.2) k := by
  rw [step, EV.exec, ok_bind]; rfl
theorem s_ret0 (e : E) (r : Ss) (ρ : Ro) (k : EV.Flow × Ro → Prop) : Ok (EV.execs F cl (.cons (.ret e) r) ρ) k = Ok (retOf (EV.ev F cl e) e ρ) fun p => k (.ret p.1, p.2) := by
  rw [step, EV.exec, ok_bind]; rfl
theorem s_ite0 (c : E) (a b r : Ss) (ρ : Ro) (k : EV.Flow × Ro → Prop) : Ok (EV.execs F cl (.cons (.ite c a b) r) ρ) k = Ok (testOf (EV.ev F cl c) ρ) fun p => OI p.1 (Ok (EV.execs F cl a p.2) (KN F cl r k)) (Ok (EV.execs F cl b p.2) (KN F cl r k)) := by
  rw [step, EV.exec, ok_bind]; congr 1; funext p; exact ok_if _ _ _ _
theorem s_for0 (t : Tg) (it : It) (b r : Ss) (ρ : Ro) (k : EV.Flow × Ro → Prop) : Ok (EV.execs F cl (.cons (.for_ t it b) r) ρ) k = Ok (EV.evIt F cl it ρ) fun p => Ok (forL (bindT t) (EV.execs F cl b) p.1 p.2) (KN F cl r k) := by
  rw [step, EV.exec, ok_bind]
theorem rt_var0 (i : Nat) (ρ : Ro) (k : W × Ro → Prop) : Ok (retOf (EV.ev F cl (.var i)) (.var i) ρ) k = ORt ρ i fun w r => k (w, r) := by
  have e := e_var0 F cl i ρ k
  unfold ORt retOf
  dsimp only
  generalize EV.get ρ i = g
  cases g with
  | none => exact e
  | some s =>
    cases s with
    | own xs => rfl
    | _ => exact e
end
def Run (F : Nat → Option Fn) (k i : Nat) (ds : List D) (Q : W → Option (List D) → Prop) : Prop := ∀ n, k ≤ n → OkF (callN F n i ds) Q
theorem Run.of {F : Nat → Option Fn} {k i : Nat} {ds : List D} {Q : W → Option (List D) → Prop} {fn : Fn} {ρ : Ro} (hf : F i = some fn) (hl : ds.length = fn.np) (hs : start ds fn.io = some ρ)
    (h : ∀ n, k ≤ n → Ok (EV.execs F (callN F n) fn.body (ρ ++ List.replicate (fn.ns - fn.np) none)) (Fin fn.io Q)) : Run F (k + 1) i ds Q := by
  intro n hn
  cases n with
  | zero => omega
  | succ n =>
    show OkF (match F i with | none => .stuck | some fn => runFn F (callN F n) fn ds) Q
    rw [hf]
    show OkF (runFn F (callN F n) fn ds) Q
    have h := h n (by omega)
    unfold runFn
    rw [if_pos hl, hs]
    dsimp only
    cases e : EV.execs F (callN F n) fn.body (ρ ++ List.replicate (fn.ns - fn.np) none) with
    | ok p =>
      rw [e] at h
      obtain ⟨f, ρ'⟩ := p
      have key : ∀ w, OE ρ' fn.io (Q w) → OkF (finish fn.io w ρ') Q := fun w h => by
        unfold OE at h
        unfold finish
        cases hh : ioEnd ρ' fn.io with
        | none => rw [hh] at h; exact h.elim
        | some r => rw [hh] at h; exact h
      cases f with
      | next => exact key _ h
      | ret w => exact key _ h
      | _ => exact h.elim
    | _ => rw [e] at h; exact h.elim
theorem Run.mono {F : Nat → Option Fn} {k k' i : Nat} {ds : List D} {Q Q' : W → Option (List D) → Prop} (h : Run F k i ds Q) (hk : k ≤ k') (f : ∀ w r, Q w r → Q' w r) : Run F k' i ds Q' := fun n hn => (h n (by omega)).mono f
/-! ### calls -/
/-- behind a call: what is lent stays as it was, what was handed in is changed -/
theorem call_ok {fn : Fn} {cl : List D → FRes} {os : List Opd} {ρ : Ro} {ds : List D} {io : Option Nat} {Q : W → Option (List D) → Prop} {k : W × Ro → Prop} (h1 : rdAll ρ os = some ds) (h2 : ioOf ρ os fn.io = some io) (h3 : lentOf ρ os fn.io = [])
    (hc : OkF (cl ds) Q) (h : ∀ w r, Q w r → PI ρ io r fun ρ' => k (w, ρ')) : Ok (callE fn cl os ρ) k := by
  unfold callE
  rw [h1, h2, h3]
  dsimp only
  have e : notLent io [] = true := by cases io <;> rfl
  rw [if_pos e]
  cases hh : cl ds with
  | ok w r =>
    rw [hh] at hc
    dsimp only
    have q := h w r hc
    split
    · exact q
    · have fr : ∀ ρ : Ro, frzR [] ρ = ρ := fun ρ => by
        unfold frzR
        apply List.ext_getElem?
        intro i
        rw [List.getElem?_mapIdx]
        cases ρ[i]? <;> rfl
      simp only [List.all_nil, if_true, fr]
      exact q
  | _ => rw [hh] at hc; exact hc.elim
/-- the answer and what was handed in have no list within: what was lent comes back as it was -/
theorem call_okC {fn : Fn} {cl : List D → FRes} {os : List Opd} {ρ : Ro} {ds : List D} {io : Option Nat} {Q : W → Option (List D) → Prop} {k : W × Ro → Prop} (h1 : rdAll ρ os = some ds) (h2 : ioOf ρ os fn.io = some io) (h3 : notLent io (lentOf ρ os fn.io) = true)
    (hc : OkF (cl ds) Q) (h : ∀ w r, Q w r → clean w r = true ∧ PI ρ io r fun ρ' => k (w, ρ')) : Ok (callE fn cl os ρ) k := by
  unfold callE
  rw [h1, h2]
  dsimp only
  rw [if_pos h3]
  cases hh : cl ds with
  | ok w r =>
    rw [hh] at hc
    dsimp only
    have q := h w r hc
    rw [if_pos q.1]
    exact q.2
  | _ => rw [hh] at hc; exact hc.elim
theorem m_app0 (xs : List D) (d : D) (ρ : Ro) (k : W × Ro → Prop) : Ok (methE .append 0 [d] (some (.own xs) :: ρ)) k = (xs.length < sizeLine ∧ k (.dat .none, some (.own (xs ++ [d])) :: ρ)) := by
  show Ok (if xs.length < sizeLine then _ else _) k = _
  split
  · rename_i h; exact propext ⟨fun z => ⟨h, z⟩, fun z => z.2⟩
  · rename_i h; exact propext ⟨fun z => z.elim, fun z => (h z.1).elim⟩
theorem m_s0 (m : Me) (n : Nat) (ds : List D) (x : Option Sv) (ρ : Ro) (k : W × Ro → Prop) : Ok (methE m (n + 1) ds (x :: ρ)) k = Ok (methE m n ds ρ) fun p => k (p.1, x :: p.2) := by
  have g : EV.get (x :: ρ) (n + 1) = EV.get ρ n := rfl
  unfold methE
  rw [g]
  cases EV.get ρ n with
  | none => rfl
  | some s =>
    cases s with
    | dat _ => rfl
    | io _ => rfl
    | own xs =>
      dsimp only
      cases m with
      | append =>
        match ds with
        | [] => rfl
        | [d] => dsimp only; split <;> rfl
        | _ :: _ :: _ => rfl
      | extend =>
        match ds with
        | [] => rfl
        | [d] =>
          dsimp only
          cases items d with
          | none => rfl
          | some ys => dsimp only; split <;> rfl
        | _ :: _ :: _ => rfl
      | popAt =>
        match ds with
        | [] => rfl
        | [d] =>
          cases d with
          | int j =>
            dsimp only
            cases ixN xs.length j with
            | none => rfl
            | some q =>
              dsimp only
              cases xs[q]? <;> rfl
          | _ => rfl
        | d :: _ :: _ => cases d <;> rfl
theorem m_pop00 (y : D) (xs : List D) (ρ : Ro) (k : W × Ro → Prop) : Ok (methE .popAt 0 [.int 0] (some (.own (y :: xs)) :: ρ)) k = k (.dat y, some (.own xs) :: ρ) := by
  have e : ixN (y :: xs).length 0 = some 0 := by
    unfold ixN
    rw [if_pos (by omega), if_pos (by simp only [List.length_cons]; omega)]
    rfl
  show Ok (match ixN (y :: xs).length 0 with | some j => _ | none => _) k = _
  rw [e]; rfl
/-! ### loops -/
theorem for_ok {bnd : D → Ro → Option Ro} {body : Ro → Res (EV.Flow × Ro)} {k : EV.Flow × Ro → Prop} (I : List D → Ro → Prop) (h0 : ∀ ρ, I [] ρ → k (.next, ρ))
    (hs : ∀ x xs ρ, I (x :: xs) ρ → OM (bnd x ρ) fun ρ1 => Ok (body ρ1) fun p => match p.1 with
      | .next => I xs p.2
      | .cont => I xs p.2
      | .brk => k (.next, p.2)
      | .ret w => k (.ret w, p.2)) : ∀ xs ρ, I xs ρ → Ok (forL bnd body xs ρ) k
  | [], ρ, h => h0 ρ h
  | x :: xs, ρ, h => by
    have q := hs x xs ρ h
    unfold forL
    rw [ok_bind, ok_ofM0]
    cases hb : bnd x ρ with
    | none => rw [hb] at q; exact q
    | some ρ1 =>
      rw [hb] at q
      show Ok ((body ρ1).bind _) k
      rw [ok_bind]
      refine Ok.mono q fun p hp => ?_
      obtain ⟨f, ρ2⟩ := p
      cases f with
      | next => exact for_ok I h0 hs xs ρ2 hp
      | cont => exact for_ok I h0 hs xs ρ2 hp
      | brk => exact hp
      | ret w => exact hp
theorem comp_ok {bnd : D → Ro → Option Ro} {test : Ro → Res (Bool × Ro)} {elt : Ro → Res (D × Ro)} {is : List Nat} {k : List D × Ro → Prop} (I : List D → Ro → List D → Prop) (h0 : ∀ ρ acc, I [] ρ acc → k (acc, ρ))
    (hs : ∀ x xs ρ acc, I (x :: xs) ρ acc → OM (bnd x ρ) fun ρ1 => Ok (test ρ1) fun p => OI p.1 (Ok (elt p.2) fun q => I xs (wipeR q.2 is) (acc ++ [q.1])) (I xs (wipeR p.2 is) acc)) : ∀ xs ρ acc, I xs ρ acc → Ok (compL bnd test elt is xs ρ acc) k
  | [], ρ, acc, h => h0 ρ acc h
  | x :: xs, ρ, acc, h => by
    have q := hs x xs ρ acc h
    unfold compL
    rw [ok_bind, ok_ofM0]
    cases hb : bnd x ρ with
    | none => rw [hb] at q; exact q
    | some ρ1 =>
      rw [hb] at q
      show Ok ((noExc (test ρ1)).bind _) k
      rw [ok_bind, ok_noExc]
      refine Ok.mono q fun p hp => ?_
      rw [ok_if]
      refine ⟨fun e => ?_, fun e => comp_ok I h0 hs xs _ _ (hp.2 e)⟩
      rw [ok_bind, ok_noExc]
      exact Ok.mono (hp.1 e) fun q hq => comp_ok I h0 hs xs _ _ hq
theorem comp_pure {bnd : D → Ro → Option Ro} {test : Ro → Res (Bool × Ro)} {elt : Ro → Res (D × Ro)} {is : List Nat} {k : List D × Ro → Prop} (ρ0 : Ro) (g : D → Option D) : ∀ (xs acc : List D),
    (∀ x ∈ xs, OM (bnd x ρ0) fun ρ1 => Ok (test ρ1) fun p => OI p.1 (Ok (elt p.2) fun q => wipeR q.2 is = ρ0 ∧ g x = some q.1) (wipeR p.2 is = ρ0 ∧ g x = none)) → k (acc ++ xs.filterMap g, ρ0) → Ok (compL bnd test elt is xs ρ0 acc) k := by
  intro xs acc hs hk
  refine comp_ok (fun ys ρ ac => ρ = ρ0 ∧ (∀ y ∈ ys, y ∈ xs) ∧ ac ++ ys.filterMap g = acc ++ xs.filterMap g) ?h0 ?hs xs ρ0 acc ⟨rfl, fun _ h => h, rfl⟩
  case h0 =>
    rintro ρ ac ⟨rfl, _, e2⟩
    simp only [List.filterMap_nil, List.append_nil] at e2
    rw [e2]; exact hk
  case hs =>
    rintro y ys ρ ac ⟨rfl, e2, e3⟩
    have q := hs y (e2 y List.mem_cons_self)
    cases hb : bnd y ρ with
    | none => rw [hb] at q; exact q
    | some ρ1 =>
      rw [hb] at q
      refine Ok.mono q fun p hp => ⟨fun e => Ok.mono (hp.1 e) fun q hq => ⟨hq.1, fun z hz => e2 z (List.mem_cons_of_mem _ hz), ?_⟩, fun e => ⟨(hp.2 e).1, fun z hz => e2 z (List.mem_cons_of_mem _ hz), ?_⟩⟩
      · rw [← e3, List.filterMap_cons, hq.2]; simp
      · rw [← e3, List.filterMap_cons, (hp.2 e).2]
theorem bk_s0 (x y : Option Sv) (ρ ρ2 : Ro) (n : Nat) (k : Ro → Prop) : BK (x :: ρ) (y :: ρ2) [n + 1] k = BK ρ ρ2 [n] fun r => k (y :: r) := rfl
theorem bindM (is : List Nat) (ds : List D) (ρ : Ro) (k : Ro → Prop) : OM (bindT (.many is) (.tuple ds) ρ) k = OSs ρ is ds k := rfl

theorem om_some {α : Type} (a : α) (k : α → Prop) : OM (some a) k = k a := (rfl)
theorem ok_ofM {α : Type} (o : Option α) (k : α → Prop) : Ok (Res.of o) k = OM o k := by cases o <;> rfl
theorem og_s (x : Option Sv) (ρ : Ro) (n : Nat) (k : D → Prop) : OG (x :: ρ) (n + 1) k = OG ρ n k := (rfl)
theorem og_dat (d : D) (ρ : Ro) (k : D → Prop) : OG (some (.dat d) :: ρ) 0 k = k d := (rfl)
theorem og_own (d : List D) (ρ : Ro) (k : D → Prop) : OG (some (.own d) :: ρ) 0 k = k (.list d) := (rfl)
theorem og_io (d : List D) (ρ : Ro) (k : D → Prop) : OG (some (.io d) :: ρ) 0 k = k (.list d) := (rfl)
theorem ol_s (x : Option Sv) (ρ : Ro) (n : Nat) (k : D → Ro → Prop) : OL (x :: ρ) (n + 1) k = OL ρ n fun d r => k d (x :: r) := ol_s0 x ρ n k
theorem ol_dat (d : D) (ρ : Ro) (k : D → Ro → Prop) : OL (some (.dat d) :: ρ) 0 k = k d (some (.dat d) :: ρ) := (rfl)
theorem ol_own (d : List D) (ρ : Ro) (k : D → Ro → Prop) : OL (some (.own d) :: ρ) 0 k = k (.list d) (some (.dat (.list d)) :: ρ) := (rfl)
theorem os_s (x : Option Sv) (ρ : Ro) (n : Nat) (w : W) (k : Ro → Prop) : OS (x :: ρ) (n + 1) w k = OS ρ n w fun r => k (x :: r) := os_s0 x ρ n w k
theorem os_nd (ρ : Ro) (d : D) (k : Ro → Prop) : OS (none :: ρ) 0 (.dat d) k = k (some (.dat d) :: ρ) := (rfl)
theorem os_nn (ρ : Ro) (d : List D) (k : Ro → Prop) : OS (none :: ρ) 0 (.new d) k = k (some (.own d) :: ρ) := (rfl)
theorem os_dd (ρ : Ro) (e d : D) (k : Ro → Prop) : OS (some (.dat e) :: ρ) 0 (.dat d) k = k (some (.dat d) :: ρ) := (rfl)
theorem os_dn (ρ : Ro) (e : D) (d : List D) (k : Ro → Prop) : OS (some (.dat e) :: ρ) 0 (.new d) k = k (some (.own d) :: ρ) := (rfl)
theorem os_od (ρ : Ro) (e : List D) (d : D) (k : Ro → Prop) : OS (some (.own e) :: ρ) 0 (.dat d) k = k (some (.dat d) :: ρ) := (rfl)
theorem os_on (ρ : Ro) (e d : List D) (k : Ro → Prop) : OS (some (.own e) :: ρ) 0 (.new d) k = k (some (.own d) :: ρ) := (rfl)
theorem or_slot (ρ : Ro) (i : Nat) (k : D → Prop) : OR ρ (.slot i) k = OG ρ i k := or_slot0 ρ i k
theorem or_dat (ρ : Ro) (d : D) (k : D → Prop) : OR ρ (.val (.dat d)) k = k d := (rfl)
theorem or_new (ρ : Ro) (d : List D) (k : D → Prop) : OR ρ (.val (.new d)) k = k (.list d) := (rfl)
theorem ors_nil (ρ : Ro) (k : List D → Prop) : ORs ρ [] k = k [] := (rfl)
theorem ors_cons (ρ : Ro) (o : Opd) (os : List Opd) (k : List D → Prop) : ORs ρ (o :: os) k = OR ρ o fun d => ORs ρ os fun ds => k (d :: ds) := ors_cons0 ρ o os k
theorem ow_dat (d : D) (k : D → Prop) : OW (.dat d) k = k d := (rfl)
theorem ow_new (d : List D) (k : D → Prop) : OW (.new d) k = k (.list d) := (rfl)
theorem ob_bool (b : Bool) (k : Bool → Prop) : OB (.bool b) k = k b := (rfl)
theorem oi_true (p q : Prop) : OI true p q = p := oi_true0 p q
theorem oi_false (p q : Prop) : OI false p q = q := oi_false0 p q
theorem oz0 (k : Prop) : OZ [] k = k := oz_small _ _ (by simp)
theorem oz1 (x0 : D) (k : Prop) : OZ [x0] k = k := oz_small _ _ (by simp)
theorem oz2 (x0 x1 : D) (k : Prop) : OZ [x0, x1] k = k := oz_small _ _ (by simp)
theorem oz3 (x0 x1 x2 : D) (k : Prop) : OZ [x0, x1, x2] k = k := oz_small _ _ (by simp)
theorem oz4 (x0 x1 x2 x3 : D) (k : Prop) : OZ [x0, x1, x2, x3] k = k := oz_small _ _ (by simp)
theorem oz5 (x0 x1 x2 x3 x4 : D) (k : Prop) : OZ [x0, x1, x2, x3, x4] k = k := oz_small _ _ (by simp)
theorem oz6 (x0 x1 x2 x3 x4 x5 : D) (k : Prop) : OZ [x0, x1, x2, x3, x4, x5] k = k := oz_small _ _ (by simp)
theorem oz7 (x0 x1 x2 x3 x4 x5 x6 : D) (k : Prop) : OZ [x0, x1, x2, x3, x4, x5, x6] k = k := oz_small _ _ (by simp)
theorem oz8 (x0 x1 x2 x3 x4 x5 x6 x7 : D) (k : Prop) : OZ [x0, x1, x2, x3, x4, x5, x6, x7] k = k := oz_small _ _ (by simp)
theorem oz9 (x0 x1 x2 x3 x4 x5 x6 x7 x8 : D) (k : Prop) : OZ [x0, x1, x2, x3, x4, x5, x6, x7, x8] k = k := oz_small _ _ (by simp)
theorem oz10 (x0 x1 x2 x3 x4 x5 x6 x7 x8 x9 : D) (k : Prop) : OZ [x0, x1, x2, x3, x4, x5, x6, x7, x8, x9] k = k := oz_small _ _ (by simp)
theorem oz11 (x0 x1 x2 x3 x4 x5 x6 x7 x8 x9 x10 : D) (k : Prop) : OZ [x0, x1, x2, x3, x4, x5, x6, x7, x8, x9, x10] k = k := oz_small _ _ (by simp)
theorem oz12 (x0 x1 x2 x3 x4 x5 x6 x7 x8 x9 x10 x11 : D) (k : Prop) : OZ [x0, x1, x2, x3, x4, x5, x6, x7, x8, x9, x10, x11] k = k := oz_small _ _ (by simp)
theorem oz13 (x0 x1 x2 x3 x4 x5 x6 x7 x8 x9 x10 x11 x12 : D) (k : Prop) : OZ [x0, x1, x2, x3, x4, x5, x6, x7, x8, x9, x10, x11, x12] k = k := oz_small _ _ (by simp)
theorem oz14 (x0 x1 x2 x3 x4 x5 x6 x7 x8 x9 x10 x11 x12 x13 : D) (k : Prop) : OZ [x0, x1, x2, x3, x4, x5, x6, x7, x8, x9, x10, x11, x12, x13] k = k := oz_small _ _ (by simp)
theorem oz15 (x0 x1 x2 x3 x4 x5 x6 x7 x8 x9 x10 x11 x12 x13 x14 : D) (k : Prop) : OZ [x0, x1, x2, x3, x4, x5, x6, x7, x8, x9, x10, x11, x12, x13, x14] k = k := oz_small _ _ (by simp)
theorem oz16 (x0 x1 x2 x3 x4 x5 x6 x7 x8 x9 x10 x11 x12 x13 x14 x15 : D) (k : Prop) : OZ [x0, x1, x2, x3, x4, x5, x6, x7, x8, x9, x10, x11, x12, x13, x14, x15] k = k := oz_small _ _ (by simp)
theorem oz17 (x0 x1 x2 x3 x4 x5 x6 x7 x8 x9 x10 x11 x12 x13 x14 x15 x16 : D) (k : Prop) : OZ [x0, x1, x2, x3, x4, x5, x6, x7, x8, x9, x10, x11, x12, x13, x14, x15, x16] k = k := oz_small _ _ (by simp)
theorem oz18 (x0 x1 x2 x3 x4 x5 x6 x7 x8 x9 x10 x11 x12 x13 x14 x15 x16 x17 : D) (k : Prop) : OZ [x0, x1, x2, x3, x4, x5, x6, x7, x8, x9, x10, x11, x12, x13, x14, x15, x16, x17] k = k := oz_small _ _ (by simp)
theorem oz19 (x0 x1 x2 x3 x4 x5 x6 x7 x8 x9 x10 x11 x12 x13 x14 x15 x16 x17 x18 : D) (k : Prop) : OZ [x0, x1, x2, x3, x4, x5, x6, x7, x8, x9, x10, x11, x12, x13, x14, x15, x16, x17, x18] k = k := oz_small _ _ (by simp)
theorem oz20 (x0 x1 x2 x3 x4 x5 x6 x7 x8 x9 x10 x11 x12 x13 x14 x15 x16 x17 x18 x19 : D) (k : Prop) : OZ [x0, x1, x2, x3, x4, x5, x6, x7, x8, x9, x10, x11, x12, x13, x14, x15, x16, x17, x18, x19] k = k := oz_small _ _ (by simp)
theorem oz21 (x0 x1 x2 x3 x4 x5 x6 x7 x8 x9 x10 x11 x12 x13 x14 x15 x16 x17 x18 x19 x20 : D) (k : Prop) : OZ [x0, x1, x2, x3, x4, x5, x6, x7, x8, x9, x10, x11, x12, x13, x14, x15, x16, x17, x18, x19, x20] k = k := oz_small _ _ (by simp)
theorem oz22 (x0 x1 x2 x3 x4 x5 x6 x7 x8 x9 x10 x11 x12 x13 x14 x15 x16 x17 x18 x19 x20 x21 : D) (k : Prop) : OZ [x0, x1, x2, x3, x4, x5, x6, x7, x8, x9, x10, x11, x12, x13, x14, x15, x16, x17, x18, x19, x20, x21] k = k := oz_small _ _ (by simp)
theorem oz23 (x0 x1 x2 x3 x4 x5 x6 x7 x8 x9 x10 x11 x12 x13 x14 x15 x16 x17 x18 x19 x20 x21 x22 : D) (k : Prop) : OZ [x0, x1, x2, x3, x4, x5, x6, x7, x8, x9, x10, x11, x12, x13, x14, x15, x16, x17, x18, x19, x20, x21, x22] k = k := oz_small _ _ (by simp)
theorem oz24 (x0 x1 x2 x3 x4 x5 x6 x7 x8 x9 x10 x11 x12 x13 x14 x15 x16 x17 x18 x19 x20 x21 x22 x23 : D) (k : Prop) : OZ [x0, x1, x2, x3, x4, x5, x6, x7, x8, x9, x10, x11, x12, x13, x14, x15, x16, x17, x18, x19, x20, x21, x22, x23] k = k := oz_small _ _ (by simp)
theorem oz25 (x0 x1 x2 x3 x4 x5 x6 x7 x8 x9 x10 x11 x12 x13 x14 x15 x16 x17 x18 x19 x20 x21 x22 x23 x24 : D) (k : Prop) : OZ [x0, x1, x2, x3, x4, x5, x6, x7, x8, x9, x10, x11, x12, x13, x14, x15, x16, x17, x18, x19, x20, x21, x22, x23, x24] k = k := oz_small _ _ (by simp)
theorem oz26 (x0 x1 x2 x3 x4 x5 x6 x7 x8 x9 x10 x11 x12 x13 x14 x15 x16 x17 x18 x19 x20 x21 x22 x23 x24 x25 : D) (k : Prop) : OZ [x0, x1, x2, x3, x4, x5, x6, x7, x8, x9, x10, x11, x12, x13, x14, x15, x16, x17, x18, x19, x20, x21, x22, x23, x24, x25] k = k := oz_small _ _ (by simp)
theorem oz27 (x0 x1 x2 x3 x4 x5 x6 x7 x8 x9 x10 x11 x12 x13 x14 x15 x16 x17 x18 x19 x20 x21 x22 x23 x24 x25 x26 : D) (k : Prop) : OZ [x0, x1, x2, x3, x4, x5, x6, x7, x8, x9, x10, x11, x12, x13, x14, x15, x16, x17, x18, x19, x20, x21, x22, x23, x24, x25, x26] k = k := oz_small _ _ (by simp)
theorem oz28 (x0 x1 x2 x3 x4 x5 x6 x7 x8 x9 x10 x11 x12 x13 x14 x15 x16 x17 x18 x19 x20 x21 x22 x23 x24 x25 x26 x27 : D) (k : Prop) : OZ [x0, x1, x2, x3, x4, x5, x6, x7, x8, x9, x10, x11, x12, x13, x14, x15, x16, x17, x18, x19, x20, x21, x22, x23, x24, x25, x26, x27] k = k := oz_small _ _ (by simp)
theorem oz29 (x0 x1 x2 x3 x4 x5 x6 x7 x8 x9 x10 x11 x12 x13 x14 x15 x16 x17 x18 x19 x20 x21 x22 x23 x24 x25 x26 x27 x28 : D) (k : Prop) : OZ [x0, x1, x2, x3, x4, x5, x6, x7, x8, x9, x10, x11, x12, x13, x14, x15, x16, x17, x18, x19, x20, x21, x22, x23, x24, x25, x26, x27, x28] k = k := oz_small _ _ (by simp)
theorem oz30 (x0 x1 x2 x3 x4 x5 x6 x7 x8 x9 x10 x11 x12 x13 x14 x15 x16 x17 x18 x19 x20 x21 x22 x23 x24 x25 x26 x27 x28 x29 : D) (k : Prop) : OZ [x0, x1, x2, x3, x4, x5, x6, x7, x8, x9, x10, x11, x12, x13, x14, x15, x16, x17, x18, x19, x20, x21, x22, x23, x24, x25, x26, x27, x28, x29] k = k := oz_small _ _ (by simp)
theorem oz31 (x0 x1 x2 x3 x4 x5 x6 x7 x8 x9 x10 x11 x12 x13 x14 x15 x16 x17 x18 x19 x20 x21 x22 x23 x24 x25 x26 x27 x28 x29 x30 : D) (k : Prop) : OZ [x0, x1, x2, x3, x4, x5, x6, x7, x8, x9, x10, x11, x12, x13, x14, x15, x16, x17, x18, x19, x20, x21, x22, x23, x24, x25, x26, x27, x28, x29, x30] k = k := oz_small _ _ (by simp)
theorem oz32 (x0 x1 x2 x3 x4 x5 x6 x7 x8 x9 x10 x11 x12 x13 x14 x15 x16 x17 x18 x19 x20 x21 x22 x23 x24 x25 x26 x27 x28 x29 x30 x31 : D) (k : Prop) : OZ [x0, x1, x2, x3, x4, x5, x6, x7, x8, x9, x10, x11, x12, x13, x14, x15, x16, x17, x18, x19, x20, x21, x22, x23, x24, x25, x26, x27, x28, x29, x30, x31] k = k := oz_small _ _ (by simp)
theorem oz33 (x0 x1 x2 x3 x4 x5 x6 x7 x8 x9 x10 x11 x12 x13 x14 x15 x16 x17 x18 x19 x20 x21 x22 x23 x24 x25 x26 x27 x28 x29 x30 x31 x32 : D) (k : Prop) : OZ [x0, x1, x2, x3, x4, x5, x6, x7, x8, x9, x10, x11, x12, x13, x14, x15, x16, x17, x18, x19, x20, x21, x22, x23, x24, x25, x26, x27, x28, x29, x30, x31, x32] k = k := oz_small _ _ (by simp)
theorem oz34 (x0 x1 x2 x3 x4 x5 x6 x7 x8 x9 x10 x11 x12 x13 x14 x15 x16 x17 x18 x19 x20 x21 x22 x23 x24 x25 x26 x27 x28 x29 x30 x31 x32 x33 : D) (k : Prop) : OZ [x0, x1, x2, x3, x4, x5, x6, x7, x8, x9, x10, x11, x12, x13, x14, x15, x16, x17, x18, x19, x20, x21, x22, x23, x24, x25, x26, x27, x28, x29, x30, x31, x32, x33] k = k := oz_small _ _ (by simp)
theorem oz35 (x0 x1 x2 x3 x4 x5 x6 x7 x8 x9 x10 x11 x12 x13 x14 x15 x16 x17 x18 x19 x20 x21 x22 x23 x24 x25 x26 x27 x28 x29 x30 x31 x32 x33 x34 : D) (k : Prop) : OZ [x0, x1, x2, x3, x4, x5, x6, x7, x8, x9, x10, x11, x12, x13, x14, x15, x16, x17, x18, x19, x20, x21, x22, x23, x24, x25, x26, x27, x28, x29, x30, x31, x32, x33, x34] k = k := oz_small _ _ (by simp)
theorem oz36 (x0 x1 x2 x3 x4 x5 x6 x7 x8 x9 x10 x11 x12 x13 x14 x15 x16 x17 x18 x19 x20 x21 x22 x23 x24 x25 x26 x27 x28 x29 x30 x31 x32 x33 x34 x35 : D) (k : Prop) : OZ [x0, x1, x2, x3, x4, x5, x6, x7, x8, x9, x10, x11, x12, x13, x14, x15, x16, x17, x18, x19, x20, x21, x22, x23, x24, x25, x26, x27, x28, x29, x30, x31, x32, x33, x34, x35] k = k := oz_small _ _ (by simp)
theorem oz37 (x0 x1 x2 x3 x4 x5 x6 x7 x8 x9 x10 x11 x12 x13 x14 x15 x16 x17 x18 x19 x20 x21 x22 x23 x24 x25 x26 x27 x28 x29 x30 x31 x32 x33 x34 x35 x36 : D) (k : Prop) : OZ [x0, x1, x2, x3, x4, x5, x6, x7, x8, x9, x10, x11, x12, x13, x14, x15, x16, x17, x18, x19, x20, x21, x22, x23, x24, x25, x26, x27, x28, x29, x30, x31, x32, x33, x34, x35, x36] k = k := oz_small _ _ (by simp)
theorem oz38 (x0 x1 x2 x3 x4 x5 x6 x7 x8 x9 x10 x11 x12 x13 x14 x15 x16 x17 x18 x19 x20 x21 x22 x23 x24 x25 x26 x27 x28 x29 x30 x31 x32 x33 x34 x35 x36 x37 : D) (k : Prop) : OZ [x0, x1, x2, x3, x4, x5, x6, x7, x8, x9, x10, x11, x12, x13, x14, x15, x16, x17, x18, x19, x20, x21, x22, x23, x24, x25, x26, x27, x28, x29, x30, x31, x32, x33, x34, x35, x36, x37] k = k := oz_small _ _ (by simp)
theorem oz39 (x0 x1 x2 x3 x4 x5 x6 x7 x8 x9 x10 x11 x12 x13 x14 x15 x16 x17 x18 x19 x20 x21 x22 x23 x24 x25 x26 x27 x28 x29 x30 x31 x32 x33 x34 x35 x36 x37 x38 : D) (k : Prop) : OZ [x0, x1, x2, x3, x4, x5, x6, x7, x8, x9, x10, x11, x12, x13, x14, x15, x16, x17, x18, x19, x20, x21, x22, x23, x24, x25, x26, x27, x28, x29, x30, x31, x32, x33, x34, x35, x36, x37, x38] k = k := oz_small _ _ (by simp)
theorem e_var (F : Nat → Option Fn) (cl : Nat → List D → FRes) (i : Nat) (ρ : Ro) (k : W × Ro → Prop) : Ok (EV.ev F cl (.var i) ρ) k = OL ρ i fun d r => k (.dat d, r) := e_var0 F cl i ρ k
theorem e_cst (F : Nat → Option Fn) (cl : Nat → List D → FRes) (d : D) (ρ : Ro) (k : W × Ro → Prop) : Ok (EV.ev F cl (.cst d) ρ) k = k (.dat d, ρ) := (rfl)
theorem e_glo (F : Nat → Option Fn) (cl : Nat → List D → FRes) (n : Nat) (d : D) (ρ : Ro) (k : W × Ro → Prop) : Ok (EV.ev F cl (.glo n d) ρ) k = k (.dat d, ρ) := (rfl)
theorem e_op2 (F : Nat → Option Fn) (cl : Nat → List D → FRes) (o : Op2) (a b : E) (ρ : Ro) (k : W × Ro → Prop) : Ok (EV.ev F cl (.op2 o a b) ρ) k = Ok (opdOf (EV.ev F cl a) a ρ) fun p => Ok (opdOf (EV.ev F cl b) b p.2) fun q => OR q.2 p.1 fun d => OR q.2 q.1 fun e => OM (op2 o d e) fun w => k (w, q.2) := e_op20 F cl o a b ρ k
theorem e_op1 (F : Nat → Option Fn) (cl : Nat → List D → FRes) (o : Op1) (a : E) (ρ : Ro) (k : W × Ro → Prop) : Ok (EV.ev F cl (.op1 o a) ρ) k = Ok (opdOf (EV.ev F cl a) a ρ) fun p => OR p.2 p.1 fun d => OM (op1 o d) fun w => k (w, p.2) := e_op10 F cl o a ρ k
theorem e_bop (F : Nat → Option Fn) (cl : Nat → List D → FRes) (c : Bool) (es : Es) (ρ : Ro) (k : W × Ro → Prop) : Ok (EV.ev F cl (.bop c es) ρ) k = Ok (EV.evB F cl c es ρ) k := (rfl)
theorem e_bop1 (F : Nat → Option Fn) (cl : Nat → List D → FRes) (c : Bool) (e : E) (ρ : Ro) (k : W × Ro → Prop) : Ok (EV.evB F cl c (.cons e .nil) ρ) k = Ok (EV.ev F cl e ρ) k := (rfl)
theorem e_bopT (F : Nat → Option Fn) (cl : Nat → List D → FRes) (e e2 : E) (r : Es) (ρ : Ro) (k : W × Ro → Prop) : Ok (EV.evB F cl true (.cons e (.cons e2 r)) ρ) k = Ok (testOf (EV.ev F cl e) ρ) fun p => OI p.1 (Ok (EV.evB F cl true (.cons e2 r) p.2) k) (k (.dat (.bool false), p.2)) := e_bopT0 F cl e e2 r ρ k
theorem e_bopF (F : Nat → Option Fn) (cl : Nat → List D → FRes) (e e2 : E) (r : Es) (ρ : Ro) (k : W × Ro → Prop) : Ok (EV.evB F cl false (.cons e (.cons e2 r)) ρ) k = Ok (testOf (EV.ev F cl e) ρ) fun p => OI p.1 (k (.dat (.bool true), p.2)) (Ok (EV.evB F cl false (.cons e2 r) p.2) k) := e_bopF0 F cl e e2 r ρ k
theorem e_not (F : Nat → Option Fn) (cl : Nat → List D → FRes) (a : E) (ρ : Ro) (k : W × Ro → Prop) : Ok (EV.ev F cl (.not a) ρ) k = Ok (testOf (EV.ev F cl a) ρ) fun p => ON p.1 fun b => k (.dat (.bool b), p.2) := e_not0 F cl a ρ k
theorem on_t (k : Bool → Prop) : ON true k = k false := (rfl)
theorem on_f (k : Bool → Prop) : ON false k = k true := (rfl)
theorem e_ite (F : Nat → Option Fn) (cl : Nat → List D → FRes) (c a b : E) (ρ : Ro) (k : W × Ro → Prop) : Ok (EV.ev F cl (.ite c a b) ρ) k = Ok (testOf (EV.ev F cl c) ρ) fun p => OI p.1 (Ok (EV.ev F cl a p.2) k) (Ok (EV.ev F cl b p.2) k) := e_ite0 F cl c a b ρ k
theorem e_orT (F : Nat → Option Fn) (cl : Nat → List D → FRes) (a b : E) (ρ : Ro) (k : W × Ro → Prop) : Ok (EV.ev F cl (.orT a b) ρ) k = Ok (EV.ev F cl a ρ) fun p => OW p.1 fun d => OM (tru d) fun t => OI t (k p) (Ok (EV.ev F cl b p.2) k) := e_orT0 F cl a b ρ k
theorem e_tup (F : Nat → Option Fn) (cl : Nat → List D → FRes) (es : Es) (ρ : Ro) (k : W × Ro → Prop) : Ok (EV.ev F cl (.tup es) ρ) k = Ok (EV.evL F cl es ρ) fun p => OZ p.1 (k (.dat (.tuple p.1), p.2)) := e_tup0 F cl es ρ k
theorem e_lst (F : Nat → Option Fn) (cl : Nat → List D → FRes) (es : Es) (ρ : Ro) (k : W × Ro → Prop) : Ok (EV.ev F cl (.lst es) ρ) k = Ok (EV.evL F cl es ρ) fun p => OZ p.1 (k (.new p.1, p.2)) := e_lst0 F cl es ρ k
theorem e_idx (F : Nat → Option Fn) (cl : Nat → List D → FRes) (a b : E) (ρ : Ro) (k : W × Ro → Prop) : Ok (EV.ev F cl (.idx a b) ρ) k = Ok (opdOf (EV.ev F cl a) a ρ) fun p => Ok (opdOf (EV.ev F cl b) b p.2) fun q => OR q.2 p.1 fun d => OR q.2 q.1 fun e => OM (idxD d e) fun w => k (.dat w, q.2) := e_idx0 F cl a b ρ k
theorem e_slc (F : Nat → Option Fn) (cl : Nat → List D → FRes) (a : E) (lo hi : Eo) (ρ : Ro) (k : W × Ro → Prop) : Ok (EV.ev F cl (.slc a lo hi) ρ) k = Ok (opdOf (EV.ev F cl a) a ρ) fun p => Ok (EV.evI F cl lo p.2) fun q => Ok (EV.evI F cl hi q.2) fun r => OR r.2 p.1 fun d => OM (slcD d q.1 r.1) fun w => k (w, r.2) := e_slc0 F cl a lo hi ρ k
theorem e_rev (F : Nat → Option Fn) (cl : Nat → List D → FRes) (a : E) (ρ : Ro) (k : W × Ro → Prop) : Ok (EV.ev F cl (.rev a) ρ) k = Ok (opdOf (EV.ev F cl a) a ρ) fun p => OR p.2 p.1 fun d => OM (revD d) fun w => k (w, p.2) := e_rev0 F cl a ρ k
theorem e_bi (F : Nat → Option Fn) (cl : Nat → List D → FRes) (b : Bi) (es : Es) (ρ : Ro) (k : W × Ro → Prop) : Ok (EV.ev F cl (.bi b es) ρ) k = Ok (EV.evA F cl es ρ) fun p => ORs p.2 p.1 fun ds => OM (EV.bi b ds) fun w => k (w, p.2) := e_bi0 F cl b es ρ k
theorem e_isi (F : Nat → Option Fn) (cl : Nat → List D → FRes) (a : E) (ts : List Ty) (b : Bool) (ρ : Ro) (k : W × Ro → Prop) : Ok (EV.ev F cl (.isi a ts b) ρ) k = Ok (opdOf (EV.ev F cl a) a ρ) fun p => OR p.2 p.1 fun d => OH ts d fun c => k (.dat (.bool c), p.2) := e_isi0 F cl a ts b ρ k
theorem e_rep (F : Nat → Option Fn) (cl : Nat → List D → FRes) (a b : E) (ρ : Ro) (k : W × Ro → Prop) : Ok (EV.ev F cl (.rep a b) ρ) k = Ok (EV.ev F cl a ρ) fun p => Ok (opdOf (EV.ev F cl b) b p.2) fun q => OR q.2 q.1 fun d => OM (repD p.1 d) fun w => k (w, q.2) := e_rep0 F cl a b ρ k
theorem e_call (F : Nat → Option Fn) (cl : Nat → List D → FRes) (f : Nat) (es : Es) (ρ : Ro) (k : W × Ro → Prop) : Ok (EV.ev F cl (.call f es) ρ) k = OM (F f) fun fn => Ok (EV.evCA F cl es fn.io ρ) fun p => Ok (callE fn (cl f) p.1 p.2) k := e_call0 F cl f es ρ k
theorem e_calz (F : Nat → Option Fn) (cl : Nat → List D → FRes) (f : Nat) (ρ : Ro) (k : W × Ro → Prop) : Ok (EV.ev F cl (.call0 f) ρ) k = OM (F f) fun fn => Ok (callE fn (cl f) [] ρ) k := e_call00 F cl f ρ k
theorem e_comp (F : Nat → Option Fn) (cl : Nat → List D → FRes) (t : Tg) (it : It) (c : Eo) (e : E) (ρ : Ro) (k : W × Ro → Prop) : Ok (EV.ev F cl (.comp t it c e) ρ) k = Ok (EV.evIt F cl it ρ) fun p => Ok (compL (bindT t) (EV.evC F cl c) (datOf (EV.ev F cl e)) t.slots p.1 (wipeR p.2 t.slots) []) fun q => BK p.2 q.2 t.slots fun r => k (.new q.1, r) := e_comp0 F cl t it c e ρ k
theorem e_meth (F : Nat → Option Fn) (cl : Nat → List D → FRes) (m : Me) (i : Nat) (es : Es) (ρ : Ro) (k : W × Ro → Prop) : Ok (EV.ev F cl (.meth m i es) ρ) k = OO ρ i (Ok (EV.evL F cl es ρ) fun p => Ok (methE m i p.1 p.2) k) := e_meth0 F cl m i es ρ k
theorem oo_s (x : Option Sv) (ρ : Ro) (n : Nat) (p : Prop) : OO (x :: ρ) (n + 1) p = OO ρ n p := (rfl)
theorem oo_z (xs : List D) (ρ : Ro) (p : Prop) : OO (some (.own xs) :: ρ) 0 p = p := oo_z0 xs ρ p
theorem l_nil (F : Nat → Option Fn) (cl : Nat → List D → FRes) (ρ : Ro) (k : List D × Ro → Prop) : Ok (EV.evL F cl .nil ρ) k = k ([], ρ) := (rfl)
theorem l_cons (F : Nat → Option Fn) (cl : Nat → List D → FRes) (e : E) (r : Es) (ρ : Ro) (k : List D × Ro → Prop) : Ok (EV.evL F cl (.cons e r) ρ) k = Ok (EV.ev F cl e ρ) fun p => OW p.1 fun d => Ok (EV.evL F cl r p.2) fun q => k (d :: q.1, q.2) := l_cons0 F cl e r ρ k
theorem a_nil (F : Nat → Option Fn) (cl : Nat → List D → FRes) (ρ : Ro) (k : List Opd × Ro → Prop) : Ok (EV.evA F cl .nil ρ) k = k ([], ρ) := (rfl)
theorem a_cons (F : Nat → Option Fn) (cl : Nat → List D → FRes) (e : E) (r : Es) (ρ : Ro) (k : List Opd × Ro → Prop) : Ok (EV.evA F cl (.cons e r) ρ) k = Ok (opdOf (EV.ev F cl e) e ρ) fun p => Ok (EV.evA F cl r p.2) fun q => k (p.1 :: q.1, q.2) := a_cons0 F cl e r ρ k
theorem c_nil (F : Nat → Option Fn) (cl : Nat → List D → FRes) (io : Option Nat) (ρ : Ro) (k : List Opd × Ro → Prop) : Ok (EV.evCA F cl .nil io ρ) k = k ([], ρ) := (rfl)
theorem c_cons0 (F : Nat → Option Fn) (cl : Nat → List D → FRes) (e : E) (r : Es) (ρ : Ro) (k : List Opd × Ro → Prop) : Ok (EV.evCA F cl (.cons e r) (some 0) ρ) k = Ok (opdOf (EV.ev F cl e) e ρ) fun p => Ok (EV.evCA F cl r none p.2) fun q => k (p.1 :: q.1, q.2) := c_cons00 F cl e r ρ k
theorem c_consN (F : Nat → Option Fn) (cl : Nat → List D → FRes) (e : E) (r : Es) (ρ : Ro) (k : List Opd × Ro → Prop) : Ok (EV.evCA F cl (.cons e r) none ρ) k = Ok (opdD (EV.ev F cl e) e ρ) fun p => Ok (EV.evCA F cl r none p.2) fun q => k (p.1 :: q.1, q.2) := c_consN0 F cl e r ρ k
theorem i_no (F : Nat → Option Fn) (cl : Nat → List D → FRes) (ρ : Ro) (k : Option Int × Ro → Prop) : Ok (EV.evI F cl .no ρ) k = k (none, ρ) := (rfl)
theorem i_yes (F : Nat → Option Fn) (cl : Nat → List D → FRes) (e : E) (ρ : Ro) (k : Option Int × Ro → Prop) : Ok (EV.evI F cl (.yes e) ρ) k = Ok (EV.ev F cl e ρ) fun p => OW p.1 fun d => OM (intO d) fun i => k (some i, p.2) := i_yes0 F cl e ρ k
theorem cc_no (F : Nat → Option Fn) (cl : Nat → List D → FRes) (ρ : Ro) (k : Bool × Ro → Prop) : Ok (EV.evC F cl .no ρ) k = k (true, ρ) := (rfl)
theorem cc_yes (F : Nat → Option Fn) (cl : Nat → List D → FRes) (e : E) (ρ : Ro) (k : Bool × Ro → Prop) : Ok (EV.evC F cl (.yes e) ρ) k = Ok (testOf (EV.ev F cl e) ρ) k := (rfl)
theorem t_test (F : Nat → Option Fn) (cl : Nat → List D → FRes) (e : E) (ρ : Ro) (k : Bool × Ro → Prop) : Ok (testOf (EV.ev F cl e) ρ) k = Ok (EV.ev F cl e ρ) fun p => OW p.1 fun d => OB d fun b => k (b, p.2) := t_test0 F cl e ρ k
theorem t_dat (F : Nat → Option Fn) (cl : Nat → List D → FRes) (e : E) (ρ : Ro) (k : D × Ro → Prop) : Ok (datOf (EV.ev F cl e) ρ) k = Ok (EV.ev F cl e ρ) fun p => OW p.1 fun d => k (d, p.2) := t_dat0 F cl e ρ k
theorem it_seq (F : Nat → Option Fn) (cl : Nat → List D → FRes) (e : E) (ρ : Ro) (k : List D × Ro → Prop) : Ok (EV.evIt F cl (.seq e) ρ) k = Ok (EV.ev F cl e ρ) fun p => OW p.1 fun d => OM (seqD d) fun xs => k (xs, p.2) := it_seq0 F cl e ρ k
theorem it_r1 (F : Nat → Option Fn) (cl : Nat → List D → FRes) (e : E) (ρ : Ro) (k : List D × Ro → Prop) : Ok (EV.evIt F cl (.range1 e) ρ) k = Ok (EV.ev F cl e ρ) fun p => OW p.1 fun d => OM (rng1 d) fun xs => k (xs, p.2) := it_r10 F cl e ρ k
theorem it_r2 (F : Nat → Option Fn) (cl : Nat → List D → FRes) (a b : E) (ρ : Ro) (k : List D × Ro → Prop) : Ok (EV.evIt F cl (.range2 a b) ρ) k = Ok (EV.ev F cl a ρ) fun p => OW p.1 fun d => Ok (EV.ev F cl b p.2) fun q => OW q.1 fun e => OM (rng2 d e) fun xs => k (xs, q.2) := it_r20 F cl a b ρ k
theorem it_dn (F : Nat → Option Fn) (cl : Nat → List D → FRes) (a b : E) (ρ : Ro) (k : List D × Ro → Prop) : Ok (EV.evIt F cl (.down a b) ρ) k = Ok (EV.ev F cl a ρ) fun p => OW p.1 fun d => Ok (EV.ev F cl b p.2) fun q => OW q.1 fun e => OM (rngD d e) fun xs => k (xs, q.2) := it_dn0 F cl a b ρ k
theorem it_en (F : Nat → Option Fn) (cl : Nat → List D → FRes) (e : E) (ρ : Ro) (k : List D × Ro → Prop) : Ok (EV.evIt F cl (.enum e) ρ) k = Ok (EV.ev F cl e ρ) fun p => OW p.1 fun d => OM (items d) fun xs => k (enumD xs, p.2) := it_en0 F cl e ρ k
theorem it_zp (F : Nat → Option Fn) (cl : Nat → List D → FRes) (a b : E) (ρ : Ro) (k : List D × Ro → Prop) : Ok (EV.evIt F cl (.zip a b) ρ) k = Ok (EV.ev F cl a ρ) fun p => OW p.1 fun d => Ok (EV.ev F cl b p.2) fun q => OW q.1 fun e => OM (zipO d e) fun xs => k (xs, q.2) := it_zp0 F cl a b ρ k
theorem bk_one (ρ ρ2 : Ro) (i : Nat) (k : Ro → Prop) : BK ρ ρ2 (Tg.slots (.one i)) k = BK ρ ρ2 [i] k := (rfl)
theorem bk_many (ρ ρ2 : Ro) (is : List Nat) (k : Ro → Prop) : BK ρ ρ2 (Tg.slots (.many is)) k = BK ρ ρ2 is k := (rfl)
theorem bk_two (ρ ρ2 : Ro) (i j : Nat) (is : List Nat) (k : Ro → Prop) : BK ρ ρ2 (i :: j :: is) k = BK ρ ρ2 (j :: is) fun r => BK ρ r [i] k := (rfl)
theorem bk_z (x y : Option Sv) (ρ ρ2 : Ro) (k : Ro → Prop) : BK (x :: ρ) (y :: ρ2) [0] k = k (x :: ρ2) := (rfl)
theorem bk_s (x y : Option Sv) (ρ ρ2 : Ro) (n : Nat) (k : Ro → Prop) : BK (x :: ρ) (y :: ρ2) [n + 1] k = BK ρ ρ2 [n] fun r => k (y :: r) := (rfl)
theorem pi_none (ρ : Ro) (r : Option (List D)) (k : Ro → Prop) : PI ρ none r k = k ρ := (rfl)
theorem pi_io (xs ys : List D) (ρ : Ro) (k : Ro → Prop) : PI (some (.io xs) :: ρ) (some 0) (some ys) k = k (some (.io ys) :: ρ) := (rfl)
theorem pi_own (xs ys : List D) (ρ : Ro) (k : Ro → Prop) : PI (some (.own xs) :: ρ) (some 0) (some ys) k = k (some (.own ys) :: ρ) := (rfl)
theorem bnd_one (i : Nat) (d : D) (ρ : Ro) (k : Ro → Prop) : OM (bindT (.one i) d ρ) k = OS ρ i (.dat d) k := (rfl)
theorem bnd_many (is : List Nat) (ds : List D) (ρ : Ro) (k : Ro → Prop) : OM (bindT (.many is) (.tuple ds) ρ) k = OSs ρ is ds k := (rfl)
theorem m_app (xs : List D) (d : D) (ρ : Ro) (k : W × Ro → Prop) : Ok (methE .append 0 [d] (some (.own xs) :: ρ)) k = (xs.length < sizeLine ∧ k (.dat .none, some (.own (xs ++ [d])) :: ρ)) := m_app0 xs d ρ k
theorem m_s (m : Me) (n : Nat) (ds : List D) (x : Option Sv) (ρ : Ro) (k : W × Ro → Prop) : Ok (methE m (n + 1) ds (x :: ρ)) k = Ok (methE m n ds ρ) fun p => k (p.1, x :: p.2) := m_s0 m n ds x ρ k
theorem m_pop0 (y : D) (xs : List D) (ρ : Ro) (k : W × Ro → Prop) : Ok (methE .popAt 0 [.int 0] (some (.own (y :: xs)) :: ρ)) k = k (.dat y, some (.own xs) :: ρ) := m_pop00 y xs ρ k
theorem p_var (F : Nat → Option Fn) (cl : Nat → List D → FRes) (i : Nat) (ρ : Ro) (k : Opd × Ro → Prop) : Ok (opdOf (EV.ev F cl (.var i)) (.var i) ρ) k = OG ρ i fun _ => k (.slot i, ρ) := p_var0 F cl i ρ k
theorem pd_var (F : Nat → Option Fn) (cl : Nat → List D → FRes) (i : Nat) (ρ : Ro) (k : Opd × Ro → Prop) : Ok (opdD (EV.ev F cl (.var i)) (.var i) ρ) k = OG ρ i fun _ => k (.slot i, ρ) := pd_var0 F cl i ρ k
theorem p_cst (F : Nat → Option Fn) (cl : Nat → List D → FRes) (d : D) (ρ : Ro) (k : Opd × Ro → Prop) : Ok (opdOf (EV.ev F cl (E.cst d)) (E.cst d) ρ) k = Ok (EV.ev F cl (E.cst d) ρ) fun p => k (.val p.1, p.2) := (rfl)
theorem pd_cst (F : Nat → Option Fn) (cl : Nat → List D → FRes) (d : D) (ρ : Ro) (k : Opd × Ro → Prop) : Ok (opdD (EV.ev F cl (E.cst d)) (E.cst d) ρ) k = Ok (EV.ev F cl (E.cst d) ρ) fun p => OW p.1 fun d => k (.val (.dat d), p.2) := (rfl)
theorem p_op2 (F : Nat → Option Fn) (cl : Nat → List D → FRes) (o : Op2) (a b : E) (ρ : Ro) (k : Opd × Ro → Prop) : Ok (opdOf (EV.ev F cl (E.op2 o a b)) (E.op2 o a b) ρ) k = Ok (EV.ev F cl (E.op2 o a b) ρ) fun p => k (.val p.1, p.2) := ok_bind (EV.ev F cl (E.op2 o a b) ρ) _ k
theorem pd_op2 (F : Nat → Option Fn) (cl : Nat → List D → FRes) (o : Op2) (a b : E) (ρ : Ro) (k : Opd × Ro → Prop) : Ok (opdD (EV.ev F cl (E.op2 o a b)) (E.op2 o a b) ρ) k = Ok (EV.ev F cl (E.op2 o a b) ρ) fun p => OW p.1 fun d => k (.val (.dat d), p.2) := ok_bind (EV.ev F cl (E.op2 o a b) ρ) _ k
theorem p_op1 (F : Nat → Option Fn) (cl : Nat → List D → FRes) (o : Op1) (a : E) (ρ : Ro) (k : Opd × Ro → Prop) : Ok (opdOf (EV.ev F cl (E.op1 o a)) (E.op1 o a) ρ) k = Ok (EV.ev F cl (E.op1 o a) ρ) fun p => k (.val p.1, p.2) := ok_bind (EV.ev F cl (E.op1 o a) ρ) _ k
theorem pd_op1 (F : Nat → Option Fn) (cl : Nat → List D → FRes) (o : Op1) (a : E) (ρ : Ro) (k : Opd × Ro → Prop) : Ok (opdD (EV.ev F cl (E.op1 o a)) (E.op1 o a) ρ) k = Ok (EV.ev F cl (E.op1 o a) ρ) fun p => OW p.1 fun d => k (.val (.dat d), p.2) := ok_bind (EV.ev F cl (E.op1 o a) ρ) _ k
theorem p_chain (F : Nat → Option Fn) (cl : Nat → List D → FRes) (o o2 : Op2) (a b c : E) (ρ : Ro) (k : Opd × Ro → Prop) : Ok (opdOf (EV.ev F cl (E.chain o o2 a b c)) (E.chain o o2 a b c) ρ) k = Ok (EV.ev F cl (E.chain o o2 a b c) ρ) fun p => k (.val p.1, p.2) := ok_bind (EV.ev F cl (E.chain o o2 a b c) ρ) _ k
theorem pd_chain (F : Nat → Option Fn) (cl : Nat → List D → FRes) (o o2 : Op2) (a b c : E) (ρ : Ro) (k : Opd × Ro → Prop) : Ok (opdD (EV.ev F cl (E.chain o o2 a b c)) (E.chain o o2 a b c) ρ) k = Ok (EV.ev F cl (E.chain o o2 a b c) ρ) fun p => OW p.1 fun d => k (.val (.dat d), p.2) := ok_bind (EV.ev F cl (E.chain o o2 a b c) ρ) _ k
theorem p_bop (F : Nat → Option Fn) (cl : Nat → List D → FRes) (c : Bool) (es : Es) (ρ : Ro) (k : Opd × Ro → Prop) : Ok (opdOf (EV.ev F cl (E.bop c es)) (E.bop c es) ρ) k = Ok (EV.ev F cl (E.bop c es) ρ) fun p => k (.val p.1, p.2) := ok_bind (EV.ev F cl (E.bop c es) ρ) _ k
theorem pd_bop (F : Nat → Option Fn) (cl : Nat → List D → FRes) (c : Bool) (es : Es) (ρ : Ro) (k : Opd × Ro → Prop) : Ok (opdD (EV.ev F cl (E.bop c es)) (E.bop c es) ρ) k = Ok (EV.ev F cl (E.bop c es) ρ) fun p => OW p.1 fun d => k (.val (.dat d), p.2) := ok_bind (EV.ev F cl (E.bop c es) ρ) _ k
theorem p_not (F : Nat → Option Fn) (cl : Nat → List D → FRes) (a : E) (ρ : Ro) (k : Opd × Ro → Prop) : Ok (opdOf (EV.ev F cl (E.not a)) (E.not a) ρ) k = Ok (EV.ev F cl (E.not a) ρ) fun p => k (.val p.1, p.2) := ok_bind (EV.ev F cl (E.not a) ρ) _ k
theorem pd_not (F : Nat → Option Fn) (cl : Nat → List D → FRes) (a : E) (ρ : Ro) (k : Opd × Ro → Prop) : Ok (opdD (EV.ev F cl (E.not a)) (E.not a) ρ) k = Ok (EV.ev F cl (E.not a) ρ) fun p => OW p.1 fun d => k (.val (.dat d), p.2) := ok_bind (EV.ev F cl (E.not a) ρ) _ k
theorem p_orT (F : Nat → Option Fn) (cl : Nat → List D → FRes) (a b : E) (ρ : Ro) (k : Opd × Ro → Prop) : Ok (opdOf (EV.ev F cl (E.orT a b)) (E.orT a b) ρ) k = Ok (EV.ev F cl (E.orT a b) ρ) fun p => k (.val p.1, p.2) := ok_bind (EV.ev F cl (E.orT a b) ρ) _ k
theorem pd_orT (F : Nat → Option Fn) (cl : Nat → List D → FRes) (a b : E) (ρ : Ro) (k : Opd × Ro → Prop) : Ok (opdD (EV.ev F cl (E.orT a b)) (E.orT a b) ρ) k = Ok (EV.ev F cl (E.orT a b) ρ) fun p => OW p.1 fun d => k (.val (.dat d), p.2) := ok_bind (EV.ev F cl (E.orT a b) ρ) _ k
theorem p_ite (F : Nat → Option Fn) (cl : Nat → List D → FRes) (c a b : E) (ρ : Ro) (k : Opd × Ro → Prop) : Ok (opdOf (EV.ev F cl (E.ite c a b)) (E.ite c a b) ρ) k = Ok (EV.ev F cl (E.ite c a b) ρ) fun p => k (.val p.1, p.2) := ok_bind (EV.ev F cl (E.ite c a b) ρ) _ k
theorem pd_ite (F : Nat → Option Fn) (cl : Nat → List D → FRes) (c a b : E) (ρ : Ro) (k : Opd × Ro → Prop) : Ok (opdD (EV.ev F cl (E.ite c a b)) (E.ite c a b) ρ) k = Ok (EV.ev F cl (E.ite c a b) ρ) fun p => OW p.1 fun d => k (.val (.dat d), p.2) := ok_bind (EV.ev F cl (E.ite c a b) ρ) _ k
theorem p_tup (F : Nat → Option Fn) (cl : Nat → List D → FRes) (es : Es) (ρ : Ro) (k : Opd × Ro → Prop) : Ok (opdOf (EV.ev F cl (E.tup es)) (E.tup es) ρ) k = Ok (EV.ev F cl (E.tup es) ρ) fun p => k (.val p.1, p.2) := ok_bind (EV.ev F cl (E.tup es) ρ) _ k
theorem pd_tup (F : Nat → Option Fn) (cl : Nat → List D → FRes) (es : Es) (ρ : Ro) (k : Opd × Ro → Prop) : Ok (opdD (EV.ev F cl (E.tup es)) (E.tup es) ρ) k = Ok (EV.ev F cl (E.tup es) ρ) fun p => OW p.1 fun d => k (.val (.dat d), p.2) := ok_bind (EV.ev F cl (E.tup es) ρ) _ k
theorem p_lst (F : Nat → Option Fn) (cl : Nat → List D → FRes) (es : Es) (ρ : Ro) (k : Opd × Ro → Prop) : Ok (opdOf (EV.ev F cl (E.lst es)) (E.lst es) ρ) k = Ok (EV.ev F cl (E.lst es) ρ) fun p => k (.val p.1, p.2) := ok_bind (EV.ev F cl (E.lst es) ρ) _ k
theorem pd_lst (F : Nat → Option Fn) (cl : Nat → List D → FRes) (es : Es) (ρ : Ro) (k : Opd × Ro → Prop) : Ok (opdD (EV.ev F cl (E.lst es)) (E.lst es) ρ) k = Ok (EV.ev F cl (E.lst es) ρ) fun p => OW p.1 fun d => k (.val (.dat d), p.2) := ok_bind (EV.ev F cl (E.lst es) ρ) _ k
theorem p_idx (F : Nat → Option Fn) (cl : Nat → List D → FRes) (a b : E) (ρ : Ro) (k : Opd × Ro → Prop) : Ok (opdOf (EV.ev F cl (E.idx a b)) (E.idx a b) ρ) k = Ok (EV.ev F cl (E.idx a b) ρ) fun p => k (.val p.1, p.2) := ok_bind (EV.ev F cl (E.idx a b) ρ) _ k
theorem pd_idx (F : Nat → Option Fn) (cl : Nat → List D → FRes) (a b : E) (ρ : Ro) (k : Opd × Ro → Prop) : Ok (opdD (EV.ev F cl (E.idx a b)) (E.idx a b) ρ) k = Ok (EV.ev F cl (E.idx a b) ρ) fun p => OW p.1 fun d => k (.val (.dat d), p.2) := ok_bind (EV.ev F cl (E.idx a b) ρ) _ k
theorem p_slc (F : Nat → Option Fn) (cl : Nat → List D → FRes) (a : E) (lo hi : Eo) (ρ : Ro) (k : Opd × Ro → Prop) : Ok (opdOf (EV.ev F cl (E.slc a lo hi)) (E.slc a lo hi) ρ) k = Ok (EV.ev F cl (E.slc a lo hi) ρ) fun p => k (.val p.1, p.2) := ok_bind (EV.ev F cl (E.slc a lo hi) ρ) _ k
theorem pd_slc (F : Nat → Option Fn) (cl : Nat → List D → FRes) (a : E) (lo hi : Eo) (ρ : Ro) (k : Opd × Ro → Prop) : Ok (opdD (EV.ev F cl (E.slc a lo hi)) (E.slc a lo hi) ρ) k = Ok (EV.ev F cl (E.slc a lo hi) ρ) fun p => OW p.1 fun d => k (.val (.dat d), p.2) := ok_bind (EV.ev F cl (E.slc a lo hi) ρ) _ k
theorem p_call (F : Nat → Option Fn) (cl : Nat → List D → FRes) (f : Nat) (es : Es) (ρ : Ro) (k : Opd × Ro → Prop) : Ok (opdOf (EV.ev F cl (E.call f es)) (E.call f es) ρ) k = Ok (EV.ev F cl (E.call f es) ρ) fun p => k (.val p.1, p.2) := ok_bind (EV.ev F cl (E.call f es) ρ) _ k
theorem pd_call (F : Nat → Option Fn) (cl : Nat → List D → FRes) (f : Nat) (es : Es) (ρ : Ro) (k : Opd × Ro → Prop) : Ok (opdD (EV.ev F cl (E.call f es)) (E.call f es) ρ) k = Ok (EV.ev F cl (E.call f es) ρ) fun p => OW p.1 fun d => k (.val (.dat d), p.2) := ok_bind (EV.ev F cl (E.call f es) ρ) _ k
theorem p_bi (F : Nat → Option Fn) (cl : Nat → List D → FRes) (b : Bi) (es : Es) (ρ : Ro) (k : Opd × Ro → Prop) : Ok (opdOf (EV.ev F cl (E.bi b es)) (E.bi b es) ρ) k = Ok (EV.ev F cl (E.bi b es) ρ) fun p => k (.val p.1, p.2) := ok_bind (EV.ev F cl (E.bi b es) ρ) _ k
theorem pd_bi (F : Nat → Option Fn) (cl : Nat → List D → FRes) (b : Bi) (es : Es) (ρ : Ro) (k : Opd × Ro → Prop) : Ok (opdD (EV.ev F cl (E.bi b es)) (E.bi b es) ρ) k = Ok (EV.ev F cl (E.bi b es) ρ) fun p => OW p.1 fun d => k (.val (.dat d), p.2) := ok_bind (EV.ev F cl (E.bi b es) ρ) _ k
theorem p_rep (F : Nat → Option Fn) (cl : Nat → List D → FRes) (a b : E) (ρ : Ro) (k : Opd × Ro → Prop) : Ok (opdOf (EV.ev F cl (E.rep a b)) (E.rep a b) ρ) k = Ok (EV.ev F cl (E.rep a b) ρ) fun p => k (.val p.1, p.2) := ok_bind (EV.ev F cl (E.rep a b) ρ) _ k
theorem pd_rep (F : Nat → Option Fn) (cl : Nat → List D → FRes) (a b : E) (ρ : Ro) (k : Opd × Ro → Prop) : Ok (opdD (EV.ev F cl (E.rep a b)) (E.rep a b) ρ) k = Ok (EV.ev F cl (E.rep a b) ρ) fun p => OW p.1 fun d => k (.val (.dat d), p.2) := ok_bind (EV.ev F cl (E.rep a b) ρ) _ k
theorem p_isi (F : Nat → Option Fn) (cl : Nat → List D → FRes) (a : E) (ts : List Ty) (b : Bool) (ρ : Ro) (k : Opd × Ro → Prop) : Ok (opdOf (EV.ev F cl (E.isi a ts b)) (E.isi a ts b) ρ) k = Ok (EV.ev F cl (E.isi a ts b) ρ) fun p => k (.val p.1, p.2) := ok_bind (EV.ev F cl (E.isi a ts b) ρ) _ k
theorem pd_isi (F : Nat → Option Fn) (cl : Nat → List D → FRes) (a : E) (ts : List Ty) (b : Bool) (ρ : Ro) (k : Opd × Ro → Prop) : Ok (opdD (EV.ev F cl (E.isi a ts b)) (E.isi a ts b) ρ) k = Ok (EV.ev F cl (E.isi a ts b) ρ) fun p => OW p.1 fun d => k (.val (.dat d), p.2) := ok_bind (EV.ev F cl (E.isi a ts b) ρ) _ k
theorem p_comp (F : Nat → Option Fn) (cl : Nat → List D → FRes) (t : Tg) (it : It) (c : Eo) (e : E) (ρ : Ro) (k : Opd × Ro → Prop) : Ok (opdOf (EV.ev F cl (E.comp t it c e)) (E.comp t it c e) ρ) k = Ok (EV.ev F cl (E.comp t it c e) ρ) fun p => k (.val p.1, p.2) := ok_bind (EV.ev F cl (E.comp t it c e) ρ) _ k
theorem pd_comp (F : Nat → Option Fn) (cl : Nat → List D → FRes) (t : Tg) (it : It) (c : Eo) (e : E) (ρ : Ro) (k : Opd × Ro → Prop) : Ok (opdD (EV.ev F cl (E.comp t it c e)) (E.comp t it c e) ρ) k = Ok (EV.ev F cl (E.comp t it c e) ρ) fun p => OW p.1 fun d => k (.val (.dat d), p.2) := ok_bind (EV.ev F cl (E.comp t it c e) ρ) _ k
theorem p_comp2 (F : Nat → Option Fn) (cl : Nat → List D → FRes) (t : Tg) (it : It) (c : Eo) (t2 : Tg) (it2 : It) (c2 : Eo) (e : E) (ρ : Ro) (k : Opd × Ro → Prop) : Ok (opdOf (EV.ev F cl (E.comp2 t it c t2 it2 c2 e)) (E.comp2 t it c t2 it2 c2 e) ρ) k = Ok (EV.ev F cl (E.comp2 t it c t2 it2 c2 e) ρ) fun p => k (.val p.1, p.2) := ok_bind (EV.ev F cl (E.comp2 t it c t2 it2 c2 e) ρ) _ k
theorem pd_comp2 (F : Nat → Option Fn) (cl : Nat → List D → FRes) (t : Tg) (it : It) (c : Eo) (t2 : Tg) (it2 : It) (c2 : Eo) (e : E) (ρ : Ro) (k : Opd × Ro → Prop) : Ok (opdD (EV.ev F cl (E.comp2 t it c t2 it2 c2 e)) (E.comp2 t it c t2 it2 c2 e) ρ) k = Ok (EV.ev F cl (E.comp2 t it c t2 it2 c2 e) ρ) fun p => OW p.1 fun d => k (.val (.dat d), p.2) := ok_bind (EV.ev F cl (E.comp2 t it c t2 it2 c2 e) ρ) _ k
theorem p_meth (F : Nat → Option Fn) (cl : Nat → List D → FRes) (m : Me) (i : Nat) (es : Es) (ρ : Ro) (k : Opd × Ro → Prop) : Ok (opdOf (EV.ev F cl (E.meth m i es)) (E.meth m i es) ρ) k = Ok (EV.ev F cl (E.meth m i es) ρ) fun p => k (.val p.1, p.2) := ok_bind (EV.ev F cl (E.meth m i es) ρ) _ k
theorem pd_meth (F : Nat → Option Fn) (cl : Nat → List D → FRes) (m : Me) (i : Nat) (es : Es) (ρ : Ro) (k : Opd × Ro → Prop) : Ok (opdD (EV.ev F cl (E.meth m i es)) (E.meth m i es) ρ) k = Ok (EV.ev F cl (E.meth m i es) ρ) fun p => OW p.1 fun d => k (.val (.dat d), p.2) := ok_bind (EV.ev F cl (E.meth m i es) ρ) _ k
theorem p_rev (F : Nat → Option Fn) (cl : Nat → List D → FRes) (a : E) (ρ : Ro) (k : Opd × Ro → Prop) : Ok (opdOf (EV.ev F cl (E.rev a)) (E.rev a) ρ) k = Ok (EV.ev F cl (E.rev a) ρ) fun p => k (.val p.1, p.2) := ok_bind (EV.ev F cl (E.rev a) ρ) _ k
theorem pd_rev (F : Nat → Option Fn) (cl : Nat → List D → FRes) (a : E) (ρ : Ro) (k : Opd × Ro → Prop) : Ok (opdD (EV.ev F cl (E.rev a)) (E.rev a) ρ) k = Ok (EV.ev F cl (E.rev a) ρ) fun p => OW p.1 fun d => k (.val (.dat d), p.2) := ok_bind (EV.ev F cl (E.rev a) ρ) _ k
theorem p_glo (F : Nat → Option Fn) (cl : Nat → List D → FRes) (n : Nat) (d : D) (ρ : Ro) (k : Opd × Ro → Prop) : Ok (opdOf (EV.ev F cl (E.glo n d)) (E.glo n d) ρ) k = Ok (EV.ev F cl (E.glo n d) ρ) fun p => k (.val p.1, p.2) := (rfl)
theorem pd_glo (F : Nat → Option Fn) (cl : Nat → List D → FRes) (n : Nat) (d : D) (ρ : Ro) (k : Opd × Ro → Prop) : Ok (opdD (EV.ev F cl (E.glo n d)) (E.glo n d) ρ) k = Ok (EV.ev F cl (E.glo n d) ρ) fun p => OW p.1 fun d => k (.val (.dat d), p.2) := (rfl)
theorem p_call0 (F : Nat → Option Fn) (cl : Nat → List D → FRes) (f : Nat) (ρ : Ro) (k : Opd × Ro → Prop) : Ok (opdOf (EV.ev F cl (E.call0 f)) (E.call0 f) ρ) k = Ok (EV.ev F cl (E.call0 f) ρ) fun p => k (.val p.1, p.2) := ok_bind (EV.ev F cl (E.call0 f) ρ) _ k
theorem pd_call0 (F : Nat → Option Fn) (cl : Nat → List D → FRes) (f : Nat) (ρ : Ro) (k : Opd × Ro → Prop) : Ok (opdD (EV.ev F cl (E.call0 f)) (E.call0 f) ρ) k = Ok (EV.ev F cl (E.call0 f) ρ) fun p => OW p.1 fun d => k (.val (.dat d), p.2) := ok_bind (EV.ev F cl (E.call0 f) ρ) _ k
theorem p_callK (F : Nat → Option Fn) (cl : Nat → List D → FRes) (f : Nat) (pm : List Nat) (es : Es) (ρ : Ro) (k : Opd × Ro → Prop) : Ok (opdOf (EV.ev F cl (E.callK f pm es)) (E.callK f pm es) ρ) k = Ok (EV.ev F cl (E.callK f pm es) ρ) fun p => k (.val p.1, p.2) := ok_bind (EV.ev F cl (E.callK f pm es) ρ) _ k
theorem pd_callK (F : Nat → Option Fn) (cl : Nat → List D → FRes) (f : Nat) (pm : List Nat) (es : Es) (ρ : Ro) (k : Opd × Ro → Prop) : Ok (opdD (EV.ev F cl (E.callK f pm es)) (E.callK f pm es) ρ) k = Ok (EV.ev F cl (E.callK f pm es) ρ) fun p => OW p.1 fun d => k (.val (.dat d), p.2) := ok_bind (EV.ev F cl (E.callK f pm es) ρ) _ k
theorem s_nil (F : Nat → Option Fn) (cl : Nat → List D → FRes) (ρ : Ro) (k : EV.Flow × Ro → Prop) : Ok (EV.execs F cl .nil ρ) k = k (.next, ρ) := (rfl)
theorem s_asg (F : Nat → Option Fn) (cl : Nat → List D → FRes) (i : Nat) (e : E) (r : Ss) (ρ : Ro) (k : EV.Flow × Ro → Prop) : Ok (EV.execs F cl (.cons (.asg i e) r) ρ) k = Ok (EV.ev F cl e ρ) fun p => OS p.2 i p.1 fun ρ2 => Ok (EV.execs F cl r ρ2) k := s_asg0 F cl i e r ρ k
theorem s_asgT (F : Nat → Option Fn) (cl : Nat → List D → FRes) (is : List Nat) (e : E) (r : Ss) (ρ : Ro) (k : EV.Flow × Ro → Prop) : Ok (EV.execs F cl (.cons (.asgT is e) r) ρ) k = Ok (EV.ev F cl e ρ) fun p => OW p.1 fun d => OT d fun ds => OSs p.2 is ds fun ρ2 => Ok (EV.execs F cl r ρ2) k := s_asgT0 F cl is e r ρ k
theorem ot_tup (ds : List D) (k : List D → Prop) : OT (.tuple ds) k = k ds := (rfl)
theorem oss_nil (ρ : Ro) (k : Ro → Prop) : OSs ρ [] [] k = k ρ := (rfl)
theorem oss_cons (ρ : Ro) (i : Nat) (is : List Nat) (d : D) (ds : List D) (k : Ro → Prop) : OSs ρ (i :: is) (d :: ds) k = OS ρ i (.dat d) fun ρ2 => OSs ρ2 is ds k := oss_cons0 ρ i is d ds k
theorem s_par (F : Nat → Option Fn) (cl : Nat → List D → FRes) (is : List Nat) (es : Es) (r : Ss) (ρ : Ro) (k : EV.Flow × Ro → Prop) : Ok (EV.execs F cl (.cons (.par is es) r) ρ) k = Ok (EV.evWs F cl es ρ) fun p => OSw p.2 is p.1 fun ρ2 => Ok (EV.execs F cl r ρ2) k := s_par0 F cl is es r ρ k
theorem osw_nil (ρ : Ro) (k : Ro → Prop) : OSw ρ [] [] k = k ρ := (rfl)
theorem osw_cons (ρ : Ro) (i : Nat) (is : List Nat) (d : W) (ds : List W) (k : Ro → Prop) : OSw ρ (i :: is) (d :: ds) k = OS ρ i d fun ρ2 => OSw ρ2 is ds k := osw_cons0 ρ i is d ds k
theorem ws_nil (F : Nat → Option Fn) (cl : Nat → List D → FRes) (ρ : Ro) (k : List W × Ro → Prop) : Ok (EV.evWs F cl .nil ρ) k = k ([], ρ) := (rfl)
theorem ws_cons (F : Nat → Option Fn) (cl : Nat → List D → FRes) (e : E) (r : Es) (ρ : Ro) (k : List W × Ro → Prop) : Ok (EV.evWs F cl (.cons e r) ρ) k = Ok (EV.ev F cl e ρ) fun p => Ok (EV.evWs F cl r p.2) fun q => k (p.1 :: q.1, q.2) := ws_cons0 F cl e r ρ k
theorem s_sub (F : Nat → Option Fn) (cl : Nat → List D → FRes) (i : Nat) (x v : E) (r : Ss) (ρ : Ro) (k : EV.Flow × Ro → Prop) : Ok (EV.execs F cl (.cons (.sub i x v) r) ρ) k = OLs ρ i (Ok (EV.ev F cl v ρ) fun p => OW p.1 fun d => Ok (EV.ev F cl x p.2) fun q => OW q.1 fun e => OU q.2 i e d fun ρ2 => Ok (EV.execs F cl r ρ2) k) := s_sub0 F cl i x v r ρ k
theorem ols_s (x : Option Sv) (ρ : Ro) (n : Nat) (p : Prop) : OLs (x :: ρ) (n + 1) p = OLs ρ n p := (rfl)
theorem ols_own (xs : List D) (ρ : Ro) (p : Prop) : OLs (some (.own xs) :: ρ) 0 p = p := ols_own0 xs ρ p
theorem ols_io (xs : List D) (ρ : Ro) (p : Prop) : OLs (some (.io xs) :: ρ) 0 p = p := ols_io0 xs ρ p
theorem ou_s (x : Option Sv) (ρ : Ro) (n : Nat) (e d : D) (k : Ro → Prop) : OU (x :: ρ) (n + 1) e d k = OU ρ n e d fun r => k (x :: r) := ou_s0 x ρ n e d k
theorem ou_own (xs : List D) (ρ : Ro) (j : Int) (d : D) (k : Ro → Prop) : OU (some (.own xs) :: ρ) 0 (.int j) d k = OM (ixN xs.length j) fun n => OX xs n d fun ys => k (some (.own ys) :: ρ) := ou_own0 xs ρ j d k
theorem ou_io (xs : List D) (ρ : Ro) (j : Int) (d : D) (k : Ro → Prop) : OU (some (.io xs) :: ρ) 0 (.int j) d k = OM (ixN xs.length j) fun n => OX xs n d fun ys => k (some (.io ys) :: ρ) := ou_io0 xs ρ j d k
theorem ox_s (x : D) (xs : List D) (n : Nat) (d : D) (k : List D → Prop) : OX (x :: xs) (n + 1) d k = OX xs n d fun r => k (x :: r) := (rfl)
theorem ox_z (x : D) (xs : List D) (d : D) (k : List D → Prop) : OX (x :: xs) 0 d k = k (d :: xs) := (rfl)
theorem s_expr (F : Nat → Option Fn) (cl : Nat → List D → FRes) (e : E) (r : Ss) (ρ : Ro) (k : EV.Flow × Ro → Prop) : Ok (EV.execs F cl (.cons (.expr e) r) ρ) k = Ok (EV.ev F cl e ρ) fun p => Ok (EV.execs F cl r p.2) k := s_expr0 F cl e r ρ k
theorem s_ret (F : Nat → Option Fn) (cl : Nat → List D → FRes) (e : E) (r : Ss) (ρ : Ro) (k : EV.Flow × Ro → Prop) : Ok (EV.execs F cl (.cons (.ret e) r) ρ) k = Ok (retOf (EV.ev F cl e) e ρ) fun p => k (.ret p.1, p.2) := s_ret0 F cl e r ρ k
theorem s_retN (F : Nat → Option Fn) (cl : Nat → List D → FRes) (r : Ss) (ρ : Ro) (k : EV.Flow × Ro → Prop) : Ok (EV.execs F cl (.cons .retN r) ρ) k = k (.ret (.dat .none), ρ) := (rfl)
theorem s_ite (F : Nat → Option Fn) (cl : Nat → List D → FRes) (c : E) (a b r : Ss) (ρ : Ro) (k : EV.Flow × Ro → Prop) : Ok (EV.execs F cl (.cons (.ite c a b) r) ρ) k = Ok (testOf (EV.ev F cl c) ρ) fun p => OI p.1 (Ok (EV.execs F cl a p.2) (KN F cl r k)) (Ok (EV.execs F cl b p.2) (KN F cl r k)) := s_ite0 F cl c a b r ρ k
theorem s_for (F : Nat → Option Fn) (cl : Nat → List D → FRes) (t : Tg) (it : It) (b r : Ss) (ρ : Ro) (k : EV.Flow × Ro → Prop) : Ok (EV.execs F cl (.cons (.for_ t it b) r) ρ) k = Ok (EV.evIt F cl it ρ) fun p => Ok (forL (bindT t) (EV.execs F cl b) p.1 p.2) (KN F cl r k) := s_for0 F cl t it b r ρ k
theorem kn_next (F : Nat → Option Fn) (cl : Nat → List D → FRes) (r : Ss) (k : EV.Flow × Ro → Prop) (ρ : Ro) : KN F cl r k (.next, ρ) = Ok (EV.execs F cl r ρ) k := (rfl)
theorem kn_ret (F : Nat → Option Fn) (cl : Nat → List D → FRes) (r : Ss) (k : EV.Flow × Ro → Prop) (w : W) (ρ : Ro) : KN F cl r k (.ret w, ρ) = k (.ret w, ρ) := (rfl)
theorem rt_var (F : Nat → Option Fn) (cl : Nat → List D → FRes) (i : Nat) (ρ : Ro) (k : W × Ro → Prop) : Ok (retOf (EV.ev F cl (.var i)) (.var i) ρ) k = ORt ρ i fun w r => k (w, r) := rt_var0 F cl i ρ k
theorem ort_s (x : Option Sv) (ρ : Ro) (n : Nat) (k : W → Ro → Prop) : ORt (x :: ρ) (n + 1) k = ORt ρ n fun d r => k d (x :: r) := ort_s0 x ρ n k
theorem ort_dat (d : D) (ρ : Ro) (k : W → Ro → Prop) : ORt (some (.dat d) :: ρ) 0 k = k (.dat d) (some (.dat d) :: ρ) := (rfl)
theorem ort_own (d : List D) (ρ : Ro) (k : W → Ro → Prop) : ORt (some (.own d) :: ρ) 0 k = k (.new d) (none :: ρ) := (rfl)
theorem rt_cst (F : Nat → Option Fn) (cl : Nat → List D → FRes) (d : D) (ρ : Ro) (k : W × Ro → Prop) : Ok (retOf (EV.ev F cl (E.cst d)) (E.cst d) ρ) k = Ok (EV.ev F cl (E.cst d) ρ) k := (rfl)
theorem rt_op2 (F : Nat → Option Fn) (cl : Nat → List D → FRes) (o : Op2) (a b : E) (ρ : Ro) (k : W × Ro → Prop) : Ok (retOf (EV.ev F cl (E.op2 o a b)) (E.op2 o a b) ρ) k = Ok (EV.ev F cl (E.op2 o a b) ρ) k := (rfl)
theorem rt_op1 (F : Nat → Option Fn) (cl : Nat → List D → FRes) (o : Op1) (a : E) (ρ : Ro) (k : W × Ro → Prop) : Ok (retOf (EV.ev F cl (E.op1 o a)) (E.op1 o a) ρ) k = Ok (EV.ev F cl (E.op1 o a) ρ) k := (rfl)
theorem rt_chain (F : Nat → Option Fn) (cl : Nat → List D → FRes) (o o2 : Op2) (a b c : E) (ρ : Ro) (k : W × Ro → Prop) : Ok (retOf (EV.ev F cl (E.chain o o2 a b c)) (E.chain o o2 a b c) ρ) k = Ok (EV.ev F cl (E.chain o o2 a b c) ρ) k := (rfl)
theorem rt_bop (F : Nat → Option Fn) (cl : Nat → List D → FRes) (c : Bool) (es : Es) (ρ : Ro) (k : W × Ro → Prop) : Ok (retOf (EV.ev F cl (E.bop c es)) (E.bop c es) ρ) k = Ok (EV.ev F cl (E.bop c es) ρ) k := (rfl)
theorem rt_not (F : Nat → Option Fn) (cl : Nat → List D → FRes) (a : E) (ρ : Ro) (k : W × Ro → Prop) : Ok (retOf (EV.ev F cl (E.not a)) (E.not a) ρ) k = Ok (EV.ev F cl (E.not a) ρ) k := (rfl)
theorem rt_orT (F : Nat → Option Fn) (cl : Nat → List D → FRes) (a b : E) (ρ : Ro) (k : W × Ro → Prop) : Ok (retOf (EV.ev F cl (E.orT a b)) (E.orT a b) ρ) k = Ok (EV.ev F cl (E.orT a b) ρ) k := (rfl)
theorem rt_ite (F : Nat → Option Fn) (cl : Nat → List D → FRes) (c a b : E) (ρ : Ro) (k : W × Ro → Prop) : Ok (retOf (EV.ev F cl (E.ite c a b)) (E.ite c a b) ρ) k = Ok (EV.ev F cl (E.ite c a b) ρ) k := (rfl)
theorem rt_tup (F : Nat → Option Fn) (cl : Nat → List D → FRes) (es : Es) (ρ : Ro) (k : W × Ro → Prop) : Ok (retOf (EV.ev F cl (E.tup es)) (E.tup es) ρ) k = Ok (EV.ev F cl (E.tup es) ρ) k := (rfl)
theorem rt_lst (F : Nat → Option Fn) (cl : Nat → List D → FRes) (es : Es) (ρ : Ro) (k : W × Ro → Prop) : Ok (retOf (EV.ev F cl (E.lst es)) (E.lst es) ρ) k = Ok (EV.ev F cl (E.lst es) ρ) k := (rfl)
theorem rt_idx (F : Nat → Option Fn) (cl : Nat → List D → FRes) (a b : E) (ρ : Ro) (k : W × Ro → Prop) : Ok (retOf (EV.ev F cl (E.idx a b)) (E.idx a b) ρ) k = Ok (EV.ev F cl (E.idx a b) ρ) k := (rfl)
theorem rt_slc (F : Nat → Option Fn) (cl : Nat → List D → FRes) (a : E) (lo hi : Eo) (ρ : Ro) (k : W × Ro → Prop) : Ok (retOf (EV.ev F cl (E.slc a lo hi)) (E.slc a lo hi) ρ) k = Ok (EV.ev F cl (E.slc a lo hi) ρ) k := (rfl)
theorem rt_call (F : Nat → Option Fn) (cl : Nat → List D → FRes) (f : Nat) (es : Es) (ρ : Ro) (k : W × Ro → Prop) : Ok (retOf (EV.ev F cl (E.call f es)) (E.call f es) ρ) k = Ok (EV.ev F cl (E.call f es) ρ) k := (rfl)
theorem rt_bi (F : Nat → Option Fn) (cl : Nat → List D → FRes) (b : Bi) (es : Es) (ρ : Ro) (k : W × Ro → Prop) : Ok (retOf (EV.ev F cl (E.bi b es)) (E.bi b es) ρ) k = Ok (EV.ev F cl (E.bi b es) ρ) k := (rfl)
theorem rt_rep (F : Nat → Option Fn) (cl : Nat → List D → FRes) (a b : E) (ρ : Ro) (k : W × Ro → Prop) : Ok (retOf (EV.ev F cl (E.rep a b)) (E.rep a b) ρ) k = Ok (EV.ev F cl (E.rep a b) ρ) k := (rfl)
theorem rt_isi (F : Nat → Option Fn) (cl : Nat → List D → FRes) (a : E) (ts : List Ty) (b : Bool) (ρ : Ro) (k : W × Ro → Prop) : Ok (retOf (EV.ev F cl (E.isi a ts b)) (E.isi a ts b) ρ) k = Ok (EV.ev F cl (E.isi a ts b) ρ) k := (rfl)
theorem rt_comp (F : Nat → Option Fn) (cl : Nat → List D → FRes) (t : Tg) (it : It) (c : Eo) (e : E) (ρ : Ro) (k : W × Ro → Prop) : Ok (retOf (EV.ev F cl (E.comp t it c e)) (E.comp t it c e) ρ) k = Ok (EV.ev F cl (E.comp t it c e) ρ) k := (rfl)
theorem rt_comp2 (F : Nat → Option Fn) (cl : Nat → List D → FRes) (t : Tg) (it : It) (c : Eo) (t2 : Tg) (it2 : It) (c2 : Eo) (e : E) (ρ : Ro) (k : W × Ro → Prop) : Ok (retOf (EV.ev F cl (E.comp2 t it c t2 it2 c2 e)) (E.comp2 t it c t2 it2 c2 e) ρ) k = Ok (EV.ev F cl (E.comp2 t it c t2 it2 c2 e) ρ) k := (rfl)
theorem rt_meth (F : Nat → Option Fn) (cl : Nat → List D → FRes) (m : Me) (i : Nat) (es : Es) (ρ : Ro) (k : W × Ro → Prop) : Ok (retOf (EV.ev F cl (E.meth m i es)) (E.meth m i es) ρ) k = Ok (EV.ev F cl (E.meth m i es) ρ) k := (rfl)
theorem rt_rev (F : Nat → Option Fn) (cl : Nat → List D → FRes) (a : E) (ρ : Ro) (k : W × Ro → Prop) : Ok (retOf (EV.ev F cl (E.rev a)) (E.rev a) ρ) k = Ok (EV.ev F cl (E.rev a) ρ) k := (rfl)
theorem rt_glo (F : Nat → Option Fn) (cl : Nat → List D → FRes) (n : Nat) (d : D) (ρ : Ro) (k : W × Ro → Prop) : Ok (retOf (EV.ev F cl (E.glo n d)) (E.glo n d) ρ) k = Ok (EV.ev F cl (E.glo n d) ρ) k := (rfl)
theorem rt_call0 (F : Nat → Option Fn) (cl : Nat → List D → FRes) (f : Nat) (ρ : Ro) (k : W × Ro → Prop) : Ok (retOf (EV.ev F cl (E.call0 f)) (E.call0 f) ρ) k = Ok (EV.ev F cl (E.call0 f) ρ) k := (rfl)
theorem rt_callK (F : Nat → Option Fn) (cl : Nat → List D → FRes) (f : Nat) (pm : List Nat) (es : Es) (ρ : Ro) (k : W × Ro → Prop) : Ok (retOf (EV.ev F cl (E.callK f pm es)) (E.callK f pm es) ρ) k = Ok (EV.ev F cl (E.callK f pm es) ρ) k := (rfl)
theorem fin_ret (io : Option Nat) (Q : W → Option (List D) → Prop) (w : W) (ρ : Ro) : Fin io Q (.ret w, ρ) = OE ρ io (Q w) := (rfl)
theorem fin_next (io : Option Nat) (Q : W → Option (List D) → Prop) (ρ : Ro) : Fin io Q (.next, ρ) = OE ρ io (Q (.dat .none)) := (rfl)
theorem oe_none (ρ : Ro) (k : Option (List D) → Prop) : OE ρ none k = k none := (rfl)
theorem oe_z (xs : List D) (ρ : Ro) (k : Option (List D) → Prop) : OE (some (.io xs) :: ρ) (some 0) k = k (some xs) := (rfl)
theorem d_add (i j : Int) (k : W → Prop) : OM (op2 .add (.int i) (.int j)) k = k (.dat (.int (i + j))) := (rfl)
theorem d_sub (i j : Int) (k : W → Prop) : OM (op2 .sub (.int i) (.int j)) k = k (.dat (.int (i - j))) := (rfl)
theorem d_le (i j : Int) (k : W → Prop) : OM (op2 .le (.int i) (.int j)) k = k (.dat (.bool (decide (i ≤ j)))) := (rfl)
theorem d_gt (i j : Int) (k : W → Prop) : OM (op2 .gt (.int i) (.int j)) k = k (.dat (.bool (decide (j < i)))) := (rfl)
theorem d_ge (i j : Int) (k : W → Prop) : OM (op2 .ge (.int i) (.int j)) k = k (.dat (.bool (decide (j ≤ i)))) := (rfl)
theorem d_mod (i j : Int) (k : W → Prop) : OM (op2 .mod (.int i) (.int j)) k = (0 < j ∧ k (.dat (.int (i % j)))) := om_ite _ _
theorem d_fdiv (i j : Int) (k : W → Prop) : OM (op2 .fdiv (.int i) (.int j)) k = ((0 < j ∧ j < 1073741824) ∧ k (.dat (.int (i / j)))) := om_ite _ _
theorem d_mul (i j : Int) (k : W → Prop) : OM (op2 .mul (.int i) (.int j)) k = ((small64 i || small64 j) = true ∧ k (.dat (.int (i * j)))) := om_ite _ _
theorem d_addL (xs ys : List D) (k : W → Prop) : OM (op2 .add (.list xs) (.list ys)) k = (xs.length + ys.length ≤ sizeLine ∧ k (.new (xs ++ ys))) := om_ite _ _
theorem d_addT (xs ys : List D) (k : W → Prop) : OM (op2 .add (.tuple xs) (.tuple ys)) k = (xs.length + ys.length ≤ sizeLine ∧ k (.dat (.tuple (xs ++ ys)))) := om_ite _ _
theorem d_lt (i j : Int) (k : W → Prop) : OM (op2 .lt (.int i) (.int j)) k = k (.dat (.bool (decide (i < j)))) := om_lt _ _ _
theorem d_p18 (k : W → Prop) : OM (op2 .pow (.int 10) (.int 18)) k = k (.dat (.int 1000000000000000000)) := om_p18 k
theorem d_eqI (i j : Int) (k : W → Prop) : OM (op2 .eq (.int i) (.int j)) k = k (.dat (.bool (decide (i = j)))) := om_eqI _ _ _
theorem d_neI (i j : Int) (k : W → Prop) : OM (op2 .ne (.int i) (.int j)) k = k (.dat (.bool (!decide (i = j)))) := om_neI _ _ _
theorem d_eqS (i j : Str) (k : W → Prop) : OM (op2 .eq (.str i) (.str j)) k = ((PyData.strOk i && PyData.strOk j) = true ∧ k (.dat (.bool (decide (i = j))))) := om_eqS _ _ _
theorem d_neS (i j : Str) (k : W → Prop) : OM (op2 .ne (.str i) (.str j)) k = ((PyData.strOk i && PyData.strOk j) = true ∧ k (.dat (.bool (!decide (i = j))))) := om_neS _ _ _
theorem d_eqBB (a : Bool) (k : W → Prop) : OM (op2 .eq (.bool a) (.bool a)) k = k (.dat (.bool true)) := om_eqBB a k
theorem d_neBB (a : Bool) (k : W → Prop) : OM (op2 .ne (.bool a) (.bool a)) k = k (.dat (.bool false)) := om_neBB a k
theorem oi_self (i : Int) (p q : Prop) : OI (decide (i = i)) p q = p := oi_t (by simp)
theorem d_inL (x : D) (xs : List D) (k : W → Prop) : OM (op2 .isin x (.list xs)) k = ((SeqAt.shaped x && SeqAt.shaped (.list xs)) = true ∧ k (.dat (.bool (inD x xs)))) := om_inL _ _ _
theorem d_inT (x : D) (xs : List D) (k : W → Prop) : OM (op2 .isin x (.tuple xs)) k = ((SeqAt.shaped x && SeqAt.shaped (.tuple xs)) = true ∧ k (.dat (.bool (inD x xs)))) := om_inT _ _ _
theorem d_niL (x : D) (xs : List D) (k : W → Prop) : OM (op2 .notin x (.list xs)) k = ((SeqAt.shaped x && SeqAt.shaped (.list xs)) = true ∧ k (.dat (.bool (!inD x xs)))) := om_niL _ _ _
theorem d_niT (x : D) (xs : List D) (k : W → Prop) : OM (op2 .notin x (.tuple xs)) k = ((SeqAt.shaped x && SeqAt.shaped (.tuple xs)) = true ∧ k (.dat (.bool (!inD x xs)))) := om_niT _ _ _
theorem d_neg (i : Int) (k : W → Prop) : OM (op1 .neg (.int i)) k = k (.dat (.int (-i))) := (rfl)
theorem d_truB (b : Bool) (k : Bool → Prop) : OM (tru (.bool b)) k = k b := (rfl)
theorem d_truL (xs : List D) (k : Bool → Prop) : OM (tru (.list xs)) k = k (!xs.isEmpty) := (rfl)
theorem d_isN (x : D) (k : W → Prop) : OM (op1 .isN x) k = k (.dat (.bool (isNone x))) := (rfl)
theorem d_notN (x : D) (k : W → Prop) : OM (op1 .notN x) k = k (.dat (.bool (!isNone x))) := (rfl)
theorem d_lenL (xs : List D) (k : W → Prop) : OM (EV.bi .len [.list xs]) k = k (.dat (.int xs.length)) := (rfl)
theorem d_lenT (xs : List D) (k : W → Prop) : OM (EV.bi .len [.tuple xs]) k = k (.dat (.int xs.length)) := (rfl)
theorem d_abs (i : Int) (k : W → Prop) : OM (EV.bi .abs [.int i]) k = k (.dat (.int (if i < 0 then -i else i))) := (rfl)
theorem d_intI (i : Int) (k : W → Prop) : OM (EV.bi .int [.int i]) k = k (.dat (.int i)) := (rfl)
theorem d_intB (b : Bool) (k : W → Prop) : OM (EV.bi .int [.bool b]) k = k (.dat (.int (b2i b))) := (rfl)
theorem d_listL (xs : List D) (k : W → Prop) : OM (EV.bi .list [.list xs]) k = k (.new xs) := (rfl)
theorem d_listT (xs : List D) (k : W → Prop) : OM (EV.bi .list [.tuple xs]) k = k (.new xs) := (rfl)
theorem d_listS (x : Str) (k : W → Prop) : OM (EV.bi .list [.str x]) k = (x.length ≤ sizeLine ∧ k (.new (chars x))) := om_ite _ _
theorem d_tupL (xs : List D) (k : W → Prop) : OM (EV.bi .tuple [.list xs]) k = k (.dat (.tuple xs)) := (rfl)
theorem d_tupT (xs : List D) (k : W → Prop) : OM (EV.bi .tuple [.tuple xs]) k = k (.dat (.tuple xs)) := (rfl)
theorem d_sort (xs : List D) (k : W → Prop) : OM (EV.bi .sorted [.list xs]) k = (sortOk xs = true ∧ k (.new (sortD xs))) := om_ite _ _
theorem d_ssL (xs : List D) (k : W → Prop) : OM (EV.bi .sortset [.list xs]) k = (setOk xs = true ∧ k (.new (uniqD xs))) := om_ite _ _
theorem d_ssT (xs : List D) (k : W → Prop) : OM (EV.bi .sortset [.tuple xs]) k = (setOk xs = true ∧ k (.new (uniqD xs))) := om_ite _ _
theorem d_slL (xs : List D) (a b : Option Int) (k : W → Prop) : OM (slcD (.list xs) a b) k = k (.new (cutD xs a b)) := (rfl)
theorem d_slT (xs : List D) (a b : Option Int) (k : W → Prop) : OM (slcD (.tuple xs) a b) k = k (.dat (.tuple (cutD xs a b))) := (rfl)
theorem d_rvT (xs : List D) (k : W → Prop) : OM (revD (.tuple xs)) k = k (.dat (.tuple xs.reverse)) := (rfl)
theorem d_rvL (xs : List D) (k : W → Prop) : OM (revD (.list xs)) k = k (.new xs.reverse) := (rfl)
theorem d_ixL (xs : List D) (i : Int) (k : D → Prop) : OM (idxD (.list xs) (.int i)) k = OM (atD xs i) k := (rfl)
theorem d_ixT (xs : List D) (i : Int) (k : D → Prop) : OM (idxD (.tuple xs) (.int i)) k = OM (atD xs i) k := (rfl)
theorem d_at0 (x0 : D) (r : List D) (k : D → Prop) : OM (atD (x0 :: r) 0) k = k x0 := atD_k _ 0 _ k rfl (by simp)
theorem d_ix0 (x0 : D) (r : List D) (k : Nat → Prop) : OM (ixN (x0 :: r).length 0) k = k 0 := ixN_k _ 0 k (by simp)
theorem d_at1 (x0 x1 : D) (r : List D) (k : D → Prop) : OM (atD (x0 :: x1 :: r) 1) k = k x1 := atD_k _ 1 _ k rfl (by simp)
theorem d_ix1 (x0 x1 : D) (r : List D) (k : Nat → Prop) : OM (ixN (x0 :: x1 :: r).length 1) k = k 1 := ixN_k _ 1 k (by simp)
theorem d_at2 (x0 x1 x2 : D) (r : List D) (k : D → Prop) : OM (atD (x0 :: x1 :: x2 :: r) 2) k = k x2 := atD_k _ 2 _ k rfl (by simp)
theorem d_ix2 (x0 x1 x2 : D) (r : List D) (k : Nat → Prop) : OM (ixN (x0 :: x1 :: x2 :: r).length 2) k = k 2 := ixN_k _ 2 k (by simp)
theorem d_at3 (x0 x1 x2 x3 : D) (r : List D) (k : D → Prop) : OM (atD (x0 :: x1 :: x2 :: x3 :: r) 3) k = k x3 := atD_k _ 3 _ k rfl (by simp)
theorem d_ix3 (x0 x1 x2 x3 : D) (r : List D) (k : Nat → Prop) : OM (ixN (x0 :: x1 :: x2 :: x3 :: r).length 3) k = k 3 := ixN_k _ 3 k (by simp)
theorem d_int (i : Int) (k : Int → Prop) : OM (intO (.int i)) k = k i := (rfl)
theorem d_seqL (xs : List D) (k : List D → Prop) : OM (seqD (.list xs)) k = k xs := (rfl)
theorem d_seqT (xs : List D) (k : List D → Prop) : OM (seqD (.tuple xs)) k = k xs := (rfl)
theorem d_itL (xs : List D) (k : List D → Prop) : OM (items (.list xs)) k = k xs := (rfl)
theorem d_itT (xs : List D) (k : List D → Prop) : OM (items (.tuple xs)) k = k xs := (rfl)
theorem d_zL (xs ys : List D) (k : List D → Prop) : OM (zipO (.list xs) (.list ys)) k = k (zipD xs ys) := (rfl)
theorem d_zT (xs ys : List D) (k : List D → Prop) : OM (zipO (.tuple xs) (.tuple ys)) k = k (zipD xs ys) := (rfl)
theorem d_r1 (j : Int) (k : List D → Prop) : OM (rng1 (.int j)) k = (((small62 j && decide (j ≤ sizeLine)) = true) ∧ k (rangeD 0 j)) := om_ite _ _
theorem d_r2 (i j : Int) (k : List D → Prop) : OM (rng2 (.int i) (.int j)) k = (((small62 i && small62 j && decide (j - i ≤ sizeLine)) = true) ∧ k (rangeD i j)) := om_ite _ _
theorem d_rD (i j : Int) (k : List D → Prop) : OM (rngD (.int i) (.int j)) k = (((small62 i && small62 j && decide (i - j ≤ sizeLine)) = true) ∧ k (downD i j)) := om_ite _ _
theorem h_int_dict (x : List (D × D)) (k : Bool → Prop) : OH [.int] (.dict x) k = k false := (rfl)
theorem h_int_int (x : Int) (k : Bool → Prop) : OH [.int] (.int x) k = k true := (rfl)
theorem h_int_bool (x : Bool) (k : Bool → Prop) : OH [.int] (.bool x) k = k true := (rfl)
theorem h_int_str (x : Str) (k : Bool → Prop) : OH [.int] (.str x) k = k false := (rfl)
theorem h_int_list (x : List D) (k : Bool → Prop) : OH [.int] (.list x) k = k false := (rfl)
theorem h_int_tuple (x : List D) (k : Bool → Prop) : OH [.int] (.tuple x) k = k false := (rfl)
theorem h_int_none (k : Bool → Prop) : OH [.int] .none k = k false := (rfl)
theorem h_bool_dict (x : List (D × D)) (k : Bool → Prop) : OH [.bool] (.dict x) k = k false := (rfl)
theorem h_bool_int (x : Int) (k : Bool → Prop) : OH [.bool] (.int x) k = k false := (rfl)
theorem h_bool_bool (x : Bool) (k : Bool → Prop) : OH [.bool] (.bool x) k = k true := (rfl)
theorem h_bool_str (x : Str) (k : Bool → Prop) : OH [.bool] (.str x) k = k false := (rfl)
theorem h_bool_list (x : List D) (k : Bool → Prop) : OH [.bool] (.list x) k = k false := (rfl)
theorem h_bool_tuple (x : List D) (k : Bool → Prop) : OH [.bool] (.tuple x) k = k false := (rfl)
theorem h_bool_none (k : Bool → Prop) : OH [.bool] .none k = k false := (rfl)
theorem h_str_dict (x : List (D × D)) (k : Bool → Prop) : OH [.str] (.dict x) k = k false := (rfl)
theorem h_str_int (x : Int) (k : Bool → Prop) : OH [.str] (.int x) k = k false := (rfl)
theorem h_str_bool (x : Bool) (k : Bool → Prop) : OH [.str] (.bool x) k = k false := (rfl)
theorem h_str_str (x : Str) (k : Bool → Prop) : OH [.str] (.str x) k = k true := (rfl)
theorem h_str_list (x : List D) (k : Bool → Prop) : OH [.str] (.list x) k = k false := (rfl)
theorem h_str_tuple (x : List D) (k : Bool → Prop) : OH [.str] (.tuple x) k = k false := (rfl)
theorem h_str_none (k : Bool → Prop) : OH [.str] .none k = k false := (rfl)
theorem h_list_dict (x : List (D × D)) (k : Bool → Prop) : OH [.list] (.dict x) k = k false := (rfl)
theorem h_list_int (x : Int) (k : Bool → Prop) : OH [.list] (.int x) k = k false := (rfl)
theorem h_list_bool (x : Bool) (k : Bool → Prop) : OH [.list] (.bool x) k = k false := (rfl)
theorem h_list_str (x : Str) (k : Bool → Prop) : OH [.list] (.str x) k = k false := (rfl)
theorem h_list_list (x : List D) (k : Bool → Prop) : OH [.list] (.list x) k = k true := (rfl)
theorem h_list_tuple (x : List D) (k : Bool → Prop) : OH [.list] (.tuple x) k = k false := (rfl)
theorem h_list_none (k : Bool → Prop) : OH [.list] .none k = k false := (rfl)
theorem h_tuple_dict (x : List (D × D)) (k : Bool → Prop) : OH [.tuple] (.dict x) k = k false := (rfl)
theorem h_tuple_int (x : Int) (k : Bool → Prop) : OH [.tuple] (.int x) k = k false := (rfl)
theorem h_tuple_bool (x : Bool) (k : Bool → Prop) : OH [.tuple] (.bool x) k = k false := (rfl)
theorem h_tuple_str (x : Str) (k : Bool → Prop) : OH [.tuple] (.str x) k = k false := (rfl)
theorem h_tuple_list (x : List D) (k : Bool → Prop) : OH [.tuple] (.list x) k = k false := (rfl)
theorem h_tuple_tuple (x : List D) (k : Bool → Prop) : OH [.tuple] (.tuple x) k = k true := (rfl)
theorem h_tuple_none (k : Bool → Prop) : OH [.tuple] .none k = k false := (rfl)
theorem h_lt_int (x : Int) (k : Bool → Prop) : OH [.list, .tuple] (.int x) k = k false := (rfl)
theorem h_bs_int (x : Int) (k : Bool → Prop) : OH [.bool, .str] (.int x) k = k false := (rfl)
theorem h_lt_bool (x : Bool) (k : Bool → Prop) : OH [.list, .tuple] (.bool x) k = k false := (rfl)
theorem h_bs_bool (x : Bool) (k : Bool → Prop) : OH [.bool, .str] (.bool x) k = k true := (rfl)
theorem h_lt_str (x : Str) (k : Bool → Prop) : OH [.list, .tuple] (.str x) k = k false := (rfl)
theorem h_bs_str (x : Str) (k : Bool → Prop) : OH [.bool, .str] (.str x) k = k true := (rfl)
theorem h_lt_list (x : List D) (k : Bool → Prop) : OH [.list, .tuple] (.list x) k = k true := (rfl)
theorem h_bs_list (x : List D) (k : Bool → Prop) : OH [.bool, .str] (.list x) k = k false := (rfl)
theorem h_lt_tuple (x : List D) (k : Bool → Prop) : OH [.list, .tuple] (.tuple x) k = k true := (rfl)
theorem h_bs_tuple (x : List D) (k : Bool → Prop) : OH [.bool, .str] (.tuple x) k = k false := (rfl)
theorem h_lt_dict (x : List (D × D)) (k : Bool → Prop) : OH [.list, .tuple] (.dict x) k = k false := (rfl)
theorem h_bs_dict (x : List (D × D)) (k : Bool → Prop) : OH [.bool, .str] (.dict x) k = k false := (rfl)
theorem h_lt_none (k : Bool → Prop) : OH [.list, .tuple] .none k = k false := (rfl)
theorem h_bs_none (k : Bool → Prop) : OH [.bool, .str] .none k = k false := (rfl)
theorem d_rep (xs : List D) (n : Int) (k : W → Prop) : OM (repD (.new xs) (.int n)) k = ((0 ≤ n ∧ n < 2 ^ 30 ∧ xs.length * n.toNat ≤ sizeLine) ∧ k (.new (List.replicate n.toNat xs).flatten)) := om_ite _ _
theorem ln_0_0 (p q : Prop) : OI (decide (((([] : List D).length : Nat) : Int) = 0)) p q = p := oi_t (by simp)
theorem nl_0_0 (p q : Prop) : OI (!decide (((([] : List D).length : Nat) : Int) = 0)) p q = q := oi_f (by simp)
theorem ln_0_1 (p q : Prop) : OI (decide (((([] : List D).length : Nat) : Int) = 1)) p q = q := oi_f (by simp)
theorem nl_0_1 (p q : Prop) : OI (!decide (((([] : List D).length : Nat) : Int) = 1)) p q = p := oi_t (by simp)
theorem ln_0_2 (p q : Prop) : OI (decide (((([] : List D).length : Nat) : Int) = 2)) p q = q := oi_f (by simp)
theorem nl_0_2 (p q : Prop) : OI (!decide (((([] : List D).length : Nat) : Int) = 2)) p q = p := oi_t (by simp)
theorem ln_0_3 (p q : Prop) : OI (decide (((([] : List D).length : Nat) : Int) = 3)) p q = q := oi_f (by simp)
theorem nl_0_3 (p q : Prop) : OI (!decide (((([] : List D).length : Nat) : Int) = 3)) p q = p := oi_t (by simp)
theorem n23_0 (p q : Prop) : OI (!inD (.int ((([] : List D).length : Nat) : Int)) [.int 2, .int 3]) p q = p := oi_t (by simp [inD, eqv_int])
theorem ln_1_0 (x0 : D) (p q : Prop) : OI (decide ((((x0 :: [] : List D).length : Nat) : Int) = 0)) p q = q := oi_f (by simp)
theorem nl_1_0 (x0 : D) (p q : Prop) : OI (!decide ((((x0 :: [] : List D).length : Nat) : Int) = 0)) p q = p := oi_t (by simp)
theorem ln_1_1 (x0 : D) (p q : Prop) : OI (decide ((((x0 :: [] : List D).length : Nat) : Int) = 1)) p q = p := oi_t (by simp)
theorem nl_1_1 (x0 : D) (p q : Prop) : OI (!decide ((((x0 :: [] : List D).length : Nat) : Int) = 1)) p q = q := oi_f (by simp)
theorem ln_1_2 (x0 : D) (p q : Prop) : OI (decide ((((x0 :: [] : List D).length : Nat) : Int) = 2)) p q = q := oi_f (by simp)
theorem nl_1_2 (x0 : D) (p q : Prop) : OI (!decide ((((x0 :: [] : List D).length : Nat) : Int) = 2)) p q = p := oi_t (by simp)
theorem ln_1_3 (x0 : D) (p q : Prop) : OI (decide ((((x0 :: [] : List D).length : Nat) : Int) = 3)) p q = q := oi_f (by simp)
theorem nl_1_3 (x0 : D) (p q : Prop) : OI (!decide ((((x0 :: [] : List D).length : Nat) : Int) = 3)) p q = p := oi_t (by simp)
theorem n23_1 (x0 : D) (p q : Prop) : OI (!inD (.int (((x0 :: [] : List D).length : Nat) : Int)) [.int 2, .int 3]) p q = p := oi_t (by simp [inD, eqv_int])
theorem ln_2_0 (x0 x1 : D) (p q : Prop) : OI (decide ((((x0 :: x1 :: [] : List D).length : Nat) : Int) = 0)) p q = q := oi_f (by simp)
theorem nl_2_0 (x0 x1 : D) (p q : Prop) : OI (!decide ((((x0 :: x1 :: [] : List D).length : Nat) : Int) = 0)) p q = p := oi_t (by simp)
theorem ln_2_1 (x0 x1 : D) (p q : Prop) : OI (decide ((((x0 :: x1 :: [] : List D).length : Nat) : Int) = 1)) p q = q := oi_f (by simp)
theorem nl_2_1 (x0 x1 : D) (p q : Prop) : OI (!decide ((((x0 :: x1 :: [] : List D).length : Nat) : Int) = 1)) p q = p := oi_t (by simp)
theorem ln_2_2 (x0 x1 : D) (p q : Prop) : OI (decide ((((x0 :: x1 :: [] : List D).length : Nat) : Int) = 2)) p q = p := oi_t (by simp)
theorem nl_2_2 (x0 x1 : D) (p q : Prop) : OI (!decide ((((x0 :: x1 :: [] : List D).length : Nat) : Int) = 2)) p q = q := oi_f (by simp)
theorem ln_2_3 (x0 x1 : D) (p q : Prop) : OI (decide ((((x0 :: x1 :: [] : List D).length : Nat) : Int) = 3)) p q = q := oi_f (by simp)
theorem nl_2_3 (x0 x1 : D) (p q : Prop) : OI (!decide ((((x0 :: x1 :: [] : List D).length : Nat) : Int) = 3)) p q = p := oi_t (by simp)
theorem n23_2 (x0 x1 : D) (p q : Prop) : OI (!inD (.int (((x0 :: x1 :: [] : List D).length : Nat) : Int)) [.int 2, .int 3]) p q = q := oi_f (by simp [inD, eqv_int])
theorem ln_3_0 (x0 x1 x2 : D) (p q : Prop) : OI (decide ((((x0 :: x1 :: x2 :: [] : List D).length : Nat) : Int) = 0)) p q = q := oi_f (by simp)
theorem nl_3_0 (x0 x1 x2 : D) (p q : Prop) : OI (!decide ((((x0 :: x1 :: x2 :: [] : List D).length : Nat) : Int) = 0)) p q = p := oi_t (by simp)
theorem ln_3_1 (x0 x1 x2 : D) (p q : Prop) : OI (decide ((((x0 :: x1 :: x2 :: [] : List D).length : Nat) : Int) = 1)) p q = q := oi_f (by simp)
theorem nl_3_1 (x0 x1 x2 : D) (p q : Prop) : OI (!decide ((((x0 :: x1 :: x2 :: [] : List D).length : Nat) : Int) = 1)) p q = p := oi_t (by simp)
theorem ln_3_2 (x0 x1 x2 : D) (p q : Prop) : OI (decide ((((x0 :: x1 :: x2 :: [] : List D).length : Nat) : Int) = 2)) p q = q := oi_f (by simp)
theorem nl_3_2 (x0 x1 x2 : D) (p q : Prop) : OI (!decide ((((x0 :: x1 :: x2 :: [] : List D).length : Nat) : Int) = 2)) p q = p := oi_t (by simp)
theorem ln_3_3 (x0 x1 x2 : D) (p q : Prop) : OI (decide ((((x0 :: x1 :: x2 :: [] : List D).length : Nat) : Int) = 3)) p q = p := oi_t (by simp)
theorem nl_3_3 (x0 x1 x2 : D) (p q : Prop) : OI (!decide ((((x0 :: x1 :: x2 :: [] : List D).length : Nat) : Int) = 3)) p q = q := oi_f (by simp)
theorem n23_3 (x0 x1 x2 : D) (p q : Prop) : OI (!inD (.int (((x0 :: x1 :: x2 :: [] : List D).length : Nat) : Int)) [.int 2, .int 3]) p q = q := oi_f (by simp [inD, eqv_int])
theorem ln_4_0 (x0 x1 x2 x3 : D) (r : List D) (p q : Prop) : OI (decide ((((x0 :: x1 :: x2 :: x3 :: r : List D).length : Nat) : Int) = 0)) p q = q := oi_f (by simp <;> omega)
theorem nl_4_0 (x0 x1 x2 x3 : D) (r : List D) (p q : Prop) : OI (!decide ((((x0 :: x1 :: x2 :: x3 :: r : List D).length : Nat) : Int) = 0)) p q = p := oi_t (by simp <;> omega)
theorem ln_4_1 (x0 x1 x2 x3 : D) (r : List D) (p q : Prop) : OI (decide ((((x0 :: x1 :: x2 :: x3 :: r : List D).length : Nat) : Int) = 1)) p q = q := oi_f (by simp <;> omega)
theorem nl_4_1 (x0 x1 x2 x3 : D) (r : List D) (p q : Prop) : OI (!decide ((((x0 :: x1 :: x2 :: x3 :: r : List D).length : Nat) : Int) = 1)) p q = p := oi_t (by simp <;> omega)
theorem ln_4_2 (x0 x1 x2 x3 : D) (r : List D) (p q : Prop) : OI (decide ((((x0 :: x1 :: x2 :: x3 :: r : List D).length : Nat) : Int) = 2)) p q = q := oi_f (by simp <;> omega)
theorem nl_4_2 (x0 x1 x2 x3 : D) (r : List D) (p q : Prop) : OI (!decide ((((x0 :: x1 :: x2 :: x3 :: r : List D).length : Nat) : Int) = 2)) p q = p := oi_t (by simp <;> omega)
theorem ln_4_3 (x0 x1 x2 x3 : D) (r : List D) (p q : Prop) : OI (decide ((((x0 :: x1 :: x2 :: x3 :: r : List D).length : Nat) : Int) = 3)) p q = q := oi_f (by simp <;> omega)
theorem nl_4_3 (x0 x1 x2 x3 : D) (r : List D) (p q : Prop) : OI (!decide ((((x0 :: x1 :: x2 :: x3 :: r : List D).length : Nat) : Int) = 3)) p q = p := oi_t (by simp <;> omega)
theorem n23_4 (x0 x1 x2 x3 : D) (r : List D) (p q : Prop) : OI (!inD (.int (((x0 :: x1 :: x2 :: x3 :: r : List D).length : Nat) : Int)) [.int 2, .int 3]) p q = p := oi_t (by simp [inD, eqv_int] <;> omega)
theorem lit_0_0 (p q : Prop) : OI (decide ((0 : Int) = 0)) p q = p := oi_t (by decide)
theorem lit_0_1 (p q : Prop) : OI (decide ((0 : Int) = 1)) p q = q := oi_f (by decide)
theorem lit_0_2 (p q : Prop) : OI (decide ((0 : Int) = 2)) p q = q := oi_f (by decide)
theorem lit_0_3 (p q : Prop) : OI (decide ((0 : Int) = 3)) p q = q := oi_f (by decide)
theorem lit_1_0 (p q : Prop) : OI (decide ((1 : Int) = 0)) p q = q := oi_f (by decide)
theorem lit_1_1 (p q : Prop) : OI (decide ((1 : Int) = 1)) p q = p := oi_t (by decide)
theorem lit_1_2 (p q : Prop) : OI (decide ((1 : Int) = 2)) p q = q := oi_f (by decide)
theorem lit_1_3 (p q : Prop) : OI (decide ((1 : Int) = 3)) p q = q := oi_f (by decide)
theorem lit_2_0 (p q : Prop) : OI (decide ((2 : Int) = 0)) p q = q := oi_f (by decide)
theorem lit_2_1 (p q : Prop) : OI (decide ((2 : Int) = 1)) p q = q := oi_f (by decide)
theorem lit_2_2 (p q : Prop) : OI (decide ((2 : Int) = 2)) p q = p := oi_t (by decide)
theorem lit_2_3 (p q : Prop) : OI (decide ((2 : Int) = 3)) p q = q := oi_f (by decide)
theorem lit_3_0 (p q : Prop) : OI (decide ((3 : Int) = 0)) p q = q := oi_f (by decide)
theorem lit_3_1 (p q : Prop) : OI (decide ((3 : Int) = 1)) p q = q := oi_f (by decide)
theorem lit_3_2 (p q : Prop) : OI (decide ((3 : Int) = 2)) p q = q := oi_f (by decide)
theorem lit_3_3 (p q : Prop) : OI (decide ((3 : Int) = 3)) p q = p := oi_t (by decide)
end EV

end
section
set_option linter.all false
set_option maxRecDepth 100000
set_option Elab.async false
/-! EV: the law's end -/
namespace EV
open PySem L2
theorem kw_of {K : PySem.W.Frag} {x qual : Str} {params : Arguments} {body : List Stmt} {scope : Scope} {f : Addr} {fd : FuncData} {ps ks : List Str} {perm : List Nat} (Fd : FunD K x qual params body scope [] [] f fd)
    (h : ∀ (kV doc pm : Value) (an : Option Addr) (cdv ct : Value) (us : List Value), us.length = ks.length → bindArgs (PySem.W.fnOf x qual params body scope .none kV doc pm an cdv ct) ⟨[], ks.zip us⟩ = pure (ps.zip (perm.filterMap fun i => us[i]?))) : KwOk K fd ps ks perm := by
  obtain ⟨oc, od, dV, kV, doc, pm, an, cdv, ct, osl, rfl, lk, hcd, hD, hK⟩ := Fd.ex
  rcases hD with ⟨_, rfl⟩ | ⟨e, _⟩
  · exact fun s ws _ hl => .of_eq (h kV doc pm an cdv ct ws hl)
  · exact absurd rfl e
/-- no list among the known objects -/
def noL (K : PySem.W.Frag) : Bool := K.all fun p => !(p.2.cls == Value.type "list")
theorem noL_lookup {a : Addr} {o : Obj} : ∀ {K : PySem.W.Frag}, noL K = true → K.lookup a = some o → (o.cls == Value.type "list") = false
  | [], _, e => nomatch e
  | (b, u) :: K, h, e => by
    simp only [noL, List.all_cons, Bool.and_eq_true] at h
    rw [List.lookup_cons] at e
    split at e
    · cases e
      simpa using h.1
    · exact noL_lookup (K := K) h.2 e
/-- the head's facts, and that no list is among them -/
def hookL (n : Nat) (fa : List He.Fa) (fn : List He.DefD) : PySem.W.Hook where
  α := He.AlD × Bool
  obs := fun s => (He.obsDG n fa fn s.heap.get?, noL (He.frG s.heap.get? (He.asD s.heap.get? n)))
  val := fun _ => (He.valD fn, true)
  says := fun _ h => ∃ K : PySem.W.Frag, K.In h ∧ He.SaysD fa fn K ∧ noL K = true
  of := fun _ _ e => ⟨_, He.frG_in, congrArg Prod.fst e, congrArg Prod.snd e⟩
  keeps := fun _ _ _ ⟨K, hK, c⟩ k => ⟨K, PySem.W.Frag.In.keeps hK k, c⟩
def obL (n : Nat) (fa : List He.Fa) (fn : List He.DefD) (s : PySem.W.SharedT) : He.AlD × Bool := (He.obsDG n fa fn (HandSHeadRun.getT s), noL (He.frG (HandSHeadRun.getT s) (He.asD (HandSHeadRun.getT s) n)))
theorem obL_eq {n : Nat} {fa : List He.Fa} {fn : List He.DefD} (s : PySem.W.SharedT) : obL n fa fn s = (hookL n fa fn).obs s.abs := by
  have e : HandSHeadRun.getT s = s.abs.heap.get? := funext (HandSHeadRun.getT_eq s)
  unfold obL
  rw [e]; rfl
/-- the law's answer is True (a box of its own: nothing is to look into the call) -/
inductive Yes (r : FRes) : Prop
  | mk (h : OkF r fun w _ => w = .dat (.bool true)) : Yes r
/-- the law's promise -/
theorem sp_law {K : PySem.W.Frag} {fn : Fn} {call : List D → FRes} {H : Hp} {a : Addr} {ns : List Int} (hio : fn.io = none) (hnp : fn.np = 1) (hK : noL K = true) (hS : SqL K H a (ns.map V.int))
    (h : OkF (call [.list (ns.map .int)]) fun w _ => w = .dat (.bool true)) : spOf (fun _ _ _ _ _ => False) K fn call [.ref a] H (fun v _ => v = .bl true) fun _ _ _ => False := by
  have r : Rd H a (.lst (ns.map V.int)) := by
    rcases hS with r | ⟨o, its, n, e, hc, _⟩
    · exact r
    · have q := noL_lookup hK e
      rw [hc] at q
      exact absurd q (by decide)
  refine ⟨fun _ => False, [.list (ns.map .int)], by rw [hnp]; rfl, ⟨rfl, fun j v d _ h1 h2 => ?_, fun j hj => ?_⟩, fun a z => z.elim, ?_⟩
  · cases j with
    | zero =>
      simp at h1 h2
      subst h1; subst h2
      exact .lst r (fun z => z) (ints_dat ns)
    | succ j => simp at h1
  · rw [hio] at hj; cases hj
  · cases hc : call [.list (ns.map .int)] with
    | ok w r =>
      rw [hc] at h
      have h : w = .dat (.bool true) := h
      subst h
      intro M' H' v _ _ _ hv
      have hv : Dat K M' H' v (.bool true) := hv
      cases hv; rfl
    | exc x r => rw [hc] at h; exact h.elim
    | stuck => rw [hc] at h; exact h.elim
theorem cx_end {P : Program} {w : World} (H : Hp) (s : Shared) (e : Value) (s' : Shared) (h : L2.CX P w [] H s (fun _ _ _ => False) e s') : False := by
  obtain ⟨_, _, _, _, _, _, _, _, _, _, _, _, z⟩ := h
  exact z
/-- the law called: what may fly depends on the world -/
theorem walk_law {l : PySem.W.OpenLaw} {n k : Nat} {q : Program} {loose : List Str} {XP : (Str → Option Value) → Heap → Prop} {YP : World → Heap → Prop} {d : DefRec} {x : Str} (h1 : l.most = some n) (h2 : n ≤ sizeLine) (h3 : d.params.defaults = []) (h4 : Room k callerA)
    (F : ∀ (w : World) (mg : Str → Option Value) (fa : Addr) (h : Heap), YP w h → h.Ns mainGlobals mg → mg d.name = some (.ref fa) → ∃ (K : PySem.W.Frag) (fd : FuncData) (sp : Sp), K.In h ∧ (∀ (s : Shared) (u : Value), BindsTo s fd ⟨[u], []⟩ [(x, u)]) ∧
        (∀ (H : Hp) (a : Addr) (ns : List Int), ns.length ≤ n → SqL K H a (ns.map V.int) → sp [.ref a] H (fun v _ => v = .bl true) fun _ _ _ => False) ∧ ∀ base : Heap, K.In base → base.Ns mainGlobals mg → FnOk l.prog w K mg base (L2.CX l.prog w) k fa fd [x] sp) :
    PySem.W.WalkO q loose XP YP l.row.toRowW d [] (fun f vs => PySem.call f vs) := by
  refine Att.attach_call h1 h3 fun w s0 s1 mg mb fa o pm cd doc a vs ns Gd Yd ho hd hcd hm hob hin hln hgn => ?_
  obtain ⟨K, fd, sp, a1, a2, a3, a4⟩ := F w mg fa _ Yd Gd.T.g hm
  exact law_call a1 Gd.T.g Gd.T.b Gd.T.builtins Gd.T.nolimit hgn hob hin (Nat.le_trans hln h2) h4 a4 a2 (fun H _ z => a3 H a ns hln z) fun H e s2 z => cx_end H s1 e s2 z
end EV

end
section
set_option linter.all false
set_option maxRecDepth 100000
namespace K21
open PySem EV
/- 0 is_number -/
def b0 : Ss := (.cons (.ret (.bop true (.cons (.isi (.var 0) [.int] true) (.cons (.not (.isi (.var 0) [.bool] true)) .nil))))
 .nil)
def f0 : Fn := ⟨"is_number", 1, none, 1, b0⟩
/- 1 tupled -/
def b1 : Ss := (.cons (.ret (.ite (.isi (.var 0) [.list, .tuple] false) (.bi .tuple (.cons (.comp (.one 1) (.seq (.var 0)) .no (.call 1 (.cons (.var 1) .nil))) .nil)) (.var 0)))
 .nil)
def f1 : Fn := ⟨"tupled", 1, none, 2, b1⟩
/- 2 rises -/
def b2 : Ss := (.cons (.ret (.bi .all (.cons (.comp (.many [1, 2]) (.zip (.var 0) (.slc (.var 0) (.yes (.cst (.int 1))) .no)) .no (.op2 .lt (.var 1) (.var 2))) .nil)))
 .nil)
def f2 : Fn := ⟨"rises", 1, none, 3, b2⟩
/- 3 set_of -/
def b3 : Ss := (.cons (.ret (.bi .tuple (.cons (.bi .sortset (.cons (.var 0) .nil)) .nil)))
 .nil)
def f3 : Fn := ⟨"set_of", 1, none, 1, b3⟩
/- 4 unlike -/
def b4 : Ss := (.cons (.ret (.bi .tuple (.cons (.comp (.one 2) (.seq (.var 0)) (.yes (.op2 .notin (.var 2) (.var 1))) (.var 2)) .nil)))
 .nil)
def f4 : Fn := ⟨"unlike", 2, none, 3, b4⟩
/- 5 home_of -/
def b5 : Ss := (.cons (.ret (.idx (.comp (.many [2, 3]) (.enum (.var 0)) (.yes (.op2 .isin (.var 1) (.idx (.var 3) (.cst (.int 0))))) (.var 2)) (.cst (.int 0))))
 .nil)
def f5 : Fn := ⟨"home_of", 2, none, 4, b5⟩
/- 6 sheets_under -/
def b6 : Ss := (.cons (.ite (.call 0 (.cons (.var 0) .nil)) (.cons (.ret (.lst (.cons (.var 0) .nil)))
 .nil) .nil)
 (.cons (.ite (.bop false (.cons (.not (.isi (.var 0) [.tuple] true)) (.cons (.op2 .eq (.bi .len (.cons (.var 0) .nil)) (.cst (.int 0))) (.cons (.not (.isi (.idx (.var 0) (.cst (.int 0))) [.str] true)) .nil)))) (.cons (.ret (.cst .none))
 .nil) .nil)
 (.cons (.ite (.bop true (.cons (.op2 .eq (.bi .len (.cons (.var 0) .nil)) (.glo 0 (.int 2))) (.cons (.bop false (.cons (.op2 .eq (.idx (.var 0) (.cst (.int 0))) (.glo 2 (.str "fold"))) (.cons (.bop true (.cons (.op2 .eq (.idx (.var 0) (.cst (.int 0))) (.glo 3 (.str "home"))) (.cons (.not (.var 1)) .nil))) .nil))) .nil))) (.cons (.ret (.call 6 (.cons (.idx (.var 0) (.cst (.int 1))) (.cons (.orT (.var 1) (.op2 .eq (.idx (.var 0) (.cst (.int 0))) (.glo 3 (.str "home")))) .nil))))
 .nil) .nil)
 (.cons (.ite (.bop false (.cons (.op2 .ne (.bi .len (.cons (.var 0) .nil)) (.glo 1 (.int 3))) (.cons (.op2 .ne (.idx (.var 0) (.cst (.int 0))) (.glo 4 (.str "join"))) .nil))) (.cons (.ret (.cst .none))
 .nil) .nil)
 (.cons (.par [2, 3] (.cons (.call 6 (.cons (.idx (.var 0) (.cst (.int 1))) (.cons (.var 1) .nil))) (.cons (.call 6 (.cons (.idx (.var 0) (.cst (.int 2))) (.cons (.var 1) .nil))) .nil)))
 (.cons (.ret (.ite (.bop false (.cons (.op1 .isN (.var 2)) (.cons (.op1 .isN (.var 3)) .nil))) (.cst .none) (.op2 .add (.var 2) (.var 3))))
 .nil))))))
def f6 : Fn := ⟨"sheets_under", 2, none, 4, b6⟩
/- 7 can_be_out -/
def b7 : Ss := (.cons (.asg 2 (.comp (.one 3) (.seq (.idx (.var 1) (.cst (.int 2)))) .no (.call 5 (.cons (.var 0) (.cons (.var 3) .nil)))))
 (.cons (.ret (.comp (.one 4) (.seq (.idx (.var 1) (.cst (.int 0)))) (.yes (.bop true (.cons (.op2 .gt (.var 4) (.cst (.int 0))) (.cons (.op2 .notin (.var 4) (.var 2)) .nil)))) (.var 4)))
 .nil))
def f7 : Fn := ⟨"can_be_out", 2, none, 5, b7⟩
/- 8 is_plan -/
def b8 : Ss := (.cons (.ite (.bop false (.cons (.not (.isi (.var 2) [.tuple] true)) (.cons (.op2 .ne (.bi .len (.cons (.var 2) .nil)) (.glo 0 (.int 2))) (.cons (.not (.isi (.idx (.var 2) (.cst (.int 0))) [.tuple] true)) .nil)))) (.cons (.ret (.cst (.bool false)))
 .nil) .nil)
 (.cons (.asgT [4, 5] (.var 2))
 (.cons (.ite (.bop false (.cons (.not (.bi .all (.cons (.comp (.one 6) (.seq (.var 4)) .no (.call 0 (.cons (.var 6) .nil))) .nil))) (.cons (.not (.call 2 (.cons (.var 4) .nil))) .nil))) (.cons (.ret (.cst (.bool false)))
 .nil) .nil)
 (.cons (.ite (.not (.bi .all (.cons (.comp (.one 6) (.seq (.var 4)) .no (.op2 .isin (.var 6) (.call 7 (.cons (.var 0) (.cons (.var 1) .nil))))) .nil))) (.cons (.ret (.cst (.bool false)))
 .nil) .nil)
 (.cons (.asg 3 (.call 6 (.cons (.var 5) (.cons (.cst (.bool false)) .nil))))
 (.cons (.ret (.bop true (.cons (.op1 .notN (.var 3)) (.cons (.op2 .eq (.bi .sorted (.cons (.var 3) .nil)) (.bi .list (.cons (.call 4 (.cons (.idx (.call 1 (.cons (.var 1) .nil)) (.cst (.int 0))) (.cons (.var 4) .nil))) .nil))) .nil))))
 .nil))))))
def f8 : Fn := ⟨"is_plan", 3, none, 7, b8⟩
/- 9 home_trees -/
def b9 : Ss := (.cons (.ite (.call 0 (.cons (.var 0) .nil)) (.cons (.ret (.lst .nil))
 .nil) .nil)
 (.cons (.ite (.op2 .eq (.idx (.var 0) (.cst (.int 0))) (.glo 3 (.str "home"))) (.cons (.ret (.lst (.cons (.idx (.var 0) (.cst (.int 1))) .nil)))
 .nil) .nil)
 (.cons (.ret (.comp2 (.one 1) (.seq (.slc (.var 0) (.yes (.cst (.int 1))) .no)) .no (.one 2) (.seq (.call 9 (.cons (.var 1) .nil))) .no (.var 2)))
 .nil)))
def f9 : Fn := ⟨"home_trees", 1, none, 3, b9⟩
/- 10 homes_of -/
def b10 : Ss := (.cons (.ret (.call 3 (.cons (.comp (.one 1) (.seq (.call 9 (.cons (.idx (.call 1 (.cons (.var 0) .nil)) (.cst (.int 1))) .nil))) .no (.call 3 (.cons (.call 6 (.cons (.var 1) (.cons (.cst (.bool true)) .nil))) .nil))) .nil)))
 .nil)
def f10 : Fn := ⟨"homes_of", 1, none, 2, b10⟩
/- 11 plan_size -/
def b11 : Ss := (.cons (.asg 1 (.idx (.call 1 (.cons (.var 0) .nil)) (.cst (.int 1))))
 (.cons (.par [2, 3] (.cons (.bi .len (.cons (.call 6 (.cons (.var 1) (.cons (.cst (.bool false)) .nil))) .nil)) (.cons (.comp (.one 4) (.seq (.call 9 (.cons (.var 1) .nil))) .no (.call 6 (.cons (.var 4) (.cons (.cst (.bool true)) .nil)))) .nil)))
 (.cons (.ret (.tup (.cons (.var 2) (.cons (.op2 .sub (.op2 .add (.bi .len (.cons (.var 3) .nil)) (.var 2)) (.bi .sum (.cons (.comp (.one 4) (.seq (.var 3)) .no (.bi .len (.cons (.var 4) .nil))) .nil))) .nil))))
 .nil)))
def f11 : Fn := ⟨"plan_size", 1, none, 5, b11⟩
/- 12 _law_box -/
def b12 : Ss := (.cons (.asg 2 (.ite (.op2 .lt (.var 1) (.bi .len (.cons (.var 0) .nil))) (.idx (.var 0) (.var 1)) (.cst (.int 0))))
 (.cons (.ret (.lst (.cons (.op2 .mul (.bi .abs (.cons (.var 2) .nil)) (.bi .int (.cons (.op2 .ge (.bi .abs (.cons (.var 2) .nil)) (.op2 .pow (.cst (.int 10)) (.cst (.int 18)))) .nil))) (.cons (.op2 .add (.op2 .add (.op2 .mod (.bi .int (.cons (.var 2) .nil)) (.cst (.int 2305843009213693951))) (.op2 .mul (.cst (.int 39373)) (.var 1))) (.cst (.int 1068021))) (.cons (.cst (.int 0)) .nil)))))
 .nil))
def f12 : Fn := ⟨"_law_box", 2, none, 3, b12⟩
/- 13 _law_take -/
def b13 : Ss := (.cons (.ite (.op2 .gt (.idx (.var 0) (.cst (.int 0))) (.cst (.int 0))) (.cons (.asg 5 (.op2 .mod (.bi .int (.cons (.idx (.var 0) (.cst (.int 0))) .nil)) (.var 1)))
 (.cons (.sub 0 (.cst (.int 0)) (.op2 .fdiv (.idx (.var 0) (.cst (.int 0))) (.var 1)))
 (.cons (.ret (.var 5))
 .nil))) .nil)
 (.cons (.sub 0 (.cst (.int 2)) (.op2 .add (.idx (.var 0) (.cst (.int 2))) (.cst (.int 1))))
 (.cons (.asg 2 (.op2 .mod (.bi .int (.cons (.op2 .mul (.op2 .add (.idx (.var 0) (.cst (.int 1))) (.op2 .mul (.cst (.int 48271)) (.idx (.var 0) (.cst (.int 2))))) (.op2 .add (.cst (.int 39373)) (.idx (.var 0) (.cst (.int 2))))) .nil)) (.cst (.int 2147483647))))
 (.cons (.asg 3 (.op2 .add (.op2 .mod (.bi .int (.cons (.var 2) .nil)) (.cst (.int 40009))) (.cst (.int 7))))
 (.cons (.asg 4 (.op2 .mod (.bi .int (.cons (.op2 .mul (.op2 .add (.op2 .add (.var 2) (.idx (.var 0) (.cst (.int 2)))) (.op2 .fdiv (.idx (.var 0) (.cst (.int 1))) (.cst (.int 1000003)))) (.var 3)) .nil)) (.cst (.int 2147483629))))
 (.cons (.ret (.op2 .mod (.bi .int (.cons (.op2 .fdiv (.op2 .mod (.bi .int (.cons (.op2 .add (.op2 .mul (.var 4) (.cst (.int 48271))) (.var 2)) .nil)) (.cst (.int 2147483587))) (.cst (.int 64))) .nil)) (.var 1)))
 .nil))))))
def f13 : Fn := ⟨"_law_take", 2, (some 0), 6, b13⟩
/- 14 _law_cells -/
def b14 : Ss := (.cons (.asg 2 (.orT (.bi .list (.cons (.slc (.var 0) .no (.yes (.var 1))) .nil)) (.lst (.cons (.cst (.int 0)) .nil))))
 (.cons (.for_ (.many [3, 4]) (.enum (.slc (.var 0) (.yes (.var 1)) (.yes (.cst (.int 63))))) (.cons (.asg 5 (.op2 .mod (.bi .int (.cons (.var 3) .nil)) (.var 1)))
 (.cons (.sub 2 (.var 5) (.op2 .add (.idx (.var 2) (.var 5)) (.op2 .mul (.var 4) (.op2 .add (.var 3) (.cst (.int 2))))))
 .nil)))
 (.cons (.ret (.var 2))
 .nil)))
def f14 : Fn := ⟨"_law_cells", 2, none, 6, b14⟩
/- 15 _law_same -/
def b15 : Ss := (.cons (.ite (.isi (.var 1) [.list, .tuple] false) (.cons (.ite (.bop false (.cons (.op2 .ne (.isi (.var 0) [.list] true) (.isi (.var 1) [.list] true)) (.cons (.op2 .ne (.isi (.var 0) [.tuple] true) (.isi (.var 1) [.tuple] true)) .nil))) (.cons (.ret (.cst (.bool false)))
 .nil) .nil)
 (.cons (.ret (.bop true (.cons (.op2 .eq (.bi .len (.cons (.var 0) .nil)) (.bi .len (.cons (.var 1) .nil))) (.cons (.bi .all (.cons (.comp (.many [2, 3]) (.zip (.var 0) (.var 1)) .no (.call 15 (.cons (.var 2) (.cons (.var 3) .nil)))) .nil)) .nil))))
 .nil)) .nil)
 (.cons (.ite (.bop false (.cons (.op1 .isN (.var 1)) (.cons (.isi (.var 1) [.bool, .str] false) .nil))) (.cons (.ret (.bop true (.cons (.op2 .eq (.var 0) (.var 1)) (.cons (.op2 .eq (.isi (.var 0) [.bool] true) (.isi (.var 1) [.bool] true)) (.cons (.op2 .eq (.op1 .isN (.var 0)) (.op1 .isN (.var 1))) .nil)))))
 .nil) .nil)
 (.cons (.ret (.bop true (.cons (.isi (.var 0) [.int] true) (.cons (.not (.isi (.var 0) [.bool] true)) (.cons (.op2 .eq (.var 0) (.var 1)) .nil)))))
 .nil)))
def f15 : Fn := ⟨"_law_same", 2, none, 4, b15⟩
/- 16 _law_lists -/
def b16 : Ss := (.cons (.ret (.ite (.isi (.var 0) [.list, .tuple] false) (.comp (.one 1) (.seq (.var 0)) .no (.call 16 (.cons (.var 1) .nil))) (.var 0)))
 .nil)
def f16 : Fn := ⟨"_law_lists", 1, none, 2, b16⟩
/- 17 _law_of -/
def b17 : Ss := (.cons (.ret (.idx (.var 1) (.call 13 (.cons (.var 0) (.cons (.bi .len (.cons (.var 1) .nil)) .nil)))))
 .nil)
def f17 : Fn := ⟨"_law_of", 2, (some 0), 2, b17⟩
/- 18 _law_mixed -/
def b18 : Ss := (.cons (.par [3, 4] (.cons (.bi .list (.cons (.var 1) .nil)) (.cons (.lst .nil) .nil)))
 (.cons (.for_ (.one 2) (.range1 (.bi .len (.cons (.var 1) .nil))) (.cons (.expr (.meth .append 4 (.cons (.meth .popAt 3 (.cons (.call 13 (.cons (.var 0) (.cons (.bi .len (.cons (.var 3) .nil)) .nil))) .nil)) .nil)))
 .nil))
 (.cons (.ret (.var 4))
 .nil)))
def f18 : Fn := ⟨"_law_mixed", 2, (some 0), 5, b18⟩
/- 19 _law_subs -/
def b19 : Ss := (.cons (.asg 1 (.lst (.cons (.tup .nil) .nil)))
 (.cons (.for_ (.one 2) (.seq (.var 0)) (.cons (.asg 1 (.op2 .add (.var 1) (.comp (.one 3) (.seq (.var 1)) .no (.op2 .add (.var 3) (.tup (.cons (.var 2) .nil))))))
 .nil))
 (.cons (.ret (.bi .sorted (.cons (.var 1) .nil)))
 .nil)))
def f19 : Fn := ⟨"_law_subs", 1, none, 4, b19⟩
/- 20 _law_book -/
def b20 : Ss := (.cons (.par [5, 6] (.cons (.bi .list (.cons (.cst (.str "fbgchdaeik")) .nil)) (.cons (.lst .nil) .nil)))
 (.cons (.asg 2 (.comp (.one 12) (.range1 (.op2 .add (.cst (.int 1)) (.call 13 (.cons (.var 0) (.cons (.var 1) .nil))))) .no (.op2 .add (.cst (.int 1)) (.call 13 (.cons (.var 0) (.cons (.cst (.int 2)) .nil))))))
 (.cons (.asg 3 (.comp (.one 7) (.seq (.var 2)) .no (.bi .tuple (.cons (.bi .sorted (.cons (.comp (.one 12) (.range1 (.var 7)) .no (.meth .popAt 5 (.cons (.cst (.int 0)) .nil))) .nil)) .nil))))
 (.cons (.for_ (.one 4) (.down (.op2 .sub (.bi .len (.cons (.var 3) .nil)) (.cst (.int 1))) (.op1 .neg (.cst (.int 1)))) (.cons (.asg 7 (.idx (.var 3) (.var 4)))
 (.cons (.asg 8 (.comp (.one 14) (.seq (.var 7)) (.yes (.op2 .eq (.call 13 (.cons (.var 0) (.cons (.cst (.int 5)) .nil))) (.cst (.int 0)))) (.tup (.cons (.bi .tuple (.cons (.comp (.one 16) (.seq (.var 7)) (.yes (.op2 .ne (.var 16) (.var 14))) (.var 16)) .nil)) (.cons (.var 14) .nil)))))
 (.cons (.asg 9 (.slc (.bi .tuple (.cons (.comp (.one 15) (.seq (.call 19 (.cons (.var 7) .nil))) (.yes (.op2 .eq (.call 13 (.cons (.var 0) (.cons (.cst (.int 3)) .nil))) (.cst (.int 0)))) (.var 15)) .nil)) .no (.yes (.cst (.int 2)))))
 (.cons (.asg 10 (.lst .nil))
 (.cons (.for_ (.one 11) (.range2 (.op2 .add (.var 4) (.cst (.int 1))) (.bi .len (.cons (.var 3) .nil))) (.cons (.asg 13 (.comp (.one 15) (.seq (.idx (.idx (.var 6) (.op2 .sub (.op2 .sub (.var 11) (.var 4)) (.cst (.int 1)))) (.cst (.int 2)))) (.yes (.op2 .le (.bi .len (.cons (.var 15) .nil)) (.bi .len (.cons (.var 7) .nil)))) (.var 15)))
 (.cons (.ite (.bop true (.cons (.op2 .ne (.var 13) (.lst .nil)) (.cons (.op2 .gt (.call 13 (.cons (.var 0) (.cons (.cst (.int 3)) .nil))) (.cst (.int 0))) .nil))) (.cons (.asg 15 (.call 17 (.cons (.var 0) (.cons (.var 13) .nil))))
 (.cons (.expr (.meth .append 10 (.cons (.tup (.cons (.var 11) (.cons (.bi .tuple (.cons (.slc (.call 18 (.cons (.var 0) (.cons (.var 7) .nil))) .no (.yes (.bi .len (.cons (.var 15) .nil)))) .nil)) (.cons (.var 15) .nil)))) .nil)))
 .nil)) .nil)
 .nil)))
 (.cons (.asg 6 (.op2 .add (.lst (.cons (.tup (.cons (.var 7) (.cons (.bi .tuple (.cons (.bi .sorted (.cons (.var 8) .nil)) .nil)) (.cons (.var 9) (.cons (.bi .tuple (.cons (.var 10) .nil)) .nil))))) .nil)) (.var 6)))
 .nil)))))))
 (.cons (.ret (.bi .tuple (.cons (.var 6) .nil)))
 .nil)))))
def f20 : Fn := ⟨"_law_book", 2, (some 0), 17, b20⟩
/- 21 _law_ask -/
def b21 : Ss := (.cons (.asg 2 (.op2 .add (.tup (.cons (.cst (.int 0)) .nil)) (.bi .tuple (.cons (.comp (.one 5) (.range2 (.cst (.int 1)) (.bi .len (.cons (.var 1) .nil))) (.yes (.op2 .gt (.call 13 (.cons (.var 0) (.cons (.cst (.int 3)) .nil))) (.cst (.int 0)))) (.var 5)) .nil))))
 (.cons (.asg 3 (.bi .sorted (.cons (.bi .sumL (.cons (.comp (.one 5) (.seq (.var 2)) .no (.bi .list (.cons (.idx (.idx (.var 1) (.var 5)) (.cst (.int 0))) .nil))) .nil)) .nil)))
 (.cons (.asg 4 (.lst .nil))
 (.cons (.for_ (.many [5, 6]) (.enum (.var 3)) (.cons (.for_ (.one 7) (.seq (.slc (.var 3) (.yes (.op2 .add (.var 5) (.cst (.int 1)))) .no)) (.cons (.asg 8 (.op2 .eq (.comp (.one 10) (.seq (.var 1)) (.yes (.bop true (.cons (.op2 .isin (.var 6) (.idx (.var 10) (.cst (.int 0)))) (.cons (.op2 .isin (.var 7) (.idx (.var 10) (.cst (.int 0)))) .nil)))) (.var 10)) (.lst .nil)))
 (.cons (.ite (.bop true (.cons (.var 8) (.cons (.op2 .eq (.call 13 (.cons (.var 0) (.cons (.cst (.int 4)) .nil))) (.cst (.int 0))) .nil))) (.cons (.expr (.meth .append 4 (.cons (.tup (.cons (.var 6) (.cons (.var 7) .nil))) .nil)))
 .nil) .nil)
 .nil)))
 .nil))
 (.cons (.ret (.tup (.cons (.var 2) (.cons (.bi .tuple (.cons (.var 4) .nil)) (.cons (.bi .tuple (.cons (.comp (.one 9) (.seq (.var 3)) (.yes (.op2 .eq (.call 13 (.cons (.var 0) (.cons (.cst (.int 3)) .nil))) (.cst (.int 0)))) (.var 9)) .nil)) .nil)))))
 .nil)))))
def f21 : Fn := ⟨"_law_ask", 2, (some 0), 11, b21⟩
/- 22 _law_tree -/
def b22 : Ss := (.cons (.asg 4 (.call 13 (.cons (.var 0) (.cons (.cst (.int 4)) .nil))))
 (.cons (.ite (.bop true (.cons (.op2 .eq (.var 4) (.cst (.int 0))) (.cons (.not (.var 2)) .nil))) (.cons (.ret (.tup (.cons (.cst (.str "home")) (.cons (.call 22 (.cons (.var 0) (.cons (.var 1) (.cons (.cst (.bool true)) (.cons (.cst (.bool false)) .nil))))) .nil))))
 .nil) .nil)
 (.cons (.ite (.bop true (.cons (.op2 .eq (.var 4) (.cst (.int 1))) (.cons (.not (.var 3)) .nil))) (.cons (.ret (.tup (.cons (.cst (.str "fold")) (.cons (.call 22 (.cons (.var 0) (.cons (.var 1) (.cons (.var 2) (.cons (.cst (.bool true)) .nil))))) .nil))))
 .nil) .nil)
 (.cons (.ite (.op2 .eq (.bi .len (.cons (.var 1) .nil)) (.cst (.int 1))) (.cons (.ret (.idx (.var 1) (.cst (.int 0))))
 .nil) .nil)
 (.cons (.asg 5 (.op2 .add (.cst (.int 1)) (.call 13 (.cons (.var 0) (.cons (.op2 .sub (.bi .len (.cons (.var 1) .nil)) (.cst (.int 1))) .nil)))))
 (.cons (.asg 6 (.call 22 (.cons (.var 0) (.cons (.slc (.var 1) .no (.yes (.var 5))) (.cons (.var 2) (.cons (.cst (.bool false)) .nil))))))
 (.cons (.ret (.tup (.cons (.cst (.str "join")) (.cons (.var 6) (.cons (.call 22 (.cons (.var 0) (.cons (.slc (.var 1) (.yes (.var 5)) .no) (.cons (.var 2) (.cons (.cst (.bool false)) .nil))))) .nil)))))
 .nil)))))))
def f22 : Fn := ⟨"_law_tree", 4, (some 0), 7, b22⟩
/- 23 _law_may -/
def b23 : Ss := (.cons (.ret (.comp (.one 2) (.seq (.idx (.var 1) (.cst (.int 0)))) (.yes (.bop true (.cons (.op2 .gt (.var 2) (.cst (.int 0))) (.cons (.op2 .eq (.comp (.one 3) (.seq (.idx (.var 1) (.cst (.int 2)))) (.yes (.op2 .isin (.var 3) (.idx (.idx (.var 0) (.var 2)) (.cst (.int 0))))) (.var 3)) (.lst .nil)) .nil)))) (.var 2)))
 .nil)
def f23 : Fn := ⟨"_law_may", 2, none, 4, b23⟩
/- 24 _law_plan -/
def b24 : Ss := (.cons (.asg 3 (.bi .tuple (.cons (.comp (.one 5) (.seq (.call 23 (.cons (.var 1) (.cons (.var 2) .nil)))) (.yes (.op2 .eq (.call 13 (.cons (.var 0) (.cons (.cst (.int 2)) .nil))) (.cst (.int 0)))) (.var 5)) .nil)))
 (.cons (.asg 4 (.comp (.one 5) (.seq (.idx (.var 2) (.cst (.int 0)))) (.yes (.op2 .notin (.var 5) (.var 3))) (.var 5)))
 (.cons (.ret (.tup (.cons (.var 3) (.cons (.call 22 (.cons (.var 0) (.cons (.call 18 (.cons (.var 0) (.cons (.var 4) .nil))) (.cons (.cst (.bool false)) (.cons (.cst (.bool false)) .nil))))) .nil))))
 .nil)))
def f24 : Fn := ⟨"_law_plan", 3, (some 0), 6, b24⟩
/- 25 _law_under -/
def b25 : Ss := (.cons (.ite (.isi (.var 0) [.int] true) (.cons (.ret (.lst (.cons (.var 0) .nil)))
 .nil) .nil)
 (.cons (.asg 1 (.lst .nil))
 (.cons (.for_ (.one 2) (.seq (.slc (.var 0) (.yes (.cst (.int 1))) .no)) (.cons (.asg 1 (.op2 .add (.var 1) (.call 25 (.cons (.var 2) .nil))))
 .nil))
 (.cons (.ret (.var 1))
 .nil))))
def f25 : Fn := ⟨"_law_under", 1, none, 3, b25⟩
/- 26 _law_homes -/
def b26 : Ss := (.cons (.ite (.isi (.var 0) [.int] true) (.cons (.ret (.lst .nil))
 .nil) .nil)
 (.cons (.ite (.op2 .eq (.idx (.var 0) (.cst (.int 0))) (.cst (.str "home"))) (.cons (.ret (.lst (.cons (.idx (.var 0) (.cst (.int 1))) .nil)))
 .nil) .nil)
 (.cons (.asg 1 (.lst .nil))
 (.cons (.for_ (.one 2) (.seq (.slc (.var 0) (.yes (.cst (.int 1))) .no)) (.cons (.asg 1 (.op2 .add (.var 1) (.call 26 (.cons (.var 2) .nil))))
 .nil))
 (.cons (.ret (.var 1))
 .nil)))))
def f26 : Fn := ⟨"_law_homes", 1, none, 3, b26⟩
/- 27 _law_yard -/
def b27 : Ss := (.cons (.asg 0 (.tup (.cons (.tup (.cons (.cst (.str "cust")) (.cons (.cst (.str "item")) (.cons (.cst (.str "oid")) .nil)))) (.cons (.tup .nil) (.cons (.tup (.cons (.tup (.cons (.cst (.str "oid")) .nil)) .nil)) (.cons (.tup (.cons (.tup (.cons (.cst (.int 1)) (.cons (.tup (.cons (.cst (.str "cust")) .nil)) (.cons (.tup (.cons (.cst (.str "name")) .nil)) .nil)))) (.cons (.tup (.cons (.cst (.int 2)) (.cons (.tup (.cons (.cst (.str "item")) .nil)) (.cons (.tup (.cons (.cst (.str "good")) .nil)) .nil)))) .nil))) .nil))))))
 (.cons (.asg 1 (.tup (.cons (.var 0) (.cons (.tup (.cons (.tup (.cons (.cst (.str "city")) (.cons (.cst (.str "land")) (.cons (.cst (.str "name")) .nil)))) (.cons (.tup (.cons (.tup (.cons (.tup (.cons (.cst (.str "city")) .nil)) (.cons (.cst (.str "land")) .nil))) .nil)) (.cons (.tup (.cons (.tup (.cons (.cst (.str "name")) .nil)) .nil)) (.cons (.tup .nil) .nil))))) .nil))))
 (.cons (.asg 1 (.op2 .add (.var 1) (.tup (.cons (.tup (.cons (.tup (.cons (.cst (.str "good")) (.cons (.cst (.str "kind")) .nil))) (.cons (.tup .nil) (.cons (.tup (.cons (.tup (.cons (.cst (.str "good")) .nil)) .nil)) (.cons (.tup .nil) .nil))))) .nil))))
 (.cons (.asg 2 (.tup (.cons (.tup (.cons (.cst (.int 0)) (.cons (.cst (.int 1)) (.cons (.cst (.int 2)) .nil)))) (.cons (.tup (.cons (.tup (.cons (.cst (.str "cust")) (.cons (.cst (.str "name")) .nil))) (.cons (.tup (.cons (.cst (.str "good")) (.cons (.cst (.str "item")) .nil))) .nil))) (.cons (.tup (.cons (.cst (.str "city")) .nil)) .nil)))))
 (.cons (.asg 3 (.lst (.cons (.tup (.cons (.tup (.cons (.cst (.str "cust")) .nil)) (.cons (.tup (.cons (.cst (.str "name")) .nil)) (.cons (.cst .none) .nil)))) (.cons (.tup (.cons (.tup (.cons (.cst (.str "item")) .nil)) (.cons (.tup (.cons (.cst (.str "name")) .nil)) (.cons (.cst .none) .nil)))) (.cons (.tup (.cons (.cst .none) (.cons (.cst .none) (.cons (.cst .none) .nil)))) .nil)))))
 (.cons (.asg 4 (.tup (.cons (.tup (.cons (.cst (.str "ann")) (.cons (.cst (.str "pen")) (.cons (.cst (.str "a")) (.cons (.cst (.int 5)) .nil))))) (.cons (.tup (.cons (.cst (.str "ann")) (.cons (.cst (.str "tea")) (.cons (.cst (.str "b")) (.cons (.cst (.int 2)) .nil))))) (.cons (.tup (.cons (.cst (.str "bob")) (.cons (.cst (.str "tea")) (.cons (.cst (.str "c")) (.cons (.cst (.int 1)) .nil))))) .nil)))))
 (.cons (.asg 5 (.tup (.cons (.var 4) (.cons (.tup (.cons (.tup (.cons (.cst (.str "bern")) (.cons (.cst (.str "ch")) (.cons (.cst (.str "ann")) .nil)))) (.cons (.tup (.cons (.cst (.str "rome")) (.cons (.cst (.str "it")) (.cons (.cst (.str "bob")) .nil)))) .nil))) (.cons (.tup (.cons (.tup (.cons (.cst (.str "pen")) (.cons (.cst (.str "desk")) .nil))) (.cons (.tup (.cons (.cst (.str "tea")) (.cons (.cst (.str "food")) .nil))) .nil))) .nil)))))
 (.cons (.ret (.tup (.cons (.var 1) (.cons (.var 2) (.cons (.var 3) (.cons (.var 5) (.cons (.tup (.cons (.cst (.int 2)) (.cons (.tup (.cons (.tup (.cons (.tup (.cons (.cst (.str "bob")) .nil)) (.cons (.cst (.int 1)) .nil))) (.cons (.tup (.cons (.tup (.cons (.cst (.str "pen")) .nil)) (.cons (.cst (.int 1)) .nil))) .nil))) .nil))) .nil)))))))
 .nil))))))))
def f27 : Fn := ⟨"_law_yard", 0, none, 6, b27⟩
/- 28 _law_tree_of -/
def b28 : Ss := (.cons (.ite (.bop true (.cons (.isi (.var 0) [.int] true) (.cons (.not (.isi (.var 0) [.bool] true)) .nil))) (.cons (.ret (.lst (.cons (.var 0) .nil)))
 .nil) .nil)
 (.cons (.ite (.bop false (.cons (.not (.isi (.var 0) [.tuple] true)) (.cons (.op2 .notin (.bi .len (.cons (.var 0) .nil)) (.tup (.cons (.cst (.int 2)) (.cons (.cst (.int 3)) .nil)))) (.cons (.not (.isi (.idx (.var 0) (.cst (.int 0))) [.str] true)) .nil)))) (.cons (.ret (.cst .none))
 .nil) .nil)
 (.cons (.ite (.op2 .eq (.bi .len (.cons (.var 0) .nil)) (.cst (.int 2))) (.cons (.ite (.bop false (.cons (.op2 .eq (.idx (.var 0) (.cst (.int 0))) (.cst (.str "fold"))) (.cons (.bop true (.cons (.op2 .eq (.idx (.var 0) (.cst (.int 0))) (.cst (.str "home"))) (.cons (.not (.var 1)) .nil))) .nil))) (.cons (.ret (.call 28 (.cons (.idx (.var 0) (.cst (.int 1))) (.cons (.orT (.var 1) (.op2 .eq (.idx (.var 0) (.cst (.int 0))) (.cst (.str "home")))) .nil))))
 .nil) .nil)
 (.cons (.ret (.cst .none))
 .nil)) .nil)
 (.cons (.par [2, 3] (.cons (.call 28 (.cons (.idx (.var 0) (.cst (.int 1))) (.cons (.var 1) .nil))) (.cons (.call 28 (.cons (.idx (.var 0) (.cst (.int 2))) (.cons (.var 1) .nil))) .nil)))
 (.cons (.ite (.bop false (.cons (.op2 .ne (.idx (.var 0) (.cst (.int 0))) (.cst (.str "join"))) (.cons (.op1 .isN (.var 2)) (.cons (.op1 .isN (.var 3)) .nil)))) (.cons (.ret (.cst .none))
 .nil) .nil)
 (.cons (.ret (.op2 .add (.var 2) (.var 3)))
 .nil))))))
def f28 : Fn := ⟨"_law_tree_of", 2, none, 4, b28⟩
/- 29 _law_is -/
def b29 : Ss := (.cons (.ite (.bop false (.cons (.not (.isi (.var 2) [.tuple] true)) (.cons (.op2 .ne (.bi .len (.cons (.var 2) .nil)) (.cst (.int 2))) (.cons (.not (.isi (.idx (.var 2) (.cst (.int 0))) [.tuple] true)) .nil)))) (.cons (.ret (.cst (.bool false)))
 .nil) .nil)
 (.cons (.ite (.op2 .ne (.comp (.one 4) (.seq (.idx (.var 2) (.cst (.int 0)))) (.yes (.bop false (.cons (.not (.isi (.var 4) [.int] true)) (.cons (.isi (.var 4) [.bool] true) .nil)))) (.var 4)) (.lst .nil)) (.cons (.ret (.cst (.bool false)))
 .nil) .nil)
 (.cons (.ite (.bop false (.cons (.op2 .ne (.bi .list (.cons (.idx (.var 2) (.cst (.int 0))) .nil)) (.bi .sortset (.cons (.idx (.var 2) (.cst (.int 0))) .nil))) (.cons (.op2 .ne (.comp (.one 5) (.seq (.idx (.var 2) (.cst (.int 0)))) (.yes (.op2 .notin (.var 5) (.call 23 (.cons (.var 0) (.cons (.var 1) .nil))))) (.var 5)) (.lst .nil)) .nil))) (.cons (.ret (.cst (.bool false)))
 .nil) .nil)
 (.cons (.asg 3 (.call 28 (.cons (.idx (.var 2) (.cst (.int 1))) (.cons (.cst (.bool false)) .nil))))
 (.cons (.ret (.bop true (.cons (.op1 .notN (.var 3)) (.cons (.op2 .eq (.bi .sorted (.cons (.var 3) .nil)) (.comp (.one 5) (.seq (.idx (.var 1) (.cst (.int 0)))) (.yes (.op2 .notin (.var 5) (.idx (.var 2) (.cst (.int 0))))) (.var 5))) .nil))))
 .nil)))))
def f29 : Fn := ⟨"_law_is", 3, none, 6, b29⟩
/- 30 _law_bent -/
def b30 : Ss := (.cons (.asg 2 (.lst (.cons (.cst (.int 0)) (.cons (.cst (.int 1)) (.cons (.cst (.int 2)) (.cons (.cst (.int 3)) (.cons (.op1 .neg (.cst (.int 1))) (.cons (.cst .none) (.cons (.cst (.bool true)) (.cons (.cst (.bool false)) (.cons (.cst (.str "home")) (.cons (.cst (.str "fold")) (.cons (.cst (.str "join")) (.cons (.cst (.str "")) (.cons (.tup .nil) (.cons (.lst .nil) (.cons (.tup (.cons (.cst (.str "home")) (.cons (.cst (.int 0)) .nil))) (.cons (.tup (.cons (.cst (.str "fold")) (.cons (.cst (.int 1)) .nil))) .nil))))))))))))))))))
 (.cons (.expr (.meth .append 2 (.cons (.tup (.cons (.cst (.str "join")) (.cons (.cst (.int 0)) (.cons (.cst (.int 1)) .nil)))) .nil)))
 (.cons (.ite (.bop false (.cons (.not (.isi (.var 1) [.tuple] true)) (.cons (.op2 .eq (.var 1) (.tup .nil)) (.cons (.op2 .eq (.call 13 (.cons (.var 0) (.cons (.cst (.int 5)) .nil))) (.cst (.int 0))) .nil)))) (.cons (.ret (.call 17 (.cons (.var 0) (.cons (.var 2) .nil))))
 .nil) .nil)
 (.cons (.par [3, 4] (.cons (.call 13 (.cons (.var 0) (.cons (.cst (.int 6)) .nil))) (.cons (.call 13 (.cons (.var 0) (.cons (.bi .len (.cons (.var 1) .nil)) .nil))) .nil)))
 (.cons (.ite (.op2 .eq (.var 3) (.cst (.int 0))) (.cons (.ret (.bi .list (.cons (.var 1) .nil)))
 .nil) .nil)
 (.cons (.ite (.op2 .eq (.var 3) (.cst (.int 1))) (.cons (.ret (.op2 .add (.slc (.var 1) .no (.yes (.var 4))) (.slc (.var 1) (.yes (.op2 .add (.var 4) (.cst (.int 1)))) .no)))
 .nil) .nil)
 (.cons (.ite (.op2 .eq (.var 3) (.cst (.int 2))) (.cons (.ret (.op2 .add (.op2 .add (.slc (.var 1) .no (.yes (.op2 .add (.var 4) (.cst (.int 1))))) (.tup (.cons (.call 17 (.cons (.var 0) (.cons (.var 2) .nil))) .nil))) (.slc (.var 1) (.yes (.op2 .add (.var 4) (.cst (.int 1)))) .no)))
 .nil) .nil)
 (.cons (.ite (.op2 .eq (.var 3) (.cst (.int 3))) (.cons (.ret (.rev (.var 1)))
 .nil) .nil)
 (.cons (.ret (.op2 .add (.op2 .add (.slc (.var 1) .no (.yes (.var 4))) (.tup (.cons (.call 30 (.cons (.var 0) (.cons (.idx (.var 1) (.var 4)) .nil))) .nil))) (.slc (.var 1) (.yes (.op2 .add (.var 4) (.cst (.int 1)))) .no)))
 .nil)))))))))
def f30 : Fn := ⟨"_law_bent", 2, (some 0), 5, b30⟩
/- 31 _law_size -/
def b31 : Ss := (.cons (.asg 1 (.comp (.one 3) (.seq (.call 26 (.cons (.idx (.var 0) (.cst (.int 1))) .nil))) .no (.call 25 (.cons (.var 3) .nil))))
 (.cons (.asg 2 (.bi .len (.cons (.call 25 (.cons (.idx (.var 0) (.cst (.int 1))) .nil)) .nil)))
 (.cons (.ret (.tup (.cons (.var 2) (.cons (.op2 .sub (.op2 .add (.bi .len (.cons (.var 1) .nil)) (.var 2)) (.bi .len (.cons (.bi .sumL (.cons (.var 1) .nil)) .nil))) .nil))))
 .nil)))
def f31 : Fn := ⟨"_law_size", 1, none, 4, b31⟩
/- 32 _law_plan_right -/
def b32 : Ss := (.cons (.asg 3 (.call 16 (.cons (.lst (.cons (.var 0) (.cons (.var 1) (.cons (.var 2) .nil)))) .nil)))
 (.cons (.asg 4 (.bi .tuple (.cons (.bi .sorted (.cons (.comp (.one 6) (.seq (.call 26 (.cons (.idx (.var 2) (.cst (.int 1))) .nil))) .no (.bi .tuple (.cons (.bi .sorted (.cons (.call 25 (.cons (.var 6) .nil)) .nil)) .nil))) .nil)) .nil)))
 (.cons (.asg 5 (.lst (.cons (.call 8 (.cons (.var 0) (.cons (.var 1) (.cons (.var 2) .nil)))) (.cons (.callK 8 [2, 1, 0] (.cons (.var 2) (.cons (.idx (.var 3) (.cst (.int 1))) (.cons (.idx (.var 3) (.cst (.int 0))) .nil)))) .nil))))
 (.cons (.asg 5 (.op2 .add (.var 5) (.lst (.cons (.call 10 (.cons (.var 2) .nil)) (.cons (.callK 10 [0] (.cons (.idx (.var 3) (.cst (.int 2))) .nil)) (.cons (.call 11 (.cons (.var 2) .nil)) (.cons (.callK 11 [0] (.cons (.idx (.var 3) (.cst (.int 2))) .nil)) .nil)))))))
 (.cons (.ret (.call 15 (.cons (.var 5) (.cons (.lst (.cons (.cst (.bool true)) (.cons (.cst (.bool true)) (.cons (.var 4) (.cons (.var 4) (.cons (.call 31 (.cons (.var 2) .nil)) (.cons (.call 31 (.cons (.var 2) .nil)) .nil))))))) .nil))))
 .nil)))))
def f32 : Fn := ⟨"_law_plan_right", 3, none, 7, b32⟩
/- 33 _law_by_hand_right -/
def b33 : Ss := (.cons (.asgT [5, 6, 7, 8, 9] (.call0 27))
 (.cons (.asg 0 (.lst (.cons (.tup (.cons (.tup (.cons (.cst (.int 2)) .nil)) (.cons (.tup (.cons (.cst (.str "home")) (.cons (.tup (.cons (.cst (.str "fold")) (.cons (.tup (.cons (.cst (.str "join")) (.cons (.cst (.int 0)) (.cons (.cst (.int 1)) .nil)))) .nil))) .nil))) .nil))) (.cons (.tup (.cons (.tup .nil) (.cons (.tup (.cons (.cst (.str "join")) (.cons (.tup (.cons (.cst (.str "home")) (.cons (.cst (.int 0)) .nil))) (.cons (.tup (.cons (.cst (.str "join")) (.cons (.cst (.int 2)) (.cons (.tup (.cons (.cst (.str "home")) (.cons (.cst (.int 1)) .nil))) .nil)))) .nil)))) .nil))) .nil))))
 (.cons (.expr (.meth .append 0 (.cons (.tup (.cons (.tup (.cons (.cst (.int 2)) .nil)) (.cons (.tup (.cons (.cst (.str "join")) (.cons (.cst (.int 1)) (.cons (.cst (.int 0)) .nil)))) .nil))) .nil)))
 (.cons (.expr (.meth .append 0 (.cons (.tup (.cons (.tup .nil) (.cons (.tup (.cons (.cst (.str "fold")) (.cons (.tup (.cons (.cst (.str "home")) (.cons (.tup (.cons (.cst (.str "join")) (.cons (.tup (.cons (.cst (.str "fold")) (.cons (.tup (.cons (.cst (.str "join")) (.cons (.cst (.int 2)) (.cons (.cst (.int 0)) .nil)))) .nil))) (.cons (.tup (.cons (.cst (.str "fold")) (.cons (.cst (.int 1)) .nil))) .nil)))) .nil))) .nil))) .nil))) .nil)))
 (.cons (.asg 1 (.lst (.cons (.comp (.one 10) (.seq (.var 0)) .no (.call 8 (.cons (.var 5) (.cons (.var 6) (.cons (.var 10) .nil))))) (.cons (.comp (.one 10) (.seq (.var 0)) .no (.call 10 (.cons (.var 10) .nil))) .nil))))
 (.cons (.expr (.meth .append 1 (.cons (.comp (.one 10) (.seq (.var 0)) .no (.call 11 (.cons (.var 10) .nil))) .nil)))
 (.cons (.asg 2 (.lst (.cons (.rep (.lst (.cons (.cst (.bool true)) .nil)) (.cst (.int 4))) (.cons (.lst (.cons (.tup (.cons (.tup (.cons (.cst (.int 0)) (.cons (.cst (.int 1)) .nil))) .nil)) (.cons (.tup (.cons (.tup (.cons (.cst (.int 0)) .nil)) (.cons (.tup (.cons (.cst (.int 1)) .nil)) .nil))) (.cons (.tup .nil) (.cons (.tup (.cons (.tup (.cons (.cst (.int 0)) (.cons (.cst (.int 1)) (.cons (.cst (.int 2)) .nil)))) .nil)) .nil))))) (.cons (.lst (.cons (.tup (.cons (.cst (.int 2)) (.cons (.cst (.int 1)) .nil))) (.cons (.tup (.cons (.cst (.int 3)) (.cons (.cst (.int 3)) .nil))) (.cons (.tup (.cons (.cst (.int 2)) (.cons (.cst (.int 2)) .nil))) (.cons (.tup (.cons (.cst (.int 3)) (.cons (.cst (.int 1)) .nil))) .nil))))) .nil)))))
 (.cons (.asg 3 (.idx (.var 0) (.cst (.int 0))))
 (.cons (.asg 4 (.lst (.cons (.cst .none) (.cons (.cst (.int 0)) (.cons (.cst (.bool true)) (.cons (.cst (.str "plan")) (.cons (.tup .nil) (.cons (.lst .nil) (.cons (.bi .list (.cons (.var 3) .nil)) (.cons (.tup (.cons (.lst (.cons (.cst (.int 2)) .nil)) (.cons (.idx (.var 3) (.cst (.int 1))) .nil))) (.cons (.tup (.cons (.idx (.var 3) (.cst (.int 0))) (.cons (.bi .list (.cons (.idx (.var 3) (.cst (.int 1))) .nil)) .nil))) .nil)))))))))))
 (.cons (.asg 4 (.op2 .add (.var 4) (.lst (.cons (.op2 .add (.var 3) (.tup (.cons (.tup .nil) .nil))) (.cons (.slc (.var 3) .no (.yes (.cst (.int 1)))) .nil)))))
 (.cons (.asg 4 (.op2 .add (.var 4) (.lst (.cons (.tup (.cons (.tup (.cons (.cst (.int 1)) .nil)) (.cons (.tup (.cons (.cst (.str "join")) (.cons (.cst (.int 0)) (.cons (.cst (.int 2)) .nil)))) .nil))) (.cons (.tup (.cons (.tup (.cons (.cst (.int 0)) .nil)) (.cons (.tup (.cons (.cst (.str "join")) (.cons (.cst (.int 1)) (.cons (.cst (.int 2)) .nil)))) .nil))) (.cons (.tup (.cons (.tup (.cons (.cst (.int 2)) .nil)) (.cons (.cst (.int 0)) .nil))) (.cons (.tup (.cons (.tup (.cons (.cst (.int 2)) .nil)) (.cons (.tup (.cons (.cst (.str "join")) (.cons (.cst (.int 0)) (.cons (.cst (.int 2)) .nil)))) .nil))) .nil)))))))
 (.cons (.expr (.meth .append 4 (.cons (.tup (.cons (.tup .nil) (.cons (.tup (.cons (.cst (.str "join")) (.cons (.cst (.int 0)) (.cons (.cst (.int 1)) .nil)))) .nil))) .nil)))
 (.cons (.asg 4 (.op2 .add (.var 4) (.lst (.cons (.tup (.cons (.tup (.cons (.cst (.int 2)) .nil)) (.cons (.tup (.cons (.cst (.str "join")) (.cons (.cst (.int 0)) (.cons (.tup (.cons (.cst (.str "join")) (.cons (.cst (.int 0)) (.cons (.cst (.int 1)) .nil)))) .nil)))) .nil))) (.cons (.tup (.cons (.tup (.cons (.cst (.int 2)) (.cons (.cst (.int 2)) .nil))) (.cons (.tup (.cons (.cst (.str "join")) (.cons (.cst (.int 0)) (.cons (.cst (.int 1)) .nil)))) .nil))) (.cons (.tup (.cons (.tup (.cons (.cst (.int 3)) .nil)) (.cons (.tup (.cons (.cst (.str "join")) (.cons (.cst (.int 0)) (.cons (.tup (.cons (.cst (.str "join")) (.cons (.cst (.int 1)) (.cons (.cst (.int 2)) .nil)))) .nil)))) .nil))) .nil))))))
 (.cons (.asg 4 (.op2 .add (.var 4) (.lst (.cons (.tup (.cons (.tup (.cons (.op1 .neg (.cst (.int 1))) .nil)) (.cons (.tup (.cons (.cst (.str "join")) (.cons (.cst (.int 0)) (.cons (.tup (.cons (.cst (.str "join")) (.cons (.cst (.int 1)) (.cons (.cst (.int 2)) .nil)))) .nil)))) .nil))) (.cons (.tup (.cons (.tup (.cons (.cst (.bool true)) .nil)) (.cons (.tup (.cons (.cst (.str "join")) (.cons (.cst (.int 0)) (.cons (.cst (.int 2)) .nil)))) .nil))) .nil)))))
 (.cons (.expr (.meth .append 4 (.cons (.tup (.cons (.tup (.cons (.cst (.int 2)) .nil)) (.cons (.tup (.cons (.cst (.str "home")) (.cons (.tup (.cons (.cst (.str "join")) (.cons (.cst (.int 0)) (.cons (.tup (.cons (.cst (.str "home")) (.cons (.cst (.int 1)) .nil))) .nil)))) .nil))) .nil))) .nil)))
 (.cons (.asg 4 (.op2 .add (.var 4) (.lst (.cons (.tup (.cons (.tup (.cons (.cst (.int 2)) .nil)) (.cons (.tup (.cons (.cst (.str "home")) (.cons (.tup (.cons (.cst (.str "fold")) (.cons (.tup (.cons (.cst (.str "home")) (.cons (.tup (.cons (.cst (.str "join")) (.cons (.cst (.int 0)) (.cons (.cst (.int 1)) .nil)))) .nil))) .nil))) .nil))) .nil))) (.cons (.tup (.cons (.tup (.cons (.cst (.int 2)) .nil)) (.cons (.tup (.cons (.cst (.str "fold")) (.cons (.cst (.int 0)) (.cons (.cst (.int 1)) .nil)))) .nil))) .nil)))))
 (.cons (.expr (.meth .append 4 (.cons (.tup (.cons (.tup (.cons (.cst (.int 2)) .nil)) (.cons (.tup (.cons (.cst (.str "join")) (.cons (.tup (.cons (.cst (.str "join")) (.cons (.cst (.int 0)) (.cons (.cst (.int 1)) .nil)))) .nil))) .nil))) .nil)))
 (.cons (.asg 4 (.op2 .add (.var 4) (.lst (.cons (.tup (.cons (.tup (.cons (.cst (.int 2)) .nil)) (.cons (.tup (.cons (.cst (.str "Join")) (.cons (.cst (.int 0)) (.cons (.cst (.int 1)) .nil)))) .nil))) (.cons (.tup (.cons (.tup (.cons (.cst (.int 2)) .nil)) (.cons (.tup (.cons (.cst (.str "join")) (.cons (.cst (.int 0)) (.cons (.cst (.bool true)) .nil)))) .nil))) (.cons (.tup (.cons (.tup (.cons (.cst (.int 2)) .nil)) (.cons (.tup (.cons (.cst (.str "join")) (.cons (.cst (.int 0)) (.cons (.cst (.str "1")) .nil)))) .nil))) (.cons (.tup (.cons (.tup (.cons (.cst (.int 2)) .nil)) (.cons (.tup (.cons (.cst (.int 0)) (.cons (.cst (.int 1)) .nil))) .nil))) .nil)))))))
 (.cons (.expr (.meth .append 4 (.cons (.tup (.cons (.tup (.cons (.cst (.int 2)) .nil)) (.cons (.tup (.cons (.cst (.str "home")) .nil)) .nil))) .nil)))
 (.cons (.asg 4 (.op2 .add (.var 4) (.lst (.cons (.tup (.cons (.tup (.cons (.cst (.int 2)) .nil)) (.cons (.tup (.cons (.cst (.str "join")) (.cons (.cst (.int 0)) (.cons (.cst .none) .nil)))) .nil))) (.cons (.tup (.cons (.tup (.cons (.cst (.int 2)) .nil)) (.cons (.tup (.cons (.cst (.str "join")) (.cons (.cst (.int 0)) (.cons (.lst (.cons (.cst (.int 1)) .nil)) .nil)))) .nil))) (.cons (.tup (.cons (.tup (.cons (.cst (.int 2)) .nil)) (.cons (.tup (.cons (.cst (.str "join")) (.cons (.cst (.int 0)) (.cons (.tup (.cons (.cst (.int 1)) .nil)) .nil)))) .nil))) .nil))))))
 (.cons (.expr (.meth .append 4 (.cons (.tup (.cons (.tup (.cons (.cst .none) .nil)) (.cons (.tup (.cons (.cst (.str "join")) (.cons (.cst (.int 0)) (.cons (.cst (.int 1)) .nil)))) .nil))) .nil)))
 (.cons (.expr (.meth .append 1 (.cons (.comp (.one 10) (.seq (.var 4)) .no (.call 8 (.cons (.var 5) (.cons (.var 6) (.cons (.var 10) .nil))))) .nil)))
 (.cons (.expr (.meth .append 2 (.cons (.rep (.lst (.cons (.cst (.bool false)) .nil)) (.cst (.int 34))) .nil)))
 (.cons (.ite (.bop false (.cons (.not (.call 15 (.cons (.var 1) (.cons (.var 2) .nil)))) (.cons (.not (.call0 34)) .nil))) (.cons (.ret (.cst (.bool false)))
 .nil) .nil)
 (.cons (.ret (.bi .all (.cons (.comp (.one 10) (.seq (.var 0)) .no (.call 32 (.cons (.var 5) (.cons (.var 6) (.cons (.var 10) .nil))))) .nil)))
 .nil)))))))))))))))))))))))))
def f33 : Fn := ⟨"_law_by_hand_right", 0, none, 11, b33⟩
/- 34 _law_more_right -/
def b34 : Ss := (.cons (.par [3, 4] (.cons (.lst .nil) (.cons (.lst .nil) .nil)))
 (.cons (.asg 0 (.bi .tuple (.cons (.comp (.one 5) (.seq (.cst (.str "wbza"))) .no (.tup (.cons (.tup (.cons (.var 5) .nil)) (.cons (.tup .nil) (.cons (.tup .nil) (.cons (.tup .nil) .nil)))))) .nil)))
 (.cons (.asg 1 (.tup (.cons (.tup (.cons (.cst (.int 0)) (.cons (.cst (.int 1)) (.cons (.cst (.int 2)) (.cons (.cst (.int 3)) .nil))))) (.cons (.tup (.cons (.tup (.cons (.cst (.str "a")) (.cons (.cst (.str "b")) .nil))) .nil)) (.cons (.tup (.cons (.cst (.str "w")) .nil)) .nil)))))
 (.cons (.asg 2 (.tup (.cons (.cst (.str "fold")) (.cons (.tup (.cons (.cst (.str "join")) (.cons (.tup (.cons (.cst (.str "home")) (.cons (.tup (.cons (.cst (.str "join")) (.cons (.cst (.int 3)) (.cons (.cst (.int 1)) .nil)))) .nil))) (.cons (.tup (.cons (.cst (.str "fold")) (.cons (.tup (.cons (.cst (.str "join")) (.cons (.tup (.cons (.cst (.str "home")) (.cons (.cst (.int 2)) .nil))) (.cons (.cst (.int 0)) .nil)))) .nil))) .nil)))) .nil))))
 (.cons (.asg 3 (.op2 .add (.var 3) (.lst (.cons (.call 8 (.cons (.var 0) (.cons (.var 1) (.cons (.tup (.cons (.tup .nil) (.cons (.var 2) .nil))) .nil)))) (.cons (.call 10 (.cons (.tup (.cons (.tup .nil) (.cons (.var 2) .nil))) .nil)) (.cons (.call 11 (.cons (.tup (.cons (.tup .nil) (.cons (.var 2) .nil))) .nil)) .nil))))))
 (.cons (.expr (.meth .append 3 (.cons (.call 8 (.cons (.var 0) (.cons (.var 1) (.cons (.tup (.cons (.tup (.cons (.cst (.int 1)) (.cons (.cst (.int 2)) (.cons (.cst (.int 3)) .nil)))) (.cons (.cst (.int 0)) .nil))) .nil)))) .nil)))
 (.cons (.expr (.meth .append 3 (.cons (.call 8 (.cons (.var 0) (.cons (.var 1) (.cons (.tup (.cons (.tup (.cons (.cst (.int 1)) (.cons (.cst (.int 3)) .nil))) (.cons (.tup (.cons (.cst (.str "home")) (.cons (.tup (.cons (.cst (.str "join")) (.cons (.cst (.int 2)) (.cons (.cst (.int 0)) .nil)))) .nil))) .nil))) .nil)))) .nil)))
 (.cons (.expr (.meth .append 3 (.cons (.call 8 (.cons (.var 0) (.cons (.tup (.cons (.tup (.cons (.cst (.int 0)) .nil)) (.cons (.tup .nil) (.cons (.tup .nil) .nil)))) (.cons (.tup (.cons (.tup .nil) (.cons (.cst (.int 0)) .nil))) .nil)))) .nil)))
 (.cons (.expr (.meth .append 3 (.cons (.call 8 (.cons (.var 0) (.cons (.tup (.cons (.tup (.cons (.cst (.int 0)) (.cons (.cst (.int 2)) .nil))) (.cons (.tup .nil) (.cons (.tup .nil) .nil)))) (.cons (.tup (.cons (.tup (.cons (.cst (.int 1)) .nil)) (.cons (.tup (.cons (.cst (.str "join")) (.cons (.cst (.int 0)) (.cons (.cst (.int 2)) .nil)))) .nil))) .nil)))) .nil)))
 (.cons (.asg 4 (.op2 .add (.var 4) (.lst (.cons (.cst (.bool true)) (.cons (.tup (.cons (.tup (.cons (.cst (.int 1)) (.cons (.cst (.int 3)) .nil))) (.cons (.tup (.cons (.cst (.int 2)) .nil)) .nil))) (.cons (.tup (.cons (.cst (.int 4)) (.cons (.cst (.int 3)) .nil))) (.cons (.cst (.bool true)) (.cons (.cst (.bool true)) (.cons (.cst (.bool true)) (.cons (.cst (.bool false)) .nil))))))))))
 (.cons (.ret (.call 15 (.cons (.var 3) (.cons (.var 4) .nil))))
 .nil)))))))))))
def f34 : Fn := ⟨"_law_more_right", 0, none, 6, b34⟩
/- 35 _law_right -/
def b35 : Ss := (.cons (.for_ (.one 1) (.range1 (.cst (.int 4))) (.cons (.asg 2 (.call 20 (.cons (.var 0) (.cons (.cst (.int 3)) .nil))))
 (.cons (.asg 3 (.call 21 (.cons (.var 0) (.cons (.var 2) .nil))))
 (.cons (.asg 4 (.call 24 (.cons (.var 0) (.cons (.var 2) (.cons (.var 3) .nil)))))
 (.cons (.ite (.not (.call 32 (.cons (.var 2) (.cons (.var 3) (.cons (.var 4) .nil))))) (.cons (.ret (.cst (.bool false)))
 .nil) .nil)
 (.cons (.for_ (.one 5) (.range1 (.cst (.int 8))) (.cons (.asg 6 (.call 30 (.cons (.var 0) (.cons (.var 4) .nil))))
 (.cons (.ite (.not (.call 15 (.cons (.call 8 (.cons (.var 2) (.cons (.var 3) (.cons (.var 6) .nil)))) (.cons (.call 29 (.cons (.var 2) (.cons (.var 3) (.cons (.var 6) .nil)))) .nil)))) (.cons (.ret (.cst (.bool false)))
 .nil) .nil)
 .nil)))
 .nil))))))
 (.cons (.ret (.cst (.bool true)))
 .nil))
def f35 : Fn := ⟨"_law_right", 1, (some 0), 7, b35⟩
/- 36 law -/
def b36 : Ss := (.cons (.ite (.not (.call0 33)) (.cons (.ret (.cst (.bool false)))
 .nil) .nil)
 (.cons (.asg 1 (.call 14 (.cons (.var 0) (.cons (.cst (.int 3)) .nil))))
 (.cons (.ret (.bi .all (.cons (.comp (.one 2) (.range1 (.bi .len (.cons (.var 1) .nil))) .no (.call 35 (.cons (.call 12 (.cons (.var 1) (.cons (.var 2) .nil))) .nil))) .nil)))
 .nil)))
def f36 : Fn := ⟨"law", 1, none, 3, b36⟩
def T : List Fn := [f0, f1, f2, f3, f4, f5, f6, f7, f8, f9, f10, f11, f12, f13, f14, f15, f16, f17, f18, f19, f20, f21, f22, f23, f24, f25, f26, f27, f28, f29, f30, f31, f32, f33, f34, f35, f36]
/- W := (8, ["thing", "question", "schema"], [2, 1, 0]), (10, ["plan"], [0]), (11, ["plan"], [0]) -/
def F : Nat → Option Fn := fun i => T[i]?
end K21

set_option linter.all false
set_option maxRecDepth 100000
set_option Elab.async false
namespace K21
open PySem EV
theorem cr0 (cl : Nat → List D → FRes) (es : Es) (ρ : Ro) (k : W × Ro → Prop) : Ok (EV.ev F cl (.call 0 es) ρ) k = Ok (EV.evCA F cl es none ρ) fun p => Ok (callE f0 (cl 0) p.1 p.2) k := e_call0 F cl 0 es ρ k
theorem cr1 (cl : Nat → List D → FRes) (es : Es) (ρ : Ro) (k : W × Ro → Prop) : Ok (EV.ev F cl (.call 1 es) ρ) k = Ok (EV.evCA F cl es none ρ) fun p => Ok (callE f1 (cl 1) p.1 p.2) k := e_call0 F cl 1 es ρ k
theorem cr2 (cl : Nat → List D → FRes) (es : Es) (ρ : Ro) (k : W × Ro → Prop) : Ok (EV.ev F cl (.call 2 es) ρ) k = Ok (EV.evCA F cl es none ρ) fun p => Ok (callE f2 (cl 2) p.1 p.2) k := e_call0 F cl 2 es ρ k
theorem cr3 (cl : Nat → List D → FRes) (es : Es) (ρ : Ro) (k : W × Ro → Prop) : Ok (EV.ev F cl (.call 3 es) ρ) k = Ok (EV.evCA F cl es none ρ) fun p => Ok (callE f3 (cl 3) p.1 p.2) k := e_call0 F cl 3 es ρ k
theorem cr4 (cl : Nat → List D → FRes) (es : Es) (ρ : Ro) (k : W × Ro → Prop) : Ok (EV.ev F cl (.call 4 es) ρ) k = Ok (EV.evCA F cl es none ρ) fun p => Ok (callE f4 (cl 4) p.1 p.2) k := e_call0 F cl 4 es ρ k
theorem cr5 (cl : Nat → List D → FRes) (es : Es) (ρ : Ro) (k : W × Ro → Prop) : Ok (EV.ev F cl (.call 5 es) ρ) k = Ok (EV.evCA F cl es none ρ) fun p => Ok (callE f5 (cl 5) p.1 p.2) k := e_call0 F cl 5 es ρ k
theorem cr6 (cl : Nat → List D → FRes) (es : Es) (ρ : Ro) (k : W × Ro → Prop) : Ok (EV.ev F cl (.call 6 es) ρ) k = Ok (EV.evCA F cl es none ρ) fun p => Ok (callE f6 (cl 6) p.1 p.2) k := e_call0 F cl 6 es ρ k
theorem cr7 (cl : Nat → List D → FRes) (es : Es) (ρ : Ro) (k : W × Ro → Prop) : Ok (EV.ev F cl (.call 7 es) ρ) k = Ok (EV.evCA F cl es none ρ) fun p => Ok (callE f7 (cl 7) p.1 p.2) k := e_call0 F cl 7 es ρ k
theorem cr8 (cl : Nat → List D → FRes) (es : Es) (ρ : Ro) (k : W × Ro → Prop) : Ok (EV.ev F cl (.call 8 es) ρ) k = Ok (EV.evCA F cl es none ρ) fun p => Ok (callE f8 (cl 8) p.1 p.2) k := e_call0 F cl 8 es ρ k
theorem cr9 (cl : Nat → List D → FRes) (es : Es) (ρ : Ro) (k : W × Ro → Prop) : Ok (EV.ev F cl (.call 9 es) ρ) k = Ok (EV.evCA F cl es none ρ) fun p => Ok (callE f9 (cl 9) p.1 p.2) k := e_call0 F cl 9 es ρ k
theorem cr10 (cl : Nat → List D → FRes) (es : Es) (ρ : Ro) (k : W × Ro → Prop) : Ok (EV.ev F cl (.call 10 es) ρ) k = Ok (EV.evCA F cl es none ρ) fun p => Ok (callE f10 (cl 10) p.1 p.2) k := e_call0 F cl 10 es ρ k
theorem cr11 (cl : Nat → List D → FRes) (es : Es) (ρ : Ro) (k : W × Ro → Prop) : Ok (EV.ev F cl (.call 11 es) ρ) k = Ok (EV.evCA F cl es none ρ) fun p => Ok (callE f11 (cl 11) p.1 p.2) k := e_call0 F cl 11 es ρ k
theorem cr12 (cl : Nat → List D → FRes) (es : Es) (ρ : Ro) (k : W × Ro → Prop) : Ok (EV.ev F cl (.call 12 es) ρ) k = Ok (EV.evCA F cl es none ρ) fun p => Ok (callE f12 (cl 12) p.1 p.2) k := e_call0 F cl 12 es ρ k
theorem cr13 (cl : Nat → List D → FRes) (es : Es) (ρ : Ro) (k : W × Ro → Prop) : Ok (EV.ev F cl (.call 13 es) ρ) k = Ok (EV.evCA F cl es (some 0) ρ) fun p => Ok (callE f13 (cl 13) p.1 p.2) k := e_call0 F cl 13 es ρ k
theorem cr14 (cl : Nat → List D → FRes) (es : Es) (ρ : Ro) (k : W × Ro → Prop) : Ok (EV.ev F cl (.call 14 es) ρ) k = Ok (EV.evCA F cl es none ρ) fun p => Ok (callE f14 (cl 14) p.1 p.2) k := e_call0 F cl 14 es ρ k
theorem cr15 (cl : Nat → List D → FRes) (es : Es) (ρ : Ro) (k : W × Ro → Prop) : Ok (EV.ev F cl (.call 15 es) ρ) k = Ok (EV.evCA F cl es none ρ) fun p => Ok (callE f15 (cl 15) p.1 p.2) k := e_call0 F cl 15 es ρ k
theorem cr16 (cl : Nat → List D → FRes) (es : Es) (ρ : Ro) (k : W × Ro → Prop) : Ok (EV.ev F cl (.call 16 es) ρ) k = Ok (EV.evCA F cl es none ρ) fun p => Ok (callE f16 (cl 16) p.1 p.2) k := e_call0 F cl 16 es ρ k
theorem cr17 (cl : Nat → List D → FRes) (es : Es) (ρ : Ro) (k : W × Ro → Prop) : Ok (EV.ev F cl (.call 17 es) ρ) k = Ok (EV.evCA F cl es (some 0) ρ) fun p => Ok (callE f17 (cl 17) p.1 p.2) k := e_call0 F cl 17 es ρ k
theorem cr18 (cl : Nat → List D → FRes) (es : Es) (ρ : Ro) (k : W × Ro → Prop) : Ok (EV.ev F cl (.call 18 es) ρ) k = Ok (EV.evCA F cl es (some 0) ρ) fun p => Ok (callE f18 (cl 18) p.1 p.2) k := e_call0 F cl 18 es ρ k
theorem cr19 (cl : Nat → List D → FRes) (es : Es) (ρ : Ro) (k : W × Ro → Prop) : Ok (EV.ev F cl (.call 19 es) ρ) k = Ok (EV.evCA F cl es none ρ) fun p => Ok (callE f19 (cl 19) p.1 p.2) k := e_call0 F cl 19 es ρ k
theorem cr20 (cl : Nat → List D → FRes) (es : Es) (ρ : Ro) (k : W × Ro → Prop) : Ok (EV.ev F cl (.call 20 es) ρ) k = Ok (EV.evCA F cl es (some 0) ρ) fun p => Ok (callE f20 (cl 20) p.1 p.2) k := e_call0 F cl 20 es ρ k
theorem cr21 (cl : Nat → List D → FRes) (es : Es) (ρ : Ro) (k : W × Ro → Prop) : Ok (EV.ev F cl (.call 21 es) ρ) k = Ok (EV.evCA F cl es (some 0) ρ) fun p => Ok (callE f21 (cl 21) p.1 p.2) k := e_call0 F cl 21 es ρ k
theorem cr22 (cl : Nat → List D → FRes) (es : Es) (ρ : Ro) (k : W × Ro → Prop) : Ok (EV.ev F cl (.call 22 es) ρ) k = Ok (EV.evCA F cl es (some 0) ρ) fun p => Ok (callE f22 (cl 22) p.1 p.2) k := e_call0 F cl 22 es ρ k
theorem cr23 (cl : Nat → List D → FRes) (es : Es) (ρ : Ro) (k : W × Ro → Prop) : Ok (EV.ev F cl (.call 23 es) ρ) k = Ok (EV.evCA F cl es none ρ) fun p => Ok (callE f23 (cl 23) p.1 p.2) k := e_call0 F cl 23 es ρ k
theorem cr24 (cl : Nat → List D → FRes) (es : Es) (ρ : Ro) (k : W × Ro → Prop) : Ok (EV.ev F cl (.call 24 es) ρ) k = Ok (EV.evCA F cl es (some 0) ρ) fun p => Ok (callE f24 (cl 24) p.1 p.2) k := e_call0 F cl 24 es ρ k
theorem cr25 (cl : Nat → List D → FRes) (es : Es) (ρ : Ro) (k : W × Ro → Prop) : Ok (EV.ev F cl (.call 25 es) ρ) k = Ok (EV.evCA F cl es none ρ) fun p => Ok (callE f25 (cl 25) p.1 p.2) k := e_call0 F cl 25 es ρ k
theorem cr26 (cl : Nat → List D → FRes) (es : Es) (ρ : Ro) (k : W × Ro → Prop) : Ok (EV.ev F cl (.call 26 es) ρ) k = Ok (EV.evCA F cl es none ρ) fun p => Ok (callE f26 (cl 26) p.1 p.2) k := e_call0 F cl 26 es ρ k
theorem cr27 (cl : Nat → List D → FRes) (es : Es) (ρ : Ro) (k : W × Ro → Prop) : Ok (EV.ev F cl (.call 27 es) ρ) k = Ok (EV.evCA F cl es none ρ) fun p => Ok (callE f27 (cl 27) p.1 p.2) k := e_call0 F cl 27 es ρ k
theorem cr28 (cl : Nat → List D → FRes) (es : Es) (ρ : Ro) (k : W × Ro → Prop) : Ok (EV.ev F cl (.call 28 es) ρ) k = Ok (EV.evCA F cl es none ρ) fun p => Ok (callE f28 (cl 28) p.1 p.2) k := e_call0 F cl 28 es ρ k
theorem cr29 (cl : Nat → List D → FRes) (es : Es) (ρ : Ro) (k : W × Ro → Prop) : Ok (EV.ev F cl (.call 29 es) ρ) k = Ok (EV.evCA F cl es none ρ) fun p => Ok (callE f29 (cl 29) p.1 p.2) k := e_call0 F cl 29 es ρ k
theorem cr30 (cl : Nat → List D → FRes) (es : Es) (ρ : Ro) (k : W × Ro → Prop) : Ok (EV.ev F cl (.call 30 es) ρ) k = Ok (EV.evCA F cl es (some 0) ρ) fun p => Ok (callE f30 (cl 30) p.1 p.2) k := e_call0 F cl 30 es ρ k
theorem cr31 (cl : Nat → List D → FRes) (es : Es) (ρ : Ro) (k : W × Ro → Prop) : Ok (EV.ev F cl (.call 31 es) ρ) k = Ok (EV.evCA F cl es none ρ) fun p => Ok (callE f31 (cl 31) p.1 p.2) k := e_call0 F cl 31 es ρ k
theorem cr32 (cl : Nat → List D → FRes) (es : Es) (ρ : Ro) (k : W × Ro → Prop) : Ok (EV.ev F cl (.call 32 es) ρ) k = Ok (EV.evCA F cl es none ρ) fun p => Ok (callE f32 (cl 32) p.1 p.2) k := e_call0 F cl 32 es ρ k
theorem cr33 (cl : Nat → List D → FRes) (es : Es) (ρ : Ro) (k : W × Ro → Prop) : Ok (EV.ev F cl (.call 33 es) ρ) k = Ok (EV.evCA F cl es none ρ) fun p => Ok (callE f33 (cl 33) p.1 p.2) k := e_call0 F cl 33 es ρ k
theorem cr34 (cl : Nat → List D → FRes) (es : Es) (ρ : Ro) (k : W × Ro → Prop) : Ok (EV.ev F cl (.call 34 es) ρ) k = Ok (EV.evCA F cl es none ρ) fun p => Ok (callE f34 (cl 34) p.1 p.2) k := e_call0 F cl 34 es ρ k
theorem cr35 (cl : Nat → List D → FRes) (es : Es) (ρ : Ro) (k : W × Ro → Prop) : Ok (EV.ev F cl (.call 35 es) ρ) k = Ok (EV.evCA F cl es (some 0) ρ) fun p => Ok (callE f35 (cl 35) p.1 p.2) k := e_call0 F cl 35 es ρ k
theorem cr36 (cl : Nat → List D → FRes) (es : Es) (ρ : Ro) (k : W × Ro → Prop) : Ok (EV.ev F cl (.call 36 es) ρ) k = Ok (EV.evCA F cl es none ρ) fun p => Ok (callE f36 (cl 36) p.1 p.2) k := e_call0 F cl 36 es ρ k
end K21

local macro_rules | `(tactic| and_intros) => `(tactic| ((try dsimp only); (try simp only [↓K21.cr0, ↓K21.cr1, ↓K21.cr2, ↓K21.cr3, ↓K21.cr4, ↓K21.cr5, ↓K21.cr6, ↓K21.cr7, ↓K21.cr8, ↓K21.cr9, ↓K21.cr10, ↓K21.cr11, ↓K21.cr12, ↓K21.cr13, ↓K21.cr14, ↓K21.cr15, ↓K21.cr16, ↓K21.cr17, ↓K21.cr18, ↓K21.cr19, ↓K21.cr20, ↓K21.cr21, ↓K21.cr22, ↓K21.cr23, ↓K21.cr24, ↓K21.cr25, ↓K21.cr26, ↓K21.cr27, ↓K21.cr28, ↓K21.cr29, ↓K21.cr30, ↓K21.cr31, ↓K21.cr32, ↓K21.cr33, ↓K21.cr34, ↓K21.cr35, ↓K21.cr36, ↓EV.om_some, ↓EV.ok_ofM, ↓EV.og_s, ↓EV.og_dat, ↓EV.og_own, ↓EV.og_io, ↓EV.ol_s, ↓EV.ol_dat, ↓EV.ol_own, ↓EV.os_s, ↓EV.os_nd, ↓EV.os_nn, ↓EV.os_dd, ↓EV.os_dn, ↓EV.os_od, ↓EV.os_on, ↓EV.or_slot, ↓EV.or_dat, ↓EV.or_new, ↓EV.ors_nil, ↓EV.ors_cons, ↓EV.ow_dat, ↓EV.ow_new, ↓EV.ob_bool, ↓EV.oi_true, ↓EV.oi_false, ↓EV.oz0, ↓EV.oz1, ↓EV.oz2, ↓EV.oz3, ↓EV.oz4, ↓EV.oz5, ↓EV.oz6, ↓EV.oz7, ↓EV.oz8, ↓EV.oz9, ↓EV.oz10, ↓EV.oz11, ↓EV.oz12, ↓EV.oz13, ↓EV.oz14, ↓EV.oz15, ↓EV.oz16, ↓EV.oz17, ↓EV.oz18, ↓EV.oz19, ↓EV.oz20, ↓EV.oz21, ↓EV.oz22, ↓EV.oz23, ↓EV.oz24, ↓EV.oz25, ↓EV.oz26, ↓EV.oz27, ↓EV.oz28, ↓EV.oz29, ↓EV.oz30, ↓EV.oz31, ↓EV.oz32, ↓EV.oz33, ↓EV.oz34, ↓EV.oz35, ↓EV.oz36, ↓EV.oz37, ↓EV.oz38, ↓EV.oz39, ↓EV.e_var, ↓EV.e_cst, ↓EV.e_glo, ↓EV.e_op2, ↓EV.e_op1, ↓EV.e_bop, ↓EV.e_bop1, ↓EV.e_bopT, ↓EV.e_bopF, ↓EV.e_not, ↓EV.on_t, ↓EV.on_f, ↓EV.e_ite, ↓EV.e_orT, ↓EV.e_tup, ↓EV.e_lst, ↓EV.e_idx, ↓EV.e_slc, ↓EV.e_rev, ↓EV.e_bi, ↓EV.e_isi, ↓EV.e_rep,  ↓EV.e_calz, ↓EV.e_comp, ↓EV.e_meth, ↓EV.oo_s, ↓EV.oo_z, ↓EV.l_nil, ↓EV.l_cons, ↓EV.a_nil, ↓EV.a_cons, ↓EV.c_nil, ↓EV.c_cons0, ↓EV.c_consN, ↓EV.i_no, ↓EV.i_yes, ↓EV.cc_no, ↓EV.cc_yes, ↓EV.t_test, ↓EV.t_dat, ↓EV.it_seq, ↓EV.it_r1, ↓EV.it_r2, ↓EV.it_dn, ↓EV.it_en, ↓EV.it_zp, ↓EV.bk_one, ↓EV.bk_many, ↓EV.bk_two, ↓EV.bk_z, ↓EV.bk_s, ↓EV.pi_none, ↓EV.pi_io, ↓EV.pi_own, ↓EV.bnd_one, ↓EV.bnd_many, ↓EV.m_app, ↓EV.m_s, ↓EV.m_pop0, ↓EV.p_var, ↓EV.pd_var, ↓EV.p_cst, ↓EV.pd_cst, ↓EV.p_op2, ↓EV.pd_op2, ↓EV.p_op1, ↓EV.pd_op1, ↓EV.p_chain, ↓EV.pd_chain, ↓EV.p_bop, ↓EV.pd_bop, ↓EV.p_not, ↓EV.pd_not, ↓EV.p_orT, ↓EV.pd_orT, ↓EV.p_ite, ↓EV.pd_ite, ↓EV.p_tup, ↓EV.pd_tup, ↓EV.p_lst, ↓EV.pd_lst, ↓EV.p_idx, ↓EV.pd_idx, ↓EV.p_slc, ↓EV.pd_slc, ↓EV.p_call, ↓EV.pd_call, ↓EV.p_bi, ↓EV.pd_bi, ↓EV.p_rep, ↓EV.pd_rep, ↓EV.p_isi, ↓EV.pd_isi, ↓EV.p_comp, ↓EV.pd_comp, ↓EV.p_comp2, ↓EV.pd_comp2, ↓EV.p_meth, ↓EV.pd_meth, ↓EV.p_rev, ↓EV.pd_rev, ↓EV.p_glo, ↓EV.pd_glo, ↓EV.p_call0, ↓EV.pd_call0, ↓EV.p_callK, ↓EV.pd_callK, ↓EV.s_nil, ↓EV.s_asg, ↓EV.s_asgT, ↓EV.ot_tup, ↓EV.oss_nil, ↓EV.oss_cons, ↓EV.s_par, ↓EV.osw_nil, ↓EV.osw_cons, ↓EV.ws_nil, ↓EV.ws_cons, ↓EV.s_sub, ↓EV.ols_s, ↓EV.ols_own, ↓EV.ols_io, ↓EV.ou_s, ↓EV.ou_own, ↓EV.ou_io, ↓EV.ox_s, ↓EV.ox_z, ↓EV.s_expr, ↓EV.s_ret, ↓EV.s_retN, ↓EV.s_ite, ↓EV.s_for, ↓EV.kn_next, ↓EV.kn_ret, ↓EV.rt_var, ↓EV.ort_s, ↓EV.ort_dat, ↓EV.ort_own, ↓EV.rt_cst, ↓EV.rt_op2, ↓EV.rt_op1, ↓EV.rt_chain, ↓EV.rt_bop, ↓EV.rt_not, ↓EV.rt_orT, ↓EV.rt_ite, ↓EV.rt_tup, ↓EV.rt_lst, ↓EV.rt_idx, ↓EV.rt_slc, ↓EV.rt_call, ↓EV.rt_bi, ↓EV.rt_rep, ↓EV.rt_isi, ↓EV.rt_comp, ↓EV.rt_comp2, ↓EV.rt_meth, ↓EV.rt_rev, ↓EV.rt_glo, ↓EV.rt_call0, ↓EV.rt_callK, ↓EV.fin_ret, ↓EV.fin_next, ↓EV.oe_none, ↓EV.oe_z, ↓EV.d_add, ↓EV.d_sub, ↓EV.d_le, ↓EV.d_gt, ↓EV.d_ge, ↓EV.d_mod, ↓EV.d_fdiv, ↓EV.d_mul, ↓EV.d_addL, ↓EV.d_addT, ↓EV.d_lt, ↓EV.d_p18, ↓EV.d_eqI, ↓EV.d_neI, ↓EV.d_eqS, ↓EV.d_neS, ↓EV.d_eqBB, ↓EV.d_neBB, ↓EV.oi_self, ↓EV.d_inL, ↓EV.d_inT, ↓EV.d_niL, ↓EV.d_niT, ↓EV.d_neg, ↓EV.d_truB, ↓EV.d_truL, ↓EV.d_isN, ↓EV.d_notN, ↓EV.d_lenL, ↓EV.d_lenT, ↓EV.d_abs, ↓EV.d_intI, ↓EV.d_intB, ↓EV.d_listL, ↓EV.d_listT, ↓EV.d_listS, ↓EV.d_tupL, ↓EV.d_tupT, ↓EV.d_sort, ↓EV.d_ssL, ↓EV.d_ssT, ↓EV.d_slL, ↓EV.d_slT, ↓EV.d_rvT, ↓EV.d_rvL, ↓EV.d_ixL, ↓EV.d_ixT, ↓EV.d_at0, ↓EV.d_ix0, ↓EV.d_at1, ↓EV.d_ix1, ↓EV.d_at2, ↓EV.d_ix2, ↓EV.d_at3, ↓EV.d_ix3, ↓EV.d_int, ↓EV.d_seqL, ↓EV.d_seqT, ↓EV.d_itL, ↓EV.d_itT, ↓EV.d_zL, ↓EV.d_zT, ↓EV.d_r1, ↓EV.d_r2, ↓EV.d_rD, ↓EV.h_int_dict, ↓EV.h_int_int, ↓EV.h_int_bool, ↓EV.h_int_str, ↓EV.h_int_list, ↓EV.h_int_tuple, ↓EV.h_int_none, ↓EV.h_bool_dict, ↓EV.h_bool_int, ↓EV.h_bool_bool, ↓EV.h_bool_str, ↓EV.h_bool_list, ↓EV.h_bool_tuple, ↓EV.h_bool_none, ↓EV.h_str_dict, ↓EV.h_str_int, ↓EV.h_str_bool, ↓EV.h_str_str, ↓EV.h_str_list, ↓EV.h_str_tuple, ↓EV.h_str_none, ↓EV.h_list_dict, ↓EV.h_list_int, ↓EV.h_list_bool, ↓EV.h_list_str, ↓EV.h_list_list, ↓EV.h_list_tuple, ↓EV.h_list_none, ↓EV.h_tuple_dict, ↓EV.h_tuple_int, ↓EV.h_tuple_bool, ↓EV.h_tuple_str, ↓EV.h_tuple_list, ↓EV.h_tuple_tuple, ↓EV.h_tuple_none, ↓EV.h_lt_int, ↓EV.h_bs_int, ↓EV.h_lt_bool, ↓EV.h_bs_bool, ↓EV.h_lt_str, ↓EV.h_bs_str, ↓EV.h_lt_list, ↓EV.h_bs_list, ↓EV.h_lt_tuple, ↓EV.h_bs_tuple, ↓EV.h_lt_dict, ↓EV.h_bs_dict, ↓EV.h_lt_none, ↓EV.h_bs_none, ↓EV.d_rep, ↓EV.ln_0_0, ↓EV.nl_0_0, ↓EV.ln_0_1, ↓EV.nl_0_1, ↓EV.ln_0_2, ↓EV.nl_0_2, ↓EV.ln_0_3, ↓EV.nl_0_3, ↓EV.n23_0, ↓EV.ln_1_0, ↓EV.nl_1_0, ↓EV.ln_1_1, ↓EV.nl_1_1, ↓EV.ln_1_2, ↓EV.nl_1_2, ↓EV.ln_1_3, ↓EV.nl_1_3, ↓EV.n23_1, ↓EV.ln_2_0, ↓EV.nl_2_0, ↓EV.ln_2_1, ↓EV.nl_2_1, ↓EV.ln_2_2, ↓EV.nl_2_2, ↓EV.ln_2_3, ↓EV.nl_2_3, ↓EV.n23_2, ↓EV.ln_3_0, ↓EV.nl_3_0, ↓EV.ln_3_1, ↓EV.nl_3_1, ↓EV.ln_3_2, ↓EV.nl_3_2, ↓EV.ln_3_3, ↓EV.nl_3_3, ↓EV.n23_3, ↓EV.ln_4_0, ↓EV.nl_4_0, ↓EV.ln_4_1, ↓EV.nl_4_1, ↓EV.ln_4_2, ↓EV.nl_4_2, ↓EV.ln_4_3, ↓EV.nl_4_3, ↓EV.n23_4, ↓EV.lit_0_0, ↓EV.lit_0_1, ↓EV.lit_0_2, ↓EV.lit_0_3, ↓EV.lit_1_0, ↓EV.lit_1_1, ↓EV.lit_1_2, ↓EV.lit_1_3, ↓EV.lit_2_0, ↓EV.lit_2_1, ↓EV.lit_2_2, ↓EV.lit_2_3, ↓EV.lit_3_0, ↓EV.lit_3_1, ↓EV.lit_3_2, ↓EV.lit_3_3])))
set_option linter.all false
set_option maxRecDepth 100000
set_option Elab.async false
namespace K21
open PySem EV
/-- the law's box: at most m numbers were drawn of its second kind -/
def Bx (m : Nat) (b : List D) : Prop := ∃ a c n : Int, b = [.int a, .int c, .int n] ∧ 0 ≤ c ∧ c < 2 ^ 62 ∧ 0 ≤ n ∧ n ≤ m
theorem Bx.mono {m m' : Nat} {b : List D} (h : Bx m b) (hm : m ≤ m') : Bx m' b := by
  obtain ⟨a, c, n, h1, h2, h3, h4, h5⟩ := h
  exact ⟨a, c, n, h1, h2, h3, h4, by omega⟩
theorem take_ok {m : Nat} {b : List D} {j : Int} (hb : Bx m b) (hm : m < 2 ^ 40) (hj : 0 < j) (hj2 : j < 1000) :
    Run F 1 13 [.list b, .int j] fun w io => ∃ (k : Int) (b' : List D), w = .dat (.int k) ∧ io = some b' ∧ Bx (m + 1) b' ∧ 0 ≤ k ∧ k < j := by
  obtain ⟨a, c, n, rfl, h2, h3, h4, h5⟩ := hb
  refine Run.of (fn := f13) rfl rfl rfl fun N hN => ?_
  show Ok (EV.execs F (callN F N) b13 [some (.io [.int a, .int c, .int n]), some (.dat (.int j)), none, none, none, none]) (Fin (some 0) _)
  unfold b13
  and_intros
  refine ⟨fun h => ?_, fun h => ?_⟩
  · exact ⟨hj, ⟨hj, by omega⟩, _, _, rfl, rfl, ⟨_, _, _, rfl, h2, h3, h4, by omega⟩, Int.emod_nonneg _ (by omega), Int.emod_lt_of_pos _ hj⟩
  · refine ⟨by simp [small64], ?_, by decide, by decide, by decide, ?_, by decide, by simp [small64], by decide, by decide, hj, _, _, rfl, rfl, ⟨_, _, _, rfl, h2, h3, by omega, by omega⟩, Int.emod_nonneg _ (by omega), Int.emod_lt_of_pos _ hj⟩
    · simp only [small64, Bool.or_eq_true, Bool.and_eq_true, decide_eq_true_eq]
      left; constructor <;> omega
    · simp only [small64, Bool.or_eq_true, Bool.and_eq_true, decide_eq_true_eq]
      right; constructor <;> omega
theorem om_atI (cs : List Int) (k : Nat) (hk : k < cs.length) (K : D → Prop) : OM (atD (cs.map .int) k) K = K (.int (cs[k])) := by
  refine atD_k _ k _ K ?_ (by simpa using hk)
  simp [hk]
theorem small_b2i (b : Bool) : small64 (b2i b) = true := by cases b <;> decide
/-- the box made of a number -/
theorem box_ok (cs : List Int) (k : Nat) (hk : k < 100) : Run F 1 12 [.list (cs.map .int), .int k] fun w io => ∃ b, w = .new b ∧ io = none ∧ Bx 0 b := by
  refine Run.of (fn := f12) rfl rfl rfl fun N hN => ?_
  show Ok (EV.execs F (callN F N) b12 [some (.dat (.list (cs.map .int))), some (.dat (.int k)), none]) (Fin none _)
  unfold b12
  and_intros
  refine ⟨fun h => ?_, fun h => ?_⟩
  · have h := of_decide_eq_true h
    rw [List.length_map] at h
    rw [om_atI cs k (by omega)]
    and_intros
    refine ⟨by rw [Bool.or_eq_true]; exact .inr (small_b2i _), by decide, by simp [small64], _, rfl, trivial, _, _, _, rfl, ?_, ?_, by omega, by omega⟩
    · have := Int.emod_nonneg (cs[k]'(by omega)) (b := 2305843009213693951) (by decide); omega
    · have := Int.emod_lt_of_pos (cs[k]'(by omega)) (b := 2305843009213693951) (by decide); omega
  · refine ⟨by rw [Bool.or_eq_true]; exact .inr (small_b2i _), by decide, by simp [small64], _, rfl, trivial, _, _, _, rfl, ?_, ?_, by omega, by omega⟩ <;> omega
def isNum : D → Bool
  | .int _ => true
  | _ => false
theorem is_number_ok (d : D) : Run F 1 0 [d] fun w io => w = .dat (.bool (isNum d)) ∧ io = none := by
  refine Run.of (fn := f0) rfl rfl rfl fun N hN => ?_
  show Ok (EV.execs F (callN F N) b0 [some (.dat d)]) (Fin none _)
  unfold b0
  cases d with
  | _ => and_intros; exact ⟨rfl, trivial⟩
end K21

set_option linter.all false
set_option maxRecDepth 100000
set_option Elab.async false
namespace K21
open PySem EV
/-! ### comprehensions over plain slots -/
theorem wipe_nil (ρ : Ro) : wipeR ρ [] = ρ := rfl

mutual
def tupD : D → D
  | .list xs => .tuple (tupDs xs)
  | .tuple xs => .tuple (tupDs xs)
  | d => d
def tupDs : List D → List D
  | [] => []
  | x :: xs => tupD x :: tupDs xs
end
mutual
def lisD : D → D
  | .list xs => .list (lisDs xs)
  | .tuple xs => .list (lisDs xs)
  | d => d
def lisDs : List D → List D
  | [] => []
  | x :: xs => lisD x :: lisDs xs
end
theorem tupDs_map : ∀ xs : List D, tupDs xs = xs.map tupD
  | [] => rfl
  | x :: xs => by rw [tupDs, tupDs_map xs]; rfl
theorem lisDs_map : ∀ xs : List D, lisDs xs = xs.map lisD
  | [] => rfl
  | x :: xs => by rw [lisDs, lisDs_map xs]; rfl
theorem depth_mem {x : D} : ∀ {xs : List D}, x ∈ xs → x.depth ≤ PyData.depthAll xs
  | y :: ys, h => by
    rw [PyData.depthAll]
    rcases List.mem_cons.mp h with q | q
    · subst q; omega
    · have := depth_mem q; omega
theorem fm_some {α β : Type} (f : α → β) : ∀ xs : List α, xs.filterMap (fun x => some (f x)) = xs.map f
  | [] => rfl
  | x :: xs => by simp [fm_some f xs]
theorem tupled_ok : ∀ (n : Nat) (d : D), d.depth ≤ n → Run F (n + 1) 1 [d] fun w io => w = .dat (tupD d) ∧ io = none := by
  intro n
  induction n with
  | zero =>
    intro d hd
    refine Run.of (fn := f1) rfl rfl rfl fun N hN => ?_
    show Ok (EV.execs F (callN F N) b1 [some (.dat d), none]) (Fin none _)
    unfold b1
    cases d with
    | list xs => rw [PyData.depth] at hd; omega
    | tuple xs => rw [PyData.depth] at hd; omega
    | dict xs => rw [PyData.depth] at hd; omega
    | _ => and_intros; exact ⟨rfl, trivial⟩
  | succ n ih =>
    intro d hd
    refine Run.of (fn := f1) rfl rfl rfl fun N hN => ?_
    show Ok (EV.execs F (callN F N) b1 [some (.dat d), none]) (Fin none _)
    unfold b1
    have main : ∀ (e : D) (xs : List D), (∀ x ∈ xs, x.depth ≤ n) → Ok (compL (bindT (.one 1)) (EV.evC F (callN F N) .no) (datOf (EV.ev F (callN F N) (.call 1 (.cons (.var 1) .nil)))) [1] xs [some (.dat e), none] []) fun q => q = (xs.map tupD, [some (.dat e), none]) := by
      intro e xs hx
      refine comp_pure _ (fun x => some (tupD x)) _ _ (fun x hm => ?_) (by rw [fm_some]; rfl)
      and_intros
      refine call_ok rfl rfl rfl (ih x (hx x hm) N hN) ?_
      rintro w r ⟨rfl, rfl⟩
      and_intros
      exact ⟨rfl, trivial⟩
    cases d with
    | list xs =>
      rw [PyData.depth] at hd
      and_intros
      refine Ok.mono (main _ xs fun x hx => by have := depth_mem hx; omega) ?_
      rintro q rfl
      and_intros
      exact ⟨by rw [tupD, tupDs_map], trivial⟩
    | tuple xs =>
      rw [PyData.depth] at hd
      and_intros
      refine Ok.mono (main _ xs fun x hx => by have := depth_mem hx; omega) ?_
      rintro q rfl
      and_intros
      exact ⟨by rw [tupD, tupDs_map], trivial⟩
    | dict xs => and_intros; exact ⟨rfl, trivial⟩
    | _ => and_intros; exact ⟨rfl, trivial⟩
end K21

set_option linter.all false
set_option maxRecDepth 100000
set_option Elab.async false
namespace K21
open PySem EV
theorem lists_ok : ∀ (n : Nat) (d : D), d.depth ≤ n → Run F (n + 1) 16 [d] fun w io => w.d = lisD d ∧ io = none := by
  intro n
  induction n with
  | zero =>
    intro d hd
    refine Run.of (fn := f16) rfl rfl rfl fun N hN => ?_
    show Ok (EV.execs F (callN F N) b16 [some (.dat d), none]) (Fin none _)
    unfold b16
    cases d with
    | list xs => rw [PyData.depth] at hd; omega
    | tuple xs => rw [PyData.depth] at hd; omega
    | dict xs => rw [PyData.depth] at hd; omega
    | _ => and_intros; exact ⟨rfl, trivial⟩
  | succ n ih =>
    intro d hd
    refine Run.of (fn := f16) rfl rfl rfl fun N hN => ?_
    show Ok (EV.execs F (callN F N) b16 [some (.dat d), none]) (Fin none _)
    unfold b16
    have main : ∀ (e : D) (xs : List D), (∀ x ∈ xs, x.depth ≤ n) → Ok (compL (bindT (.one 1)) (EV.evC F (callN F N) .no) (datOf (EV.ev F (callN F N) (.call 16 (.cons (.var 1) .nil)))) [1] xs [some (.dat e), none] []) fun q => q = (xs.map lisD, [some (.dat e), none]) := by
      intro e xs hx
      refine comp_pure _ (fun x => some (lisD x)) _ _ (fun x hm => ?_) (by rw [fm_some]; rfl)
      and_intros
      refine call_ok rfl rfl rfl (ih x (hx x hm) N hN) ?_
      rintro w r ⟨hw, rfl⟩
      and_intros
      exact ⟨rfl, congrArg some hw.symm⟩
    cases d with
    | list xs =>
      rw [PyData.depth] at hd
      and_intros
      refine Ok.mono (main _ xs fun x hx => by have := depth_mem hx; omega) ?_
      rintro q rfl
      and_intros
      exact ⟨by rw [lisD, lisDs_map]; rfl, trivial⟩
    | tuple xs =>
      rw [PyData.depth] at hd
      and_intros
      refine Ok.mono (main _ xs fun x hx => by have := depth_mem hx; omega) ?_
      rintro q rfl
      and_intros
      exact ⟨by rw [lisD, lisDs_map]; rfl, trivial⟩
    | dict xs => and_intros; exact ⟨rfl, trivial⟩
    | _ => and_intros; exact ⟨rfl, trivial⟩
/-! ### trees -/
def sFold : Str := "fold"
def sHome : Str := "home"
def sJoin : Str := "join"
/-- the sheets under a tree, None if it is none -/
def und : Nat → D → Bool → Option (List Int)
  | 0, _, _ => none
  | _ + 1, .int i, _ => some [i]
  | n + 1, .tuple [.str s, a], h => if s = sFold ∨ (s = sHome ∧ h = false) then und n a (h || decide (s = sHome)) else none
  | n + 1, .tuple [.str s, a, b], h => if s = sJoin then (und n a h).bind fun x => (und n b h).map fun y => x ++ y else none
  | _, _, _ => none
def undW : Option (List Int) → W
  | none => .dat .none
  | some l => .new (l.map .int)
theorem und_len : ∀ (n : Nat) (d : D) (h : Bool) (l : List Int), und n d h = some l → l.length ≤ 2 ^ n
  | 0, _, _, _, e => nomatch e
  | n + 1, d, h, l, e => by
    have p : 2 ^ n + 2 ^ n = 2 ^ (n + 1) := by rw [Nat.pow_succ]; omega
    have p1 : 1 ≤ 2 ^ n := Nat.one_le_two_pow
    unfold und at e
    split at e
    · cases e
    · cases e; simp only [List.length_singleton]; omega
    · split at e
      · have := und_len _ _ _ _ e; simp_all; omega
      · cases e
    · split at e
      · simp only [Option.bind_eq_some_iff, Option.map_eq_some_iff] at e
        obtain ⟨x, h1, y, h2, rfl⟩ := e
        have a1 := und_len _ _ _ _ h1
        have a2 := und_len _ _ _ _ h2
        simp_all; omega
      · cases e
    · cases e
end K21

set_option linter.all false
set_option maxRecDepth 100000
set_option Elab.async false
namespace K21
open PySem EV
theorem lay_mem {x : D} : ∀ {xs : List D}, PyData.canLayAll0 xs = true → x ∈ xs → x.canLay0 = true
  | y :: ys, h, m => by
    rw [PyData.canLayAll0, Bool.and_eq_true] at h
    rcases List.mem_cons.mp m with q | q
    · subst q; exact h.1
    · exact lay_mem h.2 q
theorem lay_tup {xs : List D} (h : (PyData.tuple xs).canLay0 = true) : ∀ x ∈ xs, x.canLay0 = true := by
  rw [PyData.canLay0] at h
  exact fun x hx => lay_mem h hx
theorem lay_str {s : Str} (h : (PyData.str s).canLay0 = true) : PyData.strOk s = true := by
  rw [PyData.canLay0] at h
  exact h
theorem strOk_fold : PyData.strOk "fold" = true := by decide +kernel
theorem strOk_home : PyData.strOk "home" = true := by decide +kernel
theorem strOk_join : PyData.strOk "join" = true := by decide +kernel
theorem und_tup_ne {n : Nat} {xs : List D} {h : Bool} (h1 : ∀ s a, xs ≠ [.str s, a]) (h2 : ∀ s a b, xs ≠ [.str s, a, b]) : und n (.tuple xs) h = none := by
  cases n with
  | zero => rfl
  | succ n =>
    unfold und
    split
    · rfl
    · rename_i q; cases q
    · rename_i q; cases q; exact absurd rfl (h1 _ _)
    · rename_i q; cases q; exact absurd rfl (h2 _ _ _)
    · rfl
theorem und_other {n : Nat} {d : D} {h : Bool} (h1 : isNum d = false) (h2 : ∀ xs, d ≠ .tuple xs) : und n d h = none := by
  cases n with
  | zero => rfl
  | succ n =>
    cases d with
    | int i => cases h1
    | tuple xs => exact absurd rfl (h2 xs)
    | _ => rfl
theorem sheets_ok : ∀ (n : Nat) (d : D) (h : Bool), d.depth ≤ n → n ≤ 20 → d.canLay0 = true → Run F (n + 2) 6 [d, .bool h] fun w io => w = undW (und (n + 1) d h) ∧ io = none := by
  intro n
  induction n with
  | zero =>
    intro d h hd _ hl
    refine Run.of (fn := f6) rfl rfl rfl fun N hN => ?_
    show Ok (EV.execs F (callN F N) b6 [some (.dat d), some (.dat (.bool h)), none, none]) (Fin none _)
    unfold b6
    and_intros
    refine call_ok rfl rfl rfl (is_number_ok d N hN) ?_
    rintro w r ⟨rfl, rfl⟩
    cases d with
    | list xs => rw [PyData.depth] at hd; omega
    | tuple xs => rw [PyData.depth] at hd; omega
    | dict xs => rw [PyData.depth] at hd; omega
    | int i => simp only [isNum]; and_intros; (first | exact ⟨rfl, trivial⟩ | exact ⟨trivial, trivial⟩ | exact ⟨rfl, rfl⟩ | trivial)
    | _ => simp only [isNum]; and_intros; (first | exact ⟨rfl, trivial⟩ | exact ⟨trivial, trivial⟩ | exact ⟨rfl, rfl⟩ | trivial)
  | succ n ih =>
    intro d h hd hn hl
    refine Run.of (fn := f6) rfl rfl rfl fun N hN => ?_
    show Ok (EV.execs F (callN F N) b6 [some (.dat d), some (.dat (.bool h)), none, none]) (Fin none _)
    unfold b6
    and_intros
    refine call_ok rfl rfl rfl (is_number_ok d N (by omega)) ?_
    rintro w r ⟨rfl, rfl⟩
    cases d with
    | int i => simp only [isNum]; and_intros; (first | exact ⟨rfl, trivial⟩ | exact ⟨trivial, trivial⟩ | exact ⟨rfl, rfl⟩ | trivial)
    | tuple xs =>
      rw [PyData.depth] at hd
      have dm : ∀ x ∈ xs, x.depth ≤ n := fun x hx => by have := depth_mem hx; omega
      have hm := lay_tup hl
      simp only [isNum]
      match xs with
      | [] => and_intros; (first | exact ⟨rfl, trivial⟩ | exact ⟨trivial, trivial⟩ | exact ⟨rfl, rfl⟩ | trivial)
      | [x] =>
        and_intros
        rw [und_tup_ne (by simp) (by simp)]
        cases x with
        | str s => and_intros; (first | exact ⟨rfl, trivial⟩ | exact ⟨trivial, trivial⟩ | exact ⟨rfl, rfl⟩ | trivial)
        | _ => and_intros; (first | exact ⟨rfl, trivial⟩ | exact ⟨trivial, trivial⟩ | exact ⟨rfl, rfl⟩ | trivial)
      | [x, a] =>
        and_intros
        cases x with
        | str s =>
          have hs := lay_str (hm _ List.mem_cons_self)
          have ha := hm a (by simp)
          have e : und (n + 1 + 1) (.tuple [.str s, a]) h = if s = sFold ∨ (s = sHome ∧ h = false) then und (n + 1) a (h || decide (s = sHome)) else none := rfl
          rw [e]
          and_intros
          simp only [hs, strOk_fold, strOk_home, Bool.and_self, true_and]
          have rc : ∀ (g g' : Bool) (o : Option (List Int)) (ρ : Ro), g = g' → o = und (n + 1) a g' → Ok (callE f6 (callN F N 6) [Opd.val (.dat a), Opd.val (.dat (.bool g))] ρ) fun p => p.1 = undW o ∧ True := by
            rintro g g' o ρ rfl rfl
            refine call_ok rfl rfl rfl (ih a g (dm a (by simp)) (by omega) ha N hN) ?_
            rintro w r ⟨rfl, rfl⟩
            and_intros
            (first | exact ⟨rfl, trivial⟩ | exact ⟨trivial, trivial⟩ | exact ⟨rfl, rfl⟩ | trivial)
          refine ⟨fun c1 => ?_, fun c1 => ⟨fun c2 => ?_, fun c2 => ?_⟩⟩
          · have e1 : s = sFold := of_decide_eq_true c1
            have e2 : decide (s = sHome) = false := by rw [e1]; decide
            rw [if_pos (.inl e1), e2, Bool.or_false]
            exact ⟨fun eh => rc _ _ _ _ rfl rfl, fun eh => rc _ _ _ _ (by rw [eh]; exact e2) rfl⟩
          · have e1 : s = sHome := of_decide_eq_true c2
            cases h with
            | true =>
              rw [if_neg (fun z => z.elim (fun z => absurd (e1.symm.trans z) (by decide)) (fun z => nomatch z.2))]
              and_intros; (first | exact ⟨rfl, trivial⟩ | exact ⟨trivial, trivial⟩ | exact ⟨rfl, rfl⟩ | trivial)
            | false =>
              and_intros
              rw [if_pos (.inr ⟨e1, trivial⟩)]
              exact rc _ _ _ _ rfl (by rw [Bool.false_or]; rfl)
          · have n1 : s ≠ sFold := of_decide_eq_false c1
            have n2 : s ≠ sHome := of_decide_eq_false c2
            rw [if_neg (fun z => z.elim (fun z => n1 z) (fun z => n2 z.1))]
            (first | exact ⟨rfl, trivial⟩ | exact ⟨trivial, trivial⟩ | exact ⟨rfl, rfl⟩ | trivial)
        | _ => and_intros; rw [und_tup_ne (by simp) (by simp)]; (first | exact ⟨rfl, trivial⟩ | exact ⟨trivial, trivial⟩ | exact ⟨rfl, rfl⟩ | trivial)
      | [x, a, b] =>
        and_intros
        cases x with
        | str s =>
          have hs := lay_str (hm _ List.mem_cons_self)
          have ha := hm a (by simp)
          have hb := hm b (by simp)
          have e : und (n + 1 + 1) (.tuple [.str s, a, b]) h = if s = sJoin then (und (n + 1) a h).bind fun x => (und (n + 1) b h).map fun y => x ++ y else none := rfl
          rw [e]
          and_intros
          simp only [hs, strOk_join, Bool.and_self, true_and]
          refine ⟨fun c => ?_, fun c => ?_⟩
          · have c : s ≠ sJoin := by simpa [sJoin] using c
            rw [if_neg c]; (first | exact ⟨rfl, trivial⟩ | exact ⟨trivial, trivial⟩ | exact ⟨rfl, rfl⟩ | trivial)
          · have c : s = sJoin := by simpa [sJoin] using c
            rw [if_pos c]
            refine call_ok rfl rfl rfl (ih a h (dm a (by simp)) (by omega) ha N hN) ?_
            rintro w r ⟨rfl, rfl⟩
            and_intros
            refine call_ok rfl rfl rfl (ih b h (dm b (by simp)) (by omega) hb N hN) ?_
            rintro w r ⟨rfl, rfl⟩
            cases e1 : und (n + 1) a h with
            | none =>
              simp only [undW]
              cases e2 : und (n + 1) b h with
              | none => simp only [undW]; and_intros; simp only [isNone]; and_intros; (first | exact ⟨rfl, trivial⟩ | exact ⟨trivial, trivial⟩ | exact ⟨rfl, rfl⟩ | trivial)
              | some y => simp only [undW]; and_intros; simp only [isNone]; and_intros; (first | exact ⟨rfl, trivial⟩ | exact ⟨trivial, trivial⟩ | exact ⟨rfl, rfl⟩ | trivial)
            | some x =>
              simp only [undW]
              cases e2 : und (n + 1) b h with
              | none => simp only [undW]; and_intros; simp only [isNone]; and_intros; (first | exact ⟨rfl, trivial⟩ | exact ⟨trivial, trivial⟩ | exact ⟨rfl, rfl⟩ | trivial)
              | some y =>
                simp only [undW]; and_intros; simp only [isNone]; and_intros
                have l1 := und_len _ _ _ _ e1
                have l2 := und_len _ _ _ _ e2
                have l3 : 2 ^ (n + 1) ≤ 2 ^ 20 := Nat.pow_le_pow_right (by omega) (by omega)
                refine ⟨by rw [List.length_map, List.length_map, sizeLine_eq]; omega, ?_, trivial⟩
                simp [Option.bind, Option.map]
        | _ => and_intros; rw [und_tup_ne (by simp) (by simp)]; (first | exact ⟨rfl, trivial⟩ | exact ⟨trivial, trivial⟩ | exact ⟨rfl, rfl⟩ | trivial)
      | x :: y :: z :: u :: r =>
        and_intros
        rw [und_tup_ne (by simp) (by simp)]
        cases x with
        | str s => and_intros; (first | exact ⟨rfl, trivial⟩ | exact ⟨trivial, trivial⟩ | exact ⟨rfl, rfl⟩ | trivial)
        | _ => and_intros; (first | exact ⟨rfl, trivial⟩ | exact ⟨trivial, trivial⟩ | exact ⟨rfl, rfl⟩ | trivial)
    | _ => simp only [isNum]; and_intros; (first | exact ⟨rfl, trivial⟩ | exact ⟨trivial, trivial⟩ | exact ⟨rfl, rfl⟩ | trivial)
end K21

set_option linter.all false
set_option maxRecDepth 100000
set_option Elab.async false
namespace K21
open PySem EV
theorem tree_of_ok : ∀ (n : Nat) (d : D) (h : Bool), d.depth ≤ n → n ≤ 20 → d.canLay0 = true → Run F (n + 2) 28 [d, .bool h] fun w io => w = undW (und (n + 1) d h) ∧ io = none := by
  intro n
  induction n with
  | zero =>
    intro d h hd _ hl
    refine Run.of (fn := f28) rfl rfl rfl fun N hN => ?_
    show Ok (EV.execs F (callN F N) b28 [some (.dat d), some (.dat (.bool h)), none, none]) (Fin none _)
    unfold b28
    and_intros
    cases d with
    | list xs => rw [PyData.depth] at hd; omega
    | tuple xs => rw [PyData.depth] at hd; omega
    | dict xs => rw [PyData.depth] at hd; omega
    | int i => and_intros; (first | exact ⟨rfl, trivial⟩ | exact ⟨trivial, trivial⟩ | exact ⟨rfl, rfl⟩ | trivial)
    | _ => and_intros; (first | exact ⟨rfl, trivial⟩ | exact ⟨trivial, trivial⟩ | exact ⟨rfl, rfl⟩ | trivial)
  | succ n ih =>
    intro d h hd hn hl
    refine Run.of (fn := f28) rfl rfl rfl fun N hN => ?_
    show Ok (EV.execs F (callN F N) b28 [some (.dat d), some (.dat (.bool h)), none, none]) (Fin none _)
    unfold b28
    and_intros
    cases d with
    | int i => and_intros; (first | exact ⟨rfl, trivial⟩ | exact ⟨trivial, trivial⟩ | exact ⟨rfl, rfl⟩ | trivial)
    | tuple xs =>
      rw [PyData.depth] at hd
      have dm : ∀ x ∈ xs, x.depth ≤ n := fun x hx => by have := depth_mem hx; omega
      have hm := lay_tup hl
      match xs with
      | [] => and_intros; first | (first | exact ⟨rfl, trivial⟩ | exact ⟨trivial, trivial⟩ | exact ⟨rfl, rfl⟩ | trivial) | exact ⟨rfl, rfl, trivial⟩ | exact ⟨rfl, trivial, trivial⟩
      | [x] =>
        and_intros
        rw [und_tup_ne (by simp) (by simp)]
        cases x with
        | str s => (try and_intros); first | (first | exact ⟨rfl, trivial⟩ | exact ⟨trivial, trivial⟩ | exact ⟨rfl, rfl⟩ | trivial) | exact ⟨rfl, rfl, trivial⟩ | exact ⟨rfl, trivial, trivial⟩
        | _ => (try and_intros); first | (first | exact ⟨rfl, trivial⟩ | exact ⟨trivial, trivial⟩ | exact ⟨rfl, rfl⟩ | trivial) | exact ⟨rfl, rfl, trivial⟩ | exact ⟨rfl, trivial, trivial⟩
      | [x, a] =>
        and_intros
        cases x with
        | str s =>
          have hs := lay_str (hm _ List.mem_cons_self)
          have ha := hm a (by simp)
          have e : und (n + 1 + 1) (.tuple [.str s, a]) h = if s = sFold ∨ (s = sHome ∧ h = false) then und (n + 1) a (h || decide (s = sHome)) else none := rfl
          rw [e]
          try and_intros
          refine ⟨rfl, ?_⟩
          simp only [hs, strOk_fold, strOk_home, Bool.and_self, true_and]
          have rc : ∀ (g g' : Bool) (o : Option (List Int)) (ρ : Ro), g = g' → o = und (n + 1) a g' → Ok (callE f28 (callN F N 28) [Opd.val (.dat a), Opd.val (.dat (.bool g))] ρ) fun p => p.1 = undW o ∧ True := by
            rintro g g' o ρ rfl rfl
            refine call_ok rfl rfl rfl (ih a g (dm a (by simp)) (by omega) ha N hN) ?_
            rintro w r ⟨rfl, rfl⟩
            and_intros
            (first | exact ⟨rfl, trivial⟩ | exact ⟨trivial, trivial⟩ | exact ⟨rfl, rfl⟩ | trivial)
          refine ⟨fun c1 => ?_, fun c1 => ⟨fun c2 => ?_, fun c2 => ?_⟩⟩
          · have e1 : s = sFold := of_decide_eq_true c1
            have e2 : decide (s = sHome) = false := by rw [e1]; decide
            rw [if_pos (.inl e1), e2, Bool.or_false]
            exact ⟨fun eh => rc _ _ _ _ rfl rfl, fun eh => rc _ _ _ _ (by rw [eh]; exact e2) rfl⟩
          · have e1 : s = sHome := of_decide_eq_true c2
            cases h with
            | true =>
              rw [if_neg (fun z => z.elim (fun z => absurd (e1.symm.trans z) (by decide)) (fun z => nomatch z.2))]
              and_intros; (first | exact ⟨rfl, trivial⟩ | exact ⟨trivial, trivial⟩ | exact ⟨rfl, rfl⟩ | trivial)
            | false =>
              and_intros
              rw [if_pos (.inr ⟨e1, trivial⟩)]
              exact rc _ _ _ _ rfl (by rw [Bool.false_or]; rfl)
          · have n1 : s ≠ sFold := of_decide_eq_false c1
            have n2 : s ≠ sHome := of_decide_eq_false c2
            rw [if_neg (fun z => z.elim (fun z => n1 z) (fun z => n2 z.1))]
            (first | exact ⟨rfl, trivial⟩ | exact ⟨trivial, trivial⟩ | exact ⟨rfl, rfl⟩ | trivial)
        | _ => (try and_intros); rw [und_tup_ne (by simp) (by simp)]; first | (first | exact ⟨rfl, trivial⟩ | exact ⟨trivial, trivial⟩ | exact ⟨rfl, rfl⟩ | trivial) | exact ⟨rfl, rfl, trivial⟩ | exact ⟨rfl, trivial, trivial⟩
      | [x, a, b] =>
        and_intros
        cases x with
        | str s =>
          have hs := lay_str (hm _ List.mem_cons_self)
          have ha := hm a (by simp)
          have hb := hm b (by simp)
          have e : und (n + 1 + 1) (.tuple [.str s, a, b]) h = if s = sJoin then (und (n + 1) a h).bind fun x => (und (n + 1) b h).map fun y => x ++ y else none := rfl
          rw [e]
          try and_intros
          refine ⟨rfl, ?_⟩
          refine call_ok rfl rfl rfl (ih a h (dm a (by simp)) (by omega) ha N hN) ?_
          rintro w r ⟨rfl, rfl⟩
          and_intros
          refine call_ok rfl rfl rfl (ih b h (dm b (by simp)) (by omega) hb N hN) ?_
          rintro w r ⟨rfl, rfl⟩
          cases e1 : und (n + 1) a h with
          | none =>
            simp only [undW]
            cases e2 : und (n + 1) b h with
            | none => simp only [undW]; and_intros; simp only [hs, strOk_join, Bool.and_self, true_and, isNone]; and_intros; exact ⟨fun _ => by simp [undW], fun _ => by simp [undW]⟩
            | some y => simp only [undW]; and_intros; simp only [hs, strOk_join, Bool.and_self, true_and, isNone]; and_intros; exact ⟨fun _ => by simp [undW], fun _ => by simp [undW]⟩
          | some x =>
            simp only [undW]
            cases e2 : und (n + 1) b h with
            | none => simp only [undW]; and_intros; simp only [hs, strOk_join, Bool.and_self, true_and, isNone]; and_intros; exact ⟨fun _ => by simp [undW], fun _ => by simp [undW]⟩
            | some y =>
              simp only [undW]; and_intros; simp only [hs, strOk_join, Bool.and_self, true_and, isNone]; and_intros
              have l1 := und_len _ _ _ _ e1
              have l2 := und_len _ _ _ _ e2
              have l3 : 2 ^ (n + 1) ≤ 2 ^ 20 := Nat.pow_le_pow_right (by omega) (by omega)
              refine ⟨fun c => ?_, fun c => ?_⟩
              · have c : s ≠ sJoin := by simpa [sJoin] using c
                rw [if_neg c]; (first | exact ⟨rfl, trivial⟩ | exact ⟨trivial, trivial⟩ | exact ⟨rfl, rfl⟩ | trivial)
              · have c : s = sJoin := by simpa [sJoin] using c
                rw [if_pos c]
                refine ⟨by rw [List.length_map, List.length_map, sizeLine_eq]; omega, ?_, trivial⟩
                simp [Option.bind, Option.map]
        | _ => (try and_intros); rw [und_tup_ne (by simp) (by simp)]; first | (first | exact ⟨rfl, trivial⟩ | exact ⟨trivial, trivial⟩ | exact ⟨rfl, rfl⟩ | trivial) | exact ⟨rfl, rfl, trivial⟩ | exact ⟨rfl, trivial, trivial⟩
      | x :: y :: z :: u :: r =>
        and_intros
        rw [und_tup_ne (by simp) (by simp)]
        cases x with
        | str s => (try and_intros); first | (first | exact ⟨rfl, trivial⟩ | exact ⟨trivial, trivial⟩ | exact ⟨rfl, rfl⟩ | trivial) | exact ⟨rfl, rfl, trivial⟩ | exact ⟨rfl, trivial, trivial⟩
        | _ => (try and_intros); first | (first | exact ⟨rfl, trivial⟩ | exact ⟨trivial, trivial⟩ | exact ⟨rfl, rfl⟩ | trivial) | exact ⟨rfl, rfl, trivial⟩ | exact ⟨rfl, trivial, trivial⟩
    | _ => and_intros; (first | exact ⟨rfl, trivial⟩ | exact ⟨trivial, trivial⟩ | exact ⟨rfl, rfl⟩ | trivial)
end K21

set_option linter.all false
set_option maxRecDepth 100000
set_option Elab.async false
namespace EV
open PySem
theorem comp_map {α : Type} {bnd : D → Ro → Option Ro} {test : Ro → Res (Bool × Ro)} {elt : Ro → Res (D × Ro)} {is : List Nat} {k : List D × Ro → Prop} (φ : α → D) (ρ0 : Ro) (g : α → Option D) : ∀ (ys : List α) (acc : List D),
    (∀ y ∈ ys, OM (bnd (φ y) ρ0) fun ρ1 => Ok (test ρ1) fun p => OI p.1 (Ok (elt p.2) fun q => wipeR q.2 is = ρ0 ∧ g y = some q.1) (wipeR p.2 is = ρ0 ∧ g y = none)) → k (acc ++ ys.filterMap g, ρ0) → Ok (compL bnd test elt is (ys.map φ) ρ0 acc) k
  | [], acc, _, hk => by rw [List.filterMap_nil, List.append_nil] at hk; exact hk
  | y :: ys, acc, hs, hk => by
    have q := hs y List.mem_cons_self
    have tl := fun acc' hk' => comp_map (bnd := bnd) (test := test) (elt := elt) (is := is) (k := k) φ ρ0 g ys acc' (fun z hz => hs z (List.mem_cons_of_mem _ hz)) hk'
    show Ok ((Res.of (bnd (φ y) ρ0)).bind _) k
    rw [ok_bind, ok_ofM0]
    cases hb : bnd (φ y) ρ0 with
    | none => rw [hb] at q; exact q
    | some ρ1 =>
      rw [hb] at q
      show Ok ((noExc (test ρ1)).bind _) k
      rw [ok_bind, ok_noExc]
      refine Ok.mono q fun p hp => ?_
      rw [ok_if]
      refine ⟨fun e => ?_, fun e => ?_⟩
      · rw [ok_bind, ok_noExc]
        refine Ok.mono (hp.1 e) fun q hq => ?_
        rw [hq.1]
        refine tl _ ?_
        rw [List.filterMap_cons, hq.2] at hk
        simpa using hk
      · rw [(hp.2 e).1]
        refine tl _ ?_
        rw [List.filterMap_cons, (hp.2 e).2] at hk
        exact hk
theorem bools_map {α : Type} (f : α → Bool) : ∀ xs : List α, bools (xs.map fun x => .bool (f x)) = some (xs.map f)
  | [] => rfl
  | x :: xs => by
    show (bools (xs.map fun x => .bool (f x))).map _ = _
    rw [bools_map f xs]; rfl
theorem om_all {α : Type} (f : α → Bool) (xs : List α) (k : W → Prop) : OM (EV.bi .all [.list (xs.map fun x => .bool (f x))]) k = k (.dat (.bool (xs.all f))) := by
  show OM ((bools _).map _) k = _
  rw [bools_map]
  show k (.dat (.bool ((xs.map f).all id))) = _
  rw [List.all_map]; rfl
theorem intL_map : ∀ ns : List Int, intL (ns.map .int) = some ns
  | [] => rfl
  | n :: ns => by
    show (intL (ns.map .int)).map _ = _
    rw [intL_map ns]; rfl
theorem inD_int (k : Int) (ns : List Int) : inD (.int k) (ns.map .int) = ns.contains k := by
  unfold inD
  rw [List.any_map]
  induction ns with
  | nil => rfl
  | cons n ns ih =>
    rw [List.any_cons, List.contains_cons, ih]
    congr 1
    show PyData.eqv (.int n) (.int k) = _
    rw [eqv_int]
    by_cases h : n = k
    · simp [h]
    · simp [h, Ne.symm h]
theorem layAll_ints : ∀ ns : List Int, PyData.canLayAll0 (ns.map .int) = true
  | [] => by simp [PyData.canLayAll0]
  | n :: ns => by
    rw [List.map_cons, PyData.canLayAll0, layAll_ints ns, PyData.canLay0]; rfl
theorem shaped_int (i : Int) : SeqAt.shaped (.int i) = true := rfl
theorem shaped_ints (ns : List Int) : SeqAt.shaped (.list (ns.map .int)) = true ∧ SeqAt.shaped (.tuple (ns.map .int)) = true := by
  unfold SeqAt.shaped
  rw [PyData.canLay0, PyData.canLay0, PyData.depth, PyData.depth, layAll_ints, PySem.W.depth_ints]
  exact ⟨rfl, rfl⟩
theorem sortOk_ints (ns : List Int) : sortOk (ns.map .int) = true := by
  simp only [sortOk, allAlike, depthOk, Bool.and_eq_true, List.all_eq_true, decide_eq_true_eq]
  refine ⟨⟨fun x hx y hy => ?_, fun x hx => ?_⟩, fun x hx => ?_⟩
  · obtain ⟨i, _, rfl⟩ := List.mem_map.mp hx
    obtain ⟨j, _, rfl⟩ := List.mem_map.mp hy
    rfl
  · obtain ⟨i, _, rfl⟩ := List.mem_map.mp hx
    show PyData.depth (.int i) ≤ 64
    simp [PyData.depth]
  · obtain ⟨i, _, rfl⟩ := List.mem_map.mp hx
    rfl
theorem mapped {α : Type} (φ : α → D) : ∀ {xs : List D}, (∀ x ∈ xs, ∃ a, x = φ a) → ∃ as : List α, xs = as.map φ
  | [], _ => ⟨[], rfl⟩
  | x :: xs, h => by
    obtain ⟨a, rfl⟩ := h x List.mem_cons_self
    obtain ⟨as, rfl⟩ := mapped φ fun y hy => h y (List.mem_cons_of_mem _ hy)
    exact ⟨a :: as, rfl⟩
/-- sorted ints -/
theorem sortD_ints (ns : List Int) : ∃ ms : List Int, sortD (ns.map .int) = ms.map .int ∧ ms.Perm ns := by
  obtain ⟨ms, e⟩ := mapped (fun i : Int => (PyData.int i : D)) (xs := sortD (ns.map .int)) fun x hx => by
    obtain ⟨i, _, rfl⟩ := List.mem_map.mp ((sortD_perm _).mem_iff.mp hx)
    exact ⟨i, rfl⟩
  refine ⟨ms, e, ?_⟩
  have p := sortD_perm (ns.map .int)
  rw [e] at p
  have q := p.map (fun d => match d with | .int i => i | _ => 0)
  simpa [List.map_map, Function.comp_def] using q
theorem cut_to (xs : List D) (k : Nat) : cutD xs none (some (k : Int)) = xs.take k := by
  unfold cutD sIx
  dsimp only
  rw [if_neg (by omega)]
  simp only [List.drop_zero, Nat.sub_zero, Int.toNat_natCast]
  rcases Nat.le_total k xs.length with h | h
  · rw [Nat.min_eq_left h]
  · rw [Nat.min_eq_right h, List.take_length, List.take_of_length_le h]
theorem cut_from (xs : List D) (k : Nat) : cutD xs (some (k : Int)) none = xs.drop k := by
  unfold cutD sIx
  dsimp only
  rw [if_neg (by omega)]
  simp only [Int.toNat_natCast]
  rcases Nat.le_total k xs.length with h | h
  · rw [Nat.min_eq_left h, List.take_of_length_le (by simp)]
  · rw [Nat.min_eq_right h, List.drop_length, List.drop_of_length_le h]; simp
theorem cut_map (xs : List Int) (a b : Option Int) : cutD (xs.map .int) a b = ((xs.drop (sIx xs.length 0 a)).take (sIx xs.length xs.length b - sIx xs.length 0 a)).map .int := by
  unfold cutD
  rw [List.length_map, ← List.map_drop, ← List.map_take]
theorem eqv_nil (xs : List D) : PyData.eqv (.list xs) (.list []) = xs.isEmpty := by
  rw [PyData.eqv]
  cases xs <;> rw [PyData.eqvAll] <;> rfl
end EV
namespace K21
open PySem EV
def risesB (ns : List Int) : Bool := (ns.zip (ns.drop 1)).all fun p => decide (p.1 < p.2)
theorem rises_ok (ns : List Int) : Run F 1 2 [.tuple (ns.map .int)] fun w io => w = .dat (.bool (risesB ns)) ∧ io = none := by
  refine Run.of (fn := f2) rfl rfl rfl fun N hN => ?_
  show Ok (EV.execs F (callN F N) b2 [some (.dat (.tuple (ns.map .int))), none, none]) (Fin none _)
  unfold b2
  and_intros
  have e : zipD (ns.map .int) (cutD (ns.map .int) (some 1) none) = (ns.zip (ns.drop 1)).map fun p => .tuple [.int p.1, .int p.2] := by
    rw [show (1 : Int) = ((1 : Nat) : Int) from rfl, cut_from, ← List.map_drop]
    unfold zipD
    rw [List.zip_map, List.map_map]; rfl
  rw [e]
  refine comp_map (fun p : Int × Int => .tuple [.int p.1, .int p.2]) [some (.dat (.tuple (ns.map .int))), none, none] (fun p => some (.bool (decide (p.1 < p.2)))) _ _ (fun p _ => ?_) ?_
  · and_intros
    (first | exact ⟨rfl, trivial⟩ | exact ⟨trivial, trivial⟩ | exact ⟨rfl, rfl⟩ | trivial)
  · rw [fm_some, List.nil_append]
    and_intros
    rw [om_all]
    and_intros
    (first | exact ⟨rfl, trivial⟩ | exact ⟨trivial, trivial⟩ | exact ⟨rfl, rfl⟩ | trivial)
theorem set_of_ok (xs : List D) (h : setOk xs = true) : Run F 1 3 [.list xs] fun w io => w = .dat (.tuple (uniqD xs)) ∧ io = none := by
  refine Run.of (fn := f3) rfl rfl rfl fun N hN => ?_
  show Ok (EV.execs F (callN F N) b3 [some (.dat (.list xs))]) (Fin none _)
  unfold b3
  and_intros
  refine ⟨h, ?_⟩
  (first | exact ⟨rfl, trivial⟩ | exact ⟨trivial, trivial⟩ | exact ⟨rfl, rfl⟩ | trivial)
theorem filt {α β : Type} (p : α → Bool) (f : α → β) : ∀ xs : List α, xs.filterMap (fun x => if p x = true then some (f x) else none) = (xs.filter p).map f
  | [] => rfl
  | x :: xs => by
    rw [List.filterMap_cons, List.filter_cons, filt p f xs]
    cases p x <;> rfl
theorem unlike_ok (a b : List Int) : Run F 1 4 [.tuple (a.map .int), .tuple (b.map .int)] fun w io => w = .dat (.tuple ((a.filter fun k => !b.contains k).map .int)) ∧ io = none := by
  refine Run.of (fn := f4) rfl rfl rfl fun N hN => ?_
  show Ok (EV.execs F (callN F N) b4 [some (.dat (.tuple (a.map .int))), some (.dat (.tuple (b.map .int))), none]) (Fin none _)
  unfold b4
  and_intros
  refine comp_map (fun i : Int => (.int i : D)) [some (.dat (.tuple (a.map .int))), some (.dat (.tuple (b.map .int))), none] (fun i => if (!b.contains i) = true then some (.int i) else none) _ _ (fun i _ => ?_) ?_
  · and_intros
    rw [inD_int]
    refine ⟨by rw [shaped_int, (shaped_ints b).2]; rfl, fun h => ?_, fun h => ?_⟩
    · exact ⟨rfl, if_pos h⟩
    · exact ⟨rfl, if_neg (by rw [h]; exact Bool.false_ne_true)⟩
  · rw [filt, List.nil_append]
    and_intros
    (first | exact ⟨rfl, trivial⟩ | exact ⟨trivial, trivial⟩ | exact ⟨rfl, rfl⟩ | trivial)
end K21

set_option linter.all false
set_option maxRecDepth 100000
set_option Elab.async false
namespace EV
open PySem
theorem inD_str (k : Str) (ns : List Str) : inD (.str k) (ns.map .str) = ns.contains k := by
  unfold inD
  rw [List.any_map]
  induction ns with
  | nil => rfl
  | cons n ns ih =>
    rw [List.any_cons, List.contains_cons, ih]
    congr 1
    show PyData.eqv (.str n) (.str k) = _
    rw [eqv_str]
    by_cases h : n = k
    · simp [h]
    · simp [h, Ne.symm h]
def StrsOk (o : List Str) : Prop := ∀ s ∈ o, PyData.strOk s = true
theorem layAll_strs : ∀ {o : List Str}, StrsOk o → PyData.canLayAll0 (o.map .str) = true
  | [], _ => by simp [PyData.canLayAll0]
  | n :: ns, h => by
    rw [List.map_cons, PyData.canLayAll0, layAll_strs (fun s hs => h s (List.mem_cons_of_mem _ hs)), PyData.canLay0, h n List.mem_cons_self]; rfl
theorem depth_strs : ∀ o : List Str, PyData.depthAll (o.map .str) = 0
  | [] => by simp [PyData.depthAll]
  | n :: ns => by rw [List.map_cons, PyData.depthAll, depth_strs ns, PyData.depth]; rfl
theorem shaped_strs {o : List Str} (h : StrsOk o) : SeqAt.shaped (.list (o.map .str)) = true ∧ SeqAt.shaped (.tuple (o.map .str)) = true := by
  unfold SeqAt.shaped
  rw [PyData.canLay0, PyData.canLay0, PyData.depth, PyData.depth, layAll_strs h, depth_strs]
  exact ⟨rfl, rfl⟩
theorem at_z {xs : List D} {x : D} {r : List D} (e : xs = x :: r) (k : D → Prop) : OM (atD xs 0) k = k x := by
  subst e; exact d_at0 x r k
end EV
namespace K21
open PySem EV
def stL : List D → List Str
  | .str s :: r => s :: stL r
  | _ => []
theorem stL_map : ∀ o : List Str, stL (o.map .str) = o
  | [] => rfl
  | s :: o => by rw [List.map_cons, stL, stL_map o]
/-- a sheet's own names -/
def ownS : D → List Str
  | .tuple (.tuple o :: _) => stL o
  | .list (.list o :: _) => stL o
  | _ => []
structure ShtOk (b : D) : Prop where
  ex : ∃ (o : List Str) (r : List D), (b = .tuple (.tuple (o.map .str) :: r) ∨ b = .list (.list (o.map .str) :: r)) ∧ StrsOk o
theorem sht_in {b : D} (h : ShtOk b) {t : Str} (ht : PyData.strOk t = true) (F' : Nat → Option Fn) (cl : Nat → List D → FRes) (K : W → Prop) (hK : K (.dat (.bool ((ownS b).contains t)))) :
    OM (idxD b (.int 0)) fun o => OM (op2 .isin (.str t) o) K := by
  obtain ⟨o, r, e, ho⟩ := h.ex
  have hs : SeqAt.shaped (.str t) = true := by rw [shaped_str]; exact ht
  rcases e with rfl | rfl
  · rw [d_ixT, d_at0, om_inT, inD_str]
    have hK : K (.dat (.bool ((stL (o.map .str)).contains t))) := hK
    rw [stL_map] at hK
    exact ⟨by rw [hs, (shaped_strs ho).2]; rfl, hK⟩
  · rw [d_ixL, d_at0, om_inL, inD_str]
    have hK : K (.dat (.bool ((stL (o.map .str)).contains t))) := hK
    rw [stL_map] at hK
    exact ⟨by rw [hs, (shaped_strs ho).1]; rfl, hK⟩
def homes (B : List D) (t : Str) : List Nat := (B.zipIdx.filter fun p => (ownS p.1).contains t).map (·.2)
theorem home_of_ok {B : List D} (hB : ∀ b ∈ B, ShtOk b) {t : Str} (ht : PyData.strOk t = true) {i : Nat} {r : List Nat} (h : homes B t = i :: r) (sd : D) (hsd : sd = .tuple B ∨ sd = .list B) :
    Run F 1 5 [sd, .str t] fun w io => w = .dat (.int i) ∧ io = none := by
  refine Run.of (fn := f5) rfl rfl rfl fun N hN => ?_
  show Ok (EV.execs F (callN F N) b5 [some (.dat sd), some (.dat (.str t)), none, none]) (Fin none _)
  unfold b5
  have main : ∀ K : List D × Ro → Prop, (∀ r, K (.int i :: r, [some (.dat sd), some (.dat (.str t)), none, none])) →
      Ok (compL (bindT (.many [2, 3])) (EV.evC F (callN F N) (.yes (.op2 .isin (.var 1) (.idx (.var 3) (.cst (.int 0)))))) (datOf (EV.ev F (callN F N) (.var 2))) [2, 3] (enumD B) [some (.dat sd), some (.dat (.str t)), none, none] []) K := by
    intro K hK
    unfold enumD
    refine comp_map (fun p : D × Nat => .tuple [.int p.2, p.1]) [some (.dat sd), some (.dat (.str t)), none, none] (fun p => if (ownS p.1).contains t = true then some (.int p.2) else none) _ _ (fun p hp => ?_) ?_
    · and_intros
      have hb : p.1 ∈ B := by
        obtain ⟨_, _, e⟩ := List.mem_zipIdx hp
        rw [e]; exact List.getElem_mem _
      refine sht_in (hB p.1 hb) ht F (callN F N) _ ?_
      and_intros
      refine ⟨fun e => ⟨rfl, if_pos e⟩, fun e => ⟨rfl, if_neg (by rw [e]; exact Bool.false_ne_true)⟩⟩
    · rw [filt (fun p : D × Nat => (ownS p.1).contains t) (fun p => (.int p.2 : D)), List.nil_append]
      have e : (B.zipIdx.filter fun p => (ownS p.1).contains t).map (fun p => (PyData.int p.2 : D)) = (homes B t).map fun n => .int n := by
        unfold homes
        rw [List.map_map]; rfl
      rw [e, h]
      exact hK _
  rcases hsd with rfl | rfl
  · and_intros
    refine main _ fun r => ?_
    and_intros
    (first | exact ⟨rfl, trivial⟩ | exact ⟨trivial, trivial⟩ | exact ⟨rfl, rfl⟩ | trivial)
  · and_intros
    refine main _ fun r => ?_
    and_intros
    (first | exact ⟨rfl, trivial⟩ | exact ⟨trivial, trivial⟩ | exact ⟨rfl, rfl⟩ | trivial)
/-- a question: its sheets, its shown names -/
def QOk (q : D) (ch : List Int) (S : List Str) : Prop := ∃ l, (q = .tuple [.tuple (ch.map .int), l, .tuple (S.map .str)] ∨ q = .list [.list (ch.map .int), l, .list (S.map .str)])
def hom (B : List D) (t : Str) : Int := ((homes B t).headD 0 : Nat)
def canL (B : List D) (ch : List Int) (S : List Str) : List Int := ch.filter fun k => decide (0 < k) && !(S.map (hom B)).contains k
theorem can_ok {B : List D} (hB : ∀ b ∈ B, ShtOk b) {ch : List Int} {S : List Str} (hS : StrsOk S) (hh : ∀ t ∈ S, homes B t ≠ []) (sd q : D) (hsd : sd = .tuple B ∨ sd = .list B) (hq : QOk q ch S) :
    Run F 2 7 [sd, q] fun w io => w = .new ((canL B ch S).map .int) ∧ io = none := by
  refine Run.of (fn := f7) rfl rfl rfl fun N hN => ?_
  show Ok (EV.execs F (callN F N) b7 [some (.dat sd), some (.dat q), none, none, none]) (Fin none _)
  unfold b7
  obtain ⟨l, hq⟩ := hq
  have c1 : ∀ (q : D) (K : List D × Ro → Prop), K ((S.map (hom B)).map .int, [some (.dat sd), some (.dat q), none, none, none]) → Ok (compL (bindT (.one 3)) (EV.evC F (callN F N) .no) (datOf (EV.ev F (callN F N) (.call 5 (.cons (.var 0) (.cons (.var 3) .nil))))) [3] (S.map .str) [some (.dat sd), some (.dat q), none, none, none] []) K := by
    intro q K hK
    refine comp_map (fun t : Str => (.str t : D)) [some (.dat sd), some (.dat q), none, none, none] (fun t => some (.int (hom B t))) _ _ (fun t ht => ?_) ?_
    · and_intros
      obtain ⟨i, r, e⟩ : ∃ i r, homes B t = i :: r := by
        cases h : homes B t with
        | nil => exact absurd h (hh t ht)
        | cons i r => exact ⟨i, r, rfl⟩
      refine call_ok rfl rfl rfl (home_of_ok hB (hS t ht) e sd hsd N hN) ?_
      rintro w r ⟨rfl, rfl⟩
      and_intros
      refine ⟨rfl, ?_⟩
      unfold hom
      rw [e]; rfl
    · rw [fm_some, List.nil_append]
      rw [List.map_map] at hK
      exact hK
  have c2 : ∀ (q : D) (K : List D × Ro → Prop), K ((canL B ch S).map .int, [some (.dat sd), some (.dat q), some (.own ((S.map (hom B)).map .int)), none, none]) →
      Ok (compL (bindT (.one 4)) (EV.evC F (callN F N) (.yes (.bop true (.cons (.op2 .gt (.var 4) (.cst (.int 0))) (.cons (.op2 .notin (.var 4) (.var 2)) .nil))))) (datOf (EV.ev F (callN F N) (.var 4))) [4] (ch.map .int) [some (.dat sd), some (.dat q), some (.own ((S.map (hom B)).map .int)), none, none] []) K := by
    intro q K hK
    refine comp_map (fun i : Int => (.int i : D)) [some (.dat sd), some (.dat q), some (.own ((S.map (hom B)).map .int)), none, none] (fun k => if (decide (0 < k) && !(S.map (hom B)).contains k) = true then some (.int k) else none) _ _ (fun k _ => ?_) ?_
    · and_intros
      rw [inD_int, shaped_int, (shaped_ints _).1]
      refine ⟨fun e => ⟨rfl, fun e2 => ⟨rfl, if_pos (by rw [e, e2]; rfl)⟩, fun e2 => ⟨rfl, if_neg (by rw [e, e2]; exact Bool.false_ne_true)⟩⟩, fun e => ⟨rfl, if_neg (by rw [e]; exact Bool.false_ne_true)⟩⟩
    · rw [filt (fun k : Int => decide (0 < k) && !(S.map (hom B)).contains k), List.nil_append]
      exact hK
  rcases hq with rfl | rfl
  · and_intros
    refine c1 _ _ ?_
    and_intros
    refine c2 _ _ ?_
    and_intros
    (first | exact ⟨rfl, trivial⟩ | exact ⟨trivial, trivial⟩ | exact ⟨rfl, rfl⟩ | trivial)
  · and_intros
    refine c1 _ _ ?_
    and_intros
    refine c2 _ _ ?_
    and_intros
    (first | exact ⟨rfl, trivial⟩ | exact ⟨trivial, trivial⟩ | exact ⟨rfl, rfl⟩ | trivial)
end K21

set_option linter.all false
set_option maxRecDepth 100000
set_option Elab.async false
namespace K21
open PySem EV
def mayL (B : List D) (ch : List Int) (S : List Str) : List Int := ch.filter fun k => decide (0 < k) && (S.filter fun t => (ownS (B.getD k.toNat .none)).contains t).isEmpty
theorem at_nat {B : List D} {k : Int} (h0 : 0 ≤ k) (h1 : k < B.length) (K : D → Prop) : OM (atD B k) K = K (B.getD k.toNat .none) := by
  obtain ⟨n, rfl⟩ := Int.eq_ofNat_of_zero_le h0
  have h2 : n < B.length := by omega
  refine atD_k B n _ K ?_ h2
  rw [List.getD_eq_getElem?_getD, Int.toNat_natCast, List.getElem?_eq_getElem h2]; rfl
theorem may_ok {B : List D} (hB : ∀ b ∈ B, ShtOk b) {ch : List Int} (hch : ∀ k ∈ ch, 0 ≤ k ∧ k < B.length) {S : List Str} (hS : StrsOk S) (l : D) :
    Run F 1 23 [.tuple B, .tuple [.tuple (ch.map .int), l, .tuple (S.map .str)]] fun w io => w = .new ((mayL B ch S).map .int) ∧ io = none := by
  refine Run.of (fn := f23) rfl rfl rfl fun N hN => ?_
  show Ok (EV.execs F (callN F N) b23 [some (.dat (.tuple B)), some (.dat (.tuple [.tuple (ch.map .int), l, .tuple (S.map .str)])), none, none]) (Fin none _)
  unfold b23
  and_intros
  refine comp_map (fun i : Int => (.int i : D)) [some (.dat (.tuple B)), some (.dat (.tuple [.tuple (ch.map .int), l, .tuple (S.map .str)])), none, none] (fun k => if (decide (0 < k) && (S.filter fun t => (ownS (B.getD k.toNat .none)).contains t).isEmpty) = true then some (.int k) else none) _ _ (fun k hk => ?_) ?_
  · obtain ⟨k0, k1⟩ := hch k hk
    have hb : B.getD k.toNat .none ∈ B := by
      rw [List.getD_eq_getElem?_getD, List.getElem?_eq_getElem (by omega)]
      exact List.getElem_mem _
    and_intros
    refine ⟨fun e => ?_, fun e => ⟨rfl, if_neg (by rw [e]; exact Bool.false_ne_true)⟩⟩
    refine comp_map (fun t : Str => (.str t : D)) [some (.dat (.tuple B)), some (.dat (.tuple [.tuple (ch.map .int), l, .tuple (S.map .str)])), some (.dat (.int k)), none] (fun t => if (ownS (B.getD k.toNat .none)).contains t = true then some (.str t) else none) _ _ (fun t ht => ?_) ?_
    · and_intros
      rw [at_nat k0 k1]
      refine sht_in (hB _ hb) (hS t ht) F (callN F N) _ ?_
      and_intros
      refine ⟨fun e => ⟨rfl, if_pos e⟩, fun e => ⟨rfl, if_neg (by rw [e]; exact Bool.false_ne_true)⟩⟩
    · rw [filt (fun t : Str => (ownS (B.getD k.toNat .none)).contains t) (fun t => (.str t : D)), List.nil_append]
      and_intros
      have hs : StrsOk (S.filter fun t => (ownS (B.getD k.toNat .none)).contains t) := fun s hs => hS s (List.mem_filter.mp hs).1
      rw [om_eq, eqv_nil]
      refine ⟨by unfold eqOk; rw [(shaped_strs hs).1]; rfl, ?_⟩
      and_intros
      rw [List.isEmpty_map]
      refine ⟨fun e2 => ⟨rfl, if_pos (by rw [e, e2]; rfl)⟩, fun e2 => ⟨rfl, if_neg (by rw [e, e2]; exact Bool.false_ne_true)⟩⟩
  · rw [filt (fun k : Int => decide (0 < k) && (S.filter fun t => (ownS (B.getD k.toNat .none)).contains t).isEmpty), List.nil_append]
    and_intros
    (first | exact ⟨rfl, trivial⟩ | exact ⟨trivial, trivial⟩ | exact ⟨rfl, rfl⟩ | trivial)
/-! ### plans or none -/
def plT (ch : List Int) (o : List Int) : Option (List Int) → Bool
  | none => false
  | some l => PyData.eqv (.list (sortD (l.map .int))) (.list ((ch.filter fun k => !o.contains k).map .int))
def plB (may ch : List Int) : D → Bool
  | .tuple [.tuple out, tree] => match intL out with
    | none => false
    | some o => risesB o && (o.all fun k => may.contains k) && plT ch o (und 21 tree false)
  | _ => false
theorem all_ints : ∀ out : List D, out.all isNum = (intL out).isSome
  | [] => rfl
  | x :: xs => by
    rw [List.all_cons, all_ints xs]
    cases x with
    | int i =>
      show (true && _) = ((intL xs).map _).isSome
      rw [Bool.true_and]
      cases intL xs <;> rfl
    | _ => rfl
theorem tup_ints : ∀ ns : List Int, (ns.map (fun i => (.int i : D))).map tupD = ns.map .int
  | [] => rfl
  | n :: ns => by rw [List.map_cons, List.map_cons, tup_ints ns]; rfl
theorem is_plan_ok {B : List D} (hB : ∀ b ∈ B, ShtOk b) {ch : List Int} {S : List Str} (hS : StrsOk S) (hh : ∀ t ∈ S, homes B t ≠ []) (sd q d : D) (hsd : sd = .tuple B ∨ sd = .list B) (hq : QOk q ch S) (hqd : q.depth ≤ 10) (hd : d.depth ≤ 20) (hl : d.canLay0 = true) :
    Run F 24 8 [sd, q, d] fun w io => w = .dat (.bool (plB (canL B ch S) ch d)) ∧ io = none := by
  refine Run.of (fn := f8) rfl rfl rfl fun N hN => ?_
  show Ok (EV.execs F (callN F N) b8 [some (.dat sd), some (.dat q), some (.dat d), none, none, none, none]) (Fin none _)
  unfold b8
  cases d with
  | tuple xs =>
    match xs with
    | [] => and_intros; (first | exact ⟨rfl, trivial⟩ | exact ⟨trivial, trivial⟩ | exact ⟨rfl, rfl⟩ | trivial)
    | [x] =>
      have e : plB (canL B ch S) ch (.tuple [x]) = false := by cases x <;> rfl
      rw [e]
      and_intros; (first | exact ⟨rfl, trivial⟩ | exact ⟨trivial, trivial⟩ | exact ⟨rfl, rfl⟩ | trivial)
    | [x, y, z] =>
      have e : plB (canL B ch S) ch (.tuple [x, y, z]) = false := by cases x <;> rfl
      rw [e]
      and_intros; (first | exact ⟨rfl, trivial⟩ | exact ⟨trivial, trivial⟩ | exact ⟨rfl, rfl⟩ | trivial)
    | x :: y :: z :: u :: r =>
      have e : plB (canL B ch S) ch (.tuple (x :: y :: z :: u :: r)) = false := by cases x <;> rfl
      rw [e]
      and_intros; (first | exact ⟨rfl, trivial⟩ | exact ⟨trivial, trivial⟩ | exact ⟨rfl, rfl⟩ | trivial)
    | [x, y] =>
      cases x with
      | tuple out =>
        have hy : y.depth ≤ 20 := by
          have := depth_mem (x := y) (xs := [.tuple out, y]) (by simp)
          rw [PyData.depth] at hd; omega
        have ly : y.canLay0 = true := lay_tup hl y (by simp)
        and_intros
        refine comp_pure [some (.dat sd), some (.dat q), some (.dat (.tuple [.tuple out, y])), none, some (.dat (.tuple out)), some (.dat y), none] (fun x => some (.bool (isNum x))) _ _ (fun x _ => ?_) ?_
        · and_intros
          refine call_ok rfl rfl rfl (is_number_ok x N (by omega)) ?_
          rintro w r ⟨rfl, rfl⟩
          and_intros
          (first | exact ⟨rfl, trivial⟩ | exact ⟨trivial, trivial⟩ | exact ⟨rfl, rfl⟩ | trivial)
        · rw [fm_some, List.nil_append]
          and_intros
          rw [om_all, all_ints]
          cases ho : intL out with
          | none =>
            and_intros
            simp only [Option.isSome]
            and_intros
            simp only [plB, ho]
            (first | exact ⟨rfl, trivial⟩ | exact ⟨trivial, trivial⟩ | exact ⟨rfl, rfl⟩ | trivial)
          | some o =>
            have eo := intL_some ho
            subst eo
            have e : plB (canL B ch S) ch (.tuple [.tuple (o.map .int), y]) = (risesB o && (o.all fun k => (canL B ch S).contains k) && plT ch o (und 21 y false)) := by
              simp only [plB, ho]
            rw [e]
            simp only [Option.isSome]
            and_intros
            refine call_ok rfl rfl rfl (rises_ok o N (by omega)) ?_
            rintro w r ⟨rfl, rfl⟩
            and_intros
            cases hr : risesB o with
            | false => and_intros; simp only [Bool.false_and]; (first | exact ⟨rfl, trivial⟩ | exact ⟨trivial, trivial⟩ | exact ⟨rfl, rfl⟩ | trivial)
            | true =>
              and_intros
              refine comp_map (fun i : Int => (.int i : D)) [some (.dat sd), some (.dat q), some (.dat (.tuple [.tuple (o.map .int), y])), none, some (.dat (.tuple (o.map .int))), some (.dat y), none] (fun k => some (.bool ((canL B ch S).contains k))) _ _ (fun k _ => ?_) ?_
              · and_intros
                refine call_ok rfl rfl rfl (can_ok hB hS hh sd q hsd hq N (by omega)) ?_
                rintro w r ⟨rfl, rfl⟩
                and_intros
                rw [inD_int, shaped_int, (shaped_ints _).1]
                exact ⟨rfl, rfl, rfl⟩
              · rw [fm_some, List.nil_append]
                and_intros
                rw [om_all]
                and_intros
                cases hc : o.all fun k => (canL B ch S).contains k with
                | false => and_intros; simp only [Bool.false_and, Bool.and_false]; (first | exact ⟨rfl, trivial⟩ | exact ⟨trivial, trivial⟩ | exact ⟨rfl, rfl⟩ | trivial)
                | true =>
                  and_intros
                  simp only [Bool.true_and]
                  refine call_ok rfl rfl rfl (sheets_ok 20 y false hy (by omega) ly N (by omega)) ?_
                  rintro w r ⟨rfl, rfl⟩
                  cases hu : und (20 + 1) y false with
                  | none =>
                    simp only [undW]; and_intros; simp only [isNone, Bool.not_true, Bool.not_false]; and_intros; simp only [plT]; (first | exact ⟨rfl, trivial⟩ | exact ⟨trivial, trivial⟩ | exact ⟨rfl, rfl⟩ | trivial)
                  | some l =>
                    simp only [undW]; and_intros; simp only [isNone, Bool.not_true, Bool.not_false]; and_intros
                    refine ⟨sortOk_ints l, ?_⟩
                    refine call_ok rfl rfl rfl (tupled_ok 10 q hqd N (by omega)) ?_
                    rintro w r ⟨rfl, rfl⟩
                    have eq0 : ∃ l2, tupD q = .tuple (.tuple (ch.map .int) :: l2) := by
                      obtain ⟨l, hq | hq⟩ := hq
                      · subst hq; exact ⟨_, by rw [tupD, tupDs, tupD, tupDs_map, tup_ints]⟩
                      · subst hq; exact ⟨_, by rw [tupD, tupDs, tupD, tupDs_map, tup_ints]⟩
                    obtain ⟨l2, eq0⟩ := eq0
                    rw [eq0]
                    and_intros
                    refine call_ok rfl rfl rfl (unlike_ok ch o N (by omega)) ?_
                    rintro w r ⟨rfl, rfl⟩
                    and_intros
                    obtain ⟨ms, em, _⟩ := sortD_ints l
                    rw [om_eq]
                    refine ⟨by unfold eqOk; rw [em, (shaped_ints _).1, (shaped_ints _).1]; rfl, ?_⟩
                    and_intros
                    simp only [plT]
                    (first | exact ⟨rfl, trivial⟩ | exact ⟨trivial, trivial⟩ | exact ⟨rfl, rfl⟩ | trivial)
      | _ => and_intros; (first | exact ⟨rfl, trivial⟩ | exact ⟨trivial, trivial⟩ | exact ⟨rfl, rfl⟩ | trivial)
  | _ => and_intros; (first | exact ⟨rfl, trivial⟩ | exact ⟨trivial, trivial⟩ | exact ⟨rfl, rfl⟩ | trivial)
end K21

set_option linter.all false
set_option maxRecDepth 100000
set_option Elab.async false
namespace K21
open PySem EV
theorem layAll_of : ∀ {xs : List D}, (∀ x ∈ xs, x.canLay0 = true) → PyData.canLayAll0 xs = true
  | [], _ => by simp [PyData.canLayAll0]
  | x :: xs, h => by
    rw [PyData.canLayAll0, h x List.mem_cons_self, layAll_of fun y hy => h y (List.mem_cons_of_mem _ hy)]; rfl
theorem depthAll_of {n : Nat} : ∀ {xs : List D}, (∀ x ∈ xs, x.depth ≤ n) → PyData.depthAll xs ≤ n
  | [], _ => by simp [PyData.depthAll]
  | x :: xs, h => by
    rw [PyData.depthAll]
    have h1 := h x List.mem_cons_self
    have h2 := depthAll_of (n := n) fun y hy => h y (List.mem_cons_of_mem _ hy)
    omega
theorem shaped_of {xs : List D} (h1 : ∀ x ∈ xs, x.canLay0 = true) (h2 : ∀ x ∈ xs, x.depth ≤ 63) : SeqAt.shaped (.list xs) = true := by
  unfold SeqAt.shaped
  have := depthAll_of h2
  rw [PyData.canLay0, layAll_of h1, PyData.depth]
  simp; omega
theorem eqvAll_ints : ∀ a b : List Int, PyData.eqvAll (a.map .int) (b.map .int) = decide (a = b)
  | [], [] => by simp [PyData.eqvAll]
  | [], b :: bs => by simp [PyData.eqvAll]
  | a :: as, [] => by simp [PyData.eqvAll]
  | a :: as, b :: bs => by
    rw [List.map_cons, List.map_cons, PyData.eqvAll, eqv_int, eqvAll_ints as bs]
    by_cases h : a = b <;> by_cases h2 : as = bs <;> simp [h, h2]
theorem eqv_ints (a b : List Int) : PyData.eqv (.list (a.map .int)) (.list (b.map .int)) = decide (a = b) := by
  rw [PyData.eqv, eqvAll_ints]
theorem rises_iff : ∀ ns : List Int, risesB ns = true ↔ ns.Pairwise (· < ·)
  | [] => by simp [risesB]
  | [n] => by simp [risesB]
  | n :: m :: ns => by
    have e : risesB (n :: m :: ns) = (decide (n < m) && risesB (m :: ns)) := by simp [risesB]
    rw [e, Bool.and_eq_true, decide_eq_true_eq, rises_iff (m :: ns)]
    constructor
    · rintro ⟨h1, h2⟩
      refine List.pairwise_cons.mpr ⟨fun z hz => ?_, h2⟩
      rcases List.mem_cons.mp hz with q | q
      · rw [q]; exact h1
      · have := (List.pairwise_cons.mp h2).1 z q; omega
    · intro h
      obtain ⟨h1, h2⟩ := List.pairwise_cons.mp h
      exact ⟨h1 m List.mem_cons_self, h2⟩
theorem rise_ints (ns : List Int) : Rise (ns.map .int) ↔ ns.Pairwise (· < ·) := by
  unfold Rise
  rw [List.pairwise_map]
  constructor <;> intro h <;> refine h.imp fun {a b} q => ?_
  · rw [PySem.W.dataLt_int] at q; exact of_decide_eq_true q
  · rw [PySem.W.dataLt_int]; exact decide_eq_true q
theorem uniq_ints (ns : List Int) : ∃ ms : List Int, uniqD (ns.map .int) = ms.map .int ∧ ms.Pairwise (· < ·) ∧ ∀ k, k ∈ ms ↔ k ∈ ns := by
  obtain ⟨ms, e⟩ := mapped (fun i : Int => (PyData.int i : D)) (xs := uniqD (ns.map .int)) fun x hx => by
    obtain ⟨i, _, rfl⟩ := List.mem_map.mp (uniqD_sub _ _ hx)
    exact ⟨i, rfl⟩
  refine ⟨ms, e, ?_, fun k => ?_⟩
  · have r := uniqD_rise (ns.map .int)
    rw [e] at r
    exact (rise_ints ms).mp r
  · have m := uniqD_mem (tot_ints ns) (.int k)
    rw [e] at m
    simpa using m
theorem eqv_uniq (o : List Int) : PyData.eqv (.list (o.map .int)) (.list (uniqD (o.map .int))) = risesB o := by
  obtain ⟨ms, e, h1, h2⟩ := uniq_ints o
  rw [e, eqv_ints]
  by_cases h : risesB o = true
  · rw [h, decide_eq_true_eq]
    have r := (rise_ints o).mpr ((rises_iff o).mp h)
    have r2 := (rise_ints ms).mpr h1
    have z : o.map (fun i => (PyData.int i : D)) = ms.map .int := Rise.ext r r2 fun x => by
      simp only [List.mem_map, h2]
    exact (List.map_inj_right (fun _ _ => int_inj')).mp z
  · rw [Bool.not_eq_true] at h
    rw [h, decide_eq_false_iff_not]
    intro z
    subst z
    rw [(rises_iff o).mpr h1] at h
    cases h
where int_inj' {i j : Int} (h : (PyData.int i) = .int j) : i = j := by cases h; rfl
theorem all_empty (o may : List Int) : (o.filter fun k => !may.contains k).isEmpty = o.all fun k => may.contains k := by
  induction o with
  | nil => rfl
  | cons x o ih =>
    rw [List.filter_cons, List.all_cons]
    cases may.contains x
    · rfl
    · simpa using ih
theorem num_empty (out : List D) : (out.filter fun x => !isNum x).isEmpty = (intL out).isSome := by
  rw [← all_ints]
  induction out with
  | nil => rfl
  | cons x o ih =>
    rw [List.filter_cons, List.all_cons]
    cases isNum x
    · rfl
    · simpa using ih
theorem law_is_ok {B : List D} (hB : ∀ b ∈ B, ShtOk b) {ch : List Int} (hch : ∀ k ∈ ch, 0 ≤ k ∧ k < B.length) {S : List Str} (hS : StrsOk S) (l d : D) (hd : d.depth ≤ 20) (hl : d.canLay0 = true) (ho : ∀ out t, d = .tuple [.tuple out, t] → out.length < 64) :
    Run F 24 29 [.tuple B, .tuple [.tuple (ch.map .int), l, .tuple (S.map .str)], d] fun w io => w = .dat (.bool (plB (mayL B ch S) ch d)) ∧ io = none := by
  refine Run.of (fn := f29) rfl rfl rfl fun N hN => ?_
  generalize hq : (PyData.tuple [.tuple (ch.map .int), l, .tuple (S.map .str)]) = q
  show Ok (EV.execs F (callN F N) b29 [some (.dat (.tuple B)), some (.dat q), some (.dat d), none, none, none]) (Fin none _)
  unfold b29
  cases d with
  | tuple xs =>
    match xs with
    | [] => and_intros; (first | exact ⟨rfl, trivial⟩ | exact ⟨trivial, trivial⟩ | exact ⟨rfl, rfl⟩ | trivial)
    | [x] =>
      have e : plB (mayL B ch S) ch (.tuple [x]) = false := by cases x <;> rfl
      rw [e]
      and_intros; (first | exact ⟨rfl, trivial⟩ | exact ⟨trivial, trivial⟩ | exact ⟨rfl, rfl⟩ | trivial)
    | [x, y, z] =>
      have e : plB (mayL B ch S) ch (.tuple [x, y, z]) = false := by cases x <;> rfl
      rw [e]
      and_intros; (first | exact ⟨rfl, trivial⟩ | exact ⟨trivial, trivial⟩ | exact ⟨rfl, rfl⟩ | trivial)
    | x :: y :: z :: u :: r =>
      have e : plB (mayL B ch S) ch (.tuple (x :: y :: z :: u :: r)) = false := by cases x <;> rfl
      rw [e]
      and_intros; (first | exact ⟨rfl, trivial⟩ | exact ⟨trivial, trivial⟩ | exact ⟨rfl, rfl⟩ | trivial)
    | [x, y] =>
      cases x with
      | tuple out =>
        have hy : y.depth ≤ 20 := by
          have := depth_mem (x := y) (xs := [.tuple out, y]) (by simp)
          rw [PyData.depth] at hd; omega
        have ly : y.canLay0 = true := lay_tup hl y (by simp)
        have dout : ∀ x ∈ out, x.depth ≤ 63 := fun x hx => by
          have h1 := depth_mem (x := .tuple out) (xs := [.tuple out, y]) (by simp)
          have h2 := depth_mem hx
          rw [PyData.depth] at hd h1; omega
        have lout : ∀ x ∈ out, x.canLay0 = true := lay_tup (lay_tup hl (.tuple out) (by simp))
        have lo := ho out y rfl
        and_intros
        refine comp_pure [some (.dat (.tuple B)), some (.dat q), some (.dat (.tuple [.tuple out, y])), none, none, none] (fun x => if (!isNum x) = true then some x else none) _ _ (fun x _ => ?_) ?_
        · and_intros
          cases x <;> and_intros <;> exact ⟨rfl, rfl⟩
        · rw [filt (fun x => !isNum x) (fun x => x), List.nil_append, List.map_id']
          and_intros
          rw [om_ne, eqv_nil, num_empty]
          refine ⟨by unfold eqOk; rw [shaped_of (fun x hx => lout x (List.mem_filter.mp hx).1) (fun x hx => dout x (List.mem_filter.mp hx).1)]; rfl, ?_⟩
          and_intros
          cases hi : intL out with
          | none =>
            simp only [Option.isSome, Bool.not_false]
            and_intros
            simp only [plB, hi]
            (first | exact ⟨rfl, trivial⟩ | exact ⟨trivial, trivial⟩ | exact ⟨rfl, rfl⟩ | trivial)
          | some o =>
            have eo := intL_some hi
            subst eo
            have e : plB (mayL B ch S) ch (.tuple [.tuple (o.map .int), y]) = (risesB o && (o.all fun k => (mayL B ch S).contains k) && plT ch o (und 21 y false)) := by
              simp only [plB, hi]
            rw [e]
            simp only [Option.isSome, Bool.not_true]
            and_intros
            obtain ⟨ms, em, _⟩ := uniq_ints o
            refine ⟨by unfold setOk; rw [hi]; simp at lo ⊢; omega, ?_⟩
            rw [om_ne, eqv_uniq]
            refine ⟨by unfold eqOk; rw [em, (shaped_ints _).1, (shaped_ints _).1]; rfl, ?_⟩
            and_intros
            cases hr : risesB o with
            | false => simp only [Bool.not_false]; and_intros; simp only [Bool.false_and]; (first | exact ⟨rfl, trivial⟩ | exact ⟨trivial, trivial⟩ | exact ⟨rfl, rfl⟩ | trivial)
            | true =>
              simp only [Bool.not_true]
              and_intros
              refine comp_map (fun i : Int => (.int i : D)) [some (.dat (.tuple B)), some (.dat q), some (.dat (.tuple [.tuple (o.map .int), y])), none, none, none] (fun k => if (!(mayL B ch S).contains k) = true then some (.int k) else none) _ _ (fun k _ => ?_) ?_
              · and_intros
                rw [← hq]
                refine call_ok rfl rfl rfl (may_ok hB hch hS l N (by omega)) ?_
                rintro w r ⟨rfl, rfl⟩
                and_intros
                rw [inD_int, shaped_int, (shaped_ints _).1]
                exact ⟨rfl, fun e => ⟨rfl, if_pos e⟩, fun e => ⟨rfl, if_neg (by rw [e]; exact Bool.false_ne_true)⟩⟩
              · rw [filt (fun k : Int => !(mayL B ch S).contains k), List.nil_append]
                and_intros
                rw [om_ne, eqv_nil, List.isEmpty_map, all_empty]
                refine ⟨by unfold eqOk; rw [(shaped_ints _).1]; rfl, ?_⟩
                and_intros
                cases hc : o.all fun k => (mayL B ch S).contains k with
                | false => simp only [Bool.not_false]; and_intros; simp only [Bool.false_and, Bool.and_false]; (first | exact ⟨rfl, trivial⟩ | exact ⟨trivial, trivial⟩ | exact ⟨rfl, rfl⟩ | trivial)
                | true =>
                  simp only [Bool.not_true]
                  and_intros
                  simp only [Bool.true_and]
                  refine call_ok rfl rfl rfl (tree_of_ok 20 y false hy (by omega) ly N (by omega)) ?_
                  rintro w r ⟨rfl, rfl⟩
                  cases hu : und (20 + 1) y false with
                  | none => simp only [undW]; and_intros; simp only [isNone, Bool.not_true, Bool.not_false]; and_intros; simp only [plT]; (first | exact ⟨rfl, trivial⟩ | exact ⟨trivial, trivial⟩ | exact ⟨rfl, rfl⟩ | trivial)
                  | some l =>
                    simp only [undW]; and_intros; simp only [isNone, Bool.not_true, Bool.not_false]; and_intros
                    refine ⟨sortOk_ints l, ?_⟩
                    rw [← hq]
                    and_intros
                    refine comp_map (fun i : Int => (.int i : D)) [some (.dat (.tuple B)), some (.dat _), some (.dat (.tuple [.tuple (o.map .int), y])), some (.own (l.map .int)), none, none] (fun k => if (!o.contains k) = true then some (.int k) else none) _ _ (fun k _ => ?_) ?_
                    · and_intros
                      rw [inD_int, shaped_int, (shaped_ints _).2]
                      exact ⟨rfl, fun e => ⟨rfl, if_pos e⟩, fun e => ⟨rfl, if_neg (by rw [e]; exact Bool.false_ne_true)⟩⟩
                    · rw [filt (fun k : Int => !o.contains k), List.nil_append]
                      and_intros
                      obtain ⟨ms, em, _⟩ := sortD_ints l
                      rw [om_eq]
                      refine ⟨by unfold eqOk; rw [em, (shaped_ints _).1, (shaped_ints _).1]; rfl, ?_⟩
                      and_intros
                      simp only [plT]
                      (first | exact ⟨rfl, trivial⟩ | exact ⟨trivial, trivial⟩ | exact ⟨rfl, rfl⟩ | trivial)
      | _ => and_intros; (first | exact ⟨rfl, trivial⟩ | exact ⟨trivial, trivial⟩ | exact ⟨rfl, rfl⟩ | trivial)
  | _ => and_intros; (first | exact ⟨rfl, trivial⟩ | exact ⟨trivial, trivial⟩ | exact ⟨rfl, rfl⟩ | trivial)
end K21

set_option linter.all false
set_option maxRecDepth 100000
set_option Elab.async false
namespace K21
open PySem EV
theorem zip_self (xs : List D) : zipD xs xs = xs.map fun x => .tuple [x, x] := by
  unfold zipD
  induction xs with
  | nil => rfl
  | cons x xs ih => rw [List.zip_cons_cons, List.map_cons, List.map_cons, ih]
theorem same_ok : ∀ (n : Nat) (d : D), d.depth ≤ n → d.canLay0 = true → Run F (n + 1) 15 [d, d] fun w io => w = .dat (.bool true) ∧ io = none := by
  intro n
  induction n with
  | zero =>
    intro d hd hl
    refine Run.of (fn := f15) rfl rfl rfl fun N hN => ?_
    show Ok (EV.execs F (callN F N) b15 [some (.dat d), some (.dat d), none, none]) (Fin none _)
    unfold b15
    cases d with
    | list xs => rw [PyData.depth] at hd; omega
    | tuple xs => rw [PyData.depth] at hd; omega
    | dict xs => rw [PyData.depth] at hd; omega
    | int i => and_intros; simp only [isNone]; and_intros; simp
    | str s =>
      have hs := lay_str hl
      and_intros; simp only [isNone]; and_intros; simp only [hs, Bool.and_self, true_and]; simp [OI]
    | bool b => and_intros; simp only [isNone]; and_intros; (first | exact ⟨rfl, trivial⟩ | exact ⟨trivial, trivial⟩ | exact ⟨rfl, rfl⟩ | trivial)
    | none => and_intros; simp only [isNone]; and_intros; rw [om_eq]; refine ⟨rfl, ?_⟩; and_intros; exact ⟨fun _ => by (first | exact ⟨rfl, trivial⟩ | exact ⟨trivial, trivial⟩ | exact ⟨rfl, rfl⟩ | trivial), fun h => by simp [PyData.eqv] at h⟩
  | succ n ih =>
    intro d hd hl
    have main : ∀ xs : List D, (∀ x ∈ xs, x.depth ≤ n) → (∀ x ∈ xs, x.canLay0 = true) → ∀ N, n + 1 ≤ N → ∀ (e : D) (K : List D × Ro → Prop), K (xs.map (fun _ => .bool true), [some (.dat e), some (.dat e), none, none]) →
        Ok (compL (bindT (.many [2, 3])) (EV.evC F (callN F N) .no) (datOf (EV.ev F (callN F N) (.call 15 (.cons (.var 2) (.cons (.var 3) .nil))))) [2, 3] (zipD xs xs) [some (.dat e), some (.dat e), none, none] []) K := by
      intro xs h1 h2 N hN e K hK
      rw [zip_self]
      refine comp_map (fun x : D => .tuple [x, x]) [some (.dat e), some (.dat e), none, none] (fun x => some (.bool true)) _ _ (fun x hx => ?_) ?_
      · and_intros
        refine call_ok rfl rfl rfl (ih x (h1 x hx) (h2 x hx) N hN) ?_
        rintro w r ⟨rfl, rfl⟩
        and_intros
        (first | exact ⟨rfl, trivial⟩ | exact ⟨trivial, trivial⟩ | exact ⟨rfl, rfl⟩ | trivial)
      · rw [fm_some, List.nil_append]
        exact hK
    refine Run.of (fn := f15) rfl rfl rfl fun N hN => ?_
    show Ok (EV.execs F (callN F N) b15 [some (.dat d), some (.dat d), none, none]) (Fin none _)
    unfold b15
    cases d with
    | list xs =>
      rw [PyData.depth] at hd
      rw [PyData.canLay0] at hl
      and_intros
      refine main xs (fun x hx => by have := depth_mem hx; omega) (fun x hx => lay_mem hl hx) N hN _ _ ?_
      and_intros
      rw [om_all (fun _ => true)]
      and_intros
      simp
    | tuple xs =>
      rw [PyData.depth] at hd
      rw [PyData.canLay0] at hl
      and_intros
      refine main xs (fun x hx => by have := depth_mem hx; omega) (fun x hx => lay_mem hl hx) N hN _ _ ?_
      and_intros
      rw [om_all (fun _ => true)]
      and_intros
      simp
    | dict xs => rw [PyData.canLay0] at hl; cases hl
    | int i => and_intros; simp only [isNone]; and_intros; simp
    | str s =>
      have hs := lay_str hl
      and_intros; simp only [isNone]; and_intros; simp only [hs, Bool.and_self, true_and]; simp [OI]
    | bool b => and_intros; simp only [isNone]; and_intros; (first | exact ⟨rfl, trivial⟩ | exact ⟨trivial, trivial⟩ | exact ⟨rfl, rfl⟩ | trivial)
    | none => and_intros; simp only [isNone]; and_intros; rw [om_eq]; refine ⟨rfl, ?_⟩; and_intros; exact ⟨fun _ => by (first | exact ⟨rfl, trivial⟩ | exact ⟨trivial, trivial⟩ | exact ⟨rfl, rfl⟩ | trivial), fun h => by simp [PyData.eqv] at h⟩
/-- a drawn one of a pool -/
theorem of_ok {m : Nat} {b : List D} (hb : Bx m b) (hm : m < 2 ^ 40) {xs : List D} (h0 : xs ≠ []) (h1 : xs.length < 1000) (p : D) (hp : p = .tuple xs ∨ p = .list xs) :
    Run F 2 17 [.list b, p] fun w io => ∃ (x : D) (b' : List D), w = .dat x ∧ io = some b' ∧ Bx (m + 1) b' ∧ x ∈ xs := by
  refine Run.of (fn := f17) rfl rfl rfl fun N hN => ?_
  show Ok (EV.execs F (callN F N) b17 [some (.io b), some (.dat p)]) (Fin (some 0) _)
  unfold b17
  have hl : 0 < xs.length := List.length_pos_iff.mpr h0
  rcases hp with rfl | rfl
  · and_intros
    refine call_ok rfl rfl rfl (take_ok hb hm (by omega) (by omega) N hN) ?_
    rintro w r ⟨k, b', rfl, rfl, hb', k0, k1⟩
    and_intros
    rw [at_nat k0 k1]
    refine ⟨_, _, rfl, rfl, hb', ?_⟩
    rw [List.getD_eq_getElem?_getD, List.getElem?_eq_getElem (by omega)]
    exact List.getElem_mem _
  · and_intros
    refine call_ok rfl rfl rfl (take_ok hb hm (by omega) (by omega) N hN) ?_
    rintro w r ⟨k, b', rfl, rfl, hb', k0, k1⟩
    and_intros
    rw [at_nat k0 k1]
    refine ⟨_, _, rfl, rfl, hb', ?_⟩
    rw [List.getD_eq_getElem?_getD, List.getElem?_eq_getElem (by omega)]
    exact List.getElem_mem _
end K21

set_option linter.all false
set_option maxRecDepth 100000
set_option Elab.async false
namespace EV
open PySem
theorem ixN_at {n : Nat} {k : Int} (h0 : 0 ≤ k) (h1 : k < n) : ixN n k = some k.toNat := by
  unfold ixN
  rw [if_pos h0, if_pos h1]
theorem m_popK (xs : List D) (k : Int) (ρ : Ro) (K : W × Ro → Prop) (h0 : 0 ≤ k) (h1 : k < xs.length) : Ok (methE .popAt 0 [.int k] (some (.own xs) :: ρ)) K = K (.dat (xs.getD k.toNat .none), some (.own (xs.eraseIdx k.toNat)) :: ρ) := by
  show Ok (match ixN xs.length k with | some j => _ | none => _) K = _
  rw [ixN_at h0 h1]
  show Ok (match xs[k.toNat]? with | some d => _ | none => _) K = _
  rw [List.getElem?_eq_getElem (by omega), List.getD_eq_getElem?_getD, List.getElem?_eq_getElem (by omega)]
  rfl
theorem range_len (n : Nat) : (rangeD 0 (n : Int)).length = n := by
  unfold rangeD
  rw [List.length_map, List.length_range]; omega
theorem erase_perm' {α : Type} (xs : List α) (n : Nat) (h : n < xs.length) : (xs[n] :: xs.eraseIdx n).Perm xs := by
  induction xs generalizing n with
  | nil => simp at h
  | cons x xs ih =>
    cases n with
    | zero => exact List.Perm.refl _
    | succ n =>
      simp only [List.getElem_cons_succ, List.eraseIdx_cons_succ]
      exact (List.Perm.swap _ _ _).trans ((ih n (by simpa using h)).cons x)
end EV
namespace K21
open PySem EV
theorem small62_nat {n : Nat} (h : n < 10000) : small62 (n : Int) = true := by
  unfold small62
  simp only [Bool.and_eq_true, decide_eq_true_eq]
  constructor <;> omega
theorem rng_ok {n : Nat} (h : n < 10000) : (small62 (n : Int) && decide ((n : Int) ≤ sizeLine)) = true := by
  rw [small62_nat h, sizeLine_eq]
  simp; omega
/-- mixed: in some order -/
theorem mixed_ok {m : Nat} {b : List D} (hb : Bx m b) {xs : List D} (hm : m + xs.length < 2 ^ 40) (h1 : xs.length < 1000) (p : D) (hp : p = .tuple xs ∨ p = .list xs) :
    Run F 2 18 [.list b, p] fun w io => ∃ (ys b' : List D), w = .new ys ∧ io = some b' ∧ Bx (m + xs.length) b' ∧ ys.Perm xs := by
  refine Run.of (fn := f18) rfl rfl rfl fun N hN => ?_
  show Ok (EV.execs F (callN F N) b18 [some (.io b), some (.dat p), none, none, none]) (Fin (some 0) _)
  unfold b18
  have main : ∀ K : EV.Flow × Ro → Prop, (∀ (b' ys : List D) (v : Option Sv), (Bx (m + xs.length) b' ∧ ys.Perm xs) → K (.next, [some (.io b'), some (.dat p), v, some (.own []), some (.own ys)])) →
      Ok (forL (bindT (.one 2)) (EV.execs F (callN F N) (.cons (.expr (.meth .append 4 (.cons (.meth .popAt 3 (.cons (.call 13 (.cons (.var 0) (.cons (.bi .len (.cons (.var 3) .nil)) .nil))) .nil)) .nil))) .nil)) (rangeD 0 (xs.length : Int)) [some (.io b), some (.dat p), none, some (.own xs), some (.own [])]) K := by
    intro K hK
    refine for_ok (fun l ρ => ∃ (b' rest ys : List D) (v : Option Sv), (v = none ∨ ∃ d, v = some (.dat d)) ∧ ρ = [some (.io b'), some (.dat p), v, some (.own rest), some (.own ys)] ∧ rest.length = l.length ∧ (rest ++ ys).Perm xs ∧ Bx (m + ys.length) b') ?_ ?_ _ _ ⟨b, xs, [], none, .inl rfl, rfl, (range_len _).symm, by simp, hb⟩
    · rintro ρ ⟨b', rest, ys, v, hv, rfl, e, pm, hb'⟩
      have e2 : rest = [] := List.eq_nil_of_length_eq_zero e
      subst e2
      refine hK b' ys v ⟨?_, pm⟩
      have := pm.length_eq
      simp at this
      rw [← this]; exact hb'
    · rintro x l ρ ⟨b', rest, ys, v, hv, rfl, e, pm, hb'⟩
      have el := pm.length_eq
      rw [List.length_append] at el
      rw [List.length_cons] at e
      have go : ∀ v : Option Sv, (v = none ∨ ∃ d, v = some (.dat d)) → OM (bindT (.one 2) x [some (.io b'), some (.dat p), v, some (.own rest), some (.own ys)]) fun ρ1 => ρ1 = [some (.io b'), some (.dat p), some (.dat x), some (.own rest), some (.own ys)] := by
        rintro v (rfl | ⟨d, rfl⟩) <;> and_intros
      have g := go v hv
      cases hbd : bindT (.one 2) x [some (.io b'), some (.dat p), v, some (.own rest), some (.own ys)] with
      | none => rw [hbd] at g; exact g
      | some ρ1 =>
        rw [hbd] at g
        have g : ρ1 = _ := g
        subst g
        show Ok _ _
        and_intros
        refine call_ok rfl rfl rfl (take_ok hb' (by omega) (by omega) (by omega) N hN) ?_
        rintro w r ⟨k, b2, rfl, rfl, hb2, k0, k1⟩
        and_intros
        rw [m_popK _ _ _ _ k0 k1]
        and_intros
        have kl : k.toNat < rest.length := by omega
        refine ⟨by rw [sizeLine_eq]; omega, b2, rest.eraseIdx k.toNat, ys ++ [rest.getD k.toNat .none], _, .inr ⟨_, rfl⟩, rfl, ?_, ?_, ?_⟩
        · rw [List.length_eraseIdx_of_lt kl]; omega
        · have e1 : rest.getD k.toNat .none = rest[k.toNat] := by rw [List.getD_eq_getElem?_getD, List.getElem?_eq_getElem kl]; rfl
          rw [e1]
          refine List.Perm.trans ?_ pm
          have p1 := erase_perm' rest k.toNat kl
          have p2 : (rest.eraseIdx k.toNat ++ (ys ++ [rest[k.toNat]])).Perm (rest[k.toNat] :: rest.eraseIdx k.toNat ++ ys) := by
            rw [← List.append_assoc]
            exact List.perm_append_singleton _ _ |>.trans (by simp)
          exact p2.trans (p1.append_right ys)
        · exact hb2.mono (by simp only [List.length_append, List.length_singleton]; omega)
  have fin : ∀ (b' ys : List D) (v : Option Sv), (Bx (m + xs.length) b' ∧ ys.Perm xs) → KN F (callN F N) (.cons (.ret (.var 4)) .nil) (Fin (some 0) fun w io => ∃ (ys b' : List D), w = .new ys ∧ io = some b' ∧ Bx (m + xs.length) b' ∧ ys.Perm xs) (.next, [some (.io b'), some (.dat p), v, some (.own []), some (.own ys)]) := by
    intro b' ys v h
    and_intros
    exact ⟨ys, b', rfl, rfl, h.1, h.2⟩
  rcases hp with rfl | rfl
  · and_intros
    exact ⟨rng_ok (by omega), main _ fin⟩
  · and_intros
    exact ⟨rng_ok (by omega), main _ fin⟩
end K21

set_option linter.all false
set_option maxRecDepth 100000
set_option Elab.async false
namespace K21
open PySem EV
/-- a tuple of texts -/
def rowS (l : List Str) : D := .tuple (l.map .str)
theorem alike_strs : ∀ xs ys : List Str, PySem.W.alikeAll (xs.map .str) (ys.map .str) = true
  | [], _ => by simp [PySem.W.alikeAll]
  | x :: xs, [] => by simp [PySem.W.alikeAll]
  | x :: xs, y :: ys => by
    rw [List.map_cons, List.map_cons, PySem.W.alikeAll, alike_strs xs ys, PySem.W.alike]; rfl
theorem sortOk_rowS (L : List (List Str)) : sortOk (L.map rowS) = true := by
  simp only [sortOk, allAlike, depthOk, Bool.and_eq_true, List.all_eq_true, decide_eq_true_eq]
  refine ⟨⟨fun x hx y hy => ?_, fun x hx => ?_⟩, fun x hx => ?_⟩
  · obtain ⟨i, _, rfl⟩ := List.mem_map.mp hx
    obtain ⟨j, _, rfl⟩ := List.mem_map.mp hy
    rw [rowS, rowS, PySem.W.alike]
    exact alike_strs i j
  · obtain ⟨i, _, rfl⟩ := List.mem_map.mp hx
    rw [rowS, PyData.depth, depth_strs]; omega
  · obtain ⟨i, _, rfl⟩ := List.mem_map.mp hx
    rfl
theorem sortOk_strs (L : List Str) : sortOk (L.map .str) = true := by
  simp only [sortOk, allAlike, depthOk, Bool.and_eq_true, List.all_eq_true, decide_eq_true_eq]
  refine ⟨⟨fun x hx y hy => ?_, fun x hx => ?_⟩, fun x hx => ?_⟩
  · obtain ⟨i, _, rfl⟩ := List.mem_map.mp hx
    obtain ⟨j, _, rfl⟩ := List.mem_map.mp hy
    rfl
  · obtain ⟨i, _, rfl⟩ := List.mem_map.mp hx
    rw [PyData.depth]; omega
  · obtain ⟨i, _, rfl⟩ := List.mem_map.mp hx
    rfl
/-- sorted: the same items -/
theorem sortD_of {α : Type} (φ : α → D) (L : List α) : ∃ L2 : List α, sortD (L.map φ) = L2.map φ ∧ ∀ a ∈ L2, ∃ b ∈ L, φ a = φ b := by
  obtain ⟨L2, e⟩ := mapped φ (xs := sortD (L.map φ)) fun x hx => by
    obtain ⟨i, _, rfl⟩ := List.mem_map.mp ((sortD_perm _).mem_iff.mp hx)
    exact ⟨i, rfl⟩
  refine ⟨L2, e, fun a ha => ?_⟩
  have h : φ a ∈ sortD (L.map φ) := by rw [e]; exact List.mem_map.mpr ⟨a, ha, rfl⟩
  obtain ⟨b, hb, q⟩ := List.mem_map.mp ((sortD_perm _).mem_iff.mp h)
  exact ⟨b, hb, q.symm⟩
def Nd (v : Option Sv) : Prop := v = none ∨ ∃ d, v = some (.dat d)
theorem subs_ok (o : List Str) (ho : o.length ≤ 2) : Run F 1 19 [rowS o] fun w io => ∃ L : List (List Str), w = .new (sortD (L.map rowS)) ∧ io = none ∧ L.length ≤ 4 ∧ ∀ l ∈ L, l.length ≤ 2 ∧ ∀ s ∈ l, s ∈ o := by
  refine Run.of (fn := f19) rfl rfl rfl fun N hN => ?_
  show Ok (EV.execs F (callN F N) b19 [some (.dat (.tuple (o.map .str))), none, none, none]) (Fin none _)
  unfold b19
  and_intros
  refine for_ok (fun xs ρ => ∃ (i : Nat) (L : List (List Str)) (v : Option Sv), Nd v ∧ ρ = [some (.dat (.tuple (o.map .str))), some (.own (L.map rowS)), v, none] ∧ xs = (o.drop i).map .str ∧ i ≤ o.length ∧ L.length ≤ 2 ^ i ∧ ∀ l ∈ L, l.length ≤ i ∧ ∀ s ∈ l, s ∈ o) ?_ ?_ _ _ ⟨0, [[]], none, .inl rfl, rfl, rfl, Nat.zero_le _, by simp, by simp⟩
  · rintro ρ ⟨i, L, v, hv, rfl, e, hi, hL, hl⟩
    and_intros
    refine ⟨sortOk_rowS L, L, rfl, trivial, ?_, fun l hl' => ?_⟩
    · have : 2 ^ i ≤ 2 ^ 2 := Nat.pow_le_pow_right (by omega) (by omega)
      omega
    exact ⟨by have := (hl l hl').1; omega, (hl l hl').2⟩
  · rintro x xs ρ ⟨i, L, v, hv, rfl, e, hi, hL, hl⟩
    have il : i < o.length := by
      rcases Nat.lt_or_ge i o.length with q | q
      · exact q
      · rw [List.drop_of_length_le q] at e; cases e
    rw [List.drop_eq_getElem_cons il, List.map_cons] at e
    injection e with e1 e2
    have go : OM (bindT (.one 2) x [some (.dat (.tuple (o.map .str))), some (.own (L.map rowS)), v, none]) fun ρ1 => ρ1 = [some (.dat (.tuple (o.map .str))), some (.own (L.map rowS)), some (.dat x), none] := by
      rcases hv with rfl | ⟨d, rfl⟩ <;> and_intros
    cases hbd : bindT (.one 2) x [some (.dat (.tuple (o.map .str))), some (.own (L.map rowS)), v, none] with
    | none => rw [hbd] at go; exact go
    | some ρ1 =>
      rw [hbd] at go
      have go : ρ1 = _ := go
      subst go
      subst e1
      show Ok _ _
      have p2 : 2 ^ i ≤ 2 := by
        have : i ≤ 1 := by omega
        calc 2 ^ i ≤ 2 ^ 1 := Nat.pow_le_pow_right (by omega) this
          _ = 2 := rfl
      and_intros
      refine comp_map rowS [some (.dat (.tuple (o.map .str))), some (.dat (.list (L.map rowS))), some (.dat (.str o[i])), none] (fun l => some (rowS (l ++ [o[i]]))) _ _ (fun l hl' => ?_) ?_
      · unfold rowS
        and_intros
        have := (hl l hl').1
        refine ⟨by rw [sizeLine_eq]; simp; omega, ?_⟩
        exact ⟨rfl, by simp⟩
      · rw [fm_some, List.nil_append]
        and_intros
        refine ⟨by rw [sizeLine_eq]; simp; omega, i + 1, L ++ L.map (fun l => l ++ [o[i]]), some (.dat (.str o[i])), .inr ⟨.str o[i], rfl⟩, ?_, e2, by omega, ?_, ?_⟩
        · rw [List.map_append, List.map_map]; rfl
        · rw [List.length_append, List.length_map, Nat.pow_succ]; omega
        · intro l hl'
          rcases List.mem_append.mp hl' with q | q
          · exact ⟨by have := (hl l q).1; omega, (hl l q).2⟩
          · obtain ⟨l0, h0, rfl⟩ := List.mem_map.mp q
            refine ⟨by have := (hl l0 h0).1; simp; omega, fun s hs => ?_⟩
            rcases List.mem_append.mp hs with z | z
            · exact (hl l0 h0).2 s z
            · rw [List.mem_singleton.mp z]; exact List.getElem_mem _
end K21

set_option linter.all false
set_option maxRecDepth 100000
set_option Elab.async false
namespace EV
open PySem
/-- a slot that may be written -/
def Fr (v : Option Sv) : Prop := v = none ∨ (∃ d, v = some (.dat d)) ∨ ∃ xs, v = some (.own xs)
theorem os_d {v : Option Sv} (h : Fr v) {ρ : Ro} {d : D} {k : Ro → Prop} (hk : k (some (.dat d) :: ρ)) : OS (v :: ρ) 0 (.dat d) k := by
  rcases h with rfl | ⟨e, rfl⟩ | ⟨e, rfl⟩ <;> exact hk
theorem os_n {v : Option Sv} (h : Fr v) {ρ : Ro} {d : List D} {k : Ro → Prop} (hk : k (some (.own d) :: ρ)) : OS (v :: ρ) 0 (.new d) k := by
  rcases h with rfl | ⟨e, rfl⟩ | ⟨e, rfl⟩ <;> exact hk
theorem Fr.d (d : D) : Fr (some (.dat d)) := .inr (.inl ⟨d, rfl⟩)
theorem Fr.o (d : List D) : Fr (some (.own d)) := .inr (.inr ⟨d, rfl⟩)
theorem Fr.n : Fr none := .inl rfl
theorem cp_cons {bnd : D → Ro → Option Ro} {test : Ro → Res (Bool × Ro)} {elt : Ro → Res (D × Ro)} {is : List Nat} {k : List D × Ro → Prop} (x : D) (xs : List D) (ρ : Ro) (acc : List D) : Ok (compL bnd test elt is (x :: xs) ρ acc) k =
    OM (bnd x ρ) fun ρ1 => Ok (test ρ1) fun p => OI p.1 (Ok (elt p.2) fun q => Ok (compL bnd test elt is xs (wipeR q.2 is) (acc ++ [q.1])) k) (Ok (compL bnd test elt is xs (wipeR p.2 is) acc) k) := by
  show Ok ((Res.of (bnd x ρ)).bind _) k = _
  rw [ok_bind, ok_ofM0]
  congr 1; funext ρ1
  rw [ok_bind, ok_noExc]
  congr 1; funext p
  rw [ok_if, ok_bind, ok_noExc]
theorem cp_nil {bnd : D → Ro → Option Ro} {test : Ro → Res (Bool × Ro)} {elt : Ro → Res (D × Ro)} {is : List Nat} {k : List D × Ro → Prop} (ρ : Ro) (acc : List D) : Ok (compL bnd test elt is [] ρ acc) k = k (acc, ρ) := rfl
theorem chars_map (x : Str) : chars x = (x.cps.toList.map fun c => (⟨#[c]⟩ : Str)).map .str := by
  unfold chars
  rw [List.map_map]; rfl
theorem sortD_strs (ns : List Str) : ∃ ms : List Str, sortD (ns.map .str) = ms.map .str ∧ ms.Perm ns := by
  obtain ⟨ms, e⟩ := mapped (fun i : Str => (PyData.str i : D)) (xs := sortD (ns.map .str)) fun x hx => by
    obtain ⟨i, _, rfl⟩ := List.mem_map.mp ((sortD_perm _).mem_iff.mp hx)
    exact ⟨i, rfl⟩
  refine ⟨ms, e, ?_⟩
  have p := sortD_perm (ns.map .str)
  rw [e] at p
  have q := p.map (fun d => match d with | .str i => i | _ => Str.empty)
  simpa [List.map_map, Function.comp_def] using q
end EV
namespace K21
open PySem EV
def letters : List Str := (Str.ofString "fbgchdaeik").cps.toList.map fun c => (⟨#[c]⟩ : Str)
theorem letters_nd : letters.Nodup := by decide +kernel
theorem letters_ok : StrsOk letters := by
  intro s hs
  have h : letters.all PyData.strOk = true := by decide +kernel
  exact List.all_eq_true.mp h s hs
theorem letters_len : letters.length = 10 := by decide +kernel
/-- the names of the sheets: all unlike -/
structure Wide (O : List (List Str)) : Prop where
  pm : ∃ bag, (O.flatten ++ bag).Perm letters
  ln : ∀ o ∈ O, 1 ≤ o.length ∧ o.length ≤ 2
theorem Wide.ok {O : List (List Str)} (h : Wide O) : ∀ o ∈ O, StrsOk o := by
  obtain ⟨bag, p⟩ := h.pm
  intro o ho s hs
  exact letters_ok s (p.mem_iff.mp (List.mem_append_left _ (List.mem_flatten.mpr ⟨o, ho, hs⟩)))
theorem Wide.nd {O : List (List Str)} (h : Wide O) : O.flatten.Nodup := by
  obtain ⟨bag, p⟩ := h.pm
  exact (List.nodup_append.mp (p.nodup_iff.mpr letters_nd)).1
/-! ### the book's sizes and names -/
abbrev bkR (b : List D) (v2 v3 v4 : Option Sv) (bag found : List D) (t : Ro) : Ro := some (.io b) :: some (.dat (.int 3)) :: v2 :: v3 :: v4 :: some (.own bag) :: some (.own found) :: t
abbrev no9 : Ro := [none, none, none, none, none, none, none, none, none]
abbrev no10 : Ro := [none, none, none, none, none, none, none, none, none, none]
theorem sizes_ok {N m : Nat} (hN : 1 ≤ N) (hm : m + 10 < 2 ^ 40) (bag : List D) : ∀ (xs : List D) (b : List D) (sz : List Int) (K : List D × Ro → Prop), Bx (m + sz.length) b → sz.length + xs.length ≤ 3 → (∀ s ∈ sz, s = 1 ∨ s = 2) →
    (∀ (b' : List D) (sz' : List Int), Bx (m + 3) b' → (∀ s ∈ sz', s = 1 ∨ s = 2) → sz'.length = sz.length + xs.length → K (sz'.map .int, bkR b' none none none bag [] no10)) →
    Ok (compL (bindT (.one 12)) (EV.evC F (callN F N) .no) (datOf (EV.ev F (callN F N) (.op2 .add (.cst (.int 1)) (.call 13 (.cons (.var 0) (.cons (.cst (.int 2)) .nil)))))) [12] xs (bkR b none none none bag [] no10) (sz.map .int)) K
  | [], b, sz, K, hb, hl, hs, hK => by
    rw [cp_nil]
    simp at hl
    exact hK b sz (hb.mono (by omega)) hs (by simp)
  | x :: xs, b, sz, K, hb, hl, hs, hK => by
    rw [List.length_cons] at hl
    rw [cp_cons]
    and_intros
    refine call_ok rfl rfl rfl (take_ok hb (by omega) (by omega) (by omega) N hN) ?_
    rintro w r ⟨k, b', rfl, rfl, hb', k0, k1⟩
    and_intros
    have e : sz.map (fun i => (.int i : D)) ++ [.int (1 + k)] = (sz ++ [1 + k]).map .int := by simp
    rw [e]
    refine sizes_ok hN hm bag xs b' (sz ++ [1 + k]) K (hb'.mono (by simp; omega)) (by simp; omega) (fun s hs' => ?_) fun b2 sz2 h1 h2 h3 => hK b2 sz2 h1 h2 (by rw [h3]; simp; omega)
    rcases List.mem_append.mp hs' with q | q
    · exact hs s q
    · rw [List.mem_singleton.mp q]; omega
/-- one more sheet's names -/
theorem pops_ok {N : Nat} (b : List D) (v2 : Option Sv) (s : Int) (hs : s = 1 ∨ s = 2) (bag : List Str) (hb : 2 ≤ bag.length) (K : W × Ro → Prop)
    (hK : ∀ o bag', (o ++ bag').Perm bag → 1 ≤ o.length ∧ o.length ≤ 2 → K (.dat (rowS o), bkR b v2 none none (bag'.map .str) [] (some (.dat (.int s)) :: no9))) :
    Ok (EV.ev F (callN F N) (.bi .tuple (.cons (.bi .sorted (.cons (.comp (.one 12) (.range1 (.var 7)) .no (.meth .popAt 5 (.cons (.cst (.int 0)) .nil))) .nil)) .nil)) (bkR b v2 none none (bag.map .str) [] (some (.dat (.int s)) :: no9))) K := by
  match bag, hb with
  | x :: y :: bag, _ =>
    have r1 : rangeD 0 1 = [.int 0] := rfl
    have r2 : rangeD 0 2 = [.int 0, .int 1] := rfl
    rcases hs with rfl | rfl
    · and_intros
      refine ⟨by rw [sizeLine_eq]; decide, ?_⟩
      rw [r1, cp_cons]
      simp only [wipeR, Tg.slots, List.foldr_cons, List.foldr_nil, List.set_cons_succ, List.set_cons_zero, List.map_cons]
      and_intros
      simp only [wipeR, Tg.slots, List.foldr_cons, List.foldr_nil, List.set_cons_succ, List.set_cons_zero, List.nil_append, cp_nil]
      and_intros
      obtain ⟨ms, e, p⟩ := sortD_strs [x]
      have e : sortD [.str x] = ms.map .str := e
      rw [e]
      refine ⟨sortOk_strs [x], hK ms (y :: bag) (p.append_right _) ?_⟩
      have := p.length_eq; simp at this; omega
    · and_intros
      refine ⟨by rw [sizeLine_eq]; decide, ?_⟩
      rw [r2, cp_cons]
      simp only [wipeR, Tg.slots, List.foldr_cons, List.foldr_nil, List.set_cons_succ, List.set_cons_zero, List.map_cons]
      and_intros
      rw [cp_cons]
      simp only [wipeR, Tg.slots, List.foldr_cons, List.foldr_nil, List.set_cons_succ, List.set_cons_zero, List.map_cons]
      and_intros
      simp only [wipeR, Tg.slots, List.foldr_cons, List.foldr_nil, List.set_cons_succ, List.set_cons_zero, List.nil_append, List.cons_append, cp_nil]
      and_intros
      obtain ⟨ms, e, p⟩ := sortD_strs [x, y]
      have e : sortD [.str x, .str y] = ms.map .str := e
      rw [e]
      refine ⟨sortOk_strs [x, y], hK ms bag (p.append_right _) ?_⟩
      have := p.length_eq; simp at this; omega
theorem wide_ok {N : Nat} (b : List D) (v2 : Option Sv) : ∀ (zs : List Int) (O : List (List Str)) (bag : List Str) (K : List D × Ro → Prop), (∀ s ∈ zs, s = 1 ∨ s = 2) → (O.flatten ++ bag).Perm letters → (∀ o ∈ O, 1 ≤ o.length ∧ o.length ≤ 2) → O.length + zs.length ≤ 3 →
    (∀ (O' : List (List Str)) (bag' : List Str), Wide O' → O'.length = O.length + zs.length → K (O'.map rowS, bkR b v2 none none (bag'.map .str) [] no10)) →
    Ok (compL (bindT (.one 7)) (EV.evC F (callN F N) .no) (datOf (EV.ev F (callN F N) (.bi .tuple (.cons (.bi .sorted (.cons (.comp (.one 12) (.range1 (.var 7)) .no (.meth .popAt 5 (.cons (.cst (.int 0)) .nil))) .nil)) .nil)))) [7] (zs.map .int) (bkR b v2 none none (bag.map .str) [] no10) (O.map rowS)) K
  | [], O, bag, K, _, pm, ho, _, hK => by
    rw [List.map_nil, cp_nil]
    exact hK O bag ⟨⟨bag, pm⟩, ho⟩ (by simp)
  | s :: zs, O, bag, K, hz, pm, ho, hl, hK => by
    rw [List.length_cons] at hl
    have bl : 2 ≤ bag.length := by
      have e := pm.length_eq
      rw [List.length_append, letters_len] at e
      have f : O.flatten.length ≤ 2 * O.length := by
        clear hK pm e hl
        induction O with
        | nil => simp
        | cons o O ih =>
          have h1 := (ho o List.mem_cons_self).2
          have h2 := ih fun o h => ho o (List.mem_cons_of_mem _ h)
          simp only [List.flatten_cons, List.length_append, List.length_cons]; omega
      omega
    rw [List.map_cons, cp_cons]
    simp only [↓EV.bnd_one, ↓EV.os_s, ↓EV.os_nd, ↓EV.cc_no, ↓EV.oi_true, ↓EV.t_dat]
    refine pops_ok b v2 s (hz s List.mem_cons_self) bag bl _ fun o bag' p h => ?_
    and_intros
    have e : O.map rowS ++ [rowS o] = (O ++ [o]).map rowS := by simp
    rw [e]
    refine wide_ok b v2 zs (O ++ [o]) bag' K (fun z hz' => hz z (List.mem_cons_of_mem _ hz')) ?_ ?_ (by simp; omega) fun O' bag2 h1 h2 => hK O' bag2 h1 (by rw [h2]; simp; omega)
    · rw [List.flatten_append, List.flatten_singleton, List.append_assoc]
      exact (p.append_left _).trans pm
    · intro z hz'
      rcases List.mem_append.mp hz' with q | q
      · exact ho z q
      · rw [List.mem_singleton.mp q]; exact h
end K21

set_option linter.all false
set_option maxRecDepth 100000
set_option Elab.async false
namespace K21
open PySem EV
def pairD (p : List Str × Str) : D := .tuple [rowS p.1, .str p.2]
abbrev fr (b : List D) (v2 v3 v4 v5 v6 v7 v8 v9 v10 v11 v13 v15 : Option Sv) : Ro := [some (.io b), some (.dat (.int 3)), v2, v3, v4, v5, v6, v7, v8, v9, v10, v11, none, v13, none, v15, none]
theorem lay_rowS {l : List Str} (h : StrsOk l) : (rowS l).canLay0 = true := by
  rw [rowS, PyData.canLay0]; exact layAll_strs h
theorem depth_rowS (l : List Str) : (rowS l).depth = 1 := by
  rw [rowS, PyData.depth, depth_strs]
theorem rowS_inj {a b : List Str} (h : rowS a = rowS b) : a = b := by
  unfold rowS at h
  injection h with h
  exact (List.map_inj_right (fun _ _ q => by cases q; rfl)).mp h
theorem sortOk_pair (L : List (List Str × Str)) : sortOk (L.map pairD) = true := by
  simp only [sortOk, allAlike, depthOk, Bool.and_eq_true, List.all_eq_true, decide_eq_true_eq]
  refine ⟨⟨fun x hx y hy => ?_, fun x hx => ?_⟩, fun x hx => ?_⟩
  · obtain ⟨i, _, rfl⟩ := List.mem_map.mp hx
    obtain ⟨j, _, rfl⟩ := List.mem_map.mp hy
    rw [pairD, pairD, PySem.W.alike, PySem.W.alikeAll, rowS, rowS, PySem.W.alike, alike_strs, PySem.W.alikeAll, PySem.W.alike]
    rfl
  · obtain ⟨i, _, rfl⟩ := List.mem_map.mp hx
    rw [pairD, PyData.depth, PyData.depthAll, depth_rowS, PyData.depthAll, PyData.depth, PyData.depthAll]; decide
  · obtain ⟨i, _, rfl⟩ := List.mem_map.mp hx
    rfl
/-- the rules of a sheet -/
theorem rules_ok {N : Nat} (hN : 1 ≤ N) (o : List Str) (ho : StrsOk o) (v2 v3 v4 v5 v6 v8 v9 v10 v11 v13 v15 : Option Sv) : ∀ (ts : List Str) (m : Nat) (b : List D) (R : List (List Str × Str)) (K : List D × Ro → Prop), Bx m b → m + ts.length < 2 ^ 40 → (∀ t ∈ ts, t ∈ o) → (∀ p ∈ R, StrsOk p.1 ∧ PyData.strOk p.2 = true) →
    (∀ (b' : List D) (R' : List (List Str × Str)), Bx (m + ts.length) b' → (∀ p ∈ R', StrsOk p.1 ∧ PyData.strOk p.2 = true) → K (R'.map pairD, fr b' v2 v3 v4 v5 v6 (some (.dat (rowS o))) v8 v9 v10 v11 v13 v15)) →
    Ok (compL (bindT (.one 14)) (EV.evC F (callN F N) (.yes (.op2 .eq (.call 13 (.cons (.var 0) (.cons (.cst (.int 5)) .nil))) (.cst (.int 0))))) (datOf (EV.ev F (callN F N) (.tup (.cons (.bi .tuple (.cons (.comp (.one 16) (.seq (.var 7)) (.yes (.op2 .ne (.var 16) (.var 14))) (.var 16)) .nil)) (.cons (.var 14) .nil))))) [14] (ts.map .str) (fr b v2 v3 v4 v5 v6 (some (.dat (rowS o))) v8 v9 v10 v11 v13 v15) (R.map pairD)) K
  | [], m, b, R, K, hb, hm, ht, hR, hK => by
    rw [List.map_nil, cp_nil]
    exact hK b R hb hR
  | t :: ts, m, b, R, K, hb, hm, ht, hR, hK => by
    rw [List.length_cons] at hm
    rw [List.map_cons, cp_cons]
    and_intros
    refine call_ok rfl rfl rfl (take_ok hb (by omega) (by omega) (by omega) N hN) ?_
    rintro w r ⟨k, b', rfl, rfl, hb', k0, k1⟩
    have hto : PyData.strOk t = true := ho t (ht t List.mem_cons_self)
    and_intros
    refine ⟨fun e => ?_, fun e => ?_⟩
    · unfold rowS
      and_intros
      refine comp_map (fun s : Str => (.str s : D)) [some (.io b'), some (.dat (.int 3)), v2, v3, v4, v5, v6, some (.dat (.tuple (o.map .str))), v8, v9, v10, v11, none, v13, some (.dat (.str t)), v15, none] (fun s => if (!decide (s = t)) = true then some (.str s) else none) _ _ (fun s hs => ?_) ?_
      · and_intros
        refine ⟨by rw [ho s hs, hto]; rfl, fun e => ⟨rfl, if_pos e⟩, fun e => ⟨rfl, if_neg (by rw [e]; exact Bool.false_ne_true)⟩⟩
      · rw [filt (fun s : Str => !decide (s = t)), List.nil_append]
        and_intros
        have e2 : R.map pairD ++ [.tuple [.tuple ((o.filter fun s => !decide (s = t)).map .str), .str t]] = (R ++ [(o.filter fun s => !decide (s = t), t)]).map pairD := by
          rw [List.map_append]; rfl
        rw [e2]
        refine rules_ok hN o ho v2 v3 v4 v5 v6 v8 v9 v10 v11 v13 v15 ts (m + 1) b' _ K hb' (by omega) (fun z hz => ht z (List.mem_cons_of_mem _ hz)) (fun p hp => ?_) fun b2 R2 h1 h2 => hK b2 R2 (h1.mono (by simp; omega)) h2
        rcases List.mem_append.mp hp with q | q
        · exact hR p q
        · rw [List.mem_singleton.mp q]
          exact ⟨fun s hs => ho s (List.mem_filter.mp hs).1, hto⟩
    · refine rules_ok hN o ho v2 v3 v4 v5 v6 v8 v9 v10 v11 v13 v15 ts (m + 1) b' R K hb' (by omega) (fun z hz => ht z (List.mem_cons_of_mem _ hz)) hR fun b2 R2 h1 h2 => hK b2 R2 (h1.mono (by simp; omega)) h2
/-- the keys -/
theorem keys_ok {N : Nat} (hN : 1 ≤ N) (v2 v3 v4 v5 v6 v7 v8 v9 v10 v11 v13 v15 : Option Sv) : ∀ (L : List (List Str)) (m : Nat) (b : List D) (A : List (List Str)) (K : List D × Ro → Prop), Bx m b → m + L.length < 2 ^ 40 →
    (∀ (b' : List D) (A' : List (List Str)), Bx (m + L.length) b' → (∀ l ∈ A', l ∈ A ∨ l ∈ L) → K (A'.map rowS, fr b' v2 v3 v4 v5 v6 v7 v8 v9 v10 v11 v13 none)) →
    Ok (compL (bindT (.one 15)) (EV.evC F (callN F N) (.yes (.op2 .eq (.call 13 (.cons (.var 0) (.cons (.cst (.int 3)) .nil))) (.cst (.int 0))))) (datOf (EV.ev F (callN F N) (.var 15))) [15] (L.map rowS) (fr b v2 v3 v4 v5 v6 v7 v8 v9 v10 v11 v13 none) (A.map rowS)) K
  | [], m, b, A, K, hb, hm, hK => by
    rw [List.map_nil, cp_nil]
    exact hK b A hb fun l hl => .inl hl
  | t :: ts, m, b, A, K, hb, hm, hK => by
    rw [List.length_cons] at hm
    rw [List.map_cons, cp_cons]
    and_intros
    refine call_ok rfl rfl rfl (take_ok hb (by omega) (by omega) (by omega) N hN) ?_
    rintro w r ⟨k, b', rfl, rfl, hb', k0, k1⟩
    and_intros
    refine ⟨fun e => ?_, fun e => ?_⟩
    · have e2 : A.map rowS ++ [rowS t] = (A ++ [t]).map rowS := by rw [List.map_append]; rfl
      rw [e2]
      refine keys_ok hN v2 v3 v4 v5 v6 v7 v8 v9 v10 v11 v13 v15 ts (m + 1) b' _ K hb' (by omega) fun b2 A2 h1 h2 => hK b2 A2 (h1.mono (by simp; omega)) fun l hl => ?_
      rcases h2 l hl with q | q
      · rcases List.mem_append.mp q with q | q
        · exact .inl q
        · exact .inr (by rw [List.mem_singleton.mp q]; exact List.mem_cons_self)
      · exact .inr (List.mem_cons_of_mem _ q)
    · refine keys_ok hN v2 v3 v4 v5 v6 v7 v8 v9 v10 v11 v13 v15 ts (m + 1) b' A K hb' (by omega) fun b2 A2 h1 h2 => hK b2 A2 (h1.mono (by simp; omega)) fun l hl => ?_
      rcases h2 l hl with q | q
      · exact .inl q
      · exact .inr (List.mem_cons_of_mem _ q)
end K21

set_option linter.all false
set_option maxRecDepth 100000
set_option Elab.async false
namespace K21
open PySem EV
def bMain : Ss := (.cons (.asg 7 (.idx (.var 3) (.var 4))) (.cons (.asg 8 (.comp (.one 14) (.seq (.var 7)) (.yes (.op2 .eq (.call 13 (.cons (.var 0) (.cons (.cst (.int 5)) .nil))) (.cst (.int 0)))) (.tup (.cons (.bi .tuple (.cons (.comp (.one 16) (.seq (.var 7)) (.yes (.op2 .ne (.var 16) (.var 14))) (.var 16)) .nil)) (.cons (.var 14) .nil))))) (.cons (.asg 9 (.slc (.bi .tuple (.cons (.comp (.one 15) (.seq (.call 19 (.cons (.var 7) .nil))) (.yes (.op2 .eq (.call 13 (.cons (.var 0) (.cons (.cst (.int 3)) .nil))) (.cst (.int 0)))) (.var 15)) .nil)) .no (.yes (.cst (.int 2))))) (.cons (.asg 10 (.lst .nil)) (.cons (.for_ (.one 11) (.range2 (.op2 .add (.var 4) (.cst (.int 1))) (.bi .len (.cons (.var 3) .nil))) (.cons (.asg 13 (.comp (.one 15) (.seq (.idx (.idx (.var 6) (.op2 .sub (.op2 .sub (.var 11) (.var 4)) (.cst (.int 1)))) (.cst (.int 2)))) (.yes (.op2 .le (.bi .len (.cons (.var 15) .nil)) (.bi .len (.cons (.var 7) .nil)))) (.var 15))) (.cons (.ite (.bop true (.cons (.op2 .ne (.var 13) (.lst .nil)) (.cons (.op2 .gt (.call 13 (.cons (.var 0) (.cons (.cst (.int 3)) .nil))) (.cst (.int 0))) .nil))) (.cons (.asg 15 (.call 17 (.cons (.var 0) (.cons (.var 13) .nil)))) (.cons (.expr (.meth .append 10 (.cons (.tup (.cons (.var 11) (.cons (.bi .tuple (.cons (.slc (.call 18 (.cons (.var 0) (.cons (.var 7) .nil))) .no (.yes (.bi .len (.cons (.var 15) .nil)))) .nil)) (.cons (.var 15) .nil)))) .nil))) .nil)) .nil) .nil))) (.cons (.asg 6 (.op2 .add (.lst (.cons (.tup (.cons (.var 7) (.cons (.bi .tuple (.cons (.bi .sorted (.cons (.var 8) .nil)) .nil)) (.cons (.var 9) (.cons (.bi .tuple (.cons (.var 10) .nil)) .nil))))) .nil)) (.var 6))) .nil))))))
def bTies : Ss := (.cons (.asg 13 (.comp (.one 15) (.seq (.idx (.idx (.var 6) (.op2 .sub (.op2 .sub (.var 11) (.var 4)) (.cst (.int 1)))) (.cst (.int 2)))) (.yes (.op2 .le (.bi .len (.cons (.var 15) .nil)) (.bi .len (.cons (.var 7) .nil)))) (.var 15))) (.cons (.ite (.bop true (.cons (.op2 .ne (.var 13) (.lst .nil)) (.cons (.op2 .gt (.call 13 (.cons (.var 0) (.cons (.cst (.int 3)) .nil))) (.cst (.int 0))) .nil))) (.cons (.asg 15 (.call 17 (.cons (.var 0) (.cons (.var 13) .nil)))) (.cons (.expr (.meth .append 10 (.cons (.tup (.cons (.var 11) (.cons (.bi .tuple (.cons (.slc (.call 18 (.cons (.var 0) (.cons (.var 7) .nil))) .no (.yes (.bi .len (.cons (.var 15) .nil)))) .nil)) (.cons (.var 15) .nil)))) .nil))) .nil)) .nil) .nil))
def aOut : Ss := (.cons (.for_ (.one 7) (.seq (.slc (.var 3) (.yes (.op2 .add (.var 5) (.cst (.int 1)))) .no)) (.cons (.asg 8 (.op2 .eq (.comp (.one 10) (.seq (.var 1)) (.yes (.bop true (.cons (.op2 .isin (.var 6) (.idx (.var 10) (.cst (.int 0)))) (.cons (.op2 .isin (.var 7) (.idx (.var 10) (.cst (.int 0)))) .nil)))) (.var 10)) (.lst .nil))) (.cons (.ite (.bop true (.cons (.var 8) (.cons (.op2 .eq (.call 13 (.cons (.var 0) (.cons (.cst (.int 4)) .nil))) (.cst (.int 0))) .nil))) (.cons (.expr (.meth .append 4 (.cons (.tup (.cons (.var 6) (.cons (.var 7) .nil))) .nil))) .nil) .nil) .nil))) .nil)
def aIn : Ss := (.cons (.asg 8 (.op2 .eq (.comp (.one 10) (.seq (.var 1)) (.yes (.bop true (.cons (.op2 .isin (.var 6) (.idx (.var 10) (.cst (.int 0)))) (.cons (.op2 .isin (.var 7) (.idx (.var 10) (.cst (.int 0)))) .nil)))) (.var 10)) (.lst .nil))) (.cons (.ite (.bop true (.cons (.var 8) (.cons (.op2 .eq (.call 13 (.cons (.var 0) (.cons (.cst (.int 4)) .nil))) (.cst (.int 0))) .nil))) (.cons (.expr (.meth .append 4 (.cons (.tup (.cons (.var 6) (.cons (.var 7) .nil))) .nil))) .nil) .nil) .nil))
/-- a sheet of the names o -/
structure Sheet (o : List Str) (b : D) : Prop where
  ex : ∃ (R : List D) (KL : List (List Str)) (T : List D), b = .tuple [rowS o, .tuple R, .tuple (KL.map rowS), .tuple T] ∧ KL.length ≤ 4 ∧ ∀ l ∈ KL, l.length ≤ 2 ∧ StrsOk l
  lay : b.canLay0 = true
  dp : b.depth ≤ 6
def TieOk (d : D) : Prop := d.canLay0 = true ∧ d.depth ≤ 2
theorem lfs_strs : ∀ l : List Str, lfs (l.map .str) = true
  | [] => by simp [lfs]
  | s :: l => by rw [List.map_cons, lfs, lfs_strs l, lf]; rfl
theorem lf_rowS (l : List Str) : lf (rowS l) = true := by
  rw [rowS, lf]; exact lfs_strs l
theorem lfs_bx {m : Nat} {b : List D} (h : Bx m b) : lfs b = true := by
  obtain ⟨a, c, n, rfl, _⟩ := h
  simp [lfs, lf]
theorem ties_ok {N : Nat} (hN : 2 ≤ N) (o : List Str) (ho : StrsOk o) (hol : o.length ≤ 2) (k : Int) (O : List (List Str)) (Bs : List D) (hB : ∀ (i : Nat), i < Bs.length → ∃ o' b, Bs[i]? = some b ∧ Sheet o' b) (v2 v3 v5 v8 v9 : Option Sv) (K : EV.Flow × Ro → Prop) :
    ∀ (xs : List D) (m : Nat) (b T : List D) (v11 v13 v15 : Option Sv), Bx m b → m + 4 * xs.length < 2 ^ 40 → T.length + xs.length < 100 → (∀ x ∈ xs, ∃ i : Nat, x = .int (k + 1 + i) ∧ i < Bs.length) → (∀ t ∈ T, TieOk t) → Fr v11 → Fr v13 → Fr v15 →
    (∀ (b' T' : List D) (v11 v13 v15 : Option Sv), Bx (m + 4 * xs.length) b' → (∀ t ∈ T', TieOk t) → Fr v11 → Fr v13 → Fr v15 → K (.next, fr b' v2 v3 (some (.dat (.int k))) v5 (some (.own Bs)) (some (.dat (rowS o))) v8 v9 (some (.own T')) v11 v13 v15)) →
    Ok (forL (bindT (.one 11)) (EV.execs F (callN F N) bTies) xs (fr b v2 v3 (some (.dat (.int k))) v5 (some (.own Bs)) (some (.dat (rowS o))) v8 v9 (some (.own T)) v11 v13 v15)) K := by
  intro xs
  induction xs with
  | nil =>
    intro m b T v11 v13 v15 hb hm hl hx hT h11 h13 h15 hK
    exact hK b T v11 v13 v15 hb hT h11 h13 h15
  | cons x xs ih =>
    intro m b T v11 v13 v15 hb hm hl hx hT h11 h13 h15 hK
    rw [List.length_cons] at hm hl
    obtain ⟨i, rfl, hi⟩ := hx x List.mem_cons_self
    obtain ⟨o', sb, e1, hsb⟩ := hB i hi
    obtain ⟨R, KL, T2, rfl, hk4, hKL⟩ := hsb.ex
    have next : ∀ (m' : Nat) (b' T' : List D) (v11 v13 v15 : Option Sv), Bx m' b' → m' ≤ m + 4 → T'.length ≤ T.length + 1 → (∀ t ∈ T', TieOk t) → Fr v11 → Fr v13 → Fr v15 → Ok (forL (bindT (.one 11)) (EV.execs F (callN F N) bTies) xs (fr b' v2 v3 (some (.dat (.int k))) v5 (some (.own Bs)) (some (.dat (rowS o))) v8 v9 (some (.own T')) v11 v13 v15)) K := by
      intro m' b' T' w11 w13 w15 hb' hm' hl' hT' g11 g13 g15
      exact ih m' b' T' w11 w13 w15 hb' (by omega) (by omega) (fun y hy => hx y (List.mem_cons_of_mem _ hy)) hT' g11 g13 g15 fun b2 T2 u11 u13 u15 a1 a2 a3 a4 a5 => hK b2 T2 u11 u13 u15 (a1.mono (by simp only [List.length_cons]; omega)) a2 a3 a4 a5
    show Ok ((Res.of (bindT (.one 11) _ _)).bind _) K
    rw [ok_bind, ok_ofM0]
    and_intros
    refine os_d h11 ?_
    rw [ok_bind]
    unfold bTies
    and_intros
    have ix : k + 1 + (i : Int) - k - 1 = (i : Int) := by omega
    rw [ix, at_nat (by omega) (by omega)]
    have e2 : Bs.getD (i : Int).toNat .none = .tuple [rowS o', .tuple R, .tuple (KL.map rowS), .tuple T2] := by
      rw [Int.toNat_natCast, List.getD_eq_getElem?_getD, e1]; rfl
    rw [e2]
    and_intros
    refine comp_map rowS [some (.io b), some (.dat (.int 3)), v2, v3, some (.dat (.int k)), v5, some (.own Bs), some (.dat (rowS o)), v8, v9, some (.own T), some (.dat (.int (k + 1 + i))), none, v13, none, none, none] (fun l => if decide ((l.length : Int) ≤ o.length) = true then some (rowS l) else none) _ _ (fun l hl' => ?_) ?_
    · unfold rowS
      and_intros
      simp only [List.length_map]
      exact ⟨fun e => ⟨rfl, if_pos e⟩, fun e => ⟨rfl, if_neg (by rw [e]; exact Bool.false_ne_true)⟩⟩
    · rw [filt (fun l : List Str => decide ((l.length : Int) ≤ o.length)), List.nil_append]
      and_intros
      refine os_n h13 ?_
      and_intros
      rw [om_ne, eqv_nil]
      have hfit : ∀ x ∈ (KL.filter fun l : List Str => decide ((l.length : Int) ≤ o.length)).map rowS, ∃ l ∈ KL, x = rowS l ∧ l.length ≤ o.length := fun x hx => by
        obtain ⟨l, h1, rfl⟩ := List.mem_map.mp hx
        obtain ⟨h2, h3⟩ := List.mem_filter.mp h1
        exact ⟨l, h2, rfl, by have := of_decide_eq_true h3; omega⟩
      have hfl : ((KL.filter fun l : List Str => decide ((l.length : Int) ≤ o.length)).map rowS).length < 1000 := by
        rw [List.length_map]
        have h1 := List.length_filter_le (fun l : List Str => decide ((l.length : Int) ≤ o.length)) KL
        omega
      generalize (KL.filter fun l : List Str => decide ((l.length : Int) ≤ o.length)).map rowS = fit at *
      refine ⟨by
        unfold eqOk
        rw [shaped_of (fun x hx => ?_) (fun x hx => ?_)]
        · rfl
        · obtain ⟨l, h1, rfl, _⟩ := hfit x hx; exact lay_rowS (hKL l h1).2
        · obtain ⟨l, h1, rfl, _⟩ := hfit x hx; rw [depth_rowS]; omega, ?_⟩
      and_intros
      cases he : fit.isEmpty with
      | true =>
        simp only [Bool.not_true]
        and_intros
        exact next m b T _ _ _ hb (by omega) (by omega) hT (.d _) (.o _) h15
      | false =>
        simp only [Bool.not_false]
        and_intros
        refine call_ok rfl rfl rfl (take_ok hb (by omega) (by omega) (by omega) N (by omega)) ?_
        rintro w r ⟨c, b1, rfl, rfl, hb1, c0, c1⟩
        and_intros
        refine ⟨fun hc => ?_, fun hc => next (m + 1) b1 T _ _ _ hb1 (by omega) (by omega) hT (.d _) (.o _) h15⟩
        have fne : fit ≠ [] := fun z => by rw [z] at he; cases he
        refine call_okC rfl rfl rfl (of_ok hb1 (by omega) fne hfl (.list fit) (.inr rfl) N (by omega)) ?_
        rintro w r ⟨x, b2, rfl, rfl, hb2, hxm⟩
        obtain ⟨l, h1, rfl, hll⟩ := hfit x hxm
        refine ⟨by show (lf (rowS l) && lfs b2) = true; rw [lf_rowS, lfs_bx hb2]; rfl, ?_⟩
        and_intros
        refine os_d h15 ?_
        unfold rowS
        and_intros
        refine call_ok rfl rfl rfl (mixed_ok (xs := o.map .str) hb2 (by rw [List.length_map]; omega) (by rw [List.length_map]; omega) (.tuple (o.map .str)) (.inl rfl) N (by omega)) ?_
        rintro w r ⟨ys, b3, rfl, rfl, hb3, pm⟩
        rw [List.length_map] at hb3
        have hys : ∀ y ∈ ys, y.canLay0 = true ∧ y.depth = 0 := fun y hy => by
          obtain ⟨s, hs, rfl⟩ := List.mem_map.mp (pm.mem_iff.mp hy)
          rw [PyData.canLay0, PyData.depth]
          exact ⟨ho s hs, rfl⟩
        and_intros
        rw [cut_to]
        and_intros
        refine ⟨by rw [sizeLine_eq]; omega, ?_⟩
        refine next (m + 1 + 1 + o.length) b3 _ _ _ _ hb3 (by omega) (by simp) (fun t ht => ?_) (.d _) (.o _) (.d _)
        rcases List.mem_append.mp ht with q | q
        · exact hT t q
        · rw [List.mem_singleton.mp q]
          have hy2 : ∀ y ∈ ys.take (l.map PyData.str).length, y.canLay0 = true ∧ y.depth = 0 := fun y hy => hys y (List.mem_of_mem_take hy)
          refine ⟨?_, ?_⟩
          · rw [PyData.canLay0, PyData.canLayAll0, PyData.canLay0, PyData.canLayAll0, PyData.canLay0, layAll_of fun y hy => (hy2 y hy).1, PyData.canLayAll0, PyData.canLay0, layAll_strs (hKL l h1).2, PyData.canLayAll0]
            rfl
          · have d1 := depthAll_of (n := 0) (xs := ys.take (l.map PyData.str).length) fun y hy => by rw [(hy2 y hy).2]; omega
            rw [PyData.depth, PyData.depthAll, PyData.depth, PyData.depthAll, PyData.depth, PyData.depthAll, PyData.depth, depth_strs, PyData.depthAll]
            omega
end K21

set_option linter.all false
set_option maxRecDepth 100000
set_option Elab.async false
namespace K21
open PySem EV
theorem om_seqR (o : List Str) (k : List D → Prop) : OM (seqD (rowS o)) k = k (o.map .str) := (rfl)
theorem om_lenR (o : List Str) (k : W → Prop) : OM (EV.bi .len [rowS o]) k = k (.dat (.int o.length)) := by
  show k (.dat (.int (o.map PyData.str).length)) = _
  rw [List.length_map]
def dn : Nat → List D
  | 0 => []
  | q + 1 => .int q :: dn q
theorem lay_pair {p : List Str × Str} (h : StrsOk p.1 ∧ PyData.strOk p.2 = true) : (pairD p).canLay0 = true := by
  rw [pairD, PyData.canLay0, PyData.canLayAll0, lay_rowS h.1, PyData.canLayAll0, PyData.canLay0, h.2, PyData.canLayAll0]; rfl
theorem depth_pair (p : List Str × Str) : (pairD p).depth = 2 := by
  rw [pairD, PyData.depth, PyData.depthAll, depth_rowS, PyData.depthAll, PyData.depth, PyData.depthAll]; rfl
theorem sheet_mk {o : List Str} (ho : StrsOk o) {R : List (List Str × Str)} (hR : ∀ p ∈ R, StrsOk p.1 ∧ PyData.strOk p.2 = true) {KL : List (List Str)} (hk : KL.length ≤ 4) (hK : ∀ l ∈ KL, l.length ≤ 2 ∧ StrsOk l) {T : List D} (hT : ∀ t ∈ T, TieOk t) :
    Sheet o (.tuple [rowS o, .tuple (sortD (R.map pairD)), .tuple (KL.map rowS), .tuple T]) := by
  have hr : ∀ x ∈ sortD (R.map pairD), x.canLay0 = true ∧ x.depth ≤ 2 := fun x hx => by
    obtain ⟨p, hp, rfl⟩ := List.mem_map.mp ((sortD_perm _).mem_iff.mp hx)
    exact ⟨lay_pair (hR p hp), by rw [depth_pair]; omega⟩
  have hk2 : ∀ x ∈ KL.map rowS, x.canLay0 = true ∧ x.depth ≤ 1 := fun x hx => by
    obtain ⟨l, hl, rfl⟩ := List.mem_map.mp hx
    exact ⟨lay_rowS (hK l hl).2, by rw [depth_rowS]; omega⟩
  refine ⟨⟨_, KL, T, rfl, hk, hK⟩, ?_, ?_⟩
  · rw [PyData.canLay0, PyData.canLayAll0, lay_rowS ho, PyData.canLayAll0, PyData.canLay0, layAll_of fun x hx => (hr x hx).1, PyData.canLayAll0, PyData.canLay0, layAll_of fun x hx => (hk2 x hx).1, PyData.canLayAll0, PyData.canLay0, layAll_of fun x hx => (hT x hx).1, PyData.canLayAll0]
    rfl
  · have d1 := depthAll_of (n := 2) fun x hx => (hr x hx).2
    have d2 := depthAll_of (n := 1) fun x hx => (hk2 x hx).2
    have d3 := depthAll_of (n := 2) fun x hx => (hT x hx).2
    rw [PyData.depth, PyData.depthAll, depth_rowS, PyData.depthAll, PyData.depth, PyData.depthAll, PyData.depth, PyData.depthAll, PyData.depth, PyData.depthAll]
    omega
theorem main_ok {N : Nat} (hN : 3 ≤ N) (O : List (List Str)) (hO : Wide O) (hn : O.length ≤ 3) (v2 v5 : Option Sv) (K : EV.Flow × Ro → Prop) :
    ∀ (q m : Nat) (b Bs : List D) (v4 v7 v8 v9 v10 v11 v13 v15 : Option Sv), q ≤ O.length → Bx m b → m + 100 * q < 2 ^ 39 → Bs.length + q = O.length → (∀ (i : Nat) (o : List Str), O[q + i]? = some o → ∃ sb, Bs[i]? = some sb ∧ Sheet o sb) →
    Fr v4 → Fr v7 → Fr v8 → Fr v9 → Fr v10 → Fr v11 → Fr v13 → Fr v15 →
    (∀ (b' Bs' : List D) (v4 v7 v8 v9 v10 v11 v13 v15 : Option Sv), Bx (m + 100 * q) b' → Bs'.length = O.length → (∀ (i : Nat) (o : List Str), O[i]? = some o → ∃ sb, Bs'[i]? = some sb ∧ Sheet o sb) → K (.next, fr b' v2 (some (.own (O.map rowS))) v4 v5 (some (.own Bs')) v7 v8 v9 v10 v11 v13 v15)) →
    Ok (forL (bindT (.one 4)) (EV.execs F (callN F N) bMain) (dn q) (fr b v2 (some (.own (O.map rowS))) v4 v5 (some (.own Bs)) v7 v8 v9 v10 v11 v13 v15)) K := by
  intro q
  induction q with
  | zero =>
    intro m b Bs v4 v7 v8 v9 v10 v11 v13 v15 hq hb hm hl hB h4 h7 h8 h9 h10 h11 h13 h15 hK
    exact hK b Bs v4 v7 v8 v9 v10 v11 v13 v15 hb hl fun i o e => hB i o (by rw [Nat.zero_add]; exact e)
  | succ q ih =>
    intro m b Bs v4 v7 v8 v9 v10 v11 v13 v15 hq hb hm hl hB h4 h7 h8 h9 h10 h11 h13 h15 hK
    have hqo : q < O.length := by omega
    have hom := List.getElem_mem hqo
    have ho := hO.ok _ hom
    have hol := (hO.ln _ hom).2
    have next : ∀ (m' : Nat) (b' Bs' : List D) (v4 v7 v8 v9 v10 v11 v13 v15 : Option Sv), Bx m' b' → m' ≤ m + 100 → Bs'.length + q = O.length → (∀ (i : Nat) (o : List Str), O[q + i]? = some o → ∃ sb, Bs'[i]? = some sb ∧ Sheet o sb) → Fr v4 → Fr v7 → Fr v8 → Fr v9 → Fr v10 → Fr v11 → Fr v13 → Fr v15 →
        Ok (forL (bindT (.one 4)) (EV.execs F (callN F N) bMain) (dn q) (fr b' v2 (some (.own (O.map rowS))) v4 v5 (some (.own Bs')) v7 v8 v9 v10 v11 v13 v15)) K := by
      intro m' b' Bs' w4 w7 w8 w9 w10 w11 w13 w15 a1 a2 a3 a4 g4 g7 g8 g9 g10 g11 g13 g15
      exact ih m' b' Bs' w4 w7 w8 w9 w10 w11 w13 w15 (by omega) a1 (by omega) a3 a4 g4 g7 g8 g9 g10 g11 g13 g15 fun b2 B2 u4 u7 u8 u9 u10 u11 u13 u15 c1 c2 c3 => hK b2 B2 u4 u7 u8 u9 u10 u11 u13 u15 (c1.mono (by omega)) c2 c3
    show Ok ((Res.of (bindT (.one 4) (.int (q : Int)) _)).bind _) K
    rw [ok_bind, ok_ofM0]
    and_intros
    refine os_d h4 ?_
    rw [ok_bind]
    unfold bMain
    and_intros
    rw [at_nat (by omega) (by rw [List.length_map]; omega)]
    have e1 : (O.map rowS).getD ((q : Nat) : Int).toNat .none = rowS (O[q]) := by
      rw [Int.toNat_natCast, List.getD_eq_getElem?_getD, List.getElem?_map, List.getElem?_eq_getElem hqo]; rfl
    rw [e1]
    have eO : O[q]? = some O[q] := List.getElem?_eq_getElem hqo
    generalize O[q] = o at *
    and_intros
    refine os_d h7 ?_
    and_intros
    rw [om_seqR]
    refine rules_ok (by omega) o ho v2 (some (.own (O.map rowS))) (some (.dat (.int q))) v5 (some (.own Bs)) v8 v9 v10 v11 v13 v15 o m b [] _ hb (by omega) (fun t ht => ht) (fun p hp => nomatch hp) fun b1 R hb1 hR => ?_
    and_intros
    refine os_n h8 ?_
    and_intros
    refine call_ok rfl rfl rfl (subs_ok o hol N (by omega)) ?_
    rintro w r ⟨L, rfl, rfl, hL4, hL⟩
    and_intros
    obtain ⟨L2, eL, hL2⟩ := sortD_of rowS L
    have hl2 : L2.length ≤ 4 := by
      have := congrArg List.length eL
      rw [(sortD_perm _).length_eq, List.length_map, List.length_map] at this
      omega
    rw [eL]
    refine keys_ok (by omega) v2 (some (.own (O.map rowS))) (some (.dat (.int q))) v5 (some (.own Bs)) (some (.dat (rowS o))) (some (.own (R.map pairD))) v9 v10 v11 v13 v15 L2 (m + o.length) b1 [] _ hb1 (by omega) fun b2 A hb2 hA => ?_
    have hAok : ∀ l ∈ A, l.length ≤ 2 ∧ StrsOk l := fun l hl' => by
      rcases hA l hl' with z | z
      · cases z
      · obtain ⟨l0, h0, e0⟩ := hL2 l z
        rw [rowS_inj e0]
        exact ⟨(hL l0 h0).1, fun s hs => ho s ((hL l0 h0).2 s hs)⟩
    have ec : cutD (A.map rowS) none (some 2) = (A.take 2).map rowS := by
      rw [show (2 : Int) = ((2 : Nat) : Int) from rfl, cut_to, List.map_take]
    and_intros
    rw [ec]
    refine os_d h9 ?_
    and_intros
    refine os_n h10 ?_
    and_intros
    refine ⟨?_, ?_⟩
    · rw [List.length_map, show ((q : Int) + 1) = ((q + 1 : Nat) : Int) from by omega, small62_nat (by omega), small62_nat (by omega), sizeLine_eq]
      simp; omega
    rw [List.length_map]
    have er : ∀ x ∈ rangeD ((q : Int) + 1) O.length, ∃ i : Nat, x = .int ((q : Int) + 1 + i) ∧ i < Bs.length := fun x hx => by
      obtain ⟨i, hi, rfl⟩ := List.mem_map.mp hx
      have := List.mem_range.mp hi
      exact ⟨i, rfl, by omega⟩
    have erl : (rangeD ((q : Int) + 1) O.length).length ≤ 3 := by
      unfold rangeD
      rw [List.length_map, List.length_range]; omega
    have hBs : ∀ (i : Nat), i < Bs.length → ∃ o' sb, Bs[i]? = some sb ∧ Sheet o' sb := fun i hi => by
      have h1 : q + 1 + i < O.length := by omega
      obtain ⟨sb, h2, h3⟩ := hB i _ (List.getElem?_eq_getElem h1)
      exact ⟨_, sb, h2, h3⟩
    refine ties_ok (by omega) o ho hol q O Bs hBs v2 (some (.own (O.map rowS))) v5 (some (.own (R.map pairD))) (some (.dat (.tuple ((A.take 2).map rowS)))) _ _ (m + o.length + L2.length) b2 [] v11 v13 _ hb2 (by omega) (by simp; omega) er (fun t ht => nomatch ht) h11 h13 h15 fun b3 T w11 w13 w15 hb3 hT g11 g13 g15 => ?_
    and_intros
    refine ⟨sortOk_pair R, ?_⟩
    and_intros
    refine ⟨by rw [sizeLine_eq]; simp; omega, ?_⟩
    refine next (m + o.length + L2.length + 4 * (rangeD ((q : Int) + 1) O.length).length) b3 _ _ _ _ _ _ _ _ _ hb3 (by omega) (by simp; omega) (fun i o' e => ?_) (.d _) (.d _) (.o _) (.d _) (.o _) g11 g13 g15
    cases i with
    | zero =>
      rw [Nat.add_zero, eO] at e
      cases e
      exact ⟨_, rfl, sheet_mk ho hR (by have := List.length_take_le 2 A; omega) (fun l hl' => hAok l (List.mem_of_mem_take hl')) hT⟩
    | succ i => exact hB i o' (by rw [← e]; congr 1; omega)
theorem down_dn {n : Nat} (h : n ≤ 3) : downD ((n : Int) - 1) (-1) = dn n := by
  match n, h with
  | 0, _ => rfl
  | 1, _ => rfl
  | 2, _ => rfl
  | 3, _ => rfl
/-- a drawn book -/
structure Book (O : List (List Str)) (B : List D) : Prop where
  wide : Wide O
  n0 : 1 ≤ O.length
  n3 : O.length ≤ 3
  len : B.length = O.length
  at_ : ∀ (i : Nat) (o : List Str), O[i]? = some o → ∃ sb, B[i]? = some sb ∧ Sheet o sb
theorem book_ok {m : Nat} {b : List D} (hb : Bx m b) (hm : m + 1000 < 2 ^ 39) : Run F 4 20 [.list b, .int 3] fun w io => ∃ O B b', w = .dat (.tuple B) ∧ io = some b' ∧ Bx (m + 1000) b' ∧ Book O B := by
  refine Run.of (fn := f20) rfl rfl rfl fun N hN => ?_
  show Ok (EV.execs F (callN F N) b20 [some (.io b), some (.dat (.int 3)), none, none, none, none, none, none, none, none, none, none, none, none, none, none, none]) (Fin (some 0) _)
  unfold b20
  and_intros
  refine ⟨by decide +kernel, ?_⟩
  refine call_ok rfl rfl rfl (take_ok hb (by omega) (by omega) (by omega) N (by omega)) ?_
  rintro w r ⟨k, b1, rfl, rfl, hb1, k0, k1⟩
  and_intros
  obtain ⟨n, rfl⟩ := Int.eq_ofNat_of_zero_le k0
  have e1 : (1 : Int) + (n : Int) = ((n + 1 : Nat) : Int) := by omega
  rw [e1]
  refine ⟨rng_ok (by omega), ?_⟩
  rw [chars_map]
  refine sizes_ok (by omega) (m := m + 1) (by omega) _ (rangeD 0 ((n + 1 : Nat) : Int)) b1 [] _ (by simpa using hb1) (by rw [range_len]; simp; omega) (fun s hs => nomatch hs) fun b2 sz hb2 hsz hlen => ?_
  rw [range_len] at hlen
  and_intros
  refine wide_ok b2 _ sz [] letters _ hsz (by simp) (fun o ho => nomatch ho) (by simp at hlen ⊢; omega) fun O bag hO hOl => ?_
  and_intros
  have hOn : O.length = n + 1 := by simp at hlen hOl; omega
  rw [List.length_map, hOn]
  refine ⟨?_, ?_⟩
  · have e2 : (((n + 1 : Nat) : Int) - 1) = (n : Int) := by omega
    rw [e2, small62_nat (by omega), sizeLine_eq]
    simp [small62]; omega
  rw [down_dn (by omega)]
  refine main_ok (by omega) O hO (by omega) _ _ _ (n + 1) (m + 1 + 3) b2 [] none none none none none none none none (by omega) hb2 (by omega) (by simp; omega) (fun i o e => ?_) .n .n .n .n .n .n .n .n fun b3 B v4 v7 v8 v9 v10 v11 v13 v15 hb3 hBl hB => ?_
  · rw [List.getElem?_eq_none (by omega)] at e; cases e
  · and_intros
    exact ⟨O, B, b3, rfl, rfl, hb3.mono (by omega), hO, by omega, by omega, hBl, hB⟩
end K21

set_option linter.all false
set_option maxRecDepth 100000
set_option Elab.async false
namespace EV
open PySem
theorem cut_mem {x : D} {xs : List D} {a b : Option Int} (h : x ∈ cutD xs a b) : x ∈ xs := by
  unfold cutD at h
  exact List.mem_of_mem_drop (List.mem_of_mem_take h)
theorem cut_len (xs : List D) (a b : Option Int) : (cutD xs a b).length ≤ xs.length := by
  unfold cutD
  rw [List.length_take, List.length_drop]; omega
theorem listL_map : ∀ ls : List (List D), listL (ls.map .list) = some ls
  | [] => rfl
  | l :: ls => by
    show (listL (ls.map .list)).map _ = _
    rw [listL_map ls]; rfl
theorem om_sumL (ls : List (List D)) (k : W → Prop) : OM (EV.bi .sumL [.list (ls.map .list)]) k = (ls.flatten.length ≤ sizeLine ∧ k (.new ls.flatten)) := by
  show OM ((listL _).bind _) k = _
  rw [listL_map]
  exact om_ite _ _
end EV
namespace K21
open PySem EV
theorem Sheet.sht {o : List Str} {b : D} (h : Sheet o b) (ho : StrsOk o) : ShtOk b := by
  obtain ⟨R, KL, T, rfl, _⟩ := h.ex
  exact ⟨o, _, .inl rfl, ho⟩
theorem Sheet.own {o : List Str} {b : D} (h : Sheet o b) : ownS b = o := by
  obtain ⟨R, KL, T, rfl, _⟩ := h.ex
  exact stL_map o
theorem Book.sheet {O : List (List Str)} {B : List D} (h : Book O B) {b : D} (hb : b ∈ B) : ∃ o ∈ O, Sheet o b := by
  obtain ⟨i, hi, e⟩ := List.mem_iff_getElem.mp hb
  have h1 : i < O.length := by have := h.len; omega
  obtain ⟨sb, e2, hs⟩ := h.at_ i _ (List.getElem?_eq_getElem h1)
  rw [List.getElem?_eq_getElem hi] at e2
  cases e2
  exact ⟨_, List.getElem_mem h1, e ▸ hs⟩
theorem Book.sht {O : List (List Str)} {B : List D} (h : Book O B) : ∀ b ∈ B, ShtOk b := fun b hb => by
  obtain ⟨o, ho, hs⟩ := h.sheet hb
  exact hs.sht (h.wide.ok o ho)
theorem Book.lay {O : List (List Str)} {B : List D} (h : Book O B) : ∀ b ∈ B, b.canLay0 = true ∧ b.depth ≤ 6 := fun b hb => by
  obtain ⟨o, ho, hs⟩ := h.sheet hb
  exact ⟨hs.lay, hs.dp⟩
/-- a drawn question -/
structure Ask (O : List (List Str)) (ch : List Int) (S : List Str) : Prop where
  up : ch.Pairwise (· < ·)
  in_ : ∀ k ∈ ch, 0 ≤ k ∧ k < O.length
  z : 0 ∈ ch
  tag : ∀ t ∈ S, ∃ (k : Nat) (o : List Str), O[k]? = some o ∧ t ∈ o
theorem chosen_ok {N : Nat} (hN : 1 ≤ N) (d : D) : ∀ (ks : List Int) (m : Nat) (b : List D) (A : List Int) (K : List D × Ro → Prop), Bx m b → m + ks.length < 2 ^ 40 →
    (∀ (b' : List D) (s : List Int), Bx (m + ks.length) b' → s.Sublist ks → K ((A ++ s).map .int, [some (.io b'), some (.dat d), none, none, none, none, none, none, none, none, none])) →
    Ok (compL (bindT (.one 5)) (EV.evC F (callN F N) (.yes (.op2 .gt (.call 13 (.cons (.var 0) (.cons (.cst (.int 3)) .nil))) (.cst (.int 0))))) (datOf (EV.ev F (callN F N) (.var 5))) [5] (ks.map .int) [some (.io b), some (.dat d), none, none, none, none, none, none, none, none, none] (A.map .int)) K
  | [], m, b, A, K, hb, hm, hK => by
    rw [List.map_nil, cp_nil]
    have := hK b [] hb (List.Sublist.refl _)
    rw [List.append_nil] at this
    exact this
  | t :: ts, m, b, A, K, hb, hm, hK => by
    rw [List.length_cons] at hm
    rw [List.map_cons, cp_cons]
    and_intros
    refine call_ok rfl rfl rfl (take_ok hb (by omega) (by omega) (by omega) N hN) ?_
    rintro w r ⟨k, b', rfl, rfl, hb', k0, k1⟩
    and_intros
    refine ⟨fun e => ?_, fun e => ?_⟩
    · have e2 : A.map (fun i => (.int i : D)) ++ [.int t] = (A ++ [t]).map .int := by simp
      rw [e2]
      refine chosen_ok hN d ts (m + 1) b' _ K hb' (by omega) fun b2 s h1 h2 => ?_
      rw [List.append_assoc]
      exact hK b2 ([t] ++ s) (h1.mono (by simp; omega)) (h2.cons₂ t)
    · refine chosen_ok hN d ts (m + 1) b' A K hb' (by omega) fun b2 s h1 h2 => hK b2 s (h1.mono (by simp; omega)) (h2.cons t)
theorem shown_ok {N : Nat} (hN : 1 ≤ N) (v1 v2 v3 v4 v5 v6 v7 v8 : Option Sv) : ∀ (ks : List Str) (m : Nat) (b : List D) (A : List Str) (K : List D × Ro → Prop), Bx m b → m + ks.length < 2 ^ 40 →
    (∀ (b' : List D) (A' : List Str), Bx (m + ks.length) b' → (∀ t ∈ A', t ∈ A ∨ t ∈ ks) → K (A'.map .str, [some (.io b'), v1, v2, v3, v4, v5, v6, v7, v8, none, none])) →
    Ok (compL (bindT (.one 9)) (EV.evC F (callN F N) (.yes (.op2 .eq (.call 13 (.cons (.var 0) (.cons (.cst (.int 3)) .nil))) (.cst (.int 0))))) (datOf (EV.ev F (callN F N) (.var 9))) [9] (ks.map .str) [some (.io b), v1, v2, v3, v4, v5, v6, v7, v8, none, none] (A.map .str)) K
  | [], m, b, A, K, hb, hm, hK => by
    rw [List.map_nil, cp_nil]
    exact hK b A hb fun t ht => .inl ht
  | t :: ts, m, b, A, K, hb, hm, hK => by
    rw [List.length_cons] at hm
    rw [List.map_cons, cp_cons]
    and_intros
    refine call_ok rfl rfl rfl (take_ok hb (by omega) (by omega) (by omega) N hN) ?_
    rintro w r ⟨k, b', rfl, rfl, hb', k0, k1⟩
    and_intros
    refine ⟨fun e => ?_, fun e => ?_⟩
    · have e2 : A.map (fun i => (.str i : D)) ++ [.str t] = (A ++ [t]).map .str := by simp
      rw [e2]
      refine shown_ok hN v1 v2 v3 v4 v5 v6 v7 v8 ts (m + 1) b' _ K hb' (by omega) fun b2 A2 h1 h2 => hK b2 A2 (h1.mono (by simp; omega)) fun l hl => ?_
      rcases h2 l hl with q | q
      · rcases List.mem_append.mp q with q | q
        · exact .inl q
        · exact .inr (by rw [List.mem_singleton.mp q]; exact List.mem_cons_self)
      · exact .inr (List.mem_cons_of_mem _ q)
    · refine shown_ok hN v1 v2 v3 v4 v5 v6 v7 v8 ts (m + 1) b' A K hb' (by omega) fun b2 A2 h1 h2 => hK b2 A2 (h1.mono (by simp; omega)) fun l hl => ?_
      rcases h2 l hl with q | q
      · exact .inl q
      · exact .inr (List.mem_cons_of_mem _ q)
/-- the links: pairs of texts -/
def Lk1 (d : D) : Prop := d.depth ≤ 1
theorem ain_ok {N : Nat} (hN : 1 ≤ N) {O : List (List Str)} {B : List D} (hB : Book O B) (v2 v3 : Option Sv) (k : D) (near : Str) (hnear : PyData.strOk near = true) (K : EV.Flow × Ro → Prop) : ∀ (fs : List Str) (m : Nat) (b L : List D) (v7 v8 : Option Sv), Bx m b → m + fs.length < 2 ^ 40 → StrsOk fs → L.length + fs.length < 1000 → (∀ l ∈ L, Lk1 l) → Fr v7 → Fr v8 →
    (∀ (b' L' : List D) (v7 v8 : Option Sv), Bx (m + fs.length) b' → (∀ l ∈ L', Lk1 l) → L'.length ≤ L.length + fs.length → Fr v7 → Fr v8 → K (.next, [some (.io b'), some (.dat (.tuple B)), v2, v3, some (.own L'), some (.dat k), some (.dat (.str near)), v7, v8, none, none])) →
    Ok (forL (bindT (.one 7)) (EV.execs F (callN F N) aIn) (fs.map .str) [some (.io b), some (.dat (.tuple B)), v2, v3, some (.own L), some (.dat k), some (.dat (.str near)), v7, v8, none, none]) K := by
  intro fs
  induction fs with
  | nil =>
    intro m b L v7 v8 hb hm hs hl hL h7 h8 hK
    exact hK b L v7 v8 hb hL (by simp) h7 h8
  | cons far fs ih =>
    intro m b L v7 v8 hb hm hs hl hL h7 h8 hK
    rw [List.length_cons] at hm hl
    have hfar := hs far List.mem_cons_self
    have next : ∀ (m' : Nat) (b' L' : List D) (v7 v8 : Option Sv), Bx m' b' → m' ≤ m + 1 → L'.length ≤ L.length + 1 → (∀ l ∈ L', Lk1 l) → Fr v7 → Fr v8 → Ok (forL (bindT (.one 7)) (EV.execs F (callN F N) aIn) (fs.map .str) [some (.io b'), some (.dat (.tuple B)), v2, v3, some (.own L'), some (.dat k), some (.dat (.str near)), v7, v8, none, none]) K := by
      intro m' b' L' w7 w8 a1 a2 a3 a4 g7 g8
      exact ih m' b' L' w7 w8 a1 (by omega) (fun s h => hs s (List.mem_cons_of_mem _ h)) (by omega) a4 g7 g8 fun b2 L2 u7 u8 c1 c2 c3 c4 c5 => hK b2 L2 u7 u8 (c1.mono (by simp only [List.length_cons]; omega)) c2 (by simp only [List.length_cons]; omega) c4 c5
    show Ok ((Res.of (bindT (.one 7) (.str far) _)).bind _) K
    rw [ok_bind, ok_ofM0]
    and_intros
    refine os_d h7 ?_
    rw [ok_bind]
    unfold aIn
    and_intros
    refine comp_pure [some (.io b), some (.dat (.tuple B)), v2, v3, some (.own L), some (.dat k), some (.dat (.str near)), some (.dat (.str far)), v8, none, none] (fun x => if ((ownS x).contains near && (ownS x).contains far) = true then some x else none) _ _ (fun x hx => ?_) ?_
    · and_intros
      refine sht_in (hB.sht x hx) hnear F (callN F N) _ ?_
      and_intros
      refine ⟨fun e1 => ?_, fun e1 => ⟨rfl, if_neg (by rw [e1]; exact Bool.false_ne_true)⟩⟩
      refine sht_in (hB.sht x hx) hfar F (callN F N) _ ?_
      and_intros
      exact ⟨fun e2 => ⟨rfl, if_pos (by rw [e1, e2]; rfl)⟩, fun e2 => ⟨rfl, if_neg (by rw [e1, e2]; exact Bool.false_ne_true)⟩⟩
    · rw [filt (fun x => (ownS x).contains near && (ownS x).contains far) (fun x => x), List.nil_append, List.map_id']
      and_intros
      rw [om_eq, eqv_nil]
      refine ⟨by
        unfold eqOk
        rw [shaped_of (fun x hx => (hB.lay x (List.mem_filter.mp hx).1).1) (fun x hx => by have := (hB.lay x (List.mem_filter.mp hx).1).2; omega)]
        rfl, ?_⟩
      and_intros
      refine os_d h8 ?_
      and_intros
      refine ⟨fun e1 => ?_, fun e1 => next m b L _ _ hb (by omega) (by omega) hL (.d _) (.d _)⟩
      refine call_ok rfl rfl rfl (take_ok hb (by omega) (by omega) (by omega) N hN) ?_
      rintro w r ⟨c, b1, rfl, rfl, hb1, c0, c1⟩
      and_intros
      refine ⟨fun e2 => ⟨by rw [sizeLine_eq]; omega, ?_⟩, fun e2 => next (m + 1) b1 L _ _ hb1 (by omega) (by omega) hL (.d _) (.d _)⟩
      refine next (m + 1) b1 _ _ _ hb1 (by omega) (by simp) (fun l hl' => ?_) (.d _) (.d _)
      rcases List.mem_append.mp hl' with q | q
      · exact hL l q
      · rw [List.mem_singleton.mp q, Lk1, PyData.depth, PyData.depthAll, PyData.depth, PyData.depthAll, PyData.depth, PyData.depthAll]; decide
end K21

set_option linter.all false
set_option maxRecDepth 100000
set_option Elab.async false
namespace K21
open PySem EV
theorem aout_ok {N : Nat} (hN : 1 ≤ N) {O : List (List Str)} {B : List D} (hB : Book O B) (v2 : Option Sv) (ts : List Str) (hts : StrsOk ts) (htl : ts.length ≤ 6) (K : EV.Flow × Ro → Prop) : ∀ (zs : List (D × Nat)) (m : Nat) (b L : List D) (v5 v6 v7 v8 : Option Sv), Bx m b → m + 6 * zs.length < 2 ^ 40 → zs.length ≤ 6 → (∀ p ∈ zs, ∃ s ∈ ts, p.1 = .str s) → L.length + 6 * zs.length < 100 → (∀ l ∈ L, Lk1 l) → Fr v5 → Fr v6 → Fr v7 → Fr v8 →
    (∀ (b' L' : List D) (v5 v6 v7 v8 : Option Sv), Bx (m + 6 * zs.length) b' → (∀ l ∈ L', Lk1 l) → K (.next, [some (.io b'), some (.dat (.tuple B)), v2, some (.dat (.list (ts.map .str))), some (.own L'), v5, v6, v7, v8, none, none])) →
    Ok (forL (bindT (.many [5, 6])) (EV.execs F (callN F N) aOut) (zs.map fun p => .tuple [.int p.2, p.1]) [some (.io b), some (.dat (.tuple B)), v2, some (.dat (.list (ts.map .str))), some (.own L), v5, v6, v7, v8, none, none]) K := by
  intro zs
  induction zs with
  | nil =>
    intro m b L v5 v6 v7 v8 hb hm hz hs hl hL h5 h6 h7 h8 hK
    exact hK b L v5 v6 v7 v8 hb hL
  | cons p zs ih =>
    intro m b L v5 v6 v7 v8 hb hm hz hs hl hL h5 h6 h7 h8 hK
    rw [List.length_cons] at hm hl hz
    obtain ⟨s, hsm, e1⟩ := hs p List.mem_cons_self
    obtain ⟨x, i⟩ := p
    have e1 : x = .str s := e1
    subst e1
    show Ok ((Res.of (bindT (.many [5, 6]) (.tuple [.int (i : Int), .str s]) _)).bind _) K
    rw [ok_bind, ok_ofM0]
    and_intros
    refine os_d h5 ?_
    and_intros
    refine os_d h6 ?_
    and_intros
    rw [ok_bind]
    unfold aOut
    and_intros
    obtain ⟨fs, ef⟩ := mapped (fun t : Str => (.str t : D)) (xs := cutD (ts.map .str) (some ((i : Int) + 1)) none) fun y hy => by
      obtain ⟨t, _, rfl⟩ := List.mem_map.mp (cut_mem hy)
      exact ⟨t, rfl⟩
    have hfs : StrsOk fs := fun t ht => by
      have h1 : (.str t : D) ∈ cutD (ts.map .str) (some ((i : Int) + 1)) none := by rw [ef]; exact List.mem_map.mpr ⟨t, ht, rfl⟩
      obtain ⟨t', h2, h3⟩ := List.mem_map.mp (cut_mem h1)
      cases h3
      exact hts t h2
    have hfl : fs.length ≤ 6 := by
      have h1 := cut_len (ts.map .str) (some ((i : Int) + 1)) none
      rw [ef, List.length_map, List.length_map] at h1
      omega
    rw [ef]
    refine ain_ok hN hB v2 _ (.int i) s (hts s hsm) _ fs m b L v7 v8 hb (by omega) hfs (by omega) hL h7 h8 fun b2 L2 u7 u8 c1 c2 c3 c4 c5 => ?_
    and_intros
    exact ih (m + fs.length) b2 L2 _ _ u7 u8 c1 (by omega) (by omega) (fun q hq => hs q (List.mem_cons_of_mem _ hq)) (by omega) c2 (.d _) (.d _) c4 c5 fun b3 L3 w5 w6 w7 w8 a1 a2 => hK b3 L3 w5 w6 w7 w8 (a1.mono (by simp only [List.length_cons]; omega)) a2
theorem range_ints (a b : Int) : rangeD a b = ((List.range (b - a).toNat).map fun i : Nat => a + (i : Int)).map .int := by
  unfold rangeD
  rw [List.map_map]; rfl
theorem range_up (a : Int) (n : Nat) : ((List.range n).map fun i : Nat => a + (i : Int)).Pairwise (· < ·) := by
  rw [List.pairwise_map]
  refine List.pairwise_lt_range.imp fun {i j} h => ?_
  omega
theorem flat_len {O : List (List Str)} (hO : Wide O) : ∀ os : List (List Str), (∀ o ∈ os, o ∈ O) → os.flatten.length ≤ 2 * os.length
  | [], _ => by simp
  | o :: os, h => by
    have h1 := (hO.ln o (h o List.mem_cons_self)).2
    have h2 := flat_len hO os fun o' h' => h o' (List.mem_cons_of_mem _ h')
    simp only [List.flatten_cons, List.length_append, List.length_cons]; omega
theorem ask_ok {m : Nat} {b : List D} (hb : Bx m b) (hm : m + 100 < 2 ^ 39) {O : List (List Str)} {B : List D} (hB : Book O B) :
    Run F 2 21 [.list b, .tuple B] fun w io => ∃ (ch : List Int) (S : List Str) (l : D) (b' : List D), w = .dat (.tuple [.tuple (ch.map .int), l, .tuple (S.map .str)]) ∧ io = some b' ∧ Bx (m + 100) b' ∧ l.depth ≤ 3 ∧ Ask O ch S := by
  refine Run.of (fn := f21) rfl rfl rfl fun N hN => ?_
  show Ok (EV.execs F (callN F N) b21 [some (.io b), some (.dat (.tuple B)), none, none, none, none, none, none, none, none, none]) (Fin (some 0) _)
  unfold b21
  have n0 := hB.n0
  have n3 := hB.n3
  have nl := hB.len
  and_intros
  refine ⟨?_, ?_⟩
  · rw [show (1 : Int) = ((1 : Nat) : Int) from rfl, small62_nat (by omega), small62_nat (by omega), sizeLine_eq]
    simp; omega
  rw [range_ints]
  refine chosen_ok (by omega) (.tuple B) _ m b [] _ hb (by simp; omega) fun b1 s hb1 hsub => ?_
  rw [List.length_map, List.length_range] at hb1
  have hsm : ∀ k ∈ s, 1 ≤ k ∧ k < O.length := fun k hk => by
    obtain ⟨i, hi, e⟩ := List.mem_map.mp (hsub.subset hk)
    have := List.mem_range.mp hi
    omega
  have hsl : s.length ≤ 2 := by
    have := hsub.length_le
    rw [List.length_map, List.length_range] at this; omega
  have hup : (0 :: s).Pairwise (· < ·) := List.pairwise_cons.mpr ⟨fun k hk => by have := (hsm k hk).1; omega, (range_up 1 _).sublist hsub⟩
  have hin : ∀ k ∈ (0 :: s : List Int), 0 ≤ k ∧ k < O.length := fun k hk => by
    rcases List.mem_cons.mp hk with q | q
    · omega
    · have := hsm k q; omega
  and_intros
  refine ⟨by rw [sizeLine_eq]; simp; omega, ?_⟩
  have ech : [(.int 0 : D)] ++ ([] ++ s).map .int = (0 :: s).map .int := rfl
  rw [ech]
  generalize hch : (0 :: s : List Int) = ch at *
  have hcl : ch.length ≤ 3 := by rw [← hch]; simp; omega
  and_intros
  have gO : ∀ k ∈ ch, ∃ o ∈ O, O[k.toNat]? = some o ∧ ∃ r, B.getD k.toNat .none = .tuple (rowS o :: r) := fun k hk => by
    obtain ⟨k0, k1⟩ := hin k hk
    have h1 : k.toNat < O.length := by omega
    obtain ⟨sb, e2, hs⟩ := hB.at_ k.toNat _ (List.getElem?_eq_getElem h1)
    obtain ⟨R, KL, T, rfl, _⟩ := hs.ex
    refine ⟨_, List.getElem_mem h1, List.getElem?_eq_getElem h1, [.tuple R, .tuple (KL.map rowS), .tuple T], ?_⟩
    rw [List.getD_eq_getElem?_getD, e2]; rfl
  refine comp_map (fun i : Int => (.int i : D)) [some (.io b1), some (.dat (.tuple B)), some (.dat (.tuple (ch.map .int))), none, none, none, none, none, none, none, none] (fun k => some (.list ((O.getD k.toNat []).map .str))) _ _ (fun k hk => ?_) ?_
  · obtain ⟨k0, k1⟩ := hin k hk
    obtain ⟨o, _, e1, r, e2⟩ := gO k hk
    and_intros
    rw [at_nat k0 (by omega), e2]
    unfold rowS
    and_intros
    refine ⟨rfl, ?_⟩
    rw [List.getD_eq_getElem?_getD, e1]; rfl
  · rw [fm_some, List.nil_append]
    have es : ch.map (fun k => (.list ((O.getD k.toNat []).map .str) : D)) = (ch.map fun k => (O.getD k.toNat []).map PyData.str).map .list := by rw [List.map_map]; rfl
    rw [es]
    and_intros
    rw [om_sumL]
    have ef : (ch.map fun k => (O.getD k.toNat []).map PyData.str).flatten = (ch.map fun k => O.getD k.toNat []).flatten.map .str := by
      rw [List.map_flatten, List.map_map]; rfl
    have hfl : (ch.map fun k => O.getD k.toNat []).flatten.length ≤ 6 := by
      have h1 := flat_len hB.wide (ch.map fun k => O.getD k.toNat []) fun o ho => by
        obtain ⟨k, hk, rfl⟩ := List.mem_map.mp ho
        obtain ⟨o, h2, h3, _⟩ := gO k hk
        rw [List.getD_eq_getElem?_getD, h3]; exact h2
      rw [List.length_map] at h1; omega
    have hft : ∀ t ∈ (ch.map fun k => O.getD k.toNat []).flatten, ∃ (k : Nat) (o : List Str), O[k]? = some o ∧ t ∈ o := fun t ht => by
      obtain ⟨o, h1, h2⟩ := List.mem_flatten.mp ht
      obtain ⟨k, hk, rfl⟩ := List.mem_map.mp h1
      obtain ⟨o, h3, h4, _⟩ := gO k hk
      rw [List.getD_eq_getElem?_getD, h4] at h2
      exact ⟨_, o, h4, h2⟩
    rw [ef]
    refine ⟨by rw [List.length_map, sizeLine_eq]; omega, ?_⟩
    generalize (ch.map fun k => O.getD k.toNat []).flatten = fl at *
    and_intros
    refine ⟨sortOk_strs fl, ?_⟩
    obtain ⟨ts, et, pt⟩ := sortD_strs fl
    rw [et]
    have htl : ts.length ≤ 6 := by have := pt.length_eq; omega
    have htt : ∀ t ∈ ts, ∃ (k : Nat) (o : List Str), O[k]? = some o ∧ t ∈ o := fun t ht => hft t (pt.mem_iff.mp ht)
    have hts : StrsOk ts := fun t ht => by
      obtain ⟨k, o, h1, h2⟩ := htt t ht
      exact hB.wide.ok o (List.mem_of_getElem? h1) t h2
    and_intros
    unfold enumD
    refine aout_ok (by omega) hB _ ts hts htl _ (ts.map .str).zipIdx _ b1 [] none none none none hb1 (by simp; omega) (by simp; omega) (fun p hp => ?_) (by simp; omega) (fun l hl => nomatch hl) .n .n .n .n fun b2 L v5 v6 v7 v8 hb2 hL => ?_
    · obtain ⟨_, _, e⟩ := List.mem_zipIdx hp
      have h1 : p.1 ∈ ts.map (fun s => (.str s : D)) := by rw [e]; exact List.getElem_mem _
      obtain ⟨s, h2, h3⟩ := List.mem_map.mp h1
      exact ⟨s, h2, h3.symm⟩
    · and_intros
      refine shown_ok (by omega) _ _ _ _ v5 v6 v7 v8 ts _ b2 [] _ hb2 (by simp; omega) fun b3 S hb3 hS => ?_
      and_intros
      refine ⟨ch, S, .tuple L, b3, rfl, rfl, hb3.mono (by simp; omega), ?_, hup, hin, by rw [← hch]; exact List.mem_cons_self, fun t ht => ?_⟩
      · have := depthAll_of (n := 1) hL
        rw [PyData.depth]; omega
      · rcases hS t ht with q | q
        · cases q
        · exact htt t q
end K21

set_option linter.all false
set_option maxRecDepth 100000
set_option Elab.async false
namespace K21
open PySem EV
inductive Tr where
  | leaf (i : Int) | home (t : Tr) | fold (t : Tr) | join (a b : Tr)
def Tr.d : Tr → D
  | .leaf i => .int i
  | .home t => .tuple [.str sHome, t.d]
  | .fold t => .tuple [.str sFold, t.d]
  | .join a b => .tuple [.str sJoin, a.d, b.d]
def Tr.leaves : Tr → List Int
  | .leaf i => [i]
  | .home t => t.leaves
  | .fold t => t.leaves
  | .join a b => a.leaves ++ b.leaves
def Tr.homes : Tr → List Tr
  | .leaf _ => []
  | .home t => [t]
  | .fold t => t.homes
  | .join a b => a.homes ++ b.homes
def Tr.wf : Bool → Tr → Prop
  | _, .leaf _ => True
  | h, .home t => h = false ∧ t.wf true
  | h, .fold t => t.wf h
  | h, .join a b => a.wf h ∧ b.wf h
def Tr.ht : Tr → Nat
  | .leaf _ => 0
  | .home t => t.ht + 1
  | .fold t => t.ht + 1
  | .join a b => max a.ht b.ht + 1
theorem Tr.depth : ∀ t : Tr, t.d.depth = t.ht
  | .leaf i => by rw [Tr.d, PyData.depth, Tr.ht]
  | .home t => by rw [Tr.d, PyData.depth, PyData.depthAll, PyData.depth, PyData.depthAll, Tr.depth t, PyData.depthAll, Tr.ht]; omega
  | .fold t => by rw [Tr.d, PyData.depth, PyData.depthAll, PyData.depth, PyData.depthAll, Tr.depth t, PyData.depthAll, Tr.ht]; omega
  | .join a b => by rw [Tr.d, PyData.depth, PyData.depthAll, PyData.depth, PyData.depthAll, Tr.depth a, PyData.depthAll, Tr.depth b, PyData.depthAll, Tr.ht]; omega
theorem Tr.lay : ∀ t : Tr, t.d.canLay0 = true
  | .leaf i => by rw [Tr.d, PyData.canLay0]
  | .home t => by rw [Tr.d, PyData.canLay0, PyData.canLayAll0, PyData.canLay0, show PyData.strOk sHome = true from strOk_home, PyData.canLayAll0, Tr.lay t, PyData.canLayAll0]; rfl
  | .fold t => by rw [Tr.d, PyData.canLay0, PyData.canLayAll0, PyData.canLay0, show PyData.strOk sFold = true from strOk_fold, PyData.canLayAll0, Tr.lay t, PyData.canLayAll0]; rfl
  | .join a b => by rw [Tr.d, PyData.canLay0, PyData.canLayAll0, PyData.canLay0, show PyData.strOk sJoin = true from strOk_join, PyData.canLayAll0, Tr.lay a, PyData.canLayAll0, Tr.lay b, PyData.canLayAll0]; rfl
theorem Tr.und : ∀ (n : Nat) (t : Tr) (h : Bool), t.ht < n → t.wf h → K21.und n t.d h = some t.leaves
  | 0, _, _, hn, _ => by omega
  | n + 1, .leaf i, h, hn, w => rfl
  | n + 1, .home t, h, hn, w => by
    rw [Tr.ht] at hn
    obtain ⟨rfl, w⟩ := w
    show (if _ then K21.und n t.d _ else none) = _
    rw [if_pos (.inr ⟨rfl, rfl⟩)]
    exact Tr.und n t true (by omega) w
  | n + 1, .fold t, h, hn, w => by
    rw [Tr.ht] at hn
    show (if _ then K21.und n t.d _ else none) = _
    rw [if_pos (.inl rfl), show decide (sFold = sHome) = false from by decide, Bool.or_false]
    exact Tr.und n t h (by omega) w
  | n + 1, .join a b, h, hn, w => by
    rw [Tr.ht] at hn
    show (if _ then _ else none) = _
    rw [if_pos rfl, Tr.und n a h (by omega) w.1, Tr.und n b h (by omega) w.2]
    rfl
theorem Tr.lv_len : ∀ t : Tr, t.leaves.length ≤ 2 ^ t.ht ∧ t.homes.length ≤ 2 ^ t.ht
  | .leaf i => by simp [Tr.leaves, Tr.homes, Tr.ht]
  | .home t => by
    have := Tr.lv_len t
    have p : 1 ≤ 2 ^ t.ht := Nat.one_le_two_pow
    simp only [Tr.leaves, Tr.homes, Tr.ht, Nat.pow_succ, List.length_singleton]; omega
  | .fold t => by
    have := Tr.lv_len t
    simp only [Tr.leaves, Tr.homes, Tr.ht, Nat.pow_succ]; omega
  | .join a b => by
    have h1 := Tr.lv_len a
    have h2 := Tr.lv_len b
    have p1 : 2 ^ a.ht ≤ 2 ^ (max a.ht b.ht) := Nat.pow_le_pow_right (by omega) (by omega)
    have p2 : 2 ^ b.ht ≤ 2 ^ (max a.ht b.ht) := Nat.pow_le_pow_right (by omega) (by omega)
    simp only [Tr.leaves, Tr.homes, Tr.ht, Nat.pow_succ, List.length_append]; omega
def mu (n : Nat) (h u : Bool) : Nat := 4 * n + (if h then 0 else 2) + (if u then 0 else 1)
def bRest : Ss := (.cons (.ite (.op2 .eq (.bi .len (.cons (.var 1) .nil)) (.cst (.int 1))) (.cons (.ret (.idx (.var 1) (.cst (.int 0)))) .nil) .nil) (.cons (.asg 5 (.op2 .add (.cst (.int 1)) (.call 13 (.cons (.var 0) (.cons (.op2 .sub (.bi .len (.cons (.var 1) .nil)) (.cst (.int 1))) .nil))))) (.cons (.asg 6 (.call 22 (.cons (.var 0) (.cons (.slc (.var 1) .no (.yes (.var 5))) (.cons (.var 2) (.cons (.cst (.bool false)) .nil)))))) (.cons (.ret (.tup (.cons (.cst (.str "join")) (.cons (.var 6) (.cons (.call 22 (.cons (.var 0) (.cons (.slc (.var 1) (.yes (.var 5)) .no) (.cons (.var 2) (.cons (.cst (.bool false)) .nil))))) .nil))))) .nil))))
theorem b22_eq : b22 = (.cons (.asg 4 (.call 13 (.cons (.var 0) (.cons (.cst (.int 4)) .nil)))) (.cons (.ite (.bop true (.cons (.op2 .eq (.var 4) (.cst (.int 0))) (.cons (.not (.var 2)) .nil))) (.cons (.ret (.tup (.cons (.cst (.str "home")) (.cons (.call 22 (.cons (.var 0) (.cons (.var 1) (.cons (.cst (.bool true)) (.cons (.cst (.bool false)) .nil))))) .nil)))) .nil) .nil) (.cons (.ite (.bop true (.cons (.op2 .eq (.var 4) (.cst (.int 1))) (.cons (.not (.var 3)) .nil))) (.cons (.ret (.tup (.cons (.cst (.str "fold")) (.cons (.call 22 (.cons (.var 0) (.cons (.var 1) (.cons (.var 2) (.cons (.cst (.bool true)) .nil))))) .nil)))) .nil) .nil) bRest))) := rfl
theorem tree_ok : ∀ (q : Nat) (ns : List Int) (h u : Bool) (m : Nat) (b : List D), mu ns.length h u ≤ q → q ≤ 15 → 1 ≤ ns.length → Bx m b → m + 4 * 2 ^ q < 2 ^ 40 →
    Run F (q + 2) 22 [.list b, .list (ns.map .int), .bool h, .bool u] fun w io => ∃ (t : Tr) (b' : List D), w = .dat t.d ∧ io = some b' ∧ Bx (m + 4 * 2 ^ q - 2) b' ∧ t.leaves = ns ∧ t.wf h ∧ t.ht ≤ q := by
  intro q
  induction q with
  | zero =>
    intro ns h u m b hq
    unfold mu at hq
    intro _ h1
    omega
  | succ q ih =>
    intro ns h u m b hq hq2 h1 hb hm
    have p2 : 2 ^ (q + 1) = 2 ^ q + 2 ^ q := by rw [Nat.pow_succ]; omega
    have p1 : 1 ≤ 2 ^ q := Nat.one_le_two_pow
    refine Run.of (fn := f22) rfl rfl rfl fun N hN => ?_
    show Ok (EV.execs F (callN F N) b22 [some (.io b), some (.dat (.list (ns.map .int))), some (.dat (.bool h)), some (.dat (.bool u)), none, none, none]) (Fin (some 0) _)
    rw [b22_eq]
    and_intros
    refine call_ok rfl rfl rfl (take_ok hb (by omega) (by omega) (by omega) N (by omega)) ?_
    rintro w r ⟨c, b1, rfl, rfl, hb1, c0, c1⟩
    and_intros
    -- the rest of the tree
    have rest : ∀ (K : EV.Flow × Ro → Prop), (∀ (t : Tr) (b' : List D) (r : Ro), Bx (m + 4 * 2 ^ (q + 1) - 2) b' → t.leaves = ns → t.wf h → t.ht ≤ q + 1 → K (.ret (.dat t.d), some (.io b') :: r)) →
        Ok (EV.execs F (callN F N) bRest [some (.io b1), some (.dat (.list (ns.map .int))), some (.dat (.bool h)), some (.dat (.bool u)), some (.dat (.int c)), none, none]) K := by
      intro K hK
      unfold bRest
      and_intros
      simp only [List.length_map]
      refine ⟨fun e => ?_, fun e => ?_⟩
      · have e := of_decide_eq_true e
        match ns, h1, e with
        | [i], _, _ =>
          simp only [List.map_cons, List.map_nil]
          and_intros
          exact hK (.leaf i) b1 _ (hb1.mono (by omega)) rfl trivial (by simp [Tr.ht])
      · have e := of_decide_eq_false e
        have l2 : 2 ≤ ns.length := by omega
        have l3 : ns.length ≤ 3 := by
          unfold mu at hq
          split at hq <;> split at hq <;> omega
        refine call_ok rfl rfl rfl (take_ok hb1 (by omega) (j := (ns.length : Int) - 1) (by omega) (by omega) N (by omega)) ?_
        rintro w r ⟨j, b2, rfl, rfl, hb2, j0, j1⟩
        and_intros
        obtain ⟨n, rfl⟩ := Int.eq_ofNat_of_zero_le j0
        have e1 : (1 : Int) + (n : Int) = ((n + 1 : Nat) : Int) := by omega
        rw [e1, cut_to, ← List.map_take]
        have mq : ∀ k, k < ns.length → mu k h false ≤ q := fun k hk => by
          unfold mu at hq ⊢
          cases h <;> cases u <;> simp at hq ⊢ <;> omega
        refine call_ok rfl rfl rfl (ih (ns.take (n + 1)) h false (m + 1 + 1) b2 (mq _ (by rw [List.length_take]; omega)) (by omega) (by rw [List.length_take]; omega) hb2 (by omega) N (by omega)) ?_
        rintro w r ⟨t1, b3, rfl, rfl, hb3, lv1, wf1, ht1⟩
        and_intros
        rw [cut_from, ← List.map_drop]
        refine call_ok rfl rfl rfl (ih (ns.drop (n + 1)) h false _ b3 (mq _ (by rw [List.length_drop]; omega)) (by omega) (by rw [List.length_drop]; omega) hb3 (by omega) N (by omega)) ?_
        rintro w r ⟨t2, b4, rfl, rfl, hb4, lv2, wf2, ht2⟩
        and_intros
        exact hK (.join t1 t2) b4 _ (hb4.mono (by omega)) (by rw [Tr.leaves, lv1, lv2, List.take_append_drop]) ⟨wf1, wf2⟩ (by rw [Tr.ht]; omega)
    have fin : ∀ (t : Tr) (b' : List D) (r : Ro), Bx (m + 4 * 2 ^ (q + 1) - 2) b' → t.leaves = ns → t.wf h → t.ht ≤ q + 1 → Fin (some 0) (fun w io => ∃ (t : Tr) (b' : List D), w = .dat t.d ∧ io = some b' ∧ Bx (m + 4 * 2 ^ (q + 1) - 2) b' ∧ t.leaves = ns ∧ t.wf h ∧ t.ht ≤ q + 1) (.ret (.dat t.d), some (.io b') :: r) := fun t b' r h1 h2 h3 h4 => by
      and_intros
      exact ⟨t, b', rfl, rfl, h1, h2, h3, h4⟩
    have home : h = false → ∀ (ρ : Ro), Ok (callE f22 (callN F N 22) [.slot 0, .slot 1, .val (.dat (.bool true)), .val (.dat (.bool false))] (some (.io b1) :: some (.dat (.list (ns.map .int))) :: ρ)) fun p => ∃ (t : Tr) (b' : List D), p = (.dat t.d, some (.io b') :: some (.dat (.list (ns.map .int))) :: ρ) ∧ Bx (m + 4 * 2 ^ (q + 1) - 2) b' ∧ t.leaves = ns ∧ t.wf true ∧ t.ht ≤ q := by
      rintro rfl ρ
      have m1 : mu ns.length true false ≤ q := by unfold mu at hq ⊢; cases u <;> simp at hq ⊢ <;> omega
      refine call_ok rfl rfl rfl (ih ns true false (m + 1) b1 m1 (by omega) h1 hb1 (by omega) N (by omega)) ?_
      rintro w r ⟨t, b', rfl, rfl, hb', lv, wf', ht'⟩
      and_intros
      exact ⟨t, b', rfl, hb'.mono (by omega), lv, wf', ht'⟩
    have fold : u = false → ∀ (ρ : Ro), Ok (callE f22 (callN F N 22) [.slot 0, .slot 1, .slot 2, .val (.dat (.bool true))] (some (.io b1) :: some (.dat (.list (ns.map .int))) :: some (.dat (.bool h)) :: ρ)) fun p => ∃ (t : Tr) (b' : List D), p = (.dat t.d, some (.io b') :: some (.dat (.list (ns.map .int))) :: some (.dat (.bool h)) :: ρ) ∧ Bx (m + 4 * 2 ^ (q + 1) - 2) b' ∧ t.leaves = ns ∧ t.wf h ∧ t.ht ≤ q := by
      rintro rfl ρ
      have m1 : mu ns.length h true ≤ q := by unfold mu at hq ⊢; cases h <;> simp at hq ⊢ <;> omega
      refine call_ok rfl rfl rfl (ih ns h true (m + 1) b1 m1 (by omega) h1 hb1 (by omega) N (by omega)) ?_
      rintro w r ⟨t, b', rfl, rfl, hb', lv, wf', ht'⟩
      and_intros
      exact ⟨t, b', rfl, hb'.mono (by omega), lv, wf', ht'⟩
    have foldK : u = false → Ok (callE f22 (callN F N 22) [.slot 0, .slot 1, .slot 2, .val (.dat (.bool true))] [some (.io b1), some (.dat (.list (ns.map .int))), some (.dat (.bool h)), some (.dat (.bool u)), some (.dat (.int c)), none, none]) fun p => OW p.1 fun d => OE p.2 (some 0) fun io => ∃ (t : Tr) (b' : List D), W.dat (.tuple [.str "fold", d]) = .dat t.d ∧ io = some b' ∧ Bx (m + 4 * 2 ^ (q + 1) - 2) b' ∧ t.leaves = ns ∧ t.wf h ∧ t.ht ≤ q + 1 := by
      intro hu
      refine Ok.mono (fold hu _) ?_
      rintro p ⟨t, b', rfl, hb', lv, wf', ht'⟩
      and_intros
      exact ⟨.fold t, b', rfl, rfl, hb', lv, wf', by rw [Tr.ht]; omega⟩
    have homeK : h = false → Ok (callE f22 (callN F N 22) [.slot 0, .slot 1, .val (.dat (.bool true)), .val (.dat (.bool false))] [some (.io b1), some (.dat (.list (ns.map .int))), some (.dat (.bool h)), some (.dat (.bool u)), some (.dat (.int c)), none, none]) fun p => OW p.1 fun d => OE p.2 (some 0) fun io => ∃ (t : Tr) (b' : List D), W.dat (.tuple [.str "home", d]) = .dat t.d ∧ io = some b' ∧ Bx (m + 4 * 2 ^ (q + 1) - 2) b' ∧ t.leaves = ns ∧ t.wf h ∧ t.ht ≤ q + 1 := by
      intro hh
      refine Ok.mono (home hh _) ?_
      rintro p ⟨t, b', rfl, hb', lv, wf', ht'⟩
      and_intros
      exact ⟨.home t, b', rfl, rfl, hb', lv, ⟨hh, wf'⟩, by rw [Tr.ht]; omega⟩
    have last := rest _ fin
    have two : ∀ {P Q : Prop}, (u = false → P) → Q → (ON u fun b => OI b P Q) := fun {P Q} h1 h2 => by
      cases u
      · exact ⟨fun _ => h1 rfl, fun z => nomatch z⟩
      · exact ⟨fun z => Bool.noConfusion z, fun _ => h2⟩
    have one : ∀ {P Q : Prop}, (h = false → P) → Q → (ON h fun b => OI b P Q) := fun {P Q} h1 h2 => by
      cases h
      · exact ⟨fun _ => h1 rfl, fun z => nomatch z⟩
      · exact ⟨fun z => Bool.noConfusion z, fun _ => h2⟩
    exact ⟨fun _ => one homeK ⟨fun _ => two foldK last, fun _ => last⟩, fun _ => ⟨fun _ => two foldK last, fun _ => last⟩⟩
end K21

set_option linter.all false
set_option maxRecDepth 100000
set_option Elab.async false
namespace EV
open PySem
def FLk (bnd : D → Ro → Option Ro) (body : Ro → Res (EV.Flow × Ro)) (xs : List D) (k : EV.Flow × Ro → Prop) : EV.Flow × Ro → Prop
  | (.next, ρ) => Ok (forL bnd body xs ρ) k
  | (.cont, ρ) => Ok (forL bnd body xs ρ) k
  | (.brk, ρ) => k (.next, ρ)
  | (.ret w, ρ) => k (.ret w, ρ)
theorem fl_cons (bnd : D → Ro → Option Ro) (body : Ro → Res (EV.Flow × Ro)) (x : D) (xs : List D) (ρ : Ro) (k : EV.Flow × Ro → Prop) : Ok (forL bnd body (x :: xs) ρ) k = OM (bnd x ρ) fun ρ1 => Ok (body ρ1) (FLk bnd body xs k) := by
  show Ok ((Res.of (bnd x ρ)).bind _) k = _
  rw [ok_bind, ok_ofM0]
  congr 1; funext ρ1
  rw [ok_bind]
  congr 1; funext p
  obtain ⟨f, ρ2⟩ := p
  cases f <;> rfl
theorem fl_nil (bnd : D → Ro → Option Ro) (body : Ro → Res (EV.Flow × Ro)) (ρ : Ro) (k : EV.Flow × Ro → Prop) : Ok (forL bnd body [] ρ) k = k (.next, ρ) := (rfl)
theorem flk_next (bnd : D → Ro → Option Ro) (body : Ro → Res (EV.Flow × Ro)) (xs : List D) (ρ : Ro) (k : EV.Flow × Ro → Prop) : FLk bnd body xs k (.next, ρ) = Ok (forL bnd body xs ρ) k := (rfl)
theorem cut1 (x : D) (xs : List D) : cutD (x :: xs) (some 1) none = xs := by
  rw [show (1 : Int) = ((1 : Nat) : Int) from rfl, cut_from]; rfl
theorem e_comp2' (F : Nat → Option Fn) (cl : Nat → List D → FRes) (t : Tg) (it : It) (c : Eo) (t' : Tg) (it' : It) (c' : Eo) (e : E) (ρ : Ro) (k : W × Ro → Prop) : Ok (EV.ev F cl (.comp2 t it c t' it' c' e) ρ) k =
    Ok (EV.evIt F cl it ρ) fun p => Ok (compL2 (bindT t) (EV.evC F cl c) (fun ρ1 acc => (EV.evIt F cl it' ρ1).bind fun q => compL (bindT t') (EV.evC F cl c') (datOf (EV.ev F cl e)) t'.slots q.1 (wipeR q.2 t'.slots) acc) (t.slots ++ t'.slots) p.1 (wipeR p.2 (t.slots ++ t'.slots)) []) fun q => (q.1.length ≤ sizeLine ∧ BK p.2 q.2 (t.slots ++ t'.slots) fun r => k (.new q.1, r)) := by
  rw [EV.ev, ok_bind]; congr 1; funext p
  rw [ok_bind]; congr 1; funext q
  exact ok_len _ _ _
theorem c2_cons {bnd : D → Ro → Option Ro} {test : Ro → Res (Bool × Ro)} {inner : Ro → List D → Res (List D × Ro)} {is : List Nat} {k : List D × Ro → Prop} (x : D) (xs : List D) (ρ : Ro) (acc : List D) : Ok (compL2 bnd test inner is (x :: xs) ρ acc) k =
    OM (bnd x ρ) fun ρ1 => Ok (test ρ1) fun p => OI p.1 (Ok (inner p.2 acc) fun q => Ok (compL2 bnd test inner is xs (wipeR q.2 is) q.1) k) (Ok (compL2 bnd test inner is xs (wipeR p.2 is) acc) k) := by
  show Ok ((Res.of (bnd x ρ)).bind _) k = _
  rw [ok_bind, ok_ofM0]
  congr 1; funext ρ1
  rw [ok_bind, ok_noExc]
  congr 1; funext p
  rw [ok_if, ok_bind, ok_noExc]
theorem c2_nil {bnd : D → Ro → Option Ro} {test : Ro → Res (Bool × Ro)} {inner : Ro → List D → Res (List D × Ro)} {is : List Nat} {k : List D × Ro → Prop} (ρ : Ro) (acc : List D) : Ok (compL2 bnd test inner is [] ρ acc) k = k (acc, ρ) := (rfl)
end EV
namespace K21
open PySem EV
theorem under_ok : ∀ (n : Nat) (t : Tr), t.ht ≤ n → n ≤ 15 → Run F (n + 1) 25 [t.d] fun w io => w = .new (t.leaves.map .int) ∧ io = none := by
  intro n
  induction n with
  | zero =>
    intro t ht _
    cases t with
    | leaf i =>
      refine Run.of (fn := f25) rfl rfl rfl fun N hN => ?_
      show Ok (EV.execs F (callN F N) b25 [some (.dat (.int i)), none, none]) (Fin none _)
      unfold b25
      and_intros
      (first | exact ⟨rfl, trivial⟩ | exact ⟨trivial, trivial⟩ | exact ⟨rfl, rfl⟩ | trivial)
    | _ => rw [Tr.ht] at ht; omega
  | succ n ih =>
    intro t ht hn
    refine Run.of (fn := f25) rfl rfl rfl fun N hN => ?_
    have hp : ∀ t : Tr, t.ht ≤ n → t.leaves.length ≤ 2 ^ 15 := fun t h => by
      have h1 := (Tr.lv_len t).1
      have h2 : 2 ^ t.ht ≤ 2 ^ 15 := Nat.pow_le_pow_right (by omega) (by omega)
      omega
    have one : ∀ (s : Str) (a : Tr), a.ht ≤ n → Ok (EV.execs F (callN F N) b25 [some (.dat (.tuple [.str s, a.d])), none, none]) (Fin none fun w io => w = .new (a.leaves.map .int) ∧ io = none) := by
      intro s a ha
      unfold b25
      and_intros
      rw [cut1, fl_cons]
      and_intros
      refine call_ok rfl rfl rfl (ih a ha (by omega) N hN) ?_
      rintro w r ⟨rfl, rfl⟩
      have := hp a ha
      and_intros
      refine ⟨by rw [sizeLine_eq]; simp; omega, ?_⟩
      simp only [flk_next, fl_nil]
      and_intros
      simp
    cases t with
    | leaf i =>
      show Ok (EV.execs F (callN F N) b25 [some (.dat (.int i)), none, none]) (Fin none _)
      unfold b25
      and_intros
      (first | exact ⟨rfl, trivial⟩ | exact ⟨trivial, trivial⟩ | exact ⟨rfl, rfl⟩ | trivial)
    | home a => rw [Tr.ht] at ht; exact one _ a (by omega)
    | fold a => rw [Tr.ht] at ht; exact one _ a (by omega)
    | join a b =>
      rw [Tr.ht] at ht
      show Ok (EV.execs F (callN F N) b25 [some (.dat (.tuple [.str sJoin, a.d, b.d])), none, none]) (Fin none _)
      unfold b25
      and_intros
      rw [cut1, fl_cons]
      and_intros
      refine call_ok rfl rfl rfl (ih a (by omega) (by omega) N hN) ?_
      rintro w r ⟨rfl, rfl⟩
      have h1 := hp a (by omega)
      have h2 := hp b (by omega)
      and_intros
      refine ⟨by rw [sizeLine_eq]; simp; omega, ?_⟩
      simp only [flk_next, fl_cons]
      and_intros
      refine call_ok rfl rfl rfl (ih b (by omega) (by omega) N hN) ?_
      rintro w r ⟨rfl, rfl⟩
      and_intros
      refine ⟨by rw [sizeLine_eq]; simp; omega, ?_⟩
      simp only [flk_next, fl_nil]
      and_intros
      simp [Tr.leaves]
theorem lhomes_ok : ∀ (n : Nat) (t : Tr), t.ht ≤ n → n ≤ 15 → Run F (n + 1) 26 [t.d] fun w io => w = .new (t.homes.map Tr.d) ∧ io = none := by
  intro n
  induction n with
  | zero =>
    intro t ht _
    cases t with
    | leaf i =>
      refine Run.of (fn := f26) rfl rfl rfl fun N hN => ?_
      show Ok (EV.execs F (callN F N) b26 [some (.dat (.int i)), none, none]) (Fin none _)
      unfold b26
      and_intros
      (first | exact ⟨rfl, trivial⟩ | exact ⟨trivial, trivial⟩ | exact ⟨rfl, rfl⟩ | trivial)
    | _ => rw [Tr.ht] at ht; omega
  | succ n ih =>
    intro t ht hn
    refine Run.of (fn := f26) rfl rfl rfl fun N hN => ?_
    have hp : ∀ t : Tr, t.ht ≤ n → t.homes.length ≤ 2 ^ 15 := fun t h => by
      have h1 := (Tr.lv_len t).2
      have h2 : 2 ^ t.ht ≤ 2 ^ 15 := Nat.pow_le_pow_right (by omega) (by omega)
      omega
    cases t with
    | leaf i =>
      show Ok (EV.execs F (callN F N) b26 [some (.dat (.int i)), none, none]) (Fin none _)
      unfold b26
      and_intros
      (first | exact ⟨rfl, trivial⟩ | exact ⟨trivial, trivial⟩ | exact ⟨rfl, rfl⟩ | trivial)
    | home a =>
      show Ok (EV.execs F (callN F N) b26 [some (.dat (.tuple [.str sHome, a.d])), none, none]) (Fin none _)
      unfold b26
      and_intros
      refine ⟨by decide +kernel, fun _ => ?_, fun z => absurd z (by decide)⟩
      (first | exact ⟨rfl, trivial⟩ | exact ⟨trivial, trivial⟩ | exact ⟨rfl, rfl⟩ | trivial)
    | fold a =>
      rw [Tr.ht] at ht
      show Ok (EV.execs F (callN F N) b26 [some (.dat (.tuple [.str sFold, a.d])), none, none]) (Fin none _)
      unfold b26
      and_intros
      refine ⟨by decide +kernel, fun z => absurd z (by decide), fun _ => ?_⟩
      rw [cut1, fl_cons]
      and_intros
      refine call_ok rfl rfl rfl (ih a (by omega) (by omega) N hN) ?_
      rintro w r ⟨rfl, rfl⟩
      have := hp a (by omega)
      and_intros
      refine ⟨by rw [sizeLine_eq]; simp; omega, ?_⟩
      simp only [flk_next, fl_nil]
      and_intros
      simp [Tr.homes]
    | join a b =>
      rw [Tr.ht] at ht
      show Ok (EV.execs F (callN F N) b26 [some (.dat (.tuple [.str sJoin, a.d, b.d])), none, none]) (Fin none _)
      unfold b26
      and_intros
      refine ⟨by decide +kernel, fun z => absurd z (by decide), fun _ => ?_⟩
      rw [cut1, fl_cons]
      and_intros
      refine call_ok rfl rfl rfl (ih a (by omega) (by omega) N hN) ?_
      rintro w r ⟨rfl, rfl⟩
      have h1 := hp a (by omega)
      have h2 := hp b (by omega)
      and_intros
      refine ⟨by rw [sizeLine_eq]; simp; omega, ?_⟩
      simp only [flk_next, fl_cons]
      and_intros
      refine call_ok rfl rfl rfl (ih b (by omega) (by omega) N hN) ?_
      rintro w r ⟨rfl, rfl⟩
      and_intros
      refine ⟨by rw [sizeLine_eq]; simp; omega, ?_⟩
      simp only [flk_next, fl_nil]
      and_intros
      simp [Tr.homes]
end K21

set_option linter.all false
set_option maxRecDepth 100000
set_option Elab.async false
namespace K21
open PySem EV
theorem home_trees_ok : ∀ (n : Nat) (t : Tr), t.ht ≤ n → n ≤ 15 → Run F (n + 2) 9 [t.d] fun w io => w = .new (t.homes.map Tr.d) ∧ io = none := by
  intro n
  induction n with
  | zero =>
    intro t ht _
    cases t with
    | leaf i =>
      refine Run.of (fn := f9) rfl rfl rfl fun N hN => ?_
      show Ok (EV.execs F (callN F N) b9 [some (.dat (.int i)), none, none]) (Fin none _)
      unfold b9
      and_intros
      refine call_ok rfl rfl rfl (is_number_ok (.int i) N hN) ?_
      rintro w r ⟨rfl, rfl⟩
      simp only [isNum]
      and_intros
      (first | exact ⟨rfl, trivial⟩ | exact ⟨trivial, trivial⟩ | exact ⟨rfl, rfl⟩ | trivial)
    | _ => rw [Tr.ht] at ht; omega
  | succ n ih =>
    intro t ht hn
    refine Run.of (fn := f9) rfl rfl rfl fun N hN => ?_
    have hp : ∀ t : Tr, t.ht ≤ n → t.homes.length ≤ 2 ^ 15 := fun t h => by
      have h1 := (Tr.lv_len t).2
      have h2 : 2 ^ t.ht ≤ 2 ^ 15 := Nat.pow_le_pow_right (by omega) (by omega)
      omega
    have inner : ∀ (e : D) (a : Tr) (acc : List D) (K : List D × Ro → Prop), a.ht ≤ n → K (acc ++ a.homes.map Tr.d, [some (.dat e), some (.dat a.d), none]) →
        Ok ((EV.evIt F (callN F N) (.seq (.call 9 (.cons (.var 1) .nil))) [some (.dat e), some (.dat a.d), none]).bind fun q => compL (bindT (.one 2)) (EV.evC F (callN F N) .no) (datOf (EV.ev F (callN F N) (.var 2))) (Tg.one 2).slots q.1 (wipeR q.2 (Tg.one 2).slots) acc) K := by
      intro e a acc K ha hK
      rw [ok_bind]
      and_intros
      refine call_ok rfl rfl rfl (ih a ha (by omega) N (by omega)) ?_
      rintro w r ⟨rfl, rfl⟩
      and_intros
      refine comp_pure [some (.dat e), some (.dat a.d), none] (fun x => some x) _ _ (fun x _ => ?_) ?_
      · and_intros
        (first | exact ⟨rfl, trivial⟩ | exact ⟨trivial, trivial⟩ | exact ⟨rfl, rfl⟩ | trivial)
      · rw [List.filterMap_some]
        exact hK
    cases t with
    | leaf i =>
      show Ok (EV.execs F (callN F N) b9 [some (.dat (.int i)), none, none]) (Fin none _)
      unfold b9
      and_intros
      refine call_ok rfl rfl rfl (is_number_ok (.int i) N (by omega)) ?_
      rintro w r ⟨rfl, rfl⟩
      simp only [isNum]
      and_intros
      (first | exact ⟨rfl, trivial⟩ | exact ⟨trivial, trivial⟩ | exact ⟨rfl, rfl⟩ | trivial)
    | home a =>
      show Ok (EV.execs F (callN F N) b9 [some (.dat (.tuple [.str sHome, a.d])), none, none]) (Fin none _)
      unfold b9
      and_intros
      refine call_ok rfl rfl rfl (is_number_ok (.tuple [.str sHome, a.d]) N (by omega)) ?_
      rintro w r ⟨rfl, rfl⟩
      simp only [isNum]
      and_intros
      refine ⟨by decide +kernel, fun _ => ?_, fun z => absurd z (by decide)⟩
      (first | exact ⟨rfl, trivial⟩ | exact ⟨trivial, trivial⟩ | exact ⟨rfl, rfl⟩ | trivial)
    | fold a =>
      rw [Tr.ht] at ht
      show Ok (EV.execs F (callN F N) b9 [some (.dat (.tuple [.str sFold, a.d])), none, none]) (Fin none _)
      unfold b9
      and_intros
      refine call_ok rfl rfl rfl (is_number_ok (.tuple [.str sFold, a.d]) N (by omega)) ?_
      rintro w r ⟨rfl, rfl⟩
      simp only [isNum]
      and_intros
      refine ⟨by decide +kernel, fun z => absurd z (by decide), fun _ => ?_⟩
      rw [e_comp2']
      and_intros
      rw [cut1, c2_cons]
      simp only [wipeR, Tg.slots, List.cons_append, List.nil_append, List.foldr_cons, List.foldr_nil, List.set_cons_succ, List.set_cons_zero]
      and_intros
      refine inner _ a [] _ (by omega) ?_
      simp only [wipeR, List.foldr_cons, List.foldr_nil, List.set_cons_succ, List.set_cons_zero, c2_nil, List.nil_append]
      have := hp a (by omega)
      refine ⟨by rw [List.length_map, sizeLine_eq]; omega, ?_⟩
      and_intros
      (first | exact ⟨rfl, trivial⟩ | exact ⟨trivial, trivial⟩ | exact ⟨rfl, rfl⟩ | trivial)
    | join a b =>
      rw [Tr.ht] at ht
      show Ok (EV.execs F (callN F N) b9 [some (.dat (.tuple [.str sJoin, a.d, b.d])), none, none]) (Fin none _)
      unfold b9
      and_intros
      refine call_ok rfl rfl rfl (is_number_ok (.tuple [.str sJoin, a.d, b.d]) N (by omega)) ?_
      rintro w r ⟨rfl, rfl⟩
      simp only [isNum]
      and_intros
      refine ⟨by decide +kernel, fun z => absurd z (by decide), fun _ => ?_⟩
      rw [e_comp2']
      and_intros
      rw [cut1, c2_cons]
      simp only [wipeR, Tg.slots, List.cons_append, List.nil_append, List.foldr_cons, List.foldr_nil, List.set_cons_succ, List.set_cons_zero]
      and_intros
      refine inner _ a [] _ (by omega) ?_
      simp only [wipeR, List.foldr_cons, List.foldr_nil, List.set_cons_succ, List.set_cons_zero, c2_cons, List.nil_append]
      and_intros
      refine inner _ b _ _ (by omega) ?_
      simp only [wipeR, List.foldr_cons, List.foldr_nil, List.set_cons_succ, List.set_cons_zero, c2_nil]
      have h1 := hp a (by omega)
      have h2 := hp b (by omega)
      refine ⟨by rw [List.length_append, List.length_map, List.length_map, sizeLine_eq]; omega, ?_⟩
      and_intros
      simp [Tr.homes]
/-! ### data without lists -/
theorem tup_tr : ∀ t : Tr, tupD t.d = t.d
  | .leaf i => rfl
  | .home t => by rw [Tr.d, tupD, tupDs, tupD, tupDs, tup_tr t, tupDs]; all_goals simp
  | .fold t => by rw [Tr.d, tupD, tupDs, tupD, tupDs, tup_tr t, tupDs]; all_goals simp
  | .join a b => by rw [Tr.d, tupD, tupDs, tupD, tupDs, tup_tr a, tupDs, tup_tr b, tupDs]; all_goals simp
theorem tup_lis_tr : ∀ t : Tr, tupD (lisD t.d) = t.d
  | .leaf i => rfl
  | .home t => by rw [Tr.d, lisD, lisDs, lisD, lisDs, lisDs, tupD, tupDs, tupD, tupDs, tup_lis_tr t, tupDs]; all_goals simp
  | .fold t => by rw [Tr.d, lisD, lisDs, lisD, lisDs, lisDs, tupD, tupDs, tupD, tupDs, tup_lis_tr t, tupDs]; all_goals simp
  | .join a b => by rw [Tr.d, lisD, lisDs, lisD, lisDs, lisDs, lisDs, tupD, tupDs, tupD, tupDs, tup_lis_tr a, tupDs, tup_lis_tr b, tupDs]; all_goals simp
end K21

set_option linter.all false
set_option maxRecDepth 100000
set_option Elab.async false
namespace EV
open PySem
theorem om_sumI (ns : List Int) (k : W → Prop) : OM (EV.bi .sum [.list (ns.map .int)]) k = k (.dat (.int ns.sum)) := by
  show OM ((intL _).map _) k = _
  rw [intL_map]; rfl
end EV
namespace K21
open PySem EV
theorem Tr.hm : ∀ (t : Tr) (g : Bool) (h : Tr), t.wf g → h ∈ t.homes → h.ht ≤ t.ht ∧ h.wf true ∧ h.leaves.length ≤ t.leaves.length
  | .leaf i, g, h, w, hh => nomatch hh
  | .home t, g, h, w, hh => by
    rw [List.mem_singleton.mp hh]
    exact ⟨by simp only [Tr.ht]; omega, w.2, Nat.le_refl _⟩
  | .fold t, g, h, w, hh => by
    have := Tr.hm t g h w hh
    simp only [Tr.ht, Tr.leaves]; exact ⟨by omega, this.2⟩
  | .join a b, g, h, w, hh => by
    simp only [Tr.ht, Tr.leaves, List.length_append]
    rcases List.mem_append.mp hh with q | q
    · have := Tr.hm a g h w.1 q; exact ⟨by omega, this.2.1, by omega⟩
    · have := Tr.hm b g h w.2 q; exact ⟨by omega, this.2.1, by omega⟩
theorem Tr.ne : ∀ t : Tr, t.leaves ≠ []
  | .leaf i => by simp [Tr.leaves]
  | .home t => Tr.ne t
  | .fold t => Tr.ne t
  | .join a b => by simp [Tr.leaves, Tr.ne a]
theorem Tr.sub : ∀ t : Tr, (t.homes.map Tr.leaves).flatten.Sublist t.leaves
  | .leaf i => by simp [Tr.homes, Tr.leaves]
  | .home t => by simp [Tr.homes, Tr.leaves]
  | .fold t => Tr.sub t
  | .join a b => by
    simp only [Tr.homes, Tr.leaves, List.map_append, List.flatten_append]
    exact (Tr.sub a).append (Tr.sub b)
/-- a drawn plan -/
def planD (out : List Int) (t : Tr) : D := .tuple [.tuple (out.map .int), t.d]
def softP (out : List Int) (t : Tr) (p : D) : Prop := p = planD out t ∨ p = lisD (planD out t)
theorem lis_ints : ∀ ns : List Int, lisDs (ns.map .int) = ns.map .int
  | [] => rfl
  | n :: ns => by rw [List.map_cons, lisDs, lis_ints ns]; rfl
theorem tup_plan {out : List Int} {t : Tr} {p : D} (h : softP out t p) : tupD p = planD out t := by
  rcases h with rfl | rfl
  · rw [planD, tupD, tupDs, tupDs, tup_tr, tupD, tupDs_map, tup_ints, tupDs]
  · rw [planD, lisD, lisDs, lisDs, lisD, lis_ints, tupD, tupDs, tupDs, tup_lis_tr, tupD, tupDs_map, tup_ints, lisDs, tupDs]
theorem depth_plan (out : List Int) (t : Tr) : (planD out t).depth ≤ t.ht + 2 := by
  rw [planD, PyData.depth, PyData.depthAll, PyData.depth, PySem.W.depth_ints, PyData.depthAll, Tr.depth, PyData.depthAll]; omega
mutual
theorem depth_lis : ∀ d : D, (lisD d).depth = d.depth
  | .list xs => by rw [lisD, PyData.depth, PyData.depth, depthAll_lis xs]
  | .tuple xs => by rw [lisD, PyData.depth, PyData.depth, depthAll_lis xs]
  | .none => by rw [lisD]; all_goals simp
  | .bool _ => by rw [lisD]; all_goals simp
  | .int _ => by rw [lisD]; all_goals simp
  | .str _ => by rw [lisD]; all_goals simp
  | .dict _ => by rw [lisD]; all_goals simp
theorem depthAll_lis : ∀ xs : List D, PyData.depthAll (lisDs xs) = PyData.depthAll xs
  | [] => by rw [lisDs]
  | x :: xs => by rw [lisDs, PyData.depthAll, PyData.depthAll, depth_lis x, depthAll_lis xs]
end
theorem depth_soft {out : List Int} {t : Tr} {p : D} (h : softP out t p) : p.depth ≤ t.ht + 2 := by
  have := depth_plan out t
  rcases h with rfl | rfl
  · exact this
  · rw [depth_lis]; exact this
def rowU (h : Tr) : D := .tuple (uniqD (h.leaves.map .int))
theorem rowU_row (h : Tr) : ∃ ns, rowU h = rowT ns := by
  obtain ⟨ms, e, _⟩ := uniq_ints h.leaves
  exact ⟨ms, by rw [rowU, e]; rfl⟩
theorem setOk_ints {ns : List Int} (h : ns.length < 64) : setOk (ns.map .int) = true := by
  unfold setOk
  rw [List.length_map, intL_map, decide_eq_true h]; rfl
theorem setOk_rows {hs : List Tr} (h : hs.length < 64) : setOk (hs.map rowU) = true := by
  unfold setOk
  rw [List.length_map, decide_eq_true h, Bool.true_and, Bool.or_eq_true]
  right
  rw [List.all_eq_true]
  intro x hx
  obtain ⟨t, _, rfl⟩ := List.mem_map.mp hx
  obtain ⟨ns, e⟩ := rowU_row t
  rw [e]
  show (intL (ns.map .int)).isSome = true
  rw [intL_map]; rfl
theorem homes_of_ok (out : List Int) (t : Tr) (hw : t.wf false) (ht : t.ht ≤ 15) (hl : t.leaves.length < 64) (hh : t.homes.length < 64) (p : D) (hp : softP out t p) :
    Run F 24 10 [p] fun w io => w = .dat (.tuple (uniqD (t.homes.map rowU))) ∧ io = none := by
  refine Run.of (fn := f10) rfl rfl rfl fun N hN => ?_
  show Ok (EV.execs F (callN F N) b10 [some (.dat p), none]) (Fin none _)
  unfold b10
  and_intros
  refine call_ok rfl rfl rfl (tupled_ok 17 p (by have := depth_soft hp; omega) N (by omega)) ?_
  rintro w r ⟨rfl, rfl⟩
  rw [tup_plan hp]
  unfold planD
  and_intros
  refine call_ok rfl rfl rfl (home_trees_ok 15 t ht (by omega) N (by omega)) ?_
  rintro w r ⟨rfl, rfl⟩
  and_intros
  refine comp_map Tr.d [some (.dat p), none] (fun h => some (rowU h)) _ _ (fun h hh' => ?_) ?_
  · obtain ⟨h1, h2, h3⟩ := Tr.hm t false h hw hh'
    and_intros
    refine call_ok rfl rfl rfl (sheets_ok 15 h.d true (by rw [Tr.depth]; omega) (by omega) (Tr.lay h) N (by omega)) ?_
    rintro w r ⟨rfl, rfl⟩
    rw [Tr.und (15 + 1) h true (by omega) h2]
    simp only [undW]
    and_intros
    refine call_ok rfl rfl rfl (set_of_ok _ (setOk_ints (by omega)) N (by omega)) ?_
    rintro w r ⟨rfl, rfl⟩
    and_intros
    (first | exact ⟨rfl, trivial⟩ | exact ⟨trivial, trivial⟩ | exact ⟨rfl, rfl⟩ | trivial)
  · rw [fm_some, List.nil_append]
    and_intros
    refine call_ok rfl rfl rfl (set_of_ok _ (setOk_rows hh) N (by omega)) ?_
    rintro w r ⟨rfl, rfl⟩
    and_intros
    (first | exact ⟨rfl, trivial⟩ | exact ⟨trivial, trivial⟩ | exact ⟨rfl, rfl⟩ | trivial)
def sizeD (t : Tr) : D := .tuple [.int t.leaves.length, .int ((t.homes.length : Int) + t.leaves.length - ((t.homes.map Tr.leaves).flatten.length : Nat))]
theorem sum_lens : ∀ hs : List (List Int), (hs.map fun l => (l.length : Int)).sum = (hs.flatten.length : Nat)
  | [] => rfl
  | l :: hs => by
    rw [List.map_cons, List.sum_cons, sum_lens hs, List.flatten_cons, List.length_append]; omega
theorem plan_size_ok (out : List Int) (t : Tr) (hw : t.wf false) (ht : t.ht ≤ 15) (p : D) (hp : softP out t p) :
    Run F 24 11 [p] fun w io => w = .dat (sizeD t) ∧ io = none := by
  refine Run.of (fn := f11) rfl rfl rfl fun N hN => ?_
  show Ok (EV.execs F (callN F N) b11 [some (.dat p), none, none, none, none]) (Fin none _)
  unfold b11
  and_intros
  refine call_ok rfl rfl rfl (tupled_ok 17 p (by have := depth_soft hp; omega) N (by omega)) ?_
  rintro w r ⟨rfl, rfl⟩
  rw [tup_plan hp]
  unfold planD
  and_intros
  refine call_ok rfl rfl rfl (sheets_ok 15 t.d false (by rw [Tr.depth]; omega) (by omega) (Tr.lay t) N (by omega)) ?_
  rintro w r ⟨rfl, rfl⟩
  rw [Tr.und (15 + 1) t false (by omega) hw]
  simp only [undW]
  and_intros
  refine call_ok rfl rfl rfl (home_trees_ok 15 t ht (by omega) N (by omega)) ?_
  rintro w r ⟨rfl, rfl⟩
  and_intros
  refine comp_map Tr.d [some (.dat p), some (.dat t.d), none, none, none] (fun h => some (.list (h.leaves.map .int))) _ _ (fun h hh' => ?_) ?_
  · obtain ⟨h1, h2, h3⟩ := Tr.hm t false h hw hh'
    and_intros
    refine call_ok rfl rfl rfl (sheets_ok 15 h.d true (by rw [Tr.depth]; omega) (by omega) (Tr.lay h) N (by omega)) ?_
    rintro w r ⟨rfl, rfl⟩
    rw [Tr.und (15 + 1) h true (by omega) h2]
    simp only [undW]
    and_intros
    (first | exact ⟨rfl, trivial⟩ | exact ⟨trivial, trivial⟩ | exact ⟨rfl, rfl⟩ | trivial)
  · rw [fm_some, List.nil_append]
    and_intros
    refine comp_map (fun h : Tr => (.list (h.leaves.map .int) : D)) [some (.dat p), some (.dat t.d), some (.dat (.int (t.leaves.map PyData.int).length)), some (.dat (.list (t.homes.map fun h => .list (h.leaves.map .int)))), none] (fun h => some (.int h.leaves.length)) _ _ (fun h hh' => ?_) ?_
    · and_intros
      exact ⟨rfl, by simp⟩
    · rw [fm_some, List.nil_append]
      and_intros
      have e : t.homes.map (fun h => (.int (h.leaves.length : Nat) : D)) = (t.homes.map fun h => ((h.leaves.length : Nat) : Int)).map .int := by rw [List.map_map]; rfl
      rw [e, om_sumI]
      and_intros
      have e2 : (t.homes.map fun h => ((h.leaves.length : Nat) : Int)).sum = ((t.homes.map Tr.leaves).flatten.length : Nat) := by
        rw [← sum_lens, List.map_map]; rfl
      rw [e2]
      simp [sizeD]
theorem law_size_ok (out : List Int) (t : Tr) (hw : t.wf false) (ht : t.ht ≤ 15) : Run F 18 31 [planD out t] fun w io => w = .dat (sizeD t) ∧ io = none := by
  refine Run.of (fn := f31) rfl rfl rfl fun N hN => ?_
  show Ok (EV.execs F (callN F N) b31 [some (.dat (.tuple [.tuple (out.map .int), t.d])), none, none, none]) (Fin none _)
  unfold b31
  and_intros
  refine call_ok rfl rfl rfl (lhomes_ok 15 t ht (by omega) N (by omega)) ?_
  rintro w r ⟨rfl, rfl⟩
  and_intros
  refine comp_map Tr.d [some (.dat (.tuple [.tuple (out.map .int), t.d])), none, none, none] (fun h => some (.list (h.leaves.map .int))) _ _ (fun h hh' => ?_) ?_
  · obtain ⟨h1, h2, h3⟩ := Tr.hm t false h hw hh'
    and_intros
    refine call_ok rfl rfl rfl (under_ok 15 h (by omega) (by omega) N (by omega)) ?_
    rintro w r ⟨rfl, rfl⟩
    and_intros
    (first | exact ⟨rfl, trivial⟩ | exact ⟨trivial, trivial⟩ | exact ⟨rfl, rfl⟩ | trivial)
  · rw [fm_some, List.nil_append]
    and_intros
    refine call_ok rfl rfl rfl (under_ok 15 t ht (by omega) N (by omega)) ?_
    rintro w r ⟨rfl, rfl⟩
    and_intros
    have e : t.homes.map (fun h => (.list (h.leaves.map .int) : D)) = (t.homes.map fun h => h.leaves.map PyData.int).map .list := by rw [List.map_map]; rfl
    rw [e, om_sumL]
    have ef : (t.homes.map fun h => h.leaves.map PyData.int).flatten = (t.homes.map Tr.leaves).flatten.map .int := by
      rw [List.map_flatten, List.map_map]; rfl
    rw [ef]
    have hl := (Tr.sub t).length_le
    have h1 := (Tr.lv_len t).1
    have h2 : 2 ^ t.ht ≤ 2 ^ 15 := Nat.pow_le_pow_right (by omega) (by omega)
    refine ⟨by rw [List.length_map, sizeLine_eq]; omega, ?_⟩
    and_intros
    simp only [List.length_map]
    unfold sizeD
    (first | exact ⟨rfl, trivial⟩ | exact ⟨trivial, trivial⟩ | exact ⟨rfl, rfl⟩ | trivial)
end K21

set_option linter.all false
set_option maxRecDepth 100000
set_option Elab.async false
namespace K21
open PySem EV
theorem own_at {O : List (List Str)} {B : List D} (hB : Book O B) {i : Nat} {b : D} (h : B[i]? = some b) : O[i]? = some (ownS b) := by
  have h1 : i < O.length := by
    have := (List.getElem?_eq_some_iff.mp h).1
    have := hB.len; omega
  obtain ⟨sb, e, hs⟩ := hB.at_ i _ (List.getElem?_eq_getElem h1)
  rw [h] at e
  cases e
  rw [hs.own, List.getElem?_eq_getElem h1]
theorem one_home {O : List (List Str)} (hO : Wide O) {i j : Nat} {o o' : List Str} {t : Str} (hi : O[i]? = some o) (hj : O[j]? = some o') (h1 : t ∈ o) (h2 : t ∈ o') : i = j := by
  have p := (List.pairwise_flatten.mp hO.nd).2
  obtain ⟨a1, a2⟩ := List.getElem?_eq_some_iff.mp hi
  obtain ⟨b1, b2⟩ := List.getElem?_eq_some_iff.mp hj
  rcases Nat.lt_trichotomy i j with q | q | q
  · exact absurd rfl (List.pairwise_iff_getElem.mp p i j a1 b1 q t (a2 ▸ h1) t (b2 ▸ h2))
  · exact q
  · exact absurd rfl (List.pairwise_iff_getElem.mp p j i b1 a1 q t (b2 ▸ h2) t (a2 ▸ h1))
theorem homes_nd (B : List D) (t : Str) : (homes B t).Nodup := by
  unfold homes
  have h : (B.zipIdx.map (·.2)).Nodup := by
    rw [List.zipIdx_map_snd]
    exact List.nodup_range'
  exact h.sublist (List.filter_sublist.map _)
theorem homes_mem {O : List (List Str)} {B : List D} (hB : Book O B) {t : Str} {i : Nat} : i ∈ homes B t ↔ ∃ o, O[i]? = some o ∧ t ∈ o := by
  unfold homes
  rw [List.mem_map]
  constructor
  · rintro ⟨⟨b, j⟩, h1, rfl⟩
    obtain ⟨h2, h3⟩ := List.mem_filter.mp h1
    have h4 : B[j]? = some b := by
      have := List.mem_zipIdx_iff_getElem?.mp h2
      exact this
    exact ⟨_, own_at hB h4, by simpa using h3⟩
  · rintro ⟨o, h1, h2⟩
    obtain ⟨sb, e, hs⟩ := hB.at_ i o h1
    refine ⟨(sb, i), List.mem_filter.mpr ⟨List.mem_zipIdx_iff_getElem?.mpr e, ?_⟩, rfl⟩
    show (ownS sb).contains t = true
    rw [hs.own]; simpa using h2
theorem homes_one {O : List (List Str)} {B : List D} (hB : Book O B) {t : Str} {k : Nat} {o : List Str} (h : O[k]? = some o) (ht : t ∈ o) : homes B t = [k] := by
  have m : k ∈ homes B t := (homes_mem hB).mpr ⟨o, h, ht⟩
  have all : ∀ i ∈ homes B t, i = k := fun i hi => by
    obtain ⟨o', h1, h2⟩ := (homes_mem hB).mp hi
    exact one_home hB.wide h1 h h2 ht
  have nd := homes_nd B t
  match hh : homes B t with
  | [] => rw [hh] at m; cases m
  | [x] => rw [hh] at all; rw [all x (by simp)]
  | x :: y :: r =>
    rw [hh] at all nd
    have e1 := all x (by simp)
    have e2 := all y (by simp)
    rw [e1, e2] at nd
    simp at nd
theorem ask_home {O : List (List Str)} {B : List D} (hB : Book O B) {ch : List Int} {S : List Str} (hA : Ask O ch S) : ∀ t ∈ S, homes B t ≠ [] := fun t ht => by
  obtain ⟨k, o, h1, h2⟩ := hA.tag t ht
  rw [homes_one hB h1 h2]; simp
theorem ask_ok' {O : List (List Str)} {B : List D} (hB : Book O B) {ch : List Int} {S : List Str} (hA : Ask O ch S) : StrsOk S := fun t ht => by
  obtain ⟨k, o, h1, h2⟩ := hA.tag t ht
  exact hB.wide.ok o (List.mem_of_getElem? h1) t h2
theorem can_may {O : List (List Str)} {B : List D} (hB : Book O B) {ch : List Int} {S : List Str} (hA : Ask O ch S) : canL B ch S = mayL B ch S := by
  unfold canL mayL
  refine List.filter_congr fun k hk => ?_
  obtain ⟨k0, k1⟩ := hA.in_ k hk
  obtain ⟨n, rfl⟩ := Int.eq_ofNat_of_zero_le k0
  congr 1
  have hn : n < O.length := by omega
  obtain ⟨sb, e, hs⟩ := hB.at_ n _ (List.getElem?_eq_getElem hn)
  have eb : B.getD ((n : Nat) : Int).toNat .none = sb := by rw [Int.toNat_natCast, List.getD_eq_getElem?_getD, e]; rfl
  rw [eb, hs.own]
  have key : ∀ t ∈ S, (hom B t = (n : Int)) ↔ t ∈ O[n] := fun t ht => by
    obtain ⟨k, o, h1, h2⟩ := hA.tag t ht
    have hh : hom B t = (k : Int) := by unfold hom; rw [homes_one hB h1 h2]; rfl
    rw [hh]
    constructor
    · intro q
      have : k = n := by omega
      subst this
      rw [List.getElem?_eq_getElem hn] at h1
      cases h1; exact h2
    · intro q
      rw [one_home hB.wide h1 (List.getElem?_eq_getElem hn) h2 q]
  rw [Bool.eq_iff_iff, Bool.not_eq_true', List.isEmpty_iff, List.filter_eq_nil_iff]
  constructor
  · intro h t ht q
    have q : t ∈ O[n] := by simpa using q
    have : (S.map (hom B)).contains (n : Int) = true := by
      rw [List.contains_iff_mem]
      exact List.mem_map.mpr ⟨t, ht, (key t ht).mpr q⟩
    rw [h] at this; cases this
  · intro h
    rw [← Bool.not_eq_true, List.contains_iff_mem]
    intro q
    obtain ⟨t, ht, e⟩ := List.mem_map.mp q
    exact h t ht (by simpa using (key t ht).mp e)
/-- a drawn plan of a question -/
structure Plan (B : List D) (ch : List Int) (S : List Str) (out : List Int) (t : Tr) : Prop where
  so : out.Sublist (mayL B ch S)
  lv : t.leaves.Perm (ch.filter fun k => !out.contains k)
  wf : t.wf false
  ht : t.ht ≤ 15
theorem sort_up {ns : List Int} (ms : List Int) (p : ms.Perm ns) (h : ns.Pairwise (· < ·)) : sortD (ms.map .int) = ns.map .int := by
  have nd : ns.Nodup := h.imp fun {a b} q => by omega
  have r1 : Rise (sortD (ms.map .int)) := sortD_rise (tot_ints ms) (nodup_map (fun _ _ q => by cases q; rfl) (p.nodup_iff.mpr nd))
  refine Rise.ext r1 ((rise_ints ns).mpr h) fun x => ?_
  rw [(sortD_perm _).mem_iff]
  simp only [List.mem_map, p.mem_iff]
where nodup_map {α β : Type} {f : α → β} (hf : ∀ a b, f a = f b → a = b) {l : List α} (h : l.Nodup) : (l.map f).Nodup := List.pairwise_map.mpr (List.Pairwise.imp (fun {a b} n e => n (hf a b e)) h)
theorem plan_yes {O : List (List Str)} {B : List D} (hB : Book O B) {ch : List Int} {S : List Str} (hA : Ask O ch S) {out : List Int} {t : Tr} (hP : Plan B ch S out t) : plB (mayL B ch S) ch (planD out t) = true := by
  have up : (mayL B ch S).Pairwise (· < ·) := hA.up.sublist List.filter_sublist
  have e : plB (mayL B ch S) ch (planD out t) = (risesB out && (out.all fun k => (mayL B ch S).contains k) && plT ch out (und 21 t.d false)) := by
    simp only [plB, planD, intL_map]
  rw [e, Tr.und 21 t false (by have := hP.ht; omega) hP.wf, (rises_iff out).mpr (up.sublist hP.so)]
  have h2 : (out.all fun k => (mayL B ch S).contains k) = true := by
    rw [List.all_eq_true]
    intro k hk
    rw [List.contains_iff_mem]
    exact hP.so.subset hk
  rw [h2]
  simp only [plT, Bool.true_and]
  rw [sort_up t.leaves hP.lv (hA.up.sublist List.filter_sublist), eqv_ints]
  simp
end K21

set_option linter.all false
set_option maxRecDepth 100000
set_option Elab.async false
namespace EV
open PySem
theorem e_callK' (F : Nat → Option Fn) (cl : Nat → List D → FRes) (f : Nat) (perm : List Nat) (es : Es) (ρ : Ro) (fn : Fn) (hf : F f = some fn) (hio : fn.io = none) (k : W × Ro → Prop) : Ok (EV.ev F cl (.callK f perm es) ρ) k = Ok (EV.evCA F cl es none ρ) fun p => Ok (callE fn (cl f) (perm.filterMap fun i => p.1[i]?) p.2) k := by
  rw [EV.ev, hf]
  dsimp only
  rw [if_pos hio]
  exact ok_bind _ _ _
end EV
namespace K21
open PySem EV
theorem lfs_ints : ∀ l : List Int, lfs (l.map .int) = true
  | [] => by simp [lfs]
  | s :: l => by rw [List.map_cons, lfs, lfs_ints l, lf]; rfl
theorem outs_ok {N : Nat} (hN : 1 ≤ N) (v1 v2 v3 v4 : Option Sv) : ∀ (ks : List Int) (m : Nat) (b : List D) (A : List Int) (K : List D × Ro → Prop), Bx m b → m + ks.length < 2 ^ 40 →
    (∀ (b' : List D) (s : List Int), Bx (m + ks.length) b' → s.Sublist ks → K ((A ++ s).map .int, [some (.io b'), v1, v2, v3, v4, none])) →
    Ok (compL (bindT (.one 5)) (EV.evC F (callN F N) (.yes (.op2 .eq (.call 13 (.cons (.var 0) (.cons (.cst (.int 2)) .nil))) (.cst (.int 0))))) (datOf (EV.ev F (callN F N) (.var 5))) [5] (ks.map .int) [some (.io b), v1, v2, v3, v4, none] (A.map .int)) K
  | [], m, b, A, K, hb, hm, hK => by
    rw [List.map_nil, cp_nil]
    have := hK b [] hb (List.Sublist.refl _)
    rw [List.append_nil] at this
    exact this
  | t :: ts, m, b, A, K, hb, hm, hK => by
    rw [List.length_cons] at hm
    rw [List.map_cons, cp_cons]
    and_intros
    refine call_ok rfl rfl rfl (take_ok hb (by omega) (by omega) (by omega) N hN) ?_
    rintro w r ⟨k, b', rfl, rfl, hb', k0, k1⟩
    and_intros
    refine ⟨fun e => ?_, fun e => ?_⟩
    · have e2 : A.map (fun i => (.int i : D)) ++ [.int t] = (A ++ [t]).map .int := by simp
      rw [e2]
      refine outs_ok hN v1 v2 v3 v4 ts (m + 1) b' _ K hb' (by omega) fun b2 s h1 h2 => ?_
      rw [List.append_assoc]
      exact hK b2 ([t] ++ s) (h1.mono (by simp; omega)) (h2.cons₂ t)
    · refine outs_ok hN v1 v2 v3 v4 ts (m + 1) b' A K hb' (by omega) fun b2 s h1 h2 => hK b2 s (h1.mono (by simp; omega)) (h2.cons t)
theorem up_len (n : Nat) : ∀ (l : List Int) (a : Int), l.Pairwise (· < ·) → (∀ x ∈ l, a ≤ x ∧ x < (n : Int)) → (l.length : Int) ≤ max 0 (n - a)
  | [], a, _, _ => by simp; omega
  | x :: l, a, h, hx => by
    obtain ⟨h1, h2⟩ := List.pairwise_cons.mp h
    have h3 := hx x List.mem_cons_self
    have := up_len n l (x + 1) h2 fun y hy => ⟨by have := h1 y hy; omega, (hx y (List.mem_cons_of_mem _ hy)).2⟩
    rw [List.length_cons]
    omega
theorem plan_ok {m : Nat} {b : List D} (hb : Bx m b) (hm : m + 200000 < 2 ^ 39) {O : List (List Str)} {B : List D} (hB : Book O B) {ch : List Int} {S : List Str} (hA : Ask O ch S) (l : D) :
    Run F 18 24 [.list b, .tuple B, .tuple [.tuple (ch.map .int), l, .tuple (S.map .str)]] fun w io => ∃ (out : List Int) (t : Tr) (b' : List D), w = .dat (planD out t) ∧ io = some b' ∧ Bx (m + 200000) b' ∧ Plan B ch S out t := by
  refine Run.of (fn := f24) rfl rfl rfl fun N hN => ?_
  show Ok (EV.execs F (callN F N) b24 [some (.io b), some (.dat (.tuple B)), some (.dat (.tuple [.tuple (ch.map .int), l, .tuple (S.map .str)])), none, none, none]) (Fin (some 0) _)
  unfold b24
  have hcl : ch.length ≤ 3 := by
    have n3 := hB.n3
    have := up_len O.length ch 0 hA.up fun k hk => by have := hA.in_ k hk; omega
    omega
  have hml : (mayL B ch S).length ≤ 3 := by
    have := List.length_filter_le (fun k => decide (0 < k) && (S.filter fun t => (ownS (B.getD k.toNat .none)).contains t).isEmpty) ch
    unfold mayL
    omega
  and_intros
  refine call_ok rfl rfl rfl (may_ok hB.sht (fun k hk => by have := hA.in_ k hk; have := hB.len; omega) (ask_ok' hB hA) l N (by omega)) ?_
  rintro w r ⟨rfl, rfl⟩
  and_intros
  refine outs_ok (by omega) _ _ _ _ (mayL B ch S) m b [] _ hb (by omega) fun b1 out hb1 hout => ?_
  rw [List.nil_append]
  and_intros
  refine comp_map (fun i : Int => (.int i : D)) [some (.io b1), some (.dat (.tuple B)), some (.dat (.tuple [.tuple (ch.map .int), l, .tuple (S.map .str)])), some (.dat (.tuple (out.map .int))), none, none] (fun k => if (!out.contains k) = true then some (.int k) else none) _ _ (fun k _ => ?_) ?_
  · and_intros
    rw [inD_int]
    refine ⟨by rw [shaped_int, (shaped_ints out).2]; rfl, fun h => ⟨rfl, if_pos h⟩, fun h => ⟨rfl, if_neg (by rw [h]; exact Bool.false_ne_true)⟩⟩
  · rw [filt, List.nil_append]
    and_intros
    have hll : (ch.filter fun k => !out.contains k).length ≤ 3 := by
      have := List.length_filter_le (fun k => !out.contains k) ch; omega
    have h0 : (0 : Int) ∉ out := fun z => by
      have := (List.mem_filter.mp (hout.subset z)).2
      simp at this
    have hne : 1 ≤ (ch.filter fun k => !out.contains k).length := by
      have : (0 : Int) ∈ ch.filter fun k => !out.contains k := List.mem_filter.mpr ⟨hA.z, by simpa using h0⟩
      exact List.length_pos_of_mem this
    refine call_okC rfl rfl rfl (mixed_ok (xs := (ch.filter fun k => !out.contains k).map .int) hb1 (by rw [List.length_map]; omega) (by rw [List.length_map]; omega) (.list _) (.inr rfl) N (by omega)) ?_
    rintro w r ⟨ys, b2, rfl, rfl, hb2, pm⟩
    obtain ⟨ns, rfl⟩ := mapped (fun i : Int => (.int i : D)) (xs := ys) fun y hy => by
      obtain ⟨i, _, rfl⟩ := List.mem_map.mp (pm.mem_iff.mp hy)
      exact ⟨i, rfl⟩
    have pn : ns.Perm (ch.filter fun k => !out.contains k) := by
      have q := pm.map (fun d => match d with | .int i => i | _ => 0)
      simpa [List.map_map, Function.comp_def] using q
    refine ⟨by show (lfs (ns.map .int) && lfs b2) = true; rw [lfs_ints, lfs_bx hb2]; rfl, ?_⟩
    rw [List.length_map] at hb2
    have hnl := pn.length_eq
    and_intros
    refine call_ok rfl rfl rfl (tree_ok 15 ns false false _ b2 (by unfold mu; simp; omega) (by omega) (by omega) hb2 (by omega) N (by omega)) ?_
    rintro w r ⟨t, b3, rfl, rfl, hb3, lv, wf', ht'⟩
    and_intros
    exact ⟨out, t, b3, rfl, rfl, hb3.mono (by omega), hout, by rw [lv]; exact pn, wf', ht'⟩
end K21

set_option linter.all false
set_option maxRecDepth 100000
set_option Elab.async false
namespace K21
open PySem EV
theorem inj_int {i j : Int} (h : (PyData.int i : D) = .int j) : i = j := by cases h; rfl
theorem nd_map {α β : Type} {f : α → β} (hf : ∀ a b, f a = f b → a = b) {l : List α} (h : l.Nodup) : (l.map f).Nodup := List.pairwise_map.mpr (List.Pairwise.imp (fun {a b} n e => n (hf a b e)) h)
def rowO (h : Tr) : D := .tuple (sortD (h.leaves.map .int))
theorem lots_eq {t : Tr} (nd : t.leaves.Nodup) : uniqD (t.homes.map rowU) = sortD (t.homes.map rowO) := by
  have nf := nd.sublist (Tr.sub t)
  obtain ⟨f1, f2⟩ := List.pairwise_flatten.mp nf
  have eo : t.homes.map rowO = t.homes.map rowU := by
    refine List.map_congr_left fun h hh => ?_
    have n1 : h.leaves.Nodup := f1 _ (List.mem_map.mpr ⟨h, hh, rfl⟩)
    unfold rowO rowU
    rw [uniq_eq (tot_ints h.leaves) (nd_map (fun _ _ => inj_int) n1) fun x => Iff.rfl]
  rw [eo]
  have ex : ∃ ks : List (List Int), t.homes.map rowU = ks.map rowT := mapped rowT fun x hx => by
    obtain ⟨h, _, rfl⟩ := List.mem_map.mp hx
    obtain ⟨ns, e⟩ := rowU_row h
    exact ⟨ns, e⟩
  have tt : Tot (t.homes.map rowU) := by
    obtain ⟨ks, e⟩ := ex
    rw [e]; exact tot_rows ks
  refine (uniq_eq tt ?_ fun x => Iff.rfl).symm
  rw [List.pairwise_map] at f2
  refine List.pairwise_map.mpr (List.Pairwise.imp (fun {a b} q e => ?_) f2)
  unfold rowU at e
  injection e with e
  obtain ⟨x, hx⟩ := List.exists_mem_of_ne_nil _ (Tr.ne a)
  have h1 : (.int x : D) ∈ uniqD (a.leaves.map .int) := (uniqD_mem (tot_ints _) _).mpr (List.mem_map.mpr ⟨x, hx, rfl⟩)
  rw [e] at h1
  obtain ⟨y, hy, e2⟩ := List.mem_map.mp ((uniqD_mem (tot_ints _) _).mp h1)
  exact q x hx y hy (inj_int e2).symm
theorem sortOk_rowO (hs : List Tr) : sortOk (hs.map rowO) = true := by
  obtain ⟨ks, e⟩ := mapped rowT (xs := hs.map rowO) fun x hx => by
    obtain ⟨h, _, rfl⟩ := List.mem_map.mp hx
    obtain ⟨ms, e, _⟩ := sortD_ints h.leaves
    exact ⟨ms, by unfold rowO; rw [e]; rfl⟩
  rw [e]
  simp only [sortOk, allAlike, depthOk, Bool.and_eq_true, List.all_eq_true, decide_eq_true_eq]
  refine ⟨⟨fun x hx y hy => ?_, fun x hx => ?_⟩, fun x hx => ?_⟩
  · obtain ⟨i, _, rfl⟩ := List.mem_map.mp hx
    obtain ⟨j, _, rfl⟩ := List.mem_map.mp hy
    rw [rowT, rowT, PySem.W.alike]
    exact PySem.W.alike_ints i j
  · obtain ⟨i, _, rfl⟩ := List.mem_map.mp hx
    rw [rowT, PyData.depth, PySem.W.depth_ints]; omega
  · obtain ⟨i, _, rfl⟩ := List.mem_map.mp hx
    rfl
theorem lists_list (n : Nat) (xs : List D) (hx : ∀ x ∈ xs, x.depth ≤ n) : Run F (n + 2) 16 [.list xs] fun w io => w = .new (xs.map lisD) ∧ io = none := by
  refine Run.of (fn := f16) rfl rfl rfl fun N hN => ?_
  show Ok (EV.execs F (callN F N) b16 [some (.dat (.list xs)), none]) (Fin none _)
  unfold b16
  and_intros
  refine comp_pure [some (.dat (.list xs)), none] (fun x => some (lisD x)) _ _ (fun x hm => ?_) ?_
  · and_intros
    refine call_ok rfl rfl rfl (lists_ok n x (hx x hm) N hN) ?_
    rintro w r ⟨hw, rfl⟩
    and_intros
    exact ⟨rfl, congrArg some hw.symm⟩
  · rw [fm_some, List.nil_append]
    and_intros
    (first | exact ⟨rfl, trivial⟩ | exact ⟨trivial, trivial⟩ | exact ⟨rfl, rfl⟩ | trivial)
theorem sht_lis {o : List Str} {b : D} (h : Sheet o b) (ho : StrsOk o) : ShtOk (lisD b) ∧ ownS (lisD b) = o := by
  obtain ⟨R, KL, T, rfl, _⟩ := h.ex
  have e : lisDs (o.map .str) = o.map .str := by
    clear h
    induction o with
    | nil => rfl
    | cons s o ih => rw [List.map_cons, lisDs, ih fun t ht => ho t (List.mem_cons_of_mem _ ht)]; rfl
  have e2 : ∃ r, lisD (.tuple [rowS o, .tuple R, .tuple (KL.map rowS), .tuple T]) = .list (.list (o.map .str) :: r) := by
    rw [lisD, lisDs, rowS, lisD, e]
    exact ⟨_, rfl⟩
  obtain ⟨r, e2⟩ := e2
  rw [e2]
  exact ⟨⟨o, r, .inr rfl, ho⟩, stL_map o⟩
theorem soft_book {O : List (List Str)} {B : List D} (hB : Book O B) : (∀ b ∈ lisDs B, ShtOk b) ∧ ∀ t, homes (lisDs B) t = homes B t := by
  have own : ∀ b ∈ B, ShtOk (lisD b) ∧ ownS (lisD b) = ownS b := fun b hb => by
    obtain ⟨o, ho, hs⟩ := hB.sheet hb
    have := sht_lis hs (hB.wide.ok o ho)
    exact ⟨this.1, by rw [this.2, hs.own]⟩
  rw [lisDs_map]
  refine ⟨fun b hb => ?_, fun t => ?_⟩
  · obtain ⟨x, hx, rfl⟩ := List.mem_map.mp hb
    exact (own x hx).1
  · unfold homes
    rw [List.zipIdx_map, List.filter_map, List.map_map]
    have e : ∀ p ∈ B.zipIdx, ((fun p : D × Nat => (ownS p.1).contains t) ∘ Prod.map lisD id) p = (ownS p.1).contains t := fun p hp => by
      show (ownS (lisD p.1)).contains t = _
      have hb : p.1 ∈ B := by
        obtain ⟨_, _, e⟩ := List.mem_zipIdx hp
        rw [e]; exact List.getElem_mem _
      rw [(own p.1 hb).2]
    rw [List.filter_congr e]
    rfl
theorem can_soft {O : List (List Str)} {B : List D} (hB : Book O B) (ch : List Int) (S : List Str) : canL (lisDs B) ch S = canL B ch S := by
  have e : hom (lisDs B) = hom B := funext fun t => by unfold hom; rw [(soft_book hB).2 t]
  unfold canL
  rw [e]
theorem lis_strs : ∀ ns : List Str, lisDs (ns.map .str) = ns.map .str
  | [] => rfl
  | n :: ns => by rw [List.map_cons, lisDs, lis_strs ns]; rfl
end K21

set_option linter.all false
set_option maxRecDepth 100000
set_option Elab.async false
namespace K21
open PySem EV
theorem lay_plan (out : List Int) (t : Tr) : (planD out t).canLay0 = true := by
  rw [planD, PyData.canLay0, PyData.canLayAll0, PyData.canLay0, layAll_ints, PyData.canLayAll0, Tr.lay, PyData.canLayAll0]; rfl
theorem row_facts (h : Tr) : (rowO h).canLay0 = true ∧ (rowO h).depth = 1 := by
  obtain ⟨ms, e, _⟩ := sortD_ints h.leaves
  unfold rowO
  rw [e, PyData.canLay0, layAll_ints, PyData.depth, PySem.W.depth_ints]
  exact ⟨rfl, rfl⟩
theorem lots_facts (t : Tr) : (PyData.tuple (sortD (t.homes.map rowO))).canLay0 = true ∧ (PyData.tuple (sortD (t.homes.map rowO))).depth ≤ 2 := by
  have h : ∀ x ∈ sortD (t.homes.map rowO), x.canLay0 = true ∧ x.depth ≤ 1 := fun x hx => by
    obtain ⟨h, _, rfl⟩ := List.mem_map.mp ((sortD_perm _).mem_iff.mp hx)
    exact ⟨(row_facts h).1, by rw [(row_facts h).2]; omega⟩
  have d1 := depthAll_of (n := 1) fun x hx => (h x hx).2
  rw [PyData.canLay0, layAll_of fun x hx => (h x hx).1, PyData.depth]
  exact ⟨rfl, by omega⟩
theorem size_facts (t : Tr) : (sizeD t).canLay0 = true ∧ (sizeD t).depth ≤ 1 := by
  unfold sizeD
  rw [PyData.canLay0, PyData.canLayAll0, PyData.canLay0, PyData.canLayAll0, PyData.canLay0, PyData.canLayAll0, PyData.depth, PyData.depthAll, PyData.depth, PyData.depthAll, PyData.depth, PyData.depthAll]
  exact ⟨rfl, by decide⟩
theorem plan_right_ok {O : List (List Str)} {B : List D} (hB : Book O B) {ch : List Int} {S : List Str} (hA : Ask O ch S) (l : D) (hl : l.depth ≤ 3) {out : List Int} {t : Tr} (hP : Plan B ch S out t) :
    Run F 26 32 [.tuple B, .tuple [.tuple (ch.map .int), l, .tuple (S.map .str)], planD out t] fun w io => w = .dat (.bool true) ∧ io = none := by
  refine Run.of (fn := f32) rfl rfl rfl fun N hN => ?_
  have hch : ch.length ≤ 3 := by
    have := up_len O.length ch 0 hA.up fun k hk => by have := hA.in_ k hk; omega
    have := hB.n3
    omega
  have nd : t.leaves.Nodup := hP.lv.nodup_iff.mpr ((hA.up.sublist List.filter_sublist).imp fun {a b} q => by omega)
  have ll : t.leaves.length ≤ 3 := by
    have h1 := hP.lv.length_eq
    have h2 := List.length_filter_le (fun k => !out.contains k) ch
    omega
  have hhl : t.homes.length ≤ 3 := by
    have h1 := (Tr.sub t).length_le
    have h2 : ∀ hs : List Tr, hs.length ≤ (hs.map Tr.leaves).flatten.length := by
      intro hs
      induction hs with
      | nil => simp
      | cons h hs ih =>
        have := List.length_pos_iff.mpr (Tr.ne h)
        simp only [List.map_cons, List.flatten_cons, List.length_append, List.length_cons]; omega
    have := h2 t.homes
    omega
  have dB : (PyData.tuple B).depth ≤ 7 := by
    have := depthAll_of (n := 6) fun b hb => (hB.lay b hb).2
    rw [PyData.depth]; omega
  have dq : (PyData.tuple [.tuple (ch.map .int), l, .tuple (S.map .str)]).depth ≤ 5 := by
    rw [PyData.depth, PyData.depthAll, PyData.depth, PySem.W.depth_ints, PyData.depthAll, PyData.depthAll, PyData.depth, depth_strs, PyData.depthAll]; omega
  have dP := depth_plan out t
  have dht := hP.ht
  have yes : plB (canL B ch S) ch (planD out t) = true := by rw [can_may hB hA]; exact plan_yes hB hA hP
  have hS := ask_ok' hB hA
  have q2 : lisD (.tuple [.tuple (ch.map .int), l, .tuple (S.map .str)]) = .list [.list (ch.map .int), lisD l, .list (S.map .str)] := by
    rw [lisD, lisDs, lisDs, lisDs, lisD, lisD, lis_ints, lis_strs, lisDs]
  have dq2 : (PyData.list [.list (ch.map .int), lisD l, .list (S.map .str)]).depth ≤ 5 := by rw [← q2, depth_lis]; exact dq
  have b2 : lisD (.tuple B) = .list (lisDs B) := by rw [lisD]
  have r1 := is_plan_ok (ch := ch) hB.sht hS (ask_home hB hA) (.tuple B) _ (planD out t) (.inl rfl) ⟨l, .inl rfl⟩ (by omega) (by omega) (lay_plan out t)
  have r2 := is_plan_ok (ch := ch) (soft_book hB).1 hS (fun t ht => by rw [(soft_book hB).2]; exact ask_home hB hA t ht) (.list (lisDs B)) _ (planD out t) (.inr rfl) ⟨lisD l, .inr rfl⟩ (by omega) (by omega) (lay_plan out t)
  rw [can_soft hB, yes] at r2
  rw [yes] at r1
  have r3 := homes_of_ok out t hP.wf hP.ht (by omega) (by omega) (planD out t) (.inl rfl)
  have r4 := homes_of_ok out t hP.wf hP.ht (by omega) (by omega) (lisD (planD out t)) (.inr rfl)
  rw [lots_eq nd] at r3 r4
  have r5 := plan_size_ok out t hP.wf hP.ht (planD out t) (.inl rfl)
  have r6 := plan_size_ok out t hP.wf hP.ht (lisD (planD out t)) (.inr rfl)
  have r7 := law_size_ok out t hP.wf hP.ht
  have e0 : planD out t = .tuple [.tuple (out.map .int), t.d] := rfl
  generalize hq : (PyData.tuple [.tuple (ch.map .int), l, .tuple (S.map .str)]) = q at *
  show Ok (EV.execs F (callN F N) b32 [some (.dat (.tuple B)), some (.dat q), some (.dat (planD out t)), none, none, none, none]) (Fin none _)
  unfold b32
  and_intros
  refine call_ok rfl rfl rfl (lists_list 20 [.tuple B, q, planD out t] (fun x hx => ?_) N (by omega)) ?_
  · rcases List.mem_cons.mp hx with z | hx
    · rw [z]; omega
    · rcases List.mem_cons.mp hx with z | hx
      · rw [z]; omega
      · rw [List.mem_singleton.mp hx]; omega
  rintro w r ⟨rfl, rfl⟩
  simp only [List.map_cons, List.map_nil, q2, b2]
  and_intros
  rw [e0]
  and_intros
  refine call_ok rfl rfl rfl (lhomes_ok 15 t hP.ht (by omega) N (by omega)) ?_
  rintro w r ⟨rfl, rfl⟩
  and_intros
  refine comp_map Tr.d [some (.dat (.tuple B)), some (.dat q), some (.dat (.tuple [.tuple (out.map .int), t.d])), some (.own [.list (lisDs B), .list [.list (ch.map .int), lisD l, .list (S.map .str)], lisD (.tuple [.tuple (out.map .int), t.d])]), none, none, none] (fun h => some (rowO h)) _ _ (fun h hh' => ?_) ?_
  · obtain ⟨h1, h2, h3⟩ := Tr.hm t false h hP.wf hh'
    and_intros
    refine call_ok rfl rfl rfl (under_ok 15 h (by omega) (by omega) N (by omega)) ?_
    rintro w r ⟨rfl, rfl⟩
    and_intros
    refine ⟨sortOk_ints _, ?_⟩
    (first | exact ⟨rfl, trivial⟩ | exact ⟨trivial, trivial⟩ | exact ⟨rfl, rfl⟩ | trivial)
  · rw [fm_some, List.nil_append]
    and_intros
    refine ⟨sortOk_rowO _, ?_⟩
    refine call_ok rfl rfl rfl (r1 N (by omega)) ?_
    rintro w r ⟨rfl, rfl⟩
    and_intros
    rw [e_callK' F _ 8 _ _ _ f8 rfl rfl]
    and_intros
    refine call_ok rfl rfl rfl (r2 N (by omega)) ?_
    rintro w r ⟨rfl, rfl⟩
    and_intros
    refine call_ok rfl rfl rfl (r3 N (by omega)) ?_
    rintro w r ⟨rfl, rfl⟩
    and_intros
    rw [e_callK' F _ 10 _ _ _ f10 rfl rfl]
    and_intros
    refine call_ok rfl rfl rfl (r4 N (by omega)) ?_
    rintro w r ⟨rfl, rfl⟩
    and_intros
    refine call_ok rfl rfl rfl (r5 N (by omega)) ?_
    rintro w r ⟨rfl, rfl⟩
    and_intros
    rw [e_callK' F _ 11 _ _ _ f11 rfl rfl]
    and_intros
    refine call_ok rfl rfl rfl (r6 N (by omega)) ?_
    rintro w r ⟨rfl, rfl⟩
    and_intros
    refine ⟨by rw [sizeLine_eq]; simp, ?_⟩
    refine call_ok rfl rfl rfl (r7 N (by omega)) ?_
    rintro w r ⟨rfl, rfl⟩
    and_intros
    refine call_ok rfl rfl rfl (r7 N (by omega)) ?_
    rintro w r ⟨rfl, rfl⟩
    and_intros
    have lf1 := lots_facts t
    have sf := size_facts t
    refine call_okC rfl rfl rfl (same_ok 10 (.list [.bool true, .bool true, .tuple (sortD (t.homes.map rowO)), .tuple (sortD (t.homes.map rowO)), sizeD t, sizeD t]) ?_ ?_ N (by omega)) ?_
    · rw [PyData.depth, PyData.depthAll, PyData.depth, PyData.depthAll, PyData.depth, PyData.depthAll, PyData.depthAll, PyData.depthAll, PyData.depthAll, PyData.depthAll]
      omega
    · rw [PyData.canLay0, PyData.canLayAll0, PyData.canLay0, PyData.canLayAll0, PyData.canLay0, PyData.canLayAll0, lf1.1, PyData.canLayAll0, lf1.1, PyData.canLayAll0, sf.1, PyData.canLayAll0, sf.1, PyData.canLayAll0]
      rfl
    · rintro w r ⟨rfl, rfl⟩
      refine ⟨rfl, ?_⟩
      and_intros
      (first | exact ⟨rfl, trivial⟩ | exact ⟨trivial, trivial⟩ | exact ⟨rfl, rfl⟩ | trivial)
end K21

set_option linter.all false
set_option maxRecDepth 100000
set_option Elab.async false
namespace EV
open PySem
/-- a call that may keep what was lent -/
theorem call_okF {fn : Fn} {cl : List D → FRes} {os : List Opd} {ρ : Ro} {ds : List D} {io : Option Nat} {Q : W → Option (List D) → Prop} {k : W × Ro → Prop} (h1 : rdAll ρ os = some ds) (h2 : ioOf ρ os fn.io = some io) (h3 : notLent io (lentOf ρ os fn.io) = true) (h4 : (lentOf ρ os fn.io).all (isOwnSlot ρ) = true)
    (hc : OkF (cl ds) Q) (h : ∀ w r, Q w r → k (w, putIo ρ io r) ∧ k (w, frzR (lentOf ρ os fn.io) (putIo ρ io r))) : Ok (callE fn cl os ρ) k := by
  unfold callE
  rw [h1, h2]
  dsimp only
  rw [if_pos h3]
  cases hh : cl ds with
  | ok w r =>
    rw [hh] at hc
    dsimp only
    have q := h w r hc
    split
    · exact q.1
    · first | exact q.2 | (rw [if_pos h4]; exact q.2)
  | _ => rw [hh] at hc; exact hc.elim
theorem eqv_nilT (xs : List D) : PyData.eqv (.tuple xs) (.tuple []) = xs.isEmpty := by
  rw [PyData.eqv]
  cases xs <;> rw [PyData.eqvAll] <;> rfl
mutual
/-- no part is longer than w -/
def nar (w : Nat) : D → Bool
  | .list xs => decide (xs.length ≤ w) && nars w xs
  | .tuple xs => decide (xs.length ≤ w) && nars w xs
  | _ => true
def nars (w : Nat) : List D → Bool
  | [] => true
  | x :: xs => nar w x && nars w xs
end
theorem nars_iff {w : Nat} : ∀ {xs : List D}, nars w xs = true ↔ ∀ x ∈ xs, nar w x = true
  | [] => by simp [nars]
  | x :: xs => by rw [nars, Bool.and_eq_true, nars_iff (xs := xs)]; simp
theorem nar_tup {w : Nat} {xs : List D} : nar w (.tuple xs) = true ↔ xs.length ≤ w ∧ ∀ x ∈ xs, nar w x = true := by
  rw [nar, Bool.and_eq_true, decide_eq_true_eq, nars_iff]
theorem nar_lis {w : Nat} {xs : List D} : nar w (.list xs) = true ↔ xs.length ≤ w ∧ ∀ x ∈ xs, nar w x = true := by
  rw [nar, Bool.and_eq_true, decide_eq_true_eq, nars_iff]
mutual
theorem nar_up {w : Nat} : ∀ d : D, nar w d = true → nar (w + 1) d = true
  | .list xs, h => by
    rw [nar, Bool.and_eq_true, decide_eq_true_eq] at h ⊢
    exact ⟨by omega, nars_up xs h.2⟩
  | .tuple xs, h => by
    rw [nar, Bool.and_eq_true, decide_eq_true_eq] at h ⊢
    exact ⟨by omega, nars_up xs h.2⟩
  | .none, _ => by simp [nar]
  | .bool _, _ => by simp [nar]
  | .int _, _ => by simp [nar]
  | .str _, _ => by simp [nar]
  | .dict _, _ => by simp [nar]
theorem nars_up {w : Nat} : ∀ xs : List D, nars w xs = true → nars (w + 1) xs = true
  | [], _ => by simp [nars]
  | x :: xs, h => by
    rw [nars, Bool.and_eq_true] at h ⊢
    exact ⟨nar_up x h.1, nars_up xs h.2⟩
end
end EV
namespace K21
open PySem EV
/-- a thing that may be bent -/
structure Thing (n w : Nat) (d : D) : Prop where
  lay : d.canLay0 = true
  dp : d.depth ≤ n
  na : nar w d = true
theorem Thing.tup {n w : Nat} {xs : List D} (h : ∀ x ∈ xs, Thing n w x) (hl : xs.length ≤ w) : Thing (n + 1) w (.tuple xs) := by
  refine ⟨?_, ?_, nar_tup.mpr ⟨hl, fun x hx => (h x hx).na⟩⟩
  · rw [PyData.canLay0]; exact layAll_of fun x hx => (h x hx).lay
  · have := depthAll_of (n := n) fun x hx => (h x hx).dp
    rw [PyData.depth]; omega
theorem Thing.lis {n w : Nat} {xs : List D} (h : ∀ x ∈ xs, Thing n w x) (hl : xs.length ≤ w) : Thing (n + 1) w (.list xs) := by
  refine ⟨?_, ?_, nar_lis.mpr ⟨hl, fun x hx => (h x hx).na⟩⟩
  · rw [PyData.canLay0]; exact layAll_of fun x hx => (h x hx).lay
  · have := depthAll_of (n := n) fun x hx => (h x hx).dp
    rw [PyData.depth]; omega
theorem Thing.parts {n w : Nat} {xs : List D} (h : Thing (n + 1) w (.tuple xs)) : (∀ x ∈ xs, Thing n w x) ∧ xs.length ≤ w := by
  obtain ⟨h1, h2⟩ := nar_tup.mp h.na
  refine ⟨fun x hx => ⟨lay_tup h.lay x hx, ?_, h2 x hx⟩, h1⟩
  have := depth_mem hx
  have := h.dp
  rw [PyData.depth] at this; omega
theorem Thing.up {n w : Nat} {d : D} (h : Thing n w d) {n' : Nat} (hn : n ≤ n') : Thing n' (w + 1) d := ⟨h.lay, by have := h.dp; omega, nar_up d h.na⟩
theorem Thing.mono {n w : Nat} {d : D} (h : Thing n w d) {n' : Nat} (hn : n ≤ n') : Thing n' w d := ⟨h.lay, by have := h.dp; omega, h.na⟩
def oddL : List D := [.int 0, .int 1, .int 2, .int 3, .int (-1), .none, .bool true, .bool false, .str "home", .str "fold", .str "join", .str "", .tuple [], .list [], .tuple [.str "home", .int 0], .tuple [.str "fold", .int 1], .tuple [.str "join", .int 0, .int 1]]
theorem odd_ok : ∀ x ∈ oddL, Thing 1 4 x := by
  have h : oddL.all (fun x => x.canLay0 && decide (x.depth ≤ 1) && nar 4 x) = true := by decide +kernel
  intro x hx
  have := List.all_eq_true.mp h x hx
  simp only [Bool.and_eq_true, decide_eq_true_eq] at this
  exact ⟨this.1.1, this.1.2, this.2⟩
theorem ofOdd {N m : Nat} (hN : 2 ≤ N) {b : List D} (hb : Bx m b) (hm : m < 2 ^ 40) (d : D) (v3 v4 : Option Sv) (K : W × Ro → Prop)
    (hK : ∀ (x : D) (b' : List D) (v2 : Option Sv), x ∈ oddL → Bx (m + 1) b' → K (.dat x, [some (.io b'), some (.dat d), v2, v3, v4])) :
    Ok (callE f17 (callN F N 17) [.slot 0, .slot 2] [some (.io b), some (.dat d), some (.own oddL), v3, v4]) K := by
  refine call_okF rfl rfl rfl rfl (of_ok hb hm (xs := oddL) (by decide) (by decide) (.list oddL) (.inr rfl) N hN) ?_
  rintro w r ⟨x, b', rfl, rfl, hb', hx⟩
  exact ⟨hK x b' _ hx hb', hK x b' _ hx hb'⟩
end K21

set_option linter.all false
set_option maxRecDepth 100000
set_option Elab.async false
namespace K21
open PySem EV
theorem odd_eq : ([.int 0, .int 1, .int 2, .int 3, .int (-1), .none, .bool true, .bool false, .str "home", .str "fold", .str "join", .str "", .tuple [], .list [], .tuple [.str "home", .int 0], .tuple [.str "fold", .int 1]] ++ [.tuple [.str "join", .int 0, .int 1]] : List D) = oddL := rfl
theorem y1 : F 30 = some f30 := rfl
theorem y2 (d : D) (b : List D) : ([.list b, d] : List D).length = f30.np := rfl
theorem y3 (d : D) (b : List D) : start [.list b, d] f30.io = some [some (.io b), some (.dat d)] := rfl
theorem bent_ok : ∀ (n : Nat) (d : D) (m : Nat) (b : List D), Thing n 3 d → n ≤ 17 → Bx m b → m + 10 * (n + 1) < 2 ^ 40 →
    Run F (n + 3) 30 [.list b, d] fun w io => ∃ b', io = some b' ∧ Bx (m + 10 * (n + 1)) b' ∧ Thing (n + 2) 4 w.d := by
  intro n
  induction n with
  | zero =>
    intro d m b hd hn hb hm
    with_reducible refine Run.of (i := 30) (fn := f30) (ρ := [some (.io b), some (.dat d)]) y1 (y2 d b) (y3 d b) ?_
    intro N hN
    show Ok (EV.execs F (callN F N) b30 [some (.io b), some (.dat d), none, none, none]) (Fin (some 0) _)
    unfold b30
    and_intros
    rw [odd_eq]
    refine ⟨by rw [sizeLine_eq]; simp, ?_⟩
    have fin : ∀ (v3 v4 : Option Sv) (x : D) (b' : List D) (v2 : Option Sv), x ∈ oddL → Bx (m + 1) b' → OE [some (.io b'), some (.dat d), v2, v3, v4] (some 0) fun io => ∃ b'', io = some b'' ∧ Bx (m + 10 * (0 + 1)) b'' ∧ Thing (0 + 2) 4 (W.dat x).d := fun v3 v4 x b' v2 hx hb' => by
      and_intros
      exact ⟨b', rfl, hb'.mono (by omega), (odd_ok x hx).mono (by omega)⟩
    cases d with
    | tuple xs => have := hd.dp; rw [PyData.depth] at this; omega
    | _ =>
      and_intros
      exact ofOdd (by omega) hb (by omega) _ _ _ _ fun x b' v2 hx hb' => fin _ _ x b' v2 hx hb'
  | succ n ih =>
    intro d m b hd hn hb hm
    with_reducible refine Run.of (i := 30) (fn := f30) (ρ := [some (.io b), some (.dat d)]) y1 (y2 d b) (y3 d b) ?_
    intro N hN
    show Ok (EV.execs F (callN F N) b30 [some (.io b), some (.dat d), none, none, none]) (Fin (some 0) _)
    unfold b30
    and_intros
    rw [odd_eq]
    refine ⟨by rw [sizeLine_eq]; simp, ?_⟩
    have fin : ∀ (d : D) (m' : Nat) (v3 v4 : Option Sv) (x : D) (b' : List D) (v2 : Option Sv), m' ≤ m + 5 → x ∈ oddL → Bx m' b' → OE [some (.io b'), some (.dat d), v2, v3, v4] (some 0) fun io => ∃ b'', io = some b'' ∧ Bx (m + 10 * (n + 1 + 1)) b'' ∧ Thing (n + 1 + 2) 4 (W.dat x).d := fun d m' v3 v4 x b' v2 hm' hx hb' => by
      and_intros
      exact ⟨b', rfl, hb'.mono (by omega), (odd_ok x hx).mono (by omega)⟩
    cases d with
    | tuple xs =>
      obtain ⟨hp, hl⟩ := hd.parts
      and_intros
      rw [om_eq, eqv_nilT]
      refine ⟨?_, ?_⟩
      · unfold eqOk SeqAt.shaped
        have h1 := hd.lay
        have h2 := hd.dp
        rw [h1, decide_eq_true (show (PyData.tuple xs).depth ≤ 64 by omega)]
        rfl
      and_intros
      refine ⟨fun _ => ?_, fun he => ?_⟩
      · exact ofOdd (by omega) hb (by omega) _ _ _ _ fun x b' v2 hx hb' => fin _ (m + 1) _ _ x b' v2 (by omega) hx hb'
      have l0 : 0 < xs.length := by
        cases xs with
        | nil => cases he
        | cons x xs => simp
      refine call_ok rfl rfl rfl (take_ok hb (by omega) (by omega) (by omega) N (by omega)) ?_
      rintro w r ⟨c, b1, rfl, rfl, hb1, c0, c1⟩
      and_intros
      refine ⟨fun _ => ?_, fun _ => ?_⟩
      · exact ofOdd (by omega) hb1 (by omega) _ _ _ _ fun x b' v2 hx hb' => fin _ (m + 1 + 1) _ _ x b' v2 (by omega) hx hb'
      refine call_ok rfl rfl rfl (take_ok hb1 (by omega) (by omega) (by omega) N (by omega)) ?_
      rintro w r ⟨w3, b2, rfl, rfl, hb2, w0, w1⟩
      and_intros
      refine call_ok rfl rfl rfl (take_ok hb2 (by omega) (by omega) (by omega) N (by omega)) ?_
      rintro w r ⟨k4, b3, rfl, rfl, hb3, k0, k1⟩
      obtain ⟨k, rfl⟩ := Int.eq_ofNat_of_zero_le k0
      have kl : k < xs.length := by omega
      and_intros
      have ek : ((k : Nat) : Int) + 1 = ((k + 1 : Nat) : Int) := by omega
      have lt := List.length_take_le k xs
      have ld : (xs.drop (k + 1)).length = xs.length - (k + 1) := List.length_drop
      have ltt : (xs.take (k + 1)).length ≤ k + 1 := List.length_take_le _ _
      have ltk : (xs.take k).length ≤ k := List.length_take_le _ _
      simp only [ek, cut_to, cut_from]
      refine ⟨fun _ => ?_, fun _ => ⟨fun _ => ?_, fun _ => ⟨fun _ => ?_, fun _ => ⟨fun _ => ?_, fun _ => ?_⟩⟩⟩⟩
      · exact ⟨b3, rfl, hb3.mono (by omega), (Thing.lis hp hl).up (by omega)⟩
      · refine ⟨by rw [sizeLine_eq]; omega, b3, rfl, hb3.mono (by omega), ?_⟩
        refine (Thing.tup (n := n) (w := 3) (fun x hx => ?_) (by rw [List.length_append]; omega)).up (by omega)
        rcases List.mem_append.mp hx with z | z
        · exact hp x (List.mem_of_mem_take z)
        · exact hp x (List.mem_of_mem_drop z)
      · refine ofOdd (by omega) hb3 (by omega) _ _ _ _ fun x b' v2 hx hb' => ?_
        and_intros
        simp only [ek, cut_to, cut_from]
        refine ⟨by rw [sizeLine_eq]; simp; omega, ?_⟩
        refine ⟨by rw [sizeLine_eq]; simp; omega, b', rfl, hb'.mono (by omega), ?_⟩
        refine Thing.tup (n := n + 1 + 1) (w := 4) (fun y hy => ?_) (by simp only [List.length_append, List.length_singleton]; omega)
        rcases List.mem_append.mp hy with z | z
        · rcases List.mem_append.mp z with z | z
          · exact (hp y (List.mem_of_mem_take z)).up (by omega)
          · rw [List.mem_singleton.mp z]; exact (odd_ok x hx).mono (by omega)
        · exact (hp y (List.mem_of_mem_drop z)).up (by omega)
      · refine ⟨b3, rfl, hb3.mono (by omega), ?_⟩
        exact (Thing.tup (n := n) (w := 3) (fun x hx => hp x (List.mem_reverse.mp hx)) (by rw [List.length_reverse]; exact hl)).up (by omega)
      · rw [at_nat (by omega) (by omega)]
        have hx : xs.getD ((k : Nat) : Int).toNat .none ∈ xs := by
          rw [Int.toNat_natCast, List.getD_eq_getElem?_getD, List.getElem?_eq_getElem kl]
          exact List.getElem_mem _
        generalize xs.getD ((k : Nat) : Int).toNat .none = x at *
        refine call_ok rfl rfl rfl (ih x _ b3 (hp x hx) (by omega) hb3 (by omega) N (by omega)) ?_
        rintro w r ⟨b4, rfl, hb4, hw⟩
        have go : ∀ y : D, Thing (n + 2) 4 y → xs.length + 1 ≤ 100 → OW (.dat y) fun z => z = y := fun y _ _ => rfl
        have key : ∀ (y : D), Thing (n + 2) 4 y → (xs.take k ++ [y]).length ≤ sizeLine ∧ ((xs.take k).length + [y].length ≤ sizeLine) ∧ ((xs.take k ++ [y]).length + (xs.drop (k + 1)).length ≤ sizeLine) ∧ Thing (n + 1 + 2) 4 (.tuple (xs.take k ++ [y] ++ xs.drop (k + 1))) := fun y hy => by
          refine ⟨by rw [sizeLine_eq]; simp; omega, by rw [sizeLine_eq]; simp; omega, by rw [sizeLine_eq]; simp; omega, ?_⟩
          refine Thing.tup (n := n + 2) (w := 4) (fun z hz => ?_) (by simp only [List.length_append, List.length_singleton]; omega)
          rcases List.mem_append.mp hz with q | q
          · rcases List.mem_append.mp q with q | q
            · exact (hp z (List.mem_of_mem_take q)).up (by omega)
            · rw [List.mem_singleton.mp q]; exact hy
          · exact (hp z (List.mem_of_mem_drop q)).up (by omega)
        cases w with
        | dat y =>
          have hw : Thing (n + 2) 4 y := hw
          obtain ⟨a1, a2, a3, a4⟩ := key y hw
          and_intros
          simp only [ek, cut_to, cut_from]
          exact ⟨a2, a3, b4, rfl, hb4.mono (by omega), a4⟩
        | new ys =>
          have hw : Thing (n + 2) 4 (.list ys) := hw
          obtain ⟨a1, a2, a3, a4⟩ := key _ hw
          and_intros
          simp only [ek, cut_to, cut_from]
          exact ⟨a2, a3, b4, rfl, hb4.mono (by omega), a4⟩
    | _ =>
      and_intros
      exact ofOdd (by omega) hb (by omega) _ _ _ _ fun x b' v2 hx hb' => fin _ (m + 1) _ _ x b' v2 (by omega) hx hb'
end K21

set_option linter.all false
set_option maxRecDepth 100000
set_option Elab.async false
namespace K21
open PySem EV
theorem nar_tr : ∀ t : Tr, nar 3 t.d = true
  | .leaf i => by simp [Tr.d, nar]
  | .home t => by rw [Tr.d, nar, nars, nars, nar_tr t, nars]; simp [nar]
  | .fold t => by rw [Tr.d, nar, nars, nars, nar_tr t, nars]; simp [nar]
  | .join a b => by rw [Tr.d, nar, nars, nars, nar_tr a, nars, nar_tr b, nars]; simp [nar]
theorem thing_plan {O : List (List Str)} {B : List D} (hB : Book O B) {ch : List Int} {S : List Str} (hA : Ask O ch S) {out : List Int} {t : Tr} (hP : Plan B ch S out t) : Thing 17 3 (planD out t) := by
  have hch : ch.length ≤ 3 := by
    have := up_len O.length ch 0 hA.up fun k hk => by have := hA.in_ k hk; omega
    have := hB.n3
    omega
  have ho : out.length ≤ 3 := by
    have h1 := hP.so.length_le
    have h2 : (mayL B ch S).length ≤ ch.length := List.length_filter_le _ _
    omega
  refine ⟨lay_plan out t, by have := depth_plan out t; have := hP.ht; omega, ?_⟩
  refine nar_tup.mpr ⟨by simp, fun x hx => ?_⟩
  rcases List.mem_cons.mp hx with z | hx
  · rw [z]
    refine nar_tup.mpr ⟨by rw [List.length_map]; omega, fun y hy => ?_⟩
    obtain ⟨i, _, rfl⟩ := List.mem_map.mp hy
    simp [nar]
  · rw [List.mem_singleton.mp hx]; exact nar_tr t
def rIn : Ss := (.cons (.asg 6 (.call 30 (.cons (.var 0) (.cons (.var 4) .nil)))) (.cons (.ite (.not (.call 15 (.cons (.call 8 (.cons (.var 2) (.cons (.var 3) (.cons (.var 6) .nil)))) (.cons (.call 29 (.cons (.var 2) (.cons (.var 3) (.cons (.var 6) .nil)))) .nil)))) (.cons (.ret (.cst (.bool false))) .nil) .nil) .nil))
theorem rin_ok {N : Nat} (hN : 26 ≤ N) {O : List (List Str)} {B : List D} (hB : Book O B) {ch : List Int} {S : List Str} (hA : Ask O ch S) (l : D) (hl : l.depth ≤ 3) {out : List Int} {t : Tr} (hP : Plan B ch S out t) (v1 : Option Sv) (K : EV.Flow × Ro → Prop) :
    ∀ (xs : List D) (m : Nat) (b : List D) (v5 v6 : Option Sv), Bx m b → m + 200 * xs.length < 2 ^ 39 → Fr v5 → Fr v6 →
    (∀ (b' : List D) (v5 v6 : Option Sv), Bx (m + 200 * xs.length) b' → Fr v5 → Fr v6 → K (.next, [some (.io b'), v1, some (.dat (.tuple B)), some (.dat (.tuple [.tuple (ch.map .int), l, .tuple (S.map .str)])), some (.dat (planD out t)), v5, v6])) →
    Ok (forL (bindT (.one 5)) (EV.execs F (callN F N) rIn) xs [some (.io b), v1, some (.dat (.tuple B)), some (.dat (.tuple [.tuple (ch.map .int), l, .tuple (S.map .str)])), some (.dat (planD out t)), v5, v6]) K := by
  have hS := ask_ok' hB hA
  have dq : (PyData.tuple [.tuple (ch.map .int), l, .tuple (S.map .str)]).depth ≤ 5 := by
    rw [PyData.depth, PyData.depthAll, PyData.depth, PySem.W.depth_ints, PyData.depthAll, PyData.depthAll, PyData.depth, depth_strs, PyData.depthAll]; omega
  have hT := thing_plan hB hA hP
  have r1 : ∀ d : D, Thing 19 4 d → Run F 24 8 [.tuple B, .tuple [.tuple (ch.map .int), l, .tuple (S.map .str)], d] fun w io => w = .dat (.bool (plB (mayL B ch S) ch d)) ∧ io = none := fun d hd => by
    have := is_plan_ok (ch := ch) hB.sht hS (ask_home hB hA) (.tuple B) _ d (.inl rfl) ⟨l, .inl rfl⟩ (by omega) (by have := hd.dp; omega) hd.lay
    rw [can_may hB hA] at this
    exact this
  have r2 : ∀ d : D, Thing 19 4 d → Run F 24 29 [.tuple B, .tuple [.tuple (ch.map .int), l, .tuple (S.map .str)], d] fun w io => w = .dat (.bool (plB (mayL B ch S) ch d)) ∧ io = none := fun d hd =>
    law_is_ok hB.sht (fun k hk => by have := hA.in_ k hk; have := hB.len; omega) hS l d (by have := hd.dp; omega) hd.lay fun out t e => by
      subst e
      have h1 := (nar_tup.mp hd.na).2 (.tuple out) (by simp)
      have := (nar_tup.mp h1).1
      omega
  generalize (PyData.tuple [.tuple (ch.map .int), l, .tuple (S.map .str)]) = q at *
  generalize planD out t = p at *
  intro xs
  induction xs with
  | nil =>
    intro m b v5 v6 hb hm h5 h6 hK
    rw [fl_nil]
    exact hK b v5 v6 hb h5 h6
  | cons x xs ih =>
    intro m b v5 v6 hb hm h5 h6 hK
    rw [List.length_cons] at hm
    rw [fl_cons]
    and_intros
    refine os_d h5 ?_
    unfold rIn
    and_intros
    refine call_ok rfl rfl rfl (bent_ok 17 p m b hT (by omega) hb (by omega) N (by omega)) ?_
    rintro w r ⟨b1, rfl, hb1, hw⟩
    have fin : ∀ (v6 : Option Sv), Fr v6 → FLk (bindT (.one 5)) (EV.execs F (callN F N) rIn) xs K (.next, [some (.io b1), v1, some (.dat (.tuple B)), some (.dat q), some (.dat p), some (.dat x), v6]) := fun v6 g6 => by
      rw [flk_next]
      exact ih _ b1 _ _ hb1 (by omega) (.d _) g6 fun b' v5 v6 a1 a2 a3 => hK b' v5 v6 (a1.mono (by simp only [List.length_cons]; omega)) a2 a3
    unfold rIn at fin
    cases w with
    | dat d =>
      have hw : Thing 19 4 d := hw
      and_intros
      refine os_d h6 ?_
      and_intros
      refine call_okC rfl rfl rfl (r1 d hw N (by omega)) ?_
      rintro w r ⟨rfl, rfl⟩
      refine ⟨rfl, ?_⟩
      and_intros
      refine call_okC rfl rfl rfl (r2 d hw N (by omega)) ?_
      rintro w r ⟨rfl, rfl⟩
      refine ⟨rfl, ?_⟩
      and_intros
      refine call_ok rfl rfl rfl (same_ok 0 (.bool (plB (mayL B ch S) ch d)) (by rw [PyData.depth]; omega) (by rw [PyData.canLay0]) N (by omega)) ?_
      rintro w r ⟨rfl, rfl⟩
      and_intros
      exact fin _ (.d _)
    | new ys =>
      have hw : Thing 19 4 (.list ys) := hw
      and_intros
      refine os_n h6 ?_
      and_intros
      refine call_okC rfl rfl rfl (r1 (.list ys) hw N (by omega)) ?_
      rintro w r ⟨rfl, rfl⟩
      refine ⟨rfl, ?_⟩
      and_intros
      refine call_okC rfl rfl rfl (r2 (.list ys) hw N (by omega)) ?_
      rintro w r ⟨rfl, rfl⟩
      refine ⟨rfl, ?_⟩
      and_intros
      refine call_ok rfl rfl rfl (same_ok 0 (.bool (plB (mayL B ch S) ch (.list ys))) (by rw [PyData.depth]; omega) (by rw [PyData.canLay0]) N (by omega)) ?_
      rintro w r ⟨rfl, rfl⟩
      and_intros
      exact fin _ (.o _)
end K21

set_option linter.all false
set_option maxRecDepth 100000
set_option Elab.async false
namespace K21
open PySem EV
theorem len8 : (rangeD 0 8).length = 8 := range_len 8
theorem len4 : (rangeD 0 4).length = 4 := range_len 4
theorem rg8 : (small62 8 && decide ((8 : Int) ≤ sizeLine)) = true := rng_ok (n := 8) (by omega)
theorem rg4 : (small62 4 && decide ((4 : Int) ≤ sizeLine)) = true := rng_ok (n := 4) (by omega)
def rOut : Ss := (.cons (.asg 2 (.call 20 (.cons (.var 0) (.cons (.cst (.int 3)) .nil)))) (.cons (.asg 3 (.call 21 (.cons (.var 0) (.cons (.var 2) .nil)))) (.cons (.asg 4 (.call 24 (.cons (.var 0) (.cons (.var 2) (.cons (.var 3) .nil))))) (.cons (.ite (.not (.call 32 (.cons (.var 2) (.cons (.var 3) (.cons (.var 4) .nil))))) (.cons (.ret (.cst (.bool false))) .nil) .nil) (.cons (.for_ (.one 5) (.range1 (.cst (.int 8))) rIn) .nil)))))
theorem b35_eq : b35 = .cons (.for_ (.one 1) (.range1 (.cst (.int 4))) rOut) (.cons (.ret (.cst (.bool true))) .nil) := rfl
theorem rout_ok {N : Nat} (hN : 26 ≤ N) (C : Nat) (hC : C = 300000) (K : EV.Flow × Ro → Prop) :
    ∀ (xs : List D) (m : Nat) (b : List D) (v1 v2 v3 v4 v5 v6 : Option Sv), Bx m b → m + C * xs.length < 2 ^ 38 → Fr v1 → Fr v2 → Fr v3 → Fr v4 → Fr v5 → Fr v6 →
    (∀ (b' : List D) (v1 v2 v3 v4 v5 v6 : Option Sv), K (.next, [some (.io b'), v1, v2, v3, v4, v5, v6])) →
    Ok (forL (bindT (.one 1)) (EV.execs F (callN F N) rOut) xs [some (.io b), v1, v2, v3, v4, v5, v6]) K := by
  intro xs
  induction xs with
  | nil =>
    intro m b v1 v2 v3 v4 v5 v6 hb hm h1 h2 h3 h4 h5 h6 hK
    rw [fl_nil]
    exact hK b v1 v2 v3 v4 v5 v6
  | cons x xs ih =>
    intro m b v1 v2 v3 v4 v5 v6 hb hm h1 h2 h3 h4 h5 h6 hK
    rw [List.length_cons, Nat.mul_succ] at hm
    rw [fl_cons]
    and_intros
    refine os_d h1 ?_
    unfold rOut
    and_intros
    refine call_ok rfl rfl rfl (book_ok hb (by omega) N (by omega)) ?_
    rintro w r ⟨O, B, b1, rfl, rfl, hb1, hB⟩
    and_intros
    refine os_d h2 ?_
    and_intros
    refine call_ok rfl rfl rfl (ask_ok hb1 (by omega) hB N (by omega)) ?_
    rintro w r ⟨ch, S, l, b2, rfl, rfl, hb2, hl, hA⟩
    and_intros
    refine os_d h3 ?_
    and_intros
    refine call_ok rfl rfl rfl (plan_ok hb2 (by omega) hB hA l N (by omega)) ?_
    rintro w r ⟨out, t, b3, rfl, rfl, hb3, hP⟩
    and_intros
    refine os_d h4 ?_
    and_intros
    refine call_ok rfl rfl rfl (plan_right_ok hB hA l hl hP N (by omega)) ?_
    rintro w r ⟨rfl, rfl⟩
    and_intros
    refine ⟨rg8, ?_⟩
    have l8 := len8
    generalize rangeD 0 8 = r8 at *
    refine rin_ok hN hB hA l hl hP _ _ r8 _ b3 v5 v6 hb3 (by rw [l8]; omega) h5 h6 fun b4 u5 u6 hb4 g5 g6 => ?_
    rw [l8] at hb4
    and_intros
    rw [flk_next]
    have nx := ih _ b4 (some (.dat x)) (some (.dat (.tuple B))) (some (.dat (.tuple [.tuple (ch.map .int), l, .tuple (S.map .str)]))) (some (.dat (planD out t))) u5 u6 hb4 (by omega) (.d _) (.d _) (.d _) (.d _) g5 g6 hK
    exact nx
theorem right_ok {m : Nat} {b : List D} (hb : Bx m b) (hm : m < 1000) : Run F 27 35 [.list b] fun w io => w = .dat (.bool true) ∧ ∃ b', io = some b' := by
  refine Run.of (fn := f35) rfl rfl rfl fun N hN => ?_
  show Ok (EV.execs F (callN F N) b35 [some (.io b), none, none, none, none, none, none]) (Fin (some 0) _)
  rw [b35_eq]
  and_intros
  refine ⟨rg4, ?_⟩
  have l4 := len4
  generalize rangeD 0 4 = r4 at *
  refine rout_ok hN 300000 rfl _ r4 m b none none none none none none hb (by rw [l4]; omega) .n .n .n .n .n .n fun b' v1 v2 v3 v4 v5 v6 => ?_
  and_intros
  exact ⟨trivial, b', rfl⟩
/-! ### the law's cells -/
def cB : Ss := (.cons (.asg 5 (.op2 .mod (.bi .int (.cons (.var 3) .nil)) (.var 1))) (.cons (.sub 2 (.var 5) (.op2 .add (.idx (.var 2) (.var 5)) (.op2 .mul (.var 4) (.op2 .add (.var 3) (.cst (.int 2)))))) .nil))
theorem cb_ok {N : Nat} (s : D) (K : EV.Flow × Ro → Prop) : ∀ (zs : List (Int × Nat)) (cs : List Int) (v3 v4 v5 : Option Sv), (zs ≠ [] → cs.length = 3) → (∀ p ∈ zs, p.2 < 1000) → Fr v3 → Fr v4 → Fr v5 →
    (∀ (cs' : List Int) (v3 v4 v5 : Option Sv), cs'.length = cs.length → K (.next, [some (.dat s), some (.dat (.int 3)), some (.own (cs'.map .int)), v3, v4, v5])) →
    Ok (forL (bindT (.many [3, 4])) (EV.execs F (callN F N) cB) (zs.map fun p => .tuple [.int p.2, .int p.1]) [some (.dat s), some (.dat (.int 3)), some (.own (cs.map .int)), v3, v4, v5]) K := by
  intro zs
  induction zs with
  | nil =>
    intro cs v3 v4 v5 hc hz h3 h4 h5 hK
    rw [List.map_nil, fl_nil]
    exact hK cs v3 v4 v5 rfl
  | cons p zs ih =>
    intro cs v3 v4 v5 hc hz h3 h4 h5 hK
    have c3 := hc (by simp)
    have pz := hz p List.mem_cons_self
    rw [List.map_cons, fl_cons]
    and_intros
    refine os_d h3 ?_
    and_intros
    refine os_d h4 ?_
    and_intros
    unfold cB
    and_intros
    refine ⟨by decide, ?_⟩
    refine os_d h5 ?_
    and_intros
    have j0 : (0 : Int) ≤ (p.2 : Int) % 3 := Int.emod_nonneg _ (by decide)
    have j1 : (p.2 : Int) % 3 < 3 := Int.emod_lt_of_pos _ (by decide)
    rw [at_nat j0 (by rw [List.length_map]; omega)]
    have eg : (cs.map (fun i => (.int i : D))).getD ((p.2 : Int) % 3).toNat .none = .int (cs.getD ((p.2 : Int) % 3).toNat 0) := by
      rw [List.getD_eq_getElem?_getD, List.getD_eq_getElem?_getD, List.getElem?_map, List.getElem?_eq_getElem (by omega)]; rfl
    rw [eg]
    and_intros
    refine ⟨?_, ?_⟩
    · rw [Bool.or_eq_true]
      right
      simp only [small64, Bool.and_eq_true, decide_eq_true_eq]
      constructor <;> omega
    rw [ixN_at j0 (by rw [List.length_map]; omega)]
    and_intros
    show FLk _ _ _ _ (.next, [some (.dat s), some (.dat (.int 3)), some (.own ((cs.map .int).set ((p.2 : Int) % 3).toNat _)), _, _, _])
    rw [flk_next, ← List.map_set]
    exact ih _ _ _ _ (fun _ => by rw [List.length_set]; exact c3) (fun q hq => hz q (List.mem_cons_of_mem _ hq)) (.d _) (.d _) (.d _) fun cs' v3 v4 v5 e => hK cs' v3 v4 v5 (by rw [e, List.length_set])
theorem cells_ok (ns : List Int) (hn : ns.length ≤ 63) : Run F 1 14 [.list (ns.map .int), .int 3] fun w io => ∃ cs : List Int, w = .new (cs.map .int) ∧ io = none ∧ cs.length ≤ 3 := by
  refine Run.of (fn := f14) rfl rfl rfl fun N hN => ?_
  show Ok (EV.execs F (callN F N) b14 [some (.dat (.list (ns.map .int))), some (.dat (.int 3)), none, none, none, none]) (Fin none _)
  have eb : b14 = .cons (.asg 2 (.orT (.bi .list (.cons (.slc (.var 0) .no (.yes (.var 1))) .nil)) (.lst (.cons (.cst (.int 0)) .nil)))) (.cons (.for_ (.many [3, 4]) (.enum (.slc (.var 0) (.yes (.var 1)) (.yes (.cst (.int 63))))) cB) (.cons (.ret (.var 2)) .nil)) := rfl
  rw [eb]
  have e3 : cutD (ns.map .int) none (some 3) = (ns.take 3).map .int := by
    rw [show (3 : Int) = ((3 : Nat) : Int) from rfl, cut_to, List.map_take]
  obtain ⟨ms, em, hml⟩ : ∃ ms : List Int, cutD (ns.map .int) (some 3) (some 63) = ms.map .int ∧ (ms ≠ [] → 3 ≤ ns.length) := by
    refine ⟨_, cut_map ns (some 3) (some 63), fun h => ?_⟩
    rcases Nat.lt_or_ge ns.length 3 with q | q
    · exact absurd (by
        have e : sIx ns.length 0 (some 3) = ns.length := by
          show (if (3 : Int) < 0 then ((3 : Int) + ns.length).toNat else min (3 : Int).toNat ns.length) = _
          rw [if_neg (by decide)]
          exact Nat.min_eq_right (by show ns.length ≤ 3; omega)
        rw [e, List.drop_length]; simp) h
    · exact q
  have hmz : ms.length ≤ 63 := by
    have := cut_len (ns.map .int) (some 3) (some 63)
    rw [em, List.length_map, List.length_map] at this
    omega
  have ee : enumD (ms.map .int) = ms.zipIdx.map fun p => .tuple [.int p.2, .int p.1] := by
    unfold enumD
    rw [List.zipIdx_map, List.map_map]; rfl
  have hz : ∀ p ∈ ms.zipIdx, p.2 < 1000 := fun p hp => by
    obtain ⟨_, h, _⟩ := List.mem_zipIdx hp
    omega
  have hnil : ms.zipIdx ≠ [] → ms ≠ [] := fun h z => h (by rw [z]; rfl)
  have fin : ∀ (cs cs' : List Int) (v3 v4 v5 : Option Sv), cs.length ≤ 3 → cs'.length = cs.length → KN F (callN F N) (.cons (.ret (.var 2)) .nil) (Fin none fun w io => ∃ cs : List Int, w = .new (cs.map .int) ∧ io = none ∧ cs.length ≤ 3) (.next, [some (.dat (.list (ns.map .int))), some (.dat (.int 3)), some (.own (cs'.map .int)), v3, v4, v5]) := fun cs cs' v3 v4 v5 h1 h2 => by
    and_intros
    exact ⟨cs', rfl, trivial, by omega⟩
  and_intros
  rw [e3]
  cases he : ((ns.take 3).map (fun i => (.int i : D))).isEmpty with
  | true =>
    simp only [Bool.not_true]
    and_intros
    rw [em, ee]
    have n0 : ns = [] := by
      cases ns with
      | nil => rfl
      | cons x xs => simp at he
    refine cb_ok _ _ ms.zipIdx [0] none none none (fun h => by have := hml (hnil h); rw [n0] at this; simp at this) hz .n .n .n fun cs' v3 v4 v5 e => fin [0] cs' v3 v4 v5 (by simp) e
  | false =>
    simp only [Bool.not_false]
    and_intros
    rw [em, ee]
    refine cb_ok _ _ ms.zipIdx (ns.take 3) none none none (fun h => by have := hml (hnil h); rw [List.length_take]; omega) hz .n .n .n fun cs' v3 v4 v5 e => fin (ns.take 3) cs' v3 v4 v5 (List.length_take_le _ _) e
end K21

set_option linter.all false
set_option maxRecDepth 100000
set_option maxHeartbeats 0
namespace K21
open PySem EV
theorem by_hand : callN F 59 33 [] = .ok (.dat (.bool true)) none := by kernel_rfl
end K21

set_option linter.all false
set_option maxRecDepth 100000
set_option Elab.async false
namespace EV
open PySem
theorem run_at {F : Nat → Option Fn} {N i : Nat} {ds : List D} {Q : W → Option (List D) → Prop} {fn : Fn} {ρ : Ro} (hf : F i = some fn) (hl : ds.length = fn.np) (hs : start ds fn.io = some ρ)
    (h : Ok (EV.execs F (callN F N) fn.body (ρ ++ List.replicate (fn.ns - fn.np) none)) (Fin fn.io Q)) : OkF (callN F (N + 1) i ds) Q := by
  show OkF (match F i with | none => .stuck | some fn => runFn F (callN F N) fn ds) Q
  rw [hf]
  show OkF (runFn F (callN F N) fn ds) Q
  unfold runFn
  rw [if_pos hl, hs]
  dsimp only
  cases e : EV.execs F (callN F N) fn.body (ρ ++ List.replicate (fn.ns - fn.np) none) with
  | ok p =>
    rw [e] at h
    obtain ⟨f, ρ'⟩ := p
    have key : ∀ w, OE ρ' fn.io (Q w) → OkF (finish fn.io w ρ') Q := fun w h => by
      unfold OE at h
      unfold finish
      cases hh : ioEnd ρ' fn.io with
      | none => rw [hh] at h; exact h.elim
      | some r => rw [hh] at h; exact h
    cases f with
    | next => exact key _ h
    | ret w => exact key _ h
    | _ => exact h.elim
  | _ => rw [e] at h; exact h.elim
end EV
namespace K21
open PySem EV
theorem law_at (N : Nat) (hN : 27 ≤ N) (hh : callN F N 33 [] = .ok (.dat (.bool true)) none) (ns : List Int) (hn : ns.length ≤ 63) : Yes (callN F (N + 1) 36 [.list (ns.map .int)]) := by
  refine Yes.mk (run_at (fn := f36) rfl rfl rfl ?_)
  show Ok (EV.execs F (callN F N) b36 [some (.dat (.list (ns.map .int))), none, none]) (Fin none _)
  unfold b36
  and_intros
  have F33 : F 33 = some f33 := rfl
  rw [F33]
  and_intros
  refine call_ok (ds := []) (io := none) (Q := fun w io => w = .dat (.bool true) ∧ io = none) rfl rfl rfl ?_ ?_
  · rw [hh]; exact ⟨rfl, rfl⟩
  rintro w r ⟨rfl, rfl⟩
  and_intros
  refine call_ok rfl rfl rfl (cells_ok ns hn N (by omega)) ?_
  intro w r h
  obtain ⟨cs, h1, h2, hc⟩ := h
  subst h1
  subst h2
  and_intros
  rw [List.length_map]
  refine ⟨rng_ok (by omega), ?_⟩
  have er : rangeD 0 (cs.length : Int) = (List.range cs.length).map fun i : Nat => (.int (i : Int) : D) := by
    unfold rangeD
    rw [show (((cs.length : Nat) : Int) - 0).toNat = cs.length from by omega]
    refine List.map_congr_left fun i _ => ?_
    rw [Int.zero_add]
  rw [er]
  refine comp_map (fun i : Nat => (.int (i : Int) : D)) [some (.dat (.list (ns.map .int))), some (.own (cs.map .int)), none] (fun _ => some (.bool true)) _ _ (fun i hi => ?_) ?_
  · have := List.mem_range.mp hi
    and_intros
    refine call_okC rfl rfl rfl (box_ok cs i (by omega) N (by omega)) ?_
    rintro w r ⟨b, rfl, rfl, hb⟩
    refine ⟨by show (lfs b && true) = true; rw [lfs_bx hb]; rfl, ?_⟩
    and_intros
    refine call_ok rfl rfl rfl (right_ok hb (by omega) N (by omega)) ?_
    rintro w r ⟨rfl, b', rfl⟩
    and_intros
    (first | exact ⟨rfl, trivial⟩ | exact ⟨trivial, trivial⟩ | exact ⟨rfl, rfl⟩ | trivial)
  · rw [fm_some, List.nil_append]
    and_intros
    rw [om_all (fun _ => true)]
    and_intros
    simp
theorem law_yes (ns : List Int) (hn : ns.length ≤ 63) : Yes (callN F 60 36 [.list (ns.map .int)]) := law_at 59 (by omega) by_hand ns hn
end K21

end
section
set_option maxRecDepth 100000
set_option maxHeartbeats 0
namespace K21
open PySem PySem.Spec PyProof.Rows L2 EV
def top (i : Nat) : Stmt := PySem.Challenge.pw_rowsathome_k21_plans_or_none.main.body.getD i (.Pass ⟨0, 0, 0, 0⟩)
def n0 : List Str := ["thing"]
def ps0 : List Str := ["thing"]
abbrev st0 : Stmt := top 1
def n1 : List Str := ["thing", "part"]
def ps1 : List Str := ["thing"]
abbrev st1 : Stmt := top 2
def n2 : List Str := ["row", "one", "other"]
def ps2 : List Str := ["row"]
abbrev st2 : Stmt := top 3
def n3 : List Str := ["row"]
def ps3 : List Str := ["row"]
abbrev st3 : Stmt := top 4
def n4 : List Str := ["some", "others", "own"]
def ps4 : List Str := ["some", "others"]
abbrev st4 : Stmt := top 5
def n5 : List Str := ["schema", "name", "number", "own"]
def ps5 : List Str := ["schema", "name"]
abbrev st5 : Stmt := top 7
def n6 : List Str := ["tree", "at_home", "one", "other"]
def ps6 : List Str := ["tree", "at_home"]
abbrev st6 : Stmt := top 14
def n7 : List Str := ["schema", "question", "shown", "name", "number"]
def ps7 : List Str := ["schema", "question"]
abbrev st7 : Stmt := top 15
def n8 : List Str := ["schema", "question", "thing", "found", "out", "tree", "number"]
def ps8 : List Str := ["schema", "question", "thing"]
abbrev st8 : Stmt := top 16
def n9 : List Str := ["tree", "part", "own"]
def ps9 : List Str := ["tree"]
abbrev st9 : Stmt := top 17
def n10 : List Str := ["plan", "tree"]
def ps10 : List Str := ["plan"]
abbrev st10 : Stmt := top 18
def n11 : List Str := ["plan", "tree", "many", "homes", "own"]
def ps11 : List Str := ["plan"]
abbrev st11 : Stmt := top 19
def n12 : List Str := ["_law_script", "_law_k", "_law_cell"]
def ps12 : List Str := ["_law_script", "_law_k"]
abbrev st12 : Stmt := top 21
def n13 : List Str := ["_law_box_here", "_law_below_so", "_law_once", "_law_far", "_law_twice", "_law_drawn"]
def ps13 : List Str := ["_law_box_here", "_law_below_so"]
abbrev st13 : Stmt := top 22
def n14 : List Str := ["_law_script", "_law_top_so", "_law_cells_so", "_law_k", "_law_cell", "_law_at_so"]
def ps14 : List Str := ["_law_script", "_law_top_so"]
abbrev st14 : Stmt := top 23
def n15 : List Str := ["_law_got", "_law_due", "_law_mine", "_law_its"]
def ps15 : List Str := ["_law_got", "_law_due"]
abbrev st15 : Stmt := top 24
def n16 : List Str := ["_law_matter_so", "_law_bit"]
def ps16 : List Str := ["_law_matter_so"]
abbrev st16 : Stmt := top 25
def n17 : List Str := ["_law_box_here", "_law_pool_so"]
def ps17 : List Str := ["_law_box_here", "_law_pool_so"]
abbrev st17 : Stmt := top 26
def n18 : List Str := ["_law_box_here", "_law_rows_so", "_law_turn", "_law_rest_so", "_law_found"]
def ps18 : List Str := ["_law_box_here", "_law_rows_so"]
abbrev st18 : Stmt := top 27
def n19 : List Str := ["_law_some_so", "_law_found", "_law_own", "_law_lot_so"]
def ps19 : List Str := ["_law_some_so"]
abbrev st19 : Stmt := top 28
def n20 : List Str := ["_law_box_here", "_law_most_so", "_law_sizes_so", "_law_wide_so", "_law_k", "_law_bag_so", "_law_found", "_law_own", "_law_rules_so", "_law_keys_so", "_law_ties_so", "_law_j", "_law_lap", "_law_fit_so", "_law_tag", "_law_lot_so", "_law_far"]
def ps20 : List Str := ["_law_box_here", "_law_most_so"]
abbrev st20 : Stmt := top 29
def n21 : List Str := ["_law_box_here", "_law_book_so", "_law_chosen_so", "_law_tags_so", "_law_links_so", "_law_k", "_law_near", "_law_far", "_law_apart_so", "_law_tag", "_law_own"]
def ps21 : List Str := ["_law_box_here", "_law_book_so"]
abbrev st21 : Stmt := top 30
def n22 : List Str := ["_law_box_here", "_law_tags_so", "_law_inside_so", "_law_under_so", "_law_way_so", "_law_k", "_law_near_so"]
def ps22 : List Str := ["_law_box_here", "_law_tags_so", "_law_inside_so", "_law_under_so"]
abbrev st22 : Stmt := top 31
def n23 : List Str := ["_law_book_so", "_law_ask_so", "_law_k", "_law_tag"]
def ps23 : List Str := ["_law_book_so", "_law_ask_so"]
abbrev st23 : Stmt := top 32
def n24 : List Str := ["_law_box_here", "_law_book_so", "_law_ask_so", "_law_out_so", "_law_left_so", "_law_k"]
def ps24 : List Str := ["_law_box_here", "_law_book_so", "_law_ask_so"]
abbrev st24 : Stmt := top 33
def n25 : List Str := ["_law_tree_so", "_law_found", "_law_own"]
def ps25 : List Str := ["_law_tree_so"]
abbrev st25 : Stmt := top 34
def n26 : List Str := ["_law_tree_so", "_law_found", "_law_own"]
def ps26 : List Str := ["_law_tree_so"]
abbrev st26 : Stmt := top 35
def n27 : List Str := ["_law_orders_so", "_law_book_so", "_law_ask_so", "_law_deals_so", "_law_first_so", "_law_rows_so"]
def ps27 : List Str := []
abbrev st27 : Stmt := top 36
def n28 : List Str := ["_law_mat", "_law_inside_so", "_law_near_so", "_law_far_so"]
def ps28 : List Str := ["_law_mat", "_law_inside_so"]
abbrev st28 : Stmt := top 37
def n29 : List Str := ["_law_book_so", "_law_ask_so", "_law_mat", "_law_tags_so", "_law_own", "_law_k"]
def ps29 : List Str := ["_law_book_so", "_law_ask_so", "_law_mat"]
abbrev st29 : Stmt := top 38
def n30 : List Str := ["_law_box_here", "_law_mat", "_law_odd", "_law_way_so", "_law_k"]
def ps30 : List Str := ["_law_box_here", "_law_mat"]
abbrev st30 : Stmt := top 39
def n31 : List Str := ["_law_plan_so", "_law_lots_so", "_law_many_so", "_law_own"]
def ps31 : List Str := ["_law_plan_so"]
abbrev st31 : Stmt := top 40
def n32 : List Str := ["_law_book_so", "_law_ask_so", "_law_plan_so", "_law_soft_so", "_law_lots_so", "_law_got", "_law_own"]
def ps32 : List Str := ["_law_book_so", "_law_ask_so", "_law_plan_so"]
abbrev st32 : Stmt := top 41
def n33 : List Str := ["_law_plans_so", "_law_got", "_law_due", "_law_fine", "_law_odd", "_law_book_so", "_law_ask_so", "_law_deals_so", "_law_rows_so", "_law_post_so", "_law_own"]
def ps33 : List Str := []
abbrev st33 : Stmt := top 42
def n34 : List Str := ["_law_four_so", "_law_wide_so", "_law_deep_so", "_law_got", "_law_due", "_law_tag"]
def ps34 : List Str := []
abbrev st34 : Stmt := top 43
def n35 : List Str := ["_law_box_here", "_law_turn", "_law_book_so", "_law_ask_so", "_law_plan_so", "_law_lap", "_law_mat"]
def ps35 : List Str := ["_law_box_here"]
abbrev st35 : Stmt := top 44
def n36 : List Str := ["_law_script", "_law_cells_so", "_law_k"]
def ps36 : List Str := ["_law_script"]
abbrev st36 : Stmt := top 45
def G : List (Str × PyData) := [("PAIR", .int 2), ("TRIPLE", .int 3), ("FOLD", .str "fold"), ("HOME", .str "home"), ("JOIN", .str "join")]
def W : List (Nat × List Str × List Nat) := [(8, ["thing", "question", "schema"], [2, 1, 0]), (10, ["plan"], [0]), (11, ["plan"], [0])]
theorem ok0 : DefOk T G W f0 n0 ps0 (defScope st0) (defBody st0) := ⟨⟨rfl, rfl, rfl, by decide +kernel, rfl, by decide +kernel, by decide +kernel⟩, rfl, rfl, rfl, by decide +kernel⟩
theorem ok1 : DefOk T G W f1 n1 ps1 (defScope st1) (defBody st1) := ⟨⟨rfl, rfl, rfl, by decide +kernel, rfl, by decide +kernel, by decide +kernel⟩, rfl, rfl, rfl, by decide +kernel⟩
theorem ok2 : DefOk T G W f2 n2 ps2 (defScope st2) (defBody st2) := ⟨⟨rfl, rfl, rfl, by decide +kernel, rfl, by decide +kernel, by decide +kernel⟩, rfl, rfl, rfl, by decide +kernel⟩
theorem ok3 : DefOk T G W f3 n3 ps3 (defScope st3) (defBody st3) := ⟨⟨rfl, rfl, rfl, by decide +kernel, rfl, by decide +kernel, by decide +kernel⟩, rfl, rfl, rfl, by decide +kernel⟩
theorem ok4 : DefOk T G W f4 n4 ps4 (defScope st4) (defBody st4) := ⟨⟨rfl, rfl, rfl, by decide +kernel, rfl, by decide +kernel, by decide +kernel⟩, rfl, rfl, rfl, by decide +kernel⟩
theorem ok5 : DefOk T G W f5 n5 ps5 (defScope st5) (defBody st5) := ⟨⟨rfl, rfl, rfl, by decide +kernel, rfl, by decide +kernel, by decide +kernel⟩, rfl, rfl, rfl, by decide +kernel⟩
theorem ok6 : DefOk T G W f6 n6 ps6 (defScope st6) (defBody st6) := ⟨⟨rfl, rfl, rfl, by decide +kernel, rfl, by decide +kernel, by decide +kernel⟩, rfl, rfl, rfl, by decide +kernel⟩
theorem ok7 : DefOk T G W f7 n7 ps7 (defScope st7) (defBody st7) := ⟨⟨rfl, rfl, rfl, by decide +kernel, rfl, by decide +kernel, by decide +kernel⟩, rfl, rfl, rfl, by decide +kernel⟩
theorem ok8 : DefOk T G W f8 n8 ps8 (defScope st8) (defBody st8) := ⟨⟨rfl, rfl, rfl, by decide +kernel, rfl, by decide +kernel, by decide +kernel⟩, rfl, rfl, rfl, by decide +kernel⟩
theorem ok9 : DefOk T G W f9 n9 ps9 (defScope st9) (defBody st9) := ⟨⟨rfl, rfl, rfl, by decide +kernel, rfl, by decide +kernel, by decide +kernel⟩, rfl, rfl, rfl, by decide +kernel⟩
theorem ok10 : DefOk T G W f10 n10 ps10 (defScope st10) (defBody st10) := ⟨⟨rfl, rfl, rfl, by decide +kernel, rfl, by decide +kernel, by decide +kernel⟩, rfl, rfl, rfl, by decide +kernel⟩
theorem ok11 : DefOk T G W f11 n11 ps11 (defScope st11) (defBody st11) := ⟨⟨rfl, rfl, rfl, by decide +kernel, rfl, by decide +kernel, by decide +kernel⟩, rfl, rfl, rfl, by decide +kernel⟩
theorem ok12 : DefOk T G W f12 n12 ps12 (defScope st12) (defBody st12) := ⟨⟨rfl, rfl, rfl, by decide +kernel, rfl, by decide +kernel, by decide +kernel⟩, rfl, rfl, rfl, by decide +kernel⟩
theorem ok13 : DefOk T G W f13 n13 ps13 (defScope st13) (defBody st13) := ⟨⟨rfl, rfl, rfl, by decide +kernel, rfl, by decide +kernel, by decide +kernel⟩, rfl, rfl, rfl, by decide +kernel⟩
theorem ok14 : DefOk T G W f14 n14 ps14 (defScope st14) (defBody st14) := ⟨⟨rfl, rfl, rfl, by decide +kernel, rfl, by decide +kernel, by decide +kernel⟩, rfl, rfl, rfl, by decide +kernel⟩
theorem ok15 : DefOk T G W f15 n15 ps15 (defScope st15) (defBody st15) := ⟨⟨rfl, rfl, rfl, by decide +kernel, rfl, by decide +kernel, by decide +kernel⟩, rfl, rfl, rfl, by decide +kernel⟩
theorem ok16 : DefOk T G W f16 n16 ps16 (defScope st16) (defBody st16) := ⟨⟨rfl, rfl, rfl, by decide +kernel, rfl, by decide +kernel, by decide +kernel⟩, rfl, rfl, rfl, by decide +kernel⟩
theorem ok17 : DefOk T G W f17 n17 ps17 (defScope st17) (defBody st17) := ⟨⟨rfl, rfl, rfl, by decide +kernel, rfl, by decide +kernel, by decide +kernel⟩, rfl, rfl, rfl, by decide +kernel⟩
theorem ok18 : DefOk T G W f18 n18 ps18 (defScope st18) (defBody st18) := ⟨⟨rfl, rfl, rfl, by decide +kernel, rfl, by decide +kernel, by decide +kernel⟩, rfl, rfl, rfl, by decide +kernel⟩
theorem ok19 : DefOk T G W f19 n19 ps19 (defScope st19) (defBody st19) := ⟨⟨rfl, rfl, rfl, by decide +kernel, rfl, by decide +kernel, by decide +kernel⟩, rfl, rfl, rfl, by decide +kernel⟩
theorem ok20 : DefOk T G W f20 n20 ps20 (defScope st20) (defBody st20) := ⟨⟨rfl, rfl, rfl, by decide +kernel, rfl, by decide +kernel, by decide +kernel⟩, rfl, rfl, rfl, by decide +kernel⟩
theorem ok21 : DefOk T G W f21 n21 ps21 (defScope st21) (defBody st21) := ⟨⟨rfl, rfl, rfl, by decide +kernel, rfl, by decide +kernel, by decide +kernel⟩, rfl, rfl, rfl, by decide +kernel⟩
theorem ok22 : DefOk T G W f22 n22 ps22 (defScope st22) (defBody st22) := ⟨⟨rfl, rfl, rfl, by decide +kernel, rfl, by decide +kernel, by decide +kernel⟩, rfl, rfl, rfl, by decide +kernel⟩
theorem ok23 : DefOk T G W f23 n23 ps23 (defScope st23) (defBody st23) := ⟨⟨rfl, rfl, rfl, by decide +kernel, rfl, by decide +kernel, by decide +kernel⟩, rfl, rfl, rfl, by decide +kernel⟩
theorem ok24 : DefOk T G W f24 n24 ps24 (defScope st24) (defBody st24) := ⟨⟨rfl, rfl, rfl, by decide +kernel, rfl, by decide +kernel, by decide +kernel⟩, rfl, rfl, rfl, by decide +kernel⟩
theorem ok25 : DefOk T G W f25 n25 ps25 (defScope st25) (defBody st25) := ⟨⟨rfl, rfl, rfl, by decide +kernel, rfl, by decide +kernel, by decide +kernel⟩, rfl, rfl, rfl, by decide +kernel⟩
theorem ok26 : DefOk T G W f26 n26 ps26 (defScope st26) (defBody st26) := ⟨⟨rfl, rfl, rfl, by decide +kernel, rfl, by decide +kernel, by decide +kernel⟩, rfl, rfl, rfl, by decide +kernel⟩
theorem ok27 : DefOk T G W f27 n27 ps27 (defScope st27) (defBody st27) := ⟨⟨rfl, rfl, rfl, by decide +kernel, rfl, by decide +kernel, by decide +kernel⟩, rfl, rfl, rfl, by decide +kernel⟩
theorem ok28 : DefOk T G W f28 n28 ps28 (defScope st28) (defBody st28) := ⟨⟨rfl, rfl, rfl, by decide +kernel, rfl, by decide +kernel, by decide +kernel⟩, rfl, rfl, rfl, by decide +kernel⟩
theorem ok29 : DefOk T G W f29 n29 ps29 (defScope st29) (defBody st29) := ⟨⟨rfl, rfl, rfl, by decide +kernel, rfl, by decide +kernel, by decide +kernel⟩, rfl, rfl, rfl, by decide +kernel⟩
theorem ok30 : DefOk T G W f30 n30 ps30 (defScope st30) (defBody st30) := ⟨⟨rfl, rfl, rfl, by decide +kernel, rfl, by decide +kernel, by decide +kernel⟩, rfl, rfl, rfl, by decide +kernel⟩
theorem ok31 : DefOk T G W f31 n31 ps31 (defScope st31) (defBody st31) := ⟨⟨rfl, rfl, rfl, by decide +kernel, rfl, by decide +kernel, by decide +kernel⟩, rfl, rfl, rfl, by decide +kernel⟩
theorem ok32 : DefOk T G W f32 n32 ps32 (defScope st32) (defBody st32) := ⟨⟨rfl, rfl, rfl, by decide +kernel, rfl, by decide +kernel, by decide +kernel⟩, rfl, rfl, rfl, by decide +kernel⟩
theorem ok33 : DefOk T G W f33 n33 ps33 (defScope st33) (defBody st33) := ⟨⟨rfl, rfl, rfl, by decide +kernel, rfl, by decide +kernel, by decide +kernel⟩, rfl, rfl, rfl, by decide +kernel⟩
theorem ok34 : DefOk T G W f34 n34 ps34 (defScope st34) (defBody st34) := ⟨⟨rfl, rfl, rfl, by decide +kernel, rfl, by decide +kernel, by decide +kernel⟩, rfl, rfl, rfl, by decide +kernel⟩
theorem ok35 : DefOk T G W f35 n35 ps35 (defScope st35) (defBody st35) := ⟨⟨rfl, rfl, rfl, by decide +kernel, rfl, by decide +kernel, by decide +kernel⟩, rfl, rfl, rfl, by decide +kernel⟩
theorem ok36 : DefOk T G W f36 n36 ps36 (defScope st36) (defBody st36) := ⟨⟨rfl, rfl, rfl, by decide +kernel, rfl, by decide +kernel, by decide +kernel⟩, rfl, rfl, rfl, by decide +kernel⟩
def d0 : He.DefD := ⟨("is_number", none), "is_number", "is_number", defArgs st0, defBody st0, defScope st0, [], []⟩
def d1 : He.DefD := ⟨("tupled", none), "tupled", "tupled", defArgs st1, defBody st1, defScope st1, [], []⟩
def d2 : He.DefD := ⟨("rises", none), "rises", "rises", defArgs st2, defBody st2, defScope st2, [], []⟩
def d3 : He.DefD := ⟨("set_of", none), "set_of", "set_of", defArgs st3, defBody st3, defScope st3, [], []⟩
def d4 : He.DefD := ⟨("unlike", none), "unlike", "unlike", defArgs st4, defBody st4, defScope st4, [], []⟩
def d5 : He.DefD := ⟨("home_of", none), "home_of", "home_of", defArgs st5, defBody st5, defScope st5, [], []⟩
def d6 : He.DefD := ⟨("sheets_under", none), "sheets_under", "sheets_under", defArgs st6, defBody st6, defScope st6, [], []⟩
def d7 : He.DefD := ⟨("can_be_out", none), "can_be_out", "can_be_out", defArgs st7, defBody st7, defScope st7, [], []⟩
def d8 : He.DefD := ⟨("is_plan", none), "is_plan", "is_plan", defArgs st8, defBody st8, defScope st8, [], []⟩
def d9 : He.DefD := ⟨("home_trees", none), "home_trees", "home_trees", defArgs st9, defBody st9, defScope st9, [], []⟩
def d10 : He.DefD := ⟨("homes_of", none), "homes_of", "homes_of", defArgs st10, defBody st10, defScope st10, [], []⟩
def d11 : He.DefD := ⟨("plan_size", none), "plan_size", "plan_size", defArgs st11, defBody st11, defScope st11, [], []⟩
def d12 : He.DefD := ⟨("_law_box", none), "_law_box", "_law_box", defArgs st12, defBody st12, defScope st12, [], []⟩
def d13 : He.DefD := ⟨("_law_take", none), "_law_take", "_law_take", defArgs st13, defBody st13, defScope st13, [], []⟩
def d14 : He.DefD := ⟨("_law_cells", none), "_law_cells", "_law_cells", defArgs st14, defBody st14, defScope st14, [], []⟩
def d15 : He.DefD := ⟨("_law_same", none), "_law_same", "_law_same", defArgs st15, defBody st15, defScope st15, [], []⟩
def d16 : He.DefD := ⟨("_law_lists", none), "_law_lists", "_law_lists", defArgs st16, defBody st16, defScope st16, [], []⟩
def d17 : He.DefD := ⟨("_law_of", none), "_law_of", "_law_of", defArgs st17, defBody st17, defScope st17, [], []⟩
def d18 : He.DefD := ⟨("_law_mixed", none), "_law_mixed", "_law_mixed", defArgs st18, defBody st18, defScope st18, [], []⟩
def d19 : He.DefD := ⟨("_law_subs", none), "_law_subs", "_law_subs", defArgs st19, defBody st19, defScope st19, [], []⟩
def d20 : He.DefD := ⟨("_law_book", none), "_law_book", "_law_book", defArgs st20, defBody st20, defScope st20, [], []⟩
def d21 : He.DefD := ⟨("_law_ask", none), "_law_ask", "_law_ask", defArgs st21, defBody st21, defScope st21, [], []⟩
def d22 : He.DefD := ⟨("_law_tree", none), "_law_tree", "_law_tree", defArgs st22, defBody st22, defScope st22, [], []⟩
def d23 : He.DefD := ⟨("_law_may", none), "_law_may", "_law_may", defArgs st23, defBody st23, defScope st23, [], []⟩
def d24 : He.DefD := ⟨("_law_plan", none), "_law_plan", "_law_plan", defArgs st24, defBody st24, defScope st24, [], []⟩
def d25 : He.DefD := ⟨("_law_under", none), "_law_under", "_law_under", defArgs st25, defBody st25, defScope st25, [], []⟩
def d26 : He.DefD := ⟨("_law_homes", none), "_law_homes", "_law_homes", defArgs st26, defBody st26, defScope st26, [], []⟩
def d27 : He.DefD := ⟨("_law_yard", none), "_law_yard", "_law_yard", defArgs st27, defBody st27, defScope st27, [], []⟩
def d28 : He.DefD := ⟨("_law_tree_of", none), "_law_tree_of", "_law_tree_of", defArgs st28, defBody st28, defScope st28, [], []⟩
def d29 : He.DefD := ⟨("_law_is", none), "_law_is", "_law_is", defArgs st29, defBody st29, defScope st29, [], []⟩
def d30 : He.DefD := ⟨("_law_bent", none), "_law_bent", "_law_bent", defArgs st30, defBody st30, defScope st30, [], []⟩
def d31 : He.DefD := ⟨("_law_size", none), "_law_size", "_law_size", defArgs st31, defBody st31, defScope st31, [], []⟩
def d32 : He.DefD := ⟨("_law_plan_right", none), "_law_plan_right", "_law_plan_right", defArgs st32, defBody st32, defScope st32, [], []⟩
def d33 : He.DefD := ⟨("_law_by_hand_right", none), "_law_by_hand_right", "_law_by_hand_right", defArgs st33, defBody st33, defScope st33, [], []⟩
def d34 : He.DefD := ⟨("_law_more_right", none), "_law_more_right", "_law_more_right", defArgs st34, defBody st34, defScope st34, [], []⟩
def d35 : He.DefD := ⟨("_law_right", none), "_law_right", "_law_right", defArgs st35, defBody st35, defScope st35, [], []⟩
def d36 : He.DefD := ⟨("law", none), "law", "law", defArgs st36, defBody st36, defScope st36, [], []⟩
def fn0p : List He.DefD := [d0, d1, d2, d3, d4, d5, d6, d7, d8, d9, d10, d11, d12, d13, d14, d15, d16, d17, d18, d19, d20, d21, d22, d23, d24, d25, d26, d27, d28, d29]
def fn1p : List He.DefD := [d30, d31, d32, d33, d34, d35, d36]
def fn : List He.DefD := fn0p ++ fn1p
def fa0p : List He.Fa := [.glo "is_number", .glo "tupled", .glo "rises", .glo "set_of", .glo "unlike", .glo "home_of", .glo "sheets_under", .glo "can_be_out", .glo "is_plan", .glo "home_trees", .glo "homes_of", .glo "plan_size", .glo "_law_box", .glo "_law_take", .glo "_law_cells", .glo "_law_same", .glo "_law_lists", .glo "_law_of", .glo "_law_mixed", .glo "_law_subs", .glo "_law_book", .glo "_law_ask", .glo "_law_tree", .glo "_law_may", .glo "_law_plan", .glo "_law_under", .glo "_law_homes", .glo "_law_yard", .glo "_law_tree_of", .glo "_law_is"]
def fa1p : List He.Fa := [.glo "_law_bent", .glo "_law_size", .glo "_law_plan_right", .glo "_law_by_hand_right", .glo "_law_more_right", .glo "_law_right", .glo "law", .int "PAIR" 2, .int "TRIPLE" 3, .str "FOLD" "fold", .str "HOME" "home", .str "JOIN" "join", .free "len", .free "abs", .free "int", .free "list", .free "tuple", .free "sorted", .free "set", .free "all", .free "any", .free "sum", .free "bool", .free "str", .free "isinstance", .free "range", .free "enumerate", .free "zip"]
def fa : List He.Fa := fa0p ++ fa1p
def loose0p : List Str := ["PAIR", "TRIPLE", "FOLD", "HOME", "JOIN", "is_number", "tupled", "rises", "set_of", "unlike", "home_of", "sheets_under", "can_be_out", "is_plan", "home_trees", "homes_of", "plan_size", "_law_box", "_law_take", "_law_cells", "_law_same", "_law_lists", "_law_of", "_law_mixed", "_law_subs", "_law_book", "_law_ask", "_law_tree", "_law_may", "_law_plan"]
def loose1p : List Str := ["_law_under", "_law_homes", "_law_yard", "_law_tree_of", "_law_is", "_law_bent", "_law_size", "_law_plan_right", "_law_by_hand_right", "_law_more_right", "_law_right"]
def loose : List Str := loose0p ++ loose1p
abbrev R : PySem.W.OpenRow := PySem.W.OpenLaw.row PySem.Challenge.rw_rowsathome_k21_plans_or_none
abbrev hk : PySem.W.Hook := hookL 4 fa fn
abbrev ob := obL 4 fa fn
theorem run (w : World) : HandSHeadRun.RunEq R (PySem.W.view R.prog [45]) hk ob 4000 loose w := by
  intro os
  kernel_rfl
section
variable {K : PySem.W.Frag} {h : Heap} {mg : Str → Option Value}
theorem t0 (X : K.In h) (Gn : h.Ns mainGlobals mg) (c : He.SaysD fa fn K) : ∃ N ps qual params body scope f fd, DefOk T G W f0 N ps scope body ∧ FunD K f0.name qual params body scope [] [] f fd ∧ mg f0.name = some (.ref f) ∧ (Binds K fd ps [] ∧ ∀ ks perm, (0, ks, perm) ∈ W → KwOk K fd ps ks perm) := by
  obtain ⟨fd, Fd⟩ := c.def_ 0 (d := d0) rfl
  refine ⟨n0, ps0, _, _, _, _, _, fd, ok0, Fd, He.glo_ok X Gn (c.fact 0 (f := .glo "is_number") rfl), FunD.bindsN (ps := ps0) Fd fun _ _ _ _ _ _ us hl => match us, hl with | [_], _ => rfl, fun ks perm m => ?_⟩
  simp [W] at m
theorem t1 (X : K.In h) (Gn : h.Ns mainGlobals mg) (c : He.SaysD fa fn K) : ∃ N ps qual params body scope f fd, DefOk T G W f1 N ps scope body ∧ FunD K f1.name qual params body scope [] [] f fd ∧ mg f1.name = some (.ref f) ∧ (Binds K fd ps [] ∧ ∀ ks perm, (1, ks, perm) ∈ W → KwOk K fd ps ks perm) := by
  obtain ⟨fd, Fd⟩ := c.def_ 1 (d := d1) rfl
  refine ⟨n1, ps1, _, _, _, _, _, fd, ok1, Fd, He.glo_ok X Gn (c.fact 1 (f := .glo "tupled") rfl), FunD.bindsN (ps := ps1) Fd fun _ _ _ _ _ _ us hl => match us, hl with | [_], _ => rfl, fun ks perm m => ?_⟩
  simp [W] at m
theorem t2 (X : K.In h) (Gn : h.Ns mainGlobals mg) (c : He.SaysD fa fn K) : ∃ N ps qual params body scope f fd, DefOk T G W f2 N ps scope body ∧ FunD K f2.name qual params body scope [] [] f fd ∧ mg f2.name = some (.ref f) ∧ (Binds K fd ps [] ∧ ∀ ks perm, (2, ks, perm) ∈ W → KwOk K fd ps ks perm) := by
  obtain ⟨fd, Fd⟩ := c.def_ 2 (d := d2) rfl
  refine ⟨n2, ps2, _, _, _, _, _, fd, ok2, Fd, He.glo_ok X Gn (c.fact 2 (f := .glo "rises") rfl), FunD.bindsN (ps := ps2) Fd fun _ _ _ _ _ _ us hl => match us, hl with | [_], _ => rfl, fun ks perm m => ?_⟩
  simp [W] at m
theorem t3 (X : K.In h) (Gn : h.Ns mainGlobals mg) (c : He.SaysD fa fn K) : ∃ N ps qual params body scope f fd, DefOk T G W f3 N ps scope body ∧ FunD K f3.name qual params body scope [] [] f fd ∧ mg f3.name = some (.ref f) ∧ (Binds K fd ps [] ∧ ∀ ks perm, (3, ks, perm) ∈ W → KwOk K fd ps ks perm) := by
  obtain ⟨fd, Fd⟩ := c.def_ 3 (d := d3) rfl
  refine ⟨n3, ps3, _, _, _, _, _, fd, ok3, Fd, He.glo_ok X Gn (c.fact 3 (f := .glo "set_of") rfl), FunD.bindsN (ps := ps3) Fd fun _ _ _ _ _ _ us hl => match us, hl with | [_], _ => rfl, fun ks perm m => ?_⟩
  simp [W] at m
theorem t4 (X : K.In h) (Gn : h.Ns mainGlobals mg) (c : He.SaysD fa fn K) : ∃ N ps qual params body scope f fd, DefOk T G W f4 N ps scope body ∧ FunD K f4.name qual params body scope [] [] f fd ∧ mg f4.name = some (.ref f) ∧ (Binds K fd ps [] ∧ ∀ ks perm, (4, ks, perm) ∈ W → KwOk K fd ps ks perm) := by
  obtain ⟨fd, Fd⟩ := c.def_ 4 (d := d4) rfl
  refine ⟨n4, ps4, _, _, _, _, _, fd, ok4, Fd, He.glo_ok X Gn (c.fact 4 (f := .glo "unlike") rfl), FunD.bindsN (ps := ps4) Fd fun _ _ _ _ _ _ us hl => match us, hl with | [_, _], _ => rfl, fun ks perm m => ?_⟩
  simp [W] at m
theorem t5 (X : K.In h) (Gn : h.Ns mainGlobals mg) (c : He.SaysD fa fn K) : ∃ N ps qual params body scope f fd, DefOk T G W f5 N ps scope body ∧ FunD K f5.name qual params body scope [] [] f fd ∧ mg f5.name = some (.ref f) ∧ (Binds K fd ps [] ∧ ∀ ks perm, (5, ks, perm) ∈ W → KwOk K fd ps ks perm) := by
  obtain ⟨fd, Fd⟩ := c.def_ 5 (d := d5) rfl
  refine ⟨n5, ps5, _, _, _, _, _, fd, ok5, Fd, He.glo_ok X Gn (c.fact 5 (f := .glo "home_of") rfl), FunD.bindsN (ps := ps5) Fd fun _ _ _ _ _ _ us hl => match us, hl with | [_, _], _ => rfl, fun ks perm m => ?_⟩
  simp [W] at m
theorem t6 (X : K.In h) (Gn : h.Ns mainGlobals mg) (c : He.SaysD fa fn K) : ∃ N ps qual params body scope f fd, DefOk T G W f6 N ps scope body ∧ FunD K f6.name qual params body scope [] [] f fd ∧ mg f6.name = some (.ref f) ∧ (Binds K fd ps [] ∧ ∀ ks perm, (6, ks, perm) ∈ W → KwOk K fd ps ks perm) := by
  obtain ⟨fd, Fd⟩ := c.def_ 6 (d := d6) rfl
  refine ⟨n6, ps6, _, _, _, _, _, fd, ok6, Fd, He.glo_ok X Gn (c.fact 6 (f := .glo "sheets_under") rfl), FunD.bindsN (ps := ps6) Fd fun _ _ _ _ _ _ us hl => match us, hl with | [_, _], _ => rfl, fun ks perm m => ?_⟩
  simp [W] at m
theorem t7 (X : K.In h) (Gn : h.Ns mainGlobals mg) (c : He.SaysD fa fn K) : ∃ N ps qual params body scope f fd, DefOk T G W f7 N ps scope body ∧ FunD K f7.name qual params body scope [] [] f fd ∧ mg f7.name = some (.ref f) ∧ (Binds K fd ps [] ∧ ∀ ks perm, (7, ks, perm) ∈ W → KwOk K fd ps ks perm) := by
  obtain ⟨fd, Fd⟩ := c.def_ 7 (d := d7) rfl
  refine ⟨n7, ps7, _, _, _, _, _, fd, ok7, Fd, He.glo_ok X Gn (c.fact 7 (f := .glo "can_be_out") rfl), FunD.bindsN (ps := ps7) Fd fun _ _ _ _ _ _ us hl => match us, hl with | [_, _], _ => rfl, fun ks perm m => ?_⟩
  simp [W] at m
theorem t8 (X : K.In h) (Gn : h.Ns mainGlobals mg) (c : He.SaysD fa fn K) : ∃ N ps qual params body scope f fd, DefOk T G W f8 N ps scope body ∧ FunD K f8.name qual params body scope [] [] f fd ∧ mg f8.name = some (.ref f) ∧ (Binds K fd ps [] ∧ ∀ ks perm, (8, ks, perm) ∈ W → KwOk K fd ps ks perm) := by
  obtain ⟨fd, Fd⟩ := c.def_ 8 (d := d8) rfl
  refine ⟨n8, ps8, _, _, _, _, _, fd, ok8, Fd, He.glo_ok X Gn (c.fact 8 (f := .glo "is_plan") rfl), FunD.bindsN (ps := ps8) Fd fun _ _ _ _ _ _ us hl => match us, hl with | [_, _, _], _ => rfl, fun ks perm m => ?_⟩
  obtain ⟨rfl, rfl⟩ : ks = (["thing", "question", "schema"] : List Str) ∧ perm = [2, 1, 0] := by simpa [W] using m
  exact kw_of Fd fun _ _ _ _ _ _ us hl => match us, hl with | [_, _, _], _ => rfl
theorem t9 (X : K.In h) (Gn : h.Ns mainGlobals mg) (c : He.SaysD fa fn K) : ∃ N ps qual params body scope f fd, DefOk T G W f9 N ps scope body ∧ FunD K f9.name qual params body scope [] [] f fd ∧ mg f9.name = some (.ref f) ∧ (Binds K fd ps [] ∧ ∀ ks perm, (9, ks, perm) ∈ W → KwOk K fd ps ks perm) := by
  obtain ⟨fd, Fd⟩ := c.def_ 9 (d := d9) rfl
  refine ⟨n9, ps9, _, _, _, _, _, fd, ok9, Fd, He.glo_ok X Gn (c.fact 9 (f := .glo "home_trees") rfl), FunD.bindsN (ps := ps9) Fd fun _ _ _ _ _ _ us hl => match us, hl with | [_], _ => rfl, fun ks perm m => ?_⟩
  simp [W] at m
theorem t10 (X : K.In h) (Gn : h.Ns mainGlobals mg) (c : He.SaysD fa fn K) : ∃ N ps qual params body scope f fd, DefOk T G W f10 N ps scope body ∧ FunD K f10.name qual params body scope [] [] f fd ∧ mg f10.name = some (.ref f) ∧ (Binds K fd ps [] ∧ ∀ ks perm, (10, ks, perm) ∈ W → KwOk K fd ps ks perm) := by
  obtain ⟨fd, Fd⟩ := c.def_ 10 (d := d10) rfl
  refine ⟨n10, ps10, _, _, _, _, _, fd, ok10, Fd, He.glo_ok X Gn (c.fact 10 (f := .glo "homes_of") rfl), FunD.bindsN (ps := ps10) Fd fun _ _ _ _ _ _ us hl => match us, hl with | [_], _ => rfl, fun ks perm m => ?_⟩
  obtain ⟨rfl, rfl⟩ : ks = (["plan"] : List Str) ∧ perm = [0] := by simpa [W] using m
  exact kw_of Fd fun _ _ _ _ _ _ us hl => match us, hl with | [_], _ => rfl
theorem t11 (X : K.In h) (Gn : h.Ns mainGlobals mg) (c : He.SaysD fa fn K) : ∃ N ps qual params body scope f fd, DefOk T G W f11 N ps scope body ∧ FunD K f11.name qual params body scope [] [] f fd ∧ mg f11.name = some (.ref f) ∧ (Binds K fd ps [] ∧ ∀ ks perm, (11, ks, perm) ∈ W → KwOk K fd ps ks perm) := by
  obtain ⟨fd, Fd⟩ := c.def_ 11 (d := d11) rfl
  refine ⟨n11, ps11, _, _, _, _, _, fd, ok11, Fd, He.glo_ok X Gn (c.fact 11 (f := .glo "plan_size") rfl), FunD.bindsN (ps := ps11) Fd fun _ _ _ _ _ _ us hl => match us, hl with | [_], _ => rfl, fun ks perm m => ?_⟩
  obtain ⟨rfl, rfl⟩ : ks = (["plan"] : List Str) ∧ perm = [0] := by simpa [W] using m
  exact kw_of Fd fun _ _ _ _ _ _ us hl => match us, hl with | [_], _ => rfl
theorem t12 (X : K.In h) (Gn : h.Ns mainGlobals mg) (c : He.SaysD fa fn K) : ∃ N ps qual params body scope f fd, DefOk T G W f12 N ps scope body ∧ FunD K f12.name qual params body scope [] [] f fd ∧ mg f12.name = some (.ref f) ∧ (Binds K fd ps [] ∧ ∀ ks perm, (12, ks, perm) ∈ W → KwOk K fd ps ks perm) := by
  obtain ⟨fd, Fd⟩ := c.def_ 12 (d := d12) rfl
  refine ⟨n12, ps12, _, _, _, _, _, fd, ok12, Fd, He.glo_ok X Gn (c.fact 12 (f := .glo "_law_box") rfl), FunD.bindsN (ps := ps12) Fd fun _ _ _ _ _ _ us hl => match us, hl with | [_, _], _ => rfl, fun ks perm m => ?_⟩
  simp [W] at m
theorem t13 (X : K.In h) (Gn : h.Ns mainGlobals mg) (c : He.SaysD fa fn K) : ∃ N ps qual params body scope f fd, DefOk T G W f13 N ps scope body ∧ FunD K f13.name qual params body scope [] [] f fd ∧ mg f13.name = some (.ref f) ∧ (Binds K fd ps [] ∧ ∀ ks perm, (13, ks, perm) ∈ W → KwOk K fd ps ks perm) := by
  obtain ⟨fd, Fd⟩ := c.def_ 13 (d := d13) rfl
  refine ⟨n13, ps13, _, _, _, _, _, fd, ok13, Fd, He.glo_ok X Gn (c.fact 13 (f := .glo "_law_take") rfl), FunD.bindsN (ps := ps13) Fd fun _ _ _ _ _ _ us hl => match us, hl with | [_, _], _ => rfl, fun ks perm m => ?_⟩
  simp [W] at m
theorem t14 (X : K.In h) (Gn : h.Ns mainGlobals mg) (c : He.SaysD fa fn K) : ∃ N ps qual params body scope f fd, DefOk T G W f14 N ps scope body ∧ FunD K f14.name qual params body scope [] [] f fd ∧ mg f14.name = some (.ref f) ∧ (Binds K fd ps [] ∧ ∀ ks perm, (14, ks, perm) ∈ W → KwOk K fd ps ks perm) := by
  obtain ⟨fd, Fd⟩ := c.def_ 14 (d := d14) rfl
  refine ⟨n14, ps14, _, _, _, _, _, fd, ok14, Fd, He.glo_ok X Gn (c.fact 14 (f := .glo "_law_cells") rfl), FunD.bindsN (ps := ps14) Fd fun _ _ _ _ _ _ us hl => match us, hl with | [_, _], _ => rfl, fun ks perm m => ?_⟩
  simp [W] at m
theorem t15 (X : K.In h) (Gn : h.Ns mainGlobals mg) (c : He.SaysD fa fn K) : ∃ N ps qual params body scope f fd, DefOk T G W f15 N ps scope body ∧ FunD K f15.name qual params body scope [] [] f fd ∧ mg f15.name = some (.ref f) ∧ (Binds K fd ps [] ∧ ∀ ks perm, (15, ks, perm) ∈ W → KwOk K fd ps ks perm) := by
  obtain ⟨fd, Fd⟩ := c.def_ 15 (d := d15) rfl
  refine ⟨n15, ps15, _, _, _, _, _, fd, ok15, Fd, He.glo_ok X Gn (c.fact 15 (f := .glo "_law_same") rfl), FunD.bindsN (ps := ps15) Fd fun _ _ _ _ _ _ us hl => match us, hl with | [_, _], _ => rfl, fun ks perm m => ?_⟩
  simp [W] at m
theorem t16 (X : K.In h) (Gn : h.Ns mainGlobals mg) (c : He.SaysD fa fn K) : ∃ N ps qual params body scope f fd, DefOk T G W f16 N ps scope body ∧ FunD K f16.name qual params body scope [] [] f fd ∧ mg f16.name = some (.ref f) ∧ (Binds K fd ps [] ∧ ∀ ks perm, (16, ks, perm) ∈ W → KwOk K fd ps ks perm) := by
  obtain ⟨fd, Fd⟩ := c.def_ 16 (d := d16) rfl
  refine ⟨n16, ps16, _, _, _, _, _, fd, ok16, Fd, He.glo_ok X Gn (c.fact 16 (f := .glo "_law_lists") rfl), FunD.bindsN (ps := ps16) Fd fun _ _ _ _ _ _ us hl => match us, hl with | [_], _ => rfl, fun ks perm m => ?_⟩
  simp [W] at m
theorem t17 (X : K.In h) (Gn : h.Ns mainGlobals mg) (c : He.SaysD fa fn K) : ∃ N ps qual params body scope f fd, DefOk T G W f17 N ps scope body ∧ FunD K f17.name qual params body scope [] [] f fd ∧ mg f17.name = some (.ref f) ∧ (Binds K fd ps [] ∧ ∀ ks perm, (17, ks, perm) ∈ W → KwOk K fd ps ks perm) := by
  obtain ⟨fd, Fd⟩ := c.def_ 17 (d := d17) rfl
  refine ⟨n17, ps17, _, _, _, _, _, fd, ok17, Fd, He.glo_ok X Gn (c.fact 17 (f := .glo "_law_of") rfl), FunD.bindsN (ps := ps17) Fd fun _ _ _ _ _ _ us hl => match us, hl with | [_, _], _ => rfl, fun ks perm m => ?_⟩
  simp [W] at m
theorem t18 (X : K.In h) (Gn : h.Ns mainGlobals mg) (c : He.SaysD fa fn K) : ∃ N ps qual params body scope f fd, DefOk T G W f18 N ps scope body ∧ FunD K f18.name qual params body scope [] [] f fd ∧ mg f18.name = some (.ref f) ∧ (Binds K fd ps [] ∧ ∀ ks perm, (18, ks, perm) ∈ W → KwOk K fd ps ks perm) := by
  obtain ⟨fd, Fd⟩ := c.def_ 18 (d := d18) rfl
  refine ⟨n18, ps18, _, _, _, _, _, fd, ok18, Fd, He.glo_ok X Gn (c.fact 18 (f := .glo "_law_mixed") rfl), FunD.bindsN (ps := ps18) Fd fun _ _ _ _ _ _ us hl => match us, hl with | [_, _], _ => rfl, fun ks perm m => ?_⟩
  simp [W] at m
theorem t19 (X : K.In h) (Gn : h.Ns mainGlobals mg) (c : He.SaysD fa fn K) : ∃ N ps qual params body scope f fd, DefOk T G W f19 N ps scope body ∧ FunD K f19.name qual params body scope [] [] f fd ∧ mg f19.name = some (.ref f) ∧ (Binds K fd ps [] ∧ ∀ ks perm, (19, ks, perm) ∈ W → KwOk K fd ps ks perm) := by
  obtain ⟨fd, Fd⟩ := c.def_ 19 (d := d19) rfl
  refine ⟨n19, ps19, _, _, _, _, _, fd, ok19, Fd, He.glo_ok X Gn (c.fact 19 (f := .glo "_law_subs") rfl), FunD.bindsN (ps := ps19) Fd fun _ _ _ _ _ _ us hl => match us, hl with | [_], _ => rfl, fun ks perm m => ?_⟩
  simp [W] at m
theorem t20 (X : K.In h) (Gn : h.Ns mainGlobals mg) (c : He.SaysD fa fn K) : ∃ N ps qual params body scope f fd, DefOk T G W f20 N ps scope body ∧ FunD K f20.name qual params body scope [] [] f fd ∧ mg f20.name = some (.ref f) ∧ (Binds K fd ps [] ∧ ∀ ks perm, (20, ks, perm) ∈ W → KwOk K fd ps ks perm) := by
  obtain ⟨fd, Fd⟩ := c.def_ 20 (d := d20) rfl
  refine ⟨n20, ps20, _, _, _, _, _, fd, ok20, Fd, He.glo_ok X Gn (c.fact 20 (f := .glo "_law_book") rfl), FunD.bindsN (ps := ps20) Fd fun _ _ _ _ _ _ us hl => match us, hl with | [_, _], _ => rfl, fun ks perm m => ?_⟩
  simp [W] at m
theorem t21 (X : K.In h) (Gn : h.Ns mainGlobals mg) (c : He.SaysD fa fn K) : ∃ N ps qual params body scope f fd, DefOk T G W f21 N ps scope body ∧ FunD K f21.name qual params body scope [] [] f fd ∧ mg f21.name = some (.ref f) ∧ (Binds K fd ps [] ∧ ∀ ks perm, (21, ks, perm) ∈ W → KwOk K fd ps ks perm) := by
  obtain ⟨fd, Fd⟩ := c.def_ 21 (d := d21) rfl
  refine ⟨n21, ps21, _, _, _, _, _, fd, ok21, Fd, He.glo_ok X Gn (c.fact 21 (f := .glo "_law_ask") rfl), FunD.bindsN (ps := ps21) Fd fun _ _ _ _ _ _ us hl => match us, hl with | [_, _], _ => rfl, fun ks perm m => ?_⟩
  simp [W] at m
theorem t22 (X : K.In h) (Gn : h.Ns mainGlobals mg) (c : He.SaysD fa fn K) : ∃ N ps qual params body scope f fd, DefOk T G W f22 N ps scope body ∧ FunD K f22.name qual params body scope [] [] f fd ∧ mg f22.name = some (.ref f) ∧ (Binds K fd ps [] ∧ ∀ ks perm, (22, ks, perm) ∈ W → KwOk K fd ps ks perm) := by
  obtain ⟨fd, Fd⟩ := c.def_ 22 (d := d22) rfl
  refine ⟨n22, ps22, _, _, _, _, _, fd, ok22, Fd, He.glo_ok X Gn (c.fact 22 (f := .glo "_law_tree") rfl), FunD.bindsN (ps := ps22) Fd fun _ _ _ _ _ _ us hl => match us, hl with | [_, _, _, _], _ => rfl, fun ks perm m => ?_⟩
  simp [W] at m
theorem t23 (X : K.In h) (Gn : h.Ns mainGlobals mg) (c : He.SaysD fa fn K) : ∃ N ps qual params body scope f fd, DefOk T G W f23 N ps scope body ∧ FunD K f23.name qual params body scope [] [] f fd ∧ mg f23.name = some (.ref f) ∧ (Binds K fd ps [] ∧ ∀ ks perm, (23, ks, perm) ∈ W → KwOk K fd ps ks perm) := by
  obtain ⟨fd, Fd⟩ := c.def_ 23 (d := d23) rfl
  refine ⟨n23, ps23, _, _, _, _, _, fd, ok23, Fd, He.glo_ok X Gn (c.fact 23 (f := .glo "_law_may") rfl), FunD.bindsN (ps := ps23) Fd fun _ _ _ _ _ _ us hl => match us, hl with | [_, _], _ => rfl, fun ks perm m => ?_⟩
  simp [W] at m
theorem t24 (X : K.In h) (Gn : h.Ns mainGlobals mg) (c : He.SaysD fa fn K) : ∃ N ps qual params body scope f fd, DefOk T G W f24 N ps scope body ∧ FunD K f24.name qual params body scope [] [] f fd ∧ mg f24.name = some (.ref f) ∧ (Binds K fd ps [] ∧ ∀ ks perm, (24, ks, perm) ∈ W → KwOk K fd ps ks perm) := by
  obtain ⟨fd, Fd⟩ := c.def_ 24 (d := d24) rfl
  refine ⟨n24, ps24, _, _, _, _, _, fd, ok24, Fd, He.glo_ok X Gn (c.fact 24 (f := .glo "_law_plan") rfl), FunD.bindsN (ps := ps24) Fd fun _ _ _ _ _ _ us hl => match us, hl with | [_, _, _], _ => rfl, fun ks perm m => ?_⟩
  simp [W] at m
theorem t25 (X : K.In h) (Gn : h.Ns mainGlobals mg) (c : He.SaysD fa fn K) : ∃ N ps qual params body scope f fd, DefOk T G W f25 N ps scope body ∧ FunD K f25.name qual params body scope [] [] f fd ∧ mg f25.name = some (.ref f) ∧ (Binds K fd ps [] ∧ ∀ ks perm, (25, ks, perm) ∈ W → KwOk K fd ps ks perm) := by
  obtain ⟨fd, Fd⟩ := c.def_ 25 (d := d25) rfl
  refine ⟨n25, ps25, _, _, _, _, _, fd, ok25, Fd, He.glo_ok X Gn (c.fact 25 (f := .glo "_law_under") rfl), FunD.bindsN (ps := ps25) Fd fun _ _ _ _ _ _ us hl => match us, hl with | [_], _ => rfl, fun ks perm m => ?_⟩
  simp [W] at m
theorem t26 (X : K.In h) (Gn : h.Ns mainGlobals mg) (c : He.SaysD fa fn K) : ∃ N ps qual params body scope f fd, DefOk T G W f26 N ps scope body ∧ FunD K f26.name qual params body scope [] [] f fd ∧ mg f26.name = some (.ref f) ∧ (Binds K fd ps [] ∧ ∀ ks perm, (26, ks, perm) ∈ W → KwOk K fd ps ks perm) := by
  obtain ⟨fd, Fd⟩ := c.def_ 26 (d := d26) rfl
  refine ⟨n26, ps26, _, _, _, _, _, fd, ok26, Fd, He.glo_ok X Gn (c.fact 26 (f := .glo "_law_homes") rfl), FunD.bindsN (ps := ps26) Fd fun _ _ _ _ _ _ us hl => match us, hl with | [_], _ => rfl, fun ks perm m => ?_⟩
  simp [W] at m
theorem t27 (X : K.In h) (Gn : h.Ns mainGlobals mg) (c : He.SaysD fa fn K) : ∃ N ps qual params body scope f fd, DefOk T G W f27 N ps scope body ∧ FunD K f27.name qual params body scope [] [] f fd ∧ mg f27.name = some (.ref f) ∧ (Binds K fd ps [] ∧ ∀ ks perm, (27, ks, perm) ∈ W → KwOk K fd ps ks perm) := by
  obtain ⟨fd, Fd⟩ := c.def_ 27 (d := d27) rfl
  refine ⟨n27, ps27, _, _, _, _, _, fd, ok27, Fd, He.glo_ok X Gn (c.fact 27 (f := .glo "_law_yard") rfl), FunD.bindsN (ps := ps27) Fd fun _ _ _ _ _ _ us hl => match us, hl with | [], _ => rfl, fun ks perm m => ?_⟩
  simp [W] at m
theorem t28 (X : K.In h) (Gn : h.Ns mainGlobals mg) (c : He.SaysD fa fn K) : ∃ N ps qual params body scope f fd, DefOk T G W f28 N ps scope body ∧ FunD K f28.name qual params body scope [] [] f fd ∧ mg f28.name = some (.ref f) ∧ (Binds K fd ps [] ∧ ∀ ks perm, (28, ks, perm) ∈ W → KwOk K fd ps ks perm) := by
  obtain ⟨fd, Fd⟩ := c.def_ 28 (d := d28) rfl
  refine ⟨n28, ps28, _, _, _, _, _, fd, ok28, Fd, He.glo_ok X Gn (c.fact 28 (f := .glo "_law_tree_of") rfl), FunD.bindsN (ps := ps28) Fd fun _ _ _ _ _ _ us hl => match us, hl with | [_, _], _ => rfl, fun ks perm m => ?_⟩
  simp [W] at m
theorem t29 (X : K.In h) (Gn : h.Ns mainGlobals mg) (c : He.SaysD fa fn K) : ∃ N ps qual params body scope f fd, DefOk T G W f29 N ps scope body ∧ FunD K f29.name qual params body scope [] [] f fd ∧ mg f29.name = some (.ref f) ∧ (Binds K fd ps [] ∧ ∀ ks perm, (29, ks, perm) ∈ W → KwOk K fd ps ks perm) := by
  obtain ⟨fd, Fd⟩ := c.def_ 29 (d := d29) rfl
  refine ⟨n29, ps29, _, _, _, _, _, fd, ok29, Fd, He.glo_ok X Gn (c.fact 29 (f := .glo "_law_is") rfl), FunD.bindsN (ps := ps29) Fd fun _ _ _ _ _ _ us hl => match us, hl with | [_, _, _], _ => rfl, fun ks perm m => ?_⟩
  simp [W] at m
theorem t30 (X : K.In h) (Gn : h.Ns mainGlobals mg) (c : He.SaysD fa fn K) : ∃ N ps qual params body scope f fd, DefOk T G W f30 N ps scope body ∧ FunD K f30.name qual params body scope [] [] f fd ∧ mg f30.name = some (.ref f) ∧ (Binds K fd ps [] ∧ ∀ ks perm, (30, ks, perm) ∈ W → KwOk K fd ps ks perm) := by
  obtain ⟨fd, Fd⟩ := c.def_ 30 (d := d30) rfl
  refine ⟨n30, ps30, _, _, _, _, _, fd, ok30, Fd, He.glo_ok X Gn (c.fact 30 (f := .glo "_law_bent") rfl), FunD.bindsN (ps := ps30) Fd fun _ _ _ _ _ _ us hl => match us, hl with | [_, _], _ => rfl, fun ks perm m => ?_⟩
  simp [W] at m
theorem t31 (X : K.In h) (Gn : h.Ns mainGlobals mg) (c : He.SaysD fa fn K) : ∃ N ps qual params body scope f fd, DefOk T G W f31 N ps scope body ∧ FunD K f31.name qual params body scope [] [] f fd ∧ mg f31.name = some (.ref f) ∧ (Binds K fd ps [] ∧ ∀ ks perm, (31, ks, perm) ∈ W → KwOk K fd ps ks perm) := by
  obtain ⟨fd, Fd⟩ := c.def_ 31 (d := d31) rfl
  refine ⟨n31, ps31, _, _, _, _, _, fd, ok31, Fd, He.glo_ok X Gn (c.fact 31 (f := .glo "_law_size") rfl), FunD.bindsN (ps := ps31) Fd fun _ _ _ _ _ _ us hl => match us, hl with | [_], _ => rfl, fun ks perm m => ?_⟩
  simp [W] at m
theorem t32 (X : K.In h) (Gn : h.Ns mainGlobals mg) (c : He.SaysD fa fn K) : ∃ N ps qual params body scope f fd, DefOk T G W f32 N ps scope body ∧ FunD K f32.name qual params body scope [] [] f fd ∧ mg f32.name = some (.ref f) ∧ (Binds K fd ps [] ∧ ∀ ks perm, (32, ks, perm) ∈ W → KwOk K fd ps ks perm) := by
  obtain ⟨fd, Fd⟩ := c.def_ 32 (d := d32) rfl
  refine ⟨n32, ps32, _, _, _, _, _, fd, ok32, Fd, He.glo_ok X Gn (c.fact 32 (f := .glo "_law_plan_right") rfl), FunD.bindsN (ps := ps32) Fd fun _ _ _ _ _ _ us hl => match us, hl with | [_, _, _], _ => rfl, fun ks perm m => ?_⟩
  simp [W] at m
theorem t33 (X : K.In h) (Gn : h.Ns mainGlobals mg) (c : He.SaysD fa fn K) : ∃ N ps qual params body scope f fd, DefOk T G W f33 N ps scope body ∧ FunD K f33.name qual params body scope [] [] f fd ∧ mg f33.name = some (.ref f) ∧ (Binds K fd ps [] ∧ ∀ ks perm, (33, ks, perm) ∈ W → KwOk K fd ps ks perm) := by
  obtain ⟨fd, Fd⟩ := c.def_ 33 (d := d33) rfl
  refine ⟨n33, ps33, _, _, _, _, _, fd, ok33, Fd, He.glo_ok X Gn (c.fact 33 (f := .glo "_law_by_hand_right") rfl), FunD.bindsN (ps := ps33) Fd fun _ _ _ _ _ _ us hl => match us, hl with | [], _ => rfl, fun ks perm m => ?_⟩
  simp [W] at m
theorem t34 (X : K.In h) (Gn : h.Ns mainGlobals mg) (c : He.SaysD fa fn K) : ∃ N ps qual params body scope f fd, DefOk T G W f34 N ps scope body ∧ FunD K f34.name qual params body scope [] [] f fd ∧ mg f34.name = some (.ref f) ∧ (Binds K fd ps [] ∧ ∀ ks perm, (34, ks, perm) ∈ W → KwOk K fd ps ks perm) := by
  obtain ⟨fd, Fd⟩ := c.def_ 34 (d := d34) rfl
  refine ⟨n34, ps34, _, _, _, _, _, fd, ok34, Fd, He.glo_ok X Gn (c.fact 34 (f := .glo "_law_more_right") rfl), FunD.bindsN (ps := ps34) Fd fun _ _ _ _ _ _ us hl => match us, hl with | [], _ => rfl, fun ks perm m => ?_⟩
  simp [W] at m
theorem t35 (X : K.In h) (Gn : h.Ns mainGlobals mg) (c : He.SaysD fa fn K) : ∃ N ps qual params body scope f fd, DefOk T G W f35 N ps scope body ∧ FunD K f35.name qual params body scope [] [] f fd ∧ mg f35.name = some (.ref f) ∧ (Binds K fd ps [] ∧ ∀ ks perm, (35, ks, perm) ∈ W → KwOk K fd ps ks perm) := by
  obtain ⟨fd, Fd⟩ := c.def_ 35 (d := d35) rfl
  refine ⟨n35, ps35, _, _, _, _, _, fd, ok35, Fd, He.glo_ok X Gn (c.fact 35 (f := .glo "_law_right") rfl), FunD.bindsN (ps := ps35) Fd fun _ _ _ _ _ _ us hl => match us, hl with | [_], _ => rfl, fun ks perm m => ?_⟩
  simp [W] at m
theorem t36 (X : K.In h) (Gn : h.Ns mainGlobals mg) (c : He.SaysD fa fn K) : ∃ N ps qual params body scope f fd, DefOk T G W f36 N ps scope body ∧ FunD K f36.name qual params body scope [] [] f fd ∧ mg f36.name = some (.ref f) ∧ (Binds K fd ps [] ∧ ∀ ks perm, (36, ks, perm) ∈ W → KwOk K fd ps ks perm) := by
  obtain ⟨fd, Fd⟩ := c.def_ 36 (d := d36) rfl
  refine ⟨n36, ps36, _, _, _, _, _, fd, ok36, Fd, He.glo_ok X Gn (c.fact 36 (f := .glo "law") rfl), FunD.bindsN (ps := ps36) Fd fun _ _ _ _ _ _ us hl => match us, hl with | [_], _ => rfl, fun ks perm m => ?_⟩
  simp [W] at m
theorem tabled (X : K.In h) (Gn : h.Ns mainGlobals mg) (c : He.SaysD fa fn K) : Tabled K mg T G W := fun i fn e => match i, e with
  | 0, e => by cases e; exact t0 X Gn c
  | 1, e => by cases e; exact t1 X Gn c
  | 2, e => by cases e; exact t2 X Gn c
  | 3, e => by cases e; exact t3 X Gn c
  | 4, e => by cases e; exact t4 X Gn c
  | 5, e => by cases e; exact t5 X Gn c
  | 6, e => by cases e; exact t6 X Gn c
  | 7, e => by cases e; exact t7 X Gn c
  | 8, e => by cases e; exact t8 X Gn c
  | 9, e => by cases e; exact t9 X Gn c
  | 10, e => by cases e; exact t10 X Gn c
  | 11, e => by cases e; exact t11 X Gn c
  | 12, e => by cases e; exact t12 X Gn c
  | 13, e => by cases e; exact t13 X Gn c
  | 14, e => by cases e; exact t14 X Gn c
  | 15, e => by cases e; exact t15 X Gn c
  | 16, e => by cases e; exact t16 X Gn c
  | 17, e => by cases e; exact t17 X Gn c
  | 18, e => by cases e; exact t18 X Gn c
  | 19, e => by cases e; exact t19 X Gn c
  | 20, e => by cases e; exact t20 X Gn c
  | 21, e => by cases e; exact t21 X Gn c
  | 22, e => by cases e; exact t22 X Gn c
  | 23, e => by cases e; exact t23 X Gn c
  | 24, e => by cases e; exact t24 X Gn c
  | 25, e => by cases e; exact t25 X Gn c
  | 26, e => by cases e; exact t26 X Gn c
  | 27, e => by cases e; exact t27 X Gn c
  | 28, e => by cases e; exact t28 X Gn c
  | 29, e => by cases e; exact t29 X Gn c
  | 30, e => by cases e; exact t30 X Gn c
  | 31, e => by cases e; exact t31 X Gn c
  | 32, e => by cases e; exact t32 X Gn c
  | 33, e => by cases e; exact t33 X Gn c
  | 34, e => by cases e; exact t34 X Gn c
  | 35, e => by cases e; exact t35 X Gn c
  | 36, e => by cases e; exact t36 X Gn c
  | i + 37, e => by cases e
theorem gfacts (X : K.In h) (Gn : h.Ns mainGlobals mg) (c : He.SaysD fa fn K) : ∀ x d, (x, d) ∈ G → ∃ u v, mg x = some u ∧ RelV v u ∧ ∀ M H, Dat K M H v d := by
  intro x d m
  simp only [G, List.mem_cons, List.not_mem_nil, or_false, Prod.mk.injEq] at m
  rcases m with ⟨rfl, rfl⟩ | ⟨rfl, rfl⟩ | ⟨rfl, rfl⟩ | ⟨rfl, rfl⟩ | ⟨rfl, rfl⟩
  · obtain ⟨t, e⟩ := He.int_ok X Gn (c.fact 37 (f := .int "PAIR" (2)) rfl)
    exact ⟨_, .int (2), e, ⟨t, rfl⟩, fun M H => .int _⟩
  · obtain ⟨t, e⟩ := He.int_ok X Gn (c.fact 38 (f := .int "TRIPLE" (3)) rfl)
    exact ⟨_, .int (3), e, ⟨t, rfl⟩, fun M H => .int _⟩
  · obtain ⟨t, e⟩ := He.str_ok X Gn (c.fact 39 (f := .str "FOLD" "fold") rfl)
    exact ⟨_, .str "fold", e, ⟨t, rfl⟩, fun M H => .str _⟩
  · obtain ⟨t, e⟩ := He.str_ok X Gn (c.fact 40 (f := .str "HOME" "home") rfl)
    exact ⟨_, .str "home", e, ⟨t, rfl⟩, fun M H => .str _⟩
  · obtain ⟨t, e⟩ := He.str_ok X Gn (c.fact 41 (f := .str "JOIN" "join") rfl)
    exact ⟨_, .str "join", e, ⟨t, rfl⟩, fun M H => .str _⟩
theorem frees (X : K.In h) (Gn : h.Ns mainGlobals mg) (c : He.SaysD fa fn K) : ∀ x, x ∈ biNames → mg x = none := by
  intro x m
  simp only [biNames, List.mem_cons, List.not_mem_nil, or_false] at m
  rcases m with rfl | rfl | rfl | rfl | rfl | rfl | rfl | rfl | rfl | rfl | rfl | rfl | rfl | rfl | rfl | rfl
  · exact He.free_ok X Gn (c.fact 42 (f := .free "len") rfl)
  · exact He.free_ok X Gn (c.fact 43 (f := .free "abs") rfl)
  · exact He.free_ok X Gn (c.fact 44 (f := .free "int") rfl)
  · exact He.free_ok X Gn (c.fact 45 (f := .free "list") rfl)
  · exact He.free_ok X Gn (c.fact 46 (f := .free "tuple") rfl)
  · exact He.free_ok X Gn (c.fact 47 (f := .free "sorted") rfl)
  · exact He.free_ok X Gn (c.fact 48 (f := .free "set") rfl)
  · exact He.free_ok X Gn (c.fact 49 (f := .free "all") rfl)
  · exact He.free_ok X Gn (c.fact 50 (f := .free "any") rfl)
  · exact He.free_ok X Gn (c.fact 51 (f := .free "sum") rfl)
  · exact He.free_ok X Gn (c.fact 52 (f := .free "bool") rfl)
  · exact He.free_ok X Gn (c.fact 53 (f := .free "str") rfl)
  · exact He.free_ok X Gn (c.fact 54 (f := .free "isinstance") rfl)
  · exact He.free_ok X Gn (c.fact 55 (f := .free "range") rfl)
  · exact He.free_ok X Gn (c.fact 56 (f := .free "enumerate") rfl)
  · exact He.free_ok X Gn (c.fact 57 (f := .free "zip") rfl)
theorem facts {P : Program} {w : World} {f : Addr} (X : K.In h) (Gn : h.Ns mainGlobals mg) (hfa : mg ("law" : Str) = some (.ref f)) (c : He.SaysD fa fn K) :
    ∃ fd : FuncData, (∀ (s : Shared) (v : Value), BindsTo s fd ⟨[v], []⟩ [("_law_script", v)]) ∧ ∀ base : Heap, K.In base → base.Ns mainGlobals mg → FnOk P w K mg base (L2.CX P w) 60 f fd ["_law_script"] (spOf (fun _ _ _ _ _ => False) K f36 (callN F 60 36)) := by
  obtain ⟨a, fd', ps', g1, g2, g3, g4⟩ := calls_all (P := P) (w := w) (base := h) (R := fun _ _ _ _ _ => False) (tabled X Gn c) (frees X Gn c) (gfacts X Gn c) 60 36 f36 rfl
  obtain ⟨fd, Fd⟩ := c.def_ 36 (d := d36) rfl
  have e := hfa.symm.trans (He.glo_ok X Gn (c.fact 36 (f := .glo "law") rfl))
  cases e
  have b := FunD.bindsA (ps := ["_law_script"]) Fd fun _ _ _ _ _ _ us hl => match us, hl with | [_], _ => rfl
  refine ⟨fd, fun s v => b s [v] rfl, fun base hb hg => ?_⟩
  have st := fn_step (P := P) (w := w) (base := base) (k := 59) (R := fun _ _ _ _ _ => False) ok36 Fd (frees X Gn c) (gfacts X Gn c) (calls_all (tabled X Gn c) (frees X Gn c) (gfacts X Gn c) 59)
  exact st
end
theorem spC {K : PySem.W.Frag} {call : List D → FRes} {H : Hp} {a : Addr} {ns : List Int} (hK : noL K = true) (hS : SqL K H a (ns.map V.int))
    (h : Yes (call [.list (ns.map .int)])) : spOf (fun _ _ _ _ _ => False) K f36 call [.ref a] H (fun v _ => v = .bl true) fun _ _ _ => False := by
  cases h with
  | mk h => exact sp_law rfl rfl hK hS h
theorem spL {K : PySem.W.Frag} {H : Hp} {a : Addr} {ns : List Int} (hK : noL K = true) (hS : SqL K H a (ns.map V.int))
    (h : Yes (callN F 60 36 [.list (ns.map .int)])) : spOf (fun _ _ _ _ _ => False) K f36 (callN F 60 36) [.ref a] H (fun v _ => v = .bl true) fun _ _ _ => False := by
  generalize callN F 60 36 = call at h ⊢
  exact spC hK hS h
end K21
open PySem PySem.W PySem.Calls PyProof.Rows
theorem k21_holds_of (hmath : ∀ ns : List Int, ns.length ≤ 63 → EV.Yes (EV.callN K21.F 60 36 [.list (ns.map .int)])) : PySem.Challenge.rw_rowsathome_k21_plans_or_none.Holds := by
  w_on; o_law
  refine HandSHeadRun.head_any (r := OpenLaw.row PySem.Challenge.rw_rowsathome_k21_plans_or_none) (q := view (OpenLaw.row PySem.Challenge.rw_rowsathome_k21_plans_or_none).prog [45]) (H := K21.hk) (ob := K21.ob) (M := 4000) (loose := K21.loose) (d := HandSHeadRun.topDef (OpenLaw.row PySem.Challenge.rw_rowsathome_k21_plans_or_none).prog 45) (kwd := []) EV.obL_eq
    (by kernel_rfl) (fun s => by kernel_rfl) K21.run (by kernel_rfl) (by kernel_rfl) (by kernel_rfl) (by rfl) (by first | assumption | decide +kernel) (by decide +kernel) ⟨rfl, rfl, rfl, rfl, rfl, by decide +kernel⟩ ?hw ?hc
  case hw => w_witness2
  case hc =>
    refine EV.walk_law (l := PySem.Challenge.rw_rowsathome_k21_plans_or_none) (n := 63) (k := 60) (x := "_law_script") rfl (by decide) (by kernel_rfl) ⟨rfl, by decide, by decide⟩ ?F
    intro w mg fa h Y G hmg0
    obtain ⟨K, KX, c, hn⟩ := Y
    have hmg : mg ("law" : PySem.Str) = some (.ref fa) := by
      have e : (HandSHeadRun.topDef (OpenLaw.row PySem.Challenge.rw_rowsathome_k21_plans_or_none).prog 45).name = ("law" : PySem.Str) := by kernel_rfl
      rw [← e]
      exact hmg0
    obtain ⟨fd, hb, hF⟩ := K21.facts (P := (PySem.Challenge.rw_rowsathome_k21_plans_or_none).prog) (w := w) KX G hmg c
    exact ⟨K, fd, EV.spOf (fun _ _ _ _ _ => False) K K21.f36 (EV.callN K21.F 60 36), KX, hb, fun H a ns hl hS => K21.spL hn hS (hmath ns hl), hF⟩

end
theorem PySem.Challenge.cw_rowsathome_k21_plans_or_none_holds : PySem.Challenge.rw_rowsathome_k21_plans_or_none.Holds :=
  k21_holds_of K21.law_yes
