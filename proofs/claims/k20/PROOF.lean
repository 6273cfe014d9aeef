import PyProof.Rows.All
import Wide.All
import OpenK.AllK
import Wide.FinOn
import KE.SortData
import KE.LtSeq
import HandS.ForMost
import HandS.Strs
import HandS.SetFor
import HandS.TupSets
import PyProof.EqAt
import PyProof.EqKinds
import PyProof.TupleCall
import HandS.Base
import HandS.Call
import HandS.List
import HandS.Dict
import HandS.Iter
import HandS.More
import HandS.Set
import KE.GoesMore
import HandS.DictTup
import PyProof.DictMoreH
import HandS.TupAny
import HandS.TupMul
import HandS.Zip
import HandS.IsInst
import HandS.Star
import HandS.Deep
import HandS.Flow
import HandS.Conv
import HandS.Defaults
import HandS.Wide
import PySem.Challenge.RW_eightlots_k20_whole_how_fours_meet
import HandS.Style
import HandS.Text
import HandS.NoneIn
import KE.KStateDown
import HandS.Ends
import HandS.Words
import HandS.WordsExc
import HandS.Head0
import HandS.Head1
import HandS.Head2
import HandS.HeadEnd
import HandS.HeadHook1
import HandS.HeadHook2
set_option Elab.async false
set_option linter.all false
set_option autoImplicit false
set_option maxRecDepth 100000
set_option maxHeartbeats 2000000
/-! rules of our own: sorted of data -/
namespace Fz
open PySem PySem.Calls PySem.W PySem.SeqAt PyProof.Rows L2

section
variable {prog : Program} {w : World} {A : Around} {E : Value → Shared → Prop} {s : Shared}
theorem gather_tup {l : Addr} {vs : List Value} {Q : List Value → Shared → Prop} (hl : s.heap.IsTuple l vs.toArray)
    (h : Q vs { s with heap := (s.heap.push (seqObj "list" #[] 0)).update s.heap.objs.size (Obj.mapSeq (· ++ vs.toArray)) }) (hsz : vs.length ≤ sizeLine) :
    wpAny (model prog w) A (collect (.ref l)) Q E s := by
  obtain ⟨o, ho, hc, n, hd⟩ := id hl
  unfold collect
  refine wpAny_bind (wpAny_runValue (codeAny_builtin entry_proto_collect' ?_))
  show wpAny _ _ (do again (.builtin "list.__iadd__" ⟨[← newList [], .ref l], []⟩)) _ _ s
  refine wpAny_bind (wpAny_newList (wpAny_pure ⟨Code.quiet_builtin _ (by decide +kernel), codeAny_builtin entry_list_iadd' ?_⟩))
  show wpAny _ _ (Builtin.List.listExtendWith (.ref s.heap.objs.size) (.ref l) (.ref s.heap.objs.size)) _ _ { s with heap := s.heap.push (seqObj "list" #[] 0) }
  unfold Builtin.List.listExtendWith
  have ho' : (s.heap.push (seqObj "list" #[] 0)).get? l = some o := Heap.get?_push_of_some _ ho
  refine wpAny_bind (wpAny_typeOf (T := "tuple") ⟨o, ho', hc⟩ ?_)
  rw [if_pos (by rw [show (Value.type "tuple" == Value.type "tuple") = true by rfl]; simp)]
  refine wpAny_bind (listItems_at ho' hd ?_)
  refine wpAny_bind (listItems_at (xs := #[]) (n := 0) (Heap.get?_push_size _ rfl) rfl ?_)
  rw [if_neg (by simp)]
  refine wpAny_bind (listUpdate_at (xs := #[]) (n := 0) (Heap.get?_push_size _ rfl) rfl ?_ (Nat.zero_le _) (by show (#[] ++ vs.toArray).size ≤ sizeLine + 1; simp only [Array.size_append, List.size_toArray, List.length_nil]; omega))
  refine wpAny_pure ?_
  show wpAny (model prog w) A (do
      let o ← load s.heap.objs.size
      match o.data with
      | .seq xs _ => pure xs.toList
      | _ => unsupported "internal:collect") Q E { s with heap := (s.heap.push (seqObj "list" #[] 0)).update s.heap.objs.size (Obj.mapSeq (· ++ vs.toArray)) }
  refine wpAny_bind (wpAny_load (get?_update_seq (Heap.get?_push_size _ rfl) _) ?_)
  show wpAny _ _ (pure ((#[] : Array Value) ++ vs.toArray).toList) Q E _
  rw [show ((#[] : Array Value) ++ vs.toArray).toList = vs by simp]
  exact wpAny_pure h

theorem sorted_tup_vals {l : Addr} {vs : List Value} {κ : PyProof.Rows.KeyKind} {Q : Value → Shared → Prop} (hl : s.heap.IsTuple l vs.toArray)
    (S : SortsAt prog w A.in1.in1 { s with heap := sortingHeap (copyHeap s.heap vs) (s.heap.objs.size + 1) vs } κ vs) (hL : vs.length ≤ sizeLine)
    (h : Q (.ref (s.heap.objs.size + 1)) { s with heap := sortedAll s.heap vs (sortVals κ false vs vs).toArray }) : wpAny (model prog w) A (call (.builtin "sorted") [.ref l]) Q E s := by
  refine Calls.call_function_entry kind_sorted plain_sorted entry_sorted (args_sorted1 _) ?_
  unfold Builtin.«sorted»
  refine wpAny_bind (m := checkCount "sorted" 1 1 _) (wpAny_pure ?_)
  refine wpAny_bind (gather_tup hl ?_ hL)
  refine wpAny_bind (wpAny_newList ?_ hL)
  have hsz : ((s.heap.push (seqObj "list" #[] 0)).update s.heap.objs.size (Obj.mapSeq (· ++ vs.toArray))).objs.size = s.heap.objs.size + 1 := by
    rw [Heap.size_update, size_push']
  show wpAny _ _ _ _ _ { s with heap := copyHeap s.heap vs }
  rw [hsz]
  refine wpAny_bind (wpAny_holding (wpAny_call_entry slot_list_sort ⟨_, copyHeap_at s.heap vs, rfl⟩ entry_list_sort ?body (args_list_sort _)))
  case body =>
    exact list_sort_vals (s := { s with heap := copyHeap s.heap vs }) (copyHeap_at s.heap vs) S hL ⟨_, rfl, wpAny_pure ⟨_, rfl, h⟩⟩

/-! tuples of which the first is () -/
theorem call_tup_lt {Q : Value → Shared → Prop} {l b : Addr} {items items2 : Array Value} {e r : Nat → Bool} (hl : s.heap.IsTuple l items) (hb : s.heap.IsTuple b items2)
    (he : ∀ j (h1 : j < items.size) (h2 : j < items2.size), SeqAt.EqAt A.in1 s items[j] items2[j] (e j)) (hr : ∀ j (h1 : j < items.size) (h2 : j < items2.size), e j = false → RcLt A.in1 s items[j] items2[j] (r j))
    (h : Q (.bool (firstLt e r (decide (items.size < items2.size)) (List.range (min items.size items2.size)))) s) : wpAny (model prog w) A (call (.builtin "tuple.__lt__") [.ref l, .ref b]) Q E s := by
  obtain ⟨⟨cls, dd, data, sl⟩, ho, hc, n, hd⟩ := id hl
  obtain ⟨⟨cls2, dd2, data2, sl2⟩, ho2, hc2, n2, hd2⟩ := id hb
  simp only at hc hd hc2 hd2
  subst hc hd hc2 hd2
  exact call_meets F.slot_tuple_lt ⟨_, ho, rfl⟩ F.entry_tuple_lt (F.args_tuple_lt_2 _ _) (tuple_ltAt l b items items2 n n2 dd dd2 sl sl2 e r) ⟨ho, ho2, he, hr, h⟩

/-- the first items of tuples -/
def Firsts (h : Heap) : List Value → List (Option Value) → Prop
  | [], [] => True
  | v :: vs, f :: fs => (∃ a o xs n, v = .ref a ∧ h.get? a = some o ∧ o.cls = .type "tuple" ∧ o.data = .seq xs n ∧ xs[0]? = f) ∧ Firsts h vs fs
  | _, _ => False
theorem firsts_run {M : Model} : ∀ (vs : List Value) (fs : List (Option Value)) {Q : List (Option Value) → Shared → Prop}, Firsts s.heap vs fs → Q fs s → wpAny M A (vs.mapM firstOfTuple') Q E s
  | [], [], _, _, h => by rw [List.mapM_nil]; exact wpAny_pure h
  | [], _ :: _, _, t, _ => t.elim
  | _ :: _, [], _, t, _ => t.elim
  | v :: vs, f :: fs, Q, t, h => by
    obtain ⟨⟨a, o, xs, n, rfl, ho, hc, hd, hf⟩, t⟩ := t
    rw [List.mapM_cons, kas_first_eq]
    refine wpAny_bind (wpAny_bind (Looks.here (show Looks M s.heap (typeOf (.ref a)) o.cls from (Looks.ld ho).andThen .now) ?_))
    rw [hc, if_neg (by first | decide | simp)]
    refine wpAny_bind (listItems_at ho hd (wpAny_pure ?_))
    rw [hf]
    exact wpAny_bind (firsts_run vs fs (Q := fun bs s' => wpAny M A (pure (f :: bs)) Q E s') t (wpAny_pure h))
theorem firsts_of {h : Heap} : ∀ {vs : List Value} {ds : List PyData}, EachIs (fun v d => ∃ as, Reads h v d as) vs ds → (∀ d, d ∈ ds → ∃ xs, d = .tuple xs) → ∃ fs, Firsts h vs fs ∧ fs.length = vs.length ∧ (ds[0]? = some (.tuple []) → fs[0]? = some none)
  | _, _, .nil, _ => ⟨[], trivial, rfl, fun q => by simp at q⟩
  | _, _, .cons (b := d) ⟨as, r⟩ t, ht => by
    obtain ⟨fs, h1, h2, _⟩ := firsts_of t fun d hd => ht d (List.mem_cons_of_mem _ hd)
    obtain ⟨xs, rfl⟩ := ht d (List.mem_cons_self ..)
    cases r with
    | @tuple a o ys n _ _ ho hc hd hr =>
      refine ⟨ys[0]? :: fs, ⟨⟨a, o, ys, n, rfl, ho, hc, hd, rfl⟩, h1⟩, by rw [List.length_cons, List.length_cons, h2], fun q => ?_⟩
      have q2 : PyData.tuple xs = PyData.tuple [] := Option.some.inj q
      injection q2 with q2
      subst q2
      have hz : ys.toList = [] := by
        cases hy : ys.toList with
        | nil => rfl
        | cons y r =>
          rw [hy] at hr
          cases hr
      have hz2 : ys = #[] := by
        cases ys
        exact congrArg Array.mk hz
      rw [hz2]
      rfl
theorem sorts_nil {vs : List Value} {ds : List PyData} (e : EachIs (fun v d => ∃ as, Reads s.heap v d as) vs ds) (hal : AllAlike ds) (ht : ∀ d, d ∈ ds → ∃ xs, d = .tuple xs) (h0 : ds[0]? = some (.tuple []))
    (hu : ∀ d, d ∈ ds → A.units + d.depth < cLine) : SortsAt prog w A s (dataKind s.heap ds) vs := by
  have room : ∀ {d d' : PyData}, d ∈ ds → A.units + min d.depth d'.depth < cLine := fun {d d'} hd => Nat.lt_of_le_of_lt (Nat.add_le_add_left (Nat.min_le_left _ _) _) (hu d hd)
  refine ⟨fun v hv => ?_, oneType', ?_, fun h2 E Q hq => ?_⟩
  · obtain ⟨d, hd, as, r⟩ := e.left v hv
    exact ⟨_, dataKind_some hal hd r⟩
  · intro E x y a b Q ha hb hq
    obtain ⟨d, as, hd, ra, rfl⟩ := dataKind_inv ha
    obtain ⟨d', as', hd', rb, rfl⟩ := dataKind_inv hb
    have h := hal d hd d' hd'
    have hr := room (d' := d') hd
    obtain ⟨xs, rfl⟩ := ht d hd
    obtain ⟨ys, rfl⟩ := ht d' hd'
    have hal2 : alikeAll xs ys = true := by simpa [alike] using h
    have hq' : Q (dataLt (.tuple xs) (.tuple ys)) s := hq
    rw [keyLt'_oneType]
    cases ra with
    | @tuple l o vs n _ as₁ h1 h2 h3 h4 =>
      cases rb with
      | @tuple l' o' vs' n' _ bs₁ k1 k2 k3 k4 =>
        have n1 : vs.size = xs.length := by simpa using ReadsAll.length _ _ _ h4
        have n2 : vs'.size = ys.length := by simpa using ReadsAll.length _ _ _ k4
        rw [dataLt_tuple, ← firstLt_toks xs ys hal2, ← n1, ← n2] at hq'
        rw [oneLt'_eq]
        simp only [if_true]
        refine wpAny_bind (wpAny_cRoomFor (room_here hr) ?_)
        refine wpAny_bind (wpAny_callSpecialIfBound?_slot (T := "tuple") ⟨_, h1, h2⟩ F.slot_tuple_lt (call_tup_lt (e := pairEq xs ys) (r := fun j => dataLt (xs.getD j .none) (ys.getD j .none)) ⟨_, h1, h2, _, h3⟩ ⟨_, k1, k2, _, k3⟩ (fun j j1 j2 => ?_) (fun j j1 j2 hj => ?_) ?_))
        · have := eqAt_alikeAll xs ys A.in1 s vs.toList vs'.toList _ _ h4 k4 hal2 (room_in hr) j (by simpa using j1) (by simpa using j2)
          simpa using this
        · have := rcLt_alikeAll xs ys A.in1 s vs.toList vs'.toList _ _ h4 k4 hal2 (room_in hr) j (by simpa using j1) (by simpa using j2) hj
          simpa using this
        · exact wpAny_truthy_bool hq'
  · obtain ⟨fs, f1, f2, f3⟩ := firsts_of e ht
    obtain ⟨fr, rfl⟩ : ∃ fr, fs = none :: fr := by
      have q := f3 h0
      cases fs with
      | nil => simp at q
      | cons f fr =>
        have q2 : f = none := Option.some.inj q
        exact ⟨fr, by rw [q2]⟩
    rw [kat_kind_eq, List.mapM_toArray, map_eq_pure_bind]
    refine wpAny_bind (wpAny_bind (firsts_run vs _ f1 (wpAny_pure ?_)))
    rw [if_neg (by simp), if_neg (by simp), oneTypeOnly'_eq, List.mapM_toArray, map_eq_pure_bind]
    refine wpAny_bind (wpAny_bind (wpAny_bind (kas_mapM (r := Value.type "tuple") _ (fun v hv Q' hq => ?_) (wpAny_pure ?_))))
    · obtain ⟨d, hd, as, r⟩ := e.left v hv
      obtain ⟨xs, rfl⟩ := ht d hd
      exact (looks_reads r).here hq
    · have hall : ((List.map (fun _ => Value.type "tuple") vs).toArray.all fun x => x == Value.type "tuple") = true := by
        simp only [List.all_toArray, List.all_map, List.all_eq_true]
        intro _ _
        rfl
      have h0 : (List.map (fun _ => Value.type "tuple") vs).toArray[0]? = some (Value.type "tuple") := by
        cases vs with
        | nil => simp at h2
        | cons v r => simp
      rw [h0]
      simp only [hall, if_true]
      exact wpAny_pure (wpAny_pure hq)
end
end Fz

set_option Elab.async false
set_option linter.all false
set_option autoImplicit false
set_option maxRecDepth 100000
set_option maxHeartbeats 2000000
/-! rules of our own: sorted of data, by values -/
namespace Fz
open PySem PySem.Calls PySem.W PySem.SeqAt PyProof.Rows L2

section
variable {X : Cx} {pins : List (Addr × Obj)} {σ : L2.St} {H : Hp} {s : Shared}
/-- a value that stands for a datum -/
def Stands (F : V → PyData → Prop) (u : Value) (d : PyData) : Prop := ∃ x, RelV x u ∧ F x d
variable {F : V → PyData → Prop}
theorem stands_of : ∀ {xs : List V} {us : List Value} {ds : List PyData}, Vals xs us → Paired F xs ds → EachIs (Stands F) us ds
  | _, _, _, .nil, .nil => .nil
  | _, _, _, .cons r t, .cons d e => .cons ⟨_, r, d⟩ (stands_of t e)
theorem stands_back : ∀ {us : List Value} {ds : List PyData}, EachIs (Stands F) us ds → ∃ xs, Vals xs us ∧ Paired F xs ds
  | _, _, .nil => ⟨[], .nil, .nil⟩
  | _, _, .cons ⟨x, r, d⟩ t => by
    obtain ⟨xs, h1, h2⟩ := stands_back t
    exact ⟨x :: xs, .cons r h1, .cons d h2⟩
theorem stands_reads (I : Inv X pins σ H s) (hF : ∀ x d, F x d → Dp X.K H x d) {us : List Value} {ds : List PyData} (e : EachIs (Stands F) us ds) : EachIs (fun u d => ∃ as, Reads s.heap u d as) us ds :=
  e.mono fun _ _ ⟨x, r, d⟩ => Dp.reads I _ x _ (hF _ _ d) r

/-- sortable: as the kit has it, or tuples of which the first is () -/
def CanSort (ds : List PyData) : Prop := Sortable ds ∨ ((∀ d, d ∈ ds → ∃ xs, d = .tuple xs) ∧ ds[0]? = some (.tuple []))
theorem sortsAt2 {prog : Program} {w : World} {A : Around} {vs : List Value} {ds : List PyData} (e : EachIs (fun v d => ∃ as, Reads s.heap v d as) vs ds) (hal : AllAlike ds) (hk : CanSort ds) (hu : ∀ d, d ∈ ds → A.units + d.depth < cLine) : SortsAt prog w A s (dataKind s.heap ds) vs := by
  rcases hk with h | ⟨h1, h2⟩
  · exact SortsAt.data e hal h hu
  · exact sorts_nil e hal h1 h2 hu
def srt (ds : List PyData) : List PyData := ds.mergeSort (dataLe false id)
theorem map_id2 (ds : List PyData) : ds.map (id : PyData → PyData) = ds := List.map_id ds
/-- what sorting leaves, said of data -/
theorem sort_out2 {h : Heap} {vs : List Value} {ds : List PyData} (e : EachIs (Stands F) vs ds) (er : EachIs (fun v d => ∃ as, Reads h v d as) vs ds) (hal : AllAlike ds) :
    EachIs (Stands F) (sortVals (dataKind h ds) false vs vs) (srt ds) := by
  have q := sortVals_data (h' := h) (R := Stands F) (enc := (id : PyData → PyData)) (vs := vs) (bs := ds) false e er (by rw [map_id2]; exact hal)
  rw [map_id2] at q
  exact q
def rSortD (K : PySem.W.Frag) : List V → Hp → VK → Prop := fun vs H Q => ∃ (a : Addr) (xs : List V) (ds : List PyData) (F : V → PyData → Prop), vs = [.ref a] ∧ (SqL K H a xs ∨ SqT K H a xs) ∧ Paired F xs ds ∧ (∀ x d, F x d → Dp K H x d) ∧ AllAlike ds ∧ CanSort ds ∧ (∀ d ∈ ds, d.depth ≤ 8) ∧
  ∀ (ys : List V) (p : Addr), H p = none → Paired F ys (srt ds) → Q (.ref p) (upd H p (.lst ys))
theorem srt_length (ds : List PyData) : (srt ds).length = ds.length := List.length_mergeSort ds
theorem cr_sortD (hu : X.A.units + 64 < cLine) : CallR X (.builtin "sorted") (rSortD X.K) := by
  intro pins s σ H vs us Q I r h
  obtain ⟨a, xs, ds, F, rfl, hd, ha, hF, hal, hk, hz, q⟩ := h
  rw [Vals.ref1 r]
  have keep : ∀ (vs : List Value) b o, s.heap.get? b = some o → (sortingHeap (copyHeap s.heap vs) (s.heap.objs.size + 1) vs).get? b = some o := fun _ _ _ => sorting_copy_old
  have fin : ∀ (its : List Value), EachIs (Stands F) its ds → its.length ≤ sizeLine → EP X pins σ Q (.ref (s.heap.objs.size + 1)) { s with heap := sortedAll s.heap its (sortVals (dataKind (sortingHeap (copyHeap s.heap its) (s.heap.objs.size + 1) its) ds) false its its).toArray } := by
    intro its e hl
    have er := stands_reads I hF e
    have er' : EachIs (fun v d => ∃ as, Reads (sortingHeap (copyHeap s.heap its) (s.heap.objs.size + 1) its) v d as) its ds := er.mono fun _ _ ⟨as, r⟩ => ⟨as, PyProof.Rows.Reads.keeps (keep its) r⟩
    have out := sort_out2 (h := sortingHeap (copyHeap s.heap its) (s.heap.objs.size + 1) its) e er' hal
    generalize sortVals (dataKind (sortingHeap (copyHeap s.heap its) (s.heap.objs.size + 1) its) ds) false its its = o at out
    obtain ⟨ys, h1, h2⟩ := stands_back out
    obtain ⟨ep, he'⟩ := PyProof.Rows.sortedAll_at s.heap its o.toArray
    have hlen : ys.length ≤ sizeLine := by
      rw [Vals.length h1, EachIs.length out, srt_length, ← EachIs.length e]
      exact hl
    exact ⟨.ref _, upd H (s.heap.objs.size + 1) (.lst ys), I.laid (t' := s.toks) (fun _ _ => PyProof.Rows.sortedAll_old) (Nat.le_succ _) ⟨hlen, o, ep, h1, he'⟩, rfl, q _ _ (I.hok.fresh (Nat.le_succ _)) h2⟩
  have room : ∀ d, d ∈ ds → X.A.in1.in1.units + d.depth < cLine := fun d hd => by
    have := hz d hd
    have e1 : X.A.in1.in1.units ≤ X.A.units + 2 := by
      show X.A.units + 1 + 1 ≤ X.A.units + 2
      omega
    omega
  rcases hd with hs | hs
  · obtain ⟨its, rv, pl, hl⟩ := I.list hs
    have e := stands_of rv ha
    have er' : EachIs (fun v d => ∃ as, Reads (sortingHeap (copyHeap s.heap its) (s.heap.objs.size + 1) its) v d as) its ds := (stands_reads I hF e).mono fun _ _ ⟨as, r⟩ => ⟨as, PyProof.Rows.Reads.keeps (keep its) r⟩
    have hl' : its.length ≤ sizeLine := by rw [← rv.length]; exact hl
    exact sorted_vals pl.isList (sortsAt2 (s := { s with heap := sortingHeap (copyHeap s.heap its) (s.heap.objs.size + 1) its }) er' hal hk room) hl' (fin its e hl')
  · obtain ⟨its, rv, pt, hl⟩ := I.tuple hs
    have e := stands_of rv ha
    have er' : EachIs (fun v d => ∃ as, Reads (sortingHeap (copyHeap s.heap its) (s.heap.objs.size + 1) its) v d as) its ds := (stands_reads I hF e).mono fun _ _ ⟨as, r⟩ => ⟨as, PyProof.Rows.Reads.keeps (keep its) r⟩
    have hl' : its.length ≤ sizeLine := by rw [← rv.length]; exact hl
    exact sorted_tup_vals (show s.heap.IsTuple a its.toArray from pt) (sortsAt2 (s := { s with heap := sortingHeap (copyHeap s.heap its) (s.heap.objs.size + 1) its }) er' hal hk room) hl' (fin its e hl')

/-! sorted(a set of tuples of ints) -/
def tI (k : List Int) : PyData := .tuple (k.map .int)
theorem dp_ints {K : PySem.W.Frag} : ∀ k : List Int, DpAll K H (k.map V.int) (k.map PyData.int)
  | [] => .nil
  | i :: r => .cons (.int i) (dp_ints r)
theorem dp_tI {K : PySem.W.Frag} {a : Addr} {k : List Int} (h : SqT K H a (k.map V.int)) : Dp K H (.ref a) (tI k) := .tup h (dp_ints k)
theorem alike_tI (k l : List Int) : alike (tI k) (tI l) = true := by
  simp only [tI, alike]
  exact alike_ints k l
theorem depth_tI (k : List Int) : (tI k).depth ≤ 8 := by
  simp only [tI, PyData.depth, depth_ints]
  decide
end
end Fz

set_option Elab.async false
set_option linter.all false
set_option autoImplicit false
set_option maxRecDepth 100000
set_option maxHeartbeats 2000000
/-! rules of our own: sorted(a set of tuples of ints), set(a list of ints) -/
namespace Fz
open PySem PySem.Calls PySem.W PySem.SeqAt PyProof.Rows L2

abbrev dT2 (q : Addr × List Int) : PyData := tI q.2
theorem le_dT2 (q r : Addr × List Int) : dataLe false dT2 q r = dataLe false (id : PyData → PyData) (dT2 q) (dT2 r) := rfl
section
variable {P : Program} {w : World} {A : Around} {E : Value → Shared → Prop} {s : Shared}
theorem reads_tup {h : Heap} {k : List Int} {b : Addr} (x : IsT P w h k b) : ∃ as, Reads h (.ref b) (tI k) as := by
  obtain ⟨o, items, n, ho, hc, hd, hi⟩ := x
  have hv : ∀ {k : List Int} {vs : List Value}, ItemsAre (intKind P w) k vs → ∃ as, ReadsAll h vs (k.map PyData.int) as := by
    intro k vs q
    induction q with
    | nil => exact ⟨[], .nil⟩
    | @cons k0 v ks vs h1 _ ih =>
      obtain ⟨t, rfl⟩ := Value.isInt_shape h1
      obtain ⟨as, ih⟩ := ih
      exact ⟨_, .cons (.int k0 t) ih⟩
  obtain ⟨as, q⟩ := hv hi
  exact ⟨_, .tuple ho hc hd q⟩
theorem sorted_setD {a : Addr} {L : List (Addr × List Int)} {es : Array (Int × Value)} {ep : Nat} {t : SetTable} {Q : Value → Shared → Prop} (R : SetTR P w s.heap a L es ep t) (hh : A.handled = none) (hu : A.units + 64 < cLine) (hne : ∀ p ∈ L, p.2 ≠ [])
    (hQ : ∀ s' p (out : Array Value) (c : Nat) (L' L1 : List (Addr × List Int)), (∀ b o, s.heap.get? b = some o → s'.heap.get? b = some o) → s'.gens = s.gens → s'.os = s.os → s.heap.objs.size ≤ p →
      s'.heap.get? p = some (seqObj "list" out c) → out.toList = L'.map (fun q => Value.ref q.1) → L'.Perm L → L1.Perm L → L'.map dT2 = srt (L1.map dT2) → Q (.ref p) s') :
    wpAny (model P w) A (call (.builtin "sorted") [.ref a]) Q E s := by
  obtain ⟨o, ho, hex, hd⟩ := R.ob
  have hsz := R.size
  have hfew := R.few
  refine Calls.call_function_entry kind_sorted plain_sorted entry_sorted (args_sorted1 _) ?_
  unfold Builtin.«sorted»
  refine wpAny_bind (m := checkCount "sorted" 1 1 _) (wpAny_pure ?_)
  refine wpAny_bind (collect_set (A := A.in1) hh ⟨o, ho, hex.1, hd⟩ R.fits (by unfold scanBound; omega) R.tab.ris R.led fun s1 vs k1 hz g1 o1 pm => ?_)
  have hes : es.toList.map (·.2) = L.map fun q => Value.ref q.1 := by
    rw [R.rows]
    unfold L2.rowsOf
    rw [List.map_map] <;> rfl
  rw [hes] at pm
  have one : ∀ q ∈ L, ∀ r ∈ L, q.1 = r.1 → q = r := fun q hq r hr e => by
    have a1 := R.tup q hq
    have a2 := R.tup r hr
    rw [e] at a1
    exact Prod.ext e (a1.inj a2)
  have ord : ∀ vs : List Value, (∀ v ∈ vs, ∃ q ∈ L, v = Value.ref q.1) → ∃ L1 : List (Addr × List Int), vs = L1.map (fun q => Value.ref q.1) ∧ ∀ q ∈ L1, q ∈ L := by
    intro vs
    induction vs with
    | nil => intro _; exact ⟨[], rfl, fun q hq => (by cases hq)⟩
    | cons v vs ih =>
      intro hv
      obtain ⟨q, hq, e⟩ := hv v List.mem_cons_self
      obtain ⟨L1, e1, hs⟩ := ih fun u hu => hv u (List.mem_cons_of_mem _ hu)
      refine ⟨q :: L1, by rw [List.map_cons, e, e1], fun r hr => ?_⟩
      rcases List.mem_cons.mp hr with z | z
      · rw [z]; exact hq
      · exact hs r z
  obtain ⟨L1, e1, s1L⟩ := ord vs fun v hv => by
    obtain ⟨q, hq, e⟩ := List.mem_map.mp (pm.mem_iff.mp hv)
    exact ⟨q, hq, e.symm⟩
  have pL : L1.Perm L := by
    have nL : L.Nodup := nodup_of_map R.nd
    have nref : (L.map fun q => Value.ref q.1).Nodup := by
      refine List.pairwise_map.mpr (List.Pairwise.imp_of_mem (fun {q r} hq hr hne e => ?_) nL)
      injection e with e
      exact hne (one q hq r hr e)
    have pm1 : (L1.map (fun q => Value.ref q.1)).Perm (L.map fun q => Value.ref q.1) := by rw [← e1]; exact pm
    have n1 : L1.Nodup := nodup_of_map (pm1.nodup_iff.mpr nref)
    refine (List.perm_ext_iff_of_nodup n1 nL).mpr fun q => ⟨s1L q, fun hq => ?_⟩
    obtain ⟨r, hr, e⟩ := List.mem_map.mp (pm1.mem_iff.mpr (List.mem_map.mpr ⟨q, hq, rfl⟩))
    injection e with e
    rw [← one r (s1L r hr) q hq e]
    exact hr
  have hvl : vs.length < 64 := by rw [pm.length_eq, List.length_map]; exact hfew
  have hL : vs.length ≤ sizeLine := by rw [sizeLine_eq]; omega
  refine wpAny_bind (wpAny_newList ?_ hL)
  have hoL : (s1.heap.push (seqObj "list" vs.toArray 0)).get? s1.heap.objs.size = some (seqObj "list" vs.toArray 0) := Heap.get?_push_size _ rfl
  have old : ∀ b u, s.heap.get? b = some u → (sortingHeap (s1.heap.push (seqObj "list" vs.toArray 0)) s1.heap.objs.size vs).get? b = some u := fun b u e => by
    have q := k1 b u e
    exact sortingHeap_old (Nat.ne_of_lt (Heap.lt_size q)) (Heap.get?_push_of_some _ q)
  have eR : EachIs (fun v q => v = Value.ref q.1 ∧ q ∈ L) vs L1 := by
    rw [e1]
    clear e1 pL
    induction L1 with
    | nil => exact .nil
    | cons q r ih => exact .cons ⟨rfl, s1L q List.mem_cons_self⟩ (ih fun z hz => s1L z (List.mem_cons_of_mem _ hz))
  have er : EachIs (fun v q => ∃ as, Reads (sortingHeap (s1.heap.push (seqObj "list" vs.toArray 0)) s1.heap.objs.size vs) v (dT2 q) as) vs L1 := eR.mono fun v q ⟨e, hq⟩ => by
    rw [e]
    exact reads_tup (isT_keep (R.tup q hq) old)
  have hal : AllAlike (L1.map dT2) := AllAlike.of fun b b' => alike_tI _ _
  have hk : Sortable (L1.map dT2) := .inl fun d hd => by
    obtain ⟨q, hq, rfl⟩ := List.mem_map.mp hd
    have z := hne q (s1L q hq)
    cases hq2 : q.2 with
    | nil => exact absurd hq2 z
    | cons i r => exact ⟨.int i, r.map .int, by show PyData.tuple (q.2.map .int) = _; rw [hq2]; rfl⟩
  have hub : ∀ d, d ∈ L1.map dT2 → A.in1.in1.units + d.depth < cLine := fun d hd => by
    obtain ⟨q, hq, rfl⟩ := List.mem_map.mp hd
    have := depth_tI q.2
    have e1 : A.in1.in1.units ≤ A.units + 2 := by
      show A.units + 1 + 1 ≤ A.units + 2
      omega
    show A.in1.in1.units + (tI q.2).depth < cLine
    omega
  have S : SortsAt P w A.in1.in1 { s1 with heap := sortingHeap (s1.heap.push (seqObj "list" vs.toArray 0)) s1.heap.objs.size vs } (dataKind (sortingHeap (s1.heap.push (seqObj "list" vs.toArray 0)) s1.heap.objs.size vs) (L1.map dT2)) vs :=
    SortsAt.data (s := { s1 with heap := sortingHeap (s1.heap.push (seqObj "list" vs.toArray 0)) s1.heap.objs.size vs }) (each_map (R := fun v d => ∃ as, Reads (sortingHeap (s1.heap.push (seqObj "list" vs.toArray 0)) s1.heap.objs.size vs) v d as) dT2 er) hal hk hub
  have eo : EachIs (fun v q => v = Value.ref q.1 ∧ q ∈ L) (sortVals (dataKind (sortingHeap (s1.heap.push (seqObj "list" vs.toArray 0)) s1.heap.objs.size vs) (L1.map dT2)) false vs vs) (L1.mergeSort (dataLe false dT2)) :=
    sortVals_data (h' := sortingHeap (s1.heap.push (seqObj "list" vs.toArray 0)) s1.heap.objs.size vs) false eR er hal
  refine wpAny_bind (wpAny_holding (wpAny_call_entry slot_list_sort ⟨_, hoL, rfl⟩ entry_list_sort ?body (args_list_sort _)))
  case body =>
    refine list_sort_vals (s := { s1 with heap := s1.heap.push (seqObj "list" vs.toArray 0) }) hoL S hL ⟨_, rfl, wpAny_pure ⟨_, rfl, ?_⟩⟩
    generalize sortVals (dataKind (sortingHeap (s1.heap.push (seqObj "list" vs.toArray 0)) s1.heap.objs.size vs) (L1.map dT2)) false vs vs = out at eo
    obtain ⟨c, hc⟩ := sortedHeap_at (vs := vs) (out := out.toArray) hoL
    refine hQ _ s1.heap.objs.size out.toArray c (L1.mergeSort (dataLe false dT2)) L1 (fun b u e => ?_) g1 o1 hz hc ?_ ((List.mergeSort_perm _ _).trans pL) pL ?_
    · have q := k1 b u e
      have hlt := Heap.lt_size q
      show (sortedHeap (s1.heap.push (seqObj "list" vs.toArray 0)) s1.heap.objs.size vs out.toArray).get? b = some u
      rw [sortedHeap_old (Nat.ne_of_lt hlt) (by rw [size_push']; exact Nat.lt_succ_of_lt hlt)]
      exact Heap.get?_push_of_some _ q
    · generalize L1.mergeSort (dataLe false dT2) = M at eo
      show out = _
      clear hc
      induction eo with
      | nil => rfl
      | cons h t ih => rw [List.map_cons, ← ih, h.1]
    · exact List.map_mergeSort fun a _ b _ => rfl
end

section
variable {X : Cx}
def rSortTS (K : PySem.W.Frag) (P : Program) (w : World) : List V → Hp → VK → Prop := fun vs H Q => ∃ (a : Addr) (L : List (Addr × List Int)), vs = [V.ref a] ∧ H a = some (SetTO P w a L) ∧ (∀ p ∈ L, SqT K H p.1 (p.2.map V.int)) ∧ (∀ p ∈ L, p.2 ≠ []) ∧
  ∀ (L1 : List (List Int)) (L' : List (Addr × List Int)) (p : Addr), L1.Nodup → (∀ k, k ∈ L1 ↔ k ∈ L.map (·.2)) → (∀ q ∈ L', q ∈ L) → L'.map dT2 = srt (L1.map tI) → H p = none → Q (.ref p) (upd H p (.lst (L'.map fun q => V.ref q.1)))
theorem dp_refs {K : PySem.W.Frag} {H : Hp} : ∀ L : List (Addr × List Int), (∀ p ∈ L, SqT K H p.1 (p.2.map V.int)) → DpAll K H (L.map fun q => V.ref q.1) (L.map dT2)
  | [], _ => .nil
  | q :: r, h => .cons (dp_tI (h q List.mem_cons_self)) (dp_refs r fun z hz => h z (List.mem_cons_of_mem _ hz))
theorem cr_sortTS (hc : X.calm = true) (hu : X.A.units + 64 < cLine) : CallR X (.builtin "sorted") (rSortTS X.K X.prog X.w) := by
  intro pins s σ H vs us Q I r h
  obtain ⟨a, L, rfl, ha, hk, hne, q⟩ := h
  have R0 : SetT0 X.prog X.w s.heap a L := (I.hok a _ ha).1
  obtain ⟨es, ep, t, R⟩ := R0.full fun p hp => I.isT (hk p hp)
  rw [Vals.ref1 r]
  refine sorted_setD R (I.ok.hd hc) hu hne fun s' p out c L' L1 k g o hp hg hout pm pm1 hs => ?_
  have hfew : L'.length < 64 := by rw [pm.length_eq]; exact R.few
  have hlen : (L'.map fun q => V.ref q.1).length ≤ sizeLine := by rw [List.length_map, sizeLine_eq]; omega
  have hn : H p = none := I.hok.fresh hp
  have hv : Vals (L'.map fun q => V.ref q.1) out.toList := by rw [hout]; exact vals_of_refs L'
  have J : Inv X pins σ (upd H p (.lst (L'.map fun q => V.ref q.1))) { s with heap := s'.heap, gens := s'.gens, drawn := s'.drawn, toks := s'.toks } :=
    I.call (ch := []) (Un.laid k hp hn) (I.hok.laid k hp ⟨hlen, out.toList, c, hv, hg⟩) (by rw [g]; exact I.bare) (fun _ z => nomatch z)
  have e : s' = { s with heap := s'.heap, gens := s'.gens, drawn := s'.drawn, toks := s'.toks } := by
    cases s'
    cases s
    cases o
    rfl
  rw [e]
  have em : L1.map dT2 = (L1.map (·.2)).map tI := by rw [List.map_map]; rfl
  rw [em] at hs
  exact ⟨.ref p, _, J, rfl, q (L1.map (·.2)) L' p ((pm1.map (·.2)).nodup_iff.mpr R.nd) (fun k => (pm1.map (·.2)).mem_iff) (fun z hz => pm.mem_iff.mp hz) hs hn⟩
end
end Fz

set_option Elab.async false
set_option linter.all false
set_option maxRecDepth 100000
set_option maxHeartbeats 4000000
namespace Fz
open PySem PySem.Spec PyProof.Rows L2
section
variable {P : Program} {w : World} {A : Around} {E : Value → Shared → Prop} {s : Shared}
theorem make_set_ints {l : Addr} {items : Array Value} (ns : List Int) {Q : Value → Shared → Prop} (hh : A.handled = none) (hl : s.heap.IsList l items) (hit : IntsAre items.toList ns) (hb : ns.length + 1 < scanBound)
    (h : ∀ (h' : Heap) (tk c : Nat), SetR w h' s.heap.objs.size (fun j => decide (j ∈ ns)) c → c ≤ ns.length → (∀ b o, s.heap.get? b = some o → h'.get? b = some o) → Q (.ref s.heap.objs.size) { s with heap := h', toks := tk }) :
    wpAny (model P w) A (call (.type "set") [.ref l]) Q E s := by
  have hisz : items.size = ns.length := by
    have q := IntsAre.length hit
    rw [Array.length_toList] at q
    exact q
  obtain ⟨c, tl, hMro⟩ := F.called_set.mro
  have hMade := F.called_set.made
  have hSub := F.called_set.sub
  refine wpAny_call (codeAny_of_tree ?_)
  show wpAny _ _ (callAny (.type "set") _) _ _ _
  refine wpAny_pure ⟨Code.quiet_builtin _ (by decide +kernel), codeAny_builtin F.entry_type_call ?_⟩
  rw [Around.under_plain (weight_type_call_type "set" [.ref l] []) rfl]
  have h1 := F.called_set.notType
  have h2 := F.called_set.canCreate
  have hct := F.typeCall_set_1 (.ref l)
  repeat (any_goals (first | assumption | wp_step))

  refine codeAny_mono (code_set_led1 (.ref l) (E := E) (Q₁ := fun obj s₁ => obj = .ref s.heap.objs.size ∧ s₁ = { s with heap := s.heap.push { cls := .type "set", dict := none, data := .set #[] 0 (.fresh 0 0 (!w.params.followText "set-order")) } }) ⟨rfl, rfl⟩) fun r s₁ hr => ?_
  cases r with
  | error e => exact hr
  | ok fl =>
    cases fl with
    | ret obj =>
      obtain ⟨rfl, rfl⟩ := hr
      have hS : (s.heap.push { cls := .type "set", dict := none, data := .set #[] 0 (.fresh 0 0 (!w.params.followText "set-order")) }).get? s.heap.objs.size = some { cls := .type "set", dict := none, data := .set #[] 0 (.fresh 0 0 (!w.params.followText "set-order")) } := Heap.get?_push_size _ rfl
      have hT : Shared.TypeIs { s with heap := s.heap.push { cls := .type "set", dict := none, data := .set #[] 0 (.fresh 0 0 (!w.params.followText "set-order")) } } (.ref s.heap.objs.size) "set" := ⟨_, hS, rfl⟩
      have hli := F.called_set.init.lookup
      have hbi := F.called_set.init.bind (.ref s.heap.objs.size)
      repeat (any_goals (first | assumption | wp_step))

      refine codeAny_mono (codeAny_call_builtin (R := wants (fun r s₂ => r = .none ∧ ∃ h' tk c, s₂ = { s with heap := h', toks := tk } ∧ SetR w h' s.heap.objs.size (fun j => decide (j ∈ ns)) c ∧ c ≤ ns.length ∧
          (∀ b o, s.heap.get? b = some o → h'.get? b = some o)) E) F.called_set.init.plain F.entry_set_init (check_set_init_1 hT ?_)) fun r₂ s₂ hr₂ => ?_
      · obtain ⟨ol, hol, hcl, nl, hdl⟩ := hl
        obtain ⟨ocls, odict, odata, oslots⟩ := ol
        simp only at hcl hdl
        subst hcl; subst hdl
        have hol' : (s.heap.push { cls := .type "set", dict := none, data := .set #[] 0 (.fresh 0 0 (!w.params.followText "set-order")) }).get? l = some { cls := .type "list", dict := odict, data := .seq items nl, slots := oslots } := Heap.get?_push_of_some _ hol
        have hsls := F.sub_list_set
        have hslf := F.sub_list_frozenset
        have hne : (Value.type "list" == Value.type "dict") = false := by decide
        have hL1 : (s.heap.push { cls := .type "set", dict := none, data := .set #[] 0 (.fresh 0 0 (!w.params.followText "set-order")) }).IsList l items := ⟨_, hol', rfl, nl, rfl⟩
        unfold Builtin.«set.__init__» noKeywords Builtin.Frozenset.updateFrom
        generalize hPI : pyIter = PI
        wp_walk
        subst hPI

        refine wpAny_pyIter_list hL1 ?_
        refine wpAny_bind (wpAny_runValue ?_)
        have hlS : l < s.heap.objs.size := Heap.lt_size hol
        have hh3 : A.in1.in1.in1.handled = none := by simp [hh]
        have hz1 : (s.heap.push { cls := .type "set", dict := none, data := .set #[] 0 (.fresh 0 0 (!w.params.followText "set-order")) }).objs.size = s.heap.objs.size + 1 := Heap.size_push ..
        have hneI : l ≠ (s.heap.push { cls := .type "set", dict := none, data := .set #[] 0 (.fresh 0 0 (!w.params.followText "set-order")) }).objs.size := by
          rw [Heap.size_push]; exact Nat.ne_of_lt (Nat.lt_succ_of_lt hlS)
        have hSf : s.heap.objs.size ∉ [(s.heap.push { cls := .type "set", dict := none, data := .set #[] 0 (.fresh 0 0 (!w.params.followText "set-order")) }).objs.size, l] := by
          rw [Heap.size_push]; simp only [List.mem_cons, List.mem_singleton, List.not_mem_nil, or_false, not_or]
          exact ⟨Nat.ne_of_lt (Nat.lt_succ_self _), Nat.ne_of_gt hlS⟩
        have hVal : ∀ (i : Nat) (v : Value), items[i]? = some v → ∃ k t, ns[i]? = some k ∧ v = .int k t := fun i v hv => by
          have hi : i < ns.length := by rw [← hisz]; exact (Array.getElem?_eq_some_iff.mp hv).1
          obtain ⟨t, e⟩ := PyProof.Rows.IntsAre.int_at hit i v (by rw [Array.getElem?_toList]; exact hv)
          refine ⟨ns[i], t, List.getElem?_eq_getElem hi, ?_⟩
          rw [e, List.getD_eq_getElem?_getD, List.getElem?_eq_getElem hi] <;> rfl
        refine set_update_ints ((Walks.list hh3 _ l hneI items).toS) s.heap.objs.size
          hSf ns hisz hb hVal (items.size - 0) 0 _ (by omega) (Nat.zero_le _)
          ⟨⟨_, Heap.get?_push_size _ rfl, rfl, rfl⟩, (hL1.push _)⟩ ?hS0 ?hR
        case hS0 =>
          have hget : ((s.heap.push { cls := .type "set", dict := none, data := .set #[] 0 (.fresh 0 0 (!w.params.followText "set-order")) }).push { cls := .type "list_iterator", data := .fields #[.ref l, .int 0 0] }).get? s.heap.objs.size
              = some { cls := .type "set", dict := none, data := .set #[] 0 (.fresh 0 0 (!w.params.followText "set-order")) } := Heap.get?_push_of_some _ hS
          exact ⟨0, Nat.le_refl 0, setR_new_at hget⟩
        case hR =>
          intro s' c' hm hc' hS'
          obtain ⟨h', g2, d', tk', os'⟩ := s'
          have eg : g2 = s.gens := hm.gens
          have ed : d' = s.drawn := hm.drawn
          have eo : os' = s.os := hm.os
          subst eg; subst ed; subst eo
          show wpAny _ _ _ _ _ _
          refine wpAny_pure ?_
          show wpAny _ _ (ret Value.none) _ _ _
          rw [hisz] at hc'
          refine wpAny_pure ⟨rfl, h', tk', c', rfl, hS', hc', fun b o e => ?_⟩
          have hb0 : b < s.heap.objs.size := Heap.lt_size e
          have hb1 : b ≠ s.heap.objs.size := Nat.ne_of_lt hb0
          have hb2 : b ≠ (s.heap.push { cls := .type "set", dict := none, data := .set #[] 0 (.fresh 0 0 (!w.params.followText "set-order")) }).objs.size := by
            rw [Heap.size_push]; exact Nat.ne_of_lt (Nat.lt_succ_of_lt hb0)
          exact hm.heap b o (by simp only [List.mem_cons, List.mem_singleton, List.not_mem_nil, or_false, not_or]; exact ⟨hb1, hb2⟩) (Heap.get?_push_of_some _ (Heap.get?_push_of_some _ e))

      · cases r₂ with
        | error e => exact hr₂
        | ok fl₂ =>
          cases fl₂ with
          | ret r =>
            obtain ⟨rfl, h', tk, c', rfl, hS', hc', hk'⟩ := hr₂
            repeat (any_goals (first | assumption | wp_step))
            exact h _ _ _ hS' hc' hk'
          | _ => exact hr₂.elim
    | _ => exact hr.elim

end
section
variable {X : Cx}
def rSetI (K : PySem.W.Frag) (w : World) : List V → Hp → VK → Prop := fun xs H Q => ∃ (l : Addr) (ns : List Int), xs = [V.ref l] ∧ SqL K H l (ns.map V.int) ∧ ns.length ≤ 1000 ∧
  ∀ a c, H a = none → c ≤ ns.length → Q (.ref a) (upd H a (SetO w a (fun j => decide (j ∈ ns)) c))
theorem cr_setI (hc : X.calm = true) : CallR X (.type "set") (rSetI X.K X.w) := by
  intro pins s σ H xs us Q I r h
  obtain ⟨l, ns, rfl, hl, hb, q⟩ := h
  rw [Vals.ref1 r]
  obtain ⟨its, rv, pl, hz⟩ := I.list hl
  have hi : IntsAre its.toArray.toList ns := ints_of_vals rv
  have hn : H s.heap.objs.size = none := I.hok.fresh (Nat.le_refl _)
  refine make_set_ints ns (I.ok.hd hc) pl.isList hi (by unfold scanBound; omega) fun h' tk c R hcn k => ?_
  exact ⟨.ref s.heap.objs.size, upd H s.heap.objs.size (SetO X.w s.heap.objs.size (fun j => decide (j ∈ ns)) c), I.laid (t' := tk) k (Nat.le_refl _) (setO_new R), rfl, q _ c hn hcn⟩
end
end Fz

set_option Elab.async false
set_option linter.all false
set_option autoImplicit false
set_option maxRecDepth 100000
set_option maxHeartbeats 2000000
/-! rules of our own: enumerate over a tuple -/
namespace Fz
open PySem PySem.Spec PyProof.Rows L2
open AutoSeq1 (wpAny_loadPart')

theorem meets_enum_newT (l : Addr) (items : Array Value) (n : Nat) (dct : Option Addr) (sl : Array (Option Value)) :
    Meets (Builtin.«enumerate.__new__» ⟨[.type "enumerate", .ref l], []⟩) (fun _ R s => s.heap.get? l = some { cls := .type "tuple", dict := dct, data := .seq items n, slots := sl } ∧
      R (.ok (.ret (.ref (s.heap.push { cls := .type "tuple_iterator", data := .fields #[.ref l, .int 0 0] }).objs.size)))
        { s with heap := (s.heap.push { cls := .type "tuple_iterator", data := .fields #[.ref l, .int 0 0] }).push { cls := .type "enumerate", data := .fields #[.none, .bool false, .ref s.heap.objs.size, rawInt 0, .none, .none] } }) :=
  .of_wp fun prog w A R s h => by
    obtain ⟨hp, g, d, tk, os⟩ := s; obtain ⟨hl, h⟩ := h
    have hsub := sub_enumerate
    have hL : Heap.IsTuple (Shared.heap ⟨hp, g, d, tk, os⟩) l items := ⟨_, hl, rfl, n, rfl⟩
    wp_walk using wpAny_loadPart' hl
    refine wpAny_stack_any fun st => wpAny_pure ?_
    split
    · rename_i c _ _ _ _ _
      cases (c == Value.type "enumerate")
      · wp_walk using wpAny_loadPart' hl, wpAny_pyIter_tuple hL
        exact ⟨_, rfl, h⟩
      · wp_walk using wpAny_loadPart' hl, wpAny_pyIter_tuple hL
        exact ⟨_, rfl, h⟩
    · wp_walk using wpAny_loadPart' hl, wpAny_pyIter_tuple hL
      exact ⟨_, rfl, h⟩
section
variable {prog : Program} {w : World} {A : Around} {E : Value → Shared → Prop} {s : Shared}
theorem call_enum_tup {l : Addr} {items : Array Value} {Q : Value → Shared → Prop} (hL : s.heap.IsTuple l items)
    (h : ∀ h', IsEnum h' (s.heap.objs.size + 1) s.heap.objs.size 0 .none → h'.IsTupleIter s.heap.objs.size l 0 → h'.objs.size = s.heap.objs.size + 2 →
      (∀ b o, s.heap.get? b = some o → h'.get? b = some o) → Q (.ref (s.heap.objs.size + 1)) { s with heap := h' }) :
    wpAny (model prog w) A (call (.type "enumerate") [.ref l]) Q E s := by
  obtain ⟨⟨c, dct, dt, sl⟩, hl, hc, n, hd⟩ := hL
  replace hc : c = .type "tuple" := hc
  replace hd : dt = .seq items n := hd
  subst hc hd
  refine callType_new F.called_enumerate (by decide) (F.typeCall_enumerate_1 _) (F.newCall_enumerate_1 _) (fun obj => F.args_object_init_2 obj _) F.entry_enumerate_new
    (meets_enum_newT l items n dct sl) ⟨hl, ?_⟩
  have hz : (s.heap.push { cls := .type "tuple_iterator", data := .fields #[.ref l, .int 0 0] }).objs.size = s.heap.objs.size + 1 := Heap.size_push ..
  show _ ∧ _
  rw [hz]
  have he : IsEnum ((s.heap.push { cls := .type "tuple_iterator", data := .fields #[.ref l, .int 0 0] }).push
      { cls := .type "enumerate", data := .fields #[.none, .bool false, .ref s.heap.objs.size, rawInt 0, .none, .none] }) (s.heap.objs.size + 1) s.heap.objs.size 0 .none := by
    have := Heap.get?_push_size (s.heap.push { cls := .type "tuple_iterator", data := .fields #[.ref l, .int 0 0] })
      (o := { cls := .type "enumerate", data := .fields #[.none, .bool false, .ref s.heap.objs.size, rawInt 0, .none, .none] }) rfl
    rw [hz] at this; exact this
  refine ⟨⟨_, he, rfl⟩, h _ he ⟨_, Heap.get?_push_of_some _ (Heap.get?_push_size _ rfl), rfl, rfl⟩ (by rw [Heap.size_push, hz]) fun b o x => Heap.get?_push_of_some _ (Heap.get?_push_of_some _ x)⟩
end
/-- the tuple at a, each item in a new pair -/
def Itet (K : PySem.W.Frag) (a : Addr) : It :=
  ⟨fun i H => ∃ (xs : List V) (x : V), SqT K H a xs ∧ xs[i]? = some x, fun i H v H' => ∃ T x, v = .ref T ∧ H T = none ∧ H' = upd H T (.tup [.int (i : Nat), x]) ∧ ∀ xs, SqT K H a xs → xs[i]? = some x, fun i H => ∃ xs : List V, SqT K H a xs ∧ xs.length = i⟩
theorem turn_enumT {P : Program} {w : World} {K : PySem.W.Frag} {elts : List Expr} {kk : Nat} {tpos : Pos} (a e it : Addr) :
    Turn P w K (.Tuple elts kk tpos) (Itet K a) [e, it] e (fun i h => (∃ old, IsEnum h e it ((i : Nat) : Int) old) ∧ h.IsTupleIter it a i ∧ e ≠ it ∧ a ≠ it ∧ a ≠ e) where
  mem := by simp
  obj := fun i h st b hb => by
    obtain ⟨⟨old, he⟩, ⟨o, ho, hc, hd⟩, _⟩ := st
    have e' : b = e ∨ b = it := by simpa using hb
    rcases e' with z | z
    · rw [z]; exact ⟨_, he, fun v q => nomatch q⟩
    · rw [z]; exact ⟨o, ho, fun v q => by rw [hd] at q; cases q⟩
  keep := fun i h h' st k => let ⟨⟨old, he⟩, hi, hne⟩ := st; ⟨⟨old, k e (by simp) _ he⟩, hi.at fun o q => k it (by simp) o q, hne⟩
  item := by
    intro X hP hw hK hc i pins s σ H E I hf st hg
    subst hP hw hK
    obtain ⟨⟨old, he⟩, hit, hne, hai, hae⟩ := st
    obtain ⟨xs, x, hq, hx⟩ := hg
    obtain ⟨its, rv, p, hz⟩ := I.tuple hq
    obtain ⟨u, hu, ru⟩ := rv.get hx
    have hel : e < s.heap.objs.size := Heap.lt_size he
    have hil : it < s.heap.objs.size := by obtain ⟨_, q, _⟩ := hit; exact Heap.lt_size q
    have D : Draws X.prog X.w X.A.in1 it [it, a] its.toArray.size (fun i v => its.toArray[i]? = some v) (fun i h => h.IsTupleIter it a i ∧ h.IsTuple a its.toArray) := Draws.tuple (A := X.A.in1) (I.ok.hd hc) it a hai its.toArray
    have hlt : i < its.toArray.size := by
      have := (List.getElem?_eq_some_iff.mp hu).1
      simpa using this
    refine wpAny_pyNext_enum_itemD D he ⟨hit, p⟩ hlt hne (by simp only [List.mem_cons, List.not_mem_nil, or_false, not_or]; exact ⟨hne, hae.symm⟩) fun y h' tk hy ho hst hT hsz hk => ?_
    have ey : y = u := by
      have z : its[i]? = some y := by simpa using hy
      rw [hu] at z
      exact (Option.some.inj z).symm
    subst ey
    refine ⟨_, rfl, wpAny_letOwnedTupleGo_enum (s := { s with heap := h', toks := tk + 1 }) ho fun h'' he' sb => ?_⟩
    have hT2 : h''.get? s.heap.objs.size = some { cls := .type "tuple", data := .seq #[.int i tk, y] } := (sb.2 _ (Nat.ne_of_gt hel)).trans hT
    have new : ObjOk X.prog X.w (upd H s.heap.objs.size (.tup [.int (i : Nat), x])) h'' s.heap.objs.size (.tup [.int (i : Nat), x]) :=
      ⟨by show 2 ≤ sizeLine; decide, [.int i tk, y], .cons ⟨_, rfl⟩ (.cons ru .nil), ⟨_, hT2, rfl, _, rfl⟩⟩
    have I1 : Inv X pins σ (upd H s.heap.objs.size (.tup [.int (i : Nat), x])) { s with heap := h'', toks := tk + 1 } :=
      I.turnedNew (ch := [e, it]) (fun b ob hb q => (sb.2 b (fun z => hb (by simp [z]))).trans (hk b ob (fun z => hb (by simp [z])) (fun z => hb (by simp [z])) q)) hf (Nat.le_refl _) new
    refine ⟨.ref s.heap.objs.size, _, I1, rfl, ⟨_, x, rfl, I.hok.fresh (Nat.le_refl _), rfl, fun ys hy => by rw [I.tuple_inj hy hq]; exact hx⟩, ⟨⟨y, ?_⟩, hst.1.at fun o q => (sb.2 it (Ne.symm hne)).trans q, hne, hai, hae⟩, fun b hb => ?_⟩
    · have e1 : ((i + 1 : Nat) : Int) = (i : Int) + 1 := by omega
      rw [e1]; exact he'
    · have hb' : b < s.heap.objs.size := by
        have e' : b = e ∨ b = it := by simpa using hb
        rcases e' with z | z
        · rw [z]; exact hel
        · rw [z]; exact hil
      rw [upd_ne (Nat.ne_of_lt hb')]
      exact (hf b hb).1
  done := by
    intro X hP hw hK hc i pins s σ H E I hf st hg
    subst hP hw hK
    obtain ⟨⟨old, he⟩, hit, hne, hai, hae⟩ := st
    obtain ⟨xs, hq, hx⟩ := hg
    obtain ⟨its, rv, p, hz⟩ := I.tuple hq
    obtain ⟨f0, f1, f2, f3, f4, f5⟩ := hf it (by simp)
    have hl := rv.length
    have D : Draws X.prog X.w X.A.in1 it [it, a] its.toArray.size (fun i v => its.toArray[i]? = some v) (fun i h => h.IsTupleIter it a i ∧ h.IsTuple a its.toArray) := Draws.tuple (A := X.A.in1) (I.ok.hd hc) it a hai its.toArray
    have en : its.toArray.size = i := by simp; omega
    rw [en] at D
    exact wpAny_pyNext_enum_endD D he ⟨hit, p⟩ fun h' eb => ⟨rfl, I.turned (t' := s.toks) (fun b o hb q => eb b o hb q) f0 f1 f3 f4 f5⟩
  self := fun A i s Q E st h => let ⟨⟨_, he⟩, _⟩ := st; wpAny_pyIter_enum he h

def iEnumT (K : PySem.W.Frag) (ta : TA) : TI := fun σ H R => ta σ H fun vs H1 => ∃ a xs, vs = [.ref a] ∧ SqT K H1 a xs ∧ R (Itet K a) H1
theorem pi_enumT {X : Cx} {e : Expr} {ta : TA} {p pos tpos : Pos} {elts : List Expr} {kk : Nat} (hg : Gl X "enumerate") (hm : X.mg "enumerate" = none) (ha : PA X [e] ta) (hs : starEach [e] X.env = [(false, eval e X.env)] := by rfl) :
    PI X (.Tuple elts kk tpos) (.Call (.Name "enumerate" p) [e] [] pos) (iEnumT X.K ta) := by
  refine ⟨fun pins s σ H R I h => ?_⟩
  refine Call_ (ld_blt I hg hm boot_enumerate (PyProof.Rows.callWith_type1 (thn (ha.run pos pins s σ H _ I h) fun us s1 ⟨vs, H1, I1, r1, q1⟩ => ?_) hs rfl))
  obtain ⟨a, xs, ex, hq, q⟩ := q1
  subst ex
  cases r1 with
  | cons r rr =>
    cases rr
    cases r
    obtain ⟨its, rv, p', hz⟩ := I1.tuple hq
    have hlt : a < s1.heap.objs.size := p'.lt
    refine call_enum_tup (show s1.heap.IsTuple a its.toArray from p') fun h' he hit hsz hk => wpAny_pyIter_enum he ?_
    have I2 : Inv X pins σ H1 { s1 with heap := h' } := I1.kept (t' := s1.toks) hk
    refine ⟨s1.heap.objs.size + 1, [s1.heap.objs.size + 1, s1.heap.objs.size], _, _, H1, rfl, I2, turn_enumT a (s1.heap.objs.size + 1) s1.heap.objs.size, ⟨⟨.none, he⟩, hit, Nat.succ_ne_self _, Nat.ne_of_lt hlt, Nat.ne_of_lt (Nat.lt_succ_of_lt hlt)⟩, fun b hb => ?_, q⟩
    have e' : b = s1.heap.objs.size + 1 ∨ b = s1.heap.objs.size := by simpa using hb
    have hle : s1.heap.objs.size ≤ b := by
      rcases e' with z | z
      · rw [z]; exact Nat.le_add_right _ _
      · rw [z]; exact Nat.le_refl _
    exact I1.fpOk hle (I1.hok.fresh hle)
end Fz

set_option Elab.async false
set_option linter.all false
set_option autoImplicit false
set_option maxRecDepth 100000
set_option maxHeartbeats 2000000
/-! rules of our own: setdefault and items of a dict with tuple keys -/
namespace Fz
open PySem PySem.Spec PyProof.Rows L2

section
variable {X : Cx}
def rSetDefT : V → List V → Hp → VK → Prop := fun x xs H Q => ∃ (a : Addr) (kvs : List (List L2.Key × V)) (k : List L2.Key) (b : Addr) (d : V), x = .ref a ∧ xs = [.ref b, d] ∧ H a = some (.dT kvs) ∧ H b = some (.tup (k.map kV)) ∧ kvs.length < sizeLine ∧
  (∀ v, valV kvs k = some v → Q v H) ∧ (valV kvs k = none → Q d (upd H a (.dT (putK kvs k d))))
theorem mt_setdefT (hu : X.A.units + 1 < cLine) : MtR X "dict.setdefault" rSetDefT := by
  intro pins s σ H x xs v us Q I rx rxs h
  obtain ⟨a, kvs, k, b, d, rfl, rfl, ha, hb, hl, q1, q2⟩ := h
  cases rx
  obtain ⟨u1, u2, rfl, r1, r2⟩ := vals2 rxs
  cases r1
  obtain ⟨z, hd, xs', rel, dd⟩ := dt_of I.hok ha
  have hz : xs'.length ≤ sizeLine := by rw [← Paired.length rel]; exact z
  refine call_setdefault_heap (knd := tupleKind (mixKind X.prog X.w)) (k := k) (hsz := hz) (tupleKind_room_in1 hu) (key_of I.hok hb) hd dd (fun p hp => ?_) fun hn h' dd' hs => ?_
  · have r := rel.val k
    rw [hp] at r
    obtain ⟨v0, ev, rv⟩ : ∃ v0, valV kvs k = some v0 ∧ RelV v0 p.2 := by
      cases ev : valV kvs k with
      | none =>
        rw [ev] at r
        exact (show False from r).elim
      | some v0 =>
        rw [ev] at r
        exact ⟨v0, rfl, r⟩
    exact ⟨v0, H, I.tok _, rv, q1 v0 ev⟩
  · have r := rel.val k
    rw [hn] at r
    have e : valV kvs k = none := by
      cases ev : valV kvs k with
      | none => rfl
      | some v0 =>
        rw [ev] at r
        exact (show False from r).elim
    obtain ⟨o, es, ep, hq, h2, h3, h4, _, h5⟩ := dd'
    have hl2 : (putK kvs k d).length ≤ sizeLine := by have := length_putK kvs k d; omega
    have I2 : Inv X pins σ (upd H a (.dT (putK kvs k d))) { s with heap := h', toks := s.toks + (tupleKind (mixKind X.prog X.w)).draws k } :=
      d_write I (by rw [ha]; exact True.intro) hs ⟨o, hq⟩ ⟨hl2, hd, _, (rel.put k hb r2).keeps (fun c ys ec => (by rw [upd_ne (ne_of ec ha (fun z => nomatch z))]; exact ec)), o, es, ep, hq, h2, h3, h4, h5⟩
    exact ⟨d, _, I2, r2, q2 e⟩
end

section
variable {X : Cx} {pins : List (Addr × Obj)} {σ : L2.St} {H : Hp} {s : Shared} {d : Addr} {o : Obj}
theorem frzT2 {kvs : List (List L2.Key × V)} (I : Inv X pins σ H s) (h : H d = some (.frz o (.dT kvs))) :
    (d == sysModules) = false ∧ s.heap.get? d = some o ∧ o.ExactDict ∧ ∃ (es : Array DictEntry) (ep : Nat), o.data = .dict es ep ∧ es.size = kvs.length ∧
      ∀ (i : Nat) (k : List L2.Key) (v : V), kvs[i]? = some (k, v) → ∃ (en : DictEntry) (q : Addr), es[i]? = some en ∧ en.key = .ref q ∧ H q = some (.tup (k.map kV)) ∧ RelV v en.val := by
  obtain ⟨hd, z, hs, xs, pr, o', es, ep, ho, hx, hdt, he, _⟩ := I.hok d _ h
  rw [hd] at ho
  cases ho
  refine ⟨hs, hd, hx, es, ep, hdt, ?_, fun i k v e => ?_⟩
  · have l1 : es.size = xs.length := size_of_entries he
    have l2 : kvs.length = xs.length := Paired.length pr
    omega
  · obtain ⟨b, hb, e1, e2, e3⟩ := paired_get pr e
    have q := entry_at he i
    rw [hb] at q
    exact ⟨_, b.2.1, q, rfl, e2, e3⟩
end
/-- the pairs (key, value), each a new tuple -/
def Itit (d : Addr) (o : Obj) (kvs : List (List L2.Key × V)) : It :=
  ⟨fun i H => H d = some (.frz o (.dT kvs)) ∧ i < kvs.length, fun i H x H' => ∃ T k v q, kvs[i]? = some (k, v) ∧ x = .ref T ∧ H T = none ∧ H q = some (.tup (k.map kV)) ∧ H' = upd H T (.tup [.ref q, v]), fun i H => H d = some (.frz o (.dT kvs)) ∧ kvs.length ≤ i⟩
section
variable {P : Program} {w : World} {K : PySem.W.Frag} {d : Addr} {o : Obj} {es : Array DictEntry} {ep : Nat}
theorem turn_itemsT {kvs : List (List L2.Key × V)} {elts : List Expr} {kk : Nat} {tpos : Pos} (it : Addr) (hod : o.data = .dict es ep) :
    Turn P w K (.Tuple elts kk tpos) (Itit d o kvs) [it] it (fun i h => ∃ ok ov, IsItemIter h it d i kvs.length ep ok ov) where
  mem := by simp
  obj := fun i h st b hb => by
    have e : b = it := by simpa using hb
    subst e
    obtain ⟨ok, ov, e⟩ := st
    exact ⟨_, e, fun v z => nomatch z⟩
  keep := fun i h h' st k => let ⟨ok, ov, e⟩ := st; ⟨ok, ov, k it (by simp) _ e⟩
  item := by
    intro X hP hw hK hc i pins s σ H E I hf st hg
    subst hP hw hK
    obtain ⟨hd, hi⟩ := hg
    obtain ⟨hs, hgd, hx, es', ep', hdt, hsz, ent⟩ := frzT2 I hd
    obtain ⟨rfl, rfl⟩ := dict_ep hod hdt
    obtain ⟨⟨k, v⟩, hkv⟩ : ∃ p, kvs[i]? = some p := ⟨kvs[i], List.getElem?_eq_getElem hi⟩
    obtain ⟨en, q, hen, hkey, hq, hval⟩ := ent i k v hkv
    obtain ⟨ok, ov, he⟩ := st
    rw [← hsz] at he
    have hlt : it < s.heap.objs.size := Heap.lt_size he
    have hie : i < es'.size := by omega
    have een : es'[i] = en := by
      have z := Array.getElem?_eq_getElem hie
      rw [hen] at z
      exact (Option.some.inj z).symm
    refine DT.nextI he ⟨o, hgd, hx, hdt⟩ hie fun h' ho hT hz hk => ?_
    rw [een] at ho hT
    refine ⟨_, rfl, wpAny_letOwnedTupleGo_items (s := { s with heap := h' }) ho fun h'' he' sb => ?_⟩
    have hT2 : h''.get? s.heap.objs.size = some { cls := .type "tuple", data := .seq #[en.key, en.val] } := (sb.2 _ (Nat.ne_of_gt hlt)).trans hT
    have new : ObjOk X.prog X.w (upd H s.heap.objs.size (.tup [.ref q, v])) h'' s.heap.objs.size (.tup [.ref q, v]) :=
      ⟨by show 2 ≤ sizeLine; decide, [en.key, en.val], .cons (show RelV (.ref q) en.key from hkey) (.cons hval .nil), ⟨_, hT2, rfl, _, rfl⟩⟩
    have I1 : Inv X pins σ (upd H s.heap.objs.size (.tup [.ref q, v])) { s with heap := h'' } :=
      I.turnedNew (t' := s.toks) (ch := [it]) (fun b ob hb e => (sb.2 b (by simpa using hb)).trans (hk b ob (by simpa using hb) e)) hf (Nat.le_refl _) new
    refine ⟨.ref s.heap.objs.size, _, I1, rfl, ⟨_, k, v, q, hkv, rfl, I.hok.fresh (Nat.le_refl _), hq, rfl⟩, ⟨en.key, en.val, ?_⟩, fun b hb => ?_⟩
    · rw [← hsz]
      exact he'
    · have e : b = it := by simpa using hb
      rw [e, upd_ne (Nat.ne_of_lt hlt)]
      exact (hf it (by simp)).1
  done := by
    intro X hP hw hK hc i pins s σ H E I hf st hg
    subst hP hw hK
    obtain ⟨hd, hi⟩ := hg
    obtain ⟨f0, f1, f2, f3, f4, f5⟩ := hf it (by simp)
    obtain ⟨hs, hgd, hx, es', ep', hdt, hsz, ent⟩ := frzT2 I hd
    obtain ⟨rfl, rfl⟩ := dict_ep hod hdt
    obtain ⟨ok, ov, he⟩ := st
    rw [← hsz] at he
    exact DT.endI (I.ok.hd hc) he ⟨o, hgd, hx, hdt⟩ (by omega) fun h' eb => ⟨rfl, I.turned (t' := s.toks) (fun b ob hb e => eb b ob hb e) f0 f1 f3 f4 f5⟩
  self := fun A i s Q E st h => let ⟨_, _, e⟩ := st; PySem.W.kcp_self e h
end
def iItemsT (td : TE) : TI := fun σ H R => td σ H fun x H1 => ∃ d o kvs, x = .ref d ∧ H1 d = some (.frz o (.dT kvs)) ∧ R (Itit d o kvs) H1
theorem pi_itemsT {X : Cx} {e : Expr} {td : TE} {apos cpos : Pos} {elts : List Expr} {kk : Nat} {tpos : Pos} (he : PE X e td) (hbase : attributeBase e "items" X.env (eval e X.env) = eval e X.env := by rfl) (hline : (apos.endLine == cpos.line) = true := by rfl) :
    PI X (.Tuple elts kk tpos) (.Call (.Attribute e "items" apos) [] [] cpos) (iItemsT td) := by
  refine ⟨fun pins s σ H R I h => ?_⟩
  refine wpAny_Call_method (T := "dict") (id := "dict.items") hbase rfl hline F.plainAttrs_dict F.slot_dict_items F.type_dict_items (thn (he.run pins s σ H _ I h) fun u s1 ⟨x, H1, I1, rx, d, o, kvs, ex, hd, q⟩ => ?_)
  subst ex
  obtain rfl : u = Value.ref d := rx
  obtain ⟨hs, hgd, hx, es, ep, hdt, hsz, ent⟩ := frzT2 I1 hd
  have raw : DT.Raw s1.heap d es ep := ⟨o, hgd, hx, hdt⟩
  refine ⟨⟨o, hgd, hx.1⟩, (fun a ea => by cases ea; exact ⟨o, hgd, hx.2.1⟩), ?_⟩
  have I2 : Inv X pins σ H1 { s1 with heap := s1.heap.push { cls := .type "dict_items", data := .fields #[.ref d] } } := I1.kept (t' := s1.toks) fun b ob q => Heap.get?_push_of_some _ q
  have fin : wpAny (model X.prog X.w) X.A (pyIter (.ref s1.heap.objs.size)) (PIE X pins σ (.Tuple elts kk tpos) R) X.xe { s1 with heap := s1.heap.push { cls := .type "dict_items", data := .fields #[.ref d] } } := by
    refine DT.iterI (s := { s1 with heap := s1.heap.push { cls := .type "dict_items", data := .fields #[.ref d] } }) (d := d) ⟨_, Heap.get?_push_size _ rfl, rfl, rfl⟩ (raw.push _) (pi_one (tk := s1.toks) I2 _ (turn_itemsT _ hdt) ⟨.none, .none, ?_⟩ q)
    rw [← hsz]
    exact Heap.get?_push_size _ rfl
  show wpAny _ _ (callWith cpos (.builtin "dict.items") [.ref d] [] []) _ X.xe s1
  exact method_meetsIn F.slot_dict_items F.entry_dict_items rfl (PySem.evalArgs_none ⟨rfl, raw.typeIs, F.args_dict_items_1 _, _, DT.meetsItems (es := es) (ep := ep) hs, ⟨raw, fin⟩⟩)
end Fz

set_option Elab.async false
set_option linter.all false
set_option autoImplicit false
set_option maxRecDepth 100000
set_option maxHeartbeats 1000000
/-! What readings evaluate to, as data: expressions without a heap. -/
namespace Ez
open PySem L2
abbrev Dat := PyData

/-! ### data in the heap, exactly -/
mutual
inductive Rp (H : Hp) : V → Dat → Prop
  | non : Rp H .non .none
  | bl (b : Bool) : Rp H (.bl b) (.bool b)
  | int (i : Int) : Rp H (.int i) (.int i)
  | lst {a : Addr} {xs : List V} {ds : List Dat} : H a = some (.lst xs) → RpA H xs ds → Rp H (.ref a) (.list ds)
  | tup {a : Addr} {xs : List V} {ds : List Dat} : H a = some (.tup xs) → RpA H xs ds → Rp H (.ref a) (.tuple ds)
  | dct {a : Addr} {ws : List (List L2.Key × V)} {es : List (Dat × Dat)} : H a = some (.dT ws) → RpD H ws es → Rp H (.ref a) (.dict es)
inductive RpA (H : Hp) : List V → List Dat → Prop
  | nil : RpA H [] []
  | cons {v : V} {vs : List V} {d : Dat} {ds : List Dat} : Rp H v d → RpA H vs ds → RpA H (v :: vs) (d :: ds)
/-- a dict whose keys are tuples of ints -/
inductive RpD (H : Hp) : List (List L2.Key × V) → List (Dat × Dat) → Prop
  | nil : RpD H [] []
  | cons {k : List Int} {v : V} {d : Dat} {ws : List (List L2.Key × V)} {es : List (Dat × Dat)} : Rp H v d → RpD H ws es → RpD H ((k.map Sum.inl, v) :: ws) ((.tuple (k.map .int), d) :: es)
end
mutual
theorem Rp.mono {H H' : Hp} (k : Same H H') : ∀ {v : V} {d : Dat}, Rp H v d → Rp H' v d
  | _, _, .non => .non
  | _, _, .bl b => .bl b
  | _, _, .int i => .int i
  | _, _, .lst e t => .lst (k _ _ e) (RpA.mono k t)
  | _, _, .tup e t => .tup (k _ _ e) (RpA.mono k t)
  | _, _, .dct e t => .dct (k _ _ e) (RpD.mono k t)
theorem RpA.mono {H H' : Hp} (k : Same H H') : ∀ {vs : List V} {ds : List Dat}, RpA H vs ds → RpA H' vs ds
  | _, _, .nil => .nil
  | _, _, .cons h t => .cons (Rp.mono k h) (RpA.mono k t)
theorem RpD.mono {H H' : Hp} (k : Same H H') : ∀ {ws : List (List L2.Key × V)} {es : List (Dat × Dat)}, RpD H ws es → RpD H' ws es
  | _, _, .nil => .nil
  | _, _, .cons h t => .cons (Rp.mono k h) (RpD.mono k t)
end
mutual
/-- no dict within -/
def nod : Dat → Bool
  | .dict _ => false
  | .list xs => nodA xs
  | .tuple xs => nodA xs
  | _ => true
def nodA : List Dat → Bool
  | [] => true
  | d :: r => nod d && nodA r
end
mutual
theorem Rp.dp {K : PySem.W.Frag} {H : Hp} : ∀ {v : V} {d : Dat}, nod d = true → Rp H v d → Dp K H v d
  | _, _, _, .non => .non
  | _, _, _, .bl b => .bl b
  | _, _, _, .int i => .int i
  | _, _, n, .lst e t => .lst (SqL.of e) (RpA.dp (by simpa [nod] using n) t)
  | _, _, n, .tup e t => .tup (SqT.of e) (RpA.dp (by simpa [nod] using n) t)
  | _, _, n, .dct e t => by simp [nod] at n
theorem RpA.dp {K : PySem.W.Frag} {H : Hp} : ∀ {vs : List V} {ds : List Dat}, nodA ds = true → RpA H vs ds → DpAll K H vs ds
  | _, _, _, .nil => .nil
  | _, _, n, .cons h t => by
    simp only [nodA, Bool.and_eq_true] at n
    exact .cons (Rp.dp n.1 h) (RpA.dp n.2 t)
end
section
variable {H : Hp}
theorem RpA.length : ∀ {vs : List V} {ds : List Dat}, RpA H vs ds → vs.length = ds.length
  | _, _, .nil => rfl
  | _, _, .cons _ t => by rw [List.length_cons, List.length_cons, RpA.length t]
theorem RpA.get : ∀ {vs : List V} {ds : List Dat}, RpA H vs ds → ∀ {i : Nat} {d : Dat}, ds[i]? = some d → ∃ v, vs[i]? = some v ∧ Rp H v d
  | _, _, .nil, i, d, e => by simp at e
  | _, _, .cons (v := v) h t, 0, d, e => ⟨v, rfl, by have e2 := Option.some.inj e; rw [← e2]; exact h⟩
  | _, _, .cons h t, i + 1, d, e => RpA.get t (i := i) (by simpa using e)
theorem RpA.getV : ∀ {vs : List V} {ds : List Dat}, RpA H vs ds → ∀ {i : Nat} {v : V}, vs[i]? = some v → ∃ d, ds[i]? = some d ∧ Rp H v d
  | _, _, .nil, i, d, e => by simp at e
  | _, _, .cons (d := d) h t, 0, v, e => ⟨d, rfl, by have e2 := Option.some.inj e; rw [← e2]; exact h⟩
  | _, _, .cons h t, i + 1, d, e => RpA.getV t (i := i) (by simpa using e)
theorem RpA.append : ∀ {vs ws : List V} {ds es : List Dat}, RpA H vs ds → RpA H ws es → RpA H (vs ++ ws) (ds ++ es)
  | _, _, _, _, .nil, s => s
  | _, _, _, _, .cons h t, s => .cons h (RpA.append t s)
theorem RpA.snoc {vs : List V} {v : V} {ds : List Dat} {d : Dat} (h : RpA H vs ds) (t : Rp H v d) : RpA H (vs ++ [v]) (ds ++ [d]) := h.append (.cons t .nil)
theorem RpA.take (n : Nat) : ∀ {vs : List V} {ds : List Dat}, RpA H vs ds → RpA H (vs.take n) (ds.take n) := by
  induction n with
  | zero => intro _ _ _; simp; exact .nil
  | succ n ih =>
    intro vs ds h
    cases h with
    | nil => simp; exact .nil
    | cons h t => simp; exact .cons h (ih t)
theorem RpA.drop (n : Nat) : ∀ {vs : List V} {ds : List Dat}, RpA H vs ds → RpA H (vs.drop n) (ds.drop n) := by
  induction n with
  | zero => intro _ _ h; simpa using h
  | succ n ih =>
    intro vs ds h
    cases h with
    | nil => simp; exact .nil
    | cons h t => simpa using ih t
theorem RpA.set : ∀ {vs : List V} {ds : List Dat} (i : Nat) {v : V} {d : Dat}, RpA H vs ds → Rp H v d → RpA H (vs.set i v) (ds.set i d)
  | _, _, _, _, _, .nil, _ => .nil
  | _, _, 0, _, _, .cons h t, r => .cons r t
  | _, _, i + 1, _, _, .cons h t, r => .cons h (RpA.set i t r)
theorem RpA.eraseIdx : ∀ {vs : List V} {ds : List Dat} (i : Nat), RpA H vs ds → RpA H (vs.eraseIdx i) (ds.eraseIdx i)
  | _, _, _, .nil => by simp; exact .nil
  | _, _, 0, .cons h t => by simpa using t
  | _, _, i + 1, .cons h t => by simp; exact .cons h (RpA.eraseIdx i t)
theorem rp_ints : ∀ ns : List Int, RpA H (ns.map V.int) (ns.map PyData.int)
  | [] => .nil
  | n :: r => .cons (.int n) (rp_ints r)
theorem rpa_ints : ∀ {vs : List V} {ns : List Int}, RpA H vs (ns.map PyData.int) → vs = ns.map V.int
  | [], [], _ => rfl
  | _, n :: r, .cons h t => by
    cases h
    rw [rpa_ints t]
    rfl
theorem rpa_bools : ∀ {vs : List V} {bs : List Bool}, RpA H vs (bs.map PyData.bool) → vs = bs.map V.bl
  | [], [], _ => rfl
  | _, n :: r, .cons h t => by
    cases h
    rw [rpa_bools t]
    rfl
theorem Rp.list_ref {v : V} {ds : List Dat} (h : Rp H v (.list ds)) : ∃ a xs, v = .ref a ∧ H a = some (.lst xs) ∧ RpA H xs ds := by
  cases h with
  | lst e t => exact ⟨_, _, rfl, e, t⟩
theorem Rp.tup_ref {v : V} {ds : List Dat} (h : Rp H v (.tuple ds)) : ∃ a xs, v = .ref a ∧ H a = some (.tup xs) ∧ RpA H xs ds := by
  cases h with
  | tup e t => exact ⟨_, _, rfl, e, t⟩
theorem Rp.int_eq {v : V} {i : Int} (h : Rp H v (.int i)) : v = .int i := by cases h; rfl
theorem Rp.bool_eq {v : V} {b : Bool} (h : Rp H v (.bool b)) : v = .bl b := by cases h; rfl
/-- a reference is known to the heap -/
theorem Rp.known {a : Addr} {d : Dat} (h : Rp H (.ref a) d) : H a ≠ none := by
  cases h with
  | lst e _ => rw [e]; exact Option.some_ne_none _
  | tup e _ => rw [e]; exact Option.some_ne_none _
  | dct e _ => rw [e]; exact Option.some_ne_none _
end

/-! ### steps: N is what is known, H the heap -/
/-- an object that is no tuple -/
def Mb (o : Option HO) : Prop := o ≠ none ∧ ∀ xs, o ≠ some (.tup xs)
theorem mb {u : HO} (h : ∀ xs, u ≠ .tup xs) : Mb (some u) := ⟨Option.some_ne_none _, fun xs z => h xs (Option.some.inj z)⟩
structure Stp (N H N' H' : Hp) : Prop where
  nn : Same N N'
  hh : Same H H'
  nh : Same N' H'
  fr : ∀ a, Mb (H a) → N a = none → N' a = none
theorem same_none {H H' : Hp} (e : Same H H') {a : Addr} (h : H' a = none) : H a = none := e.free h
theorem same_some {H H' : Hp} (e : Same H H') {a : Addr} (h : H a ≠ none) : H' a ≠ none := fun q => h (same_none e q)
theorem mb_same {H H' : Hp} (e : Same H H') {a : Addr} (h : Mb (H a)) : Mb (H' a) := by
  cases q : H a with
  | none => exact absurd q h.1
  | some u =>
    rw [e _ _ q]
    rw [q] at h
    exact h
theorem same_new {H : Hp} {p : Addr} {o : HO} (h : H p = none) : Same H (upd H p o) := fun a u e => by
  rw [upd_ne (ne_of_none e h)]
  exact e
theorem same_mut {H H' : Hp} {p : Addr} {o : HO} (e : Same H H') (h : H p = none) : Same H (upd H' p o) := fun a u ha => by
  rw [upd_ne (ne_of_none ha h)]
  exact e a u ha
theorem Stp.refl {N H : Hp} (h : Same N H) : Stp N H N H := ⟨Same.refl N, Same.refl H, h, fun _ _ q => q⟩
theorem Stp.trans {N H N1 H1 N2 H2 : Hp} (a : Stp N H N1 H1) (b : Stp N1 H1 N2 H2) : Stp N H N2 H2 :=
  ⟨a.nn.trans b.nn, a.hh.trans b.hh, b.nh, fun x h n => b.fr x (mb_same a.hh h) (a.fr x h n)⟩
/-- a new object, known from now on -/
theorem Stp.new {N H : Hp} (h : Same N H) {p : Addr} {o : HO} (hp : H p = none) : Stp N H (upd N p o) (upd H p o) := by
  have np : N p = none := same_none h hp
  refine ⟨same_new np, same_new hp, fun a u e => ?_, fun a ha na => ?_⟩
  · by_cases q : a = p
    · subst q
      rw [upd_same] at e ⊢
      exact e
    · rw [upd_ne q] at e ⊢
      exact h a u e
  · have q : a ≠ p := fun q => ha.1 (by rw [q]; exact hp)
    rw [upd_ne q]
    exact na
/-- a new object, not known -/
theorem Stp.hid {N H : Hp} (h : Same N H) {p : Addr} {o : HO} (hp : H p = none) : Stp N H N (upd H p o) :=
  ⟨Same.refl N, same_new hp, same_mut h (same_none h hp), fun _ _ q => q⟩
/-- an object that stands becomes known -/
theorem Stp.know {N H N' H' : Hp} (s : Stp N H N' H') {p : Addr} {o : HO} (hp : H p = none) (n : N' p = none) (e : H' p = some o) : Stp N H (upd N' p o) H' := by
  refine ⟨s.nn.trans (same_new n), s.hh, fun a u q => ?_, fun a ha na => ?_⟩
  · by_cases z : a = p
    · subst z
      rw [upd_same] at q
      rw [← Option.some.inj q]
      exact e
    · rw [upd_ne z] at q
      exact s.nh a u q
  · have z : a ≠ p := fun q => ha.1 (by rw [q]; exact hp)
    rw [upd_ne z]
    exact s.fr a ha na

/-! ### what evaluates to what -/
def Ev (te : TE) (σ : L2.St) (N : Hp) (R : V → Hp → Prop) : Prop := ∀ H, Same N H → ∀ Q : VK, (∀ v N' H', Stp N H N' H' → R v N' → Q v H') → te σ H Q
def EvB (tt : TT) (σ : L2.St) (N : Hp) (b : Bool) : Prop := ∀ H, Same N H → ∀ Q : Bool → Hp → Prop, (∀ N' H', Stp N H N' H' → Q b H') → tt σ H Q
def EvA (ta : TA) (σ : L2.St) (N : Hp) (R : List V → Hp → Prop) : Prop := ∀ H, Same N H → ∀ Q : List V → Hp → Prop, (∀ vs N' H', Stp N H N' H' → R vs N' → Q vs H') → ta σ H Q
/-- a new list, not yet known -/
def EvN (te : TE) (σ : L2.St) (N : Hp) (ds : List Dat) : Prop := ∀ H, Same N H → ∀ Q : VK,
  (∀ p vs N' H', Stp N H N' H' → H p = none → N' p = none → H' p = some (.lst vs) → RpA N' vs ds → Q (.ref p) H') → te σ H Q
abbrev Sd := List (Option Dat)
def Sl (N : Hp) (σ : L2.St) (ds : Sd) : Prop := σ.length = ds.length ∧ ∀ (i : Nat) (d : Dat), ds[i]? = some (some d) → ∃ v, σ[i]? = some (some v) ∧ Rp N v d
theorem Sl.mono {N N' : Hp} {σ : L2.St} {ds : Sd} (k : Same N N') (h : Sl N σ ds) : Sl N' σ ds := ⟨h.1, fun i d e => let ⟨v, a, b⟩ := h.2 i d e; ⟨v, a, b.mono k⟩⟩
theorem Sl.set {N : Hp} {σ : L2.St} {ds : Sd} (h : Sl N σ ds) (j : Nat) {v : V} {d : Dat} (r : Rp N v d) : Sl N (σ.set j (some v)) (ds.set j (some d)) := by
  refine ⟨by rw [List.length_set, List.length_set, h.1], fun i e q => ?_⟩
  by_cases hj : j = i
  · subst hj
    by_cases hl : j < ds.length
    · rw [List.getElem?_set_self hl] at q
      have q2 := Option.some.inj (Option.some.inj q)
      rw [← q2]
      exact ⟨v, List.getElem?_set_self (by rw [h.1]; exact hl), r⟩
    · rw [List.getElem?_eq_none (by simp; omega)] at q
      cases q
  · rw [List.getElem?_set_ne hj] at q
    obtain ⟨w, a, b⟩ := h.2 i e q
    exact ⟨w, by rw [List.getElem?_set_ne hj]; exact a, b⟩
def dwipe (ds : Sd) : List Nat → Sd
  | [] => ds
  | v :: vs => (dwipe ds vs).set v none
theorem dwipe_length (ds : Sd) : ∀ vs : List Nat, (dwipe ds vs).length = ds.length
  | [] => rfl
  | v :: vs => by unfold dwipe; rw [List.length_set, dwipe_length ds vs]
theorem dwipe_some {ds : Sd} {i : Nat} {x : Dat} : ∀ {vs : List Nat}, (dwipe ds vs)[i]? = some (some x) → ds[i]? = some (some x) ∧ i ∉ vs
  | [], h => ⟨h, by simp⟩
  | v :: vs, h => by
    unfold dwipe at h
    by_cases hi : v = i
    · subst hi
      by_cases hv : v < (dwipe ds vs).length
      · rw [List.getElem?_set_self hv] at h; cases h
      · rw [List.getElem?_eq_none (by simpa using hv)] at h; cases h
    · rw [List.getElem?_set_ne hi] at h
      obtain ⟨h1, h2⟩ := dwipe_some h
      exact ⟨h1, by simp only [List.mem_cons, not_or]; exact ⟨fun e => hi e.symm, h2⟩⟩
theorem Sl.wipe {N : Hp} {σ : L2.St} {ds : Sd} (h : Sl N σ ds) (vs : List Nat) : Sl N (L2.wipe σ vs) (dwipe ds vs) := by
  refine ⟨by rw [wipe_length, dwipe_length, h.1], fun i d e => ?_⟩
  obtain ⟨e1, ni⟩ := dwipe_some e
  obtain ⟨v, a, b⟩ := h.2 i d e1
  exact ⟨v, by rw [wipe_out ni]; exact a, b⟩
theorem wipe_get_in {σ : L2.St} {i : Nat} : ∀ {vs : List Nat}, i ∈ vs → i < σ.length → (L2.wipe σ vs)[i]? = some none
  | v :: vs, h, hl => by
    unfold L2.wipe
    by_cases hi : v = i
    · subst hi
      exact List.getElem?_set_self (by rw [wipe_length]; exact hl)
    · rw [List.getElem?_set_ne hi]
      rcases List.mem_cons.mp h with e | e
      · exact absurd e.symm hi
      · exact wipe_get_in e hl
theorem wipe_ext {σ τ : L2.St} {vs : List Nat} (hl : σ.length = τ.length) (h : ∀ i, i ∉ vs → σ[i]? = τ[i]?) : L2.wipe σ vs = L2.wipe τ vs := by
  apply List.ext_getElem?
  intro i
  by_cases hi : i ∈ vs
  · by_cases hs : i < σ.length
    · rw [wipe_get_in hi hs, wipe_get_in hi (by rw [← hl]; exact hs)]
    · rw [List.getElem?_eq_none (by rw [wipe_length]; omega), List.getElem?_eq_none (by rw [wipe_length]; omega)]
  · rw [wipe_out hi, wipe_out hi, h i hi]
theorem wipe_wipe (σ : L2.St) (vs : List Nat) : L2.wipe (L2.wipe σ vs) vs = L2.wipe σ vs := wipe_ext (wipe_length σ vs) fun i hi => wipe_out hi

def De (te : TE) (ds : Sd) (d : Dat) : Prop := ∀ σ N, Sl N σ ds → Ev te σ N fun v N' => Rp N' v d
def DeA (ta : TA) (ds : Sd) (es : List Dat) : Prop := ∀ σ N, Sl N σ ds → EvA ta σ N fun vs N' => RpA N' vs es
def DeB (tt : TT) (ds : Sd) (b : Bool) : Prop := ∀ σ N, Sl N σ ds → EvB tt σ N b
def DeN (te : TE) (ds : Sd) (es : List Dat) : Prop := ∀ σ N, Sl N σ ds → EvN te σ N es
theorem DeN.de {te : TE} {ds : Sd} {es : List Dat} (h : DeN te ds es) : De te ds (.list es) := fun σ N hs H k Q q => h σ N hs H k Q fun p vs N' H' s hp n e r =>
  q _ _ _ (s.know hp n e) (.lst upd_same (r.mono (same_new n)))
theorem De.to {te : TE} {ds : Sd} {d e : Dat} (h : De te ds d) (q : d = e) : De te ds e := by rw [← q]; exact h
theorem DeN.to {te : TE} {ds : Sd} {d e : List Dat} (h : DeN te ds d) (q : d = e) : DeN te ds e := by rw [← q]; exact h
theorem DeB.to {te : TT} {ds : Sd} {d e : Bool} (h : DeB te ds d) (q : d = e) : DeB te ds e := by rw [← q]; exact h
section
variable {ds : Sd} {ta tb te tc : TE} {t u : TT} {x y z : Dat}
theorem de_var {i : Nat} {d : Dat} (h : ds[i]? = some (some d)) : De (tVar i) ds d := fun σ N hs H k Q q =>
  let ⟨v, a, b⟩ := hs.2 i d h
  ⟨v, a, q v N H (Stp.refl k) b⟩
theorem de_int {i : Int} : De (tC (.int i)) ds (.int i) := fun _ N _ H k Q q => q _ N H (Stp.refl k) (.int i)
theorem de_bl {b : Bool} : De (tC (.bl b)) ds (.bool b) := fun _ N _ H k Q q => q _ N H (Stp.refl k) (.bl b)
theorem de_non : De (tC .non) ds .none := fun _ N _ H k Q q => q _ N H (Stp.refl k) .non
/-- two values and what an operation makes of them -/
def DR (r : R2) (x y z : Dat) : Prop := ∀ N v w, Rp N v x → Rp N w y → ∀ H, Same N H → ∀ Q : VK, (∀ u N' H', Stp N H N' H' → Rp N' u z → Q u H') → r v w H Q
def DC (r : List V → Hp → VK → Prop) (xs : List Dat) (z : Dat) : Prop := ∀ N vs, RpA N vs xs → ∀ H, Same N H → ∀ Q : VK, (∀ u N' H', Stp N H N' H' → Rp N' u z → Q u H') → r vs H Q
def DCN (r : List V → Hp → VK → Prop) (xs : List Dat) (zs : List Dat) : Prop := ∀ N vs, RpA N vs xs → ∀ H, Same N H → ∀ Q : VK,
  (∀ p us N' H', Stp N H N' H' → H p = none → N' p = none → H' p = some (.lst us) → RpA N' us zs → Q (.ref p) H') → r vs H Q
def DRN (r : R2) (x y : Dat) (zs : List Dat) : Prop := ∀ N v w, Rp N v x → Rp N w y → ∀ H, Same N H → ∀ Q : VK,
  (∀ p us N' H', Stp N H N' H' → H p = none → N' p = none → H' p = some (.lst us) → RpA N' us zs → Q (.ref p) H') → r v w H Q
theorem de_op {r : R2} (ha : De ta ds x) (hb : De tb ds y) (hr : DR r x y z) : De (tOp r ta tb) ds z := fun σ N hs H k Q q =>
  ha σ N hs H k _ fun v N1 H1 s1 r1 => hb σ N1 (hs.mono s1.nn) H1 s1.nh _ fun w N2 H2 s2 r2 => hr N2 v w (r1.mono s2.nn) r2 H2 s2.nh Q fun u N3 H3 s3 r3 => q u N3 H3 ((s1.trans s2).trans s3) r3
theorem den_op {r : R2} {zs : List Dat} (ha : De ta ds x) (hb : De tb ds y) (hr : DRN r x y zs) : DeN (tOp r ta tb) ds zs := fun σ N hs H k Q q =>
  ha σ N hs H k _ fun v N1 H1 s1 r1 => hb σ N1 (hs.mono s1.nn) H1 s1.nh _ fun w N2 H2 s2 r2 => hr N2 v w (r1.mono s2.nn) r2 H2 s2.nh Q fun p us N3 H3 s3 hp n e r3 =>
    q p us N3 H3 ((s1.trans s2).trans s3) (same_none (s1.hh.trans s2.hh) hp) n e r3
theorem de_un {r : V → Hp → VK → Prop} (ha : De ta ds x) (hr : ∀ N v, Rp N v x → ∀ H, Same N H → ∀ Q : VK, (∀ u N' H', Stp N H N' H' → Rp N' u z → Q u H') → r v H Q) : De (tUn r ta) ds z := fun σ N hs H k Q q =>
  ha σ N hs H k _ fun v N1 H1 s1 r1 => hr N1 v r1 H1 s1.nh Q fun u N3 H3 s3 r3 => q u N3 H3 (s1.trans s3) r3
theorem dea_nil : DeA tNil ds [] := fun _ N _ H k Q q => q [] N H (Stp.refl k) .nil
theorem dea_cons {tr : TA} {es : List Dat} (h : De ta ds x) (hr : DeA tr ds es) : DeA (tCons ta tr) ds (x :: es) := fun σ N hs H k Q q =>
  h σ N hs H k _ fun v N1 H1 s1 r1 => hr σ N1 (hs.mono s1.nn) H1 s1.nh _ fun vs N2 H2 s2 r2 => q _ N2 H2 (s1.trans s2) (.cons (r1.mono s2.nn) r2)
theorem dea_1 (h : De ta ds x) : DeA (tCons ta tNil) ds [x] := dea_cons h dea_nil
theorem dea_2 (h : De ta ds x) (h2 : De tb ds y) : DeA (tCons ta (tCons tb tNil)) ds [x, y] := dea_cons h (dea_1 h2)
theorem dea_3 (h : De ta ds x) (h2 : De tb ds y) (h3 : De tc ds z) : DeA (tCons ta (tCons tb (tCons tc tNil))) ds [x, y, z] := dea_cons h (dea_2 h2 h3)
theorem dea_starL {K : PySem.W.Frag} {tr : TA} {xs es : List Dat} (h : De ta ds (.list xs)) (hr : DeA tr ds es) : DeA (StX.tStar K ta tr) ds (xs ++ es) := fun σ N hs H k Q q =>
  h σ N hs H k _ fun v N1 H1 s1 r1 => by
    obtain ⟨a, us, rfl, ha, ra⟩ := r1.list_ref
    exact ⟨a, us, rfl, Or.inr (SqL.of (s1.nh _ _ ha)), hr σ N1 (hs.mono s1.nn) H1 s1.nh _ fun vs N2 H2 s2 r2 => q _ N2 H2 (s1.trans s2) ((ra.mono s2.nn).append r2)⟩
theorem dea_starT {K : PySem.W.Frag} {tr : TA} {xs es : List Dat} (h : De ta ds (.tuple xs)) (hr : DeA tr ds es) : DeA (StX.tStar K ta tr) ds (xs ++ es) := fun σ N hs H k Q q =>
  h σ N hs H k _ fun v N1 H1 s1 r1 => by
    obtain ⟨a, us, rfl, ha, ra⟩ := r1.tup_ref
    exact ⟨a, us, rfl, Or.inl (SqT.of (s1.nh _ _ ha)), hr σ N1 (hs.mono s1.nn) H1 s1.nh _ fun vs N2 H2 s2 r2 => q _ N2 H2 (s1.trans s2) ((ra.mono s2.nn).append r2)⟩
theorem de_tup {tr : TA} {es : List Dat} (h : DeA tr ds es) (hl : es.length ≤ 100000) : De (tTup tr) ds (.tuple es) := fun σ N hs H k Q q =>
  h σ N hs H k _ fun vs N1 H1 s1 r1 => ⟨by rw [r1.length]; exact Nat.le_trans hl (by decide), fun p hp => q _ _ _ (s1.trans (Stp.new s1.nh hp)) (.tup upd_same (r1.mono (same_new (same_none s1.nh hp))))⟩
theorem den_lst {tr : TA} {es : List Dat} (h : DeA tr ds es) (hl : es.length ≤ 100000) : DeN (tLst tr) ds es := fun σ N hs H k Q q =>
  h σ N hs H k _ fun vs N1 H1 s1 r1 => ⟨by rw [r1.length]; exact Nat.le_trans hl (by decide), fun p hp =>
    q p vs N1 _ (s1.trans (Stp.hid s1.nh hp)) (same_none s1.hh hp) (same_none s1.nh hp) upd_same r1⟩
theorem de_cb {r : List V → Hp → VK → Prop} {tr : TA} {es : List Dat} (h : DeA tr ds es) (hr : DC r es z) : De (tCB r tr) ds z := fun σ N hs H k Q q =>
  h σ N hs H k _ fun vs N1 H1 s1 r1 => hr N1 vs r1 H1 s1.nh Q fun u N2 H2 s2 r2 => q u N2 H2 (s1.trans s2) r2
theorem den_cb {r : List V → Hp → VK → Prop} {tr : TA} {es zs : List Dat} (h : DeA tr ds es) (hr : DCN r es zs) : DeN (tCB r tr) ds zs := fun σ N hs H k Q q =>
  h σ N hs H k _ fun vs N1 H1 s1 r1 => hr N1 vs r1 H1 s1.nh Q fun p us N2 H2 s2 hp n e r2 => q p us N2 H2 (s1.trans s2) (same_none s1.hh hp) n e r2
/-! tests -/
theorem deb_test {b : Bool} (h : De te ds (.bool b)) : DeB (tTest te) ds b := fun σ N hs H k Q q => h σ N hs H k _ fun v N1 H1 s1 r1 => ⟨b, r1.bool_eq, q N1 H1 s1⟩
theorem deb_B {b : Bool} (h : De te ds (.bool b)) : DeB (tB te) ds b := fun σ N hs H k Q q => h σ N hs H k _ fun v N1 H1 s1 r1 => ⟨b, r1.bool_eq, q N1 H1 s1⟩
def truD : Dat → Bool
  | .bool b => b
  | .int i => i != 0
  | .list xs => !xs.isEmpty
  | .tuple xs => !xs.isEmpty
  | _ => false
theorem deb_tru {K : PySem.W.Frag} (h : De te ds x) (hx : x ≠ .none := by intro z; cases z) (hx2 : nod x = true := by rfl) : DeB (fun σ H Q => te σ H fun x H' => ∃ k, TruV K x H' k ∧ Q k H') ds (truD x) := fun σ N hs H k Q q =>
  h σ N hs H k _ fun v N1 H1 s1 r1 => ⟨truD x, by
    cases r1 with
    | non => exact absurd rfl hx
    | bl b => rfl
    | int i => rfl
    | @lst a us es e t =>
      refine Or.inl ⟨us, SqL.of (s1.nh _ _ e), ?_⟩
      have := t.length
      cases us <;> cases es <;> simp_all [truD]
    | @tup a us es e t =>
      refine Or.inr (Or.inl ⟨us, SqT.of (s1.nh _ _ e), ?_⟩)
      have := t.length
      cases us <;> cases es <;> simp_all [truD]
    | dct e t => simp [nod] at hx2, q N1 H1 s1⟩
theorem deb_and {a b : Bool} (h1 : DeB t ds a) (h2 : a = true → DeB u ds b) : DeB (tAnd t u) ds (a && b) := fun σ N hs H k Q q => h1 σ N hs H k _ fun N1 H1 s1 => by
  cases a with
  | true =>
    show u σ H1 Q
    exact h2 rfl σ N1 (hs.mono s1.nn) H1 s1.nh Q fun N2 H2 s2 => q N2 H2 (s1.trans s2)
  | false =>
    show Q false H1
    exact q N1 H1 s1
theorem deb_or {a b : Bool} (h1 : DeB t ds a) (h2 : a = false → DeB u ds b) : DeB (tOr t u) ds (a || b) := fun σ N hs H k Q q => h1 σ N hs H k _ fun N1 H1 s1 => by
  cases a with
  | true =>
    show Q true H1
    exact q N1 H1 s1
  | false =>
    show u σ H1 Q
    exact h2 rfl σ N1 (hs.mono s1.nn) H1 s1.nh Q fun N2 H2 s2 => q N2 H2 (s1.trans s2)
theorem deb_not {a : Bool} (h1 : DeB t ds a) : DeB (tNot t) ds (!a) := fun σ N hs H k _ q => h1 σ N hs H k _ fun N1 H1 s1 => q N1 H1 s1
theorem de_if {b : Bool} (h : DeB t ds b) (h1 : b = true → De ta ds x) (h2 : b = false → De tb ds x) : De (tIf t ta tb) ds x := fun σ N hs H k Q q => h σ N hs H k _ fun N1 H1 s1 => by
  cases b with
  | true =>
    show ta σ H1 Q
    exact h1 rfl σ N1 (hs.mono s1.nn) H1 s1.nh Q fun v N2 H2 s2 r2 => q v N2 H2 (s1.trans s2) r2
  | false =>
    show tb σ H1 Q
    exact h2 rfl σ N1 (hs.mono s1.nn) H1 s1.nh Q fun v N2 H2 s2 r2 => q v N2 H2 (s1.trans s2) r2
theorem de_andV {a b : Bool} (h1 : De ta ds (.bool a)) (h2 : a = true → De tb ds (.bool b)) : De (tAndV ta tb) ds (.bool (a && b)) := fun σ N hs H k Q q => h1 σ N hs H k _ fun v N1 H1 s1 r1 => ⟨a, r1.bool_eq, by
  cases a with
  | true =>
    show tb σ H1 Q
    exact h2 rfl σ N1 (hs.mono s1.nn) H1 s1.nh Q fun v N2 H2 s2 r2 => q v N2 H2 (s1.trans s2) r2
  | false =>
    show Q (.bl false) H1
    exact q _ N1 H1 s1 (.bl false)⟩
theorem de_orV {a b : Bool} (h1 : De ta ds (.bool a)) (h2 : a = false → De tb ds (.bool b)) : De (tOrV ta tb) ds (.bool (a || b)) := fun σ N hs H k Q q => h1 σ N hs H k _ fun v N1 H1 s1 r1 => ⟨a, r1.bool_eq, by
  cases a with
  | true =>
    show Q (.bl true) H1
    exact q _ N1 H1 s1 (.bl true)
  | false =>
    show tb σ H1 Q
    exact h2 rfl σ N1 (hs.mono s1.nn) H1 s1.nh Q fun v N2 H2 s2 r2 => q v N2 H2 (s1.trans s2) r2⟩
theorem de_notV {a : Bool} (h1 : De ta ds (.bool a)) : De (tNotV ta) ds (.bool (!a)) := fun σ N hs H k _ q => h1 σ N hs H k _ fun v N1 H1 s1 r1 => ⟨a, r1.bool_eq, q _ N1 H1 s1 (.bl _)⟩
end

/-! ### calls -/
/-- a def without effects: its arguments' data and its answer's -/
def spD (Rl : List Dat → Dat → Prop) : Sp := fun vs H Q _ => ∃ N as r, Same N H ∧ RpA N vs as ∧ Rl as r ∧ ∀ v N' H', Stp N H N' H' → Rp N' v r → Q v H'
section
variable {ds : Sd} {ta : TA}
theorem de_call {Rl : List Dat → Dat → Prop} {E : XK} {es : List Dat} {z : Dat} (h : DeA ta ds es) (hr : Rl es z) : De (tCall (spD Rl) [] E ta) ds z := fun σ N hs H k Q q =>
  h σ N hs H k _ fun vs N1 H1 s1 r1 => ⟨N1, es, z, s1.nh, by rw [List.append_nil]; exact r1, hr, fun v N2 H2 s2 r2 => q v N2 H2 (s1.trans s2) r2⟩
end
end Ez

set_option Elab.async false
set_option linter.all false
set_option autoImplicit false
set_option maxRecDepth 100000
set_option maxHeartbeats 1000000
/-! operations and calls on data -/
namespace Ez
open PySem L2
section
variable {K : PySem.W.Frag} {w : World} {P : Program}
theorem sz5 {n : Nat} (h : n ≤ 100000) : n ≤ sizeLine := Nat.le_trans h (by decide)
/-! ### ints -/
theorem dr_I0 {g : Int → Int → Int} {i j : Int} : DR (rI0 fun i j => .int (g i j)) (.int i) (.int j) (.int (g i j)) := fun N v w hv hw H k Q q => ⟨i, j, hv.int_eq, hw.int_eq, q _ N H (Stp.refl k) (.int _)⟩
theorem dr_I {C : Int → Int → Prop} {g : Int → Int → Int} {i j : Int} (hc : C i j) : DR (rI C fun i j => .int (g i j)) (.int i) (.int j) (.int (g i j)) := fun N v w hv hw H k Q q => ⟨i, j, hv.int_eq, hw.int_eq, hc, q _ N H (Stp.refl k) (.int _)⟩
theorem dr_B0 {g : Int → Int → Bool} {i j : Int} : DR (rI0 fun i j => .bl (g i j)) (.int i) (.int j) (.bool (g i j)) := fun N v w hv hw H k Q q => ⟨i, j, hv.int_eq, hw.int_eq, q _ N H (Stp.refl k) (.bl _)⟩
theorem de_neg {ta : TE} {ds : Sd} {i : Int} (h : De ta ds (.int i)) : De (tUn (rU fun i => .int (-i)) ta) ds (.int (-i)) := de_un h fun N v hv H k Q q => ⟨i, hv.int_eq, q _ N H (Stp.refl k) (.int _)⟩
/-! ### == of data -/
mutual
theorem nod_lay : ∀ d : Dat, d.canLay0 = true → nod d = true
  | .none, _ => rfl
  | .bool _, _ => rfl
  | .int _, _ => rfl
  | .str _, _ => rfl
  | .list xs, h => by simp only [PyData.canLay0] at h; simp only [nod]; exact nod_layA xs h
  | .tuple xs, h => by simp only [PyData.canLay0] at h; simp only [nod]; exact nod_layA xs h
  | .dict _, h => by simp [PyData.canLay0] at h
theorem nod_layA : ∀ ds : List Dat, PyData.canLayAll0 ds = true → nodA ds = true
  | [], _ => rfl
  | d :: r, h => by
    simp only [PyData.canLayAll0, Bool.and_eq_true] at h
    simp only [nodA, Bool.and_eq_true]
    exact ⟨nod_lay d h.1, nod_layA r h.2⟩
end
theorem nod_sh {d : Dat} (h : SeqAt.shaped d = true) : nod d = true := nod_lay d (SeqAt.canLay_of_shaped h)
theorem dr_eqD {x y : Dat} (hx : SeqAt.shaped x = true) (hy : SeqAt.shaped y = true) : DR (rEqD K) x y (.bool (PyData.eqv x y)) := fun N v w hv hw H k Q q =>
  ⟨x, y, (hv.mono k).dp (nod_sh hx), (hw.mono k).dp (nod_sh hy), hx, hy, q _ N H (Stp.refl k) (.bl _)⟩
theorem dr_neD {x y : Dat} (hx : SeqAt.shaped x = true) (hy : SeqAt.shaped y = true) : DR (rNeD K) x y (.bool (!PyData.eqv x y)) := fun N v w hv hw H k Q q =>
  ⟨x, y, (hv.mono k).dp (nod_sh hx), (hw.mono k).dp (nod_sh hy), hx, hy, q _ N H (Stp.refl k) (.bl _)⟩
/-! ### in -/
theorem all_flat (ns : List Int) : (ns.map V.int).all flatV = true := by
  rw [List.all_map, List.all_eq_true]
  intro _ _
  rfl
theorem inV_ints (i : Int) : ∀ ns : List Int, inV (.int i) (ns.map V.int) = decide (i ∈ ns)
  | [] => rfl
  | n :: r => by
    have ih := inV_ints i r
    unfold inV at ih ⊢
    rw [List.map_cons, List.any_cons, ih]
    show ((n == i) || decide (i ∈ r)) = decide (i ∈ n :: r)
    by_cases e : n = i
    · subst e; simp
    · have e2 : ¬ i = n := fun z => e z.symm
      have e3 : (n == i) = false := beq_eq_false_iff_ne.mpr e
      rw [e3, Bool.false_or]
      simp [e2]
def isSeq (d : Dat) (xs : List Dat) : Prop := d = .list xs ∨ d = .tuple xs
theorem Rp.seq {H : Hp} {v : V} {d : Dat} {ds : List Dat} (h : Rp H v d) (s : isSeq d ds) : ∃ a xs, v = .ref a ∧ (SqL K H a xs ∨ SqT K H a xs) ∧ RpA H xs ds := by
  rcases s with rfl | rfl
  · obtain ⟨a, xs, e, h1, h2⟩ := h.list_ref
    exact ⟨a, xs, e, .inl (SqL.of h1), h2⟩
  · obtain ⟨a, xs, e, h1, h2⟩ := h.tup_ref
    exact ⟨a, xs, e, .inr (SqT.of h1), h2⟩
theorem dr_in {neg : Bool} {i : Int} {y : Dat} {ns : List Int} (hy : isSeq y (ns.map .int)) : DR (rIn K neg) (.int i) y (.bool (if neg then !decide (i ∈ ns) else decide (i ∈ ns))) := fun N v w hv hw H k Q q => by
  obtain ⟨a, xs, e, h1, h2⟩ := (hw.mono k).seq (K := K) hy
  have ex := rpa_ints h2
  subst ex
  refine ⟨a, _, e, h1, by rw [hv.int_eq]; rfl, all_flat ns, ?_⟩
  rw [hv.int_eq, inV_ints]
  exact q _ N H (Stp.refl k) (.bl _)
theorem dr_isIn {i : Int} {y : Dat} {ns : List Int} (hy : isSeq y (ns.map .int)) : DR (rIn K false) (.int i) y (.bool (decide (i ∈ ns))) := dr_in hy
theorem dr_notIn {i : Int} {y : Dat} {ns : List Int} (hy : isSeq y (ns.map .int)) : DR (rIn K true) (.int i) y (.bool (!decide (i ∈ ns))) := dr_in hy
/-! ### subscripts -/
theorem atI_of {xs : List V} {i : Int} {j : Nat} {v : V} (hj : ixN xs.length i = some j) (h : xs[j]? = some v) : atI xs i = some v := by
  unfold atI
  rw [hj]
  exact h
theorem dr_ix {x z : Dat} {xs : List Dat} {i : Int} {j : Nat} (hs : isSeq x xs) (hj : ixN xs.length i = some j) (h : xs[j]? = some z) : DR (rIx K) x (.int i) z := fun N v w hv hw H k Q q => by
  have hw2 := hw.int_eq
  rcases hs with rfl | rfl
  · obtain ⟨a, us, rfl, ha, ra⟩ := hv.list_ref
    obtain ⟨u, hu, ru⟩ := ra.get h
    exact .inl ⟨a, us, i, u, rfl, hw2, SqL.of (k _ _ ha), atI_of (by rw [ra.length]; exact hj) hu, q u N H (Stp.refl k) ru⟩
  · obtain ⟨a, us, rfl, ha, ra⟩ := hv.tup_ref
    obtain ⟨u, hu, ru⟩ := ra.get h
    exact .inr (.inl ⟨a, us, i, u, rfl, hw2, SqT.of (k _ _ ha), atI_of (by rw [ra.length]; exact hj) hu, q u N H (Stp.refl k) ru⟩)
theorem ixN_nat {n j : Nat} (h : j < n) : ixN n (j : Int) = some j := by
  unfold ixN
  rw [if_pos (Int.natCast_nonneg j), if_pos (by omega)]
  rfl
theorem ixN_last {n : Nat} (h : 0 < n) : ixN n (-1) = some (n - 1) := by
  unfold ixN
  rw [if_neg (by omega), if_pos (by omega)]
  congr 1
  omega
theorem dr_ixn {x z : Dat} {xs : List Dat} {j : Nat} (hs : isSeq x xs) (h : xs[j]? = some z) : DR (rIx K) x (.int (j : Int)) z := dr_ix hs (ixN_nat (List.getElem?_eq_some_iff.mp h).1) h
/-! ### + of lists, of tuples; * -/
theorem drn_cat {xs ys : List Dat} (hl : xs.length + ys.length ≤ 100000) : DRN rCat (.list xs) (.list ys) (xs ++ ys) := fun N v w hv hw H k Q q => by
  obtain ⟨a, us, rfl, ha, ra⟩ := hv.list_ref
  obtain ⟨b, ws, rfl, hb, rb⟩ := hw.list_ref
  exact ⟨a, b, us, ws, rfl, rfl, k _ _ ha, k _ _ hb, sz5 (by rw [ra.length, rb.length]; exact hl), fun p hp => q p _ N _ (Stp.hid k hp) hp (same_none k hp) upd_same (ra.append rb)⟩
theorem dr_catT {xs ys : List Dat} (hl : xs.length + ys.length ≤ 100000) : DR (rCatA K) (.tuple xs) (.tuple ys) (.tuple (xs ++ ys)) := fun N v w hv hw H k Q q => by
  obtain ⟨a, us, rfl, ha, ra⟩ := hv.tup_ref
  obtain ⟨b, ws, rfl, hb, rb⟩ := hw.tup_ref
  have e1 := ra.length
  have e2 := rb.length
  refine ⟨a, b, us, ws, rfl, rfl, SqT.of (k _ _ ha), SqT.of (k _ _ hb), sz5 (by rw [e1, e2]; exact hl), fun e => ?_, fun _ e => ?_, fun _ _ p hp => ?_⟩
  · subst e
    have : xs = [] := by cases xs <;> simp_all
    subst this
    exact q _ N H (Stp.refl k) (.tup hb rb)
  · subst e
    have : ys = [] := by cases ys <;> simp_all
    subst this
    exact q _ N H (Stp.refl k) (by rw [List.append_nil]; exact .tup ha ra)
  · exact q _ _ _ (Stp.new k hp) (.tup upd_same ((ra.append rb).mono (same_new (same_none k hp))))
/-! ### slices of tuples -/
theorem de_sliceT {te : TE} {tl th : TO} {ds : Sd} {xs : List Dat} {lo hi : Option Int} (he : De te ds (.tuple xs)) (hl : ∀ σ N, Sl N σ ds → ∀ H, Same N H → ∀ Q : Option Int → Hp → Prop, (∀ N' H', Stp N H N' H' → Q lo H') → tl σ H Q)
    (hh : ∀ σ N, Sl N σ ds → ∀ H, Same N H → ∀ Q : Option Int → Hp → Prop, (∀ N' H', Stp N H N' H' → Q hi H') → th σ H Q) :
    De (tSl (rSlA K) te tl th) ds (.tuple ((xs.drop (HT.sIx xs.length 0 lo)).take (HT.sIx xs.length xs.length hi - HT.sIx xs.length 0 lo))) := fun σ N hs H k Q q =>
  he σ N hs H k _ fun v N1 H1 s1 r1 => hl σ N1 (hs.mono s1.nn) H1 s1.nh _ fun N2 H2 s2 => hh σ N2 (hs.mono (s1.nn.trans s2.nn)) H2 s2.nh _ fun N3 H3 s3 => by
    have s13 := (s1.trans s2).trans s3
    obtain ⟨a, us, rfl, ha, ra⟩ := (r1.mono (s2.nn.trans s3.nn)).tup_ref
    have el := ra.length
    refine ⟨a, us, rfl, SqT.of (s3.nh _ _ ha), fun e => ?_, fun _ p hp => ?_⟩
    · obtain ⟨e1, e2⟩ := e
      rw [el] at e1 e2
      exact q _ N3 H3 s13 (by
        show Rp N3 _ (PyData.tuple ((xs.drop (HT.sIx xs.length 0 lo)).take (HT.sIx xs.length xs.length hi - HT.sIx xs.length 0 lo)))
        rw [e1, e2, List.drop_zero, Nat.sub_zero, List.take_length]
        exact .tup ha ra)
    · refine q _ _ _ (s13.trans (Stp.new s3.nh hp)) (.tup upd_same ?_)
      unfold cutV
      rw [el]
      exact ((ra.drop _).take _).mono (same_new (same_none s3.nh hp))
theorem part_no {ds : Sd} : ∀ σ N, Sl N σ ds → ∀ H, Same N H → ∀ Q : Option Int → Hp → Prop, (∀ N' H', Stp N H N' H' → Q none H') → tNoPart σ H Q := fun _ N _ H k _ q => q N H (Stp.refl k)
theorem part_of {ds : Sd} {te : TE} {i : Int} (h : De te ds (.int i)) : ∀ σ N, Sl N σ ds → ∀ H, Same N H → ∀ Q : Option Int → Hp → Prop, (∀ N' H', Stp N H N' H' → Q (some i) H') → tPart te σ H Q := fun σ N hs H k _ q =>
  h σ N hs H k _ fun v N1 H1 s1 r1 => ⟨i, r1.int_eq, q N1 H1 s1⟩
theorem slice_from {te tl : TE} {ds : Sd} {xs : List Dat} {n : Nat} (he : De te ds (.tuple xs)) (hl : De tl ds (.int (n : Int))) : De (tSl (rSlA K) te (tPart tl) tNoPart) ds (.tuple (xs.drop n)) :=
  (de_sliceT he (part_of hl) part_no).to (by
    rw [HT.sIx_nat, HT.sIx_none]
    congr 1
    rw [List.take_of_length_le (by rw [List.length_drop]; omega)]
    by_cases h : n ≤ xs.length
    · rw [Nat.min_eq_left h]
    · rw [Nat.min_eq_right (by omega), List.drop_length, List.drop_of_length_le (by omega)])
theorem slice_to {te tl : TE} {ds : Sd} {xs : List Dat} {n : Nat} (he : De te ds (.tuple xs)) (hl : De tl ds (.int (n : Int))) : De (tSl (rSlA K) te tNoPart (tPart tl)) ds (.tuple (xs.take n)) :=
  (de_sliceT he part_no (part_of hl)).to (by
    rw [HT.sIx_nat, HT.sIx_none, List.drop_zero, Nat.sub_zero]
    congr 1
    by_cases h : n ≤ xs.length
    · rw [Nat.min_eq_left h]
    · rw [Nat.min_eq_right (by omega), List.take_length, List.take_of_length_le (by omega)])
/-! ### calls of built-ins -/
theorem dc_len {x : Dat} {xs : List Dat} (h : isSeq x xs) : DC (fun vs H Q => ∃ p ys, vs = [.ref p] ∧ (SqL K H p ys ∨ SqT K H p ys) ∧ Q (.int ys.length) H) [x] (.int xs.length) := fun N vs hv H k Q q => by
  cases hv with
  | cons h1 h2 =>
    cases h2
    obtain ⟨a, us, rfl, e, r⟩ := (h1.mono k).seq (K := K) h
    refine ⟨a, us, rfl, e, ?_⟩
    rw [r.length]
    exact q _ N H (Stp.refl k) (.int _)
theorem dc_tuple {x : Dat} {xs : List Dat} (h : isSeq x xs) : DC (fun vs H Q => ∃ p ys, vs = [.ref p] ∧ ((SqL K H p ys ∧ ∀ l, H l = none → Q (.ref l) (upd H l (.tup ys))) ∨ (SqT K H p ys ∧ Q (.ref p) H))) [x] (.tuple xs) := fun N vs hv H k Q q => by
  cases hv with
  | cons h1 h2 =>
    cases h2
    rcases h with rfl | rfl
    · obtain ⟨a, us, rfl, ha, ra⟩ := h1.list_ref
      exact ⟨a, us, rfl, .inl ⟨SqL.of (k _ _ ha), fun p hp => q _ _ _ (Stp.new k hp) (.tup upd_same (ra.mono (same_new (same_none k hp))))⟩⟩
    · obtain ⟨a, us, rfl, ha, ra⟩ := h1.tup_ref
      exact ⟨a, us, rfl, .inr ⟨SqT.of (k _ _ ha), q _ N H (Stp.refl k) (.tup ha ra)⟩⟩
theorem dcn_list {x : Dat} {xs : List Dat} (h : isSeq x xs) : DCN (fun vs H Q => ∃ p ys, vs = [.ref p] ∧ (SqL K H p ys ∨ SqT K H p ys) ∧ ∀ l, H l = none → Q (.ref l) (upd H l (.lst ys))) [x] xs := fun N vs hv H k Q q => by
  cases hv with
  | cons h1 h2 =>
    cases h2
    rcases h with rfl | rfl
    · obtain ⟨a, us, rfl, ha, ra⟩ := h1.list_ref
      exact ⟨a, us, rfl, .inl (SqL.of (k _ _ ha)), fun p hp => q p _ N _ (Stp.hid k hp) hp (same_none k hp) upd_same ra⟩
    · obtain ⟨a, us, rfl, ha, ra⟩ := h1.tup_ref
      exact ⟨a, us, rfl, .inr (SqT.of (k _ _ ha)), fun p hp => q p _ N _ (Stp.hid k hp) hp (same_none k hp) upd_same ra⟩
theorem dc_sum {ns : List Int} : DC (rSum K) [.list (ns.map .int)] (.int ns.sum) := fun N vs hv H k Q q => by
  cases hv with
  | cons h1 h2 =>
    cases h2
    obtain ⟨a, us, rfl, ha, ra⟩ := h1.list_ref
    rw [rpa_ints ra] at ha
    exact ⟨a, ns, rfl, SqL.of (k _ _ ha), q _ N H (Stp.refl k) (.int _)⟩
theorem dc_any {bs : List Bool} : DC (rAny K) [.list (bs.map .bool)] (.bool (bs.any id)) := fun N vs hv H k Q q => by
  cases hv with
  | cons h1 h2 =>
    cases h2
    obtain ⟨a, us, rfl, ha, ra⟩ := h1.list_ref
    rw [rpa_bools ra] at ha
    exact ⟨a, bs, rfl, SqL.of (k _ _ ha), q _ N H (Stp.refl k) (.bl _)⟩
theorem dc_all {bs : List Bool} : DC (rAll K) [.list (bs.map .bool)] (.bool (bs.all id)) := fun N vs hv H k Q q => by
  cases hv with
  | cons h1 h2 =>
    cases h2
    obtain ⟨a, us, rfl, ha, ra⟩ := h1.list_ref
    rw [rpa_bools ra] at ha
    exact ⟨a, bs, rfl, SqL.of (k _ _ ha), q _ N H (Stp.refl k) (.bl _)⟩
theorem dc_abs {i : Int} : DC (fun xs H Q => ∃ i, xs = [.int i] ∧ Q (.int (if i < 0 then -i else i)) H) [.int i] (.int (if i < 0 then -i else i)) := fun N vs hv H k Q q => by
  cases hv with
  | cons h1 h2 =>
    cases h2
    rw [h1.int_eq]
    exact ⟨i, rfl, q _ N H (Stp.refl k) (.int _)⟩
theorem dc_int {i : Int} : DC (fun xs H Q => (∃ i, xs = [.int i] ∧ Q (.int i) H) ∨ ∃ k, xs = [.bl k] ∧ Q (.int (if k then 1 else 0)) H) [.int i] (.int i) := fun N vs hv H k Q q => by
  cases hv with
  | cons h1 h2 =>
    cases h2
    rw [h1.int_eq]
    exact .inl ⟨i, rfl, q _ N H (Stp.refl k) (.int _)⟩
theorem dc_intB {b : Bool} : DC (fun xs H Q => (∃ i, xs = [.int i] ∧ Q (.int i) H) ∨ ∃ k, xs = [.bl k] ∧ Q (.int (if k then 1 else 0)) H) [.bool b] (.int (if b then 1 else 0)) := fun N vs hv H k Q q => by
  cases hv with
  | cons h1 h2 =>
    cases h2
    rw [h1.bool_eq]
    exact .inr ⟨b, rfl, q _ N H (Stp.refl k) (.int _)⟩
theorem dc_min2 {i j : Int} : DC (fun xs H Q => ∃ i j, xs = [.int i, .int j] ∧ Q (.int (if j < i then j else i)) H) [.int i, .int j] (.int (if j < i then j else i)) := fun N vs hv H k Q q => by
  cases hv with
  | cons h1 h2 =>
    cases h2 with
    | cons h3 h4 =>
      cases h4
      rw [h1.int_eq, h3.int_eq]
      exact ⟨i, j, rfl, q _ N H (Stp.refl k) (.int _)⟩
/-! ranges -/
theorem rgV_nat (n : Nat) : rgV 0 (n : Int) = ((List.range n).map fun i : Nat => (i : Int)).map V.int := by
  unfold rgV
  rw [List.map_map, show ((n : Int) - 0).toNat = n by omega]
  apply List.map_congr_left
  intro i _
  show V.int (0 + (i : Int)) = V.int (i : Int)
  rw [Int.zero_add]
theorem den_listRg {ta : TE} {ds : Sd} {n : Nat} (h : De ta ds (.int (n : Int))) (hn : n ≤ 1000) : DeN (tLstRg (tRg1 ta)) ds ((List.range n).map fun i : Nat => .int (i : Int)) := fun σ N hs H k Q q =>
  h σ N hs H k _ fun v N1 H1 s1 r1 => ⟨n, r1.int_eq, ⟨by omega, by omega, by omega, by omega, by omega⟩, fun p hp => by
    rw [rgV_nat]
    refine q p _ N1 _ (s1.trans (Stp.hid s1.nh hp)) (same_none s1.hh hp) (same_none s1.nh hp) upd_same ?_
    have e := rp_ints (H := N1) ((List.range n).map fun i : Nat => (i : Int))
    rw [List.map_map] at e
    rw [List.map_map] at e
    rw [List.map_map]
    exact e⟩
end
end Ez

set_option Elab.async false
set_option linter.all false
set_option autoImplicit false
set_option maxRecDepth 100000
set_option maxHeartbeats 1000000
/-! sorted, sets, what is walked, comprehensions, on data -/
namespace Ez
open PySem L2 Fz
section
variable {K : PySem.W.Frag} {w : World} {P : Program}
theorem RpA.paired {H : Hp} : ∀ {vs : List V} {ds : List Dat}, RpA H vs ds → Paired (fun v d => Rp H v d) vs ds
  | _, _, .nil => .nil
  | _, _, .cons h t => .cons h (RpA.paired t)
theorem rpa_paired {H : Hp} : ∀ {vs : List V} {ds : List Dat}, Paired (fun v d => Rp H v d) vs ds → RpA H vs ds
  | _, _, .nil => .nil
  | _, _, .cons h t => .cons h (rpa_paired t)
theorem paired_nod {H : Hp} : ∀ {vs : List V} {ds : List Dat}, Paired (fun v d => Rp H v d) vs ds → nodA ds = true → Paired (fun v d => Rp H v d ∧ nod d = true) vs ds
  | _, _, .nil, _ => .nil
  | _, _, .cons h t, n => by
    simp only [nodA, Bool.and_eq_true] at n
    exact .cons ⟨h, n.1⟩ (paired_nod t n.2)
/-! ### sorted -/
theorem dcn_sort {x : Dat} {ds : List Dat} (hs : isSeq x ds) (hal : PySem.W.AllAlike ds) (hk : CanSort ds) (hz : ∀ d ∈ ds, d.depth ≤ 8) (hn : nodA ds = true) : DCN (rSortD K) [x] (srt ds) := fun N vs hv H k Q q => by
  cases hv with
  | cons h1 h2 =>
    cases h2
    rcases hs with rfl | rfl
    · obtain ⟨a, us, rfl, ha, ra⟩ := h1.list_ref
      exact ⟨a, us, ds, fun v d => Rp N v d ∧ nod d = true, rfl, .inl (SqL.of (k _ _ ha)), paired_nod ra.paired hn, fun x d r => (r.1.mono k).dp r.2, hal, hk, hz, fun ys p hp r => q p ys N _ (Stp.hid k hp) hp (same_none k hp) upd_same (rpa_paired (L2.Paired.mapP r fun _ _ z => z.1))⟩
    · obtain ⟨a, us, rfl, ha, ra⟩ := h1.tup_ref
      exact ⟨a, us, ds, fun v d => Rp N v d ∧ nod d = true, rfl, .inr (SqT.of (k _ _ ha)), paired_nod ra.paired hn, fun x d r => (r.1.mono k).dp r.2, hal, hk, hz, fun ys p hp r => q p ys N _ (Stp.hid k hp) hp (same_none k hp) upd_same (rpa_paired (L2.Paired.mapP r fun _ _ z => z.1))⟩
/-- lists of ints, sorted -/
theorem allAlike_ints (ns : List Int) : PySem.W.AllAlike (ns.map PyData.int) := PySem.W.AllAlike.of fun b b' => by simp [PySem.W.alike]
theorem canSort_ints (ns : List Int) : CanSort (ns.map PyData.int) := .inl (.inr fun d hd => by
  obtain ⟨i, _, rfl⟩ := List.mem_map.mp hd
  refine ⟨?_, ?_⟩
  · intro z; cases z
  · intro xs z; cases z)
theorem depth_int (ns : List Int) : ∀ d ∈ ns.map PyData.int, d.depth ≤ 8 := fun d hd => by
  obtain ⟨i, _, rfl⟩ := List.mem_map.mp hd
  simp [PyData.depth]
/-! ### sorted(set(..)) -/
/-- the ascending list of the members -/
structure AscI (ns ms : List Int) : Prop where
  asc : ms.Pairwise (· < ·)
  mem : ∀ k, k ∈ ms ↔ k ∈ ns
theorem asc_uniq : ∀ {ms ks : List Int}, ms.Pairwise (· < ·) → ks.Pairwise (· < ·) → (∀ k, k ∈ ms ↔ k ∈ ks) → ms = ks
  | [], [], _, _, _ => rfl
  | [], k :: ks, _, _, h => by have := (h k).mpr List.mem_cons_self; simp at this
  | m :: ms, [], _, _, h => by have := (h m).mp List.mem_cons_self; simp at this
  | m :: ms, k :: ks, h1, h2, h => by
    obtain ⟨a1, b1⟩ := List.pairwise_cons.mp h1
    obtain ⟨a2, b2⟩ := List.pairwise_cons.mp h2
    have e : m = k := by
      rcases List.mem_cons.mp ((h m).mp List.mem_cons_self) with e | e
      · exact e
      · rcases List.mem_cons.mp ((h k).mpr List.mem_cons_self) with e2 | e2
        · exact e2.symm
        · have q1 := a2 m e
          have q2 := a1 k e2
          omega
    subst e
    rw [asc_uniq b1 b2 fun x => ?_]
    constructor
    · intro hx
      rcases List.mem_cons.mp ((h x).mp (List.mem_cons_of_mem _ hx)) with e | e
      · exact absurd (a1 x hx) (by omega)
      · exact e
    · intro hx
      rcases List.mem_cons.mp ((h x).mpr (List.mem_cons_of_mem _ hx)) with e | e
      · exact absurd (a2 x hx) (by omega)
      · exact e
theorem AscI.uniq {ns ms ks : List Int} (h1 : AscI ns ms) (h2 : AscI ns ks) : ms = ks := asc_uniq h1.asc h2.asc fun k => (h1.mem k).trans (h2.mem k).symm
abbrev rSortTwo (K : PySem.W.Frag) (P : Program) (w : World) : List V → Hp → VK → Prop := fun xs H Q => rSortedSet w xs H Q ∨ rSortTS K P w xs H Q
abbrev rSetTwo (K : PySem.W.Frag) (P : Program) (w : World) : List V → Hp → VK → Prop := fun xs H Q => rSetI K w xs H Q ∨ rSetOfT K P w xs H Q
theorem den_setI {tx : TE} {ds : Sd} {ns ms : List Int} (h : De tx ds (.list (ns.map .int))) (hl : ns.length ≤ 60) (hm : AscI ns ms) :
    DeN (tCB (rSortTwo K P w) (tCons (tCB (rSetTwo K P w) (tCons tx tNil)) tNil)) ds (ms.map .int) := fun σ N hs H k Q q =>
  h σ N hs H k _ fun v N1 H1 s1 r1 => by
    obtain ⟨l, us, rfl, hl1, ra⟩ := r1.list_ref
    rw [rpa_ints ra] at hl1
    refine Or.inl ⟨l, ns, rfl, SqL.of (s1.nh _ _ hl1), by omega, fun a c ha hc => ?_⟩
    refine Or.inl ⟨a, _, c, rfl, upd_same, by omega, fun ks p h1 h2 h3 hp => ?_⟩
    have e : ks = ms := AscI.uniq (ns := ns) ⟨h1, fun k => by rw [h2 k, decide_eq_true_eq]⟩ hm
    subst e
    have sa := s1.trans (Stp.hid (o := SetO w a (fun j => decide (j ∈ ns)) c) s1.nh ha)
    have sb := sa.trans (Stp.hid (o := .lst (ks.map V.int)) sa.nh hp)
    exact q p _ N1 _ sb (same_none sa.hh hp) (same_none sa.nh hp) upd_same (rp_ints ks)
/-- the same of tuples of ints: r is what sorting any list of the members, each once, makes -/
structure AscT (ks : List (List Int)) (r : List Dat) : Prop where
  of : ∀ L1 : List (List Int), L1.Nodup → (∀ k, k ∈ L1 ↔ k ∈ ks) → srt (L1.map tI) = r
theorem rpa_tI {N : Hp} : ∀ {vs : List V} {ks : List (List Int)}, RpA N vs (ks.map tI) → ∃ L : List (Addr × List Int), vs = L.map (fun p => V.ref p.1) ∧ ks = L.map (·.2) ∧ ∀ p ∈ L, N p.1 = some (.tup (p.2.map V.int))
  | [], [], _ => ⟨[], rfl, rfl, fun p hp => by cases hp⟩
  | _, k :: ks, .cons h t => by
    obtain ⟨L, e1, e2, e3⟩ := rpa_tI t
    obtain ⟨a, us, rfl, ha, ra⟩ := Rp.tup_ref (show Rp N _ (.tuple (k.map .int)) from h)
    rw [rpa_ints ra] at ha
    exact ⟨(a, k) :: L, by rw [e1]; rfl, by rw [e2]; rfl, fun p hp => by
      rcases List.mem_cons.mp hp with e | e
      · rw [e]; exact ha
      · exact e3 p e⟩
theorem rpa_refs {N : Hp} : ∀ L : List (Addr × List Int), (∀ p ∈ L, N p.1 = some (.tup (p.2.map V.int))) → RpA N (L.map fun q => V.ref q.1) (L.map dT2)
  | [], _ => .nil
  | q :: r, h => .cons (.tup (h q List.mem_cons_self) (rp_ints q.2)) (rpa_refs r fun z hz => h z (List.mem_cons_of_mem _ hz))
theorem den_setT {tx : TE} {ds : Sd} {ks : List (List Int)} {r : List Dat} (h : De tx ds (.list (ks.map tI))) (hl : ks.length ≤ 60) (hne : ∀ k ∈ ks, k ≠ []) (hm : AscT ks r) :
    DeN (tCB (rSortTwo K P w) (tCons (tCB (rSetTwo K P w) (tCons tx tNil)) tNil)) ds r := fun σ N hs H k Q q =>
  h σ N hs H k _ fun v N1 H1 s1 r1 => by
    obtain ⟨l, us, rfl, hl1, ra⟩ := r1.list_ref
    obtain ⟨L, rfl, rfl, hL⟩ := rpa_tI ra
    refine Or.inr ⟨l, L, rfl, SqL.of (s1.nh _ _ hl1), fun p hp => SqT.of (s1.nh _ _ (hL p hp)), by rw [List.length_map] at hl; omega, fun a L2 ha h1 h2 => ?_⟩
    have sa := s1.trans (Stp.hid (o := SetTO P w a L2) s1.nh ha)
    refine Or.inr ⟨a, L2, rfl, upd_same, fun p hp => SqT.of (sa.nh _ _ (hL p (h1 p hp))), fun p hp => hne _ (List.mem_map.mpr ⟨p, h1 p hp, rfl⟩), fun L1 L' p n1 m1 sub e hp => ?_⟩
    have er : srt (L1.map tI) = r := hm.of L1 n1 fun k => by
      rw [m1 k]
      constructor
      · intro hk
        obtain ⟨p, hp, rfl⟩ := List.mem_map.mp hk
        exact List.mem_map.mpr ⟨p, h1 p hp, rfl⟩
      · intro hk
        obtain ⟨p, hp, rfl⟩ := List.mem_map.mp hk
        exact h2 p hp
    rw [er] at e
    subst e
    have sb := sa.trans (Stp.hid (o := .lst (L'.map fun q => V.ref q.1)) sa.nh hp)
    exact q p _ N1 _ sb (same_none sa.hh hp) (same_none sa.nh hp) upd_same (rpa_refs L' fun z hz => hL z (h1 z (sub z hz)))

/-! ### what is walked -/
structure Wk (J : It) (N : Hp) (items : List Dat) : Prop where
  stop : ∀ H1, Same N H1 → J.stop items.length H1
  go : ∀ i H1, i < items.length → Same N H1 → J.go i H1
  yld : ∀ i d N1 H1 x H2, items[i]? = some d → Same N N1 → Same N1 H1 → J.yld i H1 x H2 → ∃ N2, Stp N1 H1 N2 H2 ∧ Rp N2 x d
def DeI (wi : TI) (ds : Sd) (items : List Dat) : Prop := ∀ σ N, Sl N σ ds → ∀ H, Same N H → ∀ R : It → Hp → Prop, (∀ J N' H', Stp N H N' H' → Wk J N' items → R J H') → wi σ H R
theorem dei_list {tl : TE} {ds : Sd} {xs : List Dat} (h : De tl ds (.list xs)) : DeI (iList K tl) ds xs := fun σ N hs H k R q =>
  h σ N hs H k _ fun v N1 H1 s1 r1 => by
    obtain ⟨a, us, rfl, ha, ra⟩ := r1.list_ref
    refine ⟨a, rfl, ⟨us, SqL.of (s1.nh _ _ ha)⟩, q _ N1 H1 s1 ⟨fun H2 k2 => ⟨us, SqL.of (k2 _ _ ha), Nat.le_of_eq ra.length⟩, fun i H2 hi k2 => ?_, fun i d N2 H2 x H3 hd k2 k3 hy => ?_⟩⟩
    · obtain ⟨u, hu, _⟩ := ra.get (List.getElem?_eq_getElem hi)
      exact ⟨us, u, SqL.of (k2 _ _ ha), hu⟩
    · obtain ⟨rfl, hx⟩ := hy
      obtain ⟨u, hu, ru⟩ := ra.get hd
      have e := hx us (SqL.of (k3 _ _ (k2 _ _ ha)))
      rw [hu] at e
      cases e
      exact ⟨N2, Stp.refl k3, ru.mono k2⟩
theorem dei_tup {tl : TE} {ds : Sd} {xs : List Dat} (h : De tl ds (.tuple xs)) : DeI (iTup K tl) ds xs := fun σ N hs H k R q =>
  h σ N hs H k _ fun v N1 H1 s1 r1 => by
    obtain ⟨a, us, rfl, ha, ra⟩ := r1.tup_ref
    refine ⟨a, rfl, ⟨us, SqT.of (s1.nh _ _ ha)⟩, q _ N1 H1 s1 ⟨fun H2 k2 => ⟨us, SqT.of (k2 _ _ ha), Nat.le_of_eq ra.length⟩, fun i H2 hi k2 => ?_, fun i d N2 H2 x H3 hd k2 k3 hy => ?_⟩⟩
    · obtain ⟨u, hu, _⟩ := ra.get (List.getElem?_eq_getElem hi)
      exact ⟨us, u, SqT.of (k2 _ _ ha), hu⟩
    · obtain ⟨rfl, hx⟩ := hy
      obtain ⟨u, hu, ru⟩ := ra.get hd
      have e := hx us (SqT.of (k3 _ _ (k2 _ _ ha)))
      rw [hu] at e
      cases e
      exact ⟨N2, Stp.refl k3, ru.mono k2⟩
theorem TI.or_l {wi wj : TI} {ds : Sd} {xs : List Dat} (h : DeI wi ds xs) : DeI (fun σ H R => wi σ H R ∨ wj σ H R) ds xs := fun σ N hs H k R q => .inl (h σ N hs H k R q)
theorem TI.or_r {wi wj : TI} {ds : Sd} {xs : List Dat} (h : DeI wj ds xs) : DeI (fun σ H R => wi σ H R ∨ wj σ H R) ds xs := fun σ N hs H k R q => .inr (h σ N hs H k R q)
/-- the ints a, a + 1, .. -/
def rngD (a : Int) (n : Nat) : List Dat := (List.range n).map fun i => .int (a + (i : Nat))
theorem rngD_len (a : Int) (n : Nat) : (rngD a n).length = n := by unfold rngD; rw [List.length_map, List.length_range]
theorem wk_rng (a : Int) (n : Nat) (N : Hp) : Wk (Itr a n) N (rngD a n) := by
  refine ⟨fun H1 _ => ?_, fun i H1 hi _ => ?_, fun i d N1 H1 x H2 hd k1 k2 hy => ?_⟩
  · show n ≤ (rngD a n).length
    rw [rngD_len]
    exact Nat.le_refl _
  · rw [rngD_len] at hi
    exact hi
  · obtain ⟨rfl, rfl⟩ := hy
    unfold rngD at hd
    rw [List.getElem?_map] at hd
    cases e : (List.range n)[i]? with
    | none => rw [e] at hd; cases hd
    | some j =>
      rw [e] at hd
      have ej : j = i := by
        have := List.getElem?_eq_some_iff.mp e
        obtain ⟨h1, h2⟩ := this
        rw [List.getElem_range] at h2
        exact h2.symm
      subst ej
      have ed := Option.some.inj hd
      subst ed
      exact ⟨N1, Stp.refl k2, .int _⟩
theorem dei_rng1 {ta : TE} {ds : Sd} {n : Nat} (h : De ta ds (.int (n : Int))) (hn : n ≤ 100000) : DeI (iRng1 (tCons ta tNil)) ds (rngD 0 n) := fun σ N hs H k R q =>
  h σ N hs H k _ fun v N1 H1 s1 r1 => ⟨n, by rw [r1.int_eq], by omega, by omega, by
    rw [show ((n : Int)).toNat = n by omega]
    exact q _ N1 H1 s1 (wk_rng 0 n N1)⟩
theorem dei_rng2 {ta tb : TE} {ds : Sd} {a : Int} {n : Nat} (h : De ta ds (.int a)) (h2 : De tb ds (.int (a + (n : Nat)))) (hn : n ≤ 100000 ∧ -100000 ≤ a ∧ a ≤ 100000) : DeI (iRng2 (tCons ta (tCons tb tNil))) ds (rngD a n) := fun σ N hs H k R q =>
  h σ N hs H k _ fun v N1 H1 s1 r1 => h2 σ N1 (hs.mono s1.nn) H1 s1.nh _ fun u N2 H2 s2 r2 => ⟨a, a + n, by rw [r1.int_eq, r2.int_eq], ⟨by omega, by omega, by omega, by omega⟩, by
    rw [show (a + (n : Int) - a).toNat = n by omega]
    exact q _ N2 H2 (s1.trans s2) (wk_rng a n N2)⟩
/-- pairs (i, x) -/
def enumD (xs : List Dat) : List Dat := xs.zipIdx.map fun p => .tuple [.int ((p.2 : Nat) : Int), p.1]
theorem enumD_len (xs : List Dat) : (enumD xs).length = xs.length := by unfold enumD; simp
theorem enumD_get {xs : List Dat} {i : Nat} {d : Dat} (h : (enumD xs)[i]? = some d) : ∃ x, xs[i]? = some x ∧ d = .tuple [.int (i : Int), x] := by
  unfold enumD at h
  rw [List.getElem?_map, List.getElem?_zipIdx] at h
  cases e : xs[i]? with
  | none => rw [e] at h; cases h
  | some x =>
    rw [e] at h
    have := Option.some.inj h
    exact ⟨x, rfl, by rw [← this]; simp⟩
theorem dei_enumL {ta : TE} {ds : Sd} {xs : List Dat} (h : De ta ds (.list xs)) : DeI (iEnum K (tCons ta tNil)) ds (enumD xs) := fun σ N hs H k R q =>
  h σ N hs H k _ fun v N1 H1 s1 r1 => by
    obtain ⟨a, us, rfl, ha, ra⟩ := r1.list_ref
    refine ⟨a, us, rfl, SqL.of (s1.nh _ _ ha), q _ N1 H1 s1 ⟨fun H2 k2 => ⟨us, SqL.of (k2 _ _ ha), by rw [enumD_len, ra.length]; exact Nat.le_refl _⟩, fun i H2 hi k2 => ?_, fun i d N2 H2 x H3 hd k2 k3 hy => ?_⟩⟩
    · rw [enumD_len] at hi
      obtain ⟨u, hu, _⟩ := ra.get (List.getElem?_eq_getElem hi)
      exact ⟨us, u, SqL.of (k2 _ _ ha), hu⟩
    · obtain ⟨T, y, rfl, hT, rfl, hx⟩ := hy
      obtain ⟨z, hz, rfl⟩ := enumD_get hd
      obtain ⟨u, hu, ru⟩ := ra.get hz
      have e := hx us (SqL.of (k3 _ _ (k2 _ _ ha)))
      rw [hu] at e
      cases e
      exact ⟨_, Stp.new k3 hT, .tup upd_same (.cons (.int _) (.cons ((ru.mono k2).mono (same_new (same_none k3 hT))) .nil))⟩
theorem dei_enumT {ta : TE} {ds : Sd} {xs : List Dat} (h : De ta ds (.tuple xs)) : DeI (iEnumT K (tCons ta tNil)) ds (enumD xs) := fun σ N hs H k R q =>
  h σ N hs H k _ fun v N1 H1 s1 r1 => by
    obtain ⟨a, us, rfl, ha, ra⟩ := r1.tup_ref
    refine ⟨a, us, rfl, SqT.of (s1.nh _ _ ha), q _ N1 H1 s1 ⟨fun H2 k2 => ⟨us, SqT.of (k2 _ _ ha), by rw [enumD_len, ra.length]⟩, fun i H2 hi k2 => ?_, fun i d N2 H2 x H3 hd k2 k3 hy => ?_⟩⟩
    · rw [enumD_len] at hi
      obtain ⟨u, hu, _⟩ := ra.get (List.getElem?_eq_getElem hi)
      exact ⟨us, u, SqT.of (k2 _ _ ha), hu⟩
    · obtain ⟨T, y, rfl, hT, rfl, hx⟩ := hy
      obtain ⟨z, hz, rfl⟩ := enumD_get hd
      obtain ⟨u, hu, ru⟩ := ra.get hz
      have e := hx us (SqT.of (k3 _ _ (k2 _ _ ha)))
      rw [hu] at e
      cases e
      exact ⟨_, Stp.new k3 hT, .tup upd_same (.cons (.int _) (.cons ((ru.mono k2).mono (same_new (same_none k3 hT))) .nil))⟩
/-- pairs of two sequences of one length and kind -/
def zipD (xs ys : List Dat) : List Dat := (xs.zip ys).map fun p => .tuple [p.1, p.2]
theorem zipD_get {xs ys : List Dat} {i : Nat} {d : Dat} (h : (zipD xs ys)[i]? = some d) : ∃ x y, xs[i]? = some x ∧ ys[i]? = some y ∧ d = .tuple [x, y] := by
  unfold zipD at h
  rw [List.getElem?_map] at h
  cases e : (xs.zip ys)[i]? with
  | none => rw [e] at h; cases h
  | some p =>
    rw [e] at h
    obtain ⟨h1, h2⟩ := List.getElem?_zip_eq_some.mp e
    have := Option.some.inj h
    exact ⟨p.1, p.2, h1, h2, this.symm⟩
theorem dei_zipL {ta tb : TE} {ds : Sd} {xs ys : List Dat} (h : De ta ds (.list xs)) (h2 : De tb ds (.list ys)) (hl : xs.length = ys.length) : DeI (RZ.iZipA K (tCons ta (tCons tb tNil))) ds (zipD xs ys) := fun σ N hs H k R q =>
  h σ N hs H k _ fun v N1 H1 s1 r1 => h2 σ N1 (hs.mono s1.nn) H1 s1.nh _ fun v2 N2 H2 s2 r2 => by
    obtain ⟨a, us, rfl, ha, ra⟩ := (r1.mono s2.nn).list_ref
    obtain ⟨b, ws, rfl, hb, rb⟩ := r2.list_ref
    have e1 := ra.length
    have e2 := rb.length
    have ez : (zipD xs ys).length = us.length := by unfold zipD; simp [hl]; omega
    refine ⟨a, b, us, ws, rfl, .inl ⟨SqL.of (s2.nh _ _ ha), SqL.of (s2.nh _ _ hb), q _ N2 H2 (s1.trans s2) ⟨fun H3 k3 => ⟨us, ws, SqL.of (k3 _ _ ha), SqL.of (k3 _ _ hb), .inl (by omega)⟩, fun i H3 hi k3 => ?_, fun i d N3 H3 x H4 hd k3 k4 hy => ?_⟩⟩⟩
    · obtain ⟨u, hu, _⟩ := ra.get (List.getElem?_eq_getElem (show i < xs.length by omega))
      obtain ⟨z, hz, _⟩ := rb.get (List.getElem?_eq_getElem (show i < ys.length by omega))
      exact ⟨us, ws, u, z, SqL.of (k3 _ _ ha), SqL.of (k3 _ _ hb), hu, hz⟩
    · obtain ⟨T, x1, x2, rfl, hT, rfl, hx1, hx2⟩ := hy
      obtain ⟨d1, d2, g1, g2, rfl⟩ := zipD_get hd
      obtain ⟨u, hu, ru⟩ := ra.get g1
      obtain ⟨z, hz, rz⟩ := rb.get g2
      have q1 := hx1 us (SqL.of (k4 _ _ (k3 _ _ ha)))
      have q2 := hx2 ws (SqL.of (k4 _ _ (k3 _ _ hb)))
      rw [hu] at q1
      rw [hz] at q2
      cases q1
      cases q2
      have kk := same_new (H := N3) (p := T) (o := .tup [x1, x2]) (same_none k4 hT)
      exact ⟨_, Stp.new k4 hT, .tup upd_same (.cons ((ru.mono k3).mono kk) (.cons ((rz.mono k3).mono kk) .nil))⟩
theorem dei_zipT {ta tb : TE} {ds : Sd} {xs ys : List Dat} (h : De ta ds (.tuple xs)) (h2 : De tb ds (.tuple ys)) (hl : xs.length = ys.length) : DeI (RZ.iZipA K (tCons ta (tCons tb tNil))) ds (zipD xs ys) := fun σ N hs H k R q =>
  h σ N hs H k _ fun v N1 H1 s1 r1 => h2 σ N1 (hs.mono s1.nn) H1 s1.nh _ fun v2 N2 H2 s2 r2 => by
    obtain ⟨a, us, rfl, ha, ra⟩ := (r1.mono s2.nn).tup_ref
    obtain ⟨b, ws, rfl, hb, rb⟩ := r2.tup_ref
    have e1 := ra.length
    have e2 := rb.length
    have ez : (zipD xs ys).length = us.length := by unfold zipD; simp [hl]; omega
    refine ⟨a, b, us, ws, rfl, .inr ⟨SqT.of (s2.nh _ _ ha), SqT.of (s2.nh _ _ hb), q _ N2 H2 (s1.trans s2) ⟨fun H3 k3 => ⟨us, ws, SqT.of (k3 _ _ ha), SqT.of (k3 _ _ hb), .inl (by omega)⟩, fun i H3 hi k3 => ?_, fun i d N3 H3 x H4 hd k3 k4 hy => ?_⟩⟩⟩
    · obtain ⟨u, hu, _⟩ := ra.get (List.getElem?_eq_getElem (show i < xs.length by omega))
      obtain ⟨z, hz, _⟩ := rb.get (List.getElem?_eq_getElem (show i < ys.length by omega))
      exact ⟨us, ws, u, z, SqT.of (k3 _ _ ha), SqT.of (k3 _ _ hb), hu, hz⟩
    · obtain ⟨T, x1, x2, rfl, hT, rfl, hx1, hx2⟩ := hy
      obtain ⟨d1, d2, g1, g2, rfl⟩ := zipD_get hd
      obtain ⟨u, hu, ru⟩ := ra.get g1
      obtain ⟨z, hz, rz⟩ := rb.get g2
      have q1 := hx1 us (SqT.of (k4 _ _ (k3 _ _ ha)))
      have q2 := hx2 ws (SqT.of (k4 _ _ (k3 _ _ hb)))
      rw [hu] at q1
      rw [hz] at q2
      cases q1
      cases q2
      have kk := same_new (H := N3) (p := T) (o := .tup [x1, x2]) (same_none k4 hT)
      exact ⟨_, Stp.new k4 hT, .tup upd_same (.cons ((ru.mono k3).mono kk) (.cons ((rz.mono k3).mono kk) .nil))⟩

/-! ### targets -/
/-- g stores the datum d: the slots js get it -/
def DeG (g : TG) (js : List Nat) (d : Dat) (ds ds' : Sd) : Prop := ∀ N H σ v, Sl N σ ds → Same N H → Rp N v d → ∀ Q : L2.St → Hp → Prop,
  (∀ σ', Sl N σ' ds' → σ'.length = σ.length → (∀ i, i ∉ js → σ'[i]? = σ[i]?) → Q σ' H) → g v σ H Q
theorem deg_name {j : Nat} {d : Dat} {ds : Sd} : DeG (gName j) [j] d ds (ds.set j (some d)) := fun N H σ v hs _ r Q q =>
  q _ (hs.set j r) List.length_set fun i hi => List.getElem?_set_ne (fun e => hi (by rw [e]; exact List.mem_singleton.mpr rfl))
theorem deg_two {j l : Nat} {d e : Dat} {ds : Sd} : DeG (gTup K 2 (gCons (gName j) (gCons (gName l) gNil))) [j, l] (.tuple [d, e]) ds ((ds.set j (some d)).set l (some e)) := fun N H σ v hs k r Q q => by
  obtain ⟨a, us, rfl, ha, ra⟩ := r.tup_ref
  cases ra with
  | cons r1 r2 =>
    cases r2 with
    | cons r3 r4 =>
      cases r4
      refine ⟨a, _, rfl, SqT.of (k _ _ ha), rfl, _, _, rfl, _, _, rfl, rfl, ?_⟩
      refine q _ ((hs.set j r1).set l r3) (by rw [List.length_set, List.length_set]) fun i hi => ?_
      rw [List.mem_cons, not_or, List.mem_singleton] at hi
      rw [List.getElem?_set_ne (Ne.symm hi.2), List.getElem?_set_ne (Ne.symm hi.1)]

/-! ### comprehensions -/
theorem den_lcG {wi : TI} {g : TG} {tt : TT} {te : TE} {vs js : List Nat} {ds : Sd} {items : List Dat} (hI : DeI wi ds items) (hz : items.length ≤ 100000) (hjs : ∀ i ∈ js, i ∈ vs) (dsi : Nat → Sd) (f : Nat → Bool) (r : Nat → Dat)
    (hg : ∀ i d, items[i]? = some d → DeG g js d (dwipe ds vs) (dsi i)) (ht : ∀ i d, items[i]? = some d → DeB tt (dsi i) (f i)) (he : ∀ i d, items[i]? = some d → f i = true → De te (dsi i) (r i)) :
    DeN (tLc wi g tt te vs) ds (((List.range items.length).filter f).map r) := fun σ N hs H k Q q =>
  hI σ N hs H k _ fun J N1 H1 s1 wk D hD => by
    have hN1 : N1 D = none := same_none s1.nh hD
    refine ⟨fun i m H' => m = items.length - i ∧ i ≤ items.length ∧ ∃ N' us, Stp N1 H1 N' H' ∧ N' D = none ∧ H' D = some (.lst us) ∧ RpA N' us (((List.range i).filter f).map r),
      ⟨items.length, by omega, Nat.zero_le _, N1, [], Stp.hid s1.nh hD, hN1, upd_same, .nil⟩, ?_⟩
    rintro i m H' ⟨rfl, hi, N', us, s2, n2, e2, r2⟩
    by_cases hlt : i < items.length
    · refine .inr ⟨wk.go i H' hlt (s2.nn.trans s2.nh), fun H' => ∃ N' us, Stp N1 H1 N' H' ∧ N' D = none ∧ H' D = some (.lst us) ∧ RpA N' us (((List.range (i + 1)).filter f).map r), fun H'' w => ⟨items.length - (i + 1), by omega, rfl, hlt, w⟩, fun x H3 hy => ?_⟩
      have hd := List.getElem?_eq_getElem hlt
      obtain ⟨N3, s3, rx⟩ := wk.yld i _ N' H' x H3 hd s2.nn s2.nh hy
      have hs3 : Sl N3 σ ds := hs.mono (s1.nn.trans (s2.nn.trans s3.nn))
      refine hg i _ hd N3 H3 (L2.wipe σ vs) x (hs3.wipe vs) s3.nh rx _ fun σ2 hσ2 el eo => ⟨?_, ?_⟩
      · rw [← wipe_wipe σ vs]
        exact wipe_ext el fun j hj => eo j fun z => hj (hjs j z)
      · refine ht i _ hd σ2 N3 hσ2 H3 s3.nh _ fun N4 H4 s4 => ?_
        have s14 := (s2.trans s3).trans s4
        have n4 : N4 D = none := (s3.trans s4).fr D (by rw [e2]; exact mb (by intro _ z; cases z)) n2
        have e4 : H4 D = some (.lst us) := s4.hh _ _ (s3.hh _ _ e2)
        cases hf : f i with
        | false =>
          show ∃ N' us, Stp N1 H1 N' H4 ∧ N' D = none ∧ H4 D = some (.lst us) ∧ RpA N' us (((List.range (i + 1)).filter f).map r)
          refine ⟨N4, us, s14, n4, e4, ?_⟩
          rw [List.range_succ, List.filter_append, List.map_append, List.filter_cons, if_neg (by rw [hf]; decide)]
          show RpA N4 us (((List.range i).filter f).map r ++ [])
          rw [List.append_nil]
          exact r2.mono (s3.nn.trans s4.nn)
        | true =>
          show te σ2 H4 _
          refine he i _ hd hf σ2 N4 (hσ2.mono s4.nn) H4 s4.nh _ fun y N5 H5 s5 ry => ?_
          have n5 : N5 D = none := s5.fr D (by rw [e4]; exact mb (by intro _ z; cases z)) n4
          have e5 : H5 D = some (.lst us) := s5.hh _ _ e4
          have s15 := s14.trans s5
          refine ⟨us, e5, ?_, N5, us ++ [y], ⟨s15.nn, same_mut s15.hh hD, same_mut s15.nh n5, s15.fr⟩, n5, upd_same, ?_⟩
          · have h1 := r2.length
            have h2 : (((List.range i).filter f).map r).length ≤ i := by
              rw [List.length_map]
              have := List.length_filter_le f (List.range i)
              rw [List.length_range] at this
              exact this
            exact Nat.lt_of_le_of_lt (show us.length ≤ 100000 by omega) (by decide)
          · rw [List.range_succ, List.filter_append, List.map_append, List.filter_cons, if_pos hf]
            exact (r2.mono (s3.nn.trans (s4.nn.trans s5.nn))).snoc ry
    · have ei : i = items.length := by omega
      subst ei
      exact .inl ⟨wk.stop H' (s2.nn.trans s2.nh), q D us N' H' (s1.trans s2) (same_none s1.hh hD) n2 e2 r2⟩
/-- the usual case: the items stand for the things ys -/
theorem range_pick {α : Type} (ys : List α) (f : α → Bool) (r : α → Dat) : ((List.range ys.length).filter fun i => (ys[i]?.map f).getD false).map (fun i => (ys[i]?.map r).getD .none) = (ys.filter f).map r := by
  have h : ∀ n, n ≤ ys.length → ((List.range n).filter fun i => (ys[i]?.map f).getD false).map (fun i => (ys[i]?.map r).getD .none) = ((ys.take n).filter f).map r := by
    intro n
    induction n with
    | zero => intro _; rfl
    | succ n ih =>
      intro hn
      have e := List.getElem?_eq_getElem (show n < ys.length from hn)
      rw [List.range_succ, List.filter_append, List.map_append, ih (Nat.le_of_succ_le hn), List.take_add_one, List.filter_append, List.map_append, e]
      congr 1
      show List.map _ (List.filter _ [n]) = List.map r (List.filter f [ys[n]])
      rw [List.filter_cons, List.filter_cons, e]
      show List.map _ (if f ys[n] = true then _ else _) = _
      split
      · show [(Option.map r ys[n]?).getD .none] = [r ys[n]]
        rw [e]
        rfl
      · rfl
  have := h ys.length (Nat.le_refl _)
  rw [List.take_length] at this
  exact this
theorem den_lc {α : Type} {wi : TI} {g : TG} {tt : TT} {te : TE} {vs js : List Nat} {ds : Sd} (ys : List α) {enc : α → Dat} (hI : DeI wi ds (ys.map enc)) (hz : ys.length ≤ 100000) (hjs : ∀ i ∈ js, i ∈ vs) (dsy : α → Sd) (f : α → Bool) (r : α → Dat)
    (hg : ∀ y ∈ ys, DeG g js (enc y) (dwipe ds vs) (dsy y)) (ht : ∀ y ∈ ys, DeB tt (dsy y) (f y)) (he : ∀ y ∈ ys, f y = true → De te (dsy y) (r y)) :
    DeN (tLc wi g tt te vs) ds ((ys.filter f).map r) := by
  have key : ∀ i d, (ys.map enc)[i]? = some d → ∃ y, ys[i]? = some y ∧ y ∈ ys ∧ d = enc y := fun i d h => by
    rw [List.getElem?_map] at h
    cases e : ys[i]? with
    | none => rw [e] at h; cases h
    | some y =>
      rw [e] at h
      exact ⟨y, e, List.mem_of_getElem? e, (Option.some.inj h).symm⟩
  refine (den_lcG hI (by rw [List.length_map]; exact hz) hjs (fun i => (ys[i]?.map dsy).getD []) (fun i => (ys[i]?.map f).getD false) (fun i => (ys[i]?.map r).getD .none) (fun i d h => ?_) (fun i d h => ?_) fun i d h hf => ?_).to ?_
  · obtain ⟨y, e, m, rfl⟩ := key i d h
    rw [e]
    exact hg y m
  · obtain ⟨y, e, m, rfl⟩ := key i d h
    rw [e]
    exact ht y m
  · obtain ⟨y, e, m, rfl⟩ := key i d h
    rw [e] at hf ⊢
    exact he y m hf
  · rw [List.length_map]
    exact range_pick ys f r
theorem deb_yes {ds : Sd} : DeB tYes ds true := fun _ N _ H k Q q => q N H (Stp.refl k)
/-- without a test, the target a name -/
theorem den_map {α : Type} {wi : TI} {te : TE} {vs : List Nat} {j : Nat} {ds : Sd} (ys : List α) {enc : α → Dat} (hI : DeI wi ds (ys.map enc)) (hz : ys.length ≤ 100000) (hj : j ∈ vs) (r : α → Dat)
    (he : ∀ y ∈ ys, De te ((dwipe ds vs).set j (some (enc y))) (r y)) : DeN (tLc wi (gName j) tYes te vs) ds (ys.map r) :=
  (den_lc ys hI hz (js := [j]) (fun i hi => by rw [List.mem_singleton.mp hi]; exact hj) (fun y => (dwipe ds vs).set j (some (enc y))) (fun _ => true) r (fun y _ => deg_name) (fun y _ => deb_yes) fun y m _ => he y m).to (by rw [List.filter_eq_self.mpr fun _ _ => rfl])
/-- with a test, the target a name -/
theorem den_filter {α : Type} {wi : TI} {tt : TT} {te : TE} {vs : List Nat} {j : Nat} {ds : Sd} (ys : List α) {enc : α → Dat} (hI : DeI wi ds (ys.map enc)) (hz : ys.length ≤ 100000) (hj : j ∈ vs) (f : α → Bool) (r : α → Dat)
    (ht : ∀ y ∈ ys, DeB tt ((dwipe ds vs).set j (some (enc y))) (f y)) (he : ∀ y ∈ ys, f y = true → De te ((dwipe ds vs).set j (some (enc y))) (r y)) : DeN (tLc wi (gName j) tt te vs) ds ((ys.filter f).map r) :=
  den_lc ys hI hz (js := [j]) (fun i hi => by rw [List.mem_singleton.mp hi]; exact hj) (fun y => (dwipe ds vs).set j (some (enc y))) f r (fun y _ => deg_name) ht he
end
end Ez

set_option Elab.async false
set_option linter.all false
set_option autoImplicit false
set_option maxRecDepth 100000
set_option maxHeartbeats 1000000
/-! statements on data: slots that hold data, slots that hold an own list or dict -/
namespace Ez
open PySem L2 Fz PyProof.Rows
inductive Sk where
  | no | val (d : Dat) | own (xs : List Dat) | ownT (kvs : List (List Int × Dat)) | ownK (kvs : List (Int × Dat)) | raw (v : V)
def Sk.isOwn : Sk → Bool
  | .own _ => true
  | .ownT _ => true
  | .ownK _ => true
  | _ => false
def Sk.dat? : Sk → Option Dat
  | .val d => some d
  | _ => none
abbrev Ss := List Sk
def sv (ds : Ss) : Sd := ds.map Sk.dat?
def RelT (N : Hp) : List (List L2.Key × V) → List (List Int × Dat) → Prop := Paired fun w kv => w.1 = kv.1.map Sum.inl ∧ Rp N w.2 kv.2
def RelK (N : Hp) : List (L2.Key × V) → List (Int × Dat) → Prop := Paired fun w kv => w.1 = Sum.inl kv.1 ∧ Rp N w.2 kv.2
def OwnAt (N H : Hp) (p : Addr) : Sk → Prop
  | .own xs => ∃ us, H p = some (.lst us) ∧ RpA N us xs
  | .ownT kvs => ∃ ws, H p = some (.dT ws) ∧ RelT N ws kvs
  | .ownK kvs => ∃ ws, H p = some (.dK ws) ∧ RelK N ws kvs
  | _ => False
theorem OwnAt.known {N H : Hp} {p : Addr} : ∀ {k : Sk}, OwnAt N H p k → Mb (H p)
  | .own _, ⟨_, e, _⟩ => by rw [e]; exact mb (by intro _ z; cases z)
  | .ownT _, ⟨_, e, _⟩ => by rw [e]; exact mb (by intro _ z; cases z)
  | .ownK _, ⟨_, e, _⟩ => by rw [e]; exact mb (by intro _ z; cases z)
theorem OwnAt.mono {N H N' H' : Hp} {p : Addr} (a : Same N N') (b : H' p = H p) : ∀ {k : Sk}, OwnAt N H p k → OwnAt N' H' p k
  | .own _, ⟨us, e, r⟩ => ⟨us, b.trans e, r.mono a⟩
  | .ownT _, ⟨us, e, r⟩ => ⟨us, b.trans e, L2.Paired.mapP r fun _ _ z => ⟨z.1, z.2.mono a⟩⟩
  | .ownK _, ⟨us, e, r⟩ => ⟨us, b.trans e, L2.Paired.mapP r fun _ _ z => ⟨z.1, z.2.mono a⟩⟩
/-- E: what is to stay as it is; Ni: what was known at the start -/
structure Wd (E Ni N H : Hp) : Prop where
  ni : Same Ni N
  eh : Same E H
  nh : Same N H
  fr : ∀ a, Mb (E a) → Ni a = none → N a = none
theorem Wd.step {E Ni N H N' H' : Hp} (w : Wd E Ni N H) (s : Stp N H N' H') : Wd E Ni N' H' :=
  ⟨w.ni.trans s.nn, w.eh.trans s.hh, s.nh, fun a e n => s.fr a (mb_same w.eh e) (w.fr a e n)⟩
theorem Wd.start {N H : Hp} (h : Same N H) : Wd H N N H := ⟨Same.refl N, Same.refl H, h, fun _ _ q => q⟩
theorem Wd.stp {N H N' H' : Hp} (w : Wd H N N' H') : Stp N H N' H' := ⟨w.ni, w.eh, w.nh, w.fr⟩
structure SS (E N H : Hp) (σ : L2.St) (ds : Ss) : Prop where
  len : σ.length = ds.length
  val : ∀ (i : Nat) (d : Dat), ds[i]? = some (.val d) → ∃ v, σ[i]? = some (some v) ∧ Rp N v d
  own : ∀ (i : Nat) (k : Sk), ds[i]? = some k → k.isOwn = true → ∃ p, σ[i]? = some (some (.ref p)) ∧ E p = none ∧ N p = none ∧ OwnAt N H p k
  one : ∀ (i j : Nat) (k l : Sk) (p : Addr), ds[i]? = some k → ds[j]? = some l → k.isOwn = true → l.isOwn = true → σ[i]? = some (some (.ref p)) → σ[j]? = some (some (.ref p)) → i = j
  raw : ∀ (i : Nat) (v : V), ds[i]? = some (.raw v) → σ[i]? = some (some v)
section
variable {E Ni N H N' H' : Hp} {σ : L2.St} {ds : Ss}
theorem SS.sl (h : SS E N H σ ds) : Sl N σ (sv ds) := by
  refine ⟨by unfold sv; rw [List.length_map]; exact h.len, fun i d e => ?_⟩
  unfold sv at e
  rw [List.getElem?_map] at e
  cases q : ds[i]? with
  | none => rw [q] at e; cases e
  | some k =>
    rw [q] at e
    cases k with
    | val d' =>
      have e2 := Option.some.inj (Option.some.inj e)
      subst e2
      exact h.val i d' q
    | _ => cases e
theorem SS.step (h : SS E N H σ ds) (s : Stp N H N' H') : SS E N' H' σ ds := by
  refine ⟨h.len, fun i d e => let ⟨v, a, b⟩ := h.val i d e; ⟨v, a, b.mono s.nn⟩, fun i k e o => ?_, h.one, h.raw⟩
  obtain ⟨p, a, b, c, d⟩ := h.own i k e o
  refine ⟨p, a, b, s.fr p d.known c, d.mono s.nn ?_⟩
  cases q : H p with
  | none => exact absurd q d.known.1
  | some u => exact s.hh _ _ q
theorem SS.set_val (h : SS E N H σ ds) (j : Nat) {v : V} {d : Dat} (r : Rp N v d) : SS E N H (σ.set j (some v)) (ds.set j (.val d)) := by
  have key : ∀ (i : Nat) (k : Sk), (ds.set j (.val d))[i]? = some k → (i = j ∧ i < ds.length ∧ k = .val d) ∨ (i ≠ j ∧ ds[i]? = some k) := fun i k e => by
    by_cases hj : j = i
    · subst hj
      by_cases hl : j < ds.length
      · rw [List.getElem?_set_self hl] at e
        exact .inl ⟨rfl, hl, (Option.some.inj e).symm⟩
      · rw [List.getElem?_eq_none (by simp; omega)] at e
        cases e
    · rw [List.getElem?_set_ne hj] at e
      exact .inr ⟨fun z => hj z.symm, e⟩
  have ne : ∀ (i : Nat), i ≠ j → (σ.set j (some v))[i]? = σ[i]? := fun i hi => List.getElem?_set_ne (Ne.symm hi)
  refine ⟨by rw [List.length_set, List.length_set, h.len], fun i e q => ?_, fun i k e o => ?_, fun i l k k' p e1 e2 o1 o2 s1 s2 => ?_, fun i u q => ?_⟩
  · rcases key i _ q with ⟨rfl, hl, ek⟩ | ⟨hi, q⟩
    · cases ek
      exact ⟨v, List.getElem?_set_self (by rw [h.len]; exact hl), r⟩
    · rw [ne i hi]
      exact h.val i e q
  · rcases key i _ e with ⟨rfl, hl, ek⟩ | ⟨hi, q⟩
    · subst ek; cases o
    · rw [ne i hi]
      exact h.own i k q o
  · rcases key i _ e1 with ⟨rfl, hl, ek⟩ | ⟨hi, q1⟩
    · subst ek; cases o1
    · rcases key l _ e2 with ⟨rfl, hl, ek⟩ | ⟨hl, q2⟩
      · subst ek; cases o2
      · rw [ne i hi] at s1
        rw [ne l hl] at s2
        exact h.one i l k k' p q1 q2 o1 o2 s1 s2
  · rcases key i _ q with ⟨rfl, hl, ek⟩ | ⟨hi, q⟩
    · cases ek
    · rw [ne i hi]
      exact h.raw i u q
/-- a slot forgotten -/
theorem SS.forget (h : SS E N H σ ds) (j : Nat) : SS E N H σ (ds.set j .no) := by
  have key : ∀ (i : Nat) (k : Sk), (ds.set j .no)[i]? = some k → (k = .no) ∨ (ds[i]? = some k) := fun i k e => by
    by_cases hj : j = i
    · subst hj
      by_cases hl : j < ds.length
      · rw [List.getElem?_set_self hl] at e
        exact .inl (Option.some.inj e).symm
      · rw [List.getElem?_eq_none (by simp; omega)] at e
        cases e
    · rw [List.getElem?_set_ne hj] at e
      exact .inr e
  refine ⟨by rw [List.length_set, h.len], fun i e q => ?_, fun i k e o => ?_, fun i l k k' p e1 e2 o1 o2 s1 s2 => ?_, fun i u q => ?_⟩
  · rcases key i _ q with ek | q
    · cases ek
    · exact h.val i e q
  · rcases key i _ e with ek | q
    · subst ek; cases o
    · exact h.own i k q o
  · rcases key i _ e1 with ek | q1
    · subst ek; cases o1
    · rcases key l _ e2 with ek | q2
      · subst ek; cases o2
      · exact h.one i l k k' p q1 q2 o1 o2 s1 s2
  · rcases key i _ q with ek | q
    · cases ek
    · exact h.raw i u q
/-- a new own object -/
theorem SS.set_own (h : SS E N H σ ds) (s : Stp N H N' H') (j : Nat) {p : Addr} {k : Sk} (ep : E p = none) (hp : H p = none) (np : N' p = none) (o : OwnAt N' H' p k) (ok : k.isOwn = true) : SS E N' H' (σ.set j (some (.ref p))) (ds.set j k) := by
  have h' := h.step s
  have key : ∀ (i : Nat) (l : Sk), (ds.set j k)[i]? = some l → (i = j ∧ i < ds.length ∧ l = k) ∨ (i ≠ j ∧ ds[i]? = some l) := fun i l e => by
    by_cases hj : j = i
    · subst hj
      by_cases hl : j < ds.length
      · rw [List.getElem?_set_self hl] at e
        exact .inl ⟨rfl, hl, (Option.some.inj e).symm⟩
      · rw [List.getElem?_eq_none (by simp; omega)] at e
        cases e
    · rw [List.getElem?_set_ne hj] at e
      exact .inr ⟨fun z => hj z.symm, e⟩
  have ne : ∀ (i : Nat), i ≠ j → (σ.set j (some (.ref p)))[i]? = σ[i]? := fun i hi => List.getElem?_set_ne (Ne.symm hi)
  have other : ∀ (i : Nat) (l : Sk), ds[i]? = some l → l.isOwn = true → σ[i]? ≠ some (some (.ref p)) := fun i l e ol z => by
    obtain ⟨q, a, _, _, d⟩ := h.own i l e ol
    rw [a] at z
    cases z
    exact d.known.1 hp
  refine ⟨by rw [List.length_set, List.length_set, h.len], fun i e q => ?_, fun i l e ol => ?_, fun i m k1 k2 q e1 e2 o1 o2 s1 s2 => ?_, fun i u q => ?_⟩
  · rcases key i _ q with ⟨rfl, hl, ek⟩ | ⟨hi, q⟩
    · subst ek; cases ok
    · rw [ne i hi]
      exact h'.val i e q
  · rcases key i _ e with ⟨rfl, hl, ek⟩ | ⟨hi, q⟩
    · subst ek
      exact ⟨p, List.getElem?_set_self (by rw [h.len]; exact hl), ep, np, o⟩
    · rw [ne i hi]
      exact h'.own i l q ol
  · rcases key i _ e1 with ⟨rfl, hl, ek⟩ | ⟨hi, q1⟩
    · rcases key m _ e2 with ⟨rfl, hl2, ek2⟩ | ⟨hm, q2⟩
      · rfl
      · rw [List.getElem?_set_self (by rw [h.len]; exact hl)] at s1
        rw [ne m hm] at s2
        cases s1
        exact absurd s2 (other m k2 q2 o2)
    · rcases key m _ e2 with ⟨rfl, hl2, ek2⟩ | ⟨hm, q2⟩
      · rw [List.getElem?_set_self (by rw [h.len]; exact hl2)] at s2
        rw [ne i hi] at s1
        cases s2
        exact absurd s1 (other i k1 q1 o1)
      · rw [ne i hi] at s1
        rw [ne m hm] at s2
        exact h.one i m k1 k2 q q1 q2 o1 o2 s1 s2
  · rcases key i _ q with ⟨rfl, hl, ek⟩ | ⟨hi, q⟩
    · subst ek; cases ok
    · rw [ne i hi]
      exact h'.raw i u q
/-- the own object of slot j changes -/
theorem SS.mut (h : SS E N H σ ds) (j : Nat) {p : Addr} {k l : Sk} {o : HO} (e : ds[j]? = some l) (ol : l.isOwn = true) (sp : σ[j]? = some (some (.ref p))) (ok : k.isOwn = true) (n : OwnAt N (upd H p o) p k) : SS E N (upd H p o) σ (ds.set j k) := by
  obtain ⟨p', a, ep, np, _⟩ := h.own j l e ol
  rw [sp] at a
  cases a
  have hl : j < ds.length := (List.getElem?_eq_some_iff.mp e).1
  have key : ∀ (i : Nat) (m : Sk), (ds.set j k)[i]? = some m → (i = j ∧ m = k) ∨ (i ≠ j ∧ ds[i]? = some m) := fun i m q => by
    by_cases hj : j = i
    · subst hj
      rw [List.getElem?_set_self hl] at q
      exact .inl ⟨rfl, (Option.some.inj q).symm⟩
    · rw [List.getElem?_set_ne hj] at q
      exact .inr ⟨fun z => hj z.symm, q⟩
  refine ⟨by rw [List.length_set, h.len], fun i d q => ?_, fun i m q om => ?_, fun i m k1 k2 q e1 e2 o1 o2 s1 s2 => ?_, fun i u q => ?_⟩
  · rcases key i _ q with ⟨rfl, ek⟩ | ⟨hi, q⟩
    · subst ek; cases ok
    · exact h.val i d q
  · rcases key i _ q with ⟨rfl, ek⟩ | ⟨hi, q⟩
    · subst ek
      exact ⟨p, sp, ep, np, n⟩
    · obtain ⟨p2, a2, b2, c2, d2⟩ := h.own i m q om
      have hne : p2 ≠ p := fun z => by
        subst z
        exact hi (h.one i j m l p2 q e om ol a2 sp)
      exact ⟨p2, a2, b2, c2, d2.mono (Same.refl N) (upd_ne hne)⟩
  · rcases key i _ e1 with ⟨rfl, ek⟩ | ⟨hi, q1⟩
    · rcases key m _ e2 with ⟨rfl, ek2⟩ | ⟨hm, q2⟩
      · rfl
      · exact h.one i m l k2 q e q2 ol o2 s1 s2
    · rcases key m _ e2 with ⟨rfl, ek2⟩ | ⟨hm, q2⟩
      · exact h.one i m k1 l q q1 e o1 ol s1 s2
      · exact h.one i m k1 k2 q q1 q2 o1 o2 s1 s2
  · rcases key i _ q with ⟨rfl, ek⟩ | ⟨hi, q⟩
    · subst ek; cases ok
    · exact h.raw i u q
/-- an own object is known from now on -/
theorem SS.freeze (w : Wd E Ni N H) (h : SS E N H σ ds) (j : Nat) {p : Addr} {l : Sk} {o : HO} {d : Dat} (e : ds[j]? = some l) (ol : l.isOwn = true) (sp : σ[j]? = some (some (.ref p))) (hp : H p = some o) (r : Rp (upd N p o) (.ref p) d) :
    Wd E Ni (upd N p o) H ∧ SS E (upd N p o) H σ (ds.set j (.val d)) := by
  obtain ⟨p', a, ep, np, _⟩ := h.own j l e ol
  rw [sp] at a
  cases a
  have hl : j < ds.length := (List.getElem?_eq_some_iff.mp e).1
  refine ⟨⟨w.ni.trans (same_new np), w.eh, fun x u q => ?_, fun x ex nx => ?_⟩, ?_⟩
  · by_cases z : x = p
    · subst z
      rw [upd_same] at q
      rw [← Option.some.inj q]
      exact hp
    · rw [upd_ne z] at q
      exact w.nh _ _ q
  · have z : x ≠ p := fun z => by rw [z] at ex; exact ex.1 ep
    rw [upd_ne z]
    exact w.fr x ex nx
  · have key : ∀ (i : Nat) (m : Sk), (ds.set j (.val d))[i]? = some m → (i = j ∧ m = .val d) ∨ (i ≠ j ∧ ds[i]? = some m) := fun i m q => by
      by_cases hj : j = i
      · subst hj
        rw [List.getElem?_set_self hl] at q
        exact .inl ⟨rfl, (Option.some.inj q).symm⟩
      · rw [List.getElem?_set_ne hj] at q
        exact .inr ⟨fun z => hj z.symm, q⟩
    refine ⟨by rw [List.length_set, h.len], fun i d' q => ?_, fun i m q om => ?_, fun i m k1 k2 q e1 e2 o1 o2 s1 s2 => ?_, fun i u q => ?_⟩
    · rcases key i _ q with ⟨rfl, ek⟩ | ⟨hi, q⟩
      · cases ek
        exact ⟨_, sp, r⟩
      · obtain ⟨v, a, b⟩ := h.val i d' q
        exact ⟨v, a, b.mono (same_new np)⟩
    · rcases key i _ q with ⟨rfl, ek⟩ | ⟨hi, q⟩
      · subst ek; cases om
      · obtain ⟨p2, a2, b2, c2, d2⟩ := h.own i m q om
        have hne : p2 ≠ p := fun z => by
          subst z
          exact hi (h.one i j m l p2 q e om ol a2 sp)
        exact ⟨p2, a2, b2, by rw [upd_ne hne]; exact c2, d2.mono (same_new np) rfl⟩
    · rcases key i _ e1 with ⟨rfl, ek⟩ | ⟨hi, q1⟩
      · subst ek; cases o1
      · rcases key m _ e2 with ⟨rfl, ek2⟩ | ⟨hm, q2⟩
        · subst ek2; cases o2
        · exact h.one i m k1 k2 q q1 q2 o1 o2 s1 s2
    · rcases key i _ q with ⟨rfl, ek⟩ | ⟨hi, q⟩
      · cases ek
      · exact h.raw i u q
end
/-! ### statements -/
def Okk (E Ni : Hp) (t : TS) (D : Ends) (ds : Ss) : Prop := ∀ N H σ, Wd E Ni N H → SS E N H σ ds → t D σ H
/-- what follows holds at every such state -/
def Nx (E Ni : Hp) (ds : Ss) : L2.St → Hp → Prop := fun σ H => ∃ N, Wd E Ni N H ∧ SS E N H σ ds
/-- the answer d is handed on -/
def Rt (E Ni : Hp) (d : Dat) (Q : VK) : Prop := ∀ v N H, Wd E Ni N H → Rp N v d → Q v H
section
variable {E Ni : Hp} {D : Ends} {ds : Ss} {t u : TS} {te : TE} {d : Dat} {K : PySem.W.Frag}
theorem okk_ret (h : De te (sv ds) d) (k : Rt E Ni d D.rt) : Okk E Ni (tRet te) D ds := fun N H σ w s => h σ N s.sl H w.nh _ fun v N1 H1 s1 r1 => k v N1 H1 (w.step s1) r1
theorem okk_setE {i : Nat} (h : De te (sv ds) d) (k : ∀ N H σ, Wd E Ni N H → SS E N H σ (ds.set i (.val d)) → D.nx σ H) : Okk E Ni (tAsg te (gName i)) D ds := fun N H σ w s => h σ N s.sl H w.nh _ fun v N1 H1 s1 r1 => k N1 H1 _ (w.step s1) ((s.step s1).set_val i r1)
theorem okk_set {i : Nat} (h : De te (sv ds) d) (k : Okk E Ni t D (ds.set i (.val d))) : Okk E Ni (tSeq (tAsg te (gName i)) t) D ds := okk_setE (D := { D with nx := t D }) h k
theorem okk_ownE {i : Nat} {xs : List Dat} (h : DeN te (sv ds) xs) (k : ∀ N H σ, Wd E Ni N H → SS E N H σ (ds.set i (.own xs)) → D.nx σ H) : Okk E Ni (tAsg te (gName i)) D ds := fun N H σ w s => h σ N s.sl H w.nh _ fun p us N1 H1 s1 hp n e r1 =>
  k N1 H1 _ (w.step s1) (s.set_own s1 i (same_none w.eh hp) hp n ⟨us, e, r1⟩ rfl)
theorem okk_own {i : Nat} {xs : List Dat} (h : DeN te (sv ds) xs) (k : Okk E Ni t D (ds.set i (.own xs))) : Okk E Ni (tSeq (tAsg te (gName i)) t) D ds := okk_ownE (D := { D with nx := t D }) h k
/-- a, b = x, y -/
theorem okk_par {i j : Nat} {tb : TE} {e : Dat} (h : De te (sv ds) d) (h2 : De tb (sv ds) e) (k : Okk E Ni t D ((ds.set i (.val d)).set j (.val e))) : Okk E Ni (tSeq (tPar i j (tCons te (tCons tb tNil))) t) D ds := fun N H σ w s =>
  h σ N s.sl H w.nh _ fun v N1 H1 s1 r1 => h2 σ N1 (s.sl.mono s1.nn) H1 s1.nh _ fun v2 N2 H2 s2 r2 => ⟨v, v2, rfl, k N2 H2 _ (w.step (s1.trans s2)) (((s.step (s1.trans s2)).set_val i (r1.mono s2.nn)).set_val j r2)⟩
/-- a, b = x, [..] -/
theorem okk_parN {i j : Nat} {tb : TE} {xs : List Dat} (h : De te (sv ds) d) (h2 : DeN tb (sv ds) xs) (k : Okk E Ni t D ((ds.set i (.val d)).set j (.own xs))) : Okk E Ni (tSeq (tPar i j (tCons te (tCons tb tNil))) t) D ds := fun N H σ w s =>
  h σ N s.sl H w.nh _ fun v N1 H1 s1 r1 => h2 σ N1 (s.sl.mono s1.nn) H1 s1.nh _ fun p us N2 H2 s2 hp n e r2 =>
    ⟨v, .ref p, rfl, k N2 H2 _ (w.step (s1.trans s2)) (((s.step s1).set_val i r1).set_own s2 j (same_none (w.step s1).eh hp) hp n ⟨us, e, r2⟩ rfl)⟩
/-- a, b = [..], x -/
theorem okk_parN1 {i j : Nat} {tb : TE} {xs : List Dat} {e : Dat} (hij : i ≠ j) (h : DeN te (sv ds) xs) (h2 : De tb (sv ds) e) (k : Okk E Ni t D ((ds.set j (.val e)).set i (.own xs))) : Okk E Ni (tSeq (tPar i j (tCons te (tCons tb tNil))) t) D ds := fun N H σ w s =>
  h σ N s.sl H w.nh _ fun p us N1 H1 s1 hp n e1 r1 => h2 σ N1 (s.sl.mono s1.nn) H1 s1.nh _ fun v2 N2 H2 s2 r2 =>
    ⟨.ref p, v2, rfl, k N2 H2 _ (w.step (s1.trans s2)) (by
      rw [List.set_comm _ _ hij]
      have a := (s.set_own s1 i (same_none w.eh hp) hp n ⟨us, e1, r1⟩ rfl (k := .own xs)).step s2
      have b := a.set_val j r2
      rw [List.set_comm _ _ hij, List.set_comm _ _ hij] at b
      exact b)⟩
/-- a, b = [..], [..] -/
theorem okk_parNN {i j : Nat} {tb : TE} {xs ys : List Dat} (h : DeN te (sv ds) xs) (h2 : DeN tb (sv ds) ys) (k : Okk E Ni t D ((ds.set i (.own xs)).set j (.own ys))) : Okk E Ni (tSeq (tPar i j (tCons te (tCons tb tNil))) t) D ds := fun N H σ w s =>
  h σ N s.sl H w.nh _ fun p us N1 H1 s1 hp n e1 r1 => h2 σ N1 (s.sl.mono s1.nn) H1 s1.nh _ fun p2 us2 N2 H2 s2 hp2 n2 e2 r2 =>
    ⟨.ref p, .ref p2, rfl, k N2 H2 _ (w.step (s1.trans s2)) ((s.set_own s1 i (same_none w.eh hp) hp n ⟨us, e1, r1⟩ rfl (k := .own xs)).set_own s2 j (same_none (w.step s1).eh hp2) hp2 n2 ⟨us2, e2, r2⟩ rfl)⟩
theorem okk_if {b : Bool} {c : TT} {v : TS} (h : DeB c (sv ds) b) (h1 : b = true → Okk E Ni t { D with nx := v D } ds) (h2 : b = false → Okk E Ni u { D with nx := v D } ds) : Okk E Ni (tSeq (tIfS c t u) v) D ds := fun N H σ w s => h σ N s.sl H w.nh _ fun N1 H1 s1 => by
  cases b with
  | true => exact h1 rfl N1 H1 σ (w.step s1) (s.step s1)
  | false => exact h2 rfl N1 H1 σ (w.step s1) (s.step s1)
theorem okk_ifE {b : Bool} {c : TT} (h : DeB c (sv ds) b) (h1 : b = true → Okk E Ni t D ds) (h2 : b = false → Okk E Ni u D ds) : Okk E Ni (tIfS c t u) D ds := fun N H σ w s => h σ N s.sl H w.nh _ fun N1 H1 s1 => by
  cases b with
  | true => exact h1 rfl N1 H1 σ (w.step s1) (s.step s1)
  | false => exact h2 rfl N1 H1 σ (w.step s1) (s.step s1)
/-- an if without else, never taken -/
theorem okk_skip {c : TT} {v : TS} (h : DeB c (sv ds) false) (k : Okk E Ni v D ds) : Okk E Ni (tSeq (tIfS c t tNext) v) D ds := okk_if (D := D) h (fun z => by cases z) fun _ N H σ w s => k N H σ w s
theorem okk_next (h : ∀ N H σ, Wd E Ni N H → SS E N H σ ds → D.nx σ H) : Okk E Ni tNext D ds := fun N H σ w s => h N H σ w s
theorem okk_forget (j : Nat) (k : Okk E Ni t D (ds.set j .no)) : Okk E Ni t D ds := fun N H σ w s => k N H σ w (s.forget j)
theorem okk_freeze {j : Nat} {xs : List Dat} (e : ds[j]? = some (.own xs)) (k : Okk E Ni t D (ds.set j (.val (.list xs)))) : Okk E Ni t D ds := fun N H σ w s => by
  obtain ⟨p, sp, ep, np, us, hp, r⟩ := s.own j _ e rfl
  obtain ⟨w2, s2⟩ := s.freeze w j e rfl sp hp (.lst upd_same (r.mono (same_new np)))
  exact k _ H σ w2 s2
theorem okk_to {ds' : Ss} (h : Okk E Ni t D ds') (e : ds = ds') : Okk E Ni t D ds := by rw [e]; exact h
/-! appending -/
theorem okk_appE {i : Nat} {xs : List Dat} (hi : ds[i]? = some (.own xs)) (h : De te (sv ds) d) (hl : xs.length < 100000) (k : ∀ N H σ, Wd E Ni N H → SS E N H σ (ds.set i (.own (xs ++ [d]))) → D.nx σ H) :
    Okk E Ni (tDrop (tBM K "list" rAppend (tVar i) (tCons te tNil))) D ds := fun N H σ w s => by
  obtain ⟨p, sp, ep, np, us, hp, r⟩ := s.own i _ hi rfl
  refine ⟨.ref p, sp, .inl ⟨rfl, us, SqL.of hp⟩, h σ N s.sl H w.nh _ fun v N1 H1 s1 r1 => ?_⟩
  have e1 : H1 p = some (.lst us) := s1.hh _ _ hp
  have n1 : N1 p = none := s1.fr p (by rw [hp]; exact mb (by intro _ z; cases z)) np
  have w1 := w.step s1
  refine ⟨p, us, v, rfl, rfl, e1, ?_, k N1 _ σ ⟨w1.ni, same_mut w1.eh ep, same_mut w1.nh n1, w1.fr⟩ ((s.step s1).mut i hi rfl sp rfl ⟨_, upd_same, (r.mono s1.nn).snoc r1⟩)⟩
  exact Nat.lt_of_lt_of_le (show us.length < 100000 by rw [r.length]; exact hl) (by decide)
theorem okk_app {i : Nat} {xs : List Dat} (hi : ds[i]? = some (.own xs)) (h : De te (sv ds) d) (hl : xs.length < 100000) (k : Okk E Ni t D (ds.set i (.own (xs ++ [d])))) :
    Okk E Ni (tSeq (tDrop (tBM K "list" rAppend (tVar i) (tCons te tNil))) t) D ds := okk_appE (D := { D with nx := t D }) hi h hl k
theorem okk_extE {i : Nat} {xs ys : List Dat} (hi : ds[i]? = some (.own xs)) (h : De te (sv ds) (.list ys)) (hl : xs.length + ys.length ≤ 100000) (k : ∀ N H σ, Wd E Ni N H → SS E N H σ (ds.set i (.own (xs ++ ys))) → D.nx σ H) :
    Okk E Ni (tDrop (tBM K "list" rExtend (tVar i) (tCons te tNil))) D ds := fun N H σ w s => by
  obtain ⟨p, sp, ep, np, us, hp, r⟩ := s.own i _ hi rfl
  refine ⟨.ref p, sp, .inl ⟨rfl, us, SqL.of hp⟩, h σ N s.sl H w.nh _ fun v N1 H1 s1 r1 => ?_⟩
  have e1 : H1 p = some (.lst us) := s1.hh _ _ hp
  have n1 : N1 p = none := s1.fr p (by rw [hp]; exact mb (by intro _ z; cases z)) np
  have w1 := w.step s1
  obtain ⟨b, zs, rfl, hb, rb⟩ := r1.list_ref
  refine ⟨p, b, us, zs, rfl, rfl, e1, s1.nh _ _ hb, ?_, k N1 _ σ ⟨w1.ni, same_mut w1.eh ep, same_mut w1.nh n1, w1.fr⟩ ((s.step s1).mut i hi rfl sp rfl ⟨_, upd_same, (r.mono s1.nn).append rb⟩)⟩
  exact sz5 (by rw [r.length, rb.length]; exact hl)
/-! loops: st i is the state ahead of turn i -/
theorem Wd.trans {E Ni N H N' H' : Hp} (a : Wd E Ni N H) (b : Wd E N N' H') : Wd E Ni N' H' := ⟨a.ni.trans b.ni, b.eh, b.nh, fun x e n => b.fr x e (a.fr x e n)⟩
theorem Wd.re {E Ni N H : Hp} (a : Wd E Ni N H) : Wd E N N H := ⟨Same.refl N, a.eh, a.nh, fun _ _ n => n⟩
theorem okk_forG {wi : TI} {g : TG} {tb : TS} {items : List Dat} (hI : DeI wi (sv ds) items) (st : Nat → Ss) (h0 : st 0 = ds)
    (hg : ∀ Nj i d, items[i]? = some d → ∀ N H σ v, Wd E Nj N H → SS E N H σ (st i) → Rp N v d → g v σ H fun σ2 H2 => tb { D with nx := Nx E Nj (st (i + 1)), ct := Nx E Nj (st (i + 1)), bk := D.nx } σ2 H2) (k : ∀ N H σ, Wd E Ni N H → SS E N H σ (st items.length) → D.nx σ H) :
    Okk E Ni (tFor wi g tb) D ds := fun N H σ w s => hI σ N s.sl H w.nh _ fun J N1 H1 s1 wk => by
  have w1 := w.step s1
  refine ⟨fun i m σ' H' => m = items.length - i ∧ i ≤ items.length ∧ ∃ N', Wd E N1 N' H' ∧ SS E N' H' σ' (st i), ⟨items.length, by omega, Nat.zero_le _, N1, w1.re, by rw [h0]; exact s.step s1⟩, ?_⟩
  rintro i m σ' H' ⟨rfl, hi, N', w', s'⟩
  by_cases hlt : i < items.length
  · refine .inr ⟨wk.go i H' hlt (w'.ni.trans w'.nh), Nx E N1 (st (i + 1)), fun σ2 H2 hN => ⟨items.length - (i + 1), by omega, rfl, hlt, hN⟩, fun x H3 hy => ?_⟩
    have hd := List.getElem?_eq_getElem hlt
    obtain ⟨N3, s3, rx⟩ := wk.yld i _ N' H' x H3 hd w'.ni w'.nh hy
    exact hg N1 i _ hd N3 H3 σ' x (w'.step s3) (s'.step s3) rx
  · have ei : i = items.length := by omega
    subst ei
    exact .inl ⟨wk.stop H' (w'.ni.trans w'.nh), k N' H' σ' (w1.trans w') s'⟩
/-- the target a name -/
theorem okk_forE {wi : TI} {tb : TS} {j : Nat} {items : List Dat} (hI : DeI wi (sv ds) items) (st : Nat → Ss) (h0 : st 0 = ds)
    (hb : ∀ Nj i d, items[i]? = some d → Okk E Nj tb { D with nx := Nx E Nj (st (i + 1)), ct := Nx E Nj (st (i + 1)), bk := D.nx } ((st i).set j (.val d))) (k : ∀ N H σ, Wd E Ni N H → SS E N H σ (st items.length) → D.nx σ H) :
    Okk E Ni (tFor wi (gName j) tb) D ds := okk_forG hI st h0 (fun Nj i d hd N H σ v w s r => hb Nj i d hd N H _ w (s.set_val j r)) k
theorem okk_for {wi : TI} {tb : TS} {j : Nat} {items : List Dat} (hI : DeI wi (sv ds) items) (st : Nat → Ss) (h0 : st 0 = ds)
    (hb : ∀ Nj i d, items[i]? = some d → Okk E Nj tb { D with nx := Nx E Nj (st (i + 1)), ct := Nx E Nj (st (i + 1)), bk := t D } ((st i).set j (.val d))) (k : Okk E Ni t D (st items.length)) :
    Okk E Ni (tSeq (tFor wi (gName j) tb) t) D ds := okk_forE (D := { D with nx := t D }) hI st h0 hb k
/-- the target two names -/
theorem okk_for2E {wi : TI} {tb : TS} {j l : Nat} {items : List Dat} (hI : DeI wi (sv ds) items) (st : Nat → Ss) (h0 : st 0 = ds) (ht : ∀ (i : Nat) (d : Dat), items[i]? = some d → ∃ x y : Dat, d = PyData.tuple [x, y])
    (hb : ∀ (Nj : Hp) (i : Nat) (x y : Dat), items[i]? = some (PyData.tuple [x, y]) → Okk E Nj tb { D with nx := Nx E Nj (st (i + 1)), ct := Nx E Nj (st (i + 1)), bk := D.nx } (((st i).set j (.val x)).set l (.val y))) (k : ∀ N H σ, Wd E Ni N H → SS E N H σ (st items.length) → D.nx σ H) :
    Okk E Ni (tFor wi (gTup K 2 (gCons (gName j) (gCons (gName l) gNil))) tb) D ds := okk_forG hI st h0 (fun Nj i d hd N H σ v w s r => by
  obtain ⟨x, y, rfl⟩ := ht i d hd
  obtain ⟨a, us, rfl, ha, ra⟩ := r.tup_ref
  cases ra with
  | cons r1 r2 =>
    cases r2 with
    | cons r3 r4 =>
      cases r4
      exact ⟨a, _, rfl, SqT.of (w.nh _ _ ha), rfl, _, _, rfl, _, _, rfl, rfl, hb Nj i x y hd N H _ w ((s.set_val j r1).set_val l r3)⟩) k
theorem okk_for2 {wi : TI} {tb : TS} {j l : Nat} {items : List Dat} (hI : DeI wi (sv ds) items) (st : Nat → Ss) (h0 : st 0 = ds) (ht : ∀ (i : Nat) (d : Dat), items[i]? = some d → ∃ x y : Dat, d = PyData.tuple [x, y])
    (hb : ∀ (Nj : Hp) (i : Nat) (x y : Dat), items[i]? = some (PyData.tuple [x, y]) → Okk E Nj tb { D with nx := Nx E Nj (st (i + 1)), ct := Nx E Nj (st (i + 1)), bk := t D } (((st i).set j (.val x)).set l (.val y))) (k : Okk E Ni t D (st items.length)) :
    Okk E Ni (tSeq (tFor wi (gTup K 2 (gCons (gName j) (gCons (gName l) gNil))) tb) t) D ds := okk_for2E (D := { D with nx := t D }) hI st h0 ht hb k
end

/-! ### a def -/
section
variable {P : Program} {w : World} {K : PySem.W.Frag} {mg : Str → Option Value} {base : Heap} {x qual : Str} {params : Arguments} {body : List Stmt} {scope : Scope} {f : Addr} {fd : FuncData} {N ps : List Str} {k : Nat}
def s0 (N : List Str) (as : List Dat) : Ss := as.map Sk.val ++ List.replicate (N.length - as.length) .no
theorem ss_start {H : Hp} {vs : List V} {as : List Dat} {N0 E : Hp} (r : RpA N0 vs as) : SS E N0 H (L2.start N vs) (s0 N as) := by
  have hl := r.length
  have own : ∀ (i : Nat) (k : Sk), (s0 N as)[i]? = some k → k.isOwn = true → False := fun i k e o => by
    unfold s0 at e
    rw [List.getElem?_append] at e
    split at e
    · rw [List.getElem?_map] at e
      cases q : as[i]? with
      | none => rw [q] at e; cases e
      | some d => rw [q] at e; cases e; cases o
    · rw [List.getElem?_replicate] at e
      split at e
      · cases e; cases o
      · cases e
  have rawn : ∀ (i : Nat) (u : V), (s0 N as)[i]? = some (.raw u) → False := fun i u e => by
    unfold s0 at e
    rw [List.getElem?_append] at e
    split at e
    · rw [List.getElem?_map] at e
      cases q : as[i]? with
      | none => rw [q] at e; cases e
      | some d => rw [q] at e; cases e
    · rw [List.getElem?_replicate] at e
      split at e <;> cases e
  refine ⟨?_, fun i d e => ?_, fun i k e o => (own i k e o).elim, fun i j k l p e _ o => (own i k e o).elim, fun i u e => (rawn i u e).elim⟩
  · unfold L2.start s0
    simp [hl]
  · unfold s0 at e
    unfold L2.start
    rw [List.getElem?_append] at e ⊢
    simp only [List.length_map] at e ⊢
    split at e
    · rename_i h
      rw [if_pos (by omega), List.getElem?_map]
      rw [List.getElem?_map] at e
      cases q : as[i]? with
      | none => rw [q] at e; cases e
      | some d' =>
        rw [q] at e
        obtain ⟨v, hv, rv⟩ := r.get q
        rw [hv]
        cases e
        exact ⟨v, rfl, rv⟩
    · rw [List.getElem?_replicate] at e
      split at e <;> cases e
/-- a def that keeps its promise on data -/
theorem fn_data {Rl : List Dat → Dat → Prop} {dvs : List V} {kws : List (Str × V)} (F : FunD K x qual params body scope dvs kws f fd) (S : FnScope N ps scope) (len : ∀ as r, Rl as r → as.length = ps.length)
    (hbody : ∀ (cdv : Value) (A : Around) (outer : List Env) (s : Shared) (H : Hp) (E : XK), Room k (A.deeper (envOfC qual scope s.heap.objs.size f cdv)) →
      ∃ t, PSs (cxOf CX0 P w K mg base N qual scope f cdv A outer s H E).nox body t ∧ ∀ as r, Rl as r → ∀ (E0 Ni : Hp) (D : Ends), Rt E0 Ni r D.rt → Okk E0 Ni t D (s0 N as)) :
    FnOk P w K mg base CX0 (k + 1) f fd ps (spD Rl) := by
  refine F.ok S (fun vs H Q E h => ?_) fun cdv A outer s H vs Q E hr h => ?_
  · obtain ⟨N0, as, r, _, ra, hR, _⟩ := h
    rw [ra.length]
    exact len as r hR
  · obtain ⟨t, ht, hk⟩ := hbody cdv A outer s H E hr
    obtain ⟨N0, as, r, k0, ra, hR, hQ⟩ := h
    refine ⟨t, ht.nox, hk as r hR H N0 { nx := fun _ H' => Q .non H', rt := Q } (fun v N' H' w' r' => hQ v N' H' w'.stp r') N0 H _ (Wd.start k0) (ss_start ra)⟩
end
end Ez

set_option Elab.async false
set_option linter.all false
set_option autoImplicit false
set_option maxRecDepth 100000
set_option maxHeartbeats 1000000
/-! facts of the text, calls by bundles -/
namespace Ez
open PySem L2 Fz PyProof.Rows
def top (i : Nat) : Stmt := PySem.Challenge.pw_eightlots_k20_whole_how_fours_meet.main.body.getD i (.Pass ⟨0, 0, 0, 0⟩)
abbrev FnP (K : PySem.W.Frag) (x : Str) (st : Stmt) (f : Addr) (fd : FuncData) : Prop := FunD K x x (defArgs st) (defBody st) (defScope st) [] [] f fd
/-- a tuple of the written part -/
def KT (K : PySem.W.Frag) (a : Addr) (xs : List V) : Prop := ∃ (o : Obj) (its : Array Value) (n : Nat), K.lookup a = some o ∧ o.cls = .type "tuple" ∧ o.data = .seq its n ∧ its.size ≤ sizeLine ∧ Vals xs its.toList
theorem KT.sq {K : PySem.W.Frag} {a : Addr} {xs : List V} {H : Hp} (h : KT K a xs) : SqT K H a xs := .inr h
/-- what the names of the module hold -/
structure Tx (K : PySem.W.Frag) (mg : Str → Option Value) : Prop where
  len : mg "len" = none
  tuple : mg "tuple" = none
  list : mg "list" = none
  sorted : mg "sorted" = none
  set : mg "set" = none
  range : mg "range" = none
  enumerate : mg "enumerate" = none
  zip : mg "zip" = none
  sum : mg "sum" = none
  any : mg "any" = none
  all : mg "all" = none
  abs : mg "abs" = none
  int : mg "int" = none
  min : mg "min" = none
  isinstance : mg "isinstance" = none
  bool : mg "bool" = none
  str : mg "str" = none
  SIGNS : ∃ u, mg "SIGNS" = some u ∧ RelV (.int 4) u
  MANY_WORDS : ∃ u, mg "MANY_WORDS" = some u ∧ RelV (.int 64) u
  COLUMNS : ∃ u, mg "COLUMNS" = some u ∧ RelV (.int 6) u
  PRODUCTS : ∃ p b0 b1 b2 b3, mg "PRODUCTS" = some (.ref p) ∧ KT K p [.ref b0, .ref b1, .ref b2, .ref b3] ∧ KT K b0 [.int 0, .int 0, .int 0, .int 0] ∧ KT K b1 [.int 0, .int 1, .int 2, .int 3] ∧ KT K b2 [.int 0, .int 2, .int 3, .int 1] ∧ KT K b3 [.int 0, .int 3, .int 1, .int 2]
  BURNING : ∃ u, mg "BURNING" = some u ∧ RelV (.int 8) u
/-- a def of the module that keeps its promise at level k -/
def Cal (P : Program) (w : World) (K : PySem.W.Frag) (mg : Str → Option Value) (base : Heap) (k : Nat) (x : Str) (ps : List Str) (sp : Sp) : Prop :=
  ∃ f fd, mg x = some (.ref f) ∧ PySem.W.keepIn K (.ref f) = true ∧ Binds K fd ps [] ∧ FnOk P w K mg base CX0 k f fd ps sp
section
variable {X : Cx} {x : Str} {p pos : Pos} {es : List Expr} {e : Expr} {t : TA} {k j : Nat} {ps : List Str} {sp : Sp} {r : List V → Hp → VK → Prop} {id : String}
theorem pe_const {v : V} (h : ∃ u, X.mg x = some u ∧ RelV v u) (hg : Gl X x := by rfl) (hd : (x == ("__debug__" : Str)) = false := by decide) : PE X (.Name x pos) (tC v) := by
  obtain ⟨u, h1, h2⟩ := h
  exact pe_glob hg h1 h2 hd
theorem pe_cal (C : Cal X.prog X.w X.K X.mg X.base k x ps sp) (hr : Room j X.A) (ha : PA X (e :: es) t) (hk : k ≤ j := by decide) (hg : Gl X x := by rfl) (hdb : (x == ("__debug__" : Str)) = false := by decide)
    (he : starEach (e :: es) X.env = (false, eval e X.env) :: starEach es X.env := by rfl) (hpl : (backTo pos (starEach es X.env)).any (·.1) = false := by rfl) :
    PE X (.Call (.Name x p) (e :: es) [] pos) (tCall sp [] E0 t) := by
  obtain ⟨f, fd, h1, h2, h3, h4⟩ := C
  exact pe_call h4 (hr.mono hk) hg h1 h2 h3 .nil pass0 ha hdb he hpl
theorem pe_bi (hm : X.mg x = none) (hc : CallR X (.builtin id) r) (ha : PA X (e :: es) t) (hg : Gl X x := by rfl) (hv : bootBuiltins x = some (.builtin id) := by decide +kernel) (hn : x ≠ "__name__" := by decide) (hdb : (x == ("__debug__" : Str)) = false := by decide)
    (he : starEach (e :: es) X.env = (false, eval e X.env) :: starEach es X.env := by rfl) (hpl : (backTo pos (starEach es X.env)).any (·.1) = false := by rfl) : PE X (.Call (.Name x p) (e :: es) [] pos) (tCB r t) := pe_callB hc hg hm hv ha hn hdb he hpl
theorem pe_ty {T : String} (hm : X.mg x = none) (hc : CallR X (.type T) r) (ha : PA X (e :: es) t) (hg : Gl X x := by rfl) (hv : bootBuiltins x = some (.type T) := by decide +kernel) (hn : x ≠ "__name__" := by decide) (hdb : (x == ("__debug__" : Str)) = false := by decide)
    (he : starEach (e :: es) X.env = (false, eval e X.env) :: starEach es X.env := by rfl) (hpl : (backTo pos (starEach es X.env)).any (·.1) = false := by rfl) : PE X (.Call (.Name x p) (e :: es) [] pos) (tCB r t) := pe_callTy hc hg hm hv ha hn hdb he hpl
end
section
variable {P : Program} {w : World} {K : PySem.W.Frag} {mg : Str → Option Value} {base : Heap} {x : Str} {st : Stmt} {f : Addr} {fd : FuncData} {ps : List Str} {k : Nat} {sp : Sp}
theorem cal_of (F : FnP K x st f fd) (hm : mg x = some (.ref f)) (hb : Binds K fd ps []) (G : FnOk P w K mg base CX0 k f fd ps sp) : Cal P w K mg base k x ps sp := ⟨f, fd, hm, F.kp, hb, G⟩
end
end Ez

set_option Elab.async false
set_option linter.all false
set_option autoImplicit false
set_option maxRecDepth 100000
set_option maxHeartbeats 1000000
/-! names of readings -/
namespace Ez
open PySem L2 Fz PyProof.Rows
abbrev rAdd : R2 := rI0 fun i j => .int (i + j)
abbrev rSub : R2 := rI0 fun i j => .int (i - j)
abbrev rMul : R2 := rI CMulW fun i j => .int (i * j)
abbrev rFdv : R2 := rI CDivN fun i j => .int (i.fdiv j)
abbrev rMod : R2 := rI (fun _ j => j ≠ 0) fun i j => .int (i.fmod j)
abbrev rPow : R2 := rI CPow fun i j => .int (i ^ j.toNat)
abbrev rShl : R2 := rI CPow fun i j => .int (i * 2 ^ j.toNat)
abbrev rShr : R2 := rI (fun _ j => 0 ≤ j) fun i j => .int (i / 2 ^ j.toNat)
abbrev rAnd : R2 := rI0 fun i j => .int (Builtin.bitAnd i j)
abbrev rXor : R2 := rI0 fun i j => .int (Builtin.bitXor i j)
abbrev rLt : R2 := rI0 fun i j => .bl (decide (i < j))
abbrev rLe : R2 := rI0 fun i j => .bl (decide (i ≤ j))
abbrev rGt : R2 := rI0 fun i j => .bl (decide (j < i))
abbrev rGe : R2 := rI0 fun i j => .bl (decide (j ≤ i))
abbrev rNeg : V → Hp → VK → Prop := rU fun i => .int (-i)
abbrev rLenS (K : PySem.W.Frag) : List V → Hp → VK → Prop := fun xs H Q => ∃ p ys, xs = [.ref p] ∧ (SqL K H p ys ∨ SqT K H p ys) ∧ Q (.int ys.length) H
abbrev rTupS (K : PySem.W.Frag) : List V → Hp → VK → Prop := fun xs H Q => ∃ p ys, xs = [.ref p] ∧ ((SqL K H p ys ∧ ∀ l, H l = none → Q (.ref l) (upd H l (.tup ys))) ∨ (SqT K H p ys ∧ Q (.ref p) H))
abbrev rLstS (K : PySem.W.Frag) : List V → Hp → VK → Prop := fun xs H Q => ∃ p ys, xs = [.ref p] ∧ (SqL K H p ys ∨ SqT K H p ys) ∧ ∀ l, H l = none → Q (.ref l) (upd H l (.lst ys))
abbrev rAbs : List V → Hp → VK → Prop := fun xs H Q => ∃ i, xs = [.int i] ∧ Q (.int (if i < 0 then -i else i)) H
abbrev rMin2 : List V → Hp → VK → Prop := fun xs H Q => ∃ i j, xs = [.int i, .int j] ∧ Q (.int (if j < i then j else i)) H
abbrev rInt : List V → Hp → VK → Prop := fun xs H Q => (∃ i, xs = [.int i] ∧ Q (.int i) H) ∨ ∃ k, xs = [.bl k] ∧ Q (.int (if k then 1 else 0)) H
abbrev tTru (K : PySem.W.Frag) (te : TE) : TT := fun σ H Q => te σ H fun x H' => ∃ k, TruV K x H' k ∧ Q k H'
abbrev iEith (wi wj : TI) : TI := fun σ H R => wi σ H R ∨ wj σ H R
section
variable {X : Cx} {tg l : Expr} {wi wj : TI} {x : Str} {p pos : Pos} {k j : Nat} {ps : List Str} {sp : Sp}
theorem pi_eith (h1 : PI X tg l wi) (h2 : PI X tg l wj) : PI X tg l (iEith wi wj) := ⟨fun pins s σ H R I h => h.elim (h1.run pins s σ H R I) (h2.run pins s σ H R I)⟩
theorem pe_cal0 (C : Cal X.prog X.w X.K X.mg X.base k x ps sp) (hr : Room j X.A) (hk : k ≤ j := by decide) (hg : Gl X x := by rfl) (hdb : (x == ("__debug__" : Str)) = false := by decide) :
    PE X (.Call (.Name x p) [] [] pos) (tCall sp [] E0 tNil) := by
  obtain ⟨f, fd, h1, h2, h3, h4⟩ := C
  exact pe_call0 h4 (hr.mono hk) hg h1 h2 h3 .nil pass0 hdb
/-- x not in t, t a tuple of data -/
def rNotInT (K : PySem.W.Frag) : R2 := fun x y H Q => ∃ d ds, Dp K H x d ∧ Dp K H y (.tuple ds) ∧ SeqAt.shaped d = true ∧ SeqAt.shaped (.tuple ds) = true ∧ Q (.bl (!ds.any fun z => PyData.eqv z d)) H
theorem op_notInT (hu : X.A.units + 65 < cLine) : OpR X (compareOp .NotIn) (rNotInT X.K) := by
  intro pins s σ H x y v u Q I rx ry h
  obtain ⟨d, ds, hd, he, sd, se, q⟩ := h
  obtain ⟨as, r1⟩ := Dp.reads I d x v hd rx
  obtain ⟨bs, r2⟩ := Dp.reads I (.tuple ds) y u he ry
  exact SeqAt.notIn_tuple_reads r2 r1 (SeqAt.canLay_of_shaped se) (SeqAt.canLay_of_shaped sd) (room_in_shaped sd hu) ⟨.bl _, H, I, rfl, q⟩
abbrev rIsNon : R2 := fun x y H Q => y = .non ∧ Q (.bl (decide (x = .non))) H
/-- f(k = v, ..) without positional values -/
def kw0 {α : Type} : List α → List α → List α
  | [], ws => ws
  | _ :: _, _ => []
def CalK (P : Program) (w : World) (K : PySem.W.Frag) (mg : Str → Option Value) (base : Heap) (k : Nat) (x : Str) (ps ks : List Str) (sp : Sp) : Prop :=
  ∃ f fd, mg x = some (.ref f) ∧ PySem.W.keepIn K (.ref f) = true ∧ KBinds K fd ps ks kw0 kw0 ∧ FnOk P w K mg base CX0 k f fd ps sp
theorem pe_calK {ks : List Str} {kws : List Keyword} {tk : TA} (C : CalK X.prog X.w X.K X.mg X.base k x ps ks sp) (hr : Room j X.A) (hkw : PK X kws tk) (hk : k ≤ j := by decide) (hg : Gl X x := by rfl) (hdb : (x == ("__debug__" : Str)) = false := by decide)
    (hall : (backToKw pos (keywordEach kws X.env)).all (·.1.isSome) = true := by rfl) (hks : (backToKw pos (keywordEach kws X.env)).filterMap (·.1) = ks := by rfl)
    (hpl : ((backTo pos (starEach [] X.env)).any (·.1) || (backToKw pos (keywordEach kws X.env)).any (·.1.isNone)) = false := by rfl) :
    PE X (.Call (.Name x p) [] kws pos) (tCallK sp kw0 E0 tNil tk) := by
  obtain ⟨f, fd, hm, h2, h3, h4⟩ := C
  refine ⟨fun pins s σ H Q I h => ?_⟩
  refine wpAny_Call_Name_kw (ld_glob I hg hm ?_ hdb)
  refine PySem.W.callWith_KW0 (h₀ := X.base) I.ok.mod.kin h2 hall (thn (hkw.run pos pins s σ H _ I h) fun ws s2 ⟨zs, H2, I2, rz, q2⟩ => ⟨I2.kIn, ?_⟩) hpl
  rw [hks]
  exact run_fnk (us := []) h4 (hr.mono hk) h3 pass0 I2 .nil rz q2
theorem units65 {k : Nat} {A : Around} (hr : Room k A) : A.units + 65 < cLine := by have := hr.un; omega
end
end Ez

set_option Elab.async false
set_option linter.all false
set_option autoImplicit false
set_option maxRecDepth 100000
set_option maxHeartbeats 1000000
/-! sorting of data, lots as masks -/
namespace Ez
open PySem PySem.W L2 Fz PyProof.Rows
/-! ### signs of data of one level: ints at 0, tuples of level n at n + 1 -/
def Lv : Nat → Dat → Prop
  | 0, d => ∃ i : Int, d = .int i
  | n + 1, d => ∃ xs : List Dat, d = .tuple xs ∧ ∀ x ∈ xs, Lv n x
theorem toks_inj : ∀ (n : Nat) (x y : Dat), Lv n x → Lv n y → ∀ l m, keyToks x ++ l = keyToks y ++ m → x = y ∧ l = m
  | 0, _, _, ⟨i, rfl⟩, ⟨j, rfl⟩, l, m, h => by
    simp only [keyToks, List.cons_append, List.nil_append, List.cons.injEq, Sum.inl.injEq] at h
    exact ⟨by rw [h.1], h.2⟩
  | n + 1, _, _, ⟨xs, rfl, hx⟩, ⟨ys, rfl, hy⟩, l, m, h => by
    have key : ∀ (xs ys : List Dat), (∀ x ∈ xs, Lv n x) → (∀ y ∈ ys, Lv n y) → ∀ l m, keyToksAll xs ++ l = keyToksAll ys ++ m → xs = ys ∧ l = m := by
      intro xs
      induction xs with
      | nil =>
        intro ys _ _ l m h
        cases ys with
        | nil => simp only [keyToksAll, List.cons_append, List.nil_append, List.cons.injEq] at h; exact ⟨rfl, h.2⟩
        | cons y ys => simp [keyToksAll] at h
      | cons x xs ih =>
        intro ys h1 h2 l m h
        cases ys with
        | nil => simp [keyToksAll] at h
        | cons y ys =>
          simp only [keyToksAll, List.cons_append, List.cons.injEq, true_and, List.append_assoc] at h
          obtain ⟨e1, e2⟩ := toks_inj n x y (h1 x List.mem_cons_self) (h2 y List.mem_cons_self) _ _ h
          obtain ⟨e3, e4⟩ := ih ys (fun z hz => h1 z (List.mem_cons_of_mem _ hz)) (fun z hz => h2 z (List.mem_cons_of_mem _ hz)) _ _ e2
          exact ⟨by rw [e1, e3], e4⟩
    simp only [keyToks] at h
    obtain ⟨e1, e2⟩ := key xs ys hx hy l m h
    exact ⟨by rw [e1], e2⟩
abbrev leD : Dat → Dat → Bool := dataLe false id
theorem leD_tot : TotalLe leD := sortLe_total (listOrd itemOrd) false fun b => keyToks (id b)
theorem leD_anti {n : Nat} {x y : Dat} (hx : Lv n x) (hy : Lv n y) (h1 : leD x y = true) (h2 : leD y x = true) : x = y := by
  have e : keyToks x = keyToks y := by
    have a1 : (!PyProof.Rows.lexLt itemOrd (keyToks y) (keyToks x)) = true := h1
    have a2 : (!PyProof.Rows.lexLt itemOrd (keyToks x) (keyToks y)) = true := h2
    rw [Bool.not_eq_true'] at a1 a2
    exact (listOrd itemOrd).total _ _ a2 a1
  exact (toks_inj n x y hx hy [] [] (by rw [e])).1
theorem srt_perm (ds : List Dat) : (srt ds).Perm ds := List.mergeSort_perm _ _
theorem srt_pw (ds : List Dat) : (srt ds).Pairwise (fun a b => leD a b = true) :=
  List.pairwise_mergeSort (fun a b c => leD_tot.trans a b c) (fun a b => by
    rcases leD_tot.total a b with h | h
    · rw [h]; rfl
    · rw [h]; simp) ds
theorem srt_uniq {n : Nat} {ds es : List Dat} (hd : ∀ d ∈ ds, Lv n d) (hp : es.Perm ds) (hs : es.Pairwise (fun a b => leD a b = true)) : srt ds = es :=
  List.Perm.eq_of_pairwise (le := fun a b => leD a b = true) (fun a b ha hb h1 h2 => leD_anti (hd a ((srt_perm ds).mem_iff.mp ha)) (hd b (hp.mem_iff.mp hb)) h1 h2) (srt_pw ds) hs ((srt_perm ds).trans hp.symm)
theorem srt_of_perm {n : Nat} {ds es : List Dat} (hd : ∀ d ∈ ds, Lv n d) (hp : ds.Perm es) : srt ds = srt es :=
  srt_uniq hd ((srt_perm es).trans hp.symm) (srt_pw es)
/-! alike -/
theorem lv_alike : ∀ (n : Nat) (x y : Dat), Lv n x → Lv n y → alike x y = true
  | 0, _, _, ⟨i, rfl⟩, ⟨j, rfl⟩ => rfl
  | n + 1, _, _, ⟨xs, rfl, hx⟩, ⟨ys, rfl, hy⟩ => by
    have key : ∀ (xs ys : List Dat), (∀ x ∈ xs, Lv n x) → (∀ y ∈ ys, Lv n y) → alikeAll xs ys = true := by
      intro xs
      induction xs with
      | nil => intro ys _ _; cases ys <;> simp [alikeAll]
      | cons x xs ih =>
        intro ys h1 h2
        cases ys with
        | nil => simp [alikeAll]
        | cons y ys =>
          simp only [alikeAll, Bool.and_eq_true]
          exact ⟨lv_alike n x y (h1 x List.mem_cons_self) (h2 y List.mem_cons_self), ih ys (fun z hz => h1 z (List.mem_cons_of_mem _ hz)) fun z hz => h2 z (List.mem_cons_of_mem _ hz)⟩
    simp only [alike]
    exact key xs ys hx hy
theorem lv_depth : ∀ (n : Nat) (x : Dat), Lv n x → x.depth ≤ n + 1
  | 0, _, ⟨i, rfl⟩ => by simp [PyData.depth]
  | n + 1, _, ⟨xs, rfl, hx⟩ => by
    have key : ∀ xs : List Dat, (∀ x ∈ xs, Lv n x) → PyData.depthAll xs ≤ n + 1 := by
      intro xs
      induction xs with
      | nil => intro _; simp [PyData.depthAll]
      | cons x xs ih =>
        intro h
        have h1 := lv_depth n x (h x List.mem_cons_self)
        have h2 := ih fun z hz => h z (List.mem_cons_of_mem _ hz)
        simp only [PyData.depthAll]
        omega
    have := key xs hx
    simp only [PyData.depth]
    omega
theorem lv_nod : ∀ (n : Nat) (x : Dat), Lv n x → nod x = true
  | 0, _, ⟨i, rfl⟩ => rfl
  | n + 1, _, ⟨xs, rfl, hx⟩ => by
    have key : ∀ xs : List Dat, (∀ x ∈ xs, Lv n x) → nodA xs = true := by
      intro xs
      induction xs with
      | nil => intro _; rfl
      | cons x xs ih =>
        intro h
        simp only [nodA, Bool.and_eq_true]
        exact ⟨lv_nod n x (h x List.mem_cons_self), ih fun z hz => h z (List.mem_cons_of_mem _ hz)⟩
    simp only [nod]
    exact key xs hx
/-! ### ints, lots -/
def nI (n : Nat) : Dat := .int (n : Int)
def tN (l : List Nat) : Dat := .tuple (l.map nI)
def lN (l : List Nat) : Dat := .list (l.map nI)
def bitsL (m : Nat) : List Nat := (List.range 24).filter m.testBit
/-- the lot whose mask is m -/
def lt (m : Nat) : Dat := tN (bitsL m)
def popc (m : Nat) : Nat := (bitsL m).length
theorem lv_nI (n : Nat) : Lv 0 (nI n) := ⟨_, rfl⟩
theorem lv_tN (l : List Nat) : Lv 1 (tN l) := ⟨_, rfl, fun x hx => by obtain ⟨n, _, rfl⟩ := List.mem_map.mp hx; exact lv_nI n⟩
theorem lv_lt (m : Nat) : Lv 1 (lt m) := lv_tN _
theorem nI_map (l : List Nat) : l.map nI = (l.map fun n : Nat => (n : Int)).map PyData.int := by rw [List.map_map]; rfl
theorem tN_tI (l : List Nat) : tN l = tI (l.map fun n : Nat => (n : Int)) := by unfold tN tI; rw [nI_map]
theorem nI_inj {a b : Nat} (h : nI a = nI b) : a = b := by
  unfold nI at h
  have := PyData.int.inj h
  omega
theorem map_nI_inj : ∀ {l m : List Nat}, l.map nI = m.map nI → l = m
  | [], [], _ => rfl
  | [], _ :: _, h => by cases h
  | _ :: _, [], h => by cases h
  | a :: l, b :: m, h => by
    rw [List.map_cons, List.map_cons, List.cons.injEq] at h
    rw [nI_inj h.1, map_nI_inj h.2]
theorem tN_inj {l m : List Nat} (h : tN l = tN m) : l = m := map_nI_inj (PyData.tuple.inj h)
theorem leD_nI (a b : Nat) : leD (nI a) (nI b) = decide (a ≤ b) := by
  show (!dataLt (.int (b : Int)) (.int (a : Int))) = _
  rw [dataLt_int]
  by_cases h : a ≤ b
  · rw [decide_eq_true h, decide_eq_false (by omega)]; rfl
  · rw [decide_eq_false h, decide_eq_true (by omega)]; rfl
/-- sorted of a list of numbers that holds the same as an ascending one -/
theorem srt_ints {l m : List Nat} (hp : m.Perm l) (hs : m.Pairwise (· ≤ ·)) : srt (l.map nI) = m.map nI :=
  srt_uniq (n := 0) (fun d hd => by obtain ⟨n, _, rfl⟩ := List.mem_map.mp hd; exact lv_nI n) (hp.map nI) (List.pairwise_map.mpr (hs.imp fun {a b} h => by rw [leD_nI]; exact decide_eq_true h))
theorem bitsL_asc (m : Nat) : (bitsL m).Pairwise (· < ·) := List.Pairwise.filter _ List.pairwise_lt_range
theorem bitsL_nodup (m : Nat) : (bitsL m).Nodup := (bitsL_asc m).imp fun h => Nat.ne_of_lt h
theorem mem_bitsL {m i : Nat} : i ∈ bitsL m ↔ i < 24 ∧ m.testBit i = true := by unfold bitsL; rw [List.mem_filter, List.mem_range]
theorem bitsL_and (a b : Nat) : (bitsL a).filter (fun i => decide (i ∈ bitsL b)) = bitsL (a &&& b) := by
  unfold bitsL
  rw [List.filter_filter]
  apply List.filter_congr
  intro i hi
  rw [Nat.testBit_and]
  have : decide (i ∈ (List.range 24).filter b.testBit) = b.testBit i := by
    rw [Bool.eq_iff_iff, decide_eq_true_iff, List.mem_filter]
    exact ⟨fun h => h.2, fun h => ⟨hi, h⟩⟩
  rw [this, Bool.and_comm]
theorem bitsL_inj {a b : Nat} (ha : a < 2 ^ 24) (hb : b < 2 ^ 24) (h : bitsL a = bitsL b) : a = b := by
  apply Nat.eq_of_testBit_eq
  intro i
  by_cases hi : i < 24
  · have e : i ∈ bitsL a ↔ i ∈ bitsL b := by rw [h]
    rw [mem_bitsL, mem_bitsL] at e
    rw [Bool.eq_iff_iff]
    exact ⟨fun q => (e.mp ⟨hi, q⟩).2, fun q => (e.mpr ⟨hi, q⟩).2⟩
  · rw [Nat.testBit_lt_two_pow (Nat.lt_of_lt_of_le ha (Nat.pow_le_pow_right (by omega) (by omega))), Nat.testBit_lt_two_pow (Nat.lt_of_lt_of_le hb (Nat.pow_le_pow_right (by omega) (by omega)))]
theorem lt_inj {a b : Nat} (ha : a < 2 ^ 24) (hb : b < 2 ^ 24) (h : lt a = lt b) : a = b := bitsL_inj ha hb (tN_inj h)
/-- an ascending list below 24 is the bits of its mask -/
def maskL (l : List Nat) : Nat := l.foldl (fun m i => m ||| 2 ^ i) 0
theorem maskL_bit_aux (l : List Nat) : ∀ (m i : Nat), (l.foldl (fun m i => m ||| 2 ^ i) m).testBit i = (m.testBit i || decide (i ∈ l)) := by
  induction l with
  | nil => intro m i; simp
  | cons a l ih =>
    intro m i
    rw [List.foldl_cons, ih, Nat.testBit_or, Nat.testBit_two_pow]
    by_cases h : a = i
    · subst h; simp
    · have h2 : ¬ i = a := fun z => h z.symm
      simp [h, h2]
theorem maskL_bit (l : List Nat) (i : Nat) : (maskL l).testBit i = decide (i ∈ l) := by
  unfold maskL
  rw [maskL_bit_aux]
  simp
theorem asc_ext {l m : List Nat} (hl : l.Pairwise (· < ·)) (hm : m.Pairwise (· < ·)) (h : ∀ i, i ∈ l ↔ i ∈ m) : l = m :=
  List.Perm.eq_of_pairwise (le := (· < ·)) (fun a b _ _ h1 h2 => absurd h1 (Nat.lt_asymm h2)) hl hm ((List.perm_ext_iff_of_nodup (hl.imp fun h => Nat.ne_of_lt h) (hm.imp fun h => Nat.ne_of_lt h)).mpr h)
theorem bitsL_maskL {l : List Nat} (hl : l.Pairwise (· < ·)) (hb : ∀ i ∈ l, i < 24) : bitsL (maskL l) = l :=
  asc_ext (bitsL_asc _) hl fun i => by
    rw [mem_bitsL, maskL_bit, decide_eq_true_iff]
    exact ⟨fun h => h.2, fun h => ⟨hb i h, h⟩⟩
theorem maskL_lt {l : List Nat} (hb : ∀ i ∈ l, i < 24) : maskL l < 2 ^ 24 := by
  apply Nat.lt_pow_two_of_testBit
  intro i hi
  rw [maskL_bit, decide_eq_false_iff_not]
  intro h
  have := hb i h
  omega
end Ez

set_option Elab.async false
set_option linter.all false
set_option autoImplicit false
set_option maxRecDepth 100000
set_option maxHeartbeats 1000000
/-! ends of loops' turns; expressions on numbers -/
namespace Ez
open PySem L2 Fz PyProof.Rows
def fgA : List Nat → Ss → Ss
  | [], ds => ds
  | j :: js, ds => (fgA js ds).set j .no
theorem SS.forgets {E N H : Hp} {σ : L2.St} {ds : Ss} (h : SS E N H σ ds) : ∀ js : List Nat, SS E N H σ (fgA js ds)
  | [] => h
  | j :: js => (SS.forgets h js).forget j
section
variable {E Ni : Hp} {D : Ends} {ds st' : Ss} {t u : TS} {te : TE} {d : Dat} {K : PySem.W.Frag}
theorem okk_nextN (js : List Nat) (e : fgA js ds = st') (hn : ∀ σ H, Nx E Ni st' σ H → D.nx σ H := by exact fun _ _ z => z) : Okk E Ni tNext D ds := fun N H σ w s => hn σ H ⟨N, w, e ▸ s.forgets js⟩
theorem okk_setN {i : Nat} (js : List Nat) (h : De te (sv ds) d) (e : fgA js (ds.set i (.val d)) = st') (hn : ∀ σ H, Nx E Ni st' σ H → D.nx σ H := by exact fun _ _ z => z) : Okk E Ni (tAsg te (gName i)) D ds :=
  okk_setE h fun N H σ w s => hn σ H ⟨N, w, e ▸ s.forgets js⟩
theorem okk_ownN {i : Nat} {xs : List Dat} (js : List Nat) (h : DeN te (sv ds) xs) (e : fgA js (ds.set i (.own xs)) = st') (hn : ∀ σ H, Nx E Ni st' σ H → D.nx σ H := by exact fun _ _ z => z) : Okk E Ni (tAsg te (gName i)) D ds :=
  okk_ownE h fun N H σ w s => hn σ H ⟨N, w, e ▸ s.forgets js⟩
theorem okk_appN {i : Nat} {xs : List Dat} (js : List Nat) (hi : ds[i]? = some (.own xs)) (h : De te (sv ds) d) (hl : xs.length < 100000) (e : fgA js (ds.set i (.own (xs ++ [d]))) = st') (hn : ∀ σ H, Nx E Ni st' σ H → D.nx σ H := by exact fun _ _ z => z) :
    Okk E Ni (tDrop (tBM K "list" rAppend (tVar i) (tCons te tNil))) D ds := okk_appE hi h hl fun N H σ w s => hn σ H ⟨N, w, e ▸ s.forgets js⟩
theorem okk_extN {i : Nat} {xs ys : List Dat} (js : List Nat) (hi : ds[i]? = some (.own xs)) (h : De te (sv ds) (.list ys)) (hl : xs.length + ys.length ≤ 100000) (e : fgA js (ds.set i (.own (xs ++ ys))) = st') (hn : ∀ σ H, Nx E Ni st' σ H → D.nx σ H := by exact fun _ _ z => z) :
    Okk E Ni (tDrop (tBM K "list" rExtend (tVar i) (tCons te tNil))) D ds := okk_extE hi h hl fun N H σ w s => hn σ H ⟨N, w, e ▸ s.forgets js⟩
/-- a walk at the end of a body -/
theorem okk_forN {wi : TI} {tb : TS} {j : Nat} {items : List Dat} (js : List Nat) (hI : DeI wi (sv ds) items) (st : Nat → Ss) (h0 : st 0 = ds)
    (hb : ∀ Nj i d, items[i]? = some d → Okk E Nj tb { D with nx := Nx E Nj (st (i + 1)), ct := Nx E Nj (st (i + 1)), bk := D.nx } ((st i).set j (.val d))) (e : fgA js (st items.length) = st') (hn : ∀ σ H, Nx E Ni st' σ H → D.nx σ H := by exact fun _ _ z => z) :
    Okk E Ni (tFor wi (gName j) tb) D ds := okk_forE hI st h0 hb fun N H σ w s => hn σ H ⟨N, w, e ▸ s.forgets js⟩
end
/-! numbers -/
section
variable {ds : Sd} {ta tb : TE} {a b : Nat} {K : PySem.W.Frag}
theorem de_n (n : Nat) : De (tC (.int (n : Int))) ds (nI n) := de_int
theorem de_xor (ha : De ta ds (nI a)) (hb : De tb ds (nI b)) : De (tOp rXor ta tb) ds (nI (a ^^^ b)) := (de_op ha hb dr_I0).to (by
  show PyData.int (Builtin.bitXor a b) = _
  rw [Bits.bitXor_pp (by omega) (by omega)]; rfl)
theorem de_and (ha : De ta ds (nI a)) (hb : De tb ds (nI b)) : De (tOp rAnd ta tb) ds (nI (a &&& b)) := (de_op ha hb dr_I0).to (by
  show PyData.int (Builtin.bitAnd a b) = _
  rw [bitAnd_pp (by omega) (by omega)]; rfl)
theorem de_add (ha : De ta ds (nI a)) (hb : De tb ds (nI b)) : De (tOp rAdd ta tb) ds (nI (a + b)) := (de_op ha hb dr_I0).to (by
  show PyData.int ((a : Int) + b) = .int ((a + b : Nat) : Int)
  rw [Int.natCast_add])
theorem de_subN (ha : De ta ds (nI a)) (hb : De tb ds (nI b)) (h : b ≤ a) : De (tOp rSub ta tb) ds (nI (a - b)) := (de_op ha hb dr_I0).to (by
  show PyData.int ((a : Int) - b) = .int ((a - b : Nat) : Int)
  congr 1; omega)
theorem de_mul (ha : De ta ds (nI a)) (hb : De tb ds (nI b)) (h1 : a < 2 ^ 64) (h2 : b < 2 ^ 64) : De (tOp rMul ta tb) ds (nI (a * b)) := (de_op ha hb (dr_I (wide_mul (a := 64) (b := 64) (by omega) (by omega) (by omega) (by omega) (by omega)))).to (by
  show PyData.int ((a : Int) * b) = .int ((a * b : Nat) : Int)
  rw [Int.natCast_mul])
theorem de_div (ha : De ta ds (nI a)) (hb : De tb ds (nI b)) (h1 : 0 < b) (h2 : b < 1073741824) : De (tOp rFdv ta tb) ds (nI (a / b)) := (de_op ha hb (dr_I ⟨by omega, by omega⟩)).to (by
  show PyData.int ((a : Int).fdiv b) = .int ((a / b : Nat) : Int)
  rw [Int.fdiv_eq_ediv_of_nonneg _ (by omega)]; rfl)
theorem de_mod (ha : De ta ds (nI a)) (hb : De tb ds (nI b)) (h1 : 0 < b) : De (tOp rMod ta tb) ds (nI (a % b)) := (de_op ha hb (dr_I (by omega))).to (by
  show PyData.int ((a : Int).fmod b) = .int ((a % b : Nat) : Int)
  rw [Int.fmod_eq_emod_of_nonneg _ (by omega)]; rfl)
theorem de_shl (ha : De ta ds (nI a)) (hb : De tb ds (nI b)) (h1 : a < 2 ^ 64) (h2 : b ≤ 1000000) : De (tOp rShl ta tb) ds (nI (a * 2 ^ b)) := (de_op ha hb (dr_I ⟨by omega, by omega, by omega⟩)).to (by
  show PyData.int ((a : Int) * 2 ^ (b : Int).toNat) = .int ((a * 2 ^ b : Nat) : Int)
  rw [Int.toNat_natCast, Int.natCast_mul, Int.natCast_pow]; rfl)
theorem de_shr (ha : De ta ds (nI a)) (hb : De tb ds (nI b)) : De (tOp rShr ta tb) ds (nI (a / 2 ^ b)) := (de_op ha hb (dr_I (by omega))).to (by
  show PyData.int ((a : Int) / 2 ^ (b : Int).toNat) = .int ((a / 2 ^ b : Nat) : Int)
  rw [Int.toNat_natCast, Int.natCast_ediv, Int.natCast_pow]; rfl)
theorem de_lt (ha : De ta ds (nI a)) (hb : De tb ds (nI b)) : De (tOp rLt ta tb) ds (.bool (decide (a < b))) := (de_op ha hb dr_B0).to (by
  congr 1; exact decide_eq_decide.mpr (by omega))
theorem de_le (ha : De ta ds (nI a)) (hb : De tb ds (nI b)) : De (tOp rLe ta tb) ds (.bool (decide (a ≤ b))) := (de_op ha hb dr_B0).to (by
  congr 1; exact decide_eq_decide.mpr (by omega))
theorem de_gt (ha : De ta ds (nI a)) (hb : De tb ds (nI b)) : De (tOp rGt ta tb) ds (.bool (decide (b < a))) := (de_op ha hb dr_B0).to (by
  congr 1; exact decide_eq_decide.mpr (by omega))
theorem de_ge (ha : De ta ds (nI a)) (hb : De tb ds (nI b)) : De (tOp rGe ta tb) ds (.bool (decide (b ≤ a))) := (de_op ha hb dr_B0).to (by
  congr 1; exact decide_eq_decide.mpr (by omega))
theorem eqv_nI (a b : Nat) : PyData.eqv (nI a) (nI b) = decide (a = b) := by
  show (((a : Int) == (b : Int)) : Bool) = decide (a = b)
  by_cases h : a = b
  · subst h; simp
  · rw [decide_eq_false h, beq_eq_false_iff_ne]; omega
theorem de_eqI (ha : De ta ds (nI a)) (hb : De tb ds (nI b)) : De (tOp (rEqD K) ta tb) ds (.bool (decide (a = b))) := (de_op ha hb (dr_eqD (by rfl) (by rfl))).to (by rw [eqv_nI])
theorem de_neI (ha : De ta ds (nI a)) (hb : De tb ds (nI b)) : De (tOp (rNeD K) ta tb) ds (.bool (!decide (a = b))) := (de_op ha hb (dr_neD (by rfl) (by rfl))).to (by rw [eqv_nI])
theorem mem_cast {a : Nat} {l : List Nat} : ((a : Int) ∈ l.map fun n : Nat => (n : Int)) ↔ a ∈ l := by
  rw [List.mem_map]
  exact ⟨fun ⟨x, h1, h2⟩ => by have : x = a := by omega
                               rw [← this]; exact h1, fun h => ⟨a, h, rfl⟩⟩
theorem de_isIn {y : Dat} {l : List Nat} (ha : De ta ds (nI a)) (hb : De tb ds y) (hy : isSeq y (l.map nI)) : De (tOp (rIn K false) ta tb) ds (.bool (decide (a ∈ l))) :=
  (de_op ha hb (dr_isIn (by rw [nI_map] at hy; exact hy))).to (by congr 1; exact decide_eq_decide.mpr mem_cast)
theorem de_notIn {y : Dat} {l : List Nat} (ha : De ta ds (nI a)) (hb : De tb ds y) (hy : isSeq y (l.map nI)) : De (tOp (rIn K true) ta tb) ds (.bool (!decide (a ∈ l))) :=
  (de_op ha hb (dr_notIn (by rw [nI_map] at hy; exact hy))).to (by rw [show decide ((a : Int) ∈ l.map fun n : Nat => (n : Int)) = decide (a ∈ l) from decide_eq_decide.mpr mem_cast])
theorem de_ix {x z : Dat} {xs : List Dat} {j : Nat} (hx : De ta ds x) (hj : De tb ds (nI j)) (hs : isSeq x xs) (h : xs[j]? = some z) : De (tOp (rIx K) ta tb) ds z := de_op hx hj (dr_ixn hs h)
theorem de_len {x : Dat} {xs : List Dat} (hx : De ta ds x) (hs : isSeq x xs) : De (tCB (rLenS K) (tCons ta tNil)) ds (nI xs.length) := de_cb (dea_1 hx) (dc_len hs)
theorem de_tupS {x : Dat} {xs : List Dat} (hx : De ta ds x) (hs : isSeq x xs) : De (tCB (rTupS K) (tCons ta tNil)) ds (.tuple xs) := de_cb (dea_1 hx) (dc_tuple hs)
theorem den_lstS {x : Dat} {xs : List Dat} (hx : De ta ds x) (hs : isSeq x xs) : DeN (tCB (rLstS K) (tCons ta tNil)) ds xs := den_cb (dea_1 hx) (dcn_list hs)
theorem de_sumN {l : List Nat} (hx : De ta ds (lN l)) : De (tCB (rSum K) (tCons ta tNil)) ds (nI l.sum) := (de_cb (dea_1 (hx.to (by unfold lN; rw [nI_map]))) dc_sum).to (by
  have : ∀ l : List Nat, (l.map fun n : Nat => (n : Int)).sum = ((l.sum : Nat) : Int) := by
    intro l
    induction l with
    | nil => rfl
    | cons a l ih => rw [List.map_cons, List.sum_cons, List.sum_cons, ih, Int.natCast_add]
  rw [this]; rfl)
theorem de_intN (hx : De ta ds (nI a)) : De (tCB rInt (tCons ta tNil)) ds (nI a) := de_cb (dea_1 hx) dc_int
theorem de_intBN {c : Bool} (hx : De ta ds (.bool c)) : De (tCB rInt (tCons ta tNil)) ds (nI (if c then 1 else 0)) := (de_cb (dea_1 hx) dc_intB).to (by cases c <;> rfl)
theorem deb_truN (hx : De ta ds (nI a)) : DeB (tTru K ta) ds (decide (a ≠ 0)) := (deb_tru hx).to (by
  show ((a : Int) != 0) = decide (a ≠ 0)
  by_cases h : a = 0
  · subst h; rfl
  · rw [decide_eq_true h, bne_iff_ne]; omega)
/-- a list of numbers by a walk with a test -/
theorem lN_filter (l : List Nat) (f : Nat → Bool) : PyData.list ((l.filter f).map nI) = lN (l.filter f) := rfl
theorem rngD_nat (n : Nat) : rngD 0 n = (List.range n).map nI := by
  unfold rngD
  apply List.map_congr_left
  intro i _
  show PyData.int (0 + (i : Int)) = _
  rw [Int.zero_add]; rfl
theorem dei_rngN {n : Nat} (h : De ta ds (nI n)) (hn : n ≤ 100000) : DeI (iRng1 (tCons ta tNil)) ds ((List.range n).map nI) := by
  rw [← rngD_nat]; exact dei_rng1 h hn
theorem den_sortI {x : Dat} {l m : List Nat} (hx : De ta ds x) (hs : isSeq x (l.map nI)) (hp : m.Perm l) (hm : m.Pairwise (· ≤ ·)) : DeN (tCB (rSortD K) (tCons ta tNil)) ds (m.map nI) := by
  rw [← srt_ints hp hm]
  refine den_cb (dea_1 hx) ?_
  have e := nI_map l
  refine dcn_sort hs (by rw [e]; exact allAlike_ints _) (by rw [e]; exact canSort_ints _) (by rw [e]; exact depth_int _) ?_
  clear hs hp hx e
  induction l with
  | nil => rfl
  | cons a l ih => exact ih
theorem nodA_of {xs : List Dat} (h : ∀ x ∈ xs, nod x = true) : nodA xs = true := by
  induction xs with
  | nil => rfl
  | cons x xs ih =>
    simp only [nodA, Bool.and_eq_true]
    exact ⟨h x List.mem_cons_self, ih fun z hz => h z (List.mem_cons_of_mem _ hz)⟩
theorem den_sortT {x : Dat} {xs : List Dat} {n : Nat} (hx : De ta ds x) (hs : isSeq x xs) (hn : n ≤ 7) (hl : ∀ d ∈ xs, Lv n d) (hk : CanSort xs) : DeN (tCB (rSortD K) (tCons ta tNil)) ds (srt xs) :=
  den_cb (dea_1 hx) (dcn_sort hs (fun d hd e he => lv_alike n d e (hl d hd) (hl e he)) hk (fun d hd => Nat.le_trans (lv_depth n d (hl d hd)) (by omega)) (nodA_of fun d hd => lv_nod n d (hl d hd)))
end
theorem get_nI {l : List Nat} {i : Nat} {d : Dat} (h : (l.map nI)[i]? = some d) : ∃ a, l[i]? = some a ∧ d = nI a := by
  rw [List.getElem?_map] at h
  cases e : l[i]? with
  | none => rw [e] at h; cases h
  | some a => rw [e] at h; exact ⟨a, rfl, (Option.some.inj h).symm⟩
theorem get_map {α : Type} {f : α → Dat} {l : List α} {i : Nat} {d : Dat} (h : (l.map f)[i]? = some d) : ∃ a, l[i]? = some a ∧ d = f a := by
  rw [List.getElem?_map] at h
  cases e : l[i]? with
  | none => rw [e] at h; cases h
  | some a => rw [e] at h; exact ⟨a, rfl, (Option.some.inj h).symm⟩
theorem get_rng {n i : Nat} {d : Dat} (h : ((List.range n).map nI)[i]? = some d) : i < n ∧ d = nI i := by
  obtain ⟨a, h1, rfl⟩ := get_nI h
  obtain ⟨h2, h3⟩ := List.getElem?_eq_some_iff.mp h1
  rw [List.length_range] at h2
  rw [List.getElem_range] at h3
  exact ⟨h2, by rw [← h3]⟩
theorem tN_app (l : List Nat) (a : Nat) : PyData.tuple (l.map nI ++ [nI a]) = tN (l ++ [a]) := by unfold tN; rw [List.map_append]; rfl
theorem lv_map {α : Type} {n : Nat} {f : α → Dat} (h : ∀ a, Lv n (f a)) (l : List α) : ∀ d ∈ l.map f, Lv n d := fun d hd => by obtain ⟨a, _, rfl⟩ := List.mem_map.mp hd; exact h a
end Ez

set_option Elab.async false
set_option linter.all false
set_option autoImplicit false
set_option maxRecDepth 100000
set_option maxHeartbeats 1000000
/-! dicts -/
namespace Ez
open PySem L2 Fz PyProof.Rows
section
variable {κ β : Type} [DecidableEq κ]
def valX (kvs : List (κ × β)) (k : κ) : Option β := (kvs.find? fun kv => decide (kv.1 = k)).map (·.2)
def putX (kvs : List (κ × β)) (k : κ) (v : β) : List (κ × β) := if (kvs.any fun kv => decide (kv.1 = k)) = true then kvs.map (fun kv => if kv.1 = k then (kv.1, v) else kv) else kvs ++ [(k, v)]
theorem valX_nil {k : κ} : valX ([] : List (κ × β)) k = none := rfl
theorem valX_cons {p : κ × β} {r : List (κ × β)} {k : κ} : valX (p :: r) k = if p.1 = k then some p.2 else valX r k := by
  unfold valX
  rw [List.find?_cons]
  by_cases h : p.1 = k
  · simp [h]
  · simp [h]
theorem putX_new {kvs : List (κ × β)} {k : κ} {v : β} (h : ∀ kv ∈ kvs, kv.1 ≠ k) : putX kvs k v = kvs ++ [(k, v)] := by
  unfold putX
  rw [if_neg]
  intro z
  rw [List.any_eq_true] at z
  obtain ⟨x, h1, h2⟩ := z
  exact h x h1 (of_decide_eq_true h2)
theorem putX_len (kvs : List (κ × β)) (k : κ) (v : β) : (putX kvs k v).length ≤ kvs.length + 1 := by
  unfold putX
  split
  · rw [List.length_map]; omega
  · rw [List.length_append]; exact Nat.le_refl _
end
theorem map_inl_inj {k l : List Int} : k.map (Sum.inl (β := Str)) = l.map Sum.inl ↔ k = l := by
  constructor
  · intro h
    have := congrArg (List.map fun z : Int ⊕ Str => match z with | .inl i => i | .inr _ => 0) h
    simpa [List.map_map, Function.comp_def] using this
  · intro h; rw [h]
theorem kV_map (k : List Int) : (k.map (Sum.inl (β := Str))).map kV = k.map V.int := by rw [List.map_map]; rfl
section
variable {N : Hp}
theorem RelT.length {ws : List (List L2.Key × V)} {kvs : List (List Int × Dat)} (h : RelT N ws kvs) : ws.length = kvs.length := Paired.length h
theorem RelT.mono {N' : Hp} {ws : List (List L2.Key × V)} {kvs : List (List Int × Dat)} (k : Same N N') (h : RelT N ws kvs) : RelT N' ws kvs := L2.Paired.mapP h fun _ _ z => ⟨z.1, z.2.mono k⟩
theorem RelT.get : ∀ {ws : List (List L2.Key × V)} {kvs : List (List Int × Dat)}, RelT N ws kvs → ∀ {k : List Int} {d : Dat}, valX kvs k = some d → ∃ v, valV ws (k.map Sum.inl) = some v ∧ Rp N v d
  | _, _, .nil, k, d, h => by cases h
  | _, _, .cons (a := w) (b := kv) h t, k, d, e => by
    rw [valX_cons] at e
    by_cases hk : kv.1 = k
    · rw [if_pos hk] at e
      cases e
      exact ⟨w.2, valV_pos (by rw [h.1, hk]), h.2⟩
    · rw [if_neg hk] at e
      obtain ⟨v, h1, h2⟩ := RelT.get t e
      exact ⟨v, by rw [valV_neg (by rw [h.1, map_inl_inj]; exact hk)]; exact h1, h2⟩
theorem RelT.any : ∀ {ws : List (List L2.Key × V)} {kvs : List (List Int × Dat)}, RelT N ws kvs → ∀ (k : List Int), (ws.any fun w => decide (w.1 = k.map Sum.inl)) = kvs.any fun kv => decide (kv.1 = k)
  | _, _, .nil, k => rfl
  | _, _, .cons h t, k => by
    rw [List.any_cons, List.any_cons, RelT.any t, h.1]
    congr 1
    exact decide_eq_decide.mpr map_inl_inj
theorem RelT.put {ws : List (List L2.Key × V)} {kvs : List (List Int × Dat)} (h : RelT N ws kvs) (k : List Int) {v : V} {d : Dat} (r : Rp N v d) : RelT N (putK ws (k.map Sum.inl) v) (putX kvs k d) := by
  unfold putK putX
  rw [h.any k]
  split
  · rename_i hc
    clear hc
    induction h with
    | nil => exact .nil
    | @cons wa kb _ _ a t ih =>
      refine .cons ?_ ih
      show (if wa.1 = k.map Sum.inl then (wa.1, v) else wa).1 = (if kb.1 = k then (kb.1, d) else kb).1.map Sum.inl ∧ Rp N (if wa.1 = k.map Sum.inl then (wa.1, v) else wa).2 (if kb.1 = k then (kb.1, d) else kb).2
      by_cases e : kb.1 = k
      · rw [if_pos e, if_pos (by rw [a.1, e])]; exact ⟨a.1, r⟩
      · rw [if_neg e, if_neg (by rw [a.1, map_inl_inj]; exact e)]; exact a
  · exact Paired.snoc h ⟨rfl, r⟩
def encT (kvs : List (List Int × Dat)) : List (Dat × Dat) := kvs.map fun kv => (tI kv.1, kv.2)
theorem RelT.rpd : ∀ {ws : List (List L2.Key × V)} {kvs : List (List Int × Dat)}, RelT N ws kvs → RpD N ws (encT kvs)
  | _, _, .nil => .nil
  | _, _, .cons (a := w) (b := kv) h t => by
    obtain ⟨w1, w2⟩ := w
    obtain ⟨k1, k2⟩ := kv
    obtain ⟨e, r⟩ := h
    have e : w1 = k1.map Sum.inl := e
    subst e
    exact .cons r (RelT.rpd t)
theorem tI_inj {k l : List Int} (h : tI k = tI l) : k = l := by
  have h2 := PyData.tuple.inj h
  have := congrArg (List.map fun z : Dat => match z with | .int i => i | _ => 0) h2
  simpa [List.map_map, Function.comp_def] using this
theorem RpD.relT : ∀ {ws : List (List L2.Key × V)} {kvs : List (List Int × Dat)}, RpD N ws (encT kvs) → RelT N ws kvs
  | _, [], h => by cases h; exact .nil
  | _, kv :: kvs, h => by
    unfold encT at h
    rw [List.map_cons] at h
    generalize hk : tI kv.1 = kd at h
    cases h with
    | cons r t => exact .cons ⟨by rw [tI_inj (k := kv.1) hk], r⟩ (RpD.relT t)
end
section
variable {E Ni : Hp} {D : Ends} {ds st' : Ss} {t u : TS} {te ty : TE} {d : Dat} {K : PySem.W.Frag}
theorem okk_newT {i : Nat} (k : Okk E Ni t D (ds.set i (.ownT []))) : Okk E Ni (tSeq (tAsg tDNewT (gName i)) t) D ds := fun N H σ w s => fun p hp =>
  k N _ _ (w.step (Stp.hid w.nh hp)) (s.set_own (Stp.hid w.nh hp) i (same_none w.eh hp) hp (same_none w.nh hp) ⟨[], upd_same, .nil⟩ rfl)
theorem okk_putE {i : Nat} {kvs : List (List Int × Dat)} {k : List Int} (hi : ds[i]? = some (.ownT kvs)) (hv : De te (sv ds) d) (hk : De ty (sv ds) (tI k)) (hl : kvs.length < 100000) (kk : ∀ N H σ, Wd E Ni N H → SS E N H σ (ds.set i (.ownT (putX kvs k d))) → D.nx σ H) :
    Okk E Ni (sDPut (tVar i) ty te) D ds := fun N H σ w s => by
  obtain ⟨p, sp, ep, np, ws, hp, r⟩ := s.own i _ hi rfl
  refine hv σ N s.sl H w.nh _ fun v N1 H1 s1 r1 => ⟨.ref p, sp, hk σ N1 (s.sl.mono s1.nn) H1 s1.nh _ fun y N2 H2 s2 r2 => ?_⟩
  obtain ⟨b, us, rfl, hb, rb⟩ := Rp.tup_ref (show Rp N2 y (.tuple (k.map .int)) from r2)
  rw [rpa_ints rb] at hb
  have s12 := s1.trans s2
  have e1 : H2 p = some (.dT ws) := s12.hh _ _ hp
  have n1 : N2 p = none := s12.fr p (by rw [hp]; exact mb (by intro _ z; cases z)) np
  have w1 := w.step s12
  refine ⟨p, _, rfl, DPut.t (k := k.map Sum.inl) e1 (by rw [kV_map]; exact s2.nh _ _ hb) (Nat.lt_of_lt_of_le (show ws.length < 100000 by rw [r.length]; exact hl) (by decide)), ?_⟩
  exact kk N2 _ σ ⟨w1.ni, same_mut w1.eh ep, same_mut w1.nh n1, w1.fr⟩ ((s.step s12).mut i hi rfl sp rfl ⟨_, upd_same, (RelT.mono s12.nn r).put k (r1.mono s2.nn)⟩)
theorem okk_putN {i : Nat} {kvs : List (List Int × Dat)} {k : List Int} (js : List Nat) (hi : ds[i]? = some (.ownT kvs)) (hv : De te (sv ds) d) (hk : De ty (sv ds) (tI k)) (hl : kvs.length < 100000) (e : fgA js (ds.set i (.ownT (putX kvs k d))) = st') (hn : ∀ σ H, Nx E Ni st' σ H → D.nx σ H := by exact fun _ _ z => z) :
    Okk E Ni (sDPut (tVar i) ty te) D ds := okk_putE hi hv hk hl fun N H σ w s => hn σ H ⟨N, w, e ▸ s.forgets js⟩
theorem okk_freezeT {j : Nat} {kvs : List (List Int × Dat)} (e : ds[j]? = some (.ownT kvs)) (k : Okk E Ni t D (ds.set j (.val (.dict (encT kvs))))) : Okk E Ni t D ds := fun N H σ w s => by
  obtain ⟨p, sp, ep, np, us, hp, r⟩ := s.own j _ e rfl
  obtain ⟨w2, s2⟩ := s.freeze w j e rfl sp hp (.dct upd_same (RelT.rpd (RelT.mono (same_new np) r)))
  exact k _ H σ w2 s2
end
section
variable {ds : Sd} {ta tb : TE}
theorem de_dget {kvs : List (List Int × Dat)} {k : List Int} {d : Dat} (ha : De ta ds (.dict (encT kvs))) (hk : De tb ds (tI k)) (h : valX kvs k = some d) : De (tDGet ta tb) ds d := fun σ N hs H kk Q q =>
  ha σ N hs H kk _ fun v N1 H1 s1 r1 => hk σ N1 (hs.mono s1.nn) H1 s1.nh _ fun y N2 H2 s2 r2 => by
    have r1 := r1.mono s2.nn
    obtain ⟨b, us, rfl, hb, rb⟩ := Rp.tup_ref (show Rp N2 y (.tuple (k.map .int)) from r2)
    rw [rpa_ints rb] at hb
    generalize hd : PyData.dict (encT kvs) = dd at r1
    cases r1 with
    | @dct a ws es e t =>
      cases hd
      obtain ⟨v, h1, h2⟩ := (RpD.relT t).get h
      refine ⟨a, v, rfl, ?_, q v N2 H2 (s1.trans s2) h2⟩
      rw [← h1]
      exact DGet.t (k := k.map Sum.inl) (s2.nh _ _ e) (by rw [kV_map]; exact s2.nh _ _ hb)
    | _ => cases hd
theorem de_anyF {α : Type} {K : PySem.W.Frag} (l : List α) (f : α → Bool) (h : De ta ds (.list (l.map fun a => PyData.bool (f a)))) : De (tCB (rAny K) (tCons ta tNil)) ds (.bool (l.any f)) :=
  (de_cb (dea_1 (h.to (by rw [show (l.map fun a => PyData.bool (f a)) = (l.map f).map PyData.bool by rw [List.map_map]; rfl]))) dc_any).to (by rw [List.any_map]; rfl)
theorem de_allF {α : Type} {K : PySem.W.Frag} (l : List α) (f : α → Bool) (h : De ta ds (.list (l.map fun a => PyData.bool (f a)))) : De (tCB (rAll K) (tCons ta tNil)) ds (.bool (l.all f)) :=
  (de_cb (dea_1 (h.to (by rw [show (l.map fun a => PyData.bool (f a)) = (l.map f).map PyData.bool by rw [List.map_map]; rfl]))) dc_all).to (by rw [List.all_map]; rfl)
theorem de_any0 {K : PySem.W.Frag} {l : List Nat} {f : Nat → Bool} (h : De ta ds (.list (l.map fun a => PyData.bool (f a)))) (hf : ∀ a ∈ l, f a = false) : De (tCB (rAny K) (tCons ta tNil)) ds (.bool false) :=
  (de_anyF l f h).to (by congr 1; rw [List.any_eq_false]; intro x hx; rw [hf x hx]; exact Bool.false_ne_true)
theorem valX_map {α : Type} {enc : α → List Int} {f : α → Dat} (inj : ∀ a b, enc a = enc b → a = b) : ∀ {l : List α} {a : α}, a ∈ l → valX (l.map fun a => (enc a, f a)) (enc a) = some (f a)
  | b :: l, a, h => by
    rw [List.map_cons, valX_cons]
    by_cases e : b = a
    · subst e
      rw [if_pos rfl]
    · rw [if_neg (fun z => e (inj _ _ z))]
      rcases List.mem_cons.mp h with q | q
      · exact absurd q.symm e
      · exact valX_map inj q
end
section
variable {E Ni : Hp} {D : Ends} {ds st' : Ss} {t u : TS} {te ty : TE} {d : Dat} {K : PySem.W.Frag}
/-- a, b = x, [..] by a tuple that is laid and taken apart -/
theorem okk_asgTup2 {i j : Nat} {xs : List Dat} (hij : i ≠ j) (h : De te (sv ds) d) (h2 : DeN ty (sv ds) xs) (k : Okk E Ni t D ((ds.set i (.val d)).set j (.own xs))) :
    Okk E Ni (tSeq (tAsg (tTup (tCons te (tCons ty tNil))) (gTup K 2 (gCons (gName i) (gCons (gName j) gNil)))) t) D ds := fun N H σ w s =>
  h σ N s.sl H w.nh _ fun v N1 H1 s1 r1 => h2 σ N1 (s.sl.mono s1.nn) H1 s1.nh _ fun q us N2 H2 s2 hq n e r2 => by
    refine ⟨show 2 ≤ sizeLine by decide, fun p hp => ⟨p, _, rfl, SqT.of upd_same, rfl, _, _, rfl, _, _, rfl, rfl, ?_⟩⟩
    have sa := s1.trans s2
    have sb := Stp.hid (o := HO.tup [v, .ref q]) sa.nh hp
    have hqp : q ≠ p := fun z => by rw [z] at e; rw [e] at hp; cases hp
    have w2 := w.step (sa.trans sb)
    have n2 : N2 q = none := n
    have a := (s.step s1).set_val i r1
    have b := a.set_own (s2.trans sb) j (p := q) (k := .own xs) (same_none (w.step s1).eh hq) hq n2 ⟨us, by rw [upd_ne hqp]; exact e, r2⟩ rfl
    exact k N2 _ _ w2 b
theorem okk_asgTup2V {i j : Nat} {d2 : Dat} (h : De te (sv ds) d) (h2 : De ty (sv ds) d2) (k : Okk E Ni t D ((ds.set i (.val d)).set j (.val d2))) :
    Okk E Ni (tSeq (tAsg (tTup (tCons te (tCons ty tNil))) (gTup K 2 (gCons (gName i) (gCons (gName j) gNil)))) t) D ds := fun N H σ w s =>
  h σ N s.sl H w.nh _ fun v N1 H1 s1 r1 => h2 σ N1 (s.sl.mono s1.nn) H1 s1.nh _ fun v2 N2 H2 s2 r2 => by
    refine ⟨show 2 ≤ sizeLine by decide, fun p hp => ⟨p, _, rfl, SqT.of upd_same, rfl, _, _, rfl, _, _, rfl, rfl, ?_⟩⟩
    have sa := s1.trans s2
    have sb := Stp.hid (o := HO.tup [v, v2]) sa.nh hp
    exact k N2 _ _ (w.step (sa.trans sb)) (((s.step (sa.trans sb)).set_val i (r1.mono s2.nn)).set_val j r2)
end
end Ez

set_option Elab.async false
set_option linter.all false
set_option autoImplicit false
set_option maxRecDepth 100000
set_option maxHeartbeats 1000000
/-! two walks in one comprehension; isinstance; sets of lots -/
namespace Ez
open PySem L2 Fz PyProof.Rows
section
variable {K : PySem.W.Frag}
theorem den_lc2G {wi wi1 : TI} {g g1 : TG} {te : TE} {vs vs1 js js1 : List Nat} {ds : Sd} {items : List Dat} (hI : DeI wi ds items) (hz : items.length ≤ 300) (hjs : ∀ i ∈ js, i ∈ vs) (hjs1 : ∀ i ∈ js1, i ∈ vs1) (dsi : Nat → Sd) (items1 : Nat → List Dat) (dsij : Nat → Nat → Sd) (r : Nat → Nat → Dat)
    (hz1 : ∀ i, (items1 i).length ≤ 300)
    (hg : ∀ i d, items[i]? = some d → DeG g js d (dwipe ds vs) (dsi i)) (hI1 : ∀ i d, items[i]? = some d → DeI wi1 (dsi i) (items1 i))
    (hg1 : ∀ i d j e, items[i]? = some d → (items1 i)[j]? = some e → DeG g1 js1 e (dwipe (dsi i) vs1) (dsij i j)) (he : ∀ i d j e, items[i]? = some d → (items1 i)[j]? = some e → De te (dsij i j) (r i j)) :
    DeN (tLc2 wi g tYes wi1 g1 tYes te vs vs1) ds ((List.range items.length).flatMap fun i => (List.range (items1 i).length).map (r i)) := fun σ N hs H k Q q =>
  hI σ N hs H k _ fun J N1 H1 s1 wk D hD => by
    have hN1 : N1 D = none := same_none s1.nh hD
    have sucI : ∀ i, ((List.range (i + 1)).flatMap fun i => (List.range (items1 i).length).map (r i)) = ((List.range i).flatMap fun i => (List.range (items1 i).length).map (r i)) ++ (List.range (items1 i).length).map (r i) := fun i => by
      rw [List.range_succ, List.flatMap_append, List.flatMap_cons, List.flatMap_nil, List.append_nil]
    have lenI : ∀ i, ((List.range i).flatMap fun i => (List.range (items1 i).length).map (r i)).length ≤ 300 * i := by
      intro i
      induction i with
      | zero => exact Nat.le_refl _
      | succ i ih => rw [sucI, List.length_append, List.length_map, List.length_range]; have := hz1 i; omega
    refine ⟨fun i m H' => m = items.length - i ∧ i ≤ items.length ∧ ∃ N' us, Stp N1 H1 N' H' ∧ N' D = none ∧ H' D = some (.lst us) ∧ RpA N' us ((List.range i).flatMap fun i => (List.range (items1 i).length).map (r i)),
      ⟨items.length, by omega, Nat.zero_le _, N1, [], Stp.hid s1.nh hD, hN1, upd_same, .nil⟩, ?_⟩
    rintro i m H' ⟨rfl, hi, N', us, s2, n2, e2, r2⟩
    by_cases hlt : i < items.length
    · refine .inr ⟨wk.go i H' hlt (s2.nn.trans s2.nh), fun H' => ∃ N' us, Stp N1 H1 N' H' ∧ N' D = none ∧ H' D = some (.lst us) ∧ RpA N' us ((List.range (i + 1)).flatMap fun i => (List.range (items1 i).length).map (r i)), fun H'' w => ⟨items.length - (i + 1), by omega, rfl, hlt, w⟩, fun x H3 hy => ?_⟩
      have hd := List.getElem?_eq_getElem hlt
      obtain ⟨N3, s3, rx⟩ := wk.yld i _ N' H' x H3 hd s2.nn s2.nh hy
      have hs3 : Sl N3 σ ds := hs.mono (s1.nn.trans (s2.nn.trans s3.nn))
      refine hg i _ hd N3 H3 (L2.wipe σ vs) x (hs3.wipe vs) s3.nh rx _ fun σ2 hσ2 el eo => ⟨?_, ?_⟩
      · rw [← wipe_wipe σ vs]
        exact wipe_ext el fun j hj => eo j fun z => hj (hjs j z)
      · show wi1 σ2 H3 _
        refine hI1 i _ hd σ2 N3 hσ2 H3 s3.nh _ fun J1 N4 H4 s4 wk1 => ?_
        have s14 := (s2.trans s3).trans s4
        have n4 : N4 D = none := (s3.trans s4).fr D (by rw [e2]; exact mb (by intro _ z; cases z)) n2
        have e4 : H4 D = some (.lst us) := s4.hh _ _ (s3.hh _ _ e2)
        have hσ4 := hσ2.mono s4.nn
        refine ⟨fun j m H' => m = (items1 i).length - j ∧ j ≤ (items1 i).length ∧ ∃ N' us', Stp N1 H1 N' H' ∧ Same N4 N' ∧ N' D = none ∧ H' D = some (.lst us') ∧ RpA N' us' (((List.range i).flatMap fun i => (List.range (items1 i).length).map (r i)) ++ (List.range j).map (r i)),
          ⟨(items1 i).length, by omega, Nat.zero_le _, N4, us, s14, Same.refl _, n4, e4, by rw [List.range_zero, List.map_nil, List.append_nil]; exact r2.mono (s3.nn.trans s4.nn)⟩, ?_⟩
        rintro j m H' ⟨rfl, hj, N5, us5, s5, k5, n5, e5, r5⟩
        by_cases hlt1 : j < (items1 i).length
        · refine .inr ⟨wk1.go j H' hlt1 (k5.trans s5.nh), fun H' => ∃ N' us', Stp N1 H1 N' H' ∧ Same N4 N' ∧ N' D = none ∧ H' D = some (.lst us') ∧ RpA N' us' (((List.range i).flatMap fun i => (List.range (items1 i).length).map (r i)) ++ (List.range (j + 1)).map (r i)), fun H'' w => ⟨(items1 i).length - (j + 1), by omega, rfl, hlt1, w⟩, fun x1 H6 hy1 => ?_⟩
          have hd1 := List.getElem?_eq_getElem hlt1
          obtain ⟨N6, s6, rx1⟩ := wk1.yld j _ N5 H' x1 H6 hd1 k5 s5.nh hy1
          refine hg1 i _ j _ hd hd1 N6 H6 (L2.wipe σ2 vs1) x1 ((hσ4.mono (k5.trans s6.nn)).wipe vs1) s6.nh rx1 _ fun σ3 hσ3 el1 eo1 => ⟨?_, ?_⟩
          · rw [← wipe_wipe σ2 vs1]
            exact wipe_ext el1 fun l hl => eo1 l fun z => hl (hjs1 l z)
          · show te σ3 H6 _
            refine he i _ j _ hd hd1 σ3 N6 hσ3 H6 s6.nh _ fun y N7 H7 s7 ry => ?_
            have s57 := s5.trans (s6.trans s7)
            have n7 : N7 D = none := (s6.trans s7).fr D (by rw [e5]; exact mb (by intro _ z; cases z)) n5
            have e7 : H7 D = some (.lst us5) := s7.hh _ _ (s6.hh _ _ e5)
            refine ⟨us5, e7, ?_, N7, us5 ++ [y], ⟨s57.nn, same_mut s57.hh hD, same_mut s57.nh n7, s57.fr⟩, k5.trans (s6.nn.trans s7.nn), n7, upd_same, ?_⟩
            · have h1 := r5.length
              rw [List.length_append, List.length_map, List.length_range] at h1
              have h2 := lenI i
              have h3 := hz1 i
              exact Nat.lt_of_le_of_lt (show us5.length ≤ 100000 by omega) (by decide)
            · rw [List.range_succ, List.map_append, ← List.append_assoc]
              exact (r5.mono (s6.nn.trans s7.nn)).snoc ry
        · have ej : j = (items1 i).length := by omega
          subst ej
          refine .inl ⟨wk1.stop H' (k5.trans s5.nh), N5, us5, s5, n5, e5, ?_⟩
          rw [sucI]
          exact r5
    · have ei : i = items.length := by omega
      subst ei
      exact .inl ⟨wk.stop H' (s2.nn.trans s2.nh), q D us N' H' (s1.trans s2) (same_none s1.hh hD) n2 e2 r2⟩
/-! isinstance -/
def tyD : Dat → String
  | .none => "NoneType"
  | .bool _ => "bool"
  | .int _ => "int"
  | .list _ => "list"
  | .tuple _ => "tuple"
  | .dict _ => "dict"
  | .str _ => "str"
theorem rp_ty {N H : Hp} {v : V} {d : Dat} (k : Same N H) (h : Rp N v d) : TyX K H v (.type (tyD d)) := by
  cases h with
  | non => exact .base .non
  | bl b => exact .base (.bl b)
  | int i => exact .base (.int i)
  | lst e _ => exact .base (.lst (k _ _ e))
  | tup e _ => exact .base (.tup (k _ _ e))
  | dct e _ => exact .base (.dT (k _ _ e))
variable {ds : Sd} {ta tb : TE} {d : Dat}
theorem de_isi {c : String} {b : Bool} (ha : De ta ds d) (h : kitB (tyD d) c = some b) : De (tCB (rIsi K) (tCons ta (tCons (tC (.ty c)) tNil))) ds (.bool b) := fun σ N hs H k Q q =>
  ha σ N hs H k _ fun v N1 H1 s1 r1 => ⟨v, .ty c, _, _, b, rfl, .ty c, rp_ty s1.nh r1, kit_ty h, q _ N1 H1 s1 (.bl b)⟩
theorem de_isiT {c1 c2 : String} {b1 b2 : Bool} (ha : De ta ds d) (h1 : kitB (tyD d) c1 = some b1) (h2 : kitB (tyD d) c2 = some b2) :
    De (tCB (rIsiT K) (tCons ta (tCons (tTup (tCons (tC (.ty c1)) (tCons (tC (.ty c2)) tNil))) tNil))) ds (.bool (b1 || b2)) := fun σ N hs H k Q q =>
  ha σ N hs H k _ fun v N1 H1 s1 r1 => ⟨show 2 ≤ sizeLine by decide, fun p hp => by
    have sb := Stp.hid (o := HO.tup [.ty c1, .ty c2]) s1.nh hp
    refine ⟨v, p, _, _, _, b1 || b2, rfl, upd_same, .cons (.ty c1) (.cons (.ty c2) .nil), rp_ty sb.nh r1, ?_, q _ N1 _ (s1.trans sb) (.bl _)⟩
    refine kitAny_cons (kit_ty h1) (fun e => ?_) (fun e => by rw [e]; rfl)
    rw [e, Bool.false_or]
    exact kitAny_cons (b := b2) (kit_ty h2) (fun e2 => by rw [e2]; exact kitAny_nil) (fun e2 => e2)⟩
end
/-! ### sets -/
theorem ascI_of {l m : List Nat} (hm : m.Pairwise (· < ·)) (h : ∀ i, i ∈ m ↔ i ∈ l) : AscI (l.map fun n : Nat => (n : Int)) (m.map fun n : Nat => (n : Int)) :=
  ⟨List.pairwise_map.mpr (hm.imp fun {a b} z => by omega), fun k => by
    constructor
    · intro hk
      obtain ⟨i, hi, rfl⟩ := List.mem_map.mp hk
      exact List.mem_map.mpr ⟨i, (h i).mp hi, rfl⟩
    · intro hk
      obtain ⟨i, hi, rfl⟩ := List.mem_map.mp hk
      exact List.mem_map.mpr ⟨i, (h i).mpr hi, rfl⟩⟩
section
variable {P : Program} {w : World} {K : PySem.W.Frag} {ds : Sd} {tx : TE}
theorem den_setN {l m : List Nat} (h : De tx ds (lN l)) (hl : l.length ≤ 60) (hm : m.Pairwise (· < ·)) (he : ∀ i, i ∈ m ↔ i ∈ l) :
    DeN (tCB (rSortTwo K P w) (tCons (tCB (rSetTwo K P w) (tCons tx tNil)) tNil)) ds (m.map nI) := by
  rw [nI_map]
  exact den_setI (h.to (by unfold lN; rw [nI_map])) (by rw [List.length_map]; exact hl) (ascI_of hm he)
/-- M: the same lots, each once -/
theorem den_setL {L M : List (List Nat)} (h : De tx ds (.list (L.map tN))) (hl : L.length ≤ 60) (hne : ∀ l ∈ L, l ≠ []) (hM : M.Nodup) (he : ∀ l, l ∈ M ↔ l ∈ L) :
    DeN (tCB (rSortTwo K P w) (tCons (tCB (rSetTwo K P w) (tCons tx tNil)) tNil)) ds (srt (M.map tN)) := by
  let c : List Nat → List Int := fun l => l.map fun n : Nat => (n : Int)
  have ec : ∀ L : List (List Nat), L.map tN = (L.map c).map tI := fun L => by rw [List.map_map]; exact List.map_congr_left fun l _ => tN_tI l
  have cinj : ∀ a b, c a = c b → a = b := fun a b hab => tN_inj (by rw [tN_tI, tN_tI]; exact congrArg tI hab)
  refine den_setT (ks := L.map c) (h.to (by rw [ec])) (by rw [List.length_map]; exact hl) ?_ ⟨fun L1 h1 h2 => ?_⟩
  · intro k hk
    obtain ⟨l, hl, rfl⟩ := List.mem_map.mp hk
    intro z
    exact hne l hl (List.map_eq_nil_iff.mp z)
  · rw [ec M]
    refine srt_of_perm (n := 1) (fun d hd => ?_) (List.Perm.map _ ((List.perm_ext_iff_of_nodup h1 ?_).mpr fun a => ?_))
    · obtain ⟨k, _, rfl⟩ := List.mem_map.mp hd
      exact ⟨_, rfl, fun x hx => by obtain ⟨i, _, rfl⟩ := List.mem_map.mp hx; exact ⟨i, rfl⟩⟩
    · exact List.Pairwise.map c (fun a b hab z => hab (cinj a b z)) hM
    · rw [h2, List.mem_map, List.mem_map]
      constructor
      · rintro ⟨l, hl, rfl⟩; exact ⟨l, (he l).mpr hl, rfl⟩
      · rintro ⟨l, hl, rfl⟩; exact ⟨l, (he l).mp hl, rfl⟩
end
end Ez

set_option Elab.async false
set_option linter.all false
set_option autoImplicit false
set_option maxRecDepth 100000
set_option maxHeartbeats 2000000
namespace Ez
open PySem PySem.Spec L2 Fz PyProof.Rows

/-! signs -/

def xorL (l : List Nat) : Nat := l.foldl (· ^^^ ·) 0
def R_sign_sum (as : List Dat) (r : Dat) : Prop := ∃ l : List Nat, as = [tN l] ∧ r = nI (xorL l)
theorem xorL_take (l : List Nat) {i a : Nat} (h : l[i]? = some a) : xorL (l.take (i + 1)) = xorL (l.take i) ^^^ a := by
  unfold xorL
  rw [List.take_succ, h, List.foldl_append]; rfl

abbrev sp_sign_sum : Sp := spD R_sign_sum
abbrev N_sign_sum : List Str := ["signs", "found", "sign"]
abbrev p_sign_sum : List Str := ["signs"]
theorem sc_sign_sum : FnScope N_sign_sum p_sign_sum (defScope (top 7)) := ⟨rfl, rfl, rfl, by decide +kernel, rfl, by decide +kernel, by decide +kernel⟩
def t_sign_sum (K : PySem.W.Frag) (P : Program) (w : World) : TS := tSeq (tAsg (tC (.int 0)) (gName 1)) (tSeq (tFor (iTup K (tVar 0)) (gName 2) (tAsg (tOp rXor (tVar 1) (tVar 2)) (gName 1))) (tRet (tVar 1)))
theorem ps_sign_sum {P : Program} {w : World} {K : PySem.W.Frag} {mg : Str → Option Value} {base : Heap} {f : Addr} (T : Tx K mg) (cdv : Value) (A : Around) (outer : List Env) (s : Shared) (H : Hp) (E : XK) (hr : Room 0 (A.deeper (envOfC "sign_sum" (defScope (top 7)) s.heap.objs.size f cdv))) :
    PSs (cxOf CX0 P w K mg base N_sign_sum "sign_sum" (defScope (top 7)) f cdv A outer s H E).nox (defBody (top 7)) (t_sign_sum K P w) := by
  have nd := sc_sign_sum.nd
  have hu := hu_of hr
  unfold t_sign_sum
  exact pss_cons (ps_set (i := 1) nd rfl (by first | exact Or.inl rfl | exact Or.inr rfl) (pe_int)) (pss_cons (ps_for PassesOwn.never rfl (pi_tup (pv 0)) (pg_name (i := 2) nd rfl (by first | exact Or.inl rfl | exact Or.inr rfl)) (pss_one (ps_set (i := 1) nd rfl (by first | exact Or.inl rfl | exact Or.inr rfl) (pe_op op_xor (pv 1) (pv 2))))) (pss_one (ps_ret (pv 1))))
theorem len_sign_sum : ∀ as r, R_sign_sum as r → as.length = p_sign_sum.length := by rintro _ _ ⟨l, rfl, _⟩; rfl
theorem ok_sign_sum {P : Program} {w : World} {K : PySem.W.Frag} : ∀ as r, R_sign_sum as r → ∀ (E0 Ni : Hp) (D : Ends), Rt E0 Ni r D.rt → Okk E0 Ni (t_sign_sum K P w) D (s0 N_sign_sum as) := by
  rintro _ _ ⟨l, rfl, rfl⟩ E0 Ni D hR
  refine okk_set (d := nI 0) de_int ?_
  refine okk_for (j := 2) (dei_tup (xs := l.map nI) (de_var rfl)) (fun i => [.val (tN l), .val (nI (xorL (l.take i))), .no]) rfl (fun Nj i d hd => ?_) ?_
  · obtain ⟨a, ha, rfl⟩ := get_nI hd
    refine okk_setN [2] (de_xor (de_var rfl) (de_var rfl)) ?_
    rw [xorL_take l ha]; rfl
  · rw [List.length_map, List.take_length]
    exact okk_ret (de_var rfl) hR

theorem cal_sign_sum {P : Program} {w : World} {K : PySem.W.Frag} {mg : Str → Option Value} {base : Heap} {f : Addr} {fd : FuncData} (T : Tx K mg) (F : FnP K "sign_sum" (top 7) f fd) (hm : mg "sign_sum" = some (.ref f)) : Cal P w K mg base 1 "sign_sum" p_sign_sum sp_sign_sum :=
  cal_of F hm (FunD.bindsN F fun _ _ _ _ _ _ us hl => match us, hl with | [_], _ => rfl) (fn_data F sc_sign_sum (len_sign_sum) fun cdv A outer s H E hr => ⟨_, ps_sign_sum T cdv A outer s H E hr, ok_sign_sum⟩)

def prodT : List (List Nat) := [[0, 0, 0, 0], [0, 1, 2, 3], [0, 2, 3, 1], [0, 3, 1, 2]]
def prodN (a b : Nat) : Nat := (prodT.getD a []).getD b 0
def R_sign_product (as : List Dat) (r : Dat) : Prop := ∃ a b : Nat, as = [nI a, nI b] ∧ a < 4 ∧ b < 4 ∧ r = nI (prodN a b)
abbrev sp_sign_product : Sp := spD R_sign_product
abbrev N_sign_product : List Str := ["one", "other"]
abbrev p_sign_product : List Str := ["one", "other"]
theorem sc_sign_product : FnScope N_sign_product p_sign_product (defScope (top 8)) := ⟨rfl, rfl, rfl, by decide +kernel, rfl, by decide +kernel, by decide +kernel⟩
theorem len_sign_product : ∀ as r, R_sign_product as r → as.length = p_sign_product.length := by rintro _ _ ⟨a, b, rfl, _⟩; rfl
theorem ix_tuple {K : PySem.W.Frag} {H : Hp} {p : Addr} {xs : List V} {i : Nat} {v : V} {Q : VK} (h : SqT K H p xs) (hi : xs[i]? = some v) (q : Q v H) : rIx K (.ref p) (.int (i : Int)) H Q := .inr (.inl ⟨p, xs, i, v, rfl, rfl, h, atI_nat hi, q⟩)
theorem cal_sign_product {P : Program} {w : World} {K : PySem.W.Frag} {mg : Str → Option Value} {base : Heap} {f : Addr} {fd : FuncData} (T : Tx K mg) (F : FnP K "sign_product" (top 8) f fd) (hm : mg "sign_product" = some (.ref f)) : Cal P w K mg base 1 "sign_product" p_sign_product sp_sign_product := by
  obtain ⟨p, b0, b1, b2, b3, hP, k, k0, k1, k2, k3⟩ := T.PRODUCTS
  refine cal_of F hm (FunD.bindsN F fun _ _ _ _ _ _ us hl => match us, hl with | [_, _], _ => rfl) (fn_data F sc_sign_product len_sign_product fun cdv A outer s H E hr =>
    ⟨tRet (tOp (rIx K) (tOp (rIx K) (tC (.ref p)) (tVar 0)) (tVar 1)), pss_one (ps_ret (pe_ix ix_seq (pe_ix ix_seq (pe_glob rfl hP rfl) (pv 0) (fun _ _ => rfl)) (pv 1) (fun _ _ => rfl))), ?_⟩)
  rintro _ _ ⟨a, b, rfl, ha, hb, rfl⟩ E0 Ni D hR
  refine okk_ret (d := nI (prodN a b)) (fun σ N hs H kk Q q => ?_) hR
  obtain ⟨v, hv, rv⟩ := hs.2 0 (nI a) rfl
  obtain ⟨u, hu, ru⟩ := hs.2 1 (nI b) rfl
  cases rv
  cases ru
  have q2 : ∀ z : Nat, z = prodN a b → Q (.int (z : Int)) H := fun z hz => q _ N H (Stp.refl kk) (by rw [hz]; exact .int _)
  refine ⟨_, hv, ?_⟩
  have ca : a = 0 ∨ a = 1 ∨ a = 2 ∨ a = 3 := by omega
  have cb : b = 0 ∨ b = 1 ∨ b = 2 ∨ b = 3 := by omega
  rcases ca with rfl | rfl | rfl | rfl
  · refine ix_tuple (i := 0) k.sq rfl ⟨_, hu, ?_⟩
    rcases cb with rfl | rfl | rfl | rfl
    · exact ix_tuple (i := 0) k0.sq rfl (q2 0 rfl)
    · exact ix_tuple (i := 1) k0.sq rfl (q2 0 rfl)
    · exact ix_tuple (i := 2) k0.sq rfl (q2 0 rfl)
    · exact ix_tuple (i := 3) k0.sq rfl (q2 0 rfl)
  · refine ix_tuple (i := 1) k.sq rfl ⟨_, hu, ?_⟩
    rcases cb with rfl | rfl | rfl | rfl
    · exact ix_tuple (i := 0) k1.sq rfl (q2 0 rfl)
    · exact ix_tuple (i := 1) k1.sq rfl (q2 1 rfl)
    · exact ix_tuple (i := 2) k1.sq rfl (q2 2 rfl)
    · exact ix_tuple (i := 3) k1.sq rfl (q2 3 rfl)
  · refine ix_tuple (i := 2) k.sq rfl ⟨_, hu, ?_⟩
    rcases cb with rfl | rfl | rfl | rfl
    · exact ix_tuple (i := 0) k2.sq rfl (q2 0 rfl)
    · exact ix_tuple (i := 1) k2.sq rfl (q2 2 rfl)
    · exact ix_tuple (i := 2) k2.sq rfl (q2 3 rfl)
    · exact ix_tuple (i := 3) k2.sq rfl (q2 1 rfl)
  · refine ix_tuple (i := 3) k.sq rfl ⟨_, hu, ?_⟩
    rcases cb with rfl | rfl | rfl | rfl
    · exact ix_tuple (i := 0) k3.sq rfl (q2 0 rfl)
    · exact ix_tuple (i := 1) k3.sq rfl (q2 3 rfl)
    · exact ix_tuple (i := 2) k3.sq rfl (q2 1 rfl)
    · exact ix_tuple (i := 3) k3.sq rfl (q2 2 rfl)


def begW (a b c : Nat) : List Nat := [a, b, c, xorL [a, b, c], xorL [prodN 3 a, prodN 2 b, c], xorL [prodN 2 a, prodN 3 b, c]]
def R_begun_word (as : List Dat) (r : Dat) : Prop := ∃ a b c : Nat, as = [nI a, nI b, nI c] ∧ a < 4 ∧ b < 4 ∧ c < 4 ∧ r = tN (begW a b c)

abbrev sp_begun_word : Sp := spD R_begun_word
abbrev N_begun_word : List Str := ["one", "two", "three", "five", "six"]
abbrev p_begun_word : List Str := ["one", "two", "three"]
theorem sc_begun_word : FnScope N_begun_word p_begun_word (defScope (top 9)) := ⟨rfl, rfl, rfl, by decide +kernel, rfl, by decide +kernel, by decide +kernel⟩
def t_begun_word (K : PySem.W.Frag) (P : Program) (w : World) : TS := tSeq (tAsg (tCall sp_sign_sum [] E0 (tCons (tTup (tCons (tCall sp_sign_product [] E0 (tCons (tC (.int 3)) (tCons (tVar 0) (tNil)))) (tCons (tCall sp_sign_product [] E0 (tCons (tC (.int 2)) (tCons (tVar 1) (tNil)))) (tCons (tVar 2) (tNil))))) (tNil))) (gName 3)) (tSeq (tAsg (tCall sp_sign_sum [] E0 (tCons (tTup (tCons (tCall sp_sign_product [] E0 (tCons (tC (.int 2)) (tCons (tVar 0) (tNil)))) (tCons (tCall sp_sign_product [] E0 (tCons (tC (.int 3)) (tCons (tVar 1) (tNil)))) (tCons (tVar 2) (tNil))))) (tNil))) (gName 4)) (tRet (tTup (tCons (tVar 0) (tCons (tVar 1) (tCons (tVar 2) (tCons (tCall sp_sign_sum [] E0 (tCons (tTup (tCons (tVar 0) (tCons (tVar 1) (tCons (tVar 2) (tNil))))) (tNil))) (tCons (tVar 3) (tCons (tVar 4) (tNil))))))))))
theorem ps_begun_word {P : Program} {w : World} {K : PySem.W.Frag} {mg : Str → Option Value} {base : Heap} {f : Addr} (T : Tx K mg) (C_sign_sum : Cal P w K mg base 1 "sign_sum" p_sign_sum sp_sign_sum) (C_sign_product : Cal P w K mg base 1 "sign_product" p_sign_product sp_sign_product) (cdv : Value) (A : Around) (outer : List Env) (s : Shared) (H : Hp) (E : XK) (hr : Room 1 (A.deeper (envOfC "begun_word" (defScope (top 9)) s.heap.objs.size f cdv))) :
    PSs (cxOf CX0 P w K mg base N_begun_word "begun_word" (defScope (top 9)) f cdv A outer s H E).nox (defBody (top 9)) (t_begun_word K P w) := by
  have nd := sc_begun_word.nd
  have hu := hu_of hr
  unfold t_begun_word
  exact pss_cons (ps_set (i := 3) nd rfl (by first | exact Or.inl rfl | exact Or.inr rfl) (pe_cal C_sign_sum hr (pa_cons (pe_tup (pa_cons (pe_cal C_sign_product hr (pa_cons (pe_int) (pa_cons (pv 0) (pa_nil)))) (pa_cons (pe_cal C_sign_product hr (pa_cons (pe_int) (pa_cons (pv 1) (pa_nil)))) (pa_cons (pv 2) (pa_nil))))) (pa_nil)))) (pss_cons (ps_set (i := 4) nd rfl (by first | exact Or.inl rfl | exact Or.inr rfl) (pe_cal C_sign_sum hr (pa_cons (pe_tup (pa_cons (pe_cal C_sign_product hr (pa_cons (pe_int) (pa_cons (pv 0) (pa_nil)))) (pa_cons (pe_cal C_sign_product hr (pa_cons (pe_int) (pa_cons (pv 1) (pa_nil)))) (pa_cons (pv 2) (pa_nil))))) (pa_nil)))) (pss_one (ps_ret (pe_tup (pa_cons (pv 0) (pa_cons (pv 1) (pa_cons (pv 2) (pa_cons (pe_cal C_sign_sum hr (pa_cons (pe_tup (pa_cons (pv 0) (pa_cons (pv 1) (pa_cons (pv 2) (pa_nil))))) (pa_nil))) (pa_cons (pv 3) (pa_cons (pv 4) (pa_nil)))))))))))
theorem len_begun_word : ∀ as r, R_begun_word as r → as.length = p_begun_word.length := by rintro _ _ ⟨a, b, c, rfl, _⟩; rfl
theorem ok_begun_word {P : Program} {w : World} {K : PySem.W.Frag} : ∀ as r, R_begun_word as r → ∀ (E0 Ni : Hp) (D : Ends), Rt E0 Ni r D.rt → Okk E0 Ni (t_begun_word K P w) D (s0 N_begun_word as) := by
  rintro _ _ ⟨a, b, c, rfl, ha, hb, hc, rfl⟩ E0 Ni D hR
  have sp3 : ∀ (ds : Sd) (ta tb tc : TE) (x y z : Nat), De ta ds (nI x) → De tb ds (nI y) → De tc ds (nI z) → De (tCall sp_sign_sum [] L2.E0 (tCons (tTup (tCons ta (tCons tb (tCons tc tNil)))) tNil)) ds (nI (xorL [x, y, z])) :=
    fun ds ta tb tc x y z h1 h2 h3 => de_call (dea_1 (de_tup (dea_3 h1 h2 h3) (Nat.le_of_ble_eq_true rfl))) ⟨[x, y, z], rfl, rfl⟩
  have pr : ∀ (ds : Sd) (ta tb : TE) (x y : Nat), De ta ds (nI x) → De tb ds (nI y) → x < 4 → y < 4 → De (tCall sp_sign_product [] L2.E0 (tCons ta (tCons tb tNil))) ds (nI (prodN x y)) :=
    fun ds ta tb x y h1 h2 hx hy => de_call (dea_2 h1 h2) ⟨x, y, rfl, hx, hy, rfl⟩
  refine okk_set (sp3 _ _ _ _ _ _ _ (pr _ _ _ 3 a (de_n 3) (de_var rfl) (by decide) ha) (pr _ _ _ 2 b (de_n 2) (de_var rfl) (by decide) hb) (de_var (d := nI c) rfl)) ?_
  refine okk_set (sp3 _ _ _ _ _ _ _ (pr _ _ _ 2 a (de_n 2) (de_var rfl) (by decide) ha) (pr _ _ _ 3 b (de_n 3) (de_var rfl) (by decide) hb) (de_var (d := nI c) rfl)) ?_
  exact okk_ret (de_tup (dea_cons (de_var rfl) (dea_cons (de_var rfl) (dea_cons (de_var rfl) (dea_cons (sp3 _ _ _ _ _ _ _ (de_var rfl) (de_var rfl) (de_var rfl)) (dea_cons (de_var rfl) (dea_cons (de_var rfl) dea_nil)))))) (Nat.le_of_ble_eq_true rfl)) hR

theorem cal_begun_word {P : Program} {w : World} {K : PySem.W.Frag} {mg : Str → Option Value} {base : Heap} {f : Addr} {fd : FuncData} (T : Tx K mg) (C_sign_sum : Cal P w K mg base 1 "sign_sum" p_sign_sum sp_sign_sum) (C_sign_product : Cal P w K mg base 1 "sign_product" p_sign_product sp_sign_product) (F : FnP K "begun_word" (top 9) f fd) (hm : mg "begun_word" = some (.ref f)) : Cal P w K mg base 2 "begun_word" p_begun_word sp_begun_word :=
  cal_of F hm (FunD.bindsN F fun _ _ _ _ _ _ us hl => match us, hl with | [_, _, _], _ => rfl) (fn_data F sc_begun_word (len_begun_word) fun cdv A outer s H E hr => ⟨_, ps_begun_word T C_sign_sum C_sign_product cdv A outer s H E hr, ok_begun_word⟩)

def wordN (n : Nat) : List Nat := begW (n / 16) (n / 4 % 4) (n % 4)
def R_word_of_number (as : List Dat) (r : Dat) : Prop := ∃ n : Nat, as = [nI n] ∧ n < 64 ∧ r = tN (wordN n)

abbrev sp_word_of_number : Sp := spD R_word_of_number
abbrev N_word_of_number : List Str := ["number"]
abbrev p_word_of_number : List Str := ["number"]
theorem sc_word_of_number : FnScope N_word_of_number p_word_of_number (defScope (top 10)) := ⟨rfl, rfl, rfl, by decide +kernel, rfl, by decide +kernel, by decide +kernel⟩
def t_word_of_number (K : PySem.W.Frag) (P : Program) (w : World) : TS := tRet (tCall sp_begun_word [] E0 (tCons (tOp rFdv (tVar 0) (tOp rMul (tC (.int 4)) (tC (.int 4)))) (tCons (tOp rMod (tOp rFdv (tVar 0) (tC (.int 4))) (tC (.int 4))) (tCons (tOp rMod (tVar 0) (tC (.int 4))) (tNil)))))
theorem ps_word_of_number {P : Program} {w : World} {K : PySem.W.Frag} {mg : Str → Option Value} {base : Heap} {f : Addr} (T : Tx K mg) (C_begun_word : Cal P w K mg base 2 "begun_word" p_begun_word sp_begun_word) (cdv : Value) (A : Around) (outer : List Env) (s : Shared) (H : Hp) (E : XK) (hr : Room 2 (A.deeper (envOfC "word_of_number" (defScope (top 10)) s.heap.objs.size f cdv))) :
    PSs (cxOf CX0 P w K mg base N_word_of_number "word_of_number" (defScope (top 10)) f cdv A outer s H E).nox (defBody (top 10)) (t_word_of_number K P w) := by
  have nd := sc_word_of_number.nd
  have hu := hu_of hr
  unfold t_word_of_number
  exact pss_one (ps_ret (pe_cal C_begun_word hr (pa_cons (pe_op op_fdivN (pv 0) (pe_op op_mulW (pe_const T.SIGNS) (pe_const T.SIGNS))) (pa_cons (pe_op op_modN (pe_op op_fdivN (pv 0) (pe_const T.SIGNS)) (pe_const T.SIGNS)) (pa_cons (pe_op op_modN (pv 0) (pe_const T.SIGNS)) (pa_nil))))))
theorem len_word_of_number : ∀ as r, R_word_of_number as r → as.length = p_word_of_number.length := by rintro _ _ ⟨n, rfl, _⟩; rfl
theorem ok_word_of_number {P : Program} {w : World} {K : PySem.W.Frag} : ∀ as r, R_word_of_number as r → ∀ (E0 Ni : Hp) (D : Ends), Rt E0 Ni r D.rt → Okk E0 Ni (t_word_of_number K P w) D (s0 N_word_of_number as) := by
  rintro _ _ ⟨n, rfl, hn, rfl⟩ E0 Ni D hR
  exact okk_ret (de_call (dea_3 (de_div (a := n) (b := 4 * 4) (de_var rfl) (de_mul (a := 4) (b := 4) (de_n 4) (de_n 4) (by decide) (by decide)) (by decide) (by decide)) (de_mod (b := 4) (de_div (a := n) (b := 4) (de_var rfl) (de_n 4) (by decide) (by decide)) (de_n 4) (by decide)) (de_mod (a := n) (b := 4) (de_var rfl) (de_n 4) (by decide)))
    ⟨_, _, _, rfl, by omega, by omega, by omega, rfl⟩) hR

theorem cal_word_of_number {P : Program} {w : World} {K : PySem.W.Frag} {mg : Str → Option Value} {base : Heap} {f : Addr} {fd : FuncData} (T : Tx K mg) (C_begun_word : Cal P w K mg base 2 "begun_word" p_begun_word sp_begun_word) (F : FnP K "word_of_number" (top 10) f fd) (hm : mg "word_of_number" = some (.ref f)) : Cal P w K mg base 3 "word_of_number" p_word_of_number sp_word_of_number :=
  cal_of F hm (FunD.bindsN F fun _ _ _ _ _ _ us hl => match us, hl with | [_], _ => rfl) (fn_data F sc_word_of_number (len_word_of_number) fun cdv A outer s H E hr => ⟨_, ps_word_of_number T C_begun_word cdv A outer s H E hr, ok_word_of_number⟩)

def R_all_words (as : List Dat) (r : Dat) : Prop := as = [] ∧ r = .list ((List.range 64).map fun n => tN (wordN n))

abbrev sp_all_words : Sp := spD R_all_words
abbrev N_all_words : List Str := ["number"]
abbrev p_all_words : List Str := []
theorem sc_all_words : FnScope N_all_words p_all_words (defScope (top 11)) := ⟨rfl, rfl, rfl, by decide +kernel, rfl, by decide +kernel, by decide +kernel⟩
def t_all_words (K : PySem.W.Frag) (P : Program) (w : World) : TS := tRet (tLc (iRng1 (tCons (tC (.int 64)) (tNil))) (gName 0) (tYes) (tCall sp_word_of_number [] E0 (tCons (tVar 0) (tNil))) [0])
theorem ps_all_words {P : Program} {w : World} {K : PySem.W.Frag} {mg : Str → Option Value} {base : Heap} {f : Addr} (T : Tx K mg) (C_word_of_number : Cal P w K mg base 3 "word_of_number" p_word_of_number sp_word_of_number) (cdv : Value) (A : Around) (outer : List Env) (s : Shared) (H : Hp) (E : XK) (hr : Room 3 (A.deeper (envOfC "all_words" (defScope (top 11)) s.heap.objs.size f cdv))) :
    PSs (cxOf CX0 P w K mg base N_all_words "all_words" (defScope (top 11)) f cdv A outer s H E).nox (defBody (top 11)) (t_all_words K P w) := by
  have nd := sc_all_words.nd
  have hu := hu_of hr
  unfold t_all_words
  exact pss_one (ps_ret (pe_lc (own := [("number", 0)]) (g := gName 0) (tt := tYes) (te := tCall sp_word_of_number [] E0 (tCons (tVar 0) (tNil))) rfl nd (pi_range1 rfl T.range (pa_cons (pe_const T.MANY_WORDS) (pa_nil))) (blkOk_by (N := N_all_words) (sc := defScope (top 11)) (by decide +kernel)) (fun _ _ _ _ _ => pg_name (i := 0) nd rfl (by first | exact Or.inl rfl | exact Or.inr rfl)) (fun _ _ _ _ _ => pts_nil) (fun _ _ _ _ _ => pe_cal C_word_of_number hr (pa_cons (pv 0) (pa_nil)))))
theorem len_all_words : ∀ as r, R_all_words as r → as.length = p_all_words.length := by rintro _ _ ⟨rfl, _⟩; rfl
theorem ok_all_words {P : Program} {w : World} {K : PySem.W.Frag} : ∀ as r, R_all_words as r → ∀ (E0 Ni : Hp) (D : Ends), Rt E0 Ni r D.rt → Okk E0 Ni (t_all_words K P w) D (s0 N_all_words as) := by
  rintro _ _ ⟨rfl, rfl⟩ E0 Ni D hR
  refine okk_ret (DeN.de (den_map (List.range 64) (dei_rngN (n := 64) (de_n 64) (by decide)) (by decide) (by decide) (fun n => tN (wordN n)) fun n hn => de_call (dea_1 (de_var (d := nI n) rfl)) ⟨n, rfl, List.mem_range.mp hn, rfl⟩)) hR

theorem cal_all_words {P : Program} {w : World} {K : PySem.W.Frag} {mg : Str → Option Value} {base : Heap} {f : Addr} {fd : FuncData} (T : Tx K mg) (C_word_of_number : Cal P w K mg base 3 "word_of_number" p_word_of_number sp_word_of_number) (F : FnP K "all_words" (top 11) f fd) (hm : mg "all_words" = some (.ref f)) : Cal P w K mg base 4 "all_words" p_all_words sp_all_words :=
  cal_of F hm (FunD.bindsN F fun _ _ _ _ _ _ us hl => match us, hl with | [], _ => rfl) (fn_data F sc_all_words (len_all_words) fun cdv A outer s H E hr => ⟨_, ps_all_words T C_word_of_number cdv A outer s H E hr, ok_all_words⟩)

def lsF : Nat → List (List Nat)
  | 0 => [[]]
  | n + 1 => lsF n ++ (lsF n).map fun o => o ++ [n]
def LS : List (List Nat) := [[], [0], [0, 1], [0, 1, 2], [0, 1, 2, 3], [0, 1, 3], [0, 2], [0, 2, 3], [0, 3], [1], [1, 2], [1, 2, 3], [1, 3], [2], [2, 3], [3]]
theorem lsF_srt : srt ((lsF 4).map tN) = LS.map tN := by
  refine srt_uniq (n := 1) (fun d hd => by obtain ⟨l, _, rfl⟩ := List.mem_map.mp hd; exact lv_tN l) (List.Perm.map _ (by decide +kernel)) ?_
  rw [List.pairwise_map]
  have h : LS.Pairwise (fun a b => leD (tN a) (tN b) = true) := by decide +kernel
  exact h
def R_line_sets (as : List Dat) (r : Dat) : Prop := as = [] ∧ r = .list (LS.map tN)

abbrev sp_line_sets : Sp := spD R_line_sets
abbrev N_line_sets : List Str := ["found", "line", "own"]
abbrev p_line_sets : List Str := []
theorem sc_line_sets : FnScope N_line_sets p_line_sets (defScope (top 13)) := ⟨rfl, rfl, rfl, by decide +kernel, rfl, by decide +kernel, by decide +kernel⟩
def t_line_sets (K : PySem.W.Frag) (P : Program) (w : World) : TS := tSeq (tAsg (tLst (tCons (tTup (tNil)) (tNil))) (gName 0)) (tSeq (tFor (iRng1 (tCons (tC (.int 4)) (tNil))) (gName 1) (tAsg (tOp rCat (tVar 0) (tLc (iList K (tVar 0)) (gName 2) (tYes) (tOp (rCatA K) (tVar 2) (tTup (tCons (tVar 1) (tNil)))) [2])) (gName 0))) (tRet (tCB (rSortD K) (tCons (tVar 0) (tNil)))))
theorem ps_line_sets {P : Program} {w : World} {K : PySem.W.Frag} {mg : Str → Option Value} {base : Heap} {f : Addr} (T : Tx K mg) (cdv : Value) (A : Around) (outer : List Env) (s : Shared) (H : Hp) (E : XK) (hr : Room 0 (A.deeper (envOfC "line_sets" (defScope (top 13)) s.heap.objs.size f cdv))) :
    PSs (cxOf CX0 P w K mg base N_line_sets "line_sets" (defScope (top 13)) f cdv A outer s H E).nox (defBody (top 13)) (t_line_sets K P w) := by
  have nd := sc_line_sets.nd
  have hu := hu_of hr
  unfold t_line_sets
  exact pss_cons (ps_set (i := 0) nd rfl (by first | exact Or.inl rfl | exact Or.inr rfl) (pe_lst (pa_cons (pe_tup (pa_nil)) (pa_nil)))) (pss_cons (ps_for PassesOwn.never rfl (pi_range1 rfl T.range (pa_cons (pe_const T.SIGNS) (pa_nil))) (pg_name (i := 1) nd rfl (by first | exact Or.inl rfl | exact Or.inr rfl)) (pss_one (ps_set (i := 0) nd rfl (by first | exact Or.inl rfl | exact Or.inr rfl) (pe_op op_cat (pv 0) (pe_lc (own := [("own", 2)]) (g := gName 2) (tt := tYes) (te := tOp (rCatA K) (tVar 2) (tTup (tCons (tVar 1) (tNil)))) rfl nd (pi_list (pv 0)) (blkOk_by (N := N_line_sets) (sc := defScope (top 13)) (by decide +kernel)) (fun _ _ _ _ _ => pg_name (i := 2) nd rfl (by first | exact Or.inl rfl | exact Or.inr rfl)) (fun _ _ _ _ _ => pts_nil) (fun _ _ _ _ _ => pe_op op_catA (pv 2) (pe_tup (pa_cons (pv 1) (pa_nil))))))))) (pss_one (ps_ret (pe_bi T.sorted (cr_sortD hr.units) (pa_cons (pv 0) (pa_nil))))))
theorem len_line_sets : ∀ as r, R_line_sets as r → as.length = p_line_sets.length := by rintro _ _ ⟨rfl, _⟩; rfl
theorem lsF_len (n : Nat) : (lsF n).length = 2 ^ n := by
  induction n with
  | zero => rfl
  | succ n ih => unfold lsF; rw [List.length_append, List.length_map, ih, Nat.pow_succ]; omega
theorem lsF_bd {n : Nat} : ∀ o ∈ lsF n, o.length ≤ n := by
  induction n with
  | zero => intro o h; simp [lsF] at h; simp [h]
  | succ n ih =>
    intro o h
    simp only [lsF, List.mem_append, List.mem_map] at h
    rcases h with h | ⟨q, h, rfl⟩
    · exact Nat.le_succ_of_le (ih o h)
    · rw [List.length_append]; exact Nat.succ_le_succ (ih q h)
theorem ok_line_sets {P : Program} {w : World} {K : PySem.W.Frag} : ∀ as r, R_line_sets as r → ∀ (E0 Ni : Hp) (D : Ends), Rt E0 Ni r D.rt → Okk E0 Ni (t_line_sets K P w) D (s0 N_line_sets as) := by
  rintro _ _ ⟨rfl, rfl⟩ E0 Ni D hR
  refine okk_set (d := .list ((lsF 0).map tN)) (DeN.de (den_lst (dea_1 (de_tup dea_nil (by decide))) (by decide))) ?_
  refine okk_for (j := 1) (dei_rngN (n := 4) (de_n 4) (by decide)) (fun i => [.val (.list ((lsF i).map tN)), .no, .no]) rfl (fun Nj i d hd => ?_) ?_
  · obtain ⟨hi, rfl⟩ := get_rng hd
    have hl : (lsF i).length ≤ 16 := by rw [lsF_len]; exact Nat.le_trans (Nat.pow_le_pow_right (by decide) (show i ≤ 4 by omega)) (by decide)
    refine okk_setN [1] (DeN.de (den_op (de_var rfl) (DeN.de (den_map (lsF i) (r := fun o => tN (o ++ [i])) (dei_list (de_var rfl)) (by omega) (by decide) fun o ho =>
      (de_op (de_var rfl) (de_tup (dea_1 (de_var (d := nI i) rfl)) (Nat.le_of_ble_eq_true rfl)) (dr_catT (by have := lsF_bd o ho; rw [List.length_map]; show o.length + 1 ≤ _; omega))).to (tN_app o i))) (drn_cat (by rw [List.length_map, List.length_map]; omega)))) ?_
    show _ = [Sk.val (.list ((lsF i ++ (lsF i).map fun o => o ++ [i]).map tN)), Sk.no, Sk.no]
    rw [List.map_append, List.map_map]
    rfl
  · rw [List.length_map, List.length_range]
    refine okk_ret ((DeN.de (den_sortT (n := 1) (de_var rfl) (.inl rfl) (by decide) (lv_map lv_tN _) (.inr ⟨fun d hd => ?_, rfl⟩))).to (by rw [lsF_srt])) hR
    obtain ⟨o, _, rfl⟩ := List.mem_map.mp hd
    exact ⟨_, rfl⟩

theorem cal_line_sets {P : Program} {w : World} {K : PySem.W.Frag} {mg : Str → Option Value} {base : Heap} {f : Addr} {fd : FuncData} (T : Tx K mg) (F : FnP K "line_sets" (top 13) f fd) (hm : mg "line_sets" = some (.ref f)) : Cal P w K mg base 1 "line_sets" p_line_sets sp_line_sets :=
  cal_of F hm (FunD.bindsN F fun _ _ _ _ _ _ us hl => match us, hl with | [], _ => rfl) (fn_data F sc_line_sets (len_line_sets) fun cdv A outer s H E hr => ⟨_, ps_line_sets T cdv A outer s H E hr, ok_line_sets⟩)

def colW (s p : Nat) : List (List Nat) := LS.filter fun o => decide (o.length % 2 = p) && decide (xorL o = s)
def R_column_ways (as : List Dat) (r : Dat) : Prop := ∃ s p : Nat, as = [nI s, nI p] ∧ r = .list ((colW s p).map tN)

abbrev sp_column_ways : Sp := spD R_column_ways
abbrev N_column_ways : List Str := ["sign", "parity", "own"]
abbrev p_column_ways : List Str := ["sign", "parity"]
theorem sc_column_ways : FnScope N_column_ways p_column_ways (defScope (top 14)) := ⟨rfl, rfl, rfl, by decide +kernel, rfl, by decide +kernel, by decide +kernel⟩
def t_column_ways (K : PySem.W.Frag) (P : Program) (w : World) : TS := tRet (tLc (iList K (tCall sp_line_sets [] E0 tNil)) (gName 2) (tAnd (tTest (tOp (rEqD K) (tOp rMod (tCB (rLenS K) (tCons (tVar 2) (tNil))) (tC (.int 2))) (tVar 1))) (tTest (tOp (rEqD K) (tCall sp_sign_sum [] E0 (tCons (tVar 2) (tNil))) (tVar 0)))) (tVar 2) [2])
theorem ps_column_ways {P : Program} {w : World} {K : PySem.W.Frag} {mg : Str → Option Value} {base : Heap} {f : Addr} (T : Tx K mg) (C_line_sets : Cal P w K mg base 1 "line_sets" p_line_sets sp_line_sets) (C_sign_sum : Cal P w K mg base 1 "sign_sum" p_sign_sum sp_sign_sum) (cdv : Value) (A : Around) (outer : List Env) (s : Shared) (H : Hp) (E : XK) (hr : Room 1 (A.deeper (envOfC "column_ways" (defScope (top 14)) s.heap.objs.size f cdv))) :
    PSs (cxOf CX0 P w K mg base N_column_ways "column_ways" (defScope (top 14)) f cdv A outer s H E).nox (defBody (top 14)) (t_column_ways K P w) := by
  have nd := sc_column_ways.nd
  have hu := hu_of hr
  unfold t_column_ways
  exact pss_one (ps_ret (pe_lc (own := [("own", 2)]) (g := gName 2) (tt := tAnd (tTest (tOp (rEqD K) (tOp rMod (tCB (rLenS K) (tCons (tVar 2) (tNil))) (tC (.int 2))) (tVar 1))) (tTest (tOp (rEqD K) (tCall sp_sign_sum [] E0 (tCons (tVar 2) (tNil))) (tVar 0)))) (te := tVar 2) rfl nd (pi_list (pe_cal0 C_line_sets hr)) (blkOk_by (N := N_column_ways) (sc := defScope (top 14)) (by decide +kernel)) (fun _ _ _ _ _ => pg_name (i := 2) nd rfl (by first | exact Or.inl rfl | exact Or.inr rfl)) (fun _ _ _ _ _ => pts_one (PW.pt (pw_and (pt_cmpR (op_eqD hr.units) (pe_op op_modN (pe_bi T.len call_len_seq (pa_cons (pv 2) (pa_nil))) (pe_int)) (pv 1) (nomark _)) (pw_and1 (pt_cmpR (op_eqD hr.units) (pe_cal C_sign_sum hr (pa_cons (pv 2) (pa_nil))) (pv 0) (nomark _)))))) (fun _ _ _ _ _ => pv 2)))
theorem len_column_ways : ∀ as r, R_column_ways as r → as.length = p_column_ways.length := by rintro _ _ ⟨s, p, rfl, _⟩; rfl
theorem ok_column_ways {P : Program} {w : World} {K : PySem.W.Frag} : ∀ as r, R_column_ways as r → ∀ (E0 Ni : Hp) (D : Ends), Rt E0 Ni r D.rt → Okk E0 Ni (t_column_ways K P w) D (s0 N_column_ways as) := by
  rintro _ _ ⟨s, p, rfl, rfl⟩ E0 Ni D hR
  refine okk_ret (DeN.de (den_filter LS (dei_list (de_call dea_nil ⟨rfl, rfl⟩)) (by decide) (by decide) (fun o => decide (o.length % 2 = p) && decide (xorL o = s)) tN (fun o ho => ?_) fun o ho _ => de_var rfl)) hR
  refine deb_and (deb_test ((de_eqI (de_mod (b := 2) (de_len (de_var rfl) (.inr rfl)) (de_n 2) (by decide)) (de_var rfl)).to (by rw [List.length_map]))) fun _ => deb_test (de_eqI (de_call (dea_1 (de_var (d := tN o) rfl)) ⟨o, rfl, rfl⟩) (de_var rfl))

theorem cal_column_ways {P : Program} {w : World} {K : PySem.W.Frag} {mg : Str → Option Value} {base : Heap} {f : Addr} {fd : FuncData} (T : Tx K mg) (C_line_sets : Cal P w K mg base 1 "line_sets" p_line_sets sp_line_sets) (C_sign_sum : Cal P w K mg base 1 "sign_sum" p_sign_sum sp_sign_sum) (F : FnP K "column_ways" (top 14) f fd) (hm : mg "column_ways" = some (.ref f)) : Cal P w K mg base 2 "column_ways" p_column_ways sp_column_ways :=
  cal_of F hm (FunD.bindsN F fun _ _ _ _ _ _ us hl => match us, hl with | [_, _], _ => rfl) (fn_data F sc_column_ways (len_column_ways) fun cdv A outer s H E hr => ⟨_, ps_column_ways T C_line_sets C_sign_sum cdv A outer s H E hr, ok_column_ways⟩)

end Ez

set_option Elab.async false
set_option linter.all false
set_option autoImplicit false
set_option maxRecDepth 100000
set_option maxHeartbeats 2000000
namespace Ez
open PySem PySem.Spec L2 Fz PyProof.Rows

/-! eights of the package -/

abbrev Kc := Nat × Nat × Nat
def kE (k : Kc) : List Int := [(k.1 : Int), (k.2.1 : Int), (k.2.2 : Int)]
theorem kE_inj (a b : Kc) (h : kE a = kE b) : a = b := by
  obtain ⟨a1, a2, a3⟩ := a
  obtain ⟨b1, b2, b3⟩ := b
  simp only [kE, List.cons.injEq, and_true] at h
  obtain ⟨h1, h2, h3⟩ := h
  have : a1 = b1 ∧ a2 = b2 ∧ a3 = b3 := ⟨by omega, by omega, by omega⟩
  rw [this.1, this.2.1, this.2.2]
/-- the ways of a column: lots of lamps -/
def wy (k : Kc) : List (List Nat) := (colW k.2.1 k.2.2).map fun o => o.map fun x => 4 * k.1 + x
def kV1 (k : Kc) : List Int × Dat := (kE k, .list ((wy k).map tN))
def kF (s p c : Nat) : List Kc := ((List.range s).flatMap fun s => (List.range 2).flatMap fun p => (List.range 6).map fun c => (c, s, p)) ++ ((List.range p).flatMap fun p => (List.range 6).map fun c => (c, s, p)) ++ (List.range c).map fun c => (c, s, p)
theorem kF_c (s p c : Nat) : kF s p (c + 1) = kF s p c ++ [(c, s, p)] := by unfold kF; rw [List.range_succ (n := c), List.map_append, ← List.append_assoc]; rfl
theorem kF_p (s p : Nat) : kF s (p + 1) 0 = kF s p 6 := by unfold kF; rw [List.range_succ (n := p), List.flatMap_append]; simp
theorem kF_s (s : Nat) : kF (s + 1) 0 0 = kF s 2 0 := by unfold kF; rw [List.range_succ (n := s), List.flatMap_append]; simp
theorem kF_new (s p c : Nat) : (c, s, p) ∉ kF s p c := by
  simp only [kF, List.mem_append, List.mem_flatMap, List.mem_map, List.mem_range, Prod.mk.injEq, not_or]
  refine ⟨⟨?_, ?_⟩, ?_⟩
  · rintro ⟨a, h1, b, h2, d, h3, h4⟩; omega
  · rintro ⟨a, h1, b, h2, h3⟩; omega
  · rintro ⟨a, h1, h2⟩; omega
theorem kF_len {s p c : Nat} (hs : s ≤ 4) (hp : p ≤ 2) (hc : c ≤ 6) : (kF s p c).length ≤ 100 := by
  have h1 : ∀ p s : Nat, ((List.range p).flatMap fun p => (List.range 6).map fun c => (c, s, p)).length = 6 * p := by
    intro p s
    induction p with
    | zero => rfl
    | succ p ih => rw [List.range_succ (n := p), List.flatMap_append, List.length_append, ih]; simp; omega
  have h2 : ∀ s : Nat, ((List.range s).flatMap fun s => (List.range 2).flatMap fun p => (List.range 6).map fun c => (c, s, p)).length = 12 * s := by
    intro s
    induction s with
    | zero => rfl
    | succ s ih => rw [List.range_succ (n := s), List.flatMap_append, List.length_append, ih, List.flatMap_cons, List.flatMap_nil, List.append_nil, h1]; omega
  unfold kF
  rw [List.length_append, List.length_append, h1, h2, List.length_map, List.length_range]
  omega
theorem kF_put (s p c : Nat) : putX ((kF s p c).map kV1) (kE (c, s, p)) (kV1 (c, s, p)).2 = (kF s p (c + 1)).map kV1 := by
  rw [kF_c, List.map_append, putX_new]
  · rfl
  · intro kv hkv
    obtain ⟨k, hk, rfl⟩ := List.mem_map.mp hkv
    intro z
    have := kE_inj _ _ z
    rw [this] at hk
    exact kF_new s p c hk
def waysD : Dat := .dict (encT ((kF 4 0 0).map kV1))
theorem colW_len (s p : Nat) : (colW s p).length ≤ 16 := Nat.le_trans (List.length_filter_le _ _) (by decide)
theorem colW_bd {s p : Nat} {o : List Nat} (h : o ∈ colW s p) : o.length ≤ 4 ∧ ∀ x ∈ o, x < 4 := by
  have h2 := (List.mem_filter.mp h).1
  have : ∀ o ∈ LS, o.length ≤ 4 ∧ ∀ x ∈ o, x < 4 := by decide
  exact this o h2
def R_ways_fitting (as : List Dat) (r : Dat) : Prop := as = [.tuple [], .tuple []] ∧ r = waysD

abbrev sp_ways_fitting : Sp := spD R_ways_fitting
abbrev N_ways_fitting : List Str := ["told", "barred", "found", "sign", "parity", "ways", "column", "here", "sets", "lamp", "way", "own", "line"]
abbrev p_ways_fitting : List Str := ["told", "barred"]
theorem sc_ways_fitting : FnScope N_ways_fitting p_ways_fitting (defScope (top 18)) := ⟨rfl, rfl, rfl, by decide +kernel, rfl, by decide +kernel, by decide +kernel⟩
def t_ways_fitting (K : PySem.W.Frag) (P : Program) (w : World) : TS := tSeq (tAsg (tDNewT) (gName 2)) (tSeq (tFor (iRng1 (tCons (tC (.int 4)) (tNil))) (gName 3) (tFor (iTup K (tTup (tCons (tC (.int 0)) (tCons (tC (.int 1)) (tNil))))) (gName 4) (tSeq (tAsg (tCall sp_column_ways [] E0 (tCons (tVar 3) (tCons (tVar 4) (tNil)))) (gName 5)) (tFor (iRng1 (tCons (tC (.int 6)) (tNil))) (gName 6) (tSeq (tAsg (tLc (iTup K (tVar 0)) (gName 9) (tTest (tOp (rEqD K) (tOp rFdv (tVar 9) (tC (.int 4))) (tVar 6))) (tVar 9) [9]) (gName 7)) (tSeq (tAsg (tLc (iList K (tVar 5)) (gName 10) (tYes) (tCB (rTupS K) (tCons (tLc (iTup K (tVar 10)) (gName 12) (tYes) (tOp rAdd (tOp rMul (tC (.int 4)) (tVar 6)) (tVar 12)) [12]) (tNil))) [10]) (gName 8)) (tSeq (tAsg (tLc (iList K (tVar 8)) (gName 11) (tNot (tB (tCB (rAny K) (tCons (tLc (iTup K (tVar 11)) (gName 9) (tYes) (tOp (rIn K false) (tVar 9) (tVar 1)) [9]) (tNil))))) (tVar 11) [11]) (gName 8)) (sDPut (tVar 2) (tTup (tCons (tVar 6) (tCons (tVar 3) (tCons (tVar 4) (tNil))))) (tLc (iList K (tVar 8)) (gName 11) (tB (tCB (rAll K) (tCons (tLc (iList K (tVar 7)) (gName 9) (tYes) (tOp (rIn K false) (tVar 9) (tVar 11)) [9]) (tNil)))) (tVar 11) [11]))))))))) (tRet (tVar 2)))
theorem ps_ways_fitting {P : Program} {w : World} {K : PySem.W.Frag} {mg : Str → Option Value} {base : Heap} {f : Addr} (T : Tx K mg) (C_column_ways : Cal P w K mg base 2 "column_ways" p_column_ways sp_column_ways) (cdv : Value) (A : Around) (outer : List Env) (s : Shared) (H : Hp) (E : XK) (hr : Room 2 (A.deeper (envOfC "ways_fitting" (defScope (top 18)) s.heap.objs.size f cdv))) :
    PSs (cxOf CX0 P w K mg base N_ways_fitting "ways_fitting" (defScope (top 18)) f cdv A outer s H E).nox (defBody (top 18)) (t_ways_fitting K P w) := by
  have nd := sc_ways_fitting.nd
  have hu := hu_of hr
  unfold t_ways_fitting
  exact pss_cons (ps_set (i := 2) nd rfl (by first | exact Or.inl rfl | exact Or.inr rfl) (pe_dnewT)) (pss_cons (ps_for PassesOwn.never rfl (pi_range1 rfl T.range (pa_cons (pe_int) (pa_nil))) (pg_name (i := 3) nd rfl (by first | exact Or.inl rfl | exact Or.inr rfl)) (pss_one (ps_for PassesOwn.never rfl (pi_tup (pe_tup (pa_cons (pe_int) (pa_cons (pe_int) (pa_nil))))) (pg_name (i := 4) nd rfl (by first | exact Or.inl rfl | exact Or.inr rfl)) (pss_cons (ps_set (i := 5) nd rfl (by first | exact Or.inl rfl | exact Or.inr rfl) (pe_cal C_column_ways hr (pa_cons (pv 3) (pa_cons (pv 4) (pa_nil))))) (pss_one (ps_for PassesOwn.never rfl (pi_range1 rfl T.range (pa_cons (pe_const T.COLUMNS) (pa_nil))) (pg_name (i := 6) nd rfl (by first | exact Or.inl rfl | exact Or.inr rfl)) (pss_cons (ps_set (i := 7) nd rfl (by first | exact Or.inl rfl | exact Or.inr rfl) (pe_lc (own := [("lamp", 9)]) (g := gName 9) (tt := tTest (tOp (rEqD K) (tOp rFdv (tVar 9) (tC (.int 4))) (tVar 6))) (te := tVar 9) rfl nd (pi_tup (pv 0)) (blkOk_by (N := N_ways_fitting) (sc := defScope (top 18)) (by decide +kernel)) (fun _ _ _ _ _ => pg_name (i := 9) nd rfl (by first | exact Or.inl rfl | exact Or.inr rfl)) (fun _ _ _ _ _ => pts_one (pt_cmpR (op_eqD hr.units) (pe_op op_fdivN (pv 9) (pe_int)) (pv 6) (nomark _))) (fun _ _ _ _ _ => pv 9))) (pss_cons (ps_setLc (i := 8) (own := [("way", 10)]) (g := gName 10) (tt := tYes) (te := tCB (rTupS K) (tCons (tLc (iTup K (tVar 10)) (gName 12) (tYes) (tOp rAdd (tOp rMul (tC (.int 4)) (tVar 6)) (tVar 12)) [12]) (tNil))) rfl nd rfl rfl (sw_true rfl rfl rfl (by decide +kernel)) (pi_list (pv 5)) (blkOk_by (N := N_ways_fitting) (sc := defScope (top 18)) (by decide +kernel)) (fun _ _ _ _ _ => pg_name (i := 10) nd rfl (by first | exact Or.inl rfl | exact Or.inr rfl)) (fun _ _ _ _ _ => pts_nil) (fun _ _ _ _ _ => pe_ty T.tuple call_tuple_of (pa_cons (pe_lc (own := [("line", 12)]) (g := gName 12) (tt := tYes) (te := tOp rAdd (tOp rMul (tC (.int 4)) (tVar 6)) (tVar 12)) rfl nd (pi_tup (pv 10)) (blkOk_by (N := N_ways_fitting) (by first | kernel_rfl | rfl)) (fun _ _ _ _ _ => pg_name (i := 12) nd rfl (by first | exact Or.inl rfl | exact Or.inr rfl)) (fun _ _ _ _ _ => pts_nil) (fun _ _ _ _ _ => pe_op op_add (pe_op op_mulW (pe_int) (pv 6)) (pv 12))) (pa_nil)))) (pss_cons (ps_setLc (i := 8) (own := [("own", 11)]) (g := gName 11) (tt := tNot (tB (tCB (rAny K) (tCons (tLc (iTup K (tVar 11)) (gName 9) (tYes) (tOp (rIn K false) (tVar 9) (tVar 1)) [9]) (tNil))))) (te := tVar 11) rfl nd rfl rfl (sw_true rfl rfl rfl (by decide +kernel)) (pi_list (pv 8)) (blkOk_by (N := N_ways_fitting) (sc := defScope (top 18)) (by decide +kernel)) (fun _ _ _ _ _ => pg_name (i := 11) nd rfl (by first | exact Or.inl rfl | exact Or.inr rfl)) (fun _ _ _ _ _ => pts_one (pt_not (pt_val (pe_bi T.any (cr_any rfl) (pa_cons (pe_lc (own := [("lamp", 9)]) (g := gName 9) (tt := tYes) (te := tOp (rIn K false) (tVar 9) (tVar 1)) rfl nd (pi_tup (pv 11)) (blkOk_by (N := N_ways_fitting) (by first | kernel_rfl | rfl)) (fun _ _ _ _ _ => pg_name (i := 9) nd rfl (by first | exact Or.inl rfl | exact Or.inr rfl)) (fun _ _ _ _ _ => pts_nil) (fun _ _ _ _ _ => pe_cmpR op_in_seq (pv 9) (pv 1) (by rfl))) (pa_nil)))))) (fun _ _ _ _ _ => pv 11)) (pss_one (ps_dput hu (pv 2) (pe_tup (pa_cons (pv 6) (pa_cons (pv 3) (pa_cons (pv 4) (pa_nil))))) (pe_lc (own := [("own", 11)]) (g := gName 11) (tt := tB (tCB (rAll K) (tCons (tLc (iList K (tVar 7)) (gName 9) (tYes) (tOp (rIn K false) (tVar 9) (tVar 11)) [9]) (tNil)))) (te := tVar 11) rfl nd (pi_list (pv 8)) (blkOk_by (N := N_ways_fitting) (sc := defScope (top 18)) (by decide +kernel)) (fun _ _ _ _ _ => pg_name (i := 11) nd rfl (by first | exact Or.inl rfl | exact Or.inr rfl)) (fun _ _ _ _ _ => pts_one (pt_val (pe_bi T.all (cr_all rfl) (pa_cons (pe_lc (own := [("lamp", 9)]) (g := gName 9) (tt := tYes) (te := tOp (rIn K false) (tVar 9) (tVar 11)) rfl nd (pi_list (pv 7)) (blkOk_by (N := N_ways_fitting) (by first | kernel_rfl | rfl)) (fun _ _ _ _ _ => pg_name (i := 9) nd rfl (by first | exact Or.inl rfl | exact Or.inr rfl)) (fun _ _ _ _ _ => pts_nil) (fun _ _ _ _ _ => pe_cmpR op_in_seq (pv 9) (pv 11) (by rfl))) (pa_nil))))) (fun _ _ _ _ _ => pv 11)) rfl))))))))))) (pss_one (ps_ret (pv 2))))
theorem len_ways_fitting : ∀ as r, R_ways_fitting as r → as.length = p_ways_fitting.length := by rintro _ _ ⟨rfl, _⟩; rfl
theorem ok_ways_fitting {P : Program} {w : World} {K : PySem.W.Frag} : ∀ as r, R_ways_fitting as r → ∀ (E0 Ni : Hp) (D : Ends), Rt E0 Ni r D.rt → Okk E0 Ni (t_ways_fitting K P w) D (s0 N_ways_fitting as) := by
  rintro _ _ ⟨rfl, rfl⟩ E0 Ni D hR
  have T0 : Sk := .val (.tuple [])
  refine okk_newT ?_
  refine okk_for (j := 3) (dei_rngN (n := 4) (de_n 4) (by decide)) (fun i => [.val (.tuple []), .val (.tuple []), .ownT ((kF i 0 0).map kV1), .no, .no, .no, .no, .no, .no, .no, .no, .no, .no]) rfl (fun Nj s d hd => ?_) ?_
  · obtain ⟨hs, rfl⟩ := get_rng hd
    refine okk_forN (j := 4) [3, 4] (dei_tup (xs := (List.range 2).map nI) (de_tup (dea_2 (de_n 0) (de_n 1)) (by decide))) (fun i => [.val (.tuple []), .val (.tuple []), .ownT ((kF s i 0).map kV1), .val (nI s), .no, .no, .no, .no, .no, .no, .no, .no, .no]) rfl (fun Nj2 p d hd => ?_) ?_
    · obtain ⟨hp, rfl⟩ := get_rng hd
      refine okk_set (de_call (dea_2 (de_var (d := nI s) rfl) (de_var (d := nI p) rfl)) ⟨s, p, rfl, rfl⟩) ?_
      refine okk_forN (j := 6) [4, 5, 6, 7, 8] (dei_rngN (n := 6) (de_n 6) (by decide)) (fun i => [.val (.tuple []), .val (.tuple []), .ownT ((kF s p i).map kV1), .val (nI s), .val (nI p), .val (.list ((colW s p).map tN)), .no, .no, .no, .no, .no, .no, .no]) rfl (fun Nj3 c d hd => ?_) ?_
      · obtain ⟨hc, rfl⟩ := get_rng hd
        refine okk_set (d := .list []) (DeN.de (den_filter (α := Nat) (enc := nI) [] (dei_tup (xs := []) (de_var rfl)) (by decide) (by decide) (fun _ => true) nI (fun y hy => by cases hy) (fun y hy => by cases hy))) ?_
        refine okk_set (d := .list ((wy (c, s, p)).map tN)) ((DeN.de (den_map (colW s p) (r := fun o => tN (o.map fun x => 4 * c + x)) (dei_list (de_var rfl)) (Nat.le_trans (colW_len s p) (by decide)) (by decide) fun o ho => ?_)).to (by unfold wy; rw [List.map_map]; rfl)) ?_
        · refine (de_tupS (DeN.de (den_map o (r := fun x => nI (4 * c + x)) (dei_tup (xs := o.map nI) (de_var rfl)) (by have := (colW_bd ho).1; omega) (by decide) fun x hx => ?_)) (.inl rfl)).to ?_
          · exact de_add (de_mul (a := 4) (b := c) (de_n 4) (de_var rfl) (by decide) (by omega)) (de_var (d := nI x) rfl)
          · unfold tN; rw [List.map_map]; rfl
        refine okk_set (d := .list ((wy (c, s, p)).map tN)) ((DeN.de (den_filter (wy (c, s, p)) (dei_list (de_var rfl)) (by unfold wy; rw [List.length_map]; exact Nat.le_trans (colW_len s p) (by decide)) (by decide) (fun _ => true) tN (fun o ho => ?_) fun o ho _ => de_var rfl)).to (by rw [List.filter_eq_self.mpr fun _ _ => rfl])) ?_
        · refine (deb_not (deb_B (de_any0 (l := o) (f := fun x => decide (x ∈ ([] : List Nat))) (DeN.de (den_map o (r := fun x => PyData.bool (decide (x ∈ ([] : List Nat)))) (dei_tup (xs := o.map nI) (de_var rfl)) ?_ (by decide) fun x hx => de_isIn (de_var (d := nI x) rfl) (de_var (d := .tuple []) rfl) (.inr rfl))) fun a ha => by simp))).to rfl
          obtain ⟨q, hq, rfl⟩ := List.mem_map.mp (show o ∈ (colW s p).map fun o => o.map fun x => 4 * c + x from ho)
          rw [List.length_map]; have := (colW_bd hq).1; omega
        refine okk_putN (k := kE (c, s, p)) [6, 7, 8] rfl ((DeN.de (den_filter (wy (c, s, p)) (dei_list (de_var rfl)) (by unfold wy; rw [List.length_map]; exact Nat.le_trans (colW_len s p) (by decide)) (by decide) (fun _ => true) tN (fun o ho => ?_) fun o ho _ => de_var rfl)).to (by rw [List.filter_eq_self.mpr fun _ _ => rfl])) (de_tup (dea_3 (de_var (d := nI c) rfl) (de_var (d := nI s) rfl) (de_var (d := nI p) rfl)) (Nat.le_of_ble_eq_true rfl)) ?_ ?_
        · exact (deb_B ((de_allF (α := Nat) [] (fun _ => true) (DeN.de (den_map (α := Nat) (enc := nI) [] (r := fun _ => PyData.bool true) (dei_list (xs := []) (de_var rfl)) (by decide) (by decide) fun x hx => by cases hx))))).to rfl
        · rw [List.length_map]; have := @kF_len s p c (by omega) (by omega) (by omega); omega
        · show _ = [Sk.val (.tuple []), .val (.tuple []), .ownT ((kF s p (c + 1)).map kV1), .val (nI s), .val (nI p), .val (.list ((colW s p).map tN)), .no, .no, .no, .no, .no, .no, .no]
          rw [← kF_put]
          rfl
      · show _ = [Sk.val (.tuple []), .val (.tuple []), .ownT ((kF s (p + 1) 0).map kV1), .val (nI s), .no, .no, .no, .no, .no, .no, .no, .no, .no]
        rw [kF_p]
        rfl
    · show _ = [Sk.val (.tuple []), .val (.tuple []), .ownT ((kF (s + 1) 0 0).map kV1), .no, .no, .no, .no, .no, .no, .no, .no, .no, .no]
      rw [kF_s]
      rfl
  · refine okk_freezeT (j := 2) rfl ?_
    exact okk_ret (de_var rfl) hR


theorem cal_ways_fitting {P : Program} {w : World} {K : PySem.W.Frag} {mg : Str → Option Value} {base : Heap} {f : Addr} {fd : FuncData} (T : Tx K mg) (C_column_ways : Cal P w K mg base 2 "column_ways" p_column_ways sp_column_ways) (F : FnP K "ways_fitting" (top 18) f fd) (hm : mg "ways_fitting" = some (.ref f)) : Cal P w K mg base 3 "ways_fitting" p_ways_fitting sp_ways_fitting :=
  cal_of F hm (FunD.bindsN F fun _ _ _ _ _ _ us hl => match us, hl with | [_, _], _ => rfl) (fn_data F sc_ways_fitting (len_ways_fitting) fun cdv A outer s H E hr => ⟨_, ps_ways_fitting T C_column_ways cdv A outer s H E hr, ok_ways_fitting⟩)

/-- rows of a word, column by column -/
def grS (p c sg : Nat) (rows : List (List Nat)) : List (List Nat) := rows.flatMap fun row => ((wy (c, sg, p)).filter fun o => decide (row.length + o.length ≤ 8 - p * (5 - c))).map fun o => row ++ o
def grF (p : Nat) (word : List Nat) : Nat → List (List Nat)
  | 0 => [[]]
  | n + 1 => grS p n (word.getD n 0) (grF p word n)
def grW (p : Nat) (word : List Nat) : List (List Nat) := (grF p word 6).filter fun row => decide (row.length = 8)
def grOk (p : Nat) (word : List Nat) : Bool := (List.range 7).all fun n => decide ((grF p word n).length ≤ 1000)
def R_grown (as : List Dat) (r : Dat) : Prop := ∃ (word : List Nat) (p : Nat), as = [waysD, tN word, nI p] ∧ word.length = 6 ∧ (∀ x ∈ word, x < 4) ∧ p < 2 ∧ (∀ n, n ≤ 6 → (grF p word n).length ≤ 1000) ∧ r = .list ((grW p word).map tN)

abbrev sp_grown : Sp := spD R_grown
abbrev N_grown : List Str := ["ways", "word", "parity", "rows", "column", "sign", "row", "most", "longer", "own"]
abbrev p_grown : List Str := ["ways", "word", "parity"]
theorem sc_grown : FnScope N_grown p_grown (defScope (top 19)) := ⟨rfl, rfl, rfl, by decide +kernel, rfl, by decide +kernel, by decide +kernel⟩
def t_grown (K : PySem.W.Frag) (P : Program) (w : World) : TS := tSeq (tAsg (tLst (tCons (tTup (tNil)) (tNil))) (gName 3)) (tSeq (tFor (iEnumT K (tCons (tVar 1) (tNil))) (gTup K 2 (gCons (gName 4) (gCons (gName 5) (gNil)))) (tSeq (tAsg (tTup (tCons (tOp rSub (tC (.int 8)) (tOp rMul (tVar 2) (tOp rSub (tOp rSub (tC (.int 6)) (tC (.int 1))) (tVar 4)))) (tCons (tLst (tNil)) (tNil)))) (gTup K 2 (gCons (gName 7) (gCons (gName 8) (gNil))))) (tSeq (tFor (iList K (tVar 3)) (gName 6) (tDrop (tBM K "list" rExtend (tVar 8) (tCons (tLc (iList K (tDGet (tVar 0) (tTup (tCons (tVar 4) (tCons (tVar 5) (tCons (tVar 2) (tNil))))))) (gName 9) (tTest (tOp rLe (tOp rAdd (tCB (rLenS K) (tCons (tVar 6) (tNil))) (tCB (rLenS K) (tCons (tVar 9) (tNil)))) (tVar 7))) (tOp (rCatA K) (tVar 6) (tVar 9)) [9]) (tNil))))) (tAsg (tVar 8) (gName 3))))) (tRet (tLc (iList K (tVar 3)) (gName 6) (tTest (tOp (rEqD K) (tCB (rLenS K) (tCons (tVar 6) (tNil))) (tC (.int 8)))) (tVar 6) [6])))
theorem ps_grown {P : Program} {w : World} {K : PySem.W.Frag} {mg : Str → Option Value} {base : Heap} {f : Addr} (T : Tx K mg) (cdv : Value) (A : Around) (outer : List Env) (s : Shared) (H : Hp) (E : XK) (hr : Room 0 (A.deeper (envOfC "grown" (defScope (top 19)) s.heap.objs.size f cdv))) :
    PSs (cxOf CX0 P w K mg base N_grown "grown" (defScope (top 19)) f cdv A outer s H E).nox (defBody (top 19)) (t_grown K P w) := by
  have nd := sc_grown.nd
  have hu := hu_of hr
  unfold t_grown
  exact pss_cons (ps_set (i := 3) nd rfl (by first | exact Or.inl rfl | exact Or.inr rfl) (pe_lst (pa_cons (pe_tup (pa_nil)) (pa_nil)))) (pss_cons (ps_for PassesOwn.never rfl (pi_enumT rfl T.enumerate (pa_cons (pv 1) (pa_nil))) (pg_tup (by rfl) (pgs_cons (pg_name (i := 4) nd rfl (by first | exact Or.inl rfl | exact Or.inr rfl)) (pgs_cons (pg_name (i := 5) nd rfl (by first | exact Or.inl rfl | exact Or.inr rfl)) (pgs_nil)))) (pss_cons (ps_asg (pe_tup (pa_cons (pe_op op_sub (pe_const T.BURNING) (pe_op op_mulW (pv 2) (pe_op op_sub (pe_op op_sub (pe_const T.COLUMNS) (pe_int)) (pv 4)))) (pa_cons (pe_lst (pa_nil)) (pa_nil)))) (pg_tup (by rfl) (pgs_cons (pg_name (i := 7) nd rfl (by first | exact Or.inl rfl | exact Or.inr rfl)) (pgs_cons (pg_name (i := 8) nd rfl (by first | exact Or.inl rfl | exact Or.inr rfl)) (pgs_nil))))) (pss_cons (ps_for PassesOwn.never rfl (pi_list (pv 3)) (pg_name (i := 6) nd rfl (by first | exact Or.inl rfl | exact Or.inr rfl)) (pss_one (ps_expr (pe_bm PySem.F.plainAttrs_list PySem.F.slot_list_extend PySem.F.type_list_extend mt_extend (pv 8) (pa_cons (pe_lc (own := [("own", 9)]) (g := gName 9) (tt := tTest (tOp rLe (tOp rAdd (tCB (rLenS K) (tCons (tVar 6) (tNil))) (tCB (rLenS K) (tCons (tVar 9) (tNil)))) (tVar 7))) (te := tOp (rCatA K) (tVar 6) (tVar 9)) rfl nd (pi_list (pe_dget hu (pv 0) (pe_tup (pa_cons (pv 4) (pa_cons (pv 5) (pa_cons (pv 2) (pa_nil))))) (fun _ _ => rfl))) (blkOk_by (N := N_grown) (sc := defScope (top 19)) (by decide +kernel)) (fun _ _ _ _ _ => pg_name (i := 9) nd rfl (by first | exact Or.inl rfl | exact Or.inr rfl)) (fun _ _ _ _ _ => pts_one (pt_cmpR op_le (pe_op op_add (pe_bi T.len call_len_seq (pa_cons (pv 6) (pa_nil))) (pe_bi T.len call_len_seq (pa_cons (pv 9) (pa_nil)))) (pv 7) (nomark _))) (fun _ _ _ _ _ => pe_op op_catA (pv 6) (pv 9))) (pa_nil)))))) (pss_one (ps_set (i := 3) nd rfl (by first | exact Or.inl rfl | exact Or.inr rfl) (pv 8)))))) (pss_one (ps_ret (pe_lc (own := [("row", 6)]) (g := gName 6) (tt := tTest (tOp (rEqD K) (tCB (rLenS K) (tCons (tVar 6) (tNil))) (tC (.int 8)))) (te := tVar 6) rfl nd (pi_list (pv 3)) (blkOk_by (N := N_grown) (sc := defScope (top 19)) (by decide +kernel)) (fun _ _ _ _ _ => pg_name (i := 6) nd rfl (by first | exact Or.inl rfl | exact Or.inr rfl)) (fun _ _ _ _ _ => pts_one (pt_cmpR (op_eqD hr.units) (pe_bi T.len call_len_seq (pa_cons (pv 6) (pa_nil))) (pe_const T.BURNING) (nomark _))) (fun _ _ _ _ _ => pv 6)))))
theorem len_grown : ∀ as r, R_grown as r → as.length = p_grown.length := by rintro _ _ ⟨w, p, rfl, _⟩; rfl
theorem kF_mem {s p c : Nat} (hs : s < 4) (hp : p < 2) (hc : c < 6) : (c, s, p) ∈ kF 4 0 0 := by
  simp only [kF, List.mem_append, List.mem_flatMap, List.mem_map, List.mem_range]
  exact .inl (.inl ⟨s, hs, p, hp, c, hc, rfl⟩)
theorem ways_get {s p c : Nat} (hs : s < 4) (hp : p < 2) (hc : c < 6) : valX ((kF 4 0 0).map kV1) (kE (c, s, p)) = some (.list ((wy (c, s, p)).map tN)) :=
  valX_map (enc := kE) (f := fun k => .list ((wy k).map tN)) kE_inj (kF_mem hs hp hc)
theorem wy_len (k : Kc) : (wy k).length ≤ 16 := by unfold wy; rw [List.length_map]; exact colW_len _ _
theorem wy_bd {k : Kc} {o : List Nat} (h : o ∈ wy k) : o.length ≤ 4 := by
  obtain ⟨q, hq, rfl⟩ := List.mem_map.mp h
  rw [List.length_map]; exact (colW_bd hq).1
theorem grF_bd {p : Nat} {word : List Nat} : ∀ {n : Nat} {row : List Nat}, row ∈ grF p word n → row.length ≤ 4 * n
  | 0, row, h => by simp [grF] at h; simp [h]
  | n + 1, row, h => by
    simp only [grF, grS, List.mem_flatMap, List.mem_map, List.mem_filter] at h
    obtain ⟨q, hq, o, ⟨ho, _⟩, rfl⟩ := h
    have h1 := grF_bd hq
    have h2 := wy_bd ho
    rw [List.length_append]; omega
theorem ok_grown {P : Program} {w : World} {K : PySem.W.Frag} : ∀ as r, R_grown as r → ∀ (E0 Ni : Hp) (D : Ends), Rt E0 Ni r D.rt → Okk E0 Ni (t_grown K P w) D (s0 N_grown as) := by
  rintro _ _ ⟨word, p, rfl, hw, hw4, hp, hb, rfl⟩ E0 Ni D hR
  refine okk_set (d := .list ((grF p word 0).map tN)) (DeN.de (den_lst (dea_1 (de_tup dea_nil (by decide))) (Nat.le_of_ble_eq_true rfl))) ?_
  refine okk_for2 (j := 4) (l := 5) (items := enumD (word.map nI)) (dei_enumT (de_var rfl)) (fun i => [.val waysD, .val (tN word), .val (nI p), .val (.list ((grF p word i).map tN)), .no, .no, .no, .no, .no, .no]) rfl (fun i d h => ?_) (fun Nj c x y h => ?_) ?_
  · obtain ⟨x, _, rfl⟩ := enumD_get h
    exact ⟨_, _, rfl⟩
  · obtain ⟨z, hz, e⟩ := enumD_get h
    obtain ⟨sg, hsg, rfl⟩ := get_nI hz
    have e1 : x = nI c ∧ y = nI sg := by
      have := PyData.tuple.inj e
      simp only [List.cons.injEq, and_true] at this
      exact this
    obtain ⟨rfl, rfl⟩ := e1
    have hc : c < 6 := by rw [← hw]; exact (List.getElem?_eq_some_iff.mp hsg).1
    have hs4 : sg < 4 := hw4 sg (List.mem_of_getElem? hsg)
    have hgd : word.getD c 0 = sg := by rw [List.getD_eq_getElem?_getD, hsg]; rfl
    refine okk_asgTup2 (d := nI (8 - p * (5 - c))) (xs := []) (by decide) ?_ (den_lst dea_nil (by decide)) ?_
    · refine de_subN (a := 8) (de_n 8) (de_mul (a := p) (de_var rfl) (de_subN (a := 5) (b := c) ((de_subN (a := 6) (b := 1) (de_n 6) (de_n 1) (by decide))) (de_var rfl) (by omega)) (by omega) (by omega)) ?_
      have : p * (5 - c) ≤ 1 * 5 := Nat.mul_le_mul (by omega) (by omega)
      omega
    refine okk_for (j := 6) (dei_list (xs := (grF p word c).map tN) (de_var rfl)) (fun i => [.val waysD, .val (tN word), .val (nI p), .val (.list ((grF p word c).map tN)), .val (nI c), .val (nI sg), .no, .val (nI (8 - p * (5 - c))), .own ((grS p c sg ((grF p word c).take i)).map tN), .no]) rfl (fun Nj2 i d hd => ?_) ?_
    · obtain ⟨row, hrow, rfl⟩ := get_map hd
      have hrm : row ∈ grF p word c := List.mem_of_getElem? hrow
      have hrl := grF_bd hrm
      have hst : grS p c sg ((grF p word c).take (i + 1)) = grS p c sg ((grF p word c).take i) ++ ((wy (c, sg, p)).filter fun o => decide (row.length + o.length ≤ 8 - p * (5 - c))).map fun o => row ++ o := by
        unfold grS
        rw [List.take_succ, hrow, List.flatMap_append]
        simp
      have hlen : (grS p c sg ((grF p word c).take (i + 1))).length ≤ 16 * (i + 1) := by
        have : ∀ l : List (List Nat), (grS p c sg l).length ≤ 16 * l.length := by
          intro l
          unfold grS
          induction l with
          | nil => simp
          | cons a l ih =>
            rw [List.flatMap_cons, List.length_append, List.length_map]
            have := Nat.le_trans (List.length_filter_le (fun o => decide (a.length + o.length ≤ 8 - p * (5 - c))) (wy (c, sg, p))) (wy_len (c, sg, p))
            rw [List.length_cons]
            omega
        refine Nat.le_trans (this _) ?_
        rw [List.length_take]
        have := Nat.min_le_left (i + 1) (grF p word c).length
        omega
      have hi : i < 1000 := by
        have h1 := (List.getElem?_eq_some_iff.mp hrow).1
        have h2 := hb c (by omega)
        omega
      refine okk_extN [6] rfl (DeN.de (den_filter (wy (c, sg, p)) (dei_list (de_dget (k := kE (c, sg, p)) (de_var rfl) (de_tup (dea_3 (de_var (d := nI c) rfl) (de_var (d := nI sg) rfl) (de_var (d := nI p) rfl)) (Nat.le_of_ble_eq_true rfl)) (ways_get hs4 hp hc))) (by have := wy_len (c, sg, p); omega) (by decide) (fun o => decide (row.length + o.length ≤ 8 - p * (5 - c))) (fun o => tN (row ++ o)) (fun o ho => ?_) fun o ho _ => ?_)) ?_ ?_
      · exact deb_test ((de_le (de_add (de_len (xs := row.map nI) (de_var rfl) (.inr rfl)) (de_len (xs := o.map nI) (de_var rfl) (.inr rfl))) (de_var (d := nI (8 - p * (5 - c))) rfl)).to (by rw [List.length_map, List.length_map]))
      · have := wy_bd ho
        exact (de_op (de_var rfl) (de_var rfl) (dr_catT (xs := row.map nI) (ys := o.map nI) (by rw [List.length_map, List.length_map]; omega))).to (by unfold tN; rw [List.map_append])
      · rw [hst, List.length_append, List.length_map] at hlen
        rw [List.length_map, List.length_map]
        omega
      · show _ = [Sk.val waysD, .val (tN word), .val (nI p), .val (.list ((grF p word c).map tN)), .val (nI c), .val (nI sg), .no, .val (nI (8 - p * (5 - c))), .own ((grS p c sg ((grF p word c).take (i + 1))).map tN), .no]
        rw [hst, List.map_append, List.map_map]
        rfl
    · rw [List.length_map, List.take_length]
      refine okk_freeze (j := 8) rfl ?_
      refine okk_setN [4, 5, 7, 8] (de_var rfl) ?_
      show _ = [Sk.val waysD, .val (tN word), .val (nI p), .val (.list ((grS p c (word.getD c 0) (grF p word c)).map tN)), .no, .no, .no, .no, .no, .no]
      rw [hgd]
      rfl
  · rw [enumD_len, List.length_map, hw]
    exact okk_ret (DeN.de (den_filter (grF p word 6) (dei_list (de_var rfl)) (Nat.le_trans (hb 6 (by decide)) (by decide)) (by decide) (fun row => decide (row.length = 8)) tN (fun o ho => deb_test ((de_eqI (de_len (xs := o.map nI) (de_var rfl) (.inr rfl)) (de_n 8)).to (by rw [List.length_map]))) fun o ho _ => de_var rfl)) hR

theorem cal_grown {P : Program} {w : World} {K : PySem.W.Frag} {mg : Str → Option Value} {base : Heap} {f : Addr} {fd : FuncData} (T : Tx K mg) (F : FnP K "grown" (top 19) f fd) (hm : mg "grown" = some (.ref f)) : Cal P w K mg base 1 "grown" p_grown sp_grown :=
  cal_of F hm (FunD.bindsN F fun _ _ _ _ _ _ us hl => match us, hl with | [_, _, _], _ => rfl) (fn_data F sc_grown (len_grown) fun cdv A outer s H E hr => ⟨_, ps_grown T cdv A outer s H E hr, ok_grown⟩)

def topP (l : List Nat) : Nat := (l.filter fun x => decide (x % 4 = 0)).length % 2
def R_top_parity (as : List Dat) (r : Dat) : Prop := ∃ l : List Nat, as = [tN l] ∧ l.length ≤ 1000 ∧ r = nI (topP l)

abbrev sp_top_parity : Sp := spD R_top_parity
abbrev N_top_parity : List Str := ["lot", "lamp"]
abbrev p_top_parity : List Str := ["lot"]
theorem sc_top_parity : FnScope N_top_parity p_top_parity (defScope (top 20)) := ⟨rfl, rfl, rfl, by decide +kernel, rfl, by decide +kernel, by decide +kernel⟩
def t_top_parity (K : PySem.W.Frag) (P : Program) (w : World) : TS := tRet (tOp rMod (tCB (rLenS K) (tCons (tLc (iTup K (tVar 0)) (gName 1) (tTest (tOp (rEqD K) (tOp rMod (tVar 1) (tC (.int 4))) (tC (.int 0)))) (tVar 1) [1]) (tNil))) (tC (.int 2)))
theorem ps_top_parity {P : Program} {w : World} {K : PySem.W.Frag} {mg : Str → Option Value} {base : Heap} {f : Addr} (T : Tx K mg) (cdv : Value) (A : Around) (outer : List Env) (s : Shared) (H : Hp) (E : XK) (hr : Room 0 (A.deeper (envOfC "top_parity" (defScope (top 20)) s.heap.objs.size f cdv))) :
    PSs (cxOf CX0 P w K mg base N_top_parity "top_parity" (defScope (top 20)) f cdv A outer s H E).nox (defBody (top 20)) (t_top_parity K P w) := by
  have nd := sc_top_parity.nd
  have hu := hu_of hr
  unfold t_top_parity
  exact pss_one (ps_ret (pe_op op_modN (pe_bi T.len call_len_seq (pa_cons (pe_lc (own := [("lamp", 1)]) (g := gName 1) (tt := tTest (tOp (rEqD K) (tOp rMod (tVar 1) (tC (.int 4))) (tC (.int 0)))) (te := tVar 1) rfl nd (pi_tup (pv 0)) (blkOk_by (N := N_top_parity) (sc := defScope (top 20)) (by decide +kernel)) (fun _ _ _ _ _ => pg_name (i := 1) nd rfl (by first | exact Or.inl rfl | exact Or.inr rfl)) (fun _ _ _ _ _ => pts_one (pt_cmpR (op_eqD hr.units) (pe_op op_modN (pv 1) (pe_int)) (pe_int) (nomark _))) (fun _ _ _ _ _ => pv 1)) (pa_nil))) (pe_int)))
theorem len_top_parity : ∀ as r, R_top_parity as r → as.length = p_top_parity.length := by rintro _ _ ⟨l, rfl, _⟩; rfl
theorem ok_top_parity {P : Program} {w : World} {K : PySem.W.Frag} : ∀ as r, R_top_parity as r → ∀ (E0 Ni : Hp) (D : Ends), Rt E0 Ni r D.rt → Okk E0 Ni (t_top_parity K P w) D (s0 N_top_parity as) := by
  rintro _ _ ⟨l, rfl, hl, rfl⟩ E0 Ni D hR
  exact okk_ret ((de_mod (b := 2) (de_len (DeN.de (den_filter l (dei_tup (xs := l.map nI) (de_var rfl)) (by omega) (by decide) (fun x => decide (x % 4 = 0)) nI (fun x hx => deb_test (de_eqI (de_mod (a := x) (b := 4) (de_var rfl) (de_n 4) (by decide)) (de_n 0))) fun x hx _ => de_var rfl)) (.inl rfl)) (de_n 2) (by decide)).to (by rw [List.length_map]; rfl)) hR

theorem cal_top_parity {P : Program} {w : World} {K : PySem.W.Frag} {mg : Str → Option Value} {base : Heap} {f : Addr} {fd : FuncData} (T : Tx K mg) (F : FnP K "top_parity" (top 20) f fd) (hm : mg "top_parity" = some (.ref f)) : Cal P w K mg base 1 "top_parity" p_top_parity sp_top_parity :=
  cal_of F hm (FunD.bindsN F fun _ _ _ _ _ _ us hl => match us, hl with | [_], _ => rfl) (fn_data F sc_top_parity (len_top_parity) fun cdv A outer s H E hr => ⟨_, ps_top_parity T cdv A outer s H E hr, ok_top_parity⟩)

def rawP (n p : Nat) : List (List Nat) := (grW p (wordN n)).filter fun l => decide (topP l = p)
def rawW (n p : Nat) : List (List Nat) := (List.range p).flatMap fun p => rawP n p
def rawN (n : Nat) : List (List Nat) := (List.range n).flatMap fun n => rawW n 2
def rawE : List (List Nat) := rawN 64
theorem word_ok : ∀ n, n < 64 → (wordN n).length = 6 ∧ ∀ x ∈ wordN n, x < 4 := by
  have h : ∀ n ∈ List.range 64, (wordN n).length = 6 ∧ ∀ x ∈ wordN n, x < 4 := by decide +kernel
  exact fun n hn => h n (List.mem_range.mpr hn)
theorem wy_two {s p c : Nat} (hs : s < 4) (hp : p < 2) : (wy (c, s, p)).length ≤ 2 := by
  unfold wy
  rw [List.length_map]
  have h : ∀ s ∈ List.range 4, ∀ p ∈ List.range 2, (colW s p).length ≤ 2 := by decide +kernel
  exact h s (List.mem_range.mpr hs) p (List.mem_range.mpr hp)
theorem grF_len {p : Nat} {word : List Nat} (hp : p < 2) (hw : ∀ x ∈ word, x < 4) : ∀ n, (grF p word n).length ≤ 2 ^ n
  | 0 => by simp [grF]
  | n + 1 => by
    have ih := grF_len hp hw n
    have h4 : word.getD n 0 < 4 := by
      rw [List.getD_eq_getElem?_getD]
      cases e : word[n]? with
      | none => simp
      | some x => exact hw x (List.mem_of_getElem? e)
    have : ∀ l : List (List Nat), (grS p n (word.getD n 0) l).length ≤ 2 * l.length := by
      intro l
      unfold grS
      induction l with
      | nil => simp
      | cons a l ih2 =>
        rw [List.flatMap_cons, List.length_append, List.length_map]
        have h2 := Nat.le_trans (List.length_filter_le (fun o => decide (a.length + o.length ≤ 8 - p * (5 - n))) (wy (n, word.getD n 0, p))) (wy_two h4 hp)
        rw [List.length_cons]
        omega
    have h3 := this (grF p word n)
    show (grS p n (word.getD n 0) (grF p word n)).length ≤ _
    rw [Nat.pow_succ]
    omega
theorem grF_1000 {p n : Nat} {word : List Nat} (hp : p < 2) (hw : ∀ x ∈ word, x < 4) (hn : n ≤ 6) : (grF p word n).length ≤ 1000 :=
  Nat.le_trans (grF_len hp hw n) (Nat.le_trans (Nat.pow_le_pow_right (by decide) hn) (by decide))
theorem rawP_len {n p : Nat} (hn : n < 64) (hp : p < 2) : (rawP n p).length ≤ 64 :=
  Nat.le_trans (List.length_filter_le _ _) (Nat.le_trans (List.length_filter_le _ _) (grF_len hp (word_ok n hn).2 6))
theorem rawW_len {n p : Nat} (hn : n < 64) (hp : p ≤ 2) : (rawW n p).length ≤ 128 := by
  have h : ∀ p, p ≤ 2 → (rawW n p).length ≤ 64 * p := by
    intro p
    induction p with
    | zero => intro _; exact Nat.le_refl _
    | succ p ih =>
      intro h
      have h1 := ih (by omega)
      have h2 := @rawP_len n p hn (by omega)
      unfold rawW at h1 ⊢
      rw [List.range_succ, List.flatMap_append, List.length_append, List.flatMap_cons, List.flatMap_nil, List.append_nil]
      omega
  have := h p hp
  omega
theorem rawW_succ (n p : Nat) : rawW n (p + 1) = rawW n p ++ rawP n p := by
  unfold rawW
  rw [List.range_succ, List.flatMap_append, List.flatMap_cons, List.flatMap_nil, List.append_nil]
theorem rawN_succ (n : Nat) : rawN (n + 1) = rawN n ++ rawW n 2 := by
  unfold rawN
  rw [List.range_succ, List.flatMap_append, List.flatMap_cons, List.flatMap_nil, List.append_nil]
theorem rawN_len {n : Nat} (hn : n ≤ 64) : (rawN n).length ≤ 128 * n := by
  induction n with
  | zero => exact Nat.le_refl _
  | succ n ih =>
    have h1 := ih (by omega)
    have h2 := @rawW_len n 2 (by omega) (by decide)
    rw [rawN_succ, List.length_append]
    omega
theorem raw_ne {n : Nat} {l : List Nat} (h : l ∈ rawN n) : l ≠ [] := by
  unfold rawN rawW rawP at h
  simp only [List.mem_flatMap, List.mem_filter, grW] at h
  obtain ⟨a, _, b, _, ⟨_, h2⟩, _⟩ := h
  rintro rfl
  exact absurd h2 (by decide)
def R_eights_in (as : List Dat) (r : Dat) : Prop := as = [.tuple [], .tuple []] ∧ r = .list (srt (rawE.map tN))

abbrev sp_eights_in : Sp := spD R_eights_in
abbrev N_eights_in : List Str := ["told", "barred", "word", "ways", "found", "parity", "lot"]
abbrev p_eights_in : List Str := ["told", "barred"]
theorem sc_eights_in : FnScope N_eights_in p_eights_in (defScope (top 21)) := ⟨rfl, rfl, rfl, by decide +kernel, rfl, by decide +kernel, by decide +kernel⟩
def t_eights_in (K : PySem.W.Frag) (P : Program) (w : World) : TS := tSeq (tPar 3 4 (tCons (tCall sp_ways_fitting [] E0 (tCons (tVar 0) (tCons (tVar 1) (tNil)))) (tCons (tLst (tNil)) (tNil)))) (tSeq (tFor (iList K (tCall sp_all_words [] E0 tNil)) (gName 2) (tFor (iTup K (tTup (tCons (tC (.int 0)) (tCons (tC (.int 1)) (tNil))))) (gName 5) (tDrop (tBM K "list" rExtend (tVar 4) (tCons (tLc (iList K (tCall sp_grown [] E0 (tCons (tVar 3) (tCons (tVar 2) (tCons (tVar 5) (tNil)))))) (gName 6) (tTest (tOp (rEqD K) (tCall sp_top_parity [] E0 (tCons (tVar 6) (tNil))) (tVar 5))) (tVar 6) [6]) (tNil)))))) (tRet (tCB (rSortD K) (tCons (tVar 4) (tNil)))))
theorem ps_eights_in {P : Program} {w : World} {K : PySem.W.Frag} {mg : Str → Option Value} {base : Heap} {f : Addr} (T : Tx K mg) (C_ways_fitting : Cal P w K mg base 3 "ways_fitting" p_ways_fitting sp_ways_fitting) (C_all_words : Cal P w K mg base 4 "all_words" p_all_words sp_all_words) (C_grown : Cal P w K mg base 1 "grown" p_grown sp_grown) (C_top_parity : Cal P w K mg base 1 "top_parity" p_top_parity sp_top_parity) (cdv : Value) (A : Around) (outer : List Env) (s : Shared) (H : Hp) (E : XK) (hr : Room 4 (A.deeper (envOfC "eights_in" (defScope (top 21)) s.heap.objs.size f cdv))) :
    PSs (cxOf CX0 P w K mg base N_eights_in "eights_in" (defScope (top 21)) f cdv A outer s H E).nox (defBody (top 21)) (t_eights_in K P w) := by
  have nd := sc_eights_in.nd
  have hu := hu_of hr
  unfold t_eights_in
  exact pss_cons (ps_par (i := 3) (j := 4) rfl nd rfl rfl (by decide) rfl rfl (pa_cons (pe_cal C_ways_fitting hr (pa_cons (pv 0) (pa_cons (pv 1) (pa_nil)))) (pa_cons (pe_lst (pa_nil)) (pa_nil))) (by rfl)) (pss_cons (ps_for PassesOwn.never rfl (pi_list (pe_cal0 C_all_words hr)) (pg_name (i := 2) nd rfl (by first | exact Or.inl rfl | exact Or.inr rfl)) (pss_one (ps_for PassesOwn.never rfl (pi_tup (pe_tup (pa_cons (pe_int) (pa_cons (pe_int) (pa_nil))))) (pg_name (i := 5) nd rfl (by first | exact Or.inl rfl | exact Or.inr rfl)) (pss_one (ps_expr (pe_bm PySem.F.plainAttrs_list PySem.F.slot_list_extend PySem.F.type_list_extend mt_extend (pv 4) (pa_cons (pe_lc (own := [("lot", 6)]) (g := gName 6) (tt := tTest (tOp (rEqD K) (tCall sp_top_parity [] E0 (tCons (tVar 6) (tNil))) (tVar 5))) (te := tVar 6) rfl nd (pi_list (pe_cal C_grown hr (pa_cons (pv 3) (pa_cons (pv 2) (pa_cons (pv 5) (pa_nil)))))) (blkOk_by (N := N_eights_in) (sc := defScope (top 21)) (by decide +kernel)) (fun _ _ _ _ _ => pg_name (i := 6) nd rfl (by first | exact Or.inl rfl | exact Or.inr rfl)) (fun _ _ _ _ _ => pts_one (pt_cmpR (op_eqD hr.units) (pe_cal C_top_parity hr (pa_cons (pv 6) (pa_nil))) (pv 5) (nomark _))) (fun _ _ _ _ _ => pv 6)) (pa_nil)))))))) (pss_one (ps_ret (pe_bi T.sorted (cr_sortD hr.units) (pa_cons (pv 4) (pa_nil))))))
theorem len_eights_in : ∀ as r, R_eights_in as r → as.length = p_eights_in.length := by rintro _ _ ⟨rfl, _⟩; rfl
theorem ok_eights_in {P : Program} {w : World} {K : PySem.W.Frag} : ∀ as r, R_eights_in as r → ∀ (E0 Ni : Hp) (D : Ends), Rt E0 Ni r D.rt → Okk E0 Ni (t_eights_in K P w) D (s0 N_eights_in as) := by
  rintro _ _ ⟨rfl, rfl⟩ E0 Ni D hR
  refine okk_parN (d := waysD) (xs := []) (de_call (dea_2 (de_var (d := .tuple []) rfl) (de_var (d := .tuple []) rfl)) ⟨rfl, rfl⟩) (den_lst dea_nil (by decide)) ?_
  refine okk_for (j := 2) (dei_list (xs := (List.range 64).map fun n => tN (wordN n)) (de_call dea_nil ⟨rfl, rfl⟩)) (fun i => [.val (.tuple []), .val (.tuple []), .no, .val waysD, .own ((rawN i).map tN), .no, .no]) rfl (fun Nj n d hd => ?_) ?_
  · obtain ⟨n', hn', rfl⟩ := get_map hd
    have hn : n < 64 ∧ n' = n := by
      obtain ⟨h2, h3⟩ := List.getElem?_eq_some_iff.mp hn'
      rw [List.length_range] at h2
      rw [List.getElem_range] at h3
      exact ⟨h2, h3.symm⟩
    obtain ⟨hn, rfl⟩ := hn
    obtain ⟨w1, w2⟩ := word_ok n' hn
    refine okk_forN (j := 5) [2, 5] (dei_tup (xs := (List.range 2).map nI) (de_tup (dea_2 (de_n 0) (de_n 1)) (by decide))) (fun i => [.val (.tuple []), .val (.tuple []), .val (tN (wordN n')), .val waysD, .own ((rawN n' ++ rawW n' i).map tN), .no, .no]) ?_ (fun Nj2 p d hd => ?_) ?_
    · show [Sk.val (.tuple []), .val (.tuple []), .val (tN (wordN n')), .val waysD, .own ((rawN n' ++ []).map tN), .no, .no] = _
      rw [List.append_nil]; rfl
    · obtain ⟨hp, rfl⟩ := get_rng hd
      have hL : (grW p (wordN n')).length ≤ 64 := Nat.le_trans (List.length_filter_le _ _) (grF_len hp w2 6)
      refine okk_extN [5] rfl (DeN.de (den_filter (grW p (wordN n')) (dei_list (de_call (dea_3 (de_var (d := waysD) rfl) (de_var (d := tN (wordN n')) rfl) (de_var (d := nI p) rfl)) ⟨wordN n', p, rfl, w1, w2, hp, fun k hk => grF_1000 hp w2 hk, rfl⟩)) (by omega) (by decide) (fun l => decide (topP l = p)) tN (fun l hl => ?_) fun l hl _ => de_var rfl)) ?_ ?_
      · have h8 : l.length = 8 := by have := (List.mem_filter.mp hl).2; exact of_decide_eq_true this
        exact deb_test (de_eqI (de_call (dea_1 (de_var (d := tN l) rfl)) ⟨l, rfl, by omega, rfl⟩) (de_var rfl))
      · have h1 := rawN_len (Nat.le_of_lt hn)
        have h2 := @rawW_len n' p hn (by omega)
        have h3 := @rawP_len n' p hn hp
        rw [List.length_map, List.length_map, List.length_append]
        show _ + (rawP n' p).length ≤ _
        omega
      · show _ = [Sk.val (.tuple []), .val (.tuple []), .val (tN (wordN n')), .val waysD, .own ((rawN n' ++ rawW n' (p + 1)).map tN), .no, .no]
        rw [rawW_succ, ← List.append_assoc, List.map_append (l₁ := rawN n' ++ rawW n' p)]
        rfl
    · show _ = [Sk.val (.tuple []), .val (.tuple []), .no, .val waysD, .own ((rawN (n' + 1)).map tN), .no, .no]
      rw [rawN_succ]
      rfl
  · rw [List.length_map, List.length_range]
    refine okk_freeze (j := 4) rfl ?_
    refine okk_ret (DeN.de (den_sortT (n := 1) (xs := rawE.map tN) (de_var rfl) (.inl rfl) (by decide) (lv_map lv_tN _) (.inl (.inl fun d hd => ?_)))) hR
    obtain ⟨l, hl, rfl⟩ := List.mem_map.mp hd
    have := raw_ne hl
    cases l with
    | nil => exact absurd rfl this
    | cons a l => exact ⟨_, _, rfl⟩

theorem cal_eights_in {P : Program} {w : World} {K : PySem.W.Frag} {mg : Str → Option Value} {base : Heap} {f : Addr} {fd : FuncData} (T : Tx K mg) (C_ways_fitting : Cal P w K mg base 3 "ways_fitting" p_ways_fitting sp_ways_fitting) (C_all_words : Cal P w K mg base 4 "all_words" p_all_words sp_all_words) (C_grown : Cal P w K mg base 1 "grown" p_grown sp_grown) (C_top_parity : Cal P w K mg base 1 "top_parity" p_top_parity sp_top_parity) (F : FnP K "eights_in" (top 21) f fd) (hm : mg "eights_in" = some (.ref f)) : Cal P w K mg base 5 "eights_in" p_eights_in sp_eights_in :=
  cal_of F hm (FunD.bindsN F fun _ _ _ _ _ _ us hl => match us, hl with | [_, _], _ => rfl) (fn_data F sc_eights_in (len_eights_in) fun cdv A outer s H E hr => ⟨_, ps_eights_in T C_ways_fitting C_all_words C_grown C_top_parity cdv A outer s H E hr, ok_eights_in⟩)

def R_all_eights (as : List Dat) (r : Dat) : Prop := as = [] ∧ r = .list (srt (rawE.map tN))

abbrev sp_all_eights : Sp := spD R_all_eights
abbrev N_all_eights : List Str := []
abbrev p_all_eights : List Str := []
theorem sc_all_eights : FnScope N_all_eights p_all_eights (defScope (top 22)) := ⟨rfl, rfl, rfl, by decide +kernel, rfl, by decide +kernel, by decide +kernel⟩
def t_all_eights (K : PySem.W.Frag) (P : Program) (w : World) : TS := tRet (tCall sp_eights_in [] E0 (tCons (tTup (tNil)) (tCons (tTup (tNil)) (tNil))))
theorem ps_all_eights {P : Program} {w : World} {K : PySem.W.Frag} {mg : Str → Option Value} {base : Heap} {f : Addr} (T : Tx K mg) (C_eights_in : Cal P w K mg base 5 "eights_in" p_eights_in sp_eights_in) (cdv : Value) (A : Around) (outer : List Env) (s : Shared) (H : Hp) (E : XK) (hr : Room 5 (A.deeper (envOfC "all_eights" (defScope (top 22)) s.heap.objs.size f cdv))) :
    PSs (cxOf CX0 P w K mg base N_all_eights "all_eights" (defScope (top 22)) f cdv A outer s H E).nox (defBody (top 22)) (t_all_eights K P w) := by
  have nd := sc_all_eights.nd
  have hu := hu_of hr
  unfold t_all_eights
  exact pss_one (ps_ret (pe_cal C_eights_in hr (pa_cons (pe_tup (pa_nil)) (pa_cons (pe_tup (pa_nil)) (pa_nil)))))
theorem len_all_eights : ∀ as r, R_all_eights as r → as.length = p_all_eights.length := by rintro _ _ ⟨rfl, _⟩; rfl
theorem ok_all_eights {P : Program} {w : World} {K : PySem.W.Frag} : ∀ as r, R_all_eights as r → ∀ (E0 Ni : Hp) (D : Ends), Rt E0 Ni r D.rt → Okk E0 Ni (t_all_eights K P w) D (s0 N_all_eights as) := by
  rintro _ _ ⟨rfl, rfl⟩ E0 Ni D hR
  exact okk_ret (de_call (dea_2 (de_tup dea_nil (by decide)) (de_tup dea_nil (by decide))) ⟨rfl, rfl⟩) hR

theorem cal_all_eights {P : Program} {w : World} {K : PySem.W.Frag} {mg : Str → Option Value} {base : Heap} {f : Addr} {fd : FuncData} (T : Tx K mg) (C_eights_in : Cal P w K mg base 5 "eights_in" p_eights_in sp_eights_in) (F : FnP K "all_eights" (top 22) f fd) (hm : mg "all_eights" = some (.ref f)) : Cal P w K mg base 6 "all_eights" p_all_eights sp_all_eights :=
  cal_of F hm (FunD.bindsN F fun _ _ _ _ _ _ us hl => match us, hl with | [], _ => rfl) (fn_data F sc_all_eights (len_all_eights) fun cdv A outer s H E hr => ⟨_, ps_all_eights T C_eights_in cdv A outer s H E hr, ok_all_eights⟩)

end Ez

set_option Elab.async false
set_option linter.all false
set_option autoImplicit false
set_option maxRecDepth 100000
set_option maxHeartbeats 2000000
namespace Ez
open PySem PySem.Spec L2 Fz PyProof.Rows

/-! fours of the package -/
/-- nested data of depth n: ints, lists and tuples -/
def Ns : Nat → Dat → Prop
  | 0, d => ∃ i : Int, d = .int i
  | n + 1, d => (∃ i : Int, d = .int i) ∨ ∃ xs, isSeq d xs ∧ xs.length ≤ 100000 ∧ ∀ x ∈ xs, Ns n x
mutual
def tupD : Dat → Dat
  | .list xs => .tuple (tupDA xs)
  | .tuple xs => .tuple (tupDA xs)
  | d => d
def tupDA : List Dat → List Dat
  | [] => []
  | d :: r => tupD d :: tupDA r
end
theorem tupDA_map : ∀ xs, tupDA xs = xs.map tupD
  | [] => rfl
  | d :: r => by rw [tupDA, tupDA_map r]; rfl
def R_tupled : Nat → List Dat → Dat → Prop
  | 0, _, _ => False
  | n + 1, as, r => ∃ d, as = [d] ∧ Ns n d ∧ r = tupD d
abbrev sp_tupled : Sp := spD (R_tupled 3)
theorem fnOk_false {P : Program} {w : World} {K : PySem.W.Frag} {mg : Str → Option Value} {base : Heap} {f : Addr} {fd : FuncData} {ps : List Str} {k : Nat} {R : List Dat → Dat → Prop} (hR : ∀ as r, ¬ R as r) : FnOk P w K mg base CX0 k f fd ps (spD R) := by
  constructor
  · intro vs H Q E h
    obtain ⟨_, _, _, _, _, h, _⟩ := h
    exact (hR _ _ h).elim
  · intros
    rename_i h
    obtain ⟨_, _, _, _, _, h, _⟩ := h
    exact (hR _ _ h).elim



abbrev N_tupled : List Str := ["thing", "part"]
abbrev p_tupled : List Str := ["thing"]
theorem sc_tupled : FnScope N_tupled p_tupled (defScope (top 1)) := ⟨rfl, rfl, rfl, by decide +kernel, rfl, by decide +kernel, by decide +kernel⟩
def t_tupled (sp_tupled : Sp) (K : PySem.W.Frag) (P : Program) (w : World) : TS := tRet (tIf (tB (tCB (rIsiT K) (tCons (tVar 0) (tCons (tTup (tCons (tC (.ty "list")) (tCons (tC (.ty "tuple")) (tNil)))) tNil)))) (tCB (rTupS K) (tCons (tLc (iEith (iList K (tVar 0)) (iTup K (tVar 0))) (gName 1) (tYes) (tCall sp_tupled [] E0 (tCons (tVar 1) (tNil))) [1]) (tNil))) (tVar 0))
theorem ps_tupled {P : Program} {w : World} {K : PySem.W.Frag} {mg : Str → Option Value} {base : Heap} {f : Addr} (T : Tx K mg) {k : Nat} {sp_tupled : Sp} (C_tupled : Cal P w K mg base k "tupled" p_tupled sp_tupled) (cdv : Value) (A : Around) (outer : List Env) (s : Shared) (H : Hp) (E : XK) (hr : Room k (A.deeper (envOfC "tupled" (defScope (top 1)) s.heap.objs.size f cdv))) :
    PSs (cxOf CX0 P w K mg base N_tupled "tupled" (defScope (top 1)) f cdv A outer s H E).nox (defBody (top 1)) (t_tupled sp_tupled K P w) := by
  have nd := sc_tupled.nd
  have hu := hu_of hr
  unfold t_tupled
  exact pss_one (ps_ret (pe_ifExp (pt_val (pe_bi T.isinstance call_isiT (pa_cons (pv 0) (pa_cons (pe_tup (pa_cons (pe_bltn rfl T.list (u := .type "list") (by decide +kernel) rfl) (pa_cons (pe_bltn rfl T.tuple (u := .type "tuple") (by decide +kernel) rfl) (pa_nil)))) pa_nil)))) (pe_ty T.tuple call_tuple_of (pa_cons (pe_lc (own := [("part", 1)]) (g := gName 1) (tt := tYes) (te := tCall sp_tupled [] E0 (tCons (tVar 1) (tNil))) rfl nd (pi_eith (pi_list (pv 0)) (pi_tup (pv 0))) (blkOk_by (N := N_tupled) (sc := defScope (top 1)) (by decide +kernel)) (fun _ _ _ _ _ => pg_name (i := 1) nd rfl (by first | exact Or.inl rfl | exact Or.inr rfl)) (fun _ _ _ _ _ => pts_nil) (fun _ _ _ _ _ => pe_cal (hk := Nat.le_refl _) C_tupled hr (pa_cons (pv 1) (pa_nil)))) (pa_nil))) (pv 0)))
theorem ok_tupled (n : Nat) {P : Program} {w : World} {K : PySem.W.Frag} : ∀ as r, R_tupled (n + 1) as r → ∀ (E0 Ni : Hp) (D : Ends), Rt E0 Ni r D.rt → Okk E0 Ni (t_tupled (spD (R_tupled n)) K P w) D (s0 N_tupled as) := by
  rintro _ _ ⟨d, rfl, hd, rfl⟩ E0 Ni D hR
  have leaf : ∀ i : Int, d = .int i → Okk E0 Ni (t_tupled (spD (R_tupled n)) K P w) D (s0 N_tupled [d]) := fun i e => by
    subst e
    exact okk_ret (de_if (b := false) (deb_B (de_isiT (b1 := false) (b2 := false) (de_var (d := .int i) rfl) (by show kitB "int" "list" = some false; decide +kernel) (by show kitB "int" "tuple" = some false; decide +kernel))) (fun z => by cases z) fun _ => de_var rfl) hR
  cases n with
  | zero => obtain ⟨i, e⟩ := hd; exact leaf i e
  | succ n =>
    rcases hd with ⟨i, e⟩ | ⟨xs, hs, hl, hx⟩
    · exact leaf i e
    · have hT : kitB (tyD d) "list" = some (match d with | .list _ => true | _ => false) ∧ kitB (tyD d) "tuple" = some (match d with | .tuple _ => true | _ => false) := by
        rcases hs with rfl | rfl
        · exact ⟨by show kitB "list" "list" = some true; decide +kernel, by show kitB "list" "tuple" = some false; decide +kernel⟩
        · exact ⟨by show kitB "tuple" "list" = some false; decide +kernel, by show kitB "tuple" "tuple" = some true; decide +kernel⟩
      have hI : DeI (iEith (iList K (tVar 0)) (iTup K (tVar 0))) (sv (s0 N_tupled [d])) (xs.map id) := by
        rw [List.map_id]
        rcases hs with rfl | rfl
        · exact TI.or_l (dei_list (de_var rfl))
        · exact TI.or_r (dei_tup (de_var rfl))
      have ht : tupD d = .tuple (xs.map tupD) := by
        rcases hs with rfl | rfl
        · rw [tupD, tupDA_map]
        · rw [tupD, tupDA_map]
      refine okk_ret (de_if (b := true) ((deb_B (de_isiT (de_var (d := d) rfl) hT.1 hT.2)).to ?_) (fun _ => ?_) fun z => by cases z) hR
      · rcases hs with rfl | rfl <;> rfl
      · rw [ht]
        exact de_tupS (DeN.de (den_map xs (enc := id) (r := tupD) hI hl (by decide) fun x hx' => de_call (dea_1 (de_var (d := x) rfl)) ⟨x, rfl, hx x hx', rfl⟩)) (.inl rfl)
theorem cal_tupled {P : Program} {w : World} {K : PySem.W.Frag} {mg : Str → Option Value} {base : Heap} {f : Addr} {fd : FuncData} (T : Tx K mg) (F : FnP K "tupled" (top 1) f fd) (hm : mg "tupled" = some (.ref f)) : ∀ n, Cal P w K mg base n "tupled" p_tupled (spD (R_tupled n))
  | 0 => cal_of F hm (FunD.bindsN F fun _ _ _ _ _ _ us hl => match us, hl with | [_], _ => rfl) (fnOk_false fun _ _ h => h)
  | n + 1 => cal_of F hm (FunD.bindsN F fun _ _ _ _ _ _ us hl => match us, hl with | [_], _ => rfl) (fn_data F sc_tupled (fun as r h => by obtain ⟨d, rfl, _⟩ := h; rfl) fun cdv A outer s H E hr => ⟨_, ps_tupled T (cal_tupled T F hm n) cdv A outer s H E hr, ok_tupled n⟩)

/-! lots -/
theorem popc_le (m : Nat) : popc m ≤ 24 := Nat.le_trans (List.length_filter_le _ _) (by rw [List.length_range]; exact Nat.le_refl _)
theorem bitsL_or_mem (a b i : Nat) : i ∈ bitsL (a ||| b) ↔ i ∈ bitsL a ++ bitsL b := by
  rw [List.mem_append, mem_bitsL, mem_bitsL, mem_bitsL, Nat.testBit_or, Bool.or_eq_true]
  constructor
  · rintro ⟨h, h1 | h1⟩
    · exact .inl ⟨h, h1⟩
    · exact .inr ⟨h, h1⟩
  · rintro (⟨h, h1⟩ | ⟨h, h1⟩)
    · exact ⟨h, .inl h1⟩
    · exact ⟨h, .inr h1⟩
theorem bitsL_wo (a b : Nat) : (bitsL a).filter (fun i => !decide (i ∈ bitsL b)) = bitsL (a ^^^ (a &&& b)) := by
  unfold bitsL
  rw [List.filter_filter]
  apply List.filter_congr
  intro i hi
  rw [Nat.testBit_xor, Nat.testBit_and]
  have : decide (i ∈ (List.range 24).filter b.testBit) = b.testBit i := by
    rw [Bool.eq_iff_iff, decide_eq_true_iff, List.mem_filter]
    exact ⟨fun h => h.2, fun h => ⟨hi, h⟩⟩
  rw [this]
  cases a.testBit i <;> cases b.testBit i <;> rfl
theorem bitsL_ne {m : Nat} (h : m < 2 ^ 24) (h0 : m ≠ 0) : bitsL m ≠ [] := fun z => h0 (bitsL_inj h (by decide) (by rw [z]; decide +kernel))
/-- the data whose tuples are the lots ms -/
structure Lots (d : Dat) (ms : List Nat) : Prop where
  ns : Ns 2 d
  tup : tupD d = .tuple (ms.map lt)
theorem ns_lt (m : Nat) : Ns 1 (lt m) := .inr ⟨_, .inr rfl, by rw [List.length_map]; exact Nat.le_trans (popc_le m) (by decide), fun x hx => by obtain ⟨i, _, rfl⟩ := List.mem_map.mp hx; exact ⟨_, rfl⟩⟩
theorem tupDA_ints (l : List Nat) : tupDA (l.map nI) = l.map nI := by
  rw [tupDA_map, List.map_map]; rfl
theorem lots_tup {ms : List Nat} (h : ms.length ≤ 100000) : Lots (.tuple (ms.map lt)) ms := ⟨.inr ⟨_, .inr rfl, by rw [List.length_map]; exact h, fun x hx => by obtain ⟨i, _, rfl⟩ := List.mem_map.mp hx; exact ns_lt i⟩, by
  rw [tupD, tupDA_map, List.map_map]
  congr 1
  refine List.map_congr_left fun m _ => ?_
  show tupD (.tuple ((bitsL m).map nI)) = _
  rw [tupD, tupDA_ints]; rfl⟩
theorem lots_list {ms : List Nat} (h : ms.length ≤ 100000) : Lots (.list (ms.map fun m => lN (bitsL m))) ms := ⟨.inr ⟨_, .inl rfl, by rw [List.length_map]; exact h, fun x hx => by
  obtain ⟨i, _, rfl⟩ := List.mem_map.mp hx
  exact .inr ⟨_, .inl rfl, by rw [List.length_map]; exact Nat.le_trans (popc_le i) (by decide), fun x hx => by obtain ⟨i, _, rfl⟩ := List.mem_map.mp hx; exact ⟨_, rfl⟩⟩⟩, by
  rw [tupD, tupDA_map, List.map_map]
  congr 1
  refine List.map_congr_left fun m _ => ?_
  show tupD (.list ((bitsL m).map nI)) = _
  rw [tupD, tupDA_ints]; rfl⟩

def R_set_of (as : List Dat) (r : Dat) : Prop := (∃ l m : List Nat, as = [lN l] ∧ l.length ≤ 60 ∧ m.Pairwise (· < ·) ∧ (∀ i, i ∈ m ↔ i ∈ l) ∧ r = tN m) ∨
  ∃ L M : List (List Nat), as = [.list (L.map tN)] ∧ L.length ≤ 60 ∧ (∀ l ∈ L, l ≠ []) ∧ M.Nodup ∧ (∀ l, l ∈ M ↔ l ∈ L) ∧ r = .tuple (srt (M.map tN))

abbrev sp_set_of : Sp := spD R_set_of
abbrev N_set_of : List Str := ["things"]
abbrev p_set_of : List Str := ["things"]
theorem sc_set_of : FnScope N_set_of p_set_of (defScope (top 2)) := ⟨rfl, rfl, rfl, by decide +kernel, rfl, by decide +kernel, by decide +kernel⟩
def t_set_of (K : PySem.W.Frag) (P : Program) (w : World) : TS := tRet (tCB (rTupS K) (tCons (tCB (rSortTwo K P w) (tCons (tCB (rSetTwo K P w) (tCons (tVar 0) (tNil))) (tNil))) (tNil)))
theorem ps_set_of {P : Program} {w : World} {K : PySem.W.Frag} {mg : Str → Option Value} {base : Heap} {f : Addr} (T : Tx K mg) (cdv : Value) (A : Around) (outer : List Env) (s : Shared) (H : Hp) (E : XK) (hr : Room 0 (A.deeper (envOfC "set_of" (defScope (top 2)) s.heap.objs.size f cdv))) :
    PSs (cxOf CX0 P w K mg base N_set_of "set_of" (defScope (top 2)) f cdv A outer s H E).nox (defBody (top 2)) (t_set_of K P w) := by
  have nd := sc_set_of.nd
  have hu := hu_of hr
  unfold t_set_of
  exact pss_one (ps_ret (pe_ty T.tuple call_tuple_of (pa_cons (pe_bi T.sorted (CallR.or (cr_sortedSet rfl) (cr_sortTS rfl hr.units)) (pa_cons (pe_ty T.set (CallR.or (cr_setI rfl) (cr_setOfT rfl hr.units)) (pa_cons (pv 0) (pa_nil))) (pa_nil))) (pa_nil))))
theorem len_set_of : ∀ as r, R_set_of as r → as.length = p_set_of.length := by rintro _ _ (⟨l, m, rfl, _⟩ | ⟨L, M, rfl, _⟩) <;> rfl
theorem ok_set_of {P : Program} {w : World} {K : PySem.W.Frag} : ∀ as r, R_set_of as r → ∀ (E0 Ni : Hp) (D : Ends), Rt E0 Ni r D.rt → Okk E0 Ni (t_set_of K P w) D (s0 N_set_of as) := by
  rintro _ _ (⟨l, m, rfl, hl, hm, he, rfl⟩ | ⟨L, M, rfl, hl, hne, hM, he, rfl⟩) E0 Ni D hR
  · exact okk_ret (de_tupS (DeN.de (den_setN (l := l) (m := m) (de_var rfl) hl hm he)) (.inl rfl)) hR
  · exact okk_ret (de_tupS (DeN.de (den_setL (L := L) (M := M) (de_var rfl) hl hne hM he)) (.inl rfl)) hR

theorem cal_set_of {P : Program} {w : World} {K : PySem.W.Frag} {mg : Str → Option Value} {base : Heap} {f : Addr} {fd : FuncData} (T : Tx K mg) (F : FnP K "set_of" (top 2) f fd) (hm : mg "set_of" = some (.ref f)) : Cal P w K mg base 1 "set_of" p_set_of sp_set_of :=
  cal_of F hm (FunD.bindsN F fun _ _ _ _ _ _ us hl => match us, hl with | [_], _ => rfl) (fn_data F sc_set_of (len_set_of) fun cdv A outer s H E hr => ⟨_, ps_set_of T cdv A outer s H E hr, ok_set_of⟩)

def R_joined_of (as : List Dat) (r : Dat) : Prop := ∃ a b : Nat, as = [lt a, lt b] ∧ r = lt (a ||| b)

abbrev sp_joined_of : Sp := spD R_joined_of
abbrev N_joined_of : List Str := ["one", "other"]
abbrev p_joined_of : List Str := ["one", "other"]
theorem sc_joined_of : FnScope N_joined_of p_joined_of (defScope (top 24)) := ⟨rfl, rfl, rfl, by decide +kernel, rfl, by decide +kernel, by decide +kernel⟩
def t_joined_of (K : PySem.W.Frag) (P : Program) (w : World) : TS := tRet (tCall sp_set_of [] E0 (tCons (tLst (StX.tStar K (tVar 0) (StX.tStar K (tVar 1) (tNil)))) (tNil)))
theorem ps_joined_of {P : Program} {w : World} {K : PySem.W.Frag} {mg : Str → Option Value} {base : Heap} {f : Addr} (T : Tx K mg) (C_set_of : Cal P w K mg base 1 "set_of" p_set_of sp_set_of) (cdv : Value) (A : Around) (outer : List Env) (s : Shared) (H : Hp) (E : XK) (hr : Room 1 (A.deeper (envOfC "joined_of" (defScope (top 24)) s.heap.objs.size f cdv))) :
    PSs (cxOf CX0 P w K mg base N_joined_of "joined_of" (defScope (top 24)) f cdv A outer s H E).nox (defBody (top 24)) (t_joined_of K P w) := by
  have nd := sc_joined_of.nd
  have hu := hu_of hr
  unfold t_joined_of
  exact pss_one (ps_ret (pe_cal C_set_of hr (pa_cons (pe_lst (StX.pa_star (pv 0) (StX.pa_star (pv 1) (pa_nil)))) (pa_nil))))
theorem len_joined_of : ∀ as r, R_joined_of as r → as.length = p_joined_of.length := by rintro _ _ ⟨a, b, rfl, _⟩; rfl
theorem ok_joined_of {P : Program} {w : World} {K : PySem.W.Frag} : ∀ as r, R_joined_of as r → ∀ (E0 Ni : Hp) (D : Ends), Rt E0 Ni r D.rt → Okk E0 Ni (t_joined_of K P w) D (s0 N_joined_of as) := by
  rintro _ _ ⟨a, b, rfl, rfl⟩ E0 Ni D hR
  have h1 := popc_le a
  have h2 := popc_le b
  unfold popc at h1 h2
  refine okk_ret (de_call (dea_1 (x := lN (bitsL a ++ bitsL b)) ((DeN.de (den_lst (dea_starT (xs := (bitsL a).map nI) (de_var rfl) (dea_starT (xs := (bitsL b).map nI) (de_var rfl) dea_nil)) ?_)).to ?_)) (.inl ⟨bitsL a ++ bitsL b, bitsL (a ||| b), rfl, ?_, bitsL_asc _, fun i => bitsL_or_mem a b i, rfl⟩)) hR
  · rw [List.append_nil, List.length_append, List.length_map, List.length_map]; omega
  · unfold lN; rw [List.append_nil, List.map_append]
  · rw [List.length_append]; omega

theorem cal_joined_of {P : Program} {w : World} {K : PySem.W.Frag} {mg : Str → Option Value} {base : Heap} {f : Addr} {fd : FuncData} (T : Tx K mg) (C_set_of : Cal P w K mg base 1 "set_of" p_set_of sp_set_of) (F : FnP K "joined_of" (top 24) f fd) (hm : mg "joined_of" = some (.ref f)) : Cal P w K mg base 2 "joined_of" p_joined_of sp_joined_of :=
  cal_of F hm (FunD.bindsN F fun _ _ _ _ _ _ us hl => match us, hl with | [_, _], _ => rfl) (fn_data F sc_joined_of (len_joined_of) fun cdv A outer s H E hr => ⟨_, ps_joined_of T C_set_of cdv A outer s H E hr, ok_joined_of⟩)

def R_without (as : List Dat) (r : Dat) : Prop := ∃ a b : Nat, as = [lt a, lt b] ∧ r = lt (a ^^^ (a &&& b))

abbrev sp_without : Sp := spD R_without
abbrev N_without : List Str := ["lot", "other", "lamp"]
abbrev p_without : List Str := ["lot", "other"]
theorem sc_without : FnScope N_without p_without (defScope (top 25)) := ⟨rfl, rfl, rfl, by decide +kernel, rfl, by decide +kernel, by decide +kernel⟩
def t_without (K : PySem.W.Frag) (P : Program) (w : World) : TS := tRet (tCB (rTupS K) (tCons (tLc (iTup K (tVar 0)) (gName 2) (tTest (tOp (rIn K true) (tVar 2) (tVar 1))) (tVar 2) [2]) (tNil)))
theorem ps_without {P : Program} {w : World} {K : PySem.W.Frag} {mg : Str → Option Value} {base : Heap} {f : Addr} (T : Tx K mg) (cdv : Value) (A : Around) (outer : List Env) (s : Shared) (H : Hp) (E : XK) (hr : Room 0 (A.deeper (envOfC "without" (defScope (top 25)) s.heap.objs.size f cdv))) :
    PSs (cxOf CX0 P w K mg base N_without "without" (defScope (top 25)) f cdv A outer s H E).nox (defBody (top 25)) (t_without K P w) := by
  have nd := sc_without.nd
  have hu := hu_of hr
  unfold t_without
  exact pss_one (ps_ret (pe_ty T.tuple call_tuple_of (pa_cons (pe_lc (own := [("lamp", 2)]) (g := gName 2) (tt := tTest (tOp (rIn K true) (tVar 2) (tVar 1))) (te := tVar 2) rfl nd (pi_tup (pv 0)) (blkOk_by (N := N_without) (sc := defScope (top 25)) (by decide +kernel)) (fun _ _ _ _ _ => pg_name (i := 2) nd rfl (by first | exact Or.inl rfl | exact Or.inr rfl)) (fun _ _ _ _ _ => pts_one (pt_cmpR op_notIn_seq (pv 2) (pv 1) (by rfl))) (fun _ _ _ _ _ => pv 2)) (pa_nil))))
theorem len_without : ∀ as r, R_without as r → as.length = p_without.length := by rintro _ _ ⟨a, b, rfl, _⟩; rfl
theorem ok_without {P : Program} {w : World} {K : PySem.W.Frag} : ∀ as r, R_without as r → ∀ (E0 Ni : Hp) (D : Ends), Rt E0 Ni r D.rt → Okk E0 Ni (t_without K P w) D (s0 N_without as) := by
  rintro _ _ ⟨a, b, rfl, rfl⟩ E0 Ni D hR
  have h1 := popc_le a
  unfold popc at h1
  refine okk_ret ((de_tupS (DeN.de (den_filter (bitsL a) (dei_tup (xs := (bitsL a).map nI) (de_var rfl)) (by omega) (by decide) (fun i => !decide (i ∈ bitsL b)) nI (fun i hi => deb_test (de_notIn (de_var (d := nI i) rfl) (de_var (d := lt b) rfl) (.inr rfl))) fun i hi _ => de_var rfl)) (.inl rfl)).to ?_) hR
  rw [bitsL_wo]; rfl

theorem cal_without {P : Program} {w : World} {K : PySem.W.Frag} {mg : Str → Option Value} {base : Heap} {f : Addr} {fd : FuncData} (T : Tx K mg) (F : FnP K "without" (top 25) f fd) (hm : mg "without" = some (.ref f)) : Cal P w K mg base 1 "without" p_without sp_without :=
  cal_of F hm (FunD.bindsN F fun _ _ _ _ _ _ us hl => match us, hl with | [_, _], _ => rfl) (fn_data F sc_without (len_without) fun cdv A outer s H E hr => ⟨_, ps_without T cdv A outer s H E hr, ok_without⟩)

def pairsM (ms : List Nat) : List Nat := (List.range ms.length).flatMap fun i => (ms.drop (i + 1)).map fun b => ms.getD i 0 ||| b
def R_pairs_joined (as : List Dat) (r : Dat) : Prop := ∃ ms : List Nat, as = [.tuple (ms.map lt)] ∧ ms.length ≤ 100 ∧ r = .list ((pairsM ms).map lt)

abbrev sp_pairs_joined : Sp := spD R_pairs_joined
abbrev N_pairs_joined : List Str := ["lots", "other", "place", "own"]
abbrev p_pairs_joined : List Str := ["lots"]
theorem sc_pairs_joined : FnScope N_pairs_joined p_pairs_joined (defScope (top 26)) := ⟨rfl, rfl, rfl, by decide +kernel, rfl, by decide +kernel, by decide +kernel⟩
def t_pairs_joined (K : PySem.W.Frag) (P : Program) (w : World) : TS := tRet (tLc2 (iEnumT K (tCons (tVar 0) (tNil))) (gTup K 2 (gCons (gName 2) (gCons (gName 3) (gNil)))) (tYes) (iTup K (tSl (rSlA K) (tVar 0) (tPart (tOp rAdd (tVar 2) (tC (.int 1)))) (tNoPart))) (gName 1) (tYes) (tCall sp_joined_of [] E0 (tCons (tVar 3) (tCons (tVar 1) (tNil)))) [2, 3, 1] [1])
theorem ps_pairs_joined {P : Program} {w : World} {K : PySem.W.Frag} {mg : Str → Option Value} {base : Heap} {f : Addr} (T : Tx K mg) (C_joined_of : Cal P w K mg base 2 "joined_of" p_joined_of sp_joined_of) (cdv : Value) (A : Around) (outer : List Env) (s : Shared) (H : Hp) (E : XK) (hr : Room 2 (A.deeper (envOfC "pairs_joined" (defScope (top 26)) s.heap.objs.size f cdv))) :
    PSs (cxOf CX0 P w K mg base N_pairs_joined "pairs_joined" (defScope (top 26)) f cdv A outer s H E).nox (defBody (top 26)) (t_pairs_joined K P w) := by
  have nd := sc_pairs_joined.nd
  have hu := hu_of hr
  unfold t_pairs_joined
  exact pss_one (ps_ret (pe_lc2 (own := [("place", 2), ("own", 3), ("other", 1)]) (vs1 := [1]) (g := gTup K 2 (gCons (gName 2) (gCons (gName 3) (gNil)))) (tt := tYes) (wi1 := iTup K (tSl (rSlA K) (tVar 0) (tPart (tOp rAdd (tVar 2) (tC (.int 1)))) (tNoPart))) (g1 := gName 1) (tt1 := tYes) (te := tCall sp_joined_of [] E0 (tCons (tVar 3) (tCons (tVar 1) (tNil)))) rfl nd (pi_enumT rfl T.enumerate (pa_cons (pv 0) (pa_nil))) (blkOk_by (N := N_pairs_joined) (sc := defScope (top 26)) (by decide +kernel)) (by decide) (fun _ _ _ _ _ => pg_tup (by rfl) (pgs_cons (pg_name (i := 2) nd rfl (by first | exact Or.inl rfl | exact Or.inr rfl)) (pgs_cons (pg_name (i := 3) nd rfl (by first | exact Or.inl rfl | exact Or.inr rfl)) (pgs_nil)))) (fun _ _ _ _ _ => pts_nil) (fun _ _ _ _ _ => pi_tup (pe_slice sl_tupA (pv 0) (po_some (pe_op op_add (pv 2) (pe_int))) (po_none))) (fun _ _ _ _ _ => pg_name (i := 1) nd rfl (by first | exact Or.inl rfl | exact Or.inr rfl)) (fun _ _ _ _ _ => pts_nil) (fun _ _ _ _ _ => pe_cal C_joined_of hr (pa_cons (pv 3) (pa_cons (pv 1) (pa_nil))))))
theorem len_pairs_joined : ∀ as r, R_pairs_joined as r → as.length = p_pairs_joined.length := by rintro _ _ ⟨a, rfl, _⟩; rfl
theorem ok_pairs_joined {P : Program} {w : World} {K : PySem.W.Frag} : ∀ as r, R_pairs_joined as r → ∀ (E0 Ni : Hp) (D : Ends), Rt E0 Ni r D.rt → Okk E0 Ni (t_pairs_joined K P w) D (s0 N_pairs_joined as) := by
  rintro _ _ ⟨ms, rfl, hl, rfl⟩ E0 Ni D hR
  refine okk_ret ((DeN.de (den_lc2G (js := [2, 3]) (js1 := [1]) (items := enumD (ms.map lt)) (dei_enumT (de_var rfl)) (by rw [enumD_len, List.length_map]; omega) (by decide) (by decide)
    (fun i => [some (.tuple (ms.map lt)), none, some (nI i), some (lt (ms.getD i 0))]) (fun i => (ms.drop (i + 1)).map lt) (fun i j => [some (.tuple (ms.map lt)), some (lt ((ms.drop (i + 1)).getD j 0)), some (nI i), some (lt (ms.getD i 0))])
    (fun i j => lt (ms.getD i 0 ||| (ms.drop (i + 1)).getD j 0)) (fun i => by rw [List.length_map, List.length_drop]; omega) (fun i d h => ?_) (fun i d h => ?_) (fun i d j e h h2 => ?_) fun i d j e h h2 => ?_)).to ?_) hR
  · obtain ⟨x, hx, rfl⟩ := enumD_get h
    obtain ⟨m, hm, rfl⟩ := get_map hx
    have : ms.getD i 0 = m := by rw [List.getD_eq_getElem?_getD, hm]; rfl
    rw [this]
    exact deg_two
  · exact (dei_tup ((slice_from (xs := ms.map lt) (n := i + 1) (de_var rfl) (de_add (a := i) (b := 1) (de_var rfl) (de_n 1))).to (by rw [List.map_drop])))
  · obtain ⟨m, hm, rfl⟩ := get_map h2
    have : (ms.drop (i + 1)).getD j 0 = m := by rw [List.getD_eq_getElem?_getD, hm]; rfl
    rw [this]
    exact deg_name
  · exact de_call (dea_2 (de_var (d := lt (ms.getD i 0)) rfl) (de_var (d := lt ((ms.drop (i + 1)).getD j 0)) rfl)) ⟨_, _, rfl, rfl⟩
  · rw [enumD_len, List.length_map]
    unfold pairsM
    rw [List.map_flatMap]
    congr 2
    funext i
    rw [List.map_map, List.length_map]
    apply List.ext_getElem
    · rw [List.length_map, List.length_map, List.length_range]
    · intro j h1 h2
      rw [List.getElem_map, List.getElem_map, List.getElem_range]
      rw [List.length_map] at h2
      show lt (ms.getD i 0 ||| (ms.drop (i + 1)).getD j 0) = lt (ms.getD i 0 ||| (ms.drop (i + 1))[j])
      rw [List.getD_eq_getElem?_getD (l := ms.drop (i + 1)), List.getElem?_eq_getElem h2]
      rfl


theorem cal_pairs_joined {P : Program} {w : World} {K : PySem.W.Frag} {mg : Str → Option Value} {base : Heap} {f : Addr} {fd : FuncData} (T : Tx K mg) (C_joined_of : Cal P w K mg base 2 "joined_of" p_joined_of sp_joined_of) (F : FnP K "pairs_joined" (top 26) f fd) (hm : mg "pairs_joined" = some (.ref f)) : Cal P w K mg base 3 "pairs_joined" p_pairs_joined sp_pairs_joined :=
  cal_of F hm (FunD.bindsN F fun _ _ _ _ _ _ us hl => match us, hl with | [_], _ => rfl) (fn_data F sc_pairs_joined (len_pairs_joined) fun cdv A outer s H E hr => ⟨_, ps_pairs_joined T C_joined_of cdv A outer s H E hr, ok_pairs_joined⟩)

theorem lt_bits (ms : List Nat) : (ms.map bitsL).map tN = ms.map lt := by rw [List.map_map]; rfl
theorem pairs_bd {ms : List Nat} (h : ∀ m ∈ ms, m < 2 ^ 24) : ∀ x ∈ pairsM ms, x < 2 ^ 24 := by
  intro x hx
  simp only [pairsM, List.mem_flatMap, List.mem_map, List.mem_range] at hx
  obtain ⟨i, hi, b, hb, rfl⟩ := hx
  refine Nat.or_lt_two_pow ?_ (h b (List.mem_of_mem_drop hb))
  rw [List.getD_eq_getElem?_getD, List.getElem?_eq_getElem hi]
  exact h _ (List.getElem_mem hi)
theorem pairs_ne {ms : List Nat} (h : ∀ m ∈ ms, m ≠ 0) : ∀ x ∈ pairsM ms, x ≠ 0 := by
  intro x hx
  simp only [pairsM, List.mem_flatMap, List.mem_map, List.mem_range] at hx
  obtain ⟨i, hi, b, hb, rfl⟩ := hx
  have := h b (List.mem_of_mem_drop hb)
  intro z
  exact this (Nat.eq_zero_of_le_zero (by rw [← z]; exact Nat.right_le_or))
theorem bits_nodup {M : List Nat} (hb : ∀ m ∈ M, m < 2 ^ 24) (h : M.Nodup) : (M.map bitsL).Nodup := by
  unfold List.Nodup at h ⊢
  rw [List.pairwise_map]
  exact h.imp_of_mem fun {a b} ha hb2 hab z => hab (bitsL_inj (hb a ha) (hb b hb2) z)
theorem bits_mem {M L : List Nat} (h : ∀ x, x ∈ M ↔ x ∈ L) (l : List Nat) : l ∈ M.map bitsL ↔ l ∈ L.map bitsL := by
  rw [List.mem_map, List.mem_map]
  exact ⟨fun ⟨a, h1, h2⟩ => ⟨a, (h a).mp h1, h2⟩, fun ⟨a, h1, h2⟩ => ⟨a, (h a).mpr h1, h2⟩⟩
/-- tuple(sorted(set(..))) of lots -/
theorem set_lots {L M : List Nat} (hl : L.length ≤ 60) (hb : ∀ m ∈ L, m < 2 ^ 24) (hne : ∀ m ∈ L, m ≠ 0) (hM : M.Nodup) (he : ∀ x, x ∈ M ↔ x ∈ L) : R_set_of [.list (L.map lt)] (.tuple (srt (M.map lt))) :=
  .inr ⟨L.map bitsL, M.map bitsL, by rw [lt_bits], by rw [List.length_map]; exact hl, fun l h => by obtain ⟨m, hm, rfl⟩ := List.mem_map.mp h; exact bitsL_ne (hb m hm) (hne m hm), bits_nodup (fun m hm => hb m ((he m).mp hm)) hM, bits_mem he, by rw [lt_bits]⟩
def R_eights_of_fours (as : List Dat) (r : Dat) : Prop := ∃ (d : Dat) (ms M : List Nat), as = [d] ∧ Lots d ms ∧ ms.length ≤ 6 ∧ (∀ m ∈ ms, m < 2 ^ 24) ∧ (∀ m ∈ ms, m ≠ 0) ∧ M.Nodup ∧ (∀ x, x ∈ M ↔ x ∈ pairsM ms) ∧ (pairsM ms).length ≤ 60 ∧ r = .tuple (srt (M.map lt))

abbrev sp_eights_of_fours : Sp := spD R_eights_of_fours
abbrev N_eights_of_fours : List Str := ["fours"]
abbrev p_eights_of_fours : List Str := ["fours"]
theorem sc_eights_of_fours : FnScope N_eights_of_fours p_eights_of_fours (defScope (top 27)) := ⟨rfl, rfl, rfl, by decide +kernel, rfl, by decide +kernel, by decide +kernel⟩
def t_eights_of_fours (K : PySem.W.Frag) (P : Program) (w : World) : TS := tRet (tCall sp_set_of [] E0 (tCons (tCall sp_pairs_joined [] E0 (tCons (tCall sp_tupled [] E0 (tCons (tVar 0) (tNil))) (tNil))) (tNil)))
theorem ps_eights_of_fours {P : Program} {w : World} {K : PySem.W.Frag} {mg : Str → Option Value} {base : Heap} {f : Addr} (T : Tx K mg) (C_set_of : Cal P w K mg base 1 "set_of" p_set_of sp_set_of) (C_pairs_joined : Cal P w K mg base 3 "pairs_joined" p_pairs_joined sp_pairs_joined) (C_tupled : Cal P w K mg base 3 "tupled" p_tupled sp_tupled) (cdv : Value) (A : Around) (outer : List Env) (s : Shared) (H : Hp) (E : XK) (hr : Room 3 (A.deeper (envOfC "eights_of_fours" (defScope (top 27)) s.heap.objs.size f cdv))) :
    PSs (cxOf CX0 P w K mg base N_eights_of_fours "eights_of_fours" (defScope (top 27)) f cdv A outer s H E).nox (defBody (top 27)) (t_eights_of_fours K P w) := by
  have nd := sc_eights_of_fours.nd
  have hu := hu_of hr
  unfold t_eights_of_fours
  exact pss_one (ps_ret (pe_cal C_set_of hr (pa_cons (pe_cal C_pairs_joined hr (pa_cons (pe_cal C_tupled hr (pa_cons (pv 0) (pa_nil))) (pa_nil))) (pa_nil))))
theorem len_eights_of_fours : ∀ as r, R_eights_of_fours as r → as.length = p_eights_of_fours.length := by rintro _ _ ⟨d, a, b, rfl, _⟩; rfl
theorem ok_eights_of_fours {P : Program} {w : World} {K : PySem.W.Frag} : ∀ as r, R_eights_of_fours as r → ∀ (E0 Ni : Hp) (D : Ends), Rt E0 Ni r D.rt → Okk E0 Ni (t_eights_of_fours K P w) D (s0 N_eights_of_fours as) := by
  rintro _ _ ⟨d, ms, M, rfl, hd, hl, hb, hne, hM, he, hp, rfl⟩ E0 Ni D hR
  exact okk_ret (de_call (dea_1 (de_call (dea_1 (de_call (z := .tuple (ms.map lt)) (dea_1 (de_var (d := d) rfl)) ⟨d, rfl, hd.ns, hd.tup.symm⟩)) ⟨ms, rfl, by omega, rfl⟩)) (set_lots hp (pairs_bd hb) (pairs_ne hne) hM he)) hR

theorem cal_eights_of_fours {P : Program} {w : World} {K : PySem.W.Frag} {mg : Str → Option Value} {base : Heap} {f : Addr} {fd : FuncData} (T : Tx K mg) (C_set_of : Cal P w K mg base 1 "set_of" p_set_of sp_set_of) (C_pairs_joined : Cal P w K mg base 3 "pairs_joined" p_pairs_joined sp_pairs_joined) (C_tupled : Cal P w K mg base 3 "tupled" p_tupled sp_tupled) (F : FnP K "eights_of_fours" (top 27) f fd) (hm : mg "eights_of_fours" = some (.ref f)) : Cal P w K mg base 4 "eights_of_fours" p_eights_of_fours sp_eights_of_fours :=
  cal_of F hm (FunD.bindsN F fun _ _ _ _ _ _ us hl => match us, hl with | [_], _ => rfl) (fn_data F sc_eights_of_fours (len_eights_of_fours) fun cdv A outer s H E hr => ⟨_, ps_eights_of_fours T C_set_of C_pairs_joined C_tupled cdv A outer s H E hr, ok_eights_of_fours⟩)

def R_shares_of (as : List Dat) (r : Dat) : Prop := ∃ (ms : List Nat) (m : Nat) (y : Dat), as = [.tuple (ms.map lt), y] ∧ isSeq y ((bitsL m).map nI) ∧ ms.length ≤ 1000 ∧ r = .tuple (ms.map fun s => nI (popc (s &&& m)))

abbrev sp_shares_of : Sp := spD R_shares_of
abbrev N_shares_of : List Str := ["lots", "lot", "own", "lamp"]
abbrev p_shares_of : List Str := ["lots", "lot"]
theorem sc_shares_of : FnScope N_shares_of p_shares_of (defScope (top 29)) := ⟨rfl, rfl, rfl, by decide +kernel, rfl, by decide +kernel, by decide +kernel⟩
def t_shares_of (K : PySem.W.Frag) (P : Program) (w : World) : TS := tRet (tCB (rTupS K) (tCons (tLc (iTup K (tVar 0)) (gName 2) (tYes) (tCB (rLenS K) (tCons (tLc (iTup K (tVar 2)) (gName 3) (tTest (tOp (rIn K false) (tVar 3) (tVar 1))) (tVar 3) [3]) (tNil))) [2]) (tNil)))
theorem ps_shares_of {P : Program} {w : World} {K : PySem.W.Frag} {mg : Str → Option Value} {base : Heap} {f : Addr} (T : Tx K mg) (cdv : Value) (A : Around) (outer : List Env) (s : Shared) (H : Hp) (E : XK) (hr : Room 0 (A.deeper (envOfC "shares_of" (defScope (top 29)) s.heap.objs.size f cdv))) :
    PSs (cxOf CX0 P w K mg base N_shares_of "shares_of" (defScope (top 29)) f cdv A outer s H E).nox (defBody (top 29)) (t_shares_of K P w) := by
  have nd := sc_shares_of.nd
  have hu := hu_of hr
  unfold t_shares_of
  exact pss_one (ps_ret (pe_ty T.tuple call_tuple_of (pa_cons (pe_lc (own := [("own", 2)]) (g := gName 2) (tt := tYes) (te := tCB (rLenS K) (tCons (tLc (iTup K (tVar 2)) (gName 3) (tTest (tOp (rIn K false) (tVar 3) (tVar 1))) (tVar 3) [3]) (tNil))) rfl nd (pi_tup (pv 0)) (blkOk_by (N := N_shares_of) (sc := defScope (top 29)) (by decide +kernel)) (fun _ _ _ _ _ => pg_name (i := 2) nd rfl (by first | exact Or.inl rfl | exact Or.inr rfl)) (fun _ _ _ _ _ => pts_nil) (fun _ _ _ _ _ => pe_bi T.len call_len_seq (pa_cons (pe_lc (own := [("lamp", 3)]) (g := gName 3) (tt := tTest (tOp (rIn K false) (tVar 3) (tVar 1))) (te := tVar 3) rfl nd (pi_tup (pv 2)) (blkOk_by (N := N_shares_of) (by first | kernel_rfl | rfl)) (fun _ _ _ _ _ => pg_name (i := 3) nd rfl (by first | exact Or.inl rfl | exact Or.inr rfl)) (fun _ _ _ _ _ => pts_one (pt_cmpR op_in_seq (pv 3) (pv 1) (by rfl))) (fun _ _ _ _ _ => pv 3)) (pa_nil)))) (pa_nil))))
theorem len_shares_of : ∀ as r, R_shares_of as r → as.length = p_shares_of.length := by rintro _ _ ⟨d, a, b, rfl, _⟩; rfl
theorem ok_shares_of {P : Program} {w : World} {K : PySem.W.Frag} : ∀ as r, R_shares_of as r → ∀ (E0 Ni : Hp) (D : Ends), Rt E0 Ni r D.rt → Okk E0 Ni (t_shares_of K P w) D (s0 N_shares_of as) := by
  rintro _ _ ⟨ms, m, y, rfl, hy, hl, rfl⟩ E0 Ni D hR
  refine okk_ret (de_tupS (DeN.de (den_map ms (r := fun s => nI (popc (s &&& m))) (dei_tup (xs := ms.map lt) (de_var rfl)) (by omega) (by decide) fun s hs => ?_)) (.inl rfl)) hR
  have h1 := popc_le s
  unfold popc at h1
  refine (de_len (DeN.de (den_filter (bitsL s) (dei_tup (xs := (bitsL s).map nI) (de_var rfl)) (by omega) (by decide) (fun i => decide (i ∈ bitsL m)) nI (fun i hi => deb_test (de_isIn (de_var (d := nI i) rfl) (de_var (d := y) rfl) hy)) fun i hi _ => de_var rfl)) (.inl rfl)).to ?_
  rw [List.length_map, bitsL_and]; rfl

theorem cal_shares_of {P : Program} {w : World} {K : PySem.W.Frag} {mg : Str → Option Value} {base : Heap} {f : Addr} {fd : FuncData} (T : Tx K mg) (F : FnP K "shares_of" (top 29) f fd) (hm : mg "shares_of" = some (.ref f)) : Cal P w K mg base 1 "shares_of" p_shares_of sp_shares_of :=
  cal_of F hm (FunD.bindsN F fun _ _ _ _ _ _ us hl => match us, hl with | [_, _], _ => rfl) (fn_data F sc_shares_of (len_shares_of) fun cdv A outer s H E hr => ⟨_, ps_shares_of T cdv A outer s H E hr, ok_shares_of⟩)

def R_shared (as : List Dat) (r : Dat) : Prop := ∃ (d : Dat) (ms : List Nat) (m : Nat) (y : Dat), as = [d, y] ∧ Lots d ms ∧ isSeq y ((bitsL m).map nI) ∧ ms.length ≤ 1000 ∧ r = .tuple (ms.map fun s => nI (popc (s &&& m)))

abbrev sp_shared : Sp := spD R_shared
abbrev N_shared : List Str := ["fours", "lot"]
abbrev p_shared : List Str := ["fours", "lot"]
theorem sc_shared : FnScope N_shared p_shared (defScope (top 30)) := ⟨rfl, rfl, rfl, by decide +kernel, rfl, by decide +kernel, by decide +kernel⟩
def t_shared (K : PySem.W.Frag) (P : Program) (w : World) : TS := tRet (tCall sp_shares_of [] E0 (tCons (tCall sp_tupled [] E0 (tCons (tVar 0) (tNil))) (tCons (tVar 1) (tNil))))
theorem ps_shared {P : Program} {w : World} {K : PySem.W.Frag} {mg : Str → Option Value} {base : Heap} {f : Addr} (T : Tx K mg) (C_shares_of : Cal P w K mg base 1 "shares_of" p_shares_of sp_shares_of) (C_tupled : Cal P w K mg base 3 "tupled" p_tupled sp_tupled) (cdv : Value) (A : Around) (outer : List Env) (s : Shared) (H : Hp) (E : XK) (hr : Room 3 (A.deeper (envOfC "shared" (defScope (top 30)) s.heap.objs.size f cdv))) :
    PSs (cxOf CX0 P w K mg base N_shared "shared" (defScope (top 30)) f cdv A outer s H E).nox (defBody (top 30)) (t_shared K P w) := by
  have nd := sc_shared.nd
  have hu := hu_of hr
  unfold t_shared
  exact pss_one (ps_ret (pe_cal C_shares_of hr (pa_cons (pe_cal C_tupled hr (pa_cons (pv 0) (pa_nil))) (pa_cons (pv 1) (pa_nil)))))
theorem len_shared : ∀ as r, R_shared as r → as.length = p_shared.length := by rintro _ _ ⟨d, a, b, y, rfl, _⟩; rfl
theorem ok_shared {P : Program} {w : World} {K : PySem.W.Frag} : ∀ as r, R_shared as r → ∀ (E0 Ni : Hp) (D : Ends), Rt E0 Ni r D.rt → Okk E0 Ni (t_shared K P w) D (s0 N_shared as) := by
  rintro _ _ ⟨d, ms, m, y, rfl, hd, hy, hl, rfl⟩ E0 Ni D hR
  exact okk_ret (de_call (dea_2 (de_call (z := .tuple (ms.map lt)) (dea_1 (de_var (d := d) rfl)) ⟨d, rfl, hd.ns, hd.tup.symm⟩) (de_var (d := y) rfl)) ⟨ms, m, y, rfl, hy, hl, rfl⟩) hR

theorem cal_shared {P : Program} {w : World} {K : PySem.W.Frag} {mg : Str → Option Value} {base : Heap} {f : Addr} {fd : FuncData} (T : Tx K mg) (C_shares_of : Cal P w K mg base 1 "shares_of" p_shares_of sp_shares_of) (C_tupled : Cal P w K mg base 3 "tupled" p_tupled sp_tupled) (F : FnP K "shared" (top 30) f fd) (hm : mg "shared" = some (.ref f)) : Cal P w K mg base 4 "shared" p_shared sp_shared :=
  cal_of F hm (FunD.bindsN F fun _ _ _ _ _ _ us hl => match us, hl with | [_, _], _ => rfl) (fn_data F sc_shared (len_shared) fun cdv A outer s H E hr => ⟨_, ps_shared T C_shares_of C_tupled cdv A outer s H E hr, ok_shared⟩)

def tabM (ms ns : List Nat) : Dat := .tuple (ms.map fun m => .tuple (ns.map fun n => nI (popc (n &&& m))))
def R_table_of (as : List Dat) (r : Dat) : Prop := ∃ ms ns : List Nat, as = [.tuple (ms.map lt), .tuple (ns.map lt)] ∧ ms.length ≤ 1000 ∧ ns.length ≤ 1000 ∧ r = tabM ms ns

abbrev sp_table_of : Sp := spD R_table_of
abbrev N_table_of : List Str := ["lots", "others", "own"]
abbrev p_table_of : List Str := ["lots", "others"]
theorem sc_table_of : FnScope N_table_of p_table_of (defScope (top 31)) := ⟨rfl, rfl, rfl, by decide +kernel, rfl, by decide +kernel, by decide +kernel⟩
def t_table_of (K : PySem.W.Frag) (P : Program) (w : World) : TS := tRet (tCB (rTupS K) (tCons (tLc (iTup K (tVar 0)) (gName 2) (tYes) (tCall sp_shares_of [] E0 (tCons (tVar 1) (tCons (tVar 2) (tNil)))) [2]) (tNil)))
theorem ps_table_of {P : Program} {w : World} {K : PySem.W.Frag} {mg : Str → Option Value} {base : Heap} {f : Addr} (T : Tx K mg) (C_shares_of : Cal P w K mg base 1 "shares_of" p_shares_of sp_shares_of) (cdv : Value) (A : Around) (outer : List Env) (s : Shared) (H : Hp) (E : XK) (hr : Room 1 (A.deeper (envOfC "table_of" (defScope (top 31)) s.heap.objs.size f cdv))) :
    PSs (cxOf CX0 P w K mg base N_table_of "table_of" (defScope (top 31)) f cdv A outer s H E).nox (defBody (top 31)) (t_table_of K P w) := by
  have nd := sc_table_of.nd
  have hu := hu_of hr
  unfold t_table_of
  exact pss_one (ps_ret (pe_ty T.tuple call_tuple_of (pa_cons (pe_lc (own := [("own", 2)]) (g := gName 2) (tt := tYes) (te := tCall sp_shares_of [] E0 (tCons (tVar 1) (tCons (tVar 2) (tNil)))) rfl nd (pi_tup (pv 0)) (blkOk_by (N := N_table_of) (sc := defScope (top 31)) (by decide +kernel)) (fun _ _ _ _ _ => pg_name (i := 2) nd rfl (by first | exact Or.inl rfl | exact Or.inr rfl)) (fun _ _ _ _ _ => pts_nil) (fun _ _ _ _ _ => pe_cal C_shares_of hr (pa_cons (pv 1) (pa_cons (pv 2) (pa_nil))))) (pa_nil))))
theorem len_table_of : ∀ as r, R_table_of as r → as.length = p_table_of.length := by rintro _ _ ⟨a, b, rfl, _⟩; rfl
theorem ok_table_of {P : Program} {w : World} {K : PySem.W.Frag} : ∀ as r, R_table_of as r → ∀ (E0 Ni : Hp) (D : Ends), Rt E0 Ni r D.rt → Okk E0 Ni (t_table_of K P w) D (s0 N_table_of as) := by
  rintro _ _ ⟨ms, ns, rfl, hm, hn, rfl⟩ E0 Ni D hR
  exact okk_ret (de_tupS (DeN.de (den_map ms (r := fun m => .tuple (ns.map fun n => nI (popc (n &&& m)))) (dei_tup (xs := ms.map lt) (de_var rfl)) (by omega) (by decide) fun m hm => de_call (dea_2 (de_var (d := .tuple (ns.map lt)) rfl) (de_var (d := lt m) rfl)) ⟨ns, m, lt m, rfl, .inr rfl, hn, rfl⟩)) (.inl rfl)) hR

theorem cal_table_of {P : Program} {w : World} {K : PySem.W.Frag} {mg : Str → Option Value} {base : Heap} {f : Addr} {fd : FuncData} (T : Tx K mg) (C_shares_of : Cal P w K mg base 1 "shares_of" p_shares_of sp_shares_of) (F : FnP K "table_of" (top 31) f fd) (hm : mg "table_of" = some (.ref f)) : Cal P w K mg base 2 "table_of" p_table_of sp_table_of :=
  cal_of F hm (FunD.bindsN F fun _ _ _ _ _ _ us hl => match us, hl with | [_, _], _ => rfl) (fn_data F sc_table_of (len_table_of) fun cdv A outer s H E hr => ⟨_, ps_table_of T C_shares_of cdv A outer s H E hr, ok_table_of⟩)

def R_shared_table (as : List Dat) (r : Dat) : Prop := ∃ (d e : Dat) (ms ns : List Nat), as = [d, e] ∧ Lots d ms ∧ Lots e ns ∧ ms.length ≤ 1000 ∧ ns.length ≤ 1000 ∧ r = tabM ms ns

abbrev sp_shared_table : Sp := spD R_shared_table
abbrev N_shared_table : List Str := ["one", "other"]
abbrev p_shared_table : List Str := ["one", "other"]
theorem sc_shared_table : FnScope N_shared_table p_shared_table (defScope (top 32)) := ⟨rfl, rfl, rfl, by decide +kernel, rfl, by decide +kernel, by decide +kernel⟩
def t_shared_table (K : PySem.W.Frag) (P : Program) (w : World) : TS := tRet (tCall sp_table_of [] E0 (tCons (tCall sp_tupled [] E0 (tCons (tVar 0) (tNil))) (tCons (tCall sp_tupled [] E0 (tCons (tVar 1) (tNil))) (tNil))))
theorem ps_shared_table {P : Program} {w : World} {K : PySem.W.Frag} {mg : Str → Option Value} {base : Heap} {f : Addr} (T : Tx K mg) (C_table_of : Cal P w K mg base 2 "table_of" p_table_of sp_table_of) (C_tupled : Cal P w K mg base 3 "tupled" p_tupled sp_tupled) (cdv : Value) (A : Around) (outer : List Env) (s : Shared) (H : Hp) (E : XK) (hr : Room 3 (A.deeper (envOfC "shared_table" (defScope (top 32)) s.heap.objs.size f cdv))) :
    PSs (cxOf CX0 P w K mg base N_shared_table "shared_table" (defScope (top 32)) f cdv A outer s H E).nox (defBody (top 32)) (t_shared_table K P w) := by
  have nd := sc_shared_table.nd
  have hu := hu_of hr
  unfold t_shared_table
  exact pss_one (ps_ret (pe_cal C_table_of hr (pa_cons (pe_cal C_tupled hr (pa_cons (pv 0) (pa_nil))) (pa_cons (pe_cal C_tupled hr (pa_cons (pv 1) (pa_nil))) (pa_nil)))))
theorem len_shared_table : ∀ as r, R_shared_table as r → as.length = p_shared_table.length := by rintro _ _ ⟨a, b, c, d, rfl, _⟩; rfl
theorem ok_shared_table {P : Program} {w : World} {K : PySem.W.Frag} : ∀ as r, R_shared_table as r → ∀ (E0 Ni : Hp) (D : Ends), Rt E0 Ni r D.rt → Okk E0 Ni (t_shared_table K P w) D (s0 N_shared_table as) := by
  rintro _ _ ⟨d, e, ms, ns, rfl, hd, he, hm, hn, rfl⟩ E0 Ni D hR
  exact okk_ret (de_call (dea_2 (de_call (z := .tuple (ms.map lt)) (dea_1 (de_var (d := d) rfl)) ⟨d, rfl, hd.ns, hd.tup.symm⟩) (de_call (z := .tuple (ns.map lt)) (dea_1 (de_var (d := e) rfl)) ⟨e, rfl, he.ns, he.tup.symm⟩)) ⟨ms, ns, rfl, hm, hn, rfl⟩) hR

theorem cal_shared_table {P : Program} {w : World} {K : PySem.W.Frag} {mg : Str → Option Value} {base : Heap} {f : Addr} {fd : FuncData} (T : Tx K mg) (C_table_of : Cal P w K mg base 2 "table_of" p_table_of sp_table_of) (C_tupled : Cal P w K mg base 3 "tupled" p_tupled sp_tupled) (F : FnP K "shared_table" (top 32) f fd) (hm : mg "shared_table" = some (.ref f)) : Cal P w K mg base 4 "shared_table" p_shared_table sp_shared_table :=
  cal_of F hm (FunD.bindsN F fun _ _ _ _ _ _ us hl => match us, hl with | [_, _], _ => rfl) (fn_data F sc_shared_table (len_shared_table) fun cdv A outer s H E hr => ⟨_, ps_shared_table T C_table_of C_tupled cdv A outer s H E hr, ok_shared_table⟩)

def R_meeting (as : List Dat) (r : Dat) : Prop := ∃ (d e : Dat) (ms ns m : List Nat), as = [d, e] ∧ Lots d ms ∧ Lots e ns ∧ ms.length ≤ 6 ∧ ns.length ≤ 6 ∧ m.Pairwise (· < ·) ∧ (∀ i, i ∈ m ↔ ∃ a ∈ ms, ∃ b ∈ ns, popc (b &&& a) = i) ∧ r = tN m

abbrev sp_meeting : Sp := spD R_meeting
abbrev N_meeting : List Str := ["one", "other", "row", "number"]
abbrev p_meeting : List Str := ["one", "other"]
theorem sc_meeting : FnScope N_meeting p_meeting (defScope (top 33)) := ⟨rfl, rfl, rfl, by decide +kernel, rfl, by decide +kernel, by decide +kernel⟩
def t_meeting (K : PySem.W.Frag) (P : Program) (w : World) : TS := tRet (tCall sp_set_of [] E0 (tCons (tLc2 (iTup K (tCall sp_shared_table [] E0 (tCons (tVar 0) (tCons (tVar 1) (tNil))))) (gName 2) (tYes) (iTup K (tVar 2)) (gName 3) (tYes) (tVar 3) [2, 3] [3]) (tNil)))
theorem ps_meeting {P : Program} {w : World} {K : PySem.W.Frag} {mg : Str → Option Value} {base : Heap} {f : Addr} (T : Tx K mg) (C_set_of : Cal P w K mg base 1 "set_of" p_set_of sp_set_of) (C_shared_table : Cal P w K mg base 4 "shared_table" p_shared_table sp_shared_table) (cdv : Value) (A : Around) (outer : List Env) (s : Shared) (H : Hp) (E : XK) (hr : Room 4 (A.deeper (envOfC "meeting" (defScope (top 33)) s.heap.objs.size f cdv))) :
    PSs (cxOf CX0 P w K mg base N_meeting "meeting" (defScope (top 33)) f cdv A outer s H E).nox (defBody (top 33)) (t_meeting K P w) := by
  have nd := sc_meeting.nd
  have hu := hu_of hr
  unfold t_meeting
  exact pss_one (ps_ret (pe_cal C_set_of hr (pa_cons (pe_lc2 (own := [("row", 2), ("number", 3)]) (vs1 := [3]) (g := gName 2) (tt := tYes) (wi1 := iTup K (tVar 2)) (g1 := gName 3) (tt1 := tYes) (te := tVar 3) rfl nd (pi_tup (pe_cal C_shared_table hr (pa_cons (pv 0) (pa_cons (pv 1) (pa_nil))))) (blkOk_by (N := N_meeting) (sc := defScope (top 33)) (by decide +kernel)) (by decide) (fun _ _ _ _ _ => pg_name (i := 2) nd rfl (by first | exact Or.inl rfl | exact Or.inr rfl)) (fun _ _ _ _ _ => pts_nil) (fun _ _ _ _ _ => pi_tup (pv 2)) (fun _ _ _ _ _ => pg_name (i := 3) nd rfl (by first | exact Or.inl rfl | exact Or.inr rfl)) (fun _ _ _ _ _ => pts_nil) (fun _ _ _ _ _ => pv 3)) (pa_nil))))
theorem len_meeting : ∀ as r, R_meeting as r → as.length = p_meeting.length := by rintro _ _ ⟨a, b, c, d, m, rfl, _⟩; rfl
theorem ok_meeting {P : Program} {w : World} {K : PySem.W.Frag} : ∀ as r, R_meeting as r → ∀ (E0 Ni : Hp) (D : Ends), Rt E0 Ni r D.rt → Okk E0 Ni (t_meeting K P w) D (s0 N_meeting as) := by
  rintro _ _ ⟨d, e, ms, ns, m, rfl, hd, he, hm, hn, ha, hi, rfl⟩ E0 Ni D hR
  let rw1 : Nat → Dat := fun m => .tuple (ns.map fun n => nI (popc (n &&& m)))
  have hlen : ∀ ms : List Nat, (ms.flatMap fun a => ns.map fun b => popc (b &&& a)).length = ms.length * ns.length := by
    intro ms
    induction ms with
    | nil => simp
    | cons a l ih => rw [List.flatMap_cons, List.length_append, List.length_map, ih, List.length_cons, Nat.add_mul]; omega
  refine okk_ret (de_call (dea_1 (x := lN (ms.flatMap fun a => ns.map fun b => popc (b &&& a))) ((DeN.de (den_lc2G (js := [2]) (js1 := [3]) (items := ms.map rw1) (dei_tup (de_call (z := tabM ms ns) (dea_2 (de_var (d := d) rfl) (de_var (d := e) rfl)) ⟨d, e, ms, ns, rfl, hd, he, by omega, by omega, rfl⟩)) (by rw [List.length_map]; omega) (by decide) (by decide)
    (fun i => [some d, some e, some (rw1 (ms.getD i 0)), none]) (fun i => ns.map fun n => nI (popc (n &&& ms.getD i 0))) (fun i j => [some d, some e, some (rw1 (ms.getD i 0)), some (nI (popc (ns.getD j 0 &&& ms.getD i 0)))])
    (fun i j => nI (popc (ns.getD j 0 &&& ms.getD i 0))) (fun i => by rw [List.length_map]; omega) (fun i z h => ?_) (fun i z h => ?_) (fun i z j y h h2 => ?_) fun i z j y h h2 => ?_)).to ?_)) (.inl ⟨_, m, rfl, ?_, ha, fun i => ?_, rfl⟩)) hR
  · obtain ⟨x, hx, rfl⟩ := get_map h
    have : ms.getD i 0 = x := by rw [List.getD_eq_getElem?_getD, hx]; rfl
    rw [this]
    exact deg_name
  · exact dei_tup (de_var rfl)
  · obtain ⟨x, hx, rfl⟩ := get_map h2
    have : ns.getD j 0 = x := by rw [List.getD_eq_getElem?_getD, hx]; rfl
    rw [this]
    exact deg_name
  · exact de_var rfl
  · rw [List.length_map]
    unfold lN
    rw [List.map_flatMap]
    congr 1
    rw [← List.map_id (ms.flatMap fun a => (ns.map fun b => popc (b &&& a)).map nI)]
    rw [List.map_id]
    have key : ∀ (l : List Nat) (f : Nat → List Dat), (List.range l.length).flatMap (fun i => f (l.getD i 0)) = l.flatMap f := by
      intro l f
      induction l with
      | nil => rfl
      | cons a l ih =>
        rw [List.length_cons, List.range_succ_eq_map, List.flatMap_cons, List.flatMap_cons, List.flatMap_map]
        congr 1
    rw [← key ms]
    congr 1
    funext i
    rw [List.length_map, List.map_map]
    apply List.ext_getElem
    · rw [List.length_map, List.length_map, List.length_range]
    · intro j h1 h2
      rw [List.getElem_map, List.getElem_map, List.getElem_range]
      rw [List.length_map] at h2
      show nI (popc (ns.getD j 0 &&& ms.getD i 0)) = nI (popc (ns[j] &&& ms.getD i 0))
      rw [List.getD_eq_getElem?_getD (l := ns), List.getElem?_eq_getElem h2]
      rfl
  · rw [hlen]
    exact Nat.le_trans (Nat.mul_le_mul hm hn) (by decide)
  · rw [hi]
    simp only [List.mem_flatMap, List.mem_map]

theorem cal_meeting {P : Program} {w : World} {K : PySem.W.Frag} {mg : Str → Option Value} {base : Heap} {f : Addr} {fd : FuncData} (T : Tx K mg) (C_set_of : Cal P w K mg base 1 "set_of" p_set_of sp_set_of) (C_shared_table : Cal P w K mg base 4 "shared_table" p_shared_table sp_shared_table) (F : FnP K "meeting" (top 33) f fd) (hm : mg "meeting" = some (.ref f)) : Cal P w K mg base 5 "meeting" p_meeting sp_meeting :=
  cal_of F hm (FunD.bindsN F fun _ _ _ _ _ _ us hl => match us, hl with | [_, _], _ => rfl) (fn_data F sc_meeting (len_meeting) fun cdv A outer s H E hr => ⟨_, ps_meeting T C_set_of C_shared_table cdv A outer s H E hr, ok_meeting⟩)

def refM (ms ns : List Nat) : List Nat := ms.flatMap fun a => ns.map fun b => a &&& b
def R_refined (as : List Dat) (r : Dat) : Prop := ∃ (d e : Dat) (ms ns M : List Nat), as = [d, e] ∧ Lots d ms ∧ Lots e ns ∧ ms.length ≤ 6 ∧ ns.length ≤ 6 ∧ (∀ m ∈ ms, m < 2 ^ 24) ∧ M.Nodup ∧ (∀ x, x ∈ M ↔ x ≠ 0 ∧ x ∈ refM ms ns) ∧ r = .tuple (srt (M.map lt))
theorem refM_len (ms ns : List Nat) : (refM ms ns).length = ms.length * ns.length := by
  unfold refM
  induction ms with
  | nil => simp
  | cons a l ih => rw [List.flatMap_cons, List.length_append, List.length_map, ih, List.length_cons, Nat.add_mul]; omega
theorem refM_bd {ms ns : List Nat} (h : ∀ m ∈ ms, m < 2 ^ 24) : ∀ x ∈ refM ms ns, x < 2 ^ 24 := by
  intro x hx
  simp only [refM, List.mem_flatMap, List.mem_map] at hx
  obtain ⟨a, ha, b, _, rfl⟩ := hx
  exact Nat.lt_of_le_of_lt Nat.and_le_left (h a ha)
theorem refM_take {ms ns : List Nat} {i a : Nat} (h : ms[i]? = some a) : refM (ms.take (i + 1)) ns = refM (ms.take i) ns ++ ns.map fun b => a &&& b := by
  unfold refM
  rw [List.take_succ, h, List.flatMap_append]
  simp
theorem eqv_lt0 (x : Nat) (h : x < 2 ^ 24) : (!PyData.eqv (lt x) (.tuple [])) = decide (x ≠ 0) := by
  by_cases h0 : x = 0
  · subst h0; decide +kernel
  · rw [decide_eq_true h0]
    have := bitsL_ne h h0
    unfold lt tN
    cases e : bitsL x with
    | nil => exact absurd e this
    | cons a l => rfl
theorem shaped_lt (x : Nat) : SeqAt.shaped (lt x) = true := by
  unfold lt tN
  have : ∀ l : List Nat, SeqAt.shaped (.tuple (l.map nI)) = true := by
    intro l
    induction l with
    | nil => rfl
    | cons a l ih => exact ih
  exact this _

abbrev sp_refined : Sp := spD R_refined
abbrev N_refined : List Str := ["one", "other", "own", "found", "far", "its", "lamp"]
abbrev p_refined : List Str := ["one", "other"]
theorem sc_refined : FnScope N_refined p_refined (defScope (top 34)) := ⟨rfl, rfl, rfl, by decide +kernel, rfl, by decide +kernel, by decide +kernel⟩
def t_refined (K : PySem.W.Frag) (P : Program) (w : World) : TS := tSeq (tPar 3 4 (tCons (tLst (tNil)) (tCons (tCall sp_tupled [] E0 (tCons (tVar 1) (tNil))) (tNil)))) (tSeq (tFor (iTup K (tCall sp_tupled [] E0 (tCons (tVar 0) (tNil)))) (gName 2) (tDrop (tBM K "list" rExtend (tVar 3) (tCons (tLc (iTup K (tVar 4)) (gName 5) (tYes) (tCB (rTupS K) (tCons (tLc (iTup K (tVar 2)) (gName 6) (tTest (tOp (rIn K false) (tVar 6) (tVar 5))) (tVar 6) [6]) (tNil))) [5]) (tNil))))) (tRet (tCall sp_set_of [] E0 (tCons (tLc (iList K (tVar 3)) (gName 2) (tTest (tOp (rNeD K) (tVar 2) (tTup (tNil)))) (tVar 2) [2]) (tNil)))))
theorem ps_refined {P : Program} {w : World} {K : PySem.W.Frag} {mg : Str → Option Value} {base : Heap} {f : Addr} (T : Tx K mg) (C_tupled : Cal P w K mg base 3 "tupled" p_tupled sp_tupled) (C_set_of : Cal P w K mg base 1 "set_of" p_set_of sp_set_of) (cdv : Value) (A : Around) (outer : List Env) (s : Shared) (H : Hp) (E : XK) (hr : Room 3 (A.deeper (envOfC "refined" (defScope (top 34)) s.heap.objs.size f cdv))) :
    PSs (cxOf CX0 P w K mg base N_refined "refined" (defScope (top 34)) f cdv A outer s H E).nox (defBody (top 34)) (t_refined K P w) := by
  have nd := sc_refined.nd
  have hu := hu_of hr
  unfold t_refined
  exact pss_cons (ps_par (i := 3) (j := 4) rfl nd rfl rfl (by decide) rfl rfl (pa_cons (pe_lst (pa_nil)) (pa_cons (pe_cal C_tupled hr (pa_cons (pv 1) (pa_nil))) (pa_nil))) (by rfl)) (pss_cons (ps_for PassesOwn.never rfl (pi_tup (pe_cal C_tupled hr (pa_cons (pv 0) (pa_nil)))) (pg_name (i := 2) nd rfl (by first | exact Or.inl rfl | exact Or.inr rfl)) (pss_one (ps_expr (pe_bm PySem.F.plainAttrs_list PySem.F.slot_list_extend PySem.F.type_list_extend mt_extend (pv 3) (pa_cons (pe_lc (own := [("its", 5)]) (g := gName 5) (tt := tYes) (te := tCB (rTupS K) (tCons (tLc (iTup K (tVar 2)) (gName 6) (tTest (tOp (rIn K false) (tVar 6) (tVar 5))) (tVar 6) [6]) (tNil))) rfl nd (pi_tup (pv 4)) (blkOk_by (N := N_refined) (sc := defScope (top 34)) (by decide +kernel)) (fun _ _ _ _ _ => pg_name (i := 5) nd rfl (by first | exact Or.inl rfl | exact Or.inr rfl)) (fun _ _ _ _ _ => pts_nil) (fun _ _ _ _ _ => pe_ty T.tuple call_tuple_of (pa_cons (pe_lc (own := [("lamp", 6)]) (g := gName 6) (tt := tTest (tOp (rIn K false) (tVar 6) (tVar 5))) (te := tVar 6) rfl nd (pi_tup (pv 2)) (blkOk_by (N := N_refined) (by first | kernel_rfl | rfl)) (fun _ _ _ _ _ => pg_name (i := 6) nd rfl (by first | exact Or.inl rfl | exact Or.inr rfl)) (fun _ _ _ _ _ => pts_one (pt_cmpR op_in_seq (pv 6) (pv 5) (by rfl))) (fun _ _ _ _ _ => pv 6)) (pa_nil)))) (pa_nil)))))) (pss_one (ps_ret (pe_cal C_set_of hr (pa_cons (pe_lc (own := [("own", 2)]) (g := gName 2) (tt := tTest (tOp (rNeD K) (tVar 2) (tTup (tNil)))) (te := tVar 2) rfl nd (pi_list (pv 3)) (blkOk_by (N := N_refined) (sc := defScope (top 34)) (by decide +kernel)) (fun _ _ _ _ _ => pg_name (i := 2) nd rfl (by first | exact Or.inl rfl | exact Or.inr rfl)) (fun _ _ _ _ _ => pts_one (pt_cmpR (op_neD hr.units) (pv 2) (pe_tup (pa_nil)) (nomark _))) (fun _ _ _ _ _ => pv 2)) (pa_nil))))))
theorem len_refined : ∀ as r, R_refined as r → as.length = p_refined.length := by rintro _ _ ⟨a, b, c, d, m, rfl, _⟩; rfl
theorem ok_refined {P : Program} {w : World} {K : PySem.W.Frag} : ∀ as r, R_refined as r → ∀ (E0 Ni : Hp) (D : Ends), Rt E0 Ni r D.rt → Okk E0 Ni (t_refined K P w) D (s0 N_refined as) := by
  rintro _ _ ⟨d, e, ms, ns, M, rfl, hd, he, hm, hn, hb, hM, hi, rfl⟩ E0 Ni D hR
  have hlen := refM_len ms ns
  have h36 : ms.length * ns.length ≤ 36 := Nat.mul_le_mul hm hn
  refine okk_parN1 (xs := []) (e := .tuple (ns.map lt)) (by decide) (den_lst dea_nil (by decide)) (de_call (dea_1 (de_var (d := e) rfl)) ⟨e, rfl, he.ns, he.tup.symm⟩) ?_
  refine okk_for (j := 2) (dei_tup (xs := ms.map lt) (de_call (dea_1 (de_var (d := d) rfl)) ⟨d, rfl, hd.ns, hd.tup.symm⟩)) (fun i => [.val d, .val e, .no, .own ((refM (ms.take i) ns).map lt), .val (.tuple (ns.map lt)), .no, .no]) rfl (fun Nj i z hz => ?_) ?_
  · obtain ⟨a, ha, rfl⟩ := get_map hz
    have h1 := popc_le a
    unfold popc at h1
    refine okk_extN [2] rfl (DeN.de (den_map ns (r := fun b => lt (a &&& b)) (dei_tup (xs := ns.map lt) (de_var rfl)) (by omega) (by decide) fun b hb => ?_)) ?_ ?_
    · refine (de_tupS (DeN.de (den_filter (bitsL a) (dei_tup (xs := (bitsL a).map nI) (de_var rfl)) (by omega) (by decide) (fun i => decide (i ∈ bitsL b)) nI (fun i hi => deb_test (de_isIn (de_var (d := nI i) rfl) (de_var (d := lt b) rfl) (.inr rfl))) fun i hi _ => de_var rfl)) (.inl rfl)).to ?_
      rw [bitsL_and]; rfl
    · rw [List.length_map, List.length_map, refM_len, List.length_take]
      have := Nat.mul_le_mul (Nat.min_le_right i ms.length) (Nat.le_refl ns.length)
      omega
    · show _ = [Sk.val d, .val e, .no, .own ((refM (ms.take (i + 1)) ns).map lt), .val (.tuple (ns.map lt)), .no, .no]
      rw [refM_take ha, List.map_append, List.map_map]
      rfl
  · rw [List.length_map, List.take_length]
    refine okk_freeze (j := 3) rfl ?_
    refine okk_ret (de_call (dea_1 (x := .list (((refM ms ns).filter fun x => decide (x ≠ 0)).map lt)) (DeN.de (den_filter (refM ms ns) (dei_list (xs := (refM ms ns).map lt) (de_var rfl)) (by omega) (by decide) (fun x => decide (x ≠ 0)) lt (fun x hx => ?_) fun x hx _ => de_var rfl))) (set_lots (L := (refM ms ns).filter fun x => decide (x ≠ 0)) (M := M) ?_ ?_ ?_ hM ?_)) hR
    · exact deb_test ((de_op (de_var (d := lt x) rfl) (de_tup dea_nil (by decide)) (dr_neD (shaped_lt x) rfl)).to (by rw [eqv_lt0 x (refM_bd hb x hx)]))
    · exact Nat.le_trans (List.length_filter_le _ _) (by omega)
    · exact fun m hm => refM_bd hb m (List.mem_filter.mp hm).1
    · exact fun m hm => of_decide_eq_true (List.mem_filter.mp hm).2
    · intro x
      rw [hi, List.mem_filter, decide_eq_true_iff]
      exact And.comm

theorem cal_refined {P : Program} {w : World} {K : PySem.W.Frag} {mg : Str → Option Value} {base : Heap} {f : Addr} {fd : FuncData} (T : Tx K mg) (C_tupled : Cal P w K mg base 3 "tupled" p_tupled sp_tupled) (C_set_of : Cal P w K mg base 1 "set_of" p_set_of sp_set_of) (F : FnP K "refined" (top 34) f fd) (hm : mg "refined" = some (.ref f)) : Cal P w K mg base 4 "refined" p_refined sp_refined :=
  cal_of F hm (FunD.bindsN F fun _ _ _ _ _ _ us hl => match us, hl with | [_, _], _ => rfl) (fn_data F sc_refined (len_refined) fun cdv A outer s H E hr => ⟨_, ps_refined T C_tupled C_set_of cdv A outer s H E hr, ok_refined⟩)

end Ez

set_option Elab.async false
set_option linter.all false
set_option autoImplicit false
set_option maxRecDepth 100000
set_option maxHeartbeats 2000000
namespace Ez
open PySem PySem.Spec L2 Fz PyProof.Rows

/-! the law's own mathematics -/
theorem rngD_nat2 (a n : Nat) : rngD (a : Int) n = (List.range n).map fun i => nI (a + i) := by
  unfold rngD
  apply List.map_congr_left
  intro i _
  show PyData.int ((a : Int) + (i : Int)) = .int ((a + i : Nat) : Int)
  rw [Int.natCast_add]
theorem tN_cat (l m : List Nat) : PyData.tuple (l.map nI ++ m.map nI) = tN (l ++ m) := by unfold tN; rw [List.map_append]

def spF (a b : Nat) : Nat := (if decide (a &&& 1 ≠ 0) then b else 0) ^^^ (if decide (a &&& 2 ≠ 0) then 2 * b else 0)
def spN (a b : Nat) : Nat := if decide (3 < spF a b) then spF a b ^^^ 7 else spF a b
def R__law_signs_product (as : List Dat) (r : Dat) : Prop := ∃ a b : Nat, as = [nI a, nI b] ∧ b < 4 ∧ r = nI (spN a b)

abbrev sp__law_signs_product : Sp := spD R__law_signs_product
abbrev N__law_signs_product : List Str := ["_law_one_so", "_law_two_so", "_law_found"]
abbrev p__law_signs_product : List Str := ["_law_one_so", "_law_two_so"]
theorem sc__law_signs_product : FnScope N__law_signs_product p__law_signs_product (defScope (top 43)) := ⟨rfl, rfl, rfl, by decide +kernel, rfl, by decide +kernel, by decide +kernel⟩
def t__law_signs_product (K : PySem.W.Frag) (P : Program) (w : World) : TS := tSeq (tAsg (tOp rXor (tIf (tTru K (tOp rAnd (tVar 0) (tC (.int 1)))) (tVar 1) (tC (.int 0))) (tIf (tTru K (tOp rAnd (tVar 0) (tC (.int 2)))) (tOp rMul (tC (.int 2)) (tVar 1)) (tC (.int 0)))) (gName 2)) (tRet (tIf (tTest (tOp rGt (tVar 2) (tC (.int 3)))) (tOp rXor (tVar 2) (tC (.int 7))) (tVar 2)))
theorem ps__law_signs_product {P : Program} {w : World} {K : PySem.W.Frag} {mg : Str → Option Value} {base : Heap} {f : Addr} (T : Tx K mg) (cdv : Value) (A : Around) (outer : List Env) (s : Shared) (H : Hp) (E : XK) (hr : Room 0 (A.deeper (envOfC "_law_signs_product" (defScope (top 43)) s.heap.objs.size f cdv))) :
    PSs (cxOf CX0 P w K mg base N__law_signs_product "_law_signs_product" (defScope (top 43)) f cdv A outer s H E).nox (defBody (top 43)) (t__law_signs_product K P w) := by
  have nd := sc__law_signs_product.nd
  have hu := hu_of hr
  unfold t__law_signs_product
  exact pss_cons (ps_set (i := 2) nd rfl (by first | exact Or.inl rfl | exact Or.inr rfl) (pe_op op_xor (pe_ifExp (pt_truth (pe_op op_and (pv 0) (pe_int)) (by intro _; rfl)) (pv 1) (pe_int)) (pe_ifExp (pt_truth (pe_op op_and (pv 0) (pe_int)) (by intro _; rfl)) (pe_op op_mulW (pe_int) (pv 1)) (pe_int)))) (pss_one (ps_ret (pe_ifExp (pt_cmpR op_gt (pv 2) (pe_int) (nomark _)) (pe_op op_xor (pv 2) (pe_int)) (pv 2))))
theorem len__law_signs_product : ∀ as r, R__law_signs_product as r → as.length = p__law_signs_product.length := by rintro _ _ ⟨l, a, rfl, _⟩; rfl
theorem de_ifN {c : Bool} {ds : Sd} {t : TT} {ta tb : TE} {a b : Nat} (h : DeB t ds c) (h1 : De ta ds (nI a)) (h2 : De tb ds (nI b)) : De (tIf t ta tb) ds (nI (if c then a else b)) :=
  de_if h (fun e => by rw [e]; exact h1) (fun e => by rw [e]; exact h2)
theorem ok__law_signs_product {P : Program} {w : World} {K : PySem.W.Frag} : ∀ as r, R__law_signs_product as r → ∀ (E0 Ni : Hp) (D : Ends), Rt E0 Ni r D.rt → Okk E0 Ni (t__law_signs_product K P w) D (s0 N__law_signs_product as) := by
  rintro _ _ ⟨a, b, rfl, hb, rfl⟩ E0 Ni D hR
  refine okk_set (d := nI (spF a b)) (de_xor (de_ifN (deb_truN (de_and (a := a) (b := 1) (de_var rfl) (de_n 1))) (de_var (d := nI b) rfl) (de_n 0)) (de_ifN (deb_truN (de_and (a := a) (b := 2) (de_var rfl) (de_n 2))) (de_mul (a := 2) (b := b) (de_n 2) (de_var rfl) (by decide) (by omega)) (de_n 0))) ?_
  exact okk_ret (de_ifN (deb_test (de_gt (b := 3) (de_var (d := nI (spF a b)) rfl) (de_n 3))) (de_xor (de_var (d := nI (spF a b)) rfl) (de_n 7)) (de_var rfl)) hR

theorem cal__law_signs_product {P : Program} {w : World} {K : PySem.W.Frag} {mg : Str → Option Value} {base : Heap} {f : Addr} {fd : FuncData} (T : Tx K mg) (F : FnP K "_law_signs_product" (top 43) f fd) (hm : mg "_law_signs_product" = some (.ref f)) : Cal P w K mg base 1 "_law_signs_product" p__law_signs_product sp__law_signs_product :=
  cal_of F hm (FunD.bindsN F fun _ _ _ _ _ _ us hl => match us, hl with | [_, _], _ => rfl) (fn_data F sc__law_signs_product (len__law_signs_product) fun cdv A outer s H E hr => ⟨_, ps__law_signs_product T cdv A outer s H E hr, ok__law_signs_product⟩)

def wbN (a b c : Nat) : List Nat := [a, b, c, a ^^^ b ^^^ c, spN 3 a ^^^ spN 2 b ^^^ c, spN 2 a ^^^ spN 3 b ^^^ c]
def R__law_word_by (as : List Dat) (r : Dat) : Prop := ∃ a b c : Nat, as = [nI a, nI b, nI c] ∧ a < 4 ∧ b < 4 ∧ r = tN (wbN a b c)

abbrev sp__law_word_by : Sp := spD R__law_word_by
abbrev N__law_word_by : List Str := ["_law_one_so", "_law_two_so", "_law_three_so", "_law_fourth_so", "_law_fifth_so", "_law_sixth_so"]
abbrev p__law_word_by : List Str := ["_law_one_so", "_law_two_so", "_law_three_so"]
theorem sc__law_word_by : FnScope N__law_word_by p__law_word_by (defScope (top 44)) := ⟨rfl, rfl, rfl, by decide +kernel, rfl, by decide +kernel, by decide +kernel⟩
def t__law_word_by (K : PySem.W.Frag) (P : Program) (w : World) : TS := tSeq (tAsg (tOp rXor (tOp rXor (tVar 0) (tVar 1)) (tVar 2)) (gName 3)) (tSeq (tAsg (tOp rXor (tOp rXor (tCall sp__law_signs_product [] E0 (tCons (tC (.int 3)) (tCons (tVar 0) (tNil)))) (tCall sp__law_signs_product [] E0 (tCons (tC (.int 2)) (tCons (tVar 1) (tNil))))) (tVar 2)) (gName 4)) (tSeq (tAsg (tOp rXor (tOp rXor (tCall sp__law_signs_product [] E0 (tCons (tC (.int 2)) (tCons (tVar 0) (tNil)))) (tCall sp__law_signs_product [] E0 (tCons (tC (.int 3)) (tCons (tVar 1) (tNil))))) (tVar 2)) (gName 5)) (tRet (tTup (tCons (tVar 0) (tCons (tVar 1) (tCons (tVar 2) (tCons (tVar 3) (tCons (tVar 4) (tCons (tVar 5) (tNil)))))))))))
theorem ps__law_word_by {P : Program} {w : World} {K : PySem.W.Frag} {mg : Str → Option Value} {base : Heap} {f : Addr} (T : Tx K mg) (C__law_signs_product : Cal P w K mg base 1 "_law_signs_product" p__law_signs_product sp__law_signs_product) (cdv : Value) (A : Around) (outer : List Env) (s : Shared) (H : Hp) (E : XK) (hr : Room 1 (A.deeper (envOfC "_law_word_by" (defScope (top 44)) s.heap.objs.size f cdv))) :
    PSs (cxOf CX0 P w K mg base N__law_word_by "_law_word_by" (defScope (top 44)) f cdv A outer s H E).nox (defBody (top 44)) (t__law_word_by K P w) := by
  have nd := sc__law_word_by.nd
  have hu := hu_of hr
  unfold t__law_word_by
  exact pss_cons (ps_set (i := 3) nd rfl (by first | exact Or.inl rfl | exact Or.inr rfl) (pe_op op_xor (pe_op op_xor (pv 0) (pv 1)) (pv 2))) (pss_cons (ps_set (i := 4) nd rfl (by first | exact Or.inl rfl | exact Or.inr rfl) (pe_op op_xor (pe_op op_xor (pe_cal C__law_signs_product hr (pa_cons (pe_int) (pa_cons (pv 0) (pa_nil)))) (pe_cal C__law_signs_product hr (pa_cons (pe_int) (pa_cons (pv 1) (pa_nil))))) (pv 2))) (pss_cons (ps_set (i := 5) nd rfl (by first | exact Or.inl rfl | exact Or.inr rfl) (pe_op op_xor (pe_op op_xor (pe_cal C__law_signs_product hr (pa_cons (pe_int) (pa_cons (pv 0) (pa_nil)))) (pe_cal C__law_signs_product hr (pa_cons (pe_int) (pa_cons (pv 1) (pa_nil))))) (pv 2))) (pss_one (ps_ret (pe_tup (pa_cons (pv 0) (pa_cons (pv 1) (pa_cons (pv 2) (pa_cons (pv 3) (pa_cons (pv 4) (pa_cons (pv 5) (pa_nil))))))))))))
theorem len__law_word_by : ∀ as r, R__law_word_by as r → as.length = p__law_word_by.length := by rintro _ _ ⟨l, a, b, rfl, _⟩; rfl
theorem ok__law_word_by {P : Program} {w : World} {K : PySem.W.Frag} : ∀ as r, R__law_word_by as r → ∀ (E0 Ni : Hp) (D : Ends), Rt E0 Ni r D.rt → Okk E0 Ni (t__law_word_by K P w) D (s0 N__law_word_by as) := by
  rintro _ _ ⟨a, b, c, rfl, ha, hb, rfl⟩ E0 Ni D hR
  have pr : ∀ (ds : Sd) (ta tb : TE) (x y : Nat), De ta ds (nI x) → De tb ds (nI y) → y < 4 → De (tCall sp__law_signs_product [] L2.E0 (tCons ta (tCons tb tNil))) ds (nI (spN x y)) :=
    fun ds ta tb x y h1 h2 hy => de_call (dea_2 h1 h2) ⟨x, y, rfl, hy, rfl⟩
  refine okk_set (de_xor (de_xor (a := a) (b := b) (de_var rfl) (de_var rfl)) (de_var (d := nI c) rfl)) ?_
  refine okk_set (de_xor (de_xor (pr _ _ _ 3 a (de_n 3) (de_var rfl) ha) (pr _ _ _ 2 b (de_n 2) (de_var rfl) hb)) (de_var (d := nI c) rfl)) ?_
  refine okk_set (de_xor (de_xor (pr _ _ _ 2 a (de_n 2) (de_var rfl) ha) (pr _ _ _ 3 b (de_n 3) (de_var rfl) hb)) (de_var (d := nI c) rfl)) ?_
  exact okk_ret (de_tup (dea_cons (de_var rfl) (dea_cons (de_var rfl) (dea_cons (de_var rfl) (dea_cons (de_var rfl) (dea_cons (de_var rfl) (dea_cons (de_var rfl) dea_nil)))))) (Nat.le_of_ble_eq_true rfl)) hR

theorem cal__law_word_by {P : Program} {w : World} {K : PySem.W.Frag} {mg : Str → Option Value} {base : Heap} {f : Addr} {fd : FuncData} (T : Tx K mg) (C__law_signs_product : Cal P w K mg base 1 "_law_signs_product" p__law_signs_product sp__law_signs_product) (F : FnP K "_law_word_by" (top 44) f fd) (hm : mg "_law_word_by" = some (.ref f)) : Cal P w K mg base 2 "_law_word_by" p__law_word_by sp__law_word_by :=
  cal_of F hm (FunD.bindsN F fun _ _ _ _ _ _ us hl => match us, hl with | [_, _, _], _ => rfl) (fn_data F sc__law_word_by (len__law_word_by) fun cdv A outer s H E hr => ⟨_, ps__law_word_by T C__law_signs_product cdv A outer s H E hr, ok__law_word_by⟩)

def sgS (c f i : Nat) : Nat := f ^^^ (i % 4 * if decide (i / 4 = c) then 1 else 0)
def sgL (c : Nat) (l : List Nat) : Nat := l.foldl (sgS c) 0
def signM (m c : Nat) : Nat := sgL c (bitsL m)
theorem sgL_take (c : Nat) (l : List Nat) {i a : Nat} (h : l[i]? = some a) : sgL c (l.take (i + 1)) = sgS c (sgL c (l.take i)) a := by
  unfold sgL
  rw [List.take_succ, h, List.foldl_append]; rfl
def R__law_sign (as : List Dat) (r : Dat) : Prop := ∃ m c : Nat, as = [lt m, nI c] ∧ r = nI (signM m c)

abbrev sp__law_sign : Sp := spD R__law_sign
abbrev N__law_sign : List Str := ["_law_lot_so", "_law_column_so", "_law_found", "_law_lamp_so"]
abbrev p__law_sign : List Str := ["_law_lot_so", "_law_column_so"]
theorem sc__law_sign : FnScope N__law_sign p__law_sign (defScope (top 45)) := ⟨rfl, rfl, rfl, by decide +kernel, rfl, by decide +kernel, by decide +kernel⟩
def t__law_sign (K : PySem.W.Frag) (P : Program) (w : World) : TS := tSeq (tAsg (tC (.int 0)) (gName 2)) (tSeq (tFor (iTup K (tVar 0)) (gName 3) (tAsg (tOp rXor (tVar 2) (tOp rMul (tOp rMod (tCB rInt (tCons (tVar 3) (tNil))) (tC (.int 4))) (tCB rInt (tCons (tOp (rEqD K) (tOp rFdv (tVar 3) (tC (.int 4))) (tVar 1)) (tNil))))) (gName 2))) (tRet (tVar 2)))
theorem ps__law_sign {P : Program} {w : World} {K : PySem.W.Frag} {mg : Str → Option Value} {base : Heap} {f : Addr} (T : Tx K mg) (cdv : Value) (A : Around) (outer : List Env) (s : Shared) (H : Hp) (E : XK) (hr : Room 0 (A.deeper (envOfC "_law_sign" (defScope (top 45)) s.heap.objs.size f cdv))) :
    PSs (cxOf CX0 P w K mg base N__law_sign "_law_sign" (defScope (top 45)) f cdv A outer s H E).nox (defBody (top 45)) (t__law_sign K P w) := by
  have nd := sc__law_sign.nd
  have hu := hu_of hr
  unfold t__law_sign
  exact pss_cons (ps_set (i := 2) nd rfl (by first | exact Or.inl rfl | exact Or.inr rfl) (pe_int)) (pss_cons (ps_for PassesOwn.never rfl (pi_tup (pv 0)) (pg_name (i := 3) nd rfl (by first | exact Or.inl rfl | exact Or.inr rfl)) (pss_one (ps_set (i := 2) nd rfl (by first | exact Or.inl rfl | exact Or.inr rfl) (pe_op op_xor (pv 2) (pe_op op_mulW (pe_op op_modN (pe_ty T.int call_int1 (pa_cons (pv 3) (pa_nil))) (pe_int)) (pe_ty T.int call_int1 (pa_cons (pe_cmpR (op_eqD hr.units) (pe_op op_fdivN (pv 3) (pe_int)) (pv 1) (nomark _)) (pa_nil)))))))) (pss_one (ps_ret (pv 2))))
theorem len__law_sign : ∀ as r, R__law_sign as r → as.length = p__law_sign.length := by rintro _ _ ⟨l, a, rfl, _⟩; rfl
theorem ok__law_sign {P : Program} {w : World} {K : PySem.W.Frag} : ∀ as r, R__law_sign as r → ∀ (E0 Ni : Hp) (D : Ends), Rt E0 Ni r D.rt → Okk E0 Ni (t__law_sign K P w) D (s0 N__law_sign as) := by
  rintro _ _ ⟨m, c, rfl, rfl⟩ E0 Ni D hR
  refine okk_set (d := nI 0) de_int ?_
  refine okk_for (j := 3) (dei_tup (xs := (bitsL m).map nI) (de_var rfl)) (fun i => [.val (lt m), .val (nI c), .val (nI (sgL c ((bitsL m).take i))), .no]) rfl (fun Nj i d hd => ?_) ?_
  · obtain ⟨a, ha, rfl⟩ := get_nI hd
    refine okk_setN [3] (de_xor (de_var rfl) (de_mul (de_mod (b := 4) (de_intN (a := a) (de_var rfl)) (de_n 4) (by decide)) (de_intBN (de_eqI (de_div (a := a) (b := 4) (de_var rfl) (de_n 4) (by decide) (by decide)) (de_var (d := nI c) rfl))) (by omega) (by split <;> decide))) ?_
    rw [sgL_take c _ ha]
    rfl
  · rw [List.length_map, List.take_length]
    exact okk_ret (de_var rfl) hR

theorem cal__law_sign {P : Program} {w : World} {K : PySem.W.Frag} {mg : Str → Option Value} {base : Heap} {f : Addr} {fd : FuncData} (T : Tx K mg) (F : FnP K "_law_sign" (top 45) f fd) (hm : mg "_law_sign" = some (.ref f)) : Cal P w K mg base 1 "_law_sign" p__law_sign sp__law_sign :=
  cal_of F hm (FunD.bindsN F fun _ _ _ _ _ _ us hl => match us, hl with | [_, _], _ => rfl) (fn_data F sc__law_sign (len__law_sign) fun cdv A outer s H E hr => ⟨_, ps__law_sign T cdv A outer s H E hr, ok__law_sign⟩)

def topsM (m : Nat) : Nat := ((bitsL m).filter fun i => decide (i % 4 = 0)).length
def colM (m c : Nat) : Nat := ((bitsL m).filter fun i => decide (i / 4 = c)).length
def rightOK (m : Nat) : Bool := (List.range 6).all (fun c => decide ((colM m c + topsM m) % 2 = 0) && decide (signM m c < 4)) && decide ((List.range 6).map (signM m) = wbN (signM m 0) (signM m 1) (signM m 2))
def R__law_is_right (as : List Dat) (r : Dat) : Prop := ∃ m : Nat, as = [lt m] ∧ rightOK m = true ∧ r = .bool true

abbrev sp__law_is_right : Sp := spD R__law_is_right
abbrev N__law_is_right : List Str := ["_law_lot_so", "_law_tops_so", "_law_column_so", "_law_signs_so", "_law_own"]
abbrev p__law_is_right : List Str := ["_law_lot_so"]
theorem sc__law_is_right : FnScope N__law_is_right p__law_is_right (defScope (top 46)) := ⟨rfl, rfl, rfl, by decide +kernel, rfl, by decide +kernel, by decide +kernel⟩
def t__law_is_right (K : PySem.W.Frag) (P : Program) (w : World) : TS := tSeq (tAsg (tCB (rLenS K) (tCons (tLc (iTup K (tVar 0)) (gName 4) (tTest (tOp (rEqD K) (tOp rMod (tCB rInt (tCons (tVar 4) (tNil))) (tC (.int 4))) (tC (.int 0)))) (tVar 4) [4]) (tNil))) (gName 1)) (tSeq (tFor (iRng1 (tCons (tC (.int 6)) (tNil))) (gName 2) (tIfS (tTest (tOp (rNeD K) (tOp rMod (tCB rInt (tCons (tOp rAdd (tCB (rLenS K) (tCons (tLc (iTup K (tVar 0)) (gName 4) (tTest (tOp (rEqD K) (tOp rFdv (tVar 4) (tC (.int 4))) (tVar 2))) (tVar 4) [4]) (tNil))) (tVar 1)) (tNil))) (tC (.int 2))) (tC (.int 0)))) (tRet (tC (.bl false))) (tNext))) (tSeq (tAsg (tCB (rTupS K) (tCons (tLc (iRng1 (tCons (tC (.int 6)) (tNil))) (gName 2) (tYes) (tCall sp__law_sign [] E0 (tCons (tVar 0) (tCons (tVar 2) (tNil)))) [2]) (tNil))) (gName 3)) (tRet (tOp (rEqD K) (tVar 3) (tCall sp__law_word_by [] E0 (tCons (tOp (rIx K) (tVar 3) (tC (.int 0))) (tCons (tOp (rIx K) (tVar 3) (tC (.int 1))) (tCons (tOp (rIx K) (tVar 3) (tC (.int 2))) (tNil)))))))))
theorem ps__law_is_right {P : Program} {w : World} {K : PySem.W.Frag} {mg : Str → Option Value} {base : Heap} {f : Addr} (T : Tx K mg) (C__law_sign : Cal P w K mg base 1 "_law_sign" p__law_sign sp__law_sign) (C__law_word_by : Cal P w K mg base 2 "_law_word_by" p__law_word_by sp__law_word_by) (cdv : Value) (A : Around) (outer : List Env) (s : Shared) (H : Hp) (E : XK) (hr : Room 2 (A.deeper (envOfC "_law_is_right" (defScope (top 46)) s.heap.objs.size f cdv))) :
    PSs (cxOf CX0 P w K mg base N__law_is_right "_law_is_right" (defScope (top 46)) f cdv A outer s H E).nox (defBody (top 46)) (t__law_is_right K P w) := by
  have nd := sc__law_is_right.nd
  have hu := hu_of hr
  unfold t__law_is_right
  exact pss_cons (ps_set (i := 1) nd rfl (by first | exact Or.inl rfl | exact Or.inr rfl) (pe_bi T.len call_len_seq (pa_cons (pe_lc (own := [("_law_own", 4)]) (g := gName 4) (tt := tTest (tOp (rEqD K) (tOp rMod (tCB rInt (tCons (tVar 4) (tNil))) (tC (.int 4))) (tC (.int 0)))) (te := tVar 4) rfl nd (pi_tup (pv 0)) (blkOk_by (N := N__law_is_right) (sc := defScope (top 46)) (by decide +kernel)) (fun _ _ _ _ _ => pg_name (i := 4) nd rfl (by first | exact Or.inl rfl | exact Or.inr rfl)) (fun _ _ _ _ _ => pts_one (pt_cmpR (op_eqD hr.units) (pe_op op_modN (pe_ty T.int call_int1 (pa_cons (pv 4) (pa_nil))) (pe_int)) (pe_int) (nomark _))) (fun _ _ _ _ _ => pv 4)) (pa_nil)))) (pss_cons (ps_for PassesOwn.never rfl (pi_range1 rfl T.range (pa_cons (pe_int) (pa_nil))) (pg_name (i := 2) nd rfl (by first | exact Or.inl rfl | exact Or.inr rfl)) (pss_one (ps_if (pt_cmpR (op_neD hr.units) (pe_op op_modN (pe_ty T.int call_int1 (pa_cons (pe_op op_add (pe_bi T.len call_len_seq (pa_cons (pe_lc (own := [("_law_own", 4)]) (g := gName 4) (tt := tTest (tOp (rEqD K) (tOp rFdv (tVar 4) (tC (.int 4))) (tVar 2))) (te := tVar 4) rfl nd (pi_tup (pv 0)) (blkOk_by (N := N__law_is_right) (sc := defScope (top 46)) (by decide +kernel)) (fun _ _ _ _ _ => pg_name (i := 4) nd rfl (by first | exact Or.inl rfl | exact Or.inr rfl)) (fun _ _ _ _ _ => pts_one (pt_cmpR (op_eqD hr.units) (pe_op op_fdivN (pv 4) (pe_int)) (pv 2) (nomark _))) (fun _ _ _ _ _ => pv 4)) (pa_nil))) (pv 1)) (pa_nil))) (pe_int)) (pe_int) (nomark _)) (pss_one (ps_ret (pe_bl))) (pss_nil)))) (pss_cons (ps_set (i := 3) nd rfl (by first | exact Or.inl rfl | exact Or.inr rfl) (pe_ty T.tuple call_tuple_of (pa_cons (pe_lc (own := [("_law_column_so", 2)]) (g := gName 2) (tt := tYes) (te := tCall sp__law_sign [] E0 (tCons (tVar 0) (tCons (tVar 2) (tNil)))) rfl nd (pi_range1 rfl T.range (pa_cons (pe_int) (pa_nil))) (blkOk_by (N := N__law_is_right) (sc := defScope (top 46)) (by decide +kernel)) (fun _ _ _ _ _ => pg_name (i := 2) nd rfl (by first | exact Or.inl rfl | exact Or.inr rfl)) (fun _ _ _ _ _ => pts_nil) (fun _ _ _ _ _ => pe_cal C__law_sign hr (pa_cons (pv 0) (pa_cons (pv 2) (pa_nil))))) (pa_nil)))) (pss_one (ps_ret (pe_cmpR (op_eqD hr.units) (pv 3) (pe_cal C__law_word_by hr (pa_cons (pe_ix ix_seq (pv 3) (pe_int) (fun _ _ => rfl)) (pa_cons (pe_ix ix_seq (pv 3) (pe_int) (fun _ _ => rfl)) (pa_cons (pe_ix ix_seq (pv 3) (pe_int) (fun _ _ => rfl)) (pa_nil))))) (nomark _))))))
theorem len__law_is_right : ∀ as r, R__law_is_right as r → as.length = p__law_is_right.length := by rintro _ _ ⟨l, rfl, _⟩; rfl
theorem eqv_nIs : ∀ l : List Nat, PyData.eqvAll (l.map nI) (l.map nI) = true
  | [] => rfl
  | a :: l => by
    show (PyData.eqv (nI a) (nI a) && PyData.eqvAll (l.map nI) (l.map nI)) = true
    rw [eqv_nI, eqv_nIs l]; simp
theorem shaped_nIs (l : List Nat) : SeqAt.shaped (tN l) = true := by
  induction l with
  | nil => rfl
  | cons a l ih => exact ih
theorem ok__law_is_right {P : Program} {w : World} {K : PySem.W.Frag} : ∀ as r, R__law_is_right as r → ∀ (E0 Ni : Hp) (D : Ends), Rt E0 Ni r D.rt → Okk E0 Ni (t__law_is_right K P w) D (s0 N__law_is_right as) := by
  rintro _ _ ⟨m, rfl, hm, rfl⟩ E0 Ni D hR
  have h24 := popc_le m
  unfold popc at h24
  unfold rightOK at hm
  rw [Bool.and_eq_true, List.all_eq_true] at hm
  obtain ⟨h1, h2⟩ := hm
  have h2 := of_decide_eq_true h2
  have h1 : ∀ c, c < 6 → (colM m c + topsM m) % 2 = 0 ∧ signM m c < 4 := fun c hc => by
    have := h1 c (List.mem_range.mpr hc)
    rw [Bool.and_eq_true] at this
    exact ⟨of_decide_eq_true this.1, of_decide_eq_true this.2⟩
  refine okk_set (d := nI (topsM m)) ((de_len (DeN.de (den_filter (bitsL m) (dei_tup (xs := (bitsL m).map nI) (de_var rfl)) (by omega) (by decide) (fun i => decide (i % 4 = 0)) nI (fun i hi => deb_test (de_eqI (de_mod (b := 4) (de_intN (a := i) (de_var rfl)) (de_n 4) (by decide)) (de_n 0))) fun i hi _ => de_var rfl)) (.inl rfl)).to (by rw [List.length_map]; rfl)) ?_
  refine okk_for (j := 2) (dei_rngN (n := 6) (de_n 6) (by decide)) (fun i => [.val (lt m), .val (nI (topsM m)), .no, .no, .no]) rfl (fun Nj c d hd => ?_) ?_
  · obtain ⟨hc, rfl⟩ := get_rng hd
    refine okk_ifE (b := false) ((deb_test (de_neI (b := 0) (de_mod (b := 2) (de_intN (de_add (b := topsM m) ((de_len (DeN.de (den_filter (bitsL m) (dei_tup (xs := (bitsL m).map nI) (de_var rfl)) (by omega) (by decide) (fun i => decide (i / 4 = c)) nI (fun i hi => deb_test (de_eqI (de_div (a := i) (b := 4) (de_var rfl) (de_n 4) (by decide) (by decide)) (de_var (d := nI c) rfl))) fun i hi _ => de_var rfl)) (.inl rfl)).to (by rw [List.length_map])) (de_var rfl))) (de_n 2) (by decide)) (de_n 0))).to ?_) (fun z => by cases z) fun _ => okk_nextN [2] rfl
    have := (h1 c hc).1
    unfold colM at this
    rw [this]; rfl
  · have sg : De (tCB (rTupS K) (tCons (tLc (iRng1 (tCons (tC (.int 6)) tNil)) (gName 2) tYes (tCall sp__law_sign [] L2.E0 (tCons (tVar 0) (tCons (tVar 2) tNil))) [2]) tNil)) (sv [.val (lt m), .val (nI (topsM m)), .no, .no, .no]) (tN ((List.range 6).map (signM m))) :=
      (de_tupS (DeN.de (den_map (List.range 6) (r := fun c => nI (signM m c)) (dei_rngN (n := 6) (de_n 6) (by decide)) (by decide) (by decide) fun c hc => de_call (dea_2 (de_var (d := lt m) rfl) (de_var (d := nI c) rfl)) ⟨m, c, rfl, rfl⟩)) (.inl rfl)).to (by unfold tN; rw [List.map_map]; rfl)
    refine okk_set sg ?_
    refine okk_ret ((de_op (x := tN ((List.range 6).map (signM m))) (de_var rfl) (de_call (dea_3 (de_ix (j := 0) (z := nI (signM m 0)) (de_var rfl) (de_n 0) (.inr rfl) rfl) (de_ix (j := 1) (z := nI (signM m 1)) (de_var rfl) (de_n 1) (.inr rfl) rfl) (de_ix (j := 2) (z := nI (signM m 2)) (de_var rfl) (de_n 2) (.inr rfl) rfl)) ⟨_, _, _, rfl, (h1 0 (by decide)).2, (h1 1 (by decide)).2, rfl⟩) (dr_eqD (shaped_nIs _) (shaped_nIs _))).to ?_) hR
    rw [← h2]
    show PyData.bool (PyData.eqvAll _ _) = _
    rw [eqv_nIs]

theorem cal__law_is_right {P : Program} {w : World} {K : PySem.W.Frag} {mg : Str → Option Value} {base : Heap} {f : Addr} {fd : FuncData} (T : Tx K mg) (C__law_sign : Cal P w K mg base 1 "_law_sign" p__law_sign sp__law_sign) (C__law_word_by : Cal P w K mg base 2 "_law_word_by" p__law_word_by sp__law_word_by) (F : FnP K "_law_is_right" (top 46) f fd) (hm : mg "_law_is_right" = some (.ref f)) : Cal P w K mg base 3 "_law_is_right" p__law_is_right sp__law_is_right :=
  cal_of F hm (FunD.bindsN F fun _ _ _ _ _ _ us hl => match us, hl with | [_], _ => rfl) (fn_data F sc__law_is_right (len__law_is_right) fun cdv A outer s H E hr => ⟨_, ps__law_is_right T C__law_sign C__law_word_by cdv A outer s H E hr, ok__law_is_right⟩)

theorem bitsum (m : Nat) : ∀ n, (((List.range n).filter m.testBit).map fun i => 1 * 2 ^ i).sum = m % 2 ^ n
  | 0 => by simp [Nat.mod_one]
  | n + 1 => by
    rw [List.range_succ, List.filter_append, List.map_append, List.sum_append, bitsum m n, List.filter_cons]
    have e := Nat.testBit_eq_decide_div_mod_eq (x := m) (i := n)
    rw [Nat.pow_succ, Nat.mod_mul]
    have h2 : m / 2 ^ n % 2 < 2 := Nat.mod_lt _ (by decide)
    cases h : m.testBit n with
    | true =>
      rw [h] at e
      have e := of_decide_eq_true e.symm
      rw [if_pos rfl, List.filter_nil, List.map_cons, List.map_nil, List.sum_cons, List.sum_nil, e]
      omega
    | false =>
      rw [h] at e
      have e := of_decide_eq_false e.symm
      rw [if_neg (by decide), List.filter_nil, List.map_nil, List.sum_nil, show m / 2 ^ n % 2 = 0 by omega]
      omega
def R__law_bits (as : List Dat) (r : Dat) : Prop := ∃ m : Nat, as = [lt m] ∧ m < 2 ^ 24 ∧ r = nI m

abbrev sp__law_bits : Sp := spD R__law_bits
abbrev N__law_bits : List Str := ["_law_lot_so", "_law_own"]
abbrev p__law_bits : List Str := ["_law_lot_so"]
theorem sc__law_bits : FnScope N__law_bits p__law_bits (defScope (top 47)) := ⟨rfl, rfl, rfl, by decide +kernel, rfl, by decide +kernel, by decide +kernel⟩
def t__law_bits (K : PySem.W.Frag) (P : Program) (w : World) : TS := tRet (tCB (rSum K) (tCons (tLc (iTup K (tVar 0)) (gName 1) (tYes) (tOp rShl (tC (.int 1)) (tVar 1)) [1]) (tNil)))
theorem ps__law_bits {P : Program} {w : World} {K : PySem.W.Frag} {mg : Str → Option Value} {base : Heap} {f : Addr} (T : Tx K mg) (cdv : Value) (A : Around) (outer : List Env) (s : Shared) (H : Hp) (E : XK) (hr : Room 0 (A.deeper (envOfC "_law_bits" (defScope (top 47)) s.heap.objs.size f cdv))) :
    PSs (cxOf CX0 P w K mg base N__law_bits "_law_bits" (defScope (top 47)) f cdv A outer s H E).nox (defBody (top 47)) (t__law_bits K P w) := by
  have nd := sc__law_bits.nd
  have hu := hu_of hr
  unfold t__law_bits
  exact pss_one (ps_ret (pe_bi T.sum (cr_sum rfl) (pa_cons (pe_lc (own := [("_law_own", 1)]) (g := gName 1) (tt := tYes) (te := tOp rShl (tC (.int 1)) (tVar 1)) rfl nd (pi_tup (pv 0)) (blkOk_by (N := N__law_bits) (sc := defScope (top 47)) (by decide +kernel)) (fun _ _ _ _ _ => pg_name (i := 1) nd rfl (by first | exact Or.inl rfl | exact Or.inr rfl)) (fun _ _ _ _ _ => pts_nil) (fun _ _ _ _ _ => pe_op op_shl (pe_int) (pv 1))) (pa_nil))))
theorem len__law_bits : ∀ as r, R__law_bits as r → as.length = p__law_bits.length := by rintro _ _ ⟨l, rfl, _⟩; rfl
theorem ok__law_bits {P : Program} {w : World} {K : PySem.W.Frag} : ∀ as r, R__law_bits as r → ∀ (E0 Ni : Hp) (D : Ends), Rt E0 Ni r D.rt → Okk E0 Ni (t__law_bits K P w) D (s0 N__law_bits as) := by
  rintro _ _ ⟨m, rfl, hm, rfl⟩ E0 Ni D hR
  have h24 := popc_le m
  unfold popc at h24
  refine okk_ret ((de_sumN (l := (bitsL m).map fun i => 1 * 2 ^ i) ((DeN.de (den_map (bitsL m) (r := fun i => nI (1 * 2 ^ i)) (dei_tup (xs := (bitsL m).map nI) (de_var rfl)) (by omega) (by decide) fun i hi => de_shl (a := 1) (b := i) (de_n 1) (de_var rfl) (by decide) (by have := (mem_bitsL.mp hi).1; omega))).to (by unfold lN; rw [List.map_map]; rfl))).to ?_) hR
  unfold bitsL
  rw [bitsum, Nat.mod_eq_of_lt hm]

theorem cal__law_bits {P : Program} {w : World} {K : PySem.W.Frag} {mg : Str → Option Value} {base : Heap} {f : Addr} {fd : FuncData} (T : Tx K mg) (F : FnP K "_law_bits" (top 47) f fd) (hm : mg "_law_bits" = some (.ref f)) : Cal P w K mg base 1 "_law_bits" p__law_bits sp__law_bits :=
  cal_of F hm (FunD.bindsN F fun _ _ _ _ _ _ us hl => match us, hl with | [_], _ => rfl) (fn_data F sc__law_bits (len__law_bits) fun cdv A outer s H E hr => ⟨_, ps__law_bits T cdv A outer s H E hr, ok__law_bits⟩)

def R__law_lot (as : List Dat) (r : Dat) : Prop := ∃ m : Nat, as = [nI m] ∧ r = lt m

abbrev sp__law_lot : Sp := spD R__law_lot
abbrev N__law_lot : List Str := ["_law_number_so", "_law_own"]
abbrev p__law_lot : List Str := ["_law_number_so"]
theorem sc__law_lot : FnScope N__law_lot p__law_lot (defScope (top 48)) := ⟨rfl, rfl, rfl, by decide +kernel, rfl, by decide +kernel, by decide +kernel⟩
def t__law_lot (K : PySem.W.Frag) (P : Program) (w : World) : TS := tRet (tCB (rTupS K) (tCons (tLc (iRng1 (tCons (tC (.int 24)) (tNil))) (gName 1) (tTru K (tOp rAnd (tOp rShr (tVar 0) (tVar 1)) (tC (.int 1)))) (tVar 1) [1]) (tNil)))
theorem ps__law_lot {P : Program} {w : World} {K : PySem.W.Frag} {mg : Str → Option Value} {base : Heap} {f : Addr} (T : Tx K mg) (cdv : Value) (A : Around) (outer : List Env) (s : Shared) (H : Hp) (E : XK) (hr : Room 0 (A.deeper (envOfC "_law_lot" (defScope (top 48)) s.heap.objs.size f cdv))) :
    PSs (cxOf CX0 P w K mg base N__law_lot "_law_lot" (defScope (top 48)) f cdv A outer s H E).nox (defBody (top 48)) (t__law_lot K P w) := by
  have nd := sc__law_lot.nd
  have hu := hu_of hr
  unfold t__law_lot
  exact pss_one (ps_ret (pe_ty T.tuple call_tuple_of (pa_cons (pe_lc (own := [("_law_own", 1)]) (g := gName 1) (tt := tTru K (tOp rAnd (tOp rShr (tVar 0) (tVar 1)) (tC (.int 1)))) (te := tVar 1) rfl nd (pi_range1 rfl T.range (pa_cons (pe_int) (pa_nil))) (blkOk_by (N := N__law_lot) (sc := defScope (top 48)) (by decide +kernel)) (fun _ _ _ _ _ => pg_name (i := 1) nd rfl (by first | exact Or.inl rfl | exact Or.inr rfl)) (fun _ _ _ _ _ => pts_one (pt_truth (pe_op op_and (pe_op op_shr (pv 0) (pv 1)) (pe_int)) (by intro _; rfl))) (fun _ _ _ _ _ => pv 1)) (pa_nil))))
theorem len__law_lot : ∀ as r, R__law_lot as r → as.length = p__law_lot.length := by rintro _ _ ⟨l, rfl, _⟩; rfl
theorem ok__law_lot {P : Program} {w : World} {K : PySem.W.Frag} : ∀ as r, R__law_lot as r → ∀ (E0 Ni : Hp) (D : Ends), Rt E0 Ni r D.rt → Okk E0 Ni (t__law_lot K P w) D (s0 N__law_lot as) := by
  rintro _ _ ⟨m, rfl, rfl⟩ E0 Ni D hR
  exact okk_ret (de_tupS (DeN.de (den_filter (List.range 24) (dei_rngN (n := 24) (de_n 24) (by decide)) (by decide) (by decide) m.testBit nI (fun i hi => (deb_truN (de_and (b := 1) (de_shr (a := m) (b := i) (de_var rfl) (de_var rfl)) (de_n 1))).to (by rw [Nat.testBit_eq_decide_div_mod_eq, Nat.and_one_is_mod]; exact decide_eq_decide.mpr (by omega))) fun i hi _ => de_var rfl)) (.inl rfl)) hR

theorem cal__law_lot {P : Program} {w : World} {K : PySem.W.Frag} {mg : Str → Option Value} {base : Heap} {f : Addr} {fd : FuncData} (T : Tx K mg) (F : FnP K "_law_lot" (top 48) f fd) (hm : mg "_law_lot" = some (.ref f)) : Cal P w K mg base 1 "_law_lot" p__law_lot sp__law_lot :=
  cal_of F hm (FunD.bindsN F fun _ _ _ _ _ _ us hl => match us, hl with | [_], _ => rfl) (fn_data F sc__law_lot (len__law_lot) fun cdv A outer s H E hr => ⟨_, ps__law_lot T cdv A outer s H E hr, ok__law_lot⟩)

def tal : Nat → List Nat
  | 0 => [0]
  | n + 1 => tal n ++ (tal n).map (· + 1)
theorem tal_len (n : Nat) : (tal n).length = 2 ^ n := by
  induction n with
  | zero => rfl
  | succ n ih => unfold tal; rw [List.length_append, List.length_map, ih, Nat.pow_succ]; omega
theorem pow12 {i : Nat} (h : i ≤ 12) : 2 ^ i ≤ 4096 := Nat.le_trans (Nat.pow_le_pow_right (by decide) h) (by decide)
def R__law_tally (as : List Dat) (r : Dat) : Prop := as = [] ∧ r = lN (tal 12)

abbrev sp__law_tally : Sp := spD R__law_tally
abbrev N__law_tally : List Str := ["_law_found", "_law_lap", "_law_own"]
abbrev p__law_tally : List Str := []
theorem sc__law_tally : FnScope N__law_tally p__law_tally (defScope (top 50)) := ⟨rfl, rfl, rfl, by decide +kernel, rfl, by decide +kernel, by decide +kernel⟩
def t__law_tally (K : PySem.W.Frag) (P : Program) (w : World) : TS := tSeq (tAsg (tLst (tCons (tC (.int 0)) (tNil))) (gName 0)) (tSeq (tFor (iRng1 (tCons (tC (.int 12)) (tNil))) (gName 1) (tAsg (tOp rCat (tVar 0) (tLc (iList K (tVar 0)) (gName 2) (tYes) (tOp rAdd (tVar 2) (tC (.int 1))) [2])) (gName 0))) (tRet (tVar 0)))
theorem ps__law_tally {P : Program} {w : World} {K : PySem.W.Frag} {mg : Str → Option Value} {base : Heap} {f : Addr} (T : Tx K mg) (cdv : Value) (A : Around) (outer : List Env) (s : Shared) (H : Hp) (E : XK) (hr : Room 0 (A.deeper (envOfC "_law_tally" (defScope (top 50)) s.heap.objs.size f cdv))) :
    PSs (cxOf CX0 P w K mg base N__law_tally "_law_tally" (defScope (top 50)) f cdv A outer s H E).nox (defBody (top 50)) (t__law_tally K P w) := by
  have nd := sc__law_tally.nd
  have hu := hu_of hr
  unfold t__law_tally
  exact pss_cons (ps_set (i := 0) nd rfl (by first | exact Or.inl rfl | exact Or.inr rfl) (pe_lst (pa_cons (pe_int) (pa_nil)))) (pss_cons (ps_for PassesOwn.never rfl (pi_range1 rfl T.range (pa_cons (pe_int) (pa_nil))) (pg_name (i := 1) nd rfl (by first | exact Or.inl rfl | exact Or.inr rfl)) (pss_one (ps_set (i := 0) nd rfl (by first | exact Or.inl rfl | exact Or.inr rfl) (pe_op op_cat (pv 0) (pe_lc (own := [("_law_own", 2)]) (g := gName 2) (tt := tYes) (te := tOp rAdd (tVar 2) (tC (.int 1))) rfl nd (pi_list (pv 0)) (blkOk_by (N := N__law_tally) (sc := defScope (top 50)) (by decide +kernel)) (fun _ _ _ _ _ => pg_name (i := 2) nd rfl (by first | exact Or.inl rfl | exact Or.inr rfl)) (fun _ _ _ _ _ => pts_nil) (fun _ _ _ _ _ => pe_op op_add (pv 2) (pe_int))))))) (pss_one (ps_ret (pv 0))))
theorem len__law_tally : ∀ as r, R__law_tally as r → as.length = p__law_tally.length := by rintro _ _ ⟨rfl, _⟩; rfl
theorem ok__law_tally {P : Program} {w : World} {K : PySem.W.Frag} : ∀ as r, R__law_tally as r → ∀ (E0 Ni : Hp) (D : Ends), Rt E0 Ni r D.rt → Okk E0 Ni (t__law_tally K P w) D (s0 N__law_tally as) := by
  rintro _ _ ⟨rfl, rfl⟩ E0 Ni D hR
  refine okk_set (d := lN (tal 0)) (DeN.de (den_lst (dea_1 (de_n 0)) (by decide))) ?_
  refine okk_for (j := 1) (dei_rngN (n := 12) (de_n 12) (by decide)) (fun i => [.val (lN (tal i)), .no, .no]) rfl (fun Nj i d hd => ?_) ?_
  · obtain ⟨hi, rfl⟩ := get_rng hd
    have hp := pow12 (i := i) (by omega)
    refine okk_setN [1] (DeN.de (den_op (x := .list ((tal i).map nI)) (y := .list ((tal i).map fun x => nI (x + 1))) (de_var rfl) (DeN.de (den_map (tal i) (r := fun x => nI (x + 1)) (dei_list (de_var rfl)) (by rw [tal_len]; omega) (by decide) fun x hx => de_add (a := x) (b := 1) (de_var rfl) (de_n 1))) (drn_cat (by rw [List.length_map, List.length_map, tal_len]; omega)))) ?_
    show _ = [Sk.val (lN (tal i ++ (tal i).map (· + 1))), Sk.no, Sk.no]
    unfold lN
    rw [List.map_append, List.map_map]
    rfl
  · rw [List.length_map, List.length_range]
    exact okk_ret (de_var rfl) hR

theorem cal__law_tally {P : Program} {w : World} {K : PySem.W.Frag} {mg : Str → Option Value} {base : Heap} {f : Addr} {fd : FuncData} (T : Tx K mg) (F : FnP K "_law_tally" (top 50) f fd) (hm : mg "_law_tally" = some (.ref f)) : Cal P w K mg base 1 "_law_tally" p__law_tally sp__law_tally :=
  cal_of F hm (FunD.bindsN F fun _ _ _ _ _ _ us hl => match us, hl with | [], _ => rfl) (fn_data F sc__law_tally (len__law_tally) fun cdv A outer s H E hr => ⟨_, ps__law_tally T cdv A outer s H E hr, ok__law_tally⟩)

def talN (m : Nat) : Nat := (tal 12).getD (m &&& 4095) 0 + (tal 12).getD (m / 4096) 0
theorem tal_ix {j : Nat} (h : j < 4096) : ((tal 12).map nI)[j]? = some (nI ((tal 12).getD j 0)) := by
  rw [List.getElem?_map, List.getElem?_eq_getElem (by rw [tal_len]; exact h), List.getD_eq_getElem?_getD, List.getElem?_eq_getElem (by rw [tal_len]; exact h)]
  rfl
theorem de_talN {K : PySem.W.Frag} {ds : Sd} {tl tm : TE} {m : Nat} (h1 : De tl ds (lN (tal 12))) (h2 : De tm ds (nI m)) (hm : m < 2 ^ 24) : De (tOp rAdd (tOp (rIx K) tl (tOp rAnd tm (tC (.int 4095)))) (tOp (rIx K) tl (tOp rShr tm (tC (.int 12))))) ds (nI (talN m)) :=
  de_add (de_ix h1 (de_and (b := 4095) h2 (de_n 4095)) (.inl rfl) (tal_ix (Nat.lt_of_le_of_lt Nat.and_le_right (by decide)))) (de_ix h1 (de_shr (b := 12) h2 (de_n 12)) (.inl rfl) (tal_ix (by show m / 4096 < 4096; omega)))
def R__law_many (as : List Dat) (r : Dat) : Prop := ∃ m : Nat, as = [lN (tal 12), nI m] ∧ m < 2 ^ 24 ∧ r = nI (talN m)

abbrev sp__law_many : Sp := spD R__law_many
abbrev N__law_many : List Str := ["_law_tally_so", "_law_number_so"]
abbrev p__law_many : List Str := ["_law_tally_so", "_law_number_so"]
theorem sc__law_many : FnScope N__law_many p__law_many (defScope (top 51)) := ⟨rfl, rfl, rfl, by decide +kernel, rfl, by decide +kernel, by decide +kernel⟩
def t__law_many (K : PySem.W.Frag) (P : Program) (w : World) : TS := tRet (tOp rAdd (tOp (rIx K) (tVar 0) (tOp rAnd (tVar 1) (tC (.int 4095)))) (tOp (rIx K) (tVar 0) (tOp rShr (tVar 1) (tC (.int 12)))))
theorem ps__law_many {P : Program} {w : World} {K : PySem.W.Frag} {mg : Str → Option Value} {base : Heap} {f : Addr} (T : Tx K mg) (cdv : Value) (A : Around) (outer : List Env) (s : Shared) (H : Hp) (E : XK) (hr : Room 0 (A.deeper (envOfC "_law_many" (defScope (top 51)) s.heap.objs.size f cdv))) :
    PSs (cxOf CX0 P w K mg base N__law_many "_law_many" (defScope (top 51)) f cdv A outer s H E).nox (defBody (top 51)) (t__law_many K P w) := by
  have nd := sc__law_many.nd
  have hu := hu_of hr
  unfold t__law_many
  exact pss_one (ps_ret (pe_op op_add (pe_ix ix_seq (pv 0) (pe_op op_and (pv 1) (pe_int)) (fun _ _ => rfl)) (pe_ix ix_seq (pv 0) (pe_op op_shr (pv 1) (pe_int)) (fun _ _ => rfl))))
theorem len__law_many : ∀ as r, R__law_many as r → as.length = p__law_many.length := by rintro _ _ ⟨l, rfl, _⟩; rfl
theorem ok__law_many {P : Program} {w : World} {K : PySem.W.Frag} : ∀ as r, R__law_many as r → ∀ (E0 Ni : Hp) (D : Ends), Rt E0 Ni r D.rt → Okk E0 Ni (t__law_many K P w) D (s0 N__law_many as) := by
  rintro _ _ ⟨m, rfl, hm, rfl⟩ E0 Ni D hR
  exact okk_ret (de_talN (de_var rfl) (de_var rfl) hm) hR


theorem cal__law_many {P : Program} {w : World} {K : PySem.W.Frag} {mg : Str → Option Value} {base : Heap} {f : Addr} {fd : FuncData} (T : Tx K mg) (F : FnP K "_law_many" (top 51) f fd) (hm : mg "_law_many" = some (.ref f)) : Cal P w K mg base 1 "_law_many" p__law_many sp__law_many :=
  cal_of F hm (FunD.bindsN F fun _ _ _ _ _ _ us hl => match us, hl with | [_, _], _ => rfl) (fn_data F sc__law_many (len__law_many) fun cdv A outer s H E hr => ⟨_, ps__law_many T cdv A outer s H E hr, ok__law_many⟩)

def lotF (word : List Nat) : Nat → List Nat
  | 0 => []
  | n + 1 => lotF word n ++ if decide (0 < word.getD n 0) then [4 * n, 4 * n + word.getD n 0] else []
def rows6 : List (List Nat) := [[1, 0, 0], [2, 0, 0], [0, 1, 0], [0, 2, 0], [0, 0, 1], [0, 0, 2]]
def rwW (r : List Nat) : List Nat := wbN (r.getD 0 0) (r.getD 1 0) (r.getD 2 0)
def BL5 : List (List Nat) := (List.range 5).map fun i => [0, 1, 2, 3] ++ (List.range 4).map fun x => 4 * (1 + i) + x
def baseL : List (List Nat) := BL5 ++ rows6.map (fun r => lotF (rwW r) 6) ++ [[1, 2, 3, 4, 8, 12, 16, 20]]
def baseM : List Nat := baseL.map maskL
def R__law_base (as : List Dat) (r : Dat) : Prop := as = [] ∧ r = .list (baseM.map lt)

abbrev sp__law_base : Sp := spD R__law_base
abbrev N__law_base : List Str := ["_law_found", "_law_row_so", "_law_k", "_law_word_so", "_law_lot_so", "_law_column_so", "_law_sign_so", "_law_own"]
abbrev p__law_base : List Str := []
theorem sc__law_base : FnScope N__law_base p__law_base (defScope (top 49)) := ⟨rfl, rfl, rfl, by decide +kernel, rfl, by decide +kernel, by decide +kernel⟩
def t__law_base (K : PySem.W.Frag) (P : Program) (w : World) : TS := tSeq (tAsg (tLc (iRng2 (tCons (tC (.int 1)) (tCons (tC (.int 6)) (tNil)))) (gName 2) (tYes) (tOp (rCatA K) (tTup (tCons (tC (.int 0)) (tCons (tC (.int 1)) (tCons (tC (.int 2)) (tCons (tC (.int 3)) (tNil)))))) (tCB (rTupS K) (tCons (tLc (iRng1 (tCons (tC (.int 4)) (tNil))) (gName 7) (tYes) (tOp rAdd (tOp rMul (tC (.int 4)) (tVar 2)) (tVar 7)) [7]) (tNil)))) [2]) (gName 0)) (tSeq (tFor (iTup K (tTup (tCons (tTup (tCons (tC (.int 1)) (tCons (tC (.int 0)) (tCons (tC (.int 0)) (tNil))))) (tCons (tTup (tCons (tC (.int 2)) (tCons (tC (.int 0)) (tCons (tC (.int 0)) (tNil))))) (tCons (tTup (tCons (tC (.int 0)) (tCons (tC (.int 1)) (tCons (tC (.int 0)) (tNil))))) (tCons (tTup (tCons (tC (.int 0)) (tCons (tC (.int 2)) (tCons (tC (.int 0)) (tNil))))) (tCons (tTup (tCons (tC (.int 0)) (tCons (tC (.int 0)) (tCons (tC (.int 1)) (tNil))))) (tCons (tTup (tCons (tC (.int 0)) (tCons (tC (.int 0)) (tCons (tC (.int 2)) (tNil))))) (tNil))))))))) (gName 1) (tSeq (tPar 3 4 (tCons (tCall sp__law_word_by [] E0 (tCons (tOp (rIx K) (tVar 1) (tC (.int 0))) (tCons (tOp (rIx K) (tVar 1) (tC (.int 1))) (tCons (tOp (rIx K) (tVar 1) (tC (.int 2))) (tNil))))) (tCons (tTup (tNil)) (tNil)))) (tSeq (tFor (iEnumT K (tCons (tVar 3) (tNil))) (gTup K 2 (gCons (gName 5) (gCons (gName 6) (gNil)))) (tAsg (tOp (rCatA K) (tVar 4) (tIf (tTest (tOp rGt (tVar 6) (tC (.int 0)))) (tTup (tCons (tOp rMul (tC (.int 4)) (tVar 5)) (tCons (tOp rAdd (tOp rMul (tC (.int 4)) (tVar 5)) (tVar 6)) (tNil)))) (tTup (tNil)))) (gName 4))) (tDrop (tBM K "list" rAppend (tVar 0) (tCons (tVar 4) (tNil))))))) (tRet (tOp rCat (tVar 0) (tLst (tCons (tTup (tCons (tC (.int 1)) (tCons (tC (.int 2)) (tCons (tC (.int 3)) (tCons (tC (.int 4)) (tCons (tC (.int 8)) (tCons (tC (.int 12)) (tCons (tC (.int 16)) (tCons (tC (.int 20)) (tNil)))))))))) (tNil))))))
theorem ps__law_base {P : Program} {w : World} {K : PySem.W.Frag} {mg : Str → Option Value} {base : Heap} {f : Addr} (T : Tx K mg) (C__law_word_by : Cal P w K mg base 2 "_law_word_by" p__law_word_by sp__law_word_by) (cdv : Value) (A : Around) (outer : List Env) (s : Shared) (H : Hp) (E : XK) (hr : Room 2 (A.deeper (envOfC "_law_base" (defScope (top 49)) s.heap.objs.size f cdv))) :
    PSs (cxOf CX0 P w K mg base N__law_base "_law_base" (defScope (top 49)) f cdv A outer s H E).nox (defBody (top 49)) (t__law_base K P w) := by
  have nd := sc__law_base.nd
  have hu := hu_of hr
  unfold t__law_base
  exact pss_cons (ps_setLc (i := 0) (own := [("_law_k", 2)]) (g := gName 2) (tt := tYes) (te := tOp (rCatA K) (tTup (tCons (tC (.int 0)) (tCons (tC (.int 1)) (tCons (tC (.int 2)) (tCons (tC (.int 3)) (tNil)))))) (tCB (rTupS K) (tCons (tLc (iRng1 (tCons (tC (.int 4)) (tNil))) (gName 7) (tYes) (tOp rAdd (tOp rMul (tC (.int 4)) (tVar 2)) (tVar 7)) [7]) (tNil)))) rfl nd rfl rfl (sw_true rfl rfl rfl (by decide +kernel)) (pi_range2 rfl T.range (pa_cons (pe_int) (pa_cons (pe_int) (pa_nil)))) (blkOk_by (N := N__law_base) (sc := defScope (top 49)) (by decide +kernel)) (fun _ _ _ _ _ => pg_name (i := 2) nd rfl (by first | exact Or.inl rfl | exact Or.inr rfl)) (fun _ _ _ _ _ => pts_nil) (fun _ _ _ _ _ => pe_op op_catA (pe_tup (pa_cons (pe_int) (pa_cons (pe_int) (pa_cons (pe_int) (pa_cons (pe_int) (pa_nil)))))) (pe_ty T.tuple call_tuple_of (pa_cons (pe_lc (own := [("_law_own", 7)]) (g := gName 7) (tt := tYes) (te := tOp rAdd (tOp rMul (tC (.int 4)) (tVar 2)) (tVar 7)) rfl nd (pi_range1 rfl T.range (pa_cons (pe_int) (pa_nil))) (blkOk_by (N := N__law_base) (by first | kernel_rfl | rfl)) (fun _ _ _ _ _ => pg_name (i := 7) nd rfl (by first | exact Or.inl rfl | exact Or.inr rfl)) (fun _ _ _ _ _ => pts_nil) (fun _ _ _ _ _ => pe_op op_add (pe_op op_mulW (pe_int) (pv 2)) (pv 7))) (pa_nil))))) (pss_cons (ps_for PassesOwn.never rfl (pi_tup (pe_tup (pa_cons (pe_tup (pa_cons (pe_int) (pa_cons (pe_int) (pa_cons (pe_int) (pa_nil))))) (pa_cons (pe_tup (pa_cons (pe_int) (pa_cons (pe_int) (pa_cons (pe_int) (pa_nil))))) (pa_cons (pe_tup (pa_cons (pe_int) (pa_cons (pe_int) (pa_cons (pe_int) (pa_nil))))) (pa_cons (pe_tup (pa_cons (pe_int) (pa_cons (pe_int) (pa_cons (pe_int) (pa_nil))))) (pa_cons (pe_tup (pa_cons (pe_int) (pa_cons (pe_int) (pa_cons (pe_int) (pa_nil))))) (pa_cons (pe_tup (pa_cons (pe_int) (pa_cons (pe_int) (pa_cons (pe_int) (pa_nil))))) (pa_nil))))))))) (pg_name (i := 1) nd rfl (by first | exact Or.inl rfl | exact Or.inr rfl)) (pss_cons (ps_par (i := 3) (j := 4) rfl nd rfl rfl (by decide) rfl rfl (pa_cons (pe_cal C__law_word_by hr (pa_cons (pe_ix ix_seq (pv 1) (pe_int) (fun _ _ => rfl)) (pa_cons (pe_ix ix_seq (pv 1) (pe_int) (fun _ _ => rfl)) (pa_cons (pe_ix ix_seq (pv 1) (pe_int) (fun _ _ => rfl)) (pa_nil))))) (pa_cons (pe_tup (pa_nil)) (pa_nil))) (by rfl)) (pss_cons (ps_for PassesOwn.never rfl (pi_enumT rfl T.enumerate (pa_cons (pv 3) (pa_nil))) (pg_tup (by rfl) (pgs_cons (pg_name (i := 5) nd rfl (by first | exact Or.inl rfl | exact Or.inr rfl)) (pgs_cons (pg_name (i := 6) nd rfl (by first | exact Or.inl rfl | exact Or.inr rfl)) (pgs_nil)))) (pss_one (ps_set (i := 4) nd rfl (by first | exact Or.inl rfl | exact Or.inr rfl) (pe_op op_catA (pv 4) (pe_ifExp (pt_cmpR op_gt (pv 6) (pe_int) (nomark _)) (pe_tup (pa_cons (pe_op op_mulW (pe_int) (pv 5)) (pa_cons (pe_op op_add (pe_op op_mulW (pe_int) (pv 5)) (pv 6)) (pa_nil)))) (pe_tup (pa_nil))))))) (pss_one (ps_expr (pe_bm PySem.F.plainAttrs_list PySem.F.slot_list_append PySem.F.type_list_append mt_append (pv 0) (pa_cons (pv 4) (pa_nil)))))))) (pss_one (ps_ret (pe_op op_cat (pv 0) (pe_lst (pa_cons (pe_tup (pa_cons (pe_int) (pa_cons (pe_int) (pa_cons (pe_int) (pa_cons (pe_int) (pa_cons (pe_int) (pa_cons (pe_int) (pa_cons (pe_int) (pa_cons (pe_int) (pa_nil)))))))))) (pa_nil)))))))
theorem len__law_base : ∀ as r, R__law_base as r → as.length = p__law_base.length := by rintro _ _ ⟨rfl, _⟩; rfl
theorem baseL_lt : baseL.map tN = baseM.map lt := by
  have h : baseL = baseM.map bitsL := by decide +kernel
  rw [show baseM.map lt = (baseM.map bitsL).map tN by rw [List.map_map]; rfl, ← h]
theorem rows_ok : ∀ r ∈ rows6, r.length = 3 ∧ r.getD 0 0 < 4 ∧ r.getD 1 0 < 4 := by decide
theorem lotF_bd (word : List Nat) : ∀ n, (lotF word n).length ≤ 2 * n
  | 0 => Nat.le_refl _
  | n + 1 => by
    have := lotF_bd word n
    unfold lotF
    rw [List.length_append]
    split
    · show _ + 2 ≤ _; omega
    · show _ + 0 ≤ _; omega
theorem wb_small : ∀ r ∈ rows6, ∀ x ∈ rwW r, x < 4 := by decide
theorem get3 {r : List Nat} (h : r.length = 3) {j : Nat} (hj : j < 3) : (r.map nI)[j]? = some (nI (r.getD j 0)) := by
  rw [List.getElem?_map, List.getD_eq_getElem?_getD, List.getElem?_eq_getElem (by omega)]; rfl
theorem ok__law_base {P : Program} {w : World} {K : PySem.W.Frag} : ∀ as r, R__law_base as r → ∀ (E0 Ni : Hp) (D : Ends), Rt E0 Ni r D.rt → Okk E0 Ni (t__law_base K P w) D (s0 N__law_base as) := by
  rintro _ _ ⟨rfl, rfl⟩ E0 Ni D hR
  refine okk_own (xs := BL5.map tN) ((den_map (List.range 5) (enc := fun i => nI (1 + i)) (r := fun i => tN ([0, 1, 2, 3] ++ (List.range 4).map fun x => 4 * (1 + i) + x)) (by rw [← rngD_nat2 1 5]; exact dei_rng2 (a := 1) (n := 5) (de_n 1) (de_n 6) (by decide)) (by decide) (by decide) fun i hi => ?_).to (by unfold BL5; rw [List.map_map]; rfl)) ?_
  · have h5 := List.mem_range.mp hi
    refine (de_op (de_tup (dea_cons (de_n 0) (dea_cons (de_n 1) (dea_cons (de_n 2) (dea_cons (de_n 3) dea_nil)))) (by decide)) (de_tupS (DeN.de (den_map (List.range 4) (r := fun x => nI (4 * (1 + i) + x)) (dei_rngN (n := 4) (de_n 4) (by decide)) (by decide) (by decide) fun x hx => de_add (de_mul (a := 4) (b := 1 + i) (de_n 4) (de_var rfl) (by decide) (by omega)) (de_var (d := nI x) rfl))) (.inl rfl)) (dr_catT (by rw [List.length_map, List.length_range]; exact Nat.le_of_ble_eq_true rfl))).to ?_
    unfold tN
    rw [List.map_append, List.map_map]
    rfl
  refine okk_for (j := 1) (dei_tup (xs := rows6.map tN) (de_tup (dea_cons (de_tup (dea_3 (de_n 1) (de_n 0) (de_n 0)) (by decide)) (dea_cons (de_tup (dea_3 (de_n 2) (de_n 0) (de_n 0)) (by decide)) (dea_cons (de_tup (dea_3 (de_n 0) (de_n 1) (de_n 0)) (by decide)) (dea_cons (de_tup (dea_3 (de_n 0) (de_n 2) (de_n 0)) (by decide)) (dea_cons (de_tup (dea_3 (de_n 0) (de_n 0) (de_n 1)) (by decide)) (dea_cons (de_tup (dea_3 (de_n 0) (de_n 0) (de_n 2)) (by decide)) dea_nil)))))) (by decide)))
    (fun i => [.own ((BL5 ++ (rows6.take i).map fun r => lotF (rwW r) 6).map tN), .no, .no, .no, .no, .no, .no, .no]) ?_ (fun Nj i d hd => ?_) ?_
  · show [Sk.own ((BL5 ++ []).map tN), .no, .no, .no, .no, .no, .no, .no] = _
    rw [List.append_nil]
    rfl
  · obtain ⟨r, hr, rfl⟩ := get_map hd
    have hrm : r ∈ rows6 := List.mem_of_getElem? hr
    obtain ⟨r3, ra, rb⟩ := rows_ok r hrm
    have hW : (rwW r).length = 6 := rfl
    refine okk_par (d := tN (rwW r)) (e := .tuple []) (de_call (dea_3 (de_ix (j := 0) (x := tN r) (de_var rfl) (de_n 0) (.inr rfl) (get3 r3 (by decide))) (de_ix (j := 1) (x := tN r) (de_var rfl) (de_n 1) (.inr rfl) (get3 r3 (by decide))) (de_ix (j := 2) (x := tN r) (de_var rfl) (de_n 2) (.inr rfl) (get3 r3 (by decide)))) ⟨_, _, _, rfl, ra, rb, rfl⟩) (de_tup dea_nil (by decide)) ?_
    refine okk_for2 (j := 5) (l := 6) (items := enumD ((rwW r).map nI)) (dei_enumT (de_var rfl)) (fun n => [.own ((BL5 ++ (rows6.take i).map fun r => lotF (rwW r) 6).map tN), .val (tN r), .no, .val (tN (rwW r)), .val (tN (lotF (rwW r) n)), .no, .no, .no]) rfl (fun n d h => ?_) (fun Nj2 c x y h => ?_) ?_
    · obtain ⟨x, _, rfl⟩ := enumD_get h
      exact ⟨_, _, rfl⟩
    · obtain ⟨z, hz, e⟩ := enumD_get h
      obtain ⟨sg, hsg, rfl⟩ := get_nI hz
      have e1 : x = nI c ∧ y = nI sg := by
        have := PyData.tuple.inj e
        simp only [List.cons.injEq, and_true] at this
        exact this
      obtain ⟨rfl, rfl⟩ := e1
      have hc : c < 6 := by rw [← hW]; exact (List.getElem?_eq_some_iff.mp hsg).1
      have hgd : (rwW r).getD c 0 = sg := by rw [List.getD_eq_getElem?_getD, hsg]; rfl
      have hbd := lotF_bd (rwW r) c
      refine okk_setN [5, 6] (de_op (x := tN (lotF (rwW r) c)) (y := tN (if decide (0 < sg) then [4 * c, 4 * c + sg] else [])) (de_var rfl) (de_if (deb_test (de_gt (a := sg) (b := 0) (de_var rfl) (de_n 0))) (fun e => ?_) (fun e => ?_)) (dr_catT (by rw [List.length_map, List.length_map]; split <;> simp <;> omega))) ?_
      · rw [e]
        have m4 : ∀ ds : Sd, ds[5]? = some (some (nI c)) → De (tOp rMul (tC (.int 4)) (tVar 5)) ds (nI (4 * c)) := fun ds h => de_mul (a := 4) (b := c) (de_n 4) (de_var h) (by decide) (by omega)
        exact de_tup (dea_2 (m4 _ rfl) (de_add (m4 _ rfl) (de_var (d := nI sg) rfl))) (Nat.le_of_ble_eq_true rfl)
      · rw [e]
        exact de_tup dea_nil (Nat.le_of_ble_eq_true rfl)
      · show _ = [Sk.own ((BL5 ++ (rows6.take i).map fun r => lotF (rwW r) 6).map tN), .val (tN r), .no, .val (tN (rwW r)), .val (tN (lotF (rwW r) c ++ if decide (0 < (rwW r).getD c 0) then [4 * c, 4 * c + (rwW r).getD c 0] else [])), .no, .no, .no]
        rw [hgd, ← tN_cat]
        rfl
    · rw [enumD_len, List.length_map, hW]
      refine okk_appN [1, 3, 4] rfl (de_var (d := tN (lotF (rwW r) 6)) rfl) ?_ ?_
      · have : (rows6.take i).length ≤ 6 := List.length_take_le' _ _
        rw [List.length_map, List.length_append, List.length_map]
        have : BL5.length = 5 := rfl
        omega
      · show _ = [Sk.own ((BL5 ++ (rows6.take (i + 1)).map fun r => lotF (rwW r) 6).map tN), .no, .no, .no, .no, .no, .no, .no]
        have hst : (BL5 ++ (rows6.take (i + 1)).map fun r => lotF (rwW r) 6).map tN = (BL5 ++ (rows6.take i).map fun r => lotF (rwW r) 6).map tN ++ [tN (lotF (rwW r) 6)] := by
          rw [List.take_succ, hr]
          simp only [List.map_append, List.append_assoc]
          rfl
        rw [hst]
        rfl
  · show Okk _ _ _ _ [Sk.own ((BL5 ++ rows6.map fun r => lotF (rwW r) 6).map tN), .no, .no, .no, .no, .no, .no, .no]
    refine okk_freeze (j := 0) rfl ?_
    refine okk_ret ((DeN.de (den_op (x := .list ((BL5 ++ rows6.map fun r => lotF (rwW r) 6).map tN)) (de_var rfl) (DeN.de (den_lst (dea_1 (de_tup (dea_cons (de_n 1) (dea_cons (de_n 2) (dea_cons (de_n 3) (dea_cons (de_n 4) (dea_cons (de_n 8) (dea_cons (de_n 12) (dea_cons (de_n 16) (dea_cons (de_n 20) dea_nil)))))))) (by decide))) (by decide))) (drn_cat (by decide)))).to ?_) hR
    rw [← baseL_lt]
    unfold baseL
    rw [List.map_append (l₁ := BL5 ++ _)]
    rfl


theorem cal__law_base {P : Program} {w : World} {K : PySem.W.Frag} {mg : Str → Option Value} {base : Heap} {f : Addr} {fd : FuncData} (T : Tx K mg) (C__law_word_by : Cal P w K mg base 2 "_law_word_by" p__law_word_by sp__law_word_by) (F : FnP K "_law_base" (top 49) f fd) (hm : mg "_law_base" = some (.ref f)) : Cal P w K mg base 3 "_law_base" p__law_base sp__law_base :=
  cal_of F hm (FunD.bindsN F fun _ _ _ _ _ _ us hl => match us, hl with | [], _ => rfl) (fn_data F sc__law_base (len__law_base) fun cdv A outer s H E hr => ⟨_, ps__law_base T C__law_word_by cdv A outer s H E hr, ok__law_base⟩)

def rtL (bs : List Nat) : List Nat := bs.foldl (fun f b => f ++ f.map fun x => x ^^^ b) [0]
def RT : List Nat := rtL baseM
theorem rtL_take {bs : List Nat} {i b : Nat} (h : bs[i]? = some b) : rtL (bs.take (i + 1)) = rtL (bs.take i) ++ (rtL (bs.take i)).map fun x => x ^^^ b := by
  unfold rtL
  rw [List.take_succ, h, List.foldl_append]; rfl
theorem rtL_len (bs : List Nat) : (rtL bs).length = 2 ^ bs.length := by
  have : ∀ (bs f : List Nat), (bs.foldl (fun f b => f ++ f.map fun x => x ^^^ b) f).length = f.length * 2 ^ bs.length := by
    intro bs
    induction bs with
    | nil => intro f; simp
    | cons b bs ih => intro f; rw [List.foldl_cons, ih, List.length_append, List.length_map, List.length_cons, Nat.pow_succ, ← Nat.two_mul, Nat.mul_comm 2, Nat.mul_assoc, Nat.mul_comm 2]
  unfold rtL
  rw [this]; simp
theorem baseM_ok : baseM.length = 12 ∧ ∀ b ∈ baseM, b < 2 ^ 24 := by decide +kernel
def R__law_rights (as : List Dat) (r : Dat) : Prop := as = [] ∧ r = lN RT

abbrev sp__law_rights : Sp := spD R__law_rights
abbrev N__law_rights : List Str := ["_law_found", "_law_lot_so", "_law_bits_so", "_law_own"]
abbrev p__law_rights : List Str := []
theorem sc__law_rights : FnScope N__law_rights p__law_rights (defScope (top 52)) := ⟨rfl, rfl, rfl, by decide +kernel, rfl, by decide +kernel, by decide +kernel⟩
def t__law_rights (K : PySem.W.Frag) (P : Program) (w : World) : TS := tSeq (tAsg (tLst (tCons (tC (.int 0)) (tNil))) (gName 0)) (tSeq (tFor (iList K (tCall sp__law_base [] E0 tNil)) (gName 1) (tSeq (tAsg (tCall sp__law_bits [] E0 (tCons (tVar 1) (tNil))) (gName 2)) (tAsg (tOp rCat (tVar 0) (tLc (iList K (tVar 0)) (gName 3) (tYes) (tOp rXor (tVar 3) (tVar 2)) [3])) (gName 0)))) (tRet (tVar 0)))
theorem ps__law_rights {P : Program} {w : World} {K : PySem.W.Frag} {mg : Str → Option Value} {base : Heap} {f : Addr} (T : Tx K mg) (C__law_base : Cal P w K mg base 3 "_law_base" p__law_base sp__law_base) (C__law_bits : Cal P w K mg base 1 "_law_bits" p__law_bits sp__law_bits) (cdv : Value) (A : Around) (outer : List Env) (s : Shared) (H : Hp) (E : XK) (hr : Room 3 (A.deeper (envOfC "_law_rights" (defScope (top 52)) s.heap.objs.size f cdv))) :
    PSs (cxOf CX0 P w K mg base N__law_rights "_law_rights" (defScope (top 52)) f cdv A outer s H E).nox (defBody (top 52)) (t__law_rights K P w) := by
  have nd := sc__law_rights.nd
  have hu := hu_of hr
  unfold t__law_rights
  exact pss_cons (ps_set (i := 0) nd rfl (by first | exact Or.inl rfl | exact Or.inr rfl) (pe_lst (pa_cons (pe_int) (pa_nil)))) (pss_cons (ps_for PassesOwn.never rfl (pi_list (pe_cal0 C__law_base hr)) (pg_name (i := 1) nd rfl (by first | exact Or.inl rfl | exact Or.inr rfl)) (pss_cons (ps_set (i := 2) nd rfl (by first | exact Or.inl rfl | exact Or.inr rfl) (pe_cal C__law_bits hr (pa_cons (pv 1) (pa_nil)))) (pss_one (ps_set (i := 0) nd rfl (by first | exact Or.inl rfl | exact Or.inr rfl) (pe_op op_cat (pv 0) (pe_lc (own := [("_law_own", 3)]) (g := gName 3) (tt := tYes) (te := tOp rXor (tVar 3) (tVar 2)) rfl nd (pi_list (pv 0)) (blkOk_by (N := N__law_rights) (sc := defScope (top 52)) (by decide +kernel)) (fun _ _ _ _ _ => pg_name (i := 3) nd rfl (by first | exact Or.inl rfl | exact Or.inr rfl)) (fun _ _ _ _ _ => pts_nil) (fun _ _ _ _ _ => pe_op op_xor (pv 3) (pv 2)))))))) (pss_one (ps_ret (pv 0))))
theorem len__law_rights : ∀ as r, R__law_rights as r → as.length = p__law_rights.length := by rintro _ _ ⟨rfl, _⟩; rfl
theorem lN_cat (l m : List Nat) : PyData.list (l.map nI ++ m.map nI) = lN (l ++ m) := by unfold lN; rw [List.map_append]
theorem ok__law_rights {P : Program} {w : World} {K : PySem.W.Frag} : ∀ as r, R__law_rights as r → ∀ (E0 Ni : Hp) (D : Ends), Rt E0 Ni r D.rt → Okk E0 Ni (t__law_rights K P w) D (s0 N__law_rights as) := by
  rintro _ _ ⟨rfl, rfl⟩ E0 Ni D hR
  refine okk_set (d := lN (rtL (baseM.take 0))) (DeN.de (den_lst (dea_1 (de_n 0)) (by decide))) ?_
  refine okk_for (j := 1) (dei_list (xs := baseM.map lt) (de_call dea_nil ⟨rfl, rfl⟩)) (fun i => [.val (lN (rtL (baseM.take i))), .no, .no, .no]) rfl (fun Nj i d hd => ?_) ?_
  · obtain ⟨b, hb, rfl⟩ := get_map hd
    have hb24 := baseM_ok.2 b (List.mem_of_getElem? hb)
    have hi : i < 12 := by rw [← baseM_ok.1]; exact (List.getElem?_eq_some_iff.mp hb).1
    have hl : (rtL (baseM.take i)).length ≤ 4096 := by
      rw [rtL_len]
      exact pow12 (Nat.le_trans (List.length_take_le _ _) (by omega))
    refine okk_set (de_call (dea_1 (de_var (d := lt b) rfl)) ⟨b, rfl, hb24, rfl⟩) ?_
    refine okk_setN [1, 2] ((DeN.de (den_op (x := lN (rtL (baseM.take i))) (y := .list ((rtL (baseM.take i)).map fun x => nI (x ^^^ b))) (de_var rfl) (DeN.de (den_map (rtL (baseM.take i)) (r := fun x => nI (x ^^^ b)) (dei_list (xs := (rtL (baseM.take i)).map nI) (de_var rfl)) (by omega) (by decide) fun x hx => de_xor (a := x) (b := b) (de_var rfl) (de_var rfl))) (drn_cat (by rw [List.length_map, List.length_map]; omega)))).to (e := lN (rtL (baseM.take (i + 1)))) ?_) rfl
    rw [rtL_take hb, ← lN_cat, List.map_map]
    rfl
  · rw [List.length_map, List.take_length]
    exact okk_ret (de_var rfl) hR

theorem cal__law_rights {P : Program} {w : World} {K : PySem.W.Frag} {mg : Str → Option Value} {base : Heap} {f : Addr} {fd : FuncData} (T : Tx K mg) (C__law_base : Cal P w K mg base 3 "_law_base" p__law_base sp__law_base) (C__law_bits : Cal P w K mg base 1 "_law_bits" p__law_bits sp__law_bits) (F : FnP K "_law_rights" (top 52) f fd) (hm : mg "_law_rights" = some (.ref f)) : Cal P w K mg base 4 "_law_rights" p__law_rights sp__law_rights :=
  cal_of F hm (FunD.bindsN F fun _ _ _ _ _ _ us hl => match us, hl with | [], _ => rfl) (fn_data F sc__law_rights (len__law_rights) fun cdv A outer s H E hr => ⟨_, ps__law_rights T C__law_base C__law_bits cdv A outer s H E hr, ok__law_rights⟩)

def E8 : List Nat := RT.filter fun m => decide (talN m = 8)
def boardD : Dat := .tuple [lN RT, lN E8, lN (tal 12)]
theorem rtL_bd {bs : List Nat} (h : ∀ b ∈ bs, b < 2 ^ 24) : ∀ x ∈ rtL bs, x < 2 ^ 24 := by
  have : ∀ (bs f : List Nat), (∀ b ∈ bs, b < 2 ^ 24) → (∀ x ∈ f, x < 2 ^ 24) → ∀ x ∈ bs.foldl (fun f b => f ++ f.map fun x => x ^^^ b) f, x < 2 ^ 24 := by
    intro bs
    induction bs with
    | nil => intro f _ h; exact h
    | cons b bs ih =>
      intro f hb hf
      refine ih _ (fun z hz => hb z (List.mem_cons_of_mem _ hz)) fun x hx => ?_
      rcases List.mem_append.mp hx with q | q
      · exact hf x q
      · obtain ⟨y, hy, rfl⟩ := List.mem_map.mp q
        exact Nat.xor_lt_two_pow (hf y hy) (hb b List.mem_cons_self)
  exact this bs [0] h (by simp)
theorem RT_bd : ∀ x ∈ RT, x < 2 ^ 24 := rtL_bd baseM_ok.2
theorem RT_len : RT.length = 4096 := by unfold RT; rw [rtL_len, baseM_ok.1]
theorem E8_bd : ∀ x ∈ E8, x < 2 ^ 24 := fun x hx => RT_bd x (List.mem_filter.mp hx).1
theorem E8_len : E8.length ≤ 4096 := Nat.le_trans (List.length_filter_le _ _) (by rw [RT_len]; exact Nat.le_refl _)
def R__law_board (as : List Dat) (r : Dat) : Prop := as = [] ∧ r = boardD

abbrev sp__law_board : Sp := spD R__law_board
abbrev N__law_board : List Str := ["_law_rights_so", "_law_tally_so", "_law_own"]
abbrev p__law_board : List Str := []
theorem sc__law_board : FnScope N__law_board p__law_board (defScope (top 53)) := ⟨rfl, rfl, rfl, by decide +kernel, rfl, by decide +kernel, by decide +kernel⟩
def t__law_board (K : PySem.W.Frag) (P : Program) (w : World) : TS := tSeq (tAsg (tTup (tCons (tCall sp__law_rights [] E0 tNil) (tCons (tCall sp__law_tally [] E0 tNil) (tNil)))) (gTup K 2 (gCons (gName 0) (gCons (gName 1) (gNil))))) (tRet (tTup (tCons (tVar 0) (tCons (tLc (iList K (tVar 0)) (gName 2) (tTest (tOp (rEqD K) (tOp rAdd (tOp (rIx K) (tVar 1) (tOp rAnd (tVar 2) (tC (.int 4095)))) (tOp (rIx K) (tVar 1) (tOp rShr (tVar 2) (tC (.int 12))))) (tC (.int 8)))) (tVar 2) [2]) (tCons (tVar 1) (tNil))))))
theorem ps__law_board {P : Program} {w : World} {K : PySem.W.Frag} {mg : Str → Option Value} {base : Heap} {f : Addr} (T : Tx K mg) (C__law_tally : Cal P w K mg base 1 "_law_tally" p__law_tally sp__law_tally) (C__law_rights : Cal P w K mg base 4 "_law_rights" p__law_rights sp__law_rights) (cdv : Value) (A : Around) (outer : List Env) (s : Shared) (H : Hp) (E : XK) (hr : Room 4 (A.deeper (envOfC "_law_board" (defScope (top 53)) s.heap.objs.size f cdv))) :
    PSs (cxOf CX0 P w K mg base N__law_board "_law_board" (defScope (top 53)) f cdv A outer s H E).nox (defBody (top 53)) (t__law_board K P w) := by
  have nd := sc__law_board.nd
  have hu := hu_of hr
  unfold t__law_board
  exact pss_cons (ps_asg (pe_tup (pa_cons (pe_cal0 C__law_rights hr) (pa_cons (pe_cal0 C__law_tally hr) (pa_nil)))) (pg_tup (by rfl) (pgs_cons (pg_name (i := 0) nd rfl (by first | exact Or.inl rfl | exact Or.inr rfl)) (pgs_cons (pg_name (i := 1) nd rfl (by first | exact Or.inl rfl | exact Or.inr rfl)) (pgs_nil))))) (pss_one (ps_ret (pe_tup (pa_cons (pv 0) (pa_cons (pe_lc (own := [("_law_own", 2)]) (g := gName 2) (tt := tTest (tOp (rEqD K) (tOp rAdd (tOp (rIx K) (tVar 1) (tOp rAnd (tVar 2) (tC (.int 4095)))) (tOp (rIx K) (tVar 1) (tOp rShr (tVar 2) (tC (.int 12))))) (tC (.int 8)))) (te := tVar 2) rfl nd (pi_list (pv 0)) (blkOk_by (N := N__law_board) (sc := defScope (top 53)) (by decide +kernel)) (fun _ _ _ _ _ => pg_name (i := 2) nd rfl (by first | exact Or.inl rfl | exact Or.inr rfl)) (fun _ _ _ _ _ => pts_one (pt_cmpR (op_eqD hr.units) (pe_op op_add (pe_ix ix_seq (pv 1) (pe_op op_and (pv 2) (pe_int)) (fun _ _ => rfl)) (pe_ix ix_seq (pv 1) (pe_op op_shr (pv 2) (pe_int)) (fun _ _ => rfl))) (pe_int) (nomark _))) (fun _ _ _ _ _ => pv 2)) (pa_cons (pv 1) (pa_nil)))))))
theorem len__law_board : ∀ as r, R__law_board as r → as.length = p__law_board.length := by rintro _ _ ⟨rfl, _⟩; rfl
theorem ok__law_board {P : Program} {w : World} {K : PySem.W.Frag} : ∀ as r, R__law_board as r → ∀ (E0 Ni : Hp) (D : Ends), Rt E0 Ni r D.rt → Okk E0 Ni (t__law_board K P w) D (s0 N__law_board as) := by
  rintro _ _ ⟨rfl, rfl⟩ E0 Ni D hR
  refine okk_asgTup2V (d := lN RT) (d2 := lN (tal 12)) (de_call dea_nil ⟨rfl, rfl⟩) (de_call dea_nil ⟨rfl, rfl⟩) ?_
  exact okk_ret (de_tup (dea_3 (de_var rfl) (DeN.de (den_filter RT (dei_list (xs := RT.map nI) (de_var rfl)) (by rw [RT_len]; decide) (by decide) (fun m => decide (talN m = 8)) nI (fun m hm => deb_test (de_eqI (de_talN (de_var rfl) (de_var rfl) (RT_bd m hm)) (de_n 8))) fun m hm _ => de_var rfl)) (de_var rfl)) (Nat.le_of_ble_eq_true rfl)) hR

theorem cal__law_board {P : Program} {w : World} {K : PySem.W.Frag} {mg : Str → Option Value} {base : Heap} {f : Addr} {fd : FuncData} (T : Tx K mg) (C__law_tally : Cal P w K mg base 1 "_law_tally" p__law_tally sp__law_tally) (C__law_rights : Cal P w K mg base 4 "_law_rights" p__law_rights sp__law_rights) (F : FnP K "_law_board" (top 53) f fd) (hm : mg "_law_board" = some (.ref f)) : Cal P w K mg base 5 "_law_board" p__law_board sp__law_board :=
  cal_of F hm (FunD.bindsN F fun _ _ _ _ _ _ us hl => match us, hl with | [], _ => rfl) (fn_data F sc__law_board (len__law_board) fun cdv A outer s H E hr => ⟨_, ps__law_board T C__law_tally C__law_rights cdv A outer s H E hr, ok__law_board⟩)

def conM (es : List Nat) (m : Nat) : List Nat := es.filter fun e => decide (e &&& m = m)
def R__law_with (as : List Dat) (r : Dat) : Prop := ∃ (es : List Nat) (m : Nat), as = [lN es, lt m] ∧ es.length ≤ 100000 ∧ m < 2 ^ 24 ∧ r = lN (conM es m)

abbrev sp__law_with : Sp := spD R__law_with
abbrev N__law_with : List Str := ["_law_eights_so", "_law_lot_so", "_law_bits_so", "_law_own"]
abbrev p__law_with : List Str := ["_law_eights_so", "_law_lot_so"]
theorem sc__law_with : FnScope N__law_with p__law_with (defScope (top 54)) := ⟨rfl, rfl, rfl, by decide +kernel, rfl, by decide +kernel, by decide +kernel⟩
def t__law_with (K : PySem.W.Frag) (P : Program) (w : World) : TS := tSeq (tAsg (tCall sp__law_bits [] E0 (tCons (tVar 1) (tNil))) (gName 2)) (tRet (tLc (iList K (tVar 0)) (gName 3) (tTest (tOp (rEqD K) (tOp rAnd (tVar 3) (tVar 2)) (tVar 2))) (tVar 3) [3]))
theorem ps__law_with {P : Program} {w : World} {K : PySem.W.Frag} {mg : Str → Option Value} {base : Heap} {f : Addr} (T : Tx K mg) (C__law_bits : Cal P w K mg base 1 "_law_bits" p__law_bits sp__law_bits) (cdv : Value) (A : Around) (outer : List Env) (s : Shared) (H : Hp) (E : XK) (hr : Room 1 (A.deeper (envOfC "_law_with" (defScope (top 54)) s.heap.objs.size f cdv))) :
    PSs (cxOf CX0 P w K mg base N__law_with "_law_with" (defScope (top 54)) f cdv A outer s H E).nox (defBody (top 54)) (t__law_with K P w) := by
  have nd := sc__law_with.nd
  have hu := hu_of hr
  unfold t__law_with
  exact pss_cons (ps_set (i := 2) nd rfl (by first | exact Or.inl rfl | exact Or.inr rfl) (pe_cal C__law_bits hr (pa_cons (pv 1) (pa_nil)))) (pss_one (ps_ret (pe_lc (own := [("_law_own", 3)]) (g := gName 3) (tt := tTest (tOp (rEqD K) (tOp rAnd (tVar 3) (tVar 2)) (tVar 2))) (te := tVar 3) rfl nd (pi_list (pv 0)) (blkOk_by (N := N__law_with) (sc := defScope (top 54)) (by decide +kernel)) (fun _ _ _ _ _ => pg_name (i := 3) nd rfl (by first | exact Or.inl rfl | exact Or.inr rfl)) (fun _ _ _ _ _ => pts_one (pt_cmpR (op_eqD hr.units) (pe_op op_and (pv 3) (pv 2)) (pv 2) (nomark _))) (fun _ _ _ _ _ => pv 3))))
theorem len__law_with : ∀ as r, R__law_with as r → as.length = p__law_with.length := by rintro _ _ ⟨a, b, rfl, _⟩; rfl
theorem ok__law_with {P : Program} {w : World} {K : PySem.W.Frag} : ∀ as r, R__law_with as r → ∀ (E0 Ni : Hp) (D : Ends), Rt E0 Ni r D.rt → Okk E0 Ni (t__law_with K P w) D (s0 N__law_with as) := by
  rintro _ _ ⟨es, m, rfl, he, hm, rfl⟩ E0 Ni D hR
  refine okk_set (de_call (dea_1 (de_var (d := lt m) rfl)) ⟨m, rfl, hm, rfl⟩) ?_
  exact okk_ret (DeN.de (den_filter es (dei_list (xs := es.map nI) (de_var rfl)) he (by decide) (fun e => decide (e &&& m = m)) nI (fun e hx => deb_test (de_eqI (de_and (a := e) (b := m) (de_var rfl) (de_var rfl)) (de_var rfl))) fun e hx _ => de_var rfl)) hR

theorem cal__law_with {P : Program} {w : World} {K : PySem.W.Frag} {mg : Str → Option Value} {base : Heap} {f : Addr} {fd : FuncData} (T : Tx K mg) (C__law_bits : Cal P w K mg base 1 "_law_bits" p__law_bits sp__law_bits) (F : FnP K "_law_with" (top 54) f fd) (hm : mg "_law_with" = some (.ref f)) : Cal P w K mg base 2 "_law_with" p__law_with sp__law_with :=
  cal_of F hm (FunD.bindsN F fun _ _ _ _ _ _ us hl => match us, hl with | [_, _], _ => rfl) (fn_data F sc__law_with (len__law_with) fun cdv A outer s H E hr => ⟨_, ps__law_with T C__law_bits cdv A outer s H E hr, ok__law_with⟩)

def sxM (m : Nat) : List Nat := m :: (conM E8 m).map fun e => e ^^^ m
def R__law_fours_by (as : List Dat) (r : Dat) : Prop := ∃ m : Nat, as = [boardD, lt m] ∧ m < 2 ^ 24 ∧ (∀ x ∈ sxM m, x < 2 ^ 24 ∧ x ≠ 0) ∧ r = .tuple (srt ((sxM m).map lt))

abbrev sp__law_fours_by : Sp := spD R__law_fours_by
abbrev N__law_fours_by : List Str := ["_law_board_so", "_law_lot_so", "_law_rows_so", "_law_own"]
abbrev p__law_fours_by : List Str := ["_law_board_so", "_law_lot_so"]
theorem sc__law_fours_by : FnScope N__law_fours_by p__law_fours_by (defScope (top 55)) := ⟨rfl, rfl, rfl, by decide +kernel, rfl, by decide +kernel, by decide +kernel⟩
def t__law_fours_by (K : PySem.W.Frag) (P : Program) (w : World) : TS := tSeq (tAsg (tLc (iList K (tCall sp__law_with [] E0 (tCons (tOp (rIx K) (tVar 0) (tC (.int 1))) (tCons (tVar 1) (tNil))))) (gName 3) (tYes) (tOp rXor (tVar 3) (tCall sp__law_bits [] E0 (tCons (tVar 1) (tNil)))) [3]) (gName 2)) (tRet (tCB (rTupS K) (tCons (tCB (rSortD K) (tCons (tOp rCat (tLst (tCons (tCB (rTupS K) (tCons (tVar 1) (tNil))) (tNil))) (tLc (iList K (tVar 2)) (gName 3) (tYes) (tCall sp__law_lot [] E0 (tCons (tVar 3) (tNil))) [3])) (tNil))) (tNil))))
theorem ps__law_fours_by {P : Program} {w : World} {K : PySem.W.Frag} {mg : Str → Option Value} {base : Heap} {f : Addr} (T : Tx K mg) (C__law_with : Cal P w K mg base 2 "_law_with" p__law_with sp__law_with) (C__law_bits : Cal P w K mg base 1 "_law_bits" p__law_bits sp__law_bits) (C__law_lot : Cal P w K mg base 1 "_law_lot" p__law_lot sp__law_lot) (cdv : Value) (A : Around) (outer : List Env) (s : Shared) (H : Hp) (E : XK) (hr : Room 2 (A.deeper (envOfC "_law_fours_by" (defScope (top 55)) s.heap.objs.size f cdv))) :
    PSs (cxOf CX0 P w K mg base N__law_fours_by "_law_fours_by" (defScope (top 55)) f cdv A outer s H E).nox (defBody (top 55)) (t__law_fours_by K P w) := by
  have nd := sc__law_fours_by.nd
  have hu := hu_of hr
  unfold t__law_fours_by
  exact pss_cons (ps_setLc (i := 2) (own := [("_law_own", 3)]) (g := gName 3) (tt := tYes) (te := tOp rXor (tVar 3) (tCall sp__law_bits [] E0 (tCons (tVar 1) (tNil)))) rfl nd rfl rfl (sw_true rfl rfl rfl (by decide +kernel)) (pi_list (pe_cal C__law_with hr (pa_cons (pe_ix ix_seq (pv 0) (pe_int) (fun _ _ => rfl)) (pa_cons (pv 1) (pa_nil))))) (blkOk_by (N := N__law_fours_by) (sc := defScope (top 55)) (by decide +kernel)) (fun _ _ _ _ _ => pg_name (i := 3) nd rfl (by first | exact Or.inl rfl | exact Or.inr rfl)) (fun _ _ _ _ _ => pts_nil) (fun _ _ _ _ _ => pe_op op_xor (pv 3) (pe_cal C__law_bits hr (pa_cons (pv 1) (pa_nil))))) (pss_one (ps_ret (pe_ty T.tuple call_tuple_of (pa_cons (pe_bi T.sorted (cr_sortD hr.units) (pa_cons (pe_op op_cat (pe_lst (pa_cons (pe_ty T.tuple call_tuple_of (pa_cons (pv 1) (pa_nil))) (pa_nil))) (pe_lc (own := [("_law_own", 3)]) (g := gName 3) (tt := tYes) (te := tCall sp__law_lot [] E0 (tCons (tVar 3) (tNil))) rfl nd (pi_list (pv 2)) (blkOk_by (N := N__law_fours_by) (sc := defScope (top 55)) (by decide +kernel)) (fun _ _ _ _ _ => pg_name (i := 3) nd rfl (by first | exact Or.inl rfl | exact Or.inr rfl)) (fun _ _ _ _ _ => pts_nil) (fun _ _ _ _ _ => pe_cal C__law_lot hr (pa_cons (pv 3) (pa_nil))))) (pa_nil))) (pa_nil)))))
theorem len__law_fours_by : ∀ as r, R__law_fours_by as r → as.length = p__law_fours_by.length := by rintro _ _ ⟨a, rfl, _⟩; rfl
theorem conM_len (m : Nat) : (conM E8 m).length ≤ 4096 := Nat.le_trans (List.length_filter_le _ _) E8_len
theorem ok__law_fours_by {P : Program} {w : World} {K : PySem.W.Frag} : ∀ as r, R__law_fours_by as r → ∀ (E0 Ni : Hp) (D : Ends), Rt E0 Ni r D.rt → Okk E0 Ni (t__law_fours_by K P w) D (s0 N__law_fours_by as) := by
  rintro _ _ ⟨m, rfl, hm, hx, rfl⟩ E0 Ni D hR
  have hc := conM_len m
  refine okk_set (d := lN ((conM E8 m).map fun e => e ^^^ m)) ((DeN.de (den_map (conM E8 m) (r := fun e => nI (e ^^^ m)) (dei_list (xs := (conM E8 m).map nI) (de_call (dea_2 (de_ix (j := 1) (z := lN E8) (de_var (d := boardD) rfl) (de_n 1) (.inr rfl) rfl) (de_var (d := lt m) rfl)) ⟨E8, m, rfl, Nat.le_trans E8_len (by decide), hm, rfl⟩)) (by omega) (by decide) fun e he => de_xor (a := e) (b := m) (de_var rfl) (de_call (dea_1 (de_var (d := lt m) rfl)) ⟨m, rfl, hm, rfl⟩))).to (by unfold lN; rw [List.map_map]; rfl)) ?_
  refine okk_ret (de_tupS (DeN.de (den_sortT (n := 1) (x := .list ((sxM m).map lt)) (DeN.de ((den_op (x := .list [lt m]) (y := .list (((conM E8 m).map fun e => e ^^^ m).map lt)) (DeN.de (den_lst (dea_1 (de_tupS (x := lt m) (de_var rfl) (.inr rfl))) (Nat.le_of_ble_eq_true rfl))) (DeN.de (den_map ((conM E8 m).map fun e => e ^^^ m) (r := lt) (dei_list (xs := ((conM E8 m).map fun e => e ^^^ m).map nI) (de_var rfl)) (by rw [List.length_map]; omega) (by decide) fun x hx => de_call (dea_1 (de_var (d := nI x) rfl)) ⟨x, rfl, rfl⟩)) (drn_cat (by rw [List.length_map, List.length_map]; show 1 + _ ≤ _; omega))).to (ds := _) ?_)) (.inl rfl) (by decide) (lv_map lv_lt _) (.inl (.inl fun d hd => ?_)))) (.inl rfl)) hR
  · rfl
  · obtain ⟨x, hxm, rfl⟩ := List.mem_map.mp hd
    have := bitsL_ne (hx x hxm).1 (hx x hxm).2
    unfold lt tN
    cases e : bitsL x with
    | nil => exact absurd e this
    | cons a l => exact ⟨_, _, rfl⟩

theorem cal__law_fours_by {P : Program} {w : World} {K : PySem.W.Frag} {mg : Str → Option Value} {base : Heap} {f : Addr} {fd : FuncData} (T : Tx K mg) (C__law_with : Cal P w K mg base 2 "_law_with" p__law_with sp__law_with) (C__law_bits : Cal P w K mg base 1 "_law_bits" p__law_bits sp__law_bits) (C__law_lot : Cal P w K mg base 1 "_law_lot" p__law_lot sp__law_lot) (F : FnP K "_law_fours_by" (top 55) f fd) (hm : mg "_law_fours_by" = some (.ref f)) : Cal P w K mg base 3 "_law_fours_by" p__law_fours_by sp__law_fours_by :=
  cal_of F hm (FunD.bindsN F fun _ _ _ _ _ _ us hl => match us, hl with | [_, _], _ => rfl) (fn_data F sc__law_fours_by (len__law_fours_by) fun cdv A outer s H E hr => ⟨_, ps__law_fours_by T C__law_with C__law_bits C__law_lot cdv A outer s H E hr, ok__law_fours_by⟩)

def R__law_table (as : List Dat) (r : Dat) : Prop := ∃ ms ns : List Nat, as = [.tuple (ms.map lt), .tuple (ns.map lt)] ∧ ms.length ≤ 1000 ∧ ns.length ≤ 1000 ∧ r = tabM ms ns

abbrev sp__law_table : Sp := spD R__law_table
abbrev N__law_table : List Str := ["_law_one_so", "_law_other_so", "_law_found", "_law_own", "_law_its", "_law_lamp_so"]
abbrev p__law_table : List Str := ["_law_one_so", "_law_other_so"]
theorem sc__law_table : FnScope N__law_table p__law_table (defScope (top 56)) := ⟨rfl, rfl, rfl, by decide +kernel, rfl, by decide +kernel, by decide +kernel⟩
def t__law_table (K : PySem.W.Frag) (P : Program) (w : World) : TS := tSeq (tAsg (tLst (tNil)) (gName 2)) (tSeq (tFor (iTup K (tVar 0)) (gName 3) (tDrop (tBM K "list" rAppend (tVar 2) (tCons (tCB (rTupS K) (tCons (tLc (iTup K (tVar 1)) (gName 4) (tYes) (tCB (rLenS K) (tCons (tLc (iTup K (tVar 4)) (gName 5) (tTest (tOp (rIn K false) (tVar 5) (tVar 3))) (tVar 5) [5]) (tNil))) [4]) (tNil))) (tNil))))) (tRet (tCB (rTupS K) (tCons (tVar 2) (tNil)))))
theorem ps__law_table {P : Program} {w : World} {K : PySem.W.Frag} {mg : Str → Option Value} {base : Heap} {f : Addr} (T : Tx K mg) (cdv : Value) (A : Around) (outer : List Env) (s : Shared) (H : Hp) (E : XK) (hr : Room 0 (A.deeper (envOfC "_law_table" (defScope (top 56)) s.heap.objs.size f cdv))) :
    PSs (cxOf CX0 P w K mg base N__law_table "_law_table" (defScope (top 56)) f cdv A outer s H E).nox (defBody (top 56)) (t__law_table K P w) := by
  have nd := sc__law_table.nd
  have hu := hu_of hr
  unfold t__law_table
  exact pss_cons (ps_set (i := 2) nd rfl (by first | exact Or.inl rfl | exact Or.inr rfl) (pe_lst (pa_nil))) (pss_cons (ps_for PassesOwn.never rfl (pi_tup (pv 0)) (pg_name (i := 3) nd rfl (by first | exact Or.inl rfl | exact Or.inr rfl)) (pss_one (ps_expr (pe_bm PySem.F.plainAttrs_list PySem.F.slot_list_append PySem.F.type_list_append mt_append (pv 2) (pa_cons (pe_ty T.tuple call_tuple_of (pa_cons (pe_lc (own := [("_law_its", 4)]) (g := gName 4) (tt := tYes) (te := tCB (rLenS K) (tCons (tLc (iTup K (tVar 4)) (gName 5) (tTest (tOp (rIn K false) (tVar 5) (tVar 3))) (tVar 5) [5]) (tNil))) rfl nd (pi_tup (pv 1)) (blkOk_by (N := N__law_table) (sc := defScope (top 56)) (by decide +kernel)) (fun _ _ _ _ _ => pg_name (i := 4) nd rfl (by first | exact Or.inl rfl | exact Or.inr rfl)) (fun _ _ _ _ _ => pts_nil) (fun _ _ _ _ _ => pe_bi T.len call_len_seq (pa_cons (pe_lc (own := [("_law_lamp_so", 5)]) (g := gName 5) (tt := tTest (tOp (rIn K false) (tVar 5) (tVar 3))) (te := tVar 5) rfl nd (pi_tup (pv 4)) (blkOk_by (N := N__law_table) (by first | kernel_rfl | rfl)) (fun _ _ _ _ _ => pg_name (i := 5) nd rfl (by first | exact Or.inl rfl | exact Or.inr rfl)) (fun _ _ _ _ _ => pts_one (pt_cmpR op_in_seq (pv 5) (pv 3) (by rfl))) (fun _ _ _ _ _ => pv 5)) (pa_nil)))) (pa_nil))) (pa_nil)))))) (pss_one (ps_ret (pe_ty T.tuple call_tuple_of (pa_cons (pv 2) (pa_nil))))))
theorem len__law_table : ∀ as r, R__law_table as r → as.length = p__law_table.length := by rintro _ _ ⟨a, b, rfl, _⟩; rfl
theorem ok__law_table {P : Program} {w : World} {K : PySem.W.Frag} : ∀ as r, R__law_table as r → ∀ (E0 Ni : Hp) (D : Ends), Rt E0 Ni r D.rt → Okk E0 Ni (t__law_table K P w) D (s0 N__law_table as) := by
  rintro _ _ ⟨ms, ns, rfl, hm, hn, rfl⟩ E0 Ni D hR
  let f : Nat → Dat := fun m => .tuple (ns.map fun n => nI (popc (n &&& m)))
  refine okk_own (xs := []) (den_lst dea_nil (by decide)) ?_
  refine okk_for (j := 3) (dei_tup (xs := ms.map lt) (de_var rfl)) (fun i => [.val (.tuple (ms.map lt)), .val (.tuple (ns.map lt)), .own ((ms.take i).map f), .no, .no, .no]) rfl (fun Nj i d hd => ?_) ?_
  · obtain ⟨a, ha, rfl⟩ := get_map hd
    refine okk_appN [3] rfl (d := f a) (de_tupS (DeN.de (den_map ns (r := fun n => nI (popc (n &&& a))) (dei_tup (xs := ns.map lt) (de_var rfl)) (by omega) (by decide) fun s hs => ?_)) (.inl rfl)) ?_ ?_
    · have h1 := popc_le s
      unfold popc at h1
      refine (de_len (DeN.de (den_filter (bitsL s) (dei_tup (xs := (bitsL s).map nI) (de_var rfl)) (by omega) (by decide) (fun i => decide (i ∈ bitsL a)) nI (fun i hi => deb_test (de_isIn (de_var (d := nI i) rfl) (de_var (d := lt a) rfl) (.inr rfl))) fun i hi _ => de_var rfl)) (.inl rfl)).to ?_
      rw [List.length_map, bitsL_and]; rfl
    · rw [List.length_map]
      have := List.length_take_le' i ms
      omega
    · show _ = [Sk.val (.tuple (ms.map lt)), .val (.tuple (ns.map lt)), .own ((ms.take (i + 1)).map f), .no, .no, .no]
      rw [List.take_succ, ha, List.map_append]
      rfl
  · rw [List.length_map, List.take_length]
    refine okk_freeze (j := 2) rfl ?_
    exact okk_ret (de_tupS (x := .list (ms.map f)) (de_var rfl) (.inl rfl)) hR

theorem cal__law_table {P : Program} {w : World} {K : PySem.W.Frag} {mg : Str → Option Value} {base : Heap} {f : Addr} {fd : FuncData} (T : Tx K mg) (F : FnP K "_law_table" (top 56) f fd) (hm : mg "_law_table" = some (.ref f)) : Cal P w K mg base 1 "_law_table" p__law_table sp__law_table :=
  cal_of F hm (FunD.bindsN F fun _ _ _ _ _ _ us hl => match us, hl with | [_, _], _ => rfl) (fn_data F sc__law_table (len__law_table) fun cdv A outer s H E hr => ⟨_, ps__law_table T cdv A outer s H E hr, ok__law_table⟩)

def R__law_joined (as : List Dat) (r : Dat) : Prop := ∃ a b : Nat, as = [lt a, lt b] ∧ a &&& b = 0 ∧ r = lt (a ||| b)
theorem or_perm {a b : Nat} (h : a &&& b = 0) : (bitsL (a ||| b)).Perm (bitsL a ++ bitsL b) := by
  refine (List.perm_ext_iff_of_nodup (bitsL_nodup _) ?_).mpr fun i => bitsL_or_mem a b i
  rw [List.nodup_append]
  refine ⟨bitsL_nodup a, bitsL_nodup b, fun x hx y hy e => ?_⟩
  subst e
  have h1 := (mem_bitsL.mp hx).2
  have h2 := (mem_bitsL.mp hy).2
  have : (a &&& b).testBit x = true := by rw [Nat.testBit_and, h1, h2]; rfl
  rw [h] at this
  simp at this

abbrev sp__law_joined : Sp := spD R__law_joined
abbrev N__law_joined : List Str := ["_law_one_so", "_law_two_so"]
abbrev p__law_joined : List Str := ["_law_one_so", "_law_two_so"]
theorem sc__law_joined : FnScope N__law_joined p__law_joined (defScope (top 57)) := ⟨rfl, rfl, rfl, by decide +kernel, rfl, by decide +kernel, by decide +kernel⟩
def t__law_joined (K : PySem.W.Frag) (P : Program) (w : World) : TS := tRet (tCB (rTupS K) (tCons (tCB (rSortD K) (tCons (tOp (rCatA K) (tVar 0) (tVar 1)) (tNil))) (tNil)))
theorem ps__law_joined {P : Program} {w : World} {K : PySem.W.Frag} {mg : Str → Option Value} {base : Heap} {f : Addr} (T : Tx K mg) (cdv : Value) (A : Around) (outer : List Env) (s : Shared) (H : Hp) (E : XK) (hr : Room 0 (A.deeper (envOfC "_law_joined" (defScope (top 57)) s.heap.objs.size f cdv))) :
    PSs (cxOf CX0 P w K mg base N__law_joined "_law_joined" (defScope (top 57)) f cdv A outer s H E).nox (defBody (top 57)) (t__law_joined K P w) := by
  have nd := sc__law_joined.nd
  have hu := hu_of hr
  unfold t__law_joined
  exact pss_one (ps_ret (pe_ty T.tuple call_tuple_of (pa_cons (pe_bi T.sorted (cr_sortD hr.units) (pa_cons (pe_op op_catA (pv 0) (pv 1)) (pa_nil))) (pa_nil))))
theorem len__law_joined : ∀ as r, R__law_joined as r → as.length = p__law_joined.length := by rintro _ _ ⟨a, b, rfl, _⟩; rfl
theorem ok__law_joined {P : Program} {w : World} {K : PySem.W.Frag} : ∀ as r, R__law_joined as r → ∀ (E0 Ni : Hp) (D : Ends), Rt E0 Ni r D.rt → Okk E0 Ni (t__law_joined K P w) D (s0 N__law_joined as) := by
  rintro _ _ ⟨a, b, rfl, hab, rfl⟩ E0 Ni D hR
  have h1 := popc_le a
  have h2 := popc_le b
  unfold popc at h1 h2
  exact okk_ret (de_tupS (DeN.de (den_sortI (x := tN (bitsL a ++ bitsL b)) (l := bitsL a ++ bitsL b) ((de_op (x := lt a) (y := lt b) (de_var rfl) (de_var rfl) (dr_catT (by rw [List.length_map, List.length_map]; omega))).to (tN_cat _ _)) (.inr rfl) (or_perm hab) ((bitsL_asc _).imp Nat.le_of_lt))) (.inl rfl)) hR

theorem cal__law_joined {P : Program} {w : World} {K : PySem.W.Frag} {mg : Str → Option Value} {base : Heap} {f : Addr} {fd : FuncData} (T : Tx K mg) (F : FnP K "_law_joined" (top 57) f fd) (hm : mg "_law_joined" = some (.ref f)) : Cal P w K mg base 1 "_law_joined" p__law_joined sp__law_joined :=
  cal_of F hm (FunD.bindsN F fun _ _ _ _ _ _ us hl => match us, hl with | [_, _], _ => rfl) (fn_data F sc__law_joined (len__law_joined) fun cdv A outer s H E hr => ⟨_, ps__law_joined T cdv A outer s H E hr, ok__law_joined⟩)

def R__law_refined (as : List Dat) (r : Dat) : Prop := ∃ ms ns M : List Nat, as = [.tuple (ms.map lt), .tuple (ns.map lt)] ∧ ms.length ≤ 6 ∧ ns.length ≤ 6 ∧ (∀ m ∈ ms, m < 2 ^ 24) ∧ M.Nodup ∧ (∀ x, x ∈ M ↔ x ≠ 0 ∧ x ∈ refM ms ns) ∧ r = .tuple (srt (M.map lt))

abbrev sp__law_refined : Sp := spD R__law_refined
abbrev N__law_refined : List Str := ["_law_one_so", "_law_other_so", "_law_found", "_law_own", "_law_its", "_law_lamp_so"]
abbrev p__law_refined : List Str := ["_law_one_so", "_law_other_so"]
theorem sc__law_refined : FnScope N__law_refined p__law_refined (defScope (top 59)) := ⟨rfl, rfl, rfl, by decide +kernel, rfl, by decide +kernel, by decide +kernel⟩
def t__law_refined (K : PySem.W.Frag) (P : Program) (w : World) : TS := tSeq (tAsg (tLst (tNil)) (gName 2)) (tSeq (tFor (iTup K (tVar 0)) (gName 3) (tAsg (tOp rCat (tVar 2) (tLc (iTup K (tVar 1)) (gName 4) (tYes) (tCB (rTupS K) (tCons (tLc (iTup K (tVar 3)) (gName 5) (tTest (tOp (rIn K false) (tVar 5) (tVar 4))) (tVar 5) [5]) (tNil))) [4])) (gName 2))) (tRet (tCB (rTupS K) (tCons (tCB (rSortTwo K P w) (tCons (tCB (rSetTwo K P w) (tCons (tLc (iList K (tVar 2)) (gName 3) (tTest (tOp (rNeD K) (tVar 3) (tTup (tNil)))) (tVar 3) [3]) (tNil))) (tNil))) (tNil)))))
theorem ps__law_refined {P : Program} {w : World} {K : PySem.W.Frag} {mg : Str → Option Value} {base : Heap} {f : Addr} (T : Tx K mg) (cdv : Value) (A : Around) (outer : List Env) (s : Shared) (H : Hp) (E : XK) (hr : Room 0 (A.deeper (envOfC "_law_refined" (defScope (top 59)) s.heap.objs.size f cdv))) :
    PSs (cxOf CX0 P w K mg base N__law_refined "_law_refined" (defScope (top 59)) f cdv A outer s H E).nox (defBody (top 59)) (t__law_refined K P w) := by
  have nd := sc__law_refined.nd
  have hu := hu_of hr
  unfold t__law_refined
  exact pss_cons (ps_set (i := 2) nd rfl (by first | exact Or.inl rfl | exact Or.inr rfl) (pe_lst (pa_nil))) (pss_cons (ps_for PassesOwn.never rfl (pi_tup (pv 0)) (pg_name (i := 3) nd rfl (by first | exact Or.inl rfl | exact Or.inr rfl)) (pss_one (ps_set (i := 2) nd rfl (by first | exact Or.inl rfl | exact Or.inr rfl) (pe_op op_cat (pv 2) (pe_lc (own := [("_law_its", 4)]) (g := gName 4) (tt := tYes) (te := tCB (rTupS K) (tCons (tLc (iTup K (tVar 3)) (gName 5) (tTest (tOp (rIn K false) (tVar 5) (tVar 4))) (tVar 5) [5]) (tNil))) rfl nd (pi_tup (pv 1)) (blkOk_by (N := N__law_refined) (sc := defScope (top 59)) (by decide +kernel)) (fun _ _ _ _ _ => pg_name (i := 4) nd rfl (by first | exact Or.inl rfl | exact Or.inr rfl)) (fun _ _ _ _ _ => pts_nil) (fun _ _ _ _ _ => pe_ty T.tuple call_tuple_of (pa_cons (pe_lc (own := [("_law_lamp_so", 5)]) (g := gName 5) (tt := tTest (tOp (rIn K false) (tVar 5) (tVar 4))) (te := tVar 5) rfl nd (pi_tup (pv 3)) (blkOk_by (N := N__law_refined) (by first | kernel_rfl | rfl)) (fun _ _ _ _ _ => pg_name (i := 5) nd rfl (by first | exact Or.inl rfl | exact Or.inr rfl)) (fun _ _ _ _ _ => pts_one (pt_cmpR op_in_seq (pv 5) (pv 4) (by rfl))) (fun _ _ _ _ _ => pv 5)) (pa_nil)))))))) (pss_one (ps_ret (pe_ty T.tuple call_tuple_of (pa_cons (pe_bi T.sorted (CallR.or (cr_sortedSet rfl) (cr_sortTS rfl hr.units)) (pa_cons (pe_ty T.set (CallR.or (cr_setI rfl) (cr_setOfT rfl hr.units)) (pa_cons (pe_lc (own := [("_law_own", 3)]) (g := gName 3) (tt := tTest (tOp (rNeD K) (tVar 3) (tTup (tNil)))) (te := tVar 3) rfl nd (pi_list (pv 2)) (blkOk_by (N := N__law_refined) (sc := defScope (top 59)) (by decide +kernel)) (fun _ _ _ _ _ => pg_name (i := 3) nd rfl (by first | exact Or.inl rfl | exact Or.inr rfl)) (fun _ _ _ _ _ => pts_one (pt_cmpR (op_neD hr.units) (pv 3) (pe_tup (pa_nil)) (nomark _))) (fun _ _ _ _ _ => pv 3)) (pa_nil))) (pa_nil))) (pa_nil))))))
theorem len__law_refined : ∀ as r, R__law_refined as r → as.length = p__law_refined.length := by rintro _ _ ⟨a, b, c, rfl, _⟩; rfl
theorem ok__law_refined {P : Program} {w : World} {K : PySem.W.Frag} : ∀ as r, R__law_refined as r → ∀ (E0 Ni : Hp) (D : Ends), Rt E0 Ni r D.rt → Okk E0 Ni (t__law_refined K P w) D (s0 N__law_refined as) := by
  rintro _ _ ⟨ms, ns, M, rfl, hm, hn, hb, hM, hi, rfl⟩ E0 Ni D hR
  have hlen := refM_len ms ns
  have h36 : ms.length * ns.length ≤ 36 := Nat.mul_le_mul hm hn
  refine okk_set (d := .list []) (DeN.de (den_lst dea_nil (by decide))) ?_
  refine okk_for (j := 3) (dei_tup (xs := ms.map lt) (de_var rfl)) (fun i => [.val (.tuple (ms.map lt)), .val (.tuple (ns.map lt)), .val (.list ((refM (ms.take i) ns).map lt)), .no, .no, .no]) rfl (fun Nj i z hz => ?_) ?_
  · obtain ⟨a, ha, rfl⟩ := get_map hz
    have h1 := popc_le a
    unfold popc at h1
    refine okk_setN [3] ((DeN.de (den_op (x := .list ((refM (ms.take i) ns).map lt)) (y := .list (ns.map fun b => lt (a &&& b))) (de_var rfl) (DeN.de (den_map ns (r := fun b => lt (a &&& b)) (dei_tup (xs := ns.map lt) (de_var rfl)) (by omega) (by decide) fun b hb => ?_)) (drn_cat ?_))).to (e := .list ((refM (ms.take (i + 1)) ns).map lt)) ?_) rfl
    · refine (de_tupS (DeN.de (den_filter (bitsL a) (dei_tup (xs := (bitsL a).map nI) (de_var rfl)) (by omega) (by decide) (fun i => decide (i ∈ bitsL b)) nI (fun i hi => deb_test (de_isIn (de_var (d := nI i) rfl) (de_var (d := lt b) rfl) (.inr rfl))) fun i hi _ => de_var rfl)) (.inl rfl)).to ?_
      rw [bitsL_and]; rfl
    · rw [List.length_map, List.length_map, refM_len, List.length_take]
      have := Nat.mul_le_mul (Nat.min_le_right i ms.length) (Nat.le_refl ns.length)
      omega
    · rw [refM_take ha, List.map_append, List.map_map]
      rfl
  · rw [List.length_map, List.take_length]
    have hq : ∀ x ∈ (refM ms ns).filter (fun x => decide (x ≠ 0)), x < 2 ^ 24 := fun m hm => refM_bd hb m (List.mem_filter.mp hm).1
    refine okk_ret (de_tupS (DeN.de ((den_setL (L := ((refM ms ns).filter fun x => decide (x ≠ 0)).map bitsL) (M := M.map bitsL) ((DeN.de (den_filter (refM ms ns) (dei_list (xs := (refM ms ns).map lt) (de_var rfl)) (by omega) (by decide) (fun x => decide (x ≠ 0)) lt (fun x hx => ?_) fun x hx _ => de_var rfl)).to (by rw [lt_bits])) ?_ ?_ ?_ (bits_mem ?_)).to (by rw [lt_bits]))) (.inl rfl)) hR
    · exact deb_test ((de_op (de_var (d := lt x) rfl) (de_tup dea_nil (by decide)) (dr_neD (shaped_lt x) rfl)).to (by rw [eqv_lt0 x (refM_bd hb x hx)]))
    · rw [List.length_map]
      exact Nat.le_trans (List.length_filter_le _ _) (by omega)
    · intro l h
      obtain ⟨m, hm, rfl⟩ := List.mem_map.mp h
      exact bitsL_ne (hq m hm) (of_decide_eq_true (List.mem_filter.mp hm).2)
    · exact bits_nodup (fun m hm => refM_bd hb m ((hi m).mp hm).2) hM
    · intro x
      rw [hi, List.mem_filter, decide_eq_true_iff]
      exact And.comm

theorem cal__law_refined {P : Program} {w : World} {K : PySem.W.Frag} {mg : Str → Option Value} {base : Heap} {f : Addr} {fd : FuncData} (T : Tx K mg) (F : FnP K "_law_refined" (top 59) f fd) (hm : mg "_law_refined" = some (.ref f)) : Cal P w K mg base 1 "_law_refined" p__law_refined sp__law_refined :=
  cal_of F hm (FunD.bindsN F fun _ _ _ _ _ _ us hl => match us, hl with | [_, _], _ => rfl) (fn_data F sc__law_refined (len__law_refined) fun cdv A outer s H E hr => ⟨_, ps__law_refined T cdv A outer s H E hr, ok__law_refined⟩)

def numM (ms ns : List Nat) : List Nat := (List.range 9).filter fun n => ms.any fun m => decide (n ∈ ns.map fun z => popc (z &&& m))
def R__law_numbers (as : List Dat) (r : Dat) : Prop := ∃ ms ns : List Nat, as = [tabM ms ns] ∧ ms.length ≤ 1000 ∧ r = tN (numM ms ns)

abbrev sp__law_numbers : Sp := spD R__law_numbers
abbrev N__law_numbers : List Str := ["_law_table_so", "_law_own", "_law_row_so"]
abbrev p__law_numbers : List Str := ["_law_table_so"]
theorem sc__law_numbers : FnScope N__law_numbers p__law_numbers (defScope (top 60)) := ⟨rfl, rfl, rfl, by decide +kernel, rfl, by decide +kernel, by decide +kernel⟩
def t__law_numbers (K : PySem.W.Frag) (P : Program) (w : World) : TS := tRet (tCB (rTupS K) (tCons (tLc (iRng1 (tCons (tC (.int 9)) (tNil))) (gName 1) (tTest (tOp (rNeD K) (tLc (iTup K (tVar 0)) (gName 2) (tTest (tOp (rIn K false) (tVar 1) (tVar 2))) (tC (.int 1)) [2]) (tLst (tNil)))) (tVar 1) [1]) (tNil)))
theorem ps__law_numbers {P : Program} {w : World} {K : PySem.W.Frag} {mg : Str → Option Value} {base : Heap} {f : Addr} (T : Tx K mg) (cdv : Value) (A : Around) (outer : List Env) (s : Shared) (H : Hp) (E : XK) (hr : Room 0 (A.deeper (envOfC "_law_numbers" (defScope (top 60)) s.heap.objs.size f cdv))) :
    PSs (cxOf CX0 P w K mg base N__law_numbers "_law_numbers" (defScope (top 60)) f cdv A outer s H E).nox (defBody (top 60)) (t__law_numbers K P w) := by
  have nd := sc__law_numbers.nd
  have hu := hu_of hr
  unfold t__law_numbers
  exact pss_one (ps_ret (pe_ty T.tuple call_tuple_of (pa_cons (pe_lc (own := [("_law_own", 1)]) (g := gName 1) (tt := tTest (tOp (rNeD K) (tLc (iTup K (tVar 0)) (gName 2) (tTest (tOp (rIn K false) (tVar 1) (tVar 2))) (tC (.int 1)) [2]) (tLst (tNil)))) (te := tVar 1) rfl nd (pi_range1 rfl T.range (pa_cons (pe_int) (pa_nil))) (blkOk_by (N := N__law_numbers) (sc := defScope (top 60)) (by decide +kernel)) (fun _ _ _ _ _ => pg_name (i := 1) nd rfl (by first | exact Or.inl rfl | exact Or.inr rfl)) (fun _ _ _ _ _ => pts_one (pt_cmpR (op_neD hr.units) (pe_lc (own := [("_law_row_so", 2)]) (g := gName 2) (tt := tTest (tOp (rIn K false) (tVar 1) (tVar 2))) (te := tC (.int 1)) rfl nd (pi_tup (pv 0)) (blkOk_by (N := N__law_numbers) (by first | kernel_rfl | rfl)) (fun _ _ _ _ _ => pg_name (i := 2) nd rfl (by first | exact Or.inl rfl | exact Or.inr rfl)) (fun _ _ _ _ _ => pts_one (pt_cmpR op_in_seq (pv 1) (pv 2) (by rfl))) (fun _ _ _ _ _ => pe_int)) (pe_lst (pa_nil)) (nomark _))) (fun _ _ _ _ _ => pv 1)) (pa_nil))))
theorem len__law_numbers : ∀ as r, R__law_numbers as r → as.length = p__law_numbers.length := by rintro _ _ ⟨a, b, rfl, _⟩; rfl
theorem ne_nil1 {α : Type} (l : List α) : (!PyData.eqv (.list (l.map fun _ => nI 1)) (.list [])) = !l.isEmpty := by
  cases l <;> rfl
theorem shaped_ones {α : Type} (l : List α) : SeqAt.shaped (.list (l.map fun _ => nI 1)) = true := by
  induction l with
  | nil => rfl
  | cons a l ih => exact ih
theorem ok__law_numbers {P : Program} {w : World} {K : PySem.W.Frag} : ∀ as r, R__law_numbers as r → ∀ (E0 Ni : Hp) (D : Ends), Rt E0 Ni r D.rt → Okk E0 Ni (t__law_numbers K P w) D (s0 N__law_numbers as) := by
  rintro _ _ ⟨ms, ns, rfl, hm, rfl⟩ E0 Ni D hR
  let f : Nat → Dat := fun m => .tuple (ns.map fun n => nI (popc (n &&& m)))
  refine okk_ret (de_tupS (DeN.de (den_filter (List.range 9) (dei_rngN (n := 9) (de_n 9) (by decide)) (by decide) (by decide) (fun n => ms.any fun m => decide (n ∈ ns.map fun z => popc (z &&& m))) nI (fun n hn => ?_) fun n hn _ => de_var rfl)) (.inl rfl)) hR
  refine deb_test ((de_op (DeN.de (den_filter ms (r := fun _ => nI 1) (dei_tup (xs := ms.map f) (de_var rfl)) (by omega) (by decide) (fun m => decide (n ∈ ns.map fun z => popc (z &&& m))) (fun m hm => deb_test (de_isIn (y := f m) (de_var (d := nI n) rfl) (de_var rfl) (.inr (by show PyData.tuple _ = _; rw [List.map_map]; rfl)))) fun m hm _ => de_n 1)) (DeN.de (den_lst dea_nil (by decide))) (dr_neD (shaped_ones _) rfl)).to ?_)
  rw [ne_nil1]
  congr 1
  have key : ∀ (l : List Nat) (p : Nat → Bool), (!(l.filter p).isEmpty) = l.any p := by
    intro l p
    induction l with
    | nil => rfl
    | cons a l ih =>
      rw [List.filter_cons, List.any_cons]
      cases p a with
      | true => rfl
      | false => rw [if_neg (by decide), ih]; rfl
  exact key _ _

theorem cal__law_numbers {P : Program} {w : World} {K : PySem.W.Frag} {mg : Str → Option Value} {base : Heap} {f : Addr} {fd : FuncData} (T : Tx K mg) (F : FnP K "_law_numbers" (top 60) f fd) (hm : mg "_law_numbers" = some (.ref f)) : Cal P w K mg base 1 "_law_numbers" p__law_numbers sp__law_numbers :=
  cal_of F hm (FunD.bindsN F fun _ _ _ _ _ _ us hl => match us, hl with | [_], _ => rfl) (fn_data F sc__law_numbers (len__law_numbers) fun cdv A outer s H E hr => ⟨_, ps__law_numbers T cdv A outer s H E hr, ok__law_numbers⟩)

end Ez

set_option Elab.async false
set_option linter.all false
set_option autoImplicit false
set_option maxRecDepth 100000
set_option maxHeartbeats 1000000
/-! defs that change the list tin at p: expressions, statements, promises -/
namespace Ez
open PySem L2 Fz PyProof.Rows
abbrev rMulS : R2 := rI CMul fun i j => .int (i * j)
/-- tin with a budget of n further draws -/
def Tv (o : HO) (n : Nat) : Prop := ∃ a b c : Int, o = .lst [.int a, .int b, .int c] ∧ 0 ≤ a ∧ 0 ≤ b ∧ b ≤ 2 ^ 62 ∧ 0 ≤ c ∧ c + n ≤ 1000000
theorem Tv.mono {o : HO} {n m : Nat} (h : Tv o n) (k : m ≤ n) : Tv o m := by
  obtain ⟨a, b, c, e, h1, h2, h3, h4, h5⟩ := h
  exact ⟨a, b, c, e, h1, h2, h3, h4, by omega⟩
structure Sx (p : Addr) (N H N' H' : Hp) : Prop where
  nn : Same N N'
  hh : ∀ a u, a ≠ p → H a = some u → H' a = some u
  nh : Same N' H'
  np : N' p = none
  fr : ∀ a, a ≠ p → Mb (H a) → N a = none → N' a = none
theorem Sx.of {p : Addr} {N H N' H' : Hp} (s : Stp N H N' H') (hp : Mb (H p)) (np : N p = none) : Sx p N H N' H' := ⟨s.nn, fun a u _ e => s.hh a u e, s.nh, s.fr p hp np, fun a _ => s.fr a⟩
theorem Sx.trans {p : Addr} {N H N1 H1 N2 H2 : Hp} (a : Sx p N H N1 H1) (b : Sx p N1 H1 N2 H2) : Sx p N H N2 H2 :=
  ⟨a.nn.trans b.nn, fun x u h e => b.hh x u h (a.hh x u h e), b.nh, b.np, fun x h e n => b.fr x h (by
    cases q : H x with
    | none => exact absurd q e.1
    | some u =>
      rw [a.hh x u h q]
      rw [q] at e
      exact e) (a.fr x h e n)⟩
theorem Tv.mb {o : HO} {n : Nat} (h : Tv o n) : Mb (some o) := by
  obtain ⟨a, b, c, rfl, _⟩ := h
  exact Ez.mb (by intro _ z; cases z)
def TinAt (H : Hp) (p : Addr) (n : Nat) : Prop := ∃ o, H p = some o ∧ Tv o n
theorem TinAt.ne {H : Hp} {p : Addr} {n : Nat} (h : TinAt H p n) : Mb (H p) := by obtain ⟨o, e, t⟩ := h; rw [e]; exact t.mb
theorem TinAt.step {N H N' H' : Hp} {p : Addr} {n : Nat} (h : TinAt H p n) (s : Stp N H N' H') : TinAt H' p n := by obtain ⟨o, e, t⟩ := h; exact ⟨o, s.hh _ _ e, t⟩
/-- a promise: from data es, at most k draws, a datum of which Po holds -/
abbrev RX := List Dat → Nat → (Dat → Prop) → Prop
def spX (Rl : RX) : Sp := fun vs H Q _ => ∃ p ws N as n k Po, vs = .ref p :: ws ∧ Same N H ∧ N p = none ∧ TinAt H p (n + k) ∧ RpA N ws as ∧ Rl as k Po ∧ ∀ v d N' H', Sx p N H N' H' → TinAt H' p n → Rp N' v d → Po d → Q v H'
def DX (p : Addr) (te : TE) (ds : Sd) (k : Nat) (Po : Dat → Prop) : Prop := ∀ σ N H, Sl N σ ds → σ[0]? = some (some (.ref p)) → Same N H → N p = none → ∀ n, TinAt H p (n + k) → ∀ Q : VK,
  (∀ v d N' H', Sx p N H N' H' → TinAt H' p n → Rp N' v d → Po d → Q v H') → te σ H Q
def DXA (p : Addr) (ta : TA) (ds : Sd) (k : Nat) (PA : List Dat → Prop) : Prop := ∀ σ N H, Sl N σ ds → σ[0]? = some (some (.ref p)) → Same N H → N p = none → ∀ n, TinAt H p (n + k) → ∀ Q : List V → Hp → Prop,
  (∀ vs es N' H', Sx p N H N' H' → TinAt H' p n → RpA N' vs es → PA es → Q vs H') → ta σ H Q
section
variable {p : Addr} {ds : Sd} {ta tb te : TE} {tr : TA} {k k1 k2 : Nat} {Po P1 P2 : Dat → Prop} {PA : List Dat → Prop} {d : Dat}
theorem dx_of (h : De te ds d) : DX p te ds 0 (fun x => x = d) := fun σ N H hs _ hk np n ht Q q => h σ N hs H hk Q fun v N1 H1 s1 r1 => q v d N1 H1 (Sx.of s1 ht.ne np) (ht.step s1) r1 rfl
theorem DX.imp (h : DX p te ds k P1) (hp : ∀ d, P1 d → P2 d) : DX p te ds k P2 := fun σ N H hs h0 hk np n ht Q q => h σ N H hs h0 hk np n ht Q fun v d N1 H1 s t r o => q v d N1 H1 s t r (hp d o)
theorem dxa_of {es : List Dat} (h : DeA tr ds es) : DXA p tr ds 0 (fun x => x = es) := fun σ N H hs _ hk np n ht Q q => h σ N hs H hk Q fun v N1 H1 s1 r1 => q v es N1 H1 (Sx.of s1 ht.ne np) (ht.step s1) r1 rfl
theorem dxa_nil : DXA p tNil ds 0 (fun x => x = []) := dxa_of dea_nil
theorem dxa_cons (h : DX p te ds k1 P1) (hr : DXA p tr ds k2 PA) : DXA p (tCons te tr) ds (k1 + k2) (fun es => ∃ x r, es = x :: r ∧ P1 x ∧ PA r) := fun σ N H hs h0 hk np n ht Q q =>
  h σ N H hs h0 hk np (n + k2) (by rw [Nat.add_assoc, Nat.add_comm k2]; exact ht) _ fun v d N1 H1 s1 t1 r1 o1 => hr σ N1 H1 (hs.mono s1.nn) h0 s1.nh s1.np n t1 _ fun vs es N2 H2 s2 t2 r2 o2 => q _ _ N2 H2 (s1.trans s2) t2 (.cons (r1.mono s2.nn) r2) ⟨d, es, rfl, o1, o2⟩
theorem dxa_1 (h : DX p te ds k P1) : DXA p (tCons te tNil) ds (k + 0) (fun es => ∃ x r, es = x :: r ∧ P1 x ∧ r = []) := dxa_cons h dxa_nil
theorem dx_cb {r : List V → Hp → VK → Prop} (h : DXA p tr ds k PA) (hr : ∀ es, PA es → ∃ z, DC r es z ∧ Po z) : DX p (tCB r tr) ds k Po := fun σ N H hs h0 hk np n ht Q q =>
  h σ N H hs h0 hk np n ht _ fun vs es N1 H1 s1 t1 r1 o1 => by
    obtain ⟨z, hz, oz⟩ := hr es o1
    exact hz N1 vs r1 H1 s1.nh Q fun u N2 H2 s2 r2 => q u z N2 H2 (s1.trans (Sx.of s2 t1.ne s1.np)) (t1.step s2) r2 oz
theorem dcn_dc {r : List V → Hp → VK → Prop} {xs zs : List Dat} (h : DCN r xs zs) : DC r xs (.list zs) := fun N vs r H k Q q => h N vs r H k Q fun a us N' H' s hp n e rr =>
  q _ _ _ (s.know hp n e) (.lst upd_same (rr.mono (same_new n)))
theorem drn_dr {r : R2} {x y : Dat} {zs : List Dat} (h : DRN r x y zs) : DR r x y (.list zs) := fun N v w r1 r2 H k Q q => h N v w r1 r2 H k Q fun a us N' H' s hp n e rr =>
  q _ _ _ (s.know hp n e) (.lst upd_same (rr.mono (same_new n)))
theorem dx_op {r : R2} (ha : DX p ta ds k1 P1) (hb : DX p tb ds k2 P2) (hr : ∀ x y, P1 x → P2 y → ∃ z, DR r x y z ∧ Po z) : DX p (tOp r ta tb) ds (k1 + k2) Po := fun σ N H hs h0 hk np n ht Q q =>
  ha σ N H hs h0 hk np (n + k2) (by rw [Nat.add_assoc, Nat.add_comm k2]; exact ht) _ fun v d N1 H1 s1 t1 r1 o1 => hb σ N1 H1 (hs.mono s1.nn) h0 s1.nh s1.np n t1 _ fun w e N2 H2 s2 t2 r2 o2 => by
    obtain ⟨z, hz, oz⟩ := hr d e o1 o2
    exact hz N2 v w (r1.mono s2.nn) r2 H2 s2.nh Q fun u N3 H3 s3 r3 => q u z N3 H3 ((s1.trans s2).trans (Sx.of s3 t2.ne s2.np)) (t2.step s3) r3 oz
theorem dx_callP {Rl : List Dat → Dat → Prop} {E : XK} (h : DXA p tr ds k PA) (hr : ∀ es, PA es → ∃ z, Rl es z ∧ Po z) : DX p (tCall (spD Rl) [] E tr) ds k Po := fun σ N H hs h0 hk np n ht Q q =>
  h σ N H hs h0 hk np n ht _ fun vs es N1 H1 s1 t1 r1 o1 => by
    obtain ⟨z, hz, oz⟩ := hr es o1
    exact ⟨N1, es, z, s1.nh, by rw [List.append_nil]; exact r1, hz, fun v N2 H2 s2 r2 => q v z N2 H2 (s1.trans (Sx.of s2 t1.ne s1.np)) (t1.step s2) r2 oz⟩
theorem dx_callT {Rl : RX} {E : XK} (h : DXA p tr ds k1 PA) (hr : ∀ es, PA es → Rl es k2 Po) : DX p (tCall (spX Rl) [] E (tCons (tVar 0) tr)) ds (k1 + k2) Po := fun σ N H hs h0 hk np n ht Q q =>
  ⟨.ref p, h0, h σ N H hs h0 hk np (n + k2) (by rw [Nat.add_assoc, Nat.add_comm k2]; exact ht) _ fun vs es N1 H1 s1 t1 r1 o1 =>
    ⟨p, vs, N1, es, n, k2, Po, by rw [List.append_nil], s1.nh, s1.np, t1, r1, hr es o1, fun v d N2 H2 s2 t2 r2 o2 => q v d N2 H2 (s1.trans s2) t2 r2 o2⟩⟩
theorem dx_if (h : DX p te ds k1 (fun x => ∃ b, x = .bool b)) (h1 : DX p ta ds k2 Po) (h2 : DX p tb ds k2 Po) : DX p (tIf (tTest te) ta tb) ds (k1 + k2) Po := fun σ N H hs h0 hk np n ht Q q =>
  h σ N H hs h0 hk np (n + k2) (by rw [Nat.add_assoc, Nat.add_comm k2]; exact ht) _ fun v d N1 H1 s1 t1 r1 o1 => by
    obtain ⟨b, rfl⟩ := o1
    refine ⟨b, r1.bool_eq, ?_⟩
    cases b with
    | true =>
      show ta σ H1 Q
      exact h1 σ N1 H1 (hs.mono s1.nn) h0 s1.nh s1.np n t1 Q fun u e N2 H2 s2 t2 r2 o2 => q u e N2 H2 (s1.trans s2) t2 r2 o2
    | false =>
      show tb σ H1 Q
      exact h2 σ N1 H1 (hs.mono s1.nn) h0 s1.nh s1.np n t1 Q fun u e N2 H2 s2 t2 r2 o2 => q u e N2 H2 (s1.trans s2) t2 r2 o2
theorem DX.le {k' : Nat} (h : DX p te ds k Po) (hk : k ≤ k') : DX p te ds k' Po := fun σ N H hs h0 hn np n ht Q q => h σ N H hs h0 hn np (n + (k' - k)) (by
  rw [show n + (k' - k) + k = n + k' by omega]; exact ht) Q fun v d N1 H1 s1 t1 r1 o1 => q v d N1 H1 s1 (by obtain ⟨o, e, t⟩ := t1; exact ⟨o, e, t.mono (by omega)⟩) r1 o1
end
/-! ### statements -/
section
variable {E Ni N H N' H' : Hp} {σ : L2.St} {ds : Ss} {p : Addr} {o o' : HO}
theorem Wd.sx (w : Wd (upd E p o) Ni N H) (s : Sx p N H N' H') (e : H' p = some o') : Wd (upd E p o') Ni N' H' := by
  refine ⟨w.ni.trans s.nn, fun a u q => ?_, s.nh, fun a ea na => ?_⟩
  · by_cases h : a = p
    · subst h
      rw [upd_same] at q
      rw [← Option.some.inj q]
      exact e
    · rw [upd_ne h] at q
      exact s.hh a u h (w.eh a u (by rw [upd_ne h]; exact q))
  · by_cases h : a = p
    · subst h; exact s.np
    · rw [upd_ne h] at ea
      have e1 : Mb ((upd E p o) a) := by rw [upd_ne h]; exact ea
      exact s.fr a h (mb_same w.eh e1) (w.fr a e1 na)
theorem SS.sx (h : SS (upd E p o) N H σ ds) (s : Sx p N H N' H') : SS (upd E p o') N' H' σ ds := by
  refine ⟨h.len, fun i d e => let ⟨v, a, b⟩ := h.val i d e; ⟨v, a, b.mono s.nn⟩, fun i k e ok => ?_, h.one, h.raw⟩
  obtain ⟨q, a, b, c, d⟩ := h.own i k e ok
  have hq : q ≠ p := fun z => by subst z; rw [upd_same] at b; cases b
  rw [upd_ne hq] at b
  refine ⟨q, a, by rw [upd_ne hq]; exact b, s.fr q hq d.known c, d.mono s.nn ?_⟩
  cases z : H q with
  | none => exact absurd z d.known.1
  | some u => exact s.hh _ _ hq z
end
section
variable {E Ni : Hp} {D : Ends} {ds : Ss} {t u : TS} {te tb : TE} {d : Dat} {K : PySem.W.Frag} {p : Addr} {o : HO} {k k2 n : Nat} {Po P2 : Dat → Prop}
theorem wd_np {N H : Hp} (hm : Mb (some o)) (w : Wd (upd E p o) Ni N H) (hn : Ni p = none) : N p = none := w.fr p (by rw [upd_same]; exact hm) hn
theorem okx_setE {i : Nat} (h0 : ds[0]? = some (.raw (.ref p))) (hn : Ni p = none) (ho : Tv o (n + k)) (h : DX p te (sv ds) k Po)
    (kk : ∀ d o', Po d → Tv o' n → ∀ N H σ, Wd (upd E p o') Ni N H → SS (upd E p o') N H σ (ds.set i (.val d)) → D.nx σ H) : Okk (upd E p o) Ni (tAsg te (gName i)) D ds := fun N H σ w s =>
  h σ N H s.sl (s.raw 0 _ h0) w.nh (wd_np ho.mb w hn) n ⟨o, w.eh p o upd_same, ho⟩ _ fun v d N1 H1 s1 ⟨o', e1, t1⟩ r1 o1 => kk d o' o1 t1 N1 H1 _ (w.sx s1 e1) ((s.sx s1).set_val i r1)
theorem okx_set {i : Nat} (h0 : ds[0]? = some (.raw (.ref p))) (hn : Ni p = none) (ho : Tv o (n + k)) (h : DX p te (sv ds) k Po)
    (kk : ∀ d o', Po d → Tv o' n → Okk (upd E p o') Ni t D (ds.set i (.val d))) : Okk (upd E p o) Ni (tSeq (tAsg te (gName i)) t) D ds :=
  okx_setE (D := { D with nx := t D }) h0 hn ho h fun d o' h1 h2 => kk d o' h1 h2
/-- a, b = x, y -/
theorem okx_par {i j : Nat} (h0 : ds[0]? = some (.raw (.ref p))) (hn : Ni p = none) (ho : Tv o (n + k2 + k)) (h : DX p te (sv ds) k Po) (h2 : DX p tb (sv ds) k2 P2)
    (kk : ∀ d e o', Po d → P2 e → Tv o' n → Okk (upd E p o') Ni t D ((ds.set i (.val d)).set j (.val e))) : Okk (upd E p o) Ni (tSeq (tPar i j (tCons te (tCons tb tNil))) t) D ds := fun N H σ w s =>
  h σ N H s.sl (s.raw 0 _ h0) w.nh (wd_np ho.mb w hn) (n + k2) ⟨o, w.eh p o upd_same, ho⟩ _ fun v d N1 H1 s1 t1 r1 o1 =>
    h2 σ N1 H1 (s.sl.mono s1.nn) (s.raw 0 _ h0) s1.nh s1.np n t1 _ fun v2 d2 N2 H2 s2 ⟨o', e2, t2⟩ r2 o2 =>
      ⟨v, v2, rfl, kk d d2 o' o1 o2 t2 N2 H2 _ (w.sx (s1.trans s2) e2) (((s.sx (s1.trans s2)).set_val i (r1.mono s2.nn)).set_val j r2)⟩
/-- a, b = x, [..] -/
theorem okx_parN {i j : Nat} {xs : List Dat} (h0 : ds[0]? = some (.raw (.ref p))) (hn : Ni p = none) (ho : Tv o (n + k)) (h : DX p te (sv ds) k Po) (h2 : De tb (sv ds) (.list xs))
    (kk : ∀ d o', Po d → Tv o' n → Okk (upd E p o') Ni t D ((ds.set i (.val d)).set j (.val (.list xs)))) : Okk (upd E p o) Ni (tSeq (tPar i j (tCons te (tCons tb tNil))) t) D ds :=
  okx_par (k2 := 0) h0 hn ho h (dx_of h2) fun d e o' h1 he h3 => by subst he; exact kk d o' h1 h3
/-- a, b = e, e a list of two -/
theorem okx_two {i j : Nat} (h0 : ds[0]? = some (.raw (.ref p))) (hn : Ni p = none) (ho : Tv o (n + k)) {Pj : Dat → Dat → Prop} (h : DX p te (sv ds) k (fun z => ∃ x y, z = .list [x, y] ∧ Pj x y))
    (kk : ∀ x y o', Pj x y → Tv o' n → Okk (upd E p o') Ni t D ((ds.set i (.val x)).set j (.val y))) : Okk (upd E p o) Ni (tSeq (tAsg te (gUnl K 2 (gCons (gName i) (gCons (gName j) gNil)))) t) D ds := fun N H σ w s =>
  h σ N H s.sl (s.raw 0 _ h0) w.nh (wd_np ho.mb w hn) n ⟨o, w.eh p o upd_same, ho⟩ _ fun v d N1 H1 s1 ⟨o', e1, t1⟩ r1 ⟨x, y, hd, oj⟩ => by
    subst hd
    obtain ⟨a, us, rfl, ha, ra⟩ := r1.list_ref
    cases ra with
    | cons r1 r2 =>
      cases r2 with
      | cons r3 r4 =>
        cases r4
        exact ⟨a, _, rfl, SqL.of (s1.nh _ _ ha), rfl, _, _, rfl, _, _, rfl, rfl, kk x y o' oj t1 N1 H1 _ (w.sx s1 e1) (((s.sx s1).set_val i r1).set_val j r3)⟩
/-- what an end of a def with effects asks -/
def RtX (E Ni : Hp) (p : Addr) (n : Nat) (Po : Dat → Prop) (Q : VK) : Prop := ∀ v d N H o, Wd (upd E p o) Ni N H → Tv o n → Rp N v d → Po d → Q v H
theorem okx_ret (h0 : ds[0]? = some (.raw (.ref p))) (hn : Ni p = none) (ho : Tv o (n + k)) (h : DX p te (sv ds) k Po) (kk : RtX E Ni p n Po D.rt) : Okk (upd E p o) Ni (tRet te) D ds := fun N H σ w s =>
  h σ N H s.sl (s.raw 0 _ h0) w.nh (wd_np ho.mb w hn) n ⟨o, w.eh p o upd_same, ho⟩ _ fun v d N1 H1 s1 ⟨o', e1, t1⟩ r1 o1 => kk v d N1 H1 o' (w.sx s1 e1) t1 r1 o1
theorem okx_retP (ho : Tv o n) (h : De te (sv ds) d) (hP : Po d) (kk : RtX E Ni p n Po D.rt) : Okk (upd E p o) Ni (tRet te) D ds := okk_ret h fun v N H w r => kk v d N H o w ho r hP
/-- range walks: Inv i of tin and the state ahead of turn i -/
theorem okx_for {wi : TI} {tb : TS} {j : Nat} {items : List Dat} (hm : Mb (some o)) (hI : DeI wi (sv ds) items) (Inv : Nat → HO → Ss → Prop) (h0 : Inv 0 o ds)
    (hb : ∀ Nj i d o' ds', Nj p = none → items[i]? = some d → Inv i o' ds' → Okk (upd E p o') Nj tb { D with nx := fun σ H => ∃ o2 ds2, Inv (i + 1) o2 ds2 ∧ Nx (upd E p o2) Nj ds2 σ H, ct := fun σ H => ∃ o2 ds2, Inv (i + 1) o2 ds2 ∧ Nx (upd E p o2) Nj ds2 σ H, bk := t D } (ds'.set j (.val d)))
    (hn : Ni p = none) (k : ∀ o' ds', Inv items.length o' ds' → Okk (upd E p o') Ni t D ds') : Okk (upd E p o) Ni (tSeq (tFor wi (gName j) tb) t) D ds := fun N H σ w s => hI σ N s.sl H w.nh _ fun J N1 H1 s1 wk => by
  have w1 := w.step s1
  have n1 : N1 p = none := wd_np hm w1 hn
  refine ⟨fun i m σ' H' => m = items.length - i ∧ i ≤ items.length ∧ ∃ o' ds', Inv i o' ds' ∧ ∃ N', Wd (upd E p o') N1 N' H' ∧ SS (upd E p o') N' H' σ' ds', ⟨items.length, by omega, Nat.zero_le _, o, ds, h0, N1, w1.re, s.step s1⟩, ?_⟩
  rintro i m σ' H' ⟨rfl, hi, o', ds', hv, N', w', s'⟩
  by_cases hlt : i < items.length
  · refine .inr ⟨wk.go i H' hlt (w'.ni.trans w'.nh), fun σ H => ∃ o2 ds2, Inv (i + 1) o2 ds2 ∧ Nx (upd E p o2) N1 ds2 σ H, fun σ2 H2 ⟨o2, ds2, hN⟩ => ⟨items.length - (i + 1), by omega, rfl, hlt, o2, ds2, hN⟩, fun x H3 hy => ?_⟩
    have hd := List.getElem?_eq_getElem hlt
    obtain ⟨N3, s3, rx⟩ := wk.yld i _ N' H' x H3 hd w'.ni w'.nh hy
    exact hb N1 i _ o' ds' n1 hd hv N3 H3 _ (w'.step s3) ((s'.step s3).set_val j rx)
  · have ei : i = items.length := by omega
    subst ei
    exact .inl ⟨wk.stop H' (w'.ni.trans w'.nh), k o' ds' hv N' H' σ' ⟨w1.ni.trans w'.ni, w'.eh, w'.nh, fun a ea na => w'.fr a ea (by
      by_cases h : a = p
      · rw [h]; exact n1
      · exact w1.fr a (by rw [upd_ne h]; rw [upd_ne h] at ea; exact ea) na)⟩ s'⟩
end
/-! ### a def -/
section
variable {P : Program} {w : World} {K : PySem.W.Frag} {mg : Str → Option Value} {base : Heap} {x qual : Str} {params : Arguments} {body : List Stmt} {scope : Scope} {f : Addr} {fd : FuncData} {N ps : List Str} {k : Nat}
def sX (N : List Str) (p : Addr) (as : List Dat) : Ss := .raw (.ref p) :: (as.map Sk.val ++ List.replicate (N.length - (as.length + 1)) .no)
theorem ss_startX {H : Hp} {p : Addr} {vs : List V} {as : List Dat} {N0 E : Hp} (r : RpA N0 vs as) : SS E N0 H (L2.start N (.ref p :: vs)) (sX N p as) := by
  have hl := r.length
  have tl : ∀ (i : Nat) (k : Sk), (as.map Sk.val ++ List.replicate (N.length - (as.length + 1)) .no)[i]? = some k → (∃ d, as[i]? = some d ∧ k = .val d) ∨ k = .no := fun i k e => by
    rw [List.getElem?_append] at e
    split at e
    · rw [List.getElem?_map] at e
      cases q : as[i]? with
      | none => rw [q] at e; cases e
      | some d => rw [q] at e; cases e; exact .inl ⟨d, rfl, rfl⟩
    · rw [List.getElem?_replicate] at e
      split at e
      · cases e; exact .inr rfl
      · cases e
  have own : ∀ (i : Nat) (k : Sk), (sX N p as)[i]? = some k → k.isOwn = true → False := fun i k e o => by
    cases i with
    | zero => cases e; cases o
    | succ i =>
      rcases tl i k e with ⟨d, _, rfl⟩ | rfl <;> cases o
  refine ⟨?_, fun i d e => ?_, fun i k e o => (own i k e o).elim, fun i j k l p e _ o => (own i k e o).elim, fun i u e => ?_⟩
  · unfold L2.start sX
    simp [hl]
  · cases i with
    | zero => cases e
    | succ i =>
      rcases tl i _ e with ⟨d', hd, q⟩ | q
      · cases q
        obtain ⟨v, hv, rv⟩ := r.get hd
        refine ⟨v, ?_, rv⟩
        unfold L2.start
        rw [List.map_cons, List.cons_append, List.getElem?_cons_succ, List.getElem?_append_left (by rw [List.length_map]; exact (List.getElem?_eq_some_iff.mp hv).1), List.getElem?_map, hv]
        rfl
      · cases q
  · cases i with
    | zero => cases e; rfl
    | succ i => rcases tl i _ e with ⟨d', hd, q⟩ | q <;> cases q
theorem fn_tin {Rl : RX} {dvs : List V} {kws : List (Str × V)} (F : FunD K x qual params body scope dvs kws f fd) (S : FnScope N ps scope) (len : ∀ as k Po, Rl as k Po → as.length + 1 = ps.length)
    (hbody : ∀ (cdv : Value) (A : Around) (outer : List Env) (s : Shared) (H : Hp) (E : XK), Room k (A.deeper (envOfC qual scope s.heap.objs.size f cdv)) →
      ∃ t, PSs (cxOf CX0 P w K mg base N qual scope f cdv A outer s H E).nox body t ∧ ∀ as c Po, Rl as c Po → ∀ (p : Addr) (o : HO) (n : Nat) (E0 Ni : Hp) (D : Ends), Ni p = none → Tv o (n + c) → RtX E0 Ni p n Po D.rt → Okk (upd E0 p o) Ni t D (sX N p as)) :
    FnOk P w K mg base CX0 (k + 1) f fd ps (spX Rl) := by
  refine F.ok S (fun vs H Q E h => ?_) fun cdv A outer s H vs Q E hr h => ?_
  · obtain ⟨p, ws, N0, as, n, c, Po, rfl, _, _, _, ra, hR, _⟩ := h
    rw [List.length_cons, ra.length]
    exact len as c Po hR
  · obtain ⟨t, ht, hk⟩ := hbody cdv A outer s H E hr
    obtain ⟨p, ws, N0, as, n, c, Po, rfl, k0, np, ⟨o, ho, hT⟩, ra, hR, hQ⟩ := h
    have eu : upd H p o = H := by
      funext a
      by_cases z : a = p
      · rw [z, upd_same, ho]
      · rw [upd_ne z]
    refine ⟨t, ht.nox, hk as c Po hR p o n H N0 { nx := fun _ H' => Q .non H', rt := Q } np hT (fun v d N' H' o' w' t' r' o2 => hQ v d N' H' ⟨w'.ni, fun a u z e => w'.eh a u (by rw [upd_ne z]; exact e), w'.nh, wd_np t'.mb w' np, fun a z e n => w'.fr a (by rw [upd_ne z]; exact e) n⟩ ⟨o', w'.eh p o' upd_same, t'⟩ r' o2) N0 H _ ?_ (ss_startX ra)⟩
    rw [eu]
    exact Wd.start k0
end
/-! tin read and written by its own def -/
section
variable {E Ni : Hp} {D : Ends} {ds : Ss} {t u : TS} {te tb : TE} {c : TT} {K : PySem.W.Frag} {p : Addr} {a b d : Nat} {z : Nat}
def tinL (a b d : Nat) : HO := .lst [.int (a : Int), .int (b : Int), .int (d : Int)]
def tinD (a b d : Nat) : Dat := lN [a, b, d]
theorem tin_sl {N H : Hp} {σ : L2.St} (h0 : ds[0]? = some (.raw (.ref p))) (s : SS (upd E p (tinL a b d)) N H σ ds) (np : N p = none) : Sl (upd N p (tinL a b d)) σ (sv (ds.set 0 (.val (tinD a b d)))) := by
  refine ⟨by unfold sv; rw [List.length_map, List.length_set]; exact s.len, fun i e q => ?_⟩
  unfold sv at q
  rw [List.getElem?_map] at q
  by_cases hi : 0 = i
  · subst hi
    rw [List.getElem?_set_self (List.getElem?_eq_some_iff.mp h0).1] at q
    cases q
    exact ⟨.ref p, s.raw 0 _ h0, .lst upd_same (.cons (.int _) (.cons (.int _) (.cons (.int _) .nil)))⟩
  · rw [List.getElem?_set_ne hi] at q
    cases q2 : ds[i]? with
    | none => rw [q2] at q; cases q
    | some k =>
      rw [q2] at q
      cases k with
      | val d' =>
        cases q
        obtain ⟨v, h1, h2⟩ := s.val i _ q2
        exact ⟨v, h1, h2.mono (same_new np)⟩
      | _ => cases q
theorem tin_ev {N H : Hp} {σ : L2.St} (h0 : ds[0]? = some (.raw (.ref p))) (hn : Ni p = none) (w : Wd (upd E p (tinL a b d)) Ni N H) (s : SS (upd E p (tinL a b d)) N H σ ds) (h : De te (sv (ds.set 0 (.val (tinD a b d)))) (nI z)) (Q : VK) (q : ∀ H1, Stp N H N H1 → Q (.int (z : Int)) H1) : te σ H Q := by
  have np := wd_np (Ez.mb (by intro _ z; cases z)) w hn
  have hp : H p = some (tinL a b d) := w.eh p _ upd_same
  have k1 : Same (upd N p (tinL a b d)) H := fun x u e => by
    by_cases hx : x = p
    · subst hx; rw [upd_same] at e; rw [← Option.some.inj e]; exact hp
    · rw [upd_ne hx] at e; exact w.nh x u e
  refine h σ _ (tin_sl h0 s np) H k1 Q fun v N1 H1 s1 r1 => ?_
  rw [Rp.int_eq (i := (z : Int)) r1]
  exact q H1 ⟨Same.refl N, s1.hh, fun x u e => s1.hh x u (w.nh x u e), fun _ _ e => e⟩
theorem tin_evB {N H : Hp} {σ : L2.St} {r : Bool} (h0 : ds[0]? = some (.raw (.ref p))) (hn : Ni p = none) (w : Wd (upd E p (tinL a b d)) Ni N H) (s : SS (upd E p (tinL a b d)) N H σ ds) (h : DeB c (sv (ds.set 0 (.val (tinD a b d)))) r) (Q : Bool → Hp → Prop) (q : ∀ H1, Stp N H N H1 → Q r H1) : c σ H Q := by
  have np := wd_np (Ez.mb (by intro _ z; cases z)) w hn
  have hp : H p = some (tinL a b d) := w.eh p _ upd_same
  have k1 : Same (upd N p (tinL a b d)) H := fun x u e => by
    by_cases hx : x = p
    · subst hx; rw [upd_same] at e; rw [← Option.some.inj e]; exact hp
    · rw [upd_ne hx] at e; exact w.nh x u e
  exact h σ _ (tin_sl h0 s np) H k1 Q fun N1 H1 s1 => q H1 ⟨Same.refl N, s1.hh, fun x u e => s1.hh x u (w.nh x u e), fun _ _ e => e⟩
theorem okt_set {i : Nat} (h0 : ds[0]? = some (.raw (.ref p))) (hn : Ni p = none) (h : De te (sv (ds.set 0 (.val (tinD a b d)))) (nI z)) (k : Okk (upd E p (tinL a b d)) Ni t D (ds.set i (.val (nI z)))) : Okk (upd E p (tinL a b d)) Ni (tSeq (tAsg te (gName i)) t) D ds := fun N H σ w s =>
  tin_ev h0 hn w s h _ fun H1 s1 => k N H1 _ (w.step s1) ((s.step s1).set_val i (.int _))
theorem okt_if {r : Bool} {v : TS} (h0 : ds[0]? = some (.raw (.ref p))) (hn : Ni p = none) (h : DeB c (sv (ds.set 0 (.val (tinD a b d)))) r) (h1 : r = true → Okk (upd E p (tinL a b d)) Ni t { D with nx := v D } ds) (h2 : r = false → Okk (upd E p (tinL a b d)) Ni u { D with nx := v D } ds) :
    Okk (upd E p (tinL a b d)) Ni (tSeq (tIfS c t u) v) D ds := fun N H σ w s => tin_evB h0 hn w s h _ fun H1 s1 => by
  cases r with
  | true => exact h1 rfl N H1 σ (w.step s1) (s.step s1)
  | false => exact h2 rfl N H1 σ (w.step s1) (s.step s1)
theorem okt_ret {n : Nat} {Po : Dat → Prop} (h0 : ds[0]? = some (.raw (.ref p))) (hn : Ni p = none) (ho : Tv (tinL a b d) n) (h : De te (sv (ds.set 0 (.val (tinD a b d)))) (nI z)) (hP : Po (nI z)) (k : RtX E Ni p n Po D.rt) : Okk (upd E p (tinL a b d)) Ni (tRet te) D ds := fun N H σ w s =>
  tin_ev h0 hn w s h _ fun H1 s1 => k _ _ N H1 _ (w.step s1) ho (.int _) hP
theorem okt_put {j a2 b2 d2 : Nat} (h0 : ds[0]? = some (.raw (.ref p))) (hn : Ni p = none) (h : De te (sv (ds.set 0 (.val (tinD a b d)))) (nI z)) (hj : j < 3) (e : [a, b, d].set j z = [a2, b2, d2]) (k : Okk (upd E p (tinL a2 b2 d2)) Ni t D ds) :
    Okk (upd E p (tinL a b d)) Ni (tSeq (tAsg te (gSub (tVar 0) (tC (.int (j : Int))) rSetL)) t) D ds := fun N H σ w s =>
  tin_ev h0 hn w s h _ fun H1 s1 => ⟨.ref p, s.raw 0 _ h0, p, [.int (a : Int), .int (b : Int), .int (d : Int)], (j : Int), j, rfl, rfl, s1.hh _ _ (w.eh p _ upd_same), ixN_nat hj, by
    have e2 : HO.lst ([V.int (a : Int), .int (b : Int), .int (d : Int)].set j (.int (z : Int))) = tinL a2 b2 d2 := by
      have := congrArg (fun l : List Nat => HO.lst (l.map fun x : Nat => V.int (x : Int))) e
      rw [List.map_set] at this
      exact this
    rw [e2]
    have w1 := w.step s1
    have s2 := s.step s1
    have np := wd_np (Ez.mb (by intro _ z; cases z)) w hn
    have sx : Sx p N H1 N (upd H1 p (tinL a2 b2 d2)) := ⟨Same.refl N, fun x u hx e => by rw [upd_ne hx]; exact e, same_mut w1.nh np, np, fun _ _ _ e => e⟩
    exact k N _ σ (w1.sx sx upd_same) (s2.sx sx)⟩
end
end Ez

set_option Elab.async false
set_option linter.all false
set_option autoImplicit false
set_option maxRecDepth 100000
set_option maxHeartbeats 1000000
/-! drawing from a pool -/
namespace Ez
open PySem L2 Fz PyProof.Rows
theorem erase_perm {α : Type} : ∀ (l : List α) (i : Nat) (h : i < l.length), (l[i] :: l.eraseIdx i).Perm l
  | a :: l, 0, _ => .refl _
  | a :: l, i + 1, h => by
    have hi : i < l.length := by simpa using h
    have ih := erase_perm l i hi
    show (l[i] :: a :: l.eraseIdx i).Perm (a :: l)
    exact (List.Perm.swap a _ _).trans (ih.cons a)
theorem perm_map_inv {α β : Type} (f : α → β) : ∀ (ms : List α) (l : List β), l.Perm (ms.map f) → ∃ ms' : List α, ms'.Perm ms ∧ l = ms'.map f
  | [], l, h => ⟨[], .refl _, List.perm_nil.mp h⟩
  | a :: ms, l, h => by
    have hm : f a ∈ l := h.mem_iff.mpr List.mem_cons_self
    obtain ⟨l1, l2, rfl⟩ := List.append_of_mem hm
    have h2 : (l1 ++ l2).Perm (ms.map f) := (List.perm_middle.symm.trans h).cons_inv
    obtain ⟨ms', hp, e⟩ := perm_map_inv f ms _ h2
    obtain ⟨m1, m2, rfl, e1, e2⟩ := List.map_eq_append_iff.mp e.symm
    refine ⟨m1 ++ a :: m2, List.perm_middle.trans (hp.cons a), ?_⟩
    rw [List.map_append, List.map_cons, e1, e2]
theorem dcn_sortI {K : PySem.W.Frag} {x : Dat} {l m : List Nat} (hs : isSeq x (l.map nI)) (hp : m.Perm l) (hm : m.Pairwise (· ≤ ·)) : DCN (rSortD K) [x] (m.map nI) := by
  rw [← srt_ints hp hm]
  have e := nI_map l
  refine dcn_sort hs (by rw [e]; exact allAlike_ints _) (by rw [e]; exact canSort_ints _) (by rw [e]; exact depth_int _) ?_
  clear hs hp e
  induction l with
  | nil => rfl
  | cons a l ih => exact ih
section
variable {E Ni : Hp} {D : Ends} {ds st' : Ss} {t u : TS} {te tb : TE} {d : Dat} {K : PySem.W.Frag} {p : Addr} {o : HO} {k n : Nat}
/-- an own list is read: the answer does not hold it -/
theorem own_sl {N H : Hp} {σ : L2.St} {E' : Hp} {i : Nat} {xs : List Dat} {us : List V} {q : Addr} (s : SS E' N H σ ds) (hi : ds[i]? = some (.own xs)) (sq : σ[i]? = some (some (.ref q))) (nq : N q = none) (ru : RpA N us xs) : Sl (upd N q (.lst us)) σ (sv (ds.set i (.val (.list xs)))) := by
  refine ⟨by unfold sv; rw [List.length_map, List.length_set]; exact s.len, fun l e z => ?_⟩
  unfold sv at z
  rw [List.getElem?_map] at z
  by_cases hl : i = l
  · subst hl
    rw [List.getElem?_set_self (List.getElem?_eq_some_iff.mp hi).1] at z
    cases z
    exact ⟨.ref q, sq, .lst upd_same (ru.mono (same_new nq))⟩
  · rw [List.getElem?_set_ne hl] at z
    cases z2 : ds[l]? with
    | none => rw [z2] at z; cases z
    | some k =>
      rw [z2] at z
      cases k with
      | val d' =>
        cases z
        obtain ⟨v, h1, h2⟩ := s.val l _ z2
        exact ⟨v, h1, h2.mono (same_new nq)⟩
      | _ => cases z
theorem same_up {N H : Hp} {q : Addr} {o : HO} (k : Same N H) (hq : H q = some o) : Same (upd N q o) H := fun x u e => by
  by_cases hx : x = q
  · subst hx; rw [upd_same] at e; rw [← Option.some.inj e]; exact hq
  · rw [upd_ne hx] at e; exact k x u e
theorem own_ev {N H : Hp} {σ : L2.St} {E' : Hp} {i z : Nat} {xs : List Dat} (hi : ds[i]? = some (.own xs)) (k : Same N H) (s : SS E' N H σ ds) (h : De te (sv (ds.set i (.val (.list xs)))) (nI z)) (Q : VK) (q : ∀ H1, Stp N H N H1 → Q (.int (z : Int)) H1) : te σ H Q := by
  obtain ⟨a, sq, eq, nq, us, hq, ru⟩ := s.own i _ hi rfl
  refine h σ _ (own_sl s hi sq nq ru) H (same_up k hq) Q fun v N1 H1 s1 r1 => ?_
  rw [Rp.int_eq (i := (z : Int)) r1]
  exact q H1 ⟨Same.refl N, s1.hh, fun x u e => s1.hh x u (k x u e), fun _ _ e => e⟩
/-- range walks with effects; the end is read from an own list -/
theorem okx_forR (hm : Mb (some o)) {tb : TS} {i j z : Nat} {xs : List Dat} (hi : ds[i]? = some (.own xs)) (hz : z ≤ 100000) (hI : De te (sv (ds.set i (.val (.list xs)))) (nI z)) (Inv : Nat → HO → Ss → Prop) (h0 : Inv 0 o ds)
    (hb : ∀ Nj i o' ds', Nj p = none → i < z → Inv i o' ds' → Okk (upd E p o') Nj tb { D with nx := fun σ H => ∃ o2 ds2, Inv (i + 1) o2 ds2 ∧ Nx (upd E p o2) Nj ds2 σ H, ct := fun σ H => ∃ o2 ds2, Inv (i + 1) o2 ds2 ∧ Nx (upd E p o2) Nj ds2 σ H, bk := t D } (ds'.set j (.val (nI i))))
    (hn : Ni p = none) (k : ∀ o' ds', Inv z o' ds' → Okk (upd E p o') Ni t D ds') : Okk (upd E p o) Ni (tSeq (tFor (iRng1 (tCons te tNil)) (gName j) tb) t) D ds := fun N H σ w s =>
  own_ev hi w.nh s hI _ fun H1 s1 => ⟨(z : Int), rfl, by omega, by omega, by
    have w1 := w.step s1
    have n1 : N p = none := wd_np hm w1 hn
    have wk := wk_rng 0 z N
    rw [show ((z : Int)).toNat = z by omega]
    refine ⟨fun i m σ' H' => m = z - i ∧ i ≤ z ∧ ∃ o' ds', Inv i o' ds' ∧ ∃ N', Wd (upd E p o') N N' H' ∧ SS (upd E p o') N' H' σ' ds', ⟨z, by omega, Nat.zero_le _, o, ds, h0, N, w1.re, s.step s1⟩, ?_⟩
    rintro i m σ' H' ⟨rfl, hi, o', ds', hv, N', w', s'⟩
    by_cases hlt : i < z
    · refine .inr ⟨wk.go i H' (by rw [rngD_len]; exact hlt) (w'.ni.trans w'.nh), fun σ H => ∃ o2 ds2, Inv (i + 1) o2 ds2 ∧ Nx (upd E p o2) N ds2 σ H, fun σ2 H2 ⟨o2, ds2, hN⟩ => ⟨z - (i + 1), by omega, rfl, hlt, o2, ds2, hN⟩, fun x H3 hy => ?_⟩
      have hd : (rngD 0 z)[i]? = some (nI i) := by rw [rngD_nat, List.getElem?_map, List.getElem?_range hlt]; rfl
      obtain ⟨N3, s3, rx⟩ := wk.yld i _ N' H' x H3 hd w'.ni w'.nh hy
      exact hb N i o' ds' n1 hlt hv N3 H3 _ (w'.step s3) ((s'.step s3).set_val j rx)
    · have ei : i = z := by omega
      subst ei
      have st := wk.stop H' (w'.ni.trans w'.nh)
      rw [rngD_len] at st
      exact .inl ⟨st, k o' ds' hv N' H' σ' ⟨w1.ni.trans w'.ni, w'.eh, w'.nh, fun a ea na => w'.fr a ea (by
        by_cases h : a = p
        · rw [h]; exact n1
        · exact w1.fr a (by rw [upd_ne h]; rw [upd_ne h] at ea; exact ea) na)⟩ s'⟩⟩
theorem okx_popapp {i j : Nat} {xs ys : List Dat} (h0 : ds[0]? = some (.raw (.ref p))) (hn : Ni p = none) (ho : Tv o (n + k)) (hij : i ≠ j) (hi : ds[i]? = some (.own xs)) (hj : ds[j]? = some (.own ys)) (hl : xs.length ≤ 100000) (hl2 : ys.length < 100000)
    (h : DX p te (sv (ds.set i (.val (.list xs)))) k (fun d => ∃ r, r < xs.length ∧ d = nI r))
    (kk : ∀ r (hr : r < xs.length) o', Tv o' n → ∀ N H σ, Wd (upd E p o') Ni N H → SS (upd E p o') N H σ ((ds.set i (.own (xs.eraseIdx r))).set j (.own (ys ++ [xs[r]]))) → D.nx σ H) :
    Okk (upd E p o) Ni (tDrop (tBM K "list" rAppend (tVar j) (tCons (tBM K "list" rPopAt (tVar i) (tCons te tNil)) tNil))) D ds := fun N H σ w s => by
  obtain ⟨q, sq, eq, nq, us, hq, ru⟩ := s.own i _ hi rfl
  obtain ⟨q2, sq2, eq2, nq2, us2, hq2, ru2⟩ := s.own j _ hj rfl
  have hqp : q ≠ p := fun z => by rw [z, upd_same] at eq; cases eq
  have hq2p : q2 ≠ p := fun z => by rw [z, upd_same] at eq2; cases eq2
  have hne : q ≠ q2 := fun z => hij (s.one i j _ _ q hi hj rfl rfl sq (by rw [z]; exact sq2))
  refine ⟨.ref q2, sq2, .inl ⟨rfl, us2, SqL.of hq2⟩, .ref q, sq, .inl ⟨rfl, us, SqL.of hq⟩, h σ _ H (own_sl s hi sq nq ru) (s.raw 0 _ h0) (same_up w.nh hq) (by rw [upd_ne (Ne.symm hqp)]; exact wd_np ho.mb w hn) n ⟨o, w.eh p o upd_same, ho⟩ _ fun v d N1' H1 s1' ⟨o', e1, t1⟩ r1 ⟨r, hr, hd⟩ => ?_⟩
  have s1 : Sx p N H N H1 := ⟨Same.refl N, s1'.hh, fun x u e => s1'.nh x u (s1'.nn x u (same_new nq x u e)), wd_np ho.mb w hn, fun _ _ _ e => e⟩
  let N1 := N
  subst hd
  have hv : v = .int (r : Int) := Rp.int_eq r1
  subst hv
  have e2 : H1 q = some (.lst us) := s1.hh q _ hqp hq
  have e3 : H1 q2 = some (.lst us2) := s1.hh q2 _ hq2p hq2
  have eq' : E q = none := by rw [upd_ne hqp] at eq; exact eq
  have eq2' : E q2 = none := by rw [upd_ne hq2p] at eq2; exact eq2
  have n1 : N1 q = none := s1.fr q hqp (by rw [hq]; exact mb (by intro _ z; cases z)) nq
  have n2 : N1 q2 = none := s1.fr q2 hq2p (by rw [hq2]; exact mb (by intro _ z; cases z)) nq2
  have len1 := ru.length
  have len2 := ru2.length
  obtain ⟨y, hy, ry⟩ := (ru.mono s1.nn).get (List.getElem?_eq_getElem hr)
  have w1 := w.sx s1 e1
  have ss1 := s.sx (o' := o') s1
  have m1 := ss1.mut i (k := .own (xs.eraseIdx r)) (o := .lst (us.eraseIdx r)) hi rfl sq rfl ⟨_, upd_same, (ru.mono s1.nn).eraseIdx r⟩
  have hj2 : (ds.set i (.own (xs.eraseIdx r)))[j]? = some (.own ys) := by rw [List.getElem?_set_ne hij]; exact hj
  have m2 := m1.mut j (k := .own (ys ++ [xs[r]])) (o := .lst (us2 ++ [y])) hj2 rfl sq2 rfl ⟨_, upd_same, (ru2.mono s1.nn).snoc ry⟩
  refine ⟨q, us, (r : Int), r, y, rfl, rfl, e2, by omega, by omega, ?_, hy, q2, us2, y, rfl, rfl, by rw [upd_ne (Ne.symm hne)]; exact e3, Nat.lt_of_lt_of_le (show us2.length < 100000 by omega) (by decide), ?_⟩
  · unfold seqIndex?
    have h1 : ¬ ((r : Int) < 0) := by omega
    simp only [h1, if_false]
    have h2 : (0 : Int) ≤ r := by omega
    have h3 : (r : Int) < (us.length : Int) := by omega
    simp [h2, h3, len1, hr]
  · refine kk r hr o' t1 N1 _ σ ⟨w1.ni, same_mut (same_mut w1.eh (by rw [upd_ne hqp]; exact eq')) (by rw [upd_ne hq2p]; exact eq2'), same_mut (same_mut w1.nh n1) n2, w1.fr⟩ m2
end
end Ez

set_option Elab.async false
set_option linter.all false
set_option autoImplicit false
set_option maxRecDepth 100000
set_option maxHeartbeats 2000000
namespace Ez
open PySem PySem.Spec L2 Fz PyProof.Rows

/-! the law's draws; comparing -/
mutual
def lisD : Dat → Dat
  | .list xs => .list (lisDA xs)
  | .tuple xs => .list (lisDA xs)
  | d => d
def lisDA : List Dat → List Dat
  | [] => []
  | d :: r => lisD d :: lisDA r
end
theorem lisDA_map : ∀ xs, lisDA xs = xs.map lisD
  | [] => rfl
  | d :: r => by rw [lisDA, lisDA_map r]; rfl
def R__law_lists : Nat → List Dat → Dat → Prop
  | 0, _, _ => False
  | n + 1, as, r => ∃ d, as = [d] ∧ Ns n d ∧ r = lisD d
abbrev sp__law_lists : Sp := spD (R__law_lists 3)
theorem kit_seq {d : Dat} {xs : List Dat} (hs : isSeq d xs) : kitB (tyD d) "list" = some (match d with | .list _ => true | _ => false) ∧ kitB (tyD d) "tuple" = some (match d with | .tuple _ => true | _ => false) ∧ ((match d with | .list _ => true | _ => false) || (match d with | .tuple _ => true | _ => false)) = true := by
  rcases hs with rfl | rfl
  · exact ⟨by show kitB "list" "list" = some true; decide +kernel, by show kitB "list" "tuple" = some false; decide +kernel, rfl⟩
  · exact ⟨by show kitB "tuple" "list" = some false; decide +kernel, by show kitB "tuple" "tuple" = some true; decide +kernel, rfl⟩
theorem kit_int : kitB "int" "list" = some false ∧ kitB "int" "tuple" = some false ∧ kitB "int" "bool" = some false ∧ kitB "int" "str" = some false ∧ kitB "int" "int" = some true := by decide +kernel



abbrev N__law_lists : List Str := ["_law_matter", "_law_bit"]
abbrev p__law_lists : List Str := ["_law_matter"]
theorem sc__law_lists : FnScope N__law_lists p__law_lists (defScope (top 41)) := ⟨rfl, rfl, rfl, by decide +kernel, rfl, by decide +kernel, by decide +kernel⟩
def t__law_lists (sp__law_lists : Sp) (K : PySem.W.Frag) (P : Program) (w : World) : TS := tRet (tIf (tB (tCB (rIsiT K) (tCons (tVar 0) (tCons (tTup (tCons (tC (.ty "list")) (tCons (tC (.ty "tuple")) (tNil)))) tNil)))) (tLc (iEith (iList K (tVar 0)) (iTup K (tVar 0))) (gName 1) (tYes) (tCall sp__law_lists [] E0 (tCons (tVar 1) (tNil))) [1]) (tVar 0))
theorem ps__law_lists {P : Program} {w : World} {K : PySem.W.Frag} {mg : Str → Option Value} {base : Heap} {f : Addr} (T : Tx K mg) {k : Nat} {sp__law_lists : Sp} (C__law_lists : Cal P w K mg base k "_law_lists" p__law_lists sp__law_lists) (cdv : Value) (A : Around) (outer : List Env) (s : Shared) (H : Hp) (E : XK) (hr : Room k (A.deeper (envOfC "_law_lists" (defScope (top 41)) s.heap.objs.size f cdv))) :
    PSs (cxOf CX0 P w K mg base N__law_lists "_law_lists" (defScope (top 41)) f cdv A outer s H E).nox (defBody (top 41)) (t__law_lists sp__law_lists K P w) := by
  have nd := sc__law_lists.nd
  have hu := hu_of hr
  unfold t__law_lists
  exact pss_one (ps_ret (pe_ifExp (pt_val (pe_bi T.isinstance call_isiT (pa_cons (pv 0) (pa_cons (pe_tup (pa_cons (pe_bltn rfl T.list (u := .type "list") (by decide +kernel) rfl) (pa_cons (pe_bltn rfl T.tuple (u := .type "tuple") (by decide +kernel) rfl) (pa_nil)))) pa_nil)))) (pe_lc (own := [("_law_bit", 1)]) (g := gName 1) (tt := tYes) (te := tCall sp__law_lists [] E0 (tCons (tVar 1) (tNil))) rfl nd (pi_eith (pi_list (pv 0)) (pi_tup (pv 0))) (blkOk_by (N := N__law_lists) (sc := defScope (top 41)) (by decide +kernel)) (fun _ _ _ _ _ => pg_name (i := 1) nd rfl (by first | exact Or.inl rfl | exact Or.inr rfl)) (fun _ _ _ _ _ => pts_nil) (fun _ _ _ _ _ => pe_cal (hk := Nat.le_refl _) C__law_lists hr (pa_cons (pv 1) (pa_nil)))) (pv 0)))
theorem ok__law_lists (n : Nat) {P : Program} {w : World} {K : PySem.W.Frag} : ∀ as r, R__law_lists (n + 1) as r → ∀ (E0 Ni : Hp) (D : Ends), Rt E0 Ni r D.rt → Okk E0 Ni (t__law_lists (spD (R__law_lists n)) K P w) D (s0 N__law_lists as) := by
  rintro _ _ ⟨d, rfl, hd, rfl⟩ E0 Ni D hR
  have leaf : ∀ i : Int, d = .int i → Okk E0 Ni (t__law_lists (spD (R__law_lists n)) K P w) D (s0 N__law_lists [d]) := fun i e => by
    subst e
    exact okk_ret (de_if (b := false) (deb_B (de_isiT (b1 := false) (b2 := false) (de_var (d := .int i) rfl) kit_int.1 kit_int.2.1)) (fun z => by cases z) fun _ => de_var rfl) hR
  cases n with
  | zero => obtain ⟨i, e⟩ := hd; exact leaf i e
  | succ n =>
    rcases hd with ⟨i, e⟩ | ⟨xs, hs, hl, hx⟩
    · exact leaf i e
    · have hI : DeI (iEith (iList K (tVar 0)) (iTup K (tVar 0))) (sv (s0 N__law_lists [d])) (xs.map id) := by
        rw [List.map_id]
        rcases hs with rfl | rfl
        · exact TI.or_l (dei_list (de_var rfl))
        · exact TI.or_r (dei_tup (de_var rfl))
      have ht : lisD d = .list (xs.map lisD) := by
        rcases hs with rfl | rfl
        · rw [lisD, lisDA_map]
        · rw [lisD, lisDA_map]
      have hk := kit_seq hs
      refine okk_ret (de_if (b := true) ((deb_B (de_isiT (de_var (d := d) rfl) hk.1 hk.2.1)).to hk.2.2) (fun _ => ?_) fun z => by cases z) hR
      rw [ht]
      exact DeN.de (den_map xs (enc := id) (r := lisD) hI hl (by decide) fun x hx' => de_call (dea_1 (de_var (d := x) rfl)) ⟨x, rfl, hx x hx', rfl⟩)
theorem cal__law_lists {P : Program} {w : World} {K : PySem.W.Frag} {mg : Str → Option Value} {base : Heap} {f : Addr} {fd : FuncData} (T : Tx K mg) (F : FnP K "_law_lists" (top 41) f fd) (hm : mg "_law_lists" = some (.ref f)) : ∀ n, Cal P w K mg base n "_law_lists" p__law_lists (spD (R__law_lists n))
  | 0 => cal_of F hm (FunD.bindsN F fun _ _ _ _ _ _ us hl => match us, hl with | [_], _ => rfl) (fnOk_false fun _ _ h => h)
  | n + 1 => cal_of F hm (FunD.bindsN F fun _ _ _ _ _ _ us hl => match us, hl with | [_], _ => rfl) (fn_data F sc__law_lists (fun as r h => by obtain ⟨d, rfl, _⟩ := h; rfl) fun cdv A outer s H E hr => ⟨_, ps__law_lists T (cal__law_lists T F hm n) cdv A outer s H E hr, ok__law_lists n⟩)
/-- comparing a datum with itself -/
def R__law_same : Nat → List Dat → Dat → Prop
  | 0, _, _ => False
  | n + 1, as, r => ∃ d, as = [d, d] ∧ Ns n d ∧ r = .bool true
abbrev sp__law_same : Sp := spD (R__law_same 5)
theorem de_isNon {ds : Sd} {ta : TE} {i : Int} (h : De ta ds (.int i)) : De (tOp rIsNon ta (tC .non)) ds (.bool false) := fun σ N hs H k Q q =>
  h σ N hs H k _ fun v N1 H1 s1 r1 => ⟨rfl, by
    rw [r1.int_eq]
    exact q _ N1 H1 s1 (.bl false)⟩
theorem de_bneB {K : PySem.W.Frag} {ds : Sd} {ta tb : TE} {a : Bool} (h : De ta ds (.bool a)) (h2 : De tb ds (.bool a)) : De (tOp (rNeD K) ta tb) ds (.bool false) := (de_op h h2 (dr_neD rfl rfl)).to (by cases a <;> rfl)
theorem zip_self : ∀ xs : List Dat, zipD xs xs = xs.map fun x => PyData.tuple [x, x]
  | [] => rfl
  | a :: l => by
    have ih := zip_self l
    unfold zipD at ih ⊢
    rw [List.zip_cons_cons, List.map_cons, List.map_cons, ih]
theorem de_not_isi {ds : Sd} {ta : TE} (h : De ta ds (.bool false)) : De (tNotV ta) ds (.bool true) := de_notV h



abbrev N__law_same : List Str := ["_law_got", "_law_due", "_law_mine", "_law_its"]
abbrev p__law_same : List Str := ["_law_got", "_law_due"]
theorem sc__law_same : FnScope N__law_same p__law_same (defScope (top 42)) := ⟨rfl, rfl, rfl, by decide +kernel, rfl, by decide +kernel, by decide +kernel⟩
def t__law_same (sp__law_same : Sp) (K : PySem.W.Frag) (P : Program) (w : World) : TS := tSeq (tIfS (tB (tCB (rIsiT K) (tCons (tVar 1) (tCons (tTup (tCons (tC (.ty "list")) (tCons (tC (.ty "tuple")) (tNil)))) tNil)))) (tSeq (tIfS (tOr (tTest (tOp (rNeD K) (tCB (rIsi K) (tCons (tVar 0) (tCons (tC (.ty "list")) tNil))) (tCB (rIsi K) (tCons (tVar 1) (tCons (tC (.ty "list")) tNil))))) (tTest (tOp (rNeD K) (tCB (rIsi K) (tCons (tVar 0) (tCons (tC (.ty "tuple")) tNil))) (tCB (rIsi K) (tCons (tVar 1) (tCons (tC (.ty "tuple")) tNil)))))) (tRet (tC (.bl false))) (tNext)) (tRet (tAndV (tOp (rEqD K) (tCB (rLenS K) (tCons (tVar 0) (tNil))) (tCB (rLenS K) (tCons (tVar 1) (tNil)))) (tCB (rAll K) (tCons (tLc (RZ.iZipA K (tCons (tVar 0) (tCons (tVar 1) (tNil)))) (gTup K 2 (gCons (gName 2) (gCons (gName 3) (gNil)))) (tYes) (tCall sp__law_same [] E0 (tCons (tVar 2) (tCons (tVar 3) (tNil)))) [2, 3]) (tNil)))))) (tNext)) (tSeq (tIfS (tOr (tTest (tOp rIsNon (tVar 1) (tC .non))) (tB (tCB (rIsiT K) (tCons (tVar 1) (tCons (tTup (tCons (tC (.ty "bool")) (tCons (tC (.ty "str")) (tNil)))) tNil))))) (tRet (tAndV (tOp (rEqD K) (tVar 0) (tVar 1)) (tAndV (tOp (rEqD K) (tCB (rIsi K) (tCons (tVar 0) (tCons (tC (.ty "bool")) tNil))) (tCB (rIsi K) (tCons (tVar 1) (tCons (tC (.ty "bool")) tNil)))) (tOp (rEqD K) (tOp rIsNon (tVar 0) (tC .non)) (tOp rIsNon (tVar 1) (tC .non)))))) (tNext)) (tRet (tAndV (tCB (rIsi K) (tCons (tVar 0) (tCons (tC (.ty "int")) tNil))) (tAndV (tNotV (tCB (rIsi K) (tCons (tVar 0) (tCons (tC (.ty "bool")) tNil)))) (tOp (rEqD K) (tVar 0) (tVar 1))))))
theorem ps__law_same {P : Program} {w : World} {K : PySem.W.Frag} {mg : Str → Option Value} {base : Heap} {f : Addr} (T : Tx K mg) {k : Nat} {sp__law_same : Sp} (C__law_same : Cal P w K mg base k "_law_same" p__law_same sp__law_same) (cdv : Value) (A : Around) (outer : List Env) (s : Shared) (H : Hp) (E : XK) (hr : Room k (A.deeper (envOfC "_law_same" (defScope (top 42)) s.heap.objs.size f cdv))) :
    PSs (cxOf CX0 P w K mg base N__law_same "_law_same" (defScope (top 42)) f cdv A outer s H E).nox (defBody (top 42)) (t__law_same sp__law_same K P w) := by
  have nd := sc__law_same.nd
  have hu := hu_of hr
  unfold t__law_same
  exact pss_cons (ps_if (pt_val (pe_bi T.isinstance call_isiT (pa_cons (pv 1) (pa_cons (pe_tup (pa_cons (pe_bltn rfl T.list (u := .type "list") (by decide +kernel) rfl) (pa_cons (pe_bltn rfl T.tuple (u := .type "tuple") (by decide +kernel) rfl) (pa_nil)))) pa_nil)))) (pss_cons (ps_if (PW.pt (pw_or (pt_cmpR (op_neD hr.units) (pe_bi T.isinstance call_isi (pa_cons (pv 0) (pa_cons (pe_bltn rfl T.list (u := .type "list") (by decide +kernel) rfl) pa_nil))) (pe_bi T.isinstance call_isi (pa_cons (pv 1) (pa_cons (pe_bltn rfl T.list (u := .type "list") (by decide +kernel) rfl) pa_nil))) (nomark _)) (pw_or1 (pt_cmpR (op_neD hr.units) (pe_bi T.isinstance call_isi (pa_cons (pv 0) (pa_cons (pe_bltn rfl T.tuple (u := .type "tuple") (by decide +kernel) rfl) pa_nil))) (pe_bi T.isinstance call_isi (pa_cons (pv 1) (pa_cons (pe_bltn rfl T.tuple (u := .type "tuple") (by decide +kernel) rfl) pa_nil))) (nomark _))))) (pss_one (ps_ret (pe_bl))) (pss_nil)) (pss_one (ps_ret (pe_and (pe_cmpR (op_eqD hr.units) (pe_bi T.len call_len_seq (pa_cons (pv 0) (pa_nil))) (pe_bi T.len call_len_seq (pa_cons (pv 1) (pa_nil))) (nomark _)) (pe_one (pe_bi T.all (cr_all rfl) (pa_cons (pe_lc (own := [("_law_mine", 2), ("_law_its", 3)]) (g := gTup K 2 (gCons (gName 2) (gCons (gName 3) (gNil)))) (tt := tYes) (te := tCall sp__law_same [] E0 (tCons (tVar 2) (tCons (tVar 3) (tNil)))) rfl nd (RZ.pi_zipA rfl T.zip (pa_cons (pv 0) (pa_cons (pv 1) (pa_nil)))) (blkOk_by (N := N__law_same) (sc := defScope (top 42)) (by decide +kernel)) (fun _ _ _ _ _ => pg_tup (by rfl) (pgs_cons (pg_name (i := 2) nd rfl (by first | exact Or.inl rfl | exact Or.inr rfl)) (pgs_cons (pg_name (i := 3) nd rfl (by first | exact Or.inl rfl | exact Or.inr rfl)) (pgs_nil)))) (fun _ _ _ _ _ => pts_nil) (fun _ _ _ _ _ => pe_cal (hk := Nat.le_refl _) C__law_same hr (pa_cons (pv 2) (pa_cons (pv 3) (pa_nil))))) (pa_nil)))))))) (pss_nil)) (pss_cons (ps_if (PW.pt (pw_or (pt_cmpR op_isN (pv 1) (pe_non) (nomark _)) (pw_or1 (pt_val (pe_bi T.isinstance call_isiT (pa_cons (pv 1) (pa_cons (pe_tup (pa_cons (pe_bltn rfl T.bool (u := .type "bool") (by decide +kernel) rfl) (pa_cons (pe_bltn rfl T.str (u := .type "str") (by decide +kernel) rfl) (pa_nil)))) pa_nil))))))) (pss_one (ps_ret (pe_and (pe_cmpR (op_eqD hr.units) (pv 0) (pv 1) (nomark _)) (pe_and (pe_cmpR (op_eqD hr.units) (pe_bi T.isinstance call_isi (pa_cons (pv 0) (pa_cons (pe_bltn rfl T.bool (u := .type "bool") (by decide +kernel) rfl) pa_nil))) (pe_bi T.isinstance call_isi (pa_cons (pv 1) (pa_cons (pe_bltn rfl T.bool (u := .type "bool") (by decide +kernel) rfl) pa_nil))) (nomark _)) (pe_one (pe_cmpR (op_eqD hr.units) (pe_cmpR op_isN (pv 0) (pe_non) (nomark _)) (pe_cmpR op_isN (pv 1) (pe_non) (nomark _)) (nomark _))))))) (pss_nil)) (pss_one (ps_ret (pe_and (pe_bi T.isinstance call_isi (pa_cons (pv 0) (pa_cons (pe_bltn rfl T.int (u := .type "int") (by decide +kernel) rfl) pa_nil))) (pe_and (pe_not (pe_bi T.isinstance call_isi (pa_cons (pv 0) (pa_cons (pe_bltn rfl T.bool (u := .type "bool") (by decide +kernel) rfl) pa_nil)))) (pe_one (pe_cmpR (op_eqD hr.units) (pv 0) (pv 1) (nomark _))))))))
theorem ok__law_same (n : Nat) {P : Program} {w : World} {K : PySem.W.Frag} : ∀ as r, R__law_same (n + 1) as r → ∀ (E0 Ni : Hp) (D : Ends), Rt E0 Ni r D.rt → Okk E0 Ni (t__law_same (spD (R__law_same n)) K P w) D (s0 N__law_same as) := by
  rintro _ _ ⟨d, rfl, hd, rfl⟩ E0 Ni D hR
  have leaf : ∀ i : Int, d = .int i → Okk E0 Ni (t__law_same (spD (R__law_same n)) K P w) D (s0 N__law_same [d, d]) := fun i e => by
    subst e
    refine okk_if (b := false) (deb_B (de_isiT (b1 := false) (b2 := false) (de_var (d := .int i) rfl) kit_int.1 kit_int.2.1)) (fun z => by cases z) fun _ => ?_
    refine okk_next fun N H σ w s => ?_
    refine okk_if (b := false) (deb_or (a := false) (b := false) (deb_test (de_isNon (de_var (d := .int i) rfl))) fun _ => deb_B (de_isiT (b1 := false) (b2 := false) (de_var (d := .int i) rfl) kit_int.2.2.1 kit_int.2.2.2.1)) (fun z => by cases z) (fun _ => okk_next fun N H σ w s => ?_) N H σ w s
    refine okk_ret (d := .bool true) ((de_andV (a := true) (b := true) (de_isi (de_var (d := .int i) rfl) kit_int.2.2.2.2) fun _ => de_andV (a := true) (b := true) (de_not_isi (de_isi (de_var (d := .int i) rfl) kit_int.2.2.1)) fun _ => ?_)) hR N H σ w s
    exact (de_op (de_var (d := .int i) rfl) (de_var (d := .int i) rfl) (dr_eqD rfl rfl)).to (by show PyData.bool (i == i) = _; rw [beq_self_eq_true])
  cases n with
  | zero => obtain ⟨i, e⟩ := hd; exact leaf i e
  | succ n =>
    rcases hd with ⟨i, e⟩ | ⟨xs, hs, hl, hx⟩
    · exact leaf i e
    · have hk := kit_seq hs
      refine okk_if (b := true) ((deb_B (de_isiT (de_var (d := d) rfl) hk.1 hk.2.1)).to hk.2.2) (fun _ => ?_) fun z => by cases z
      refine okk_skip (deb_or (a := false) (b := false) (deb_test (de_bneB (de_isi (de_var (d := d) rfl) hk.1) (de_isi (de_var (d := d) rfl) hk.1))) fun _ => deb_test (de_bneB (de_isi (de_var (d := d) rfl) hk.2.1) (de_isi (de_var (d := d) rfl) hk.2.1))) ?_
      refine okk_ret (d := .bool true) (de_andV (a := true) (b := true) ((de_eqI (de_len (de_var (d := d) rfl) hs) (de_len (de_var (d := d) rfl) hs)).to (by rw [decide_eq_true rfl])) fun _ => ?_) hR
      have hz : DeI (RZ.iZipA K (tCons (tVar 0) (tCons (tVar 1) tNil))) (sv (s0 N__law_same [d, d])) (xs.map fun x => PyData.tuple [x, x]) := by
        have e : zipD xs xs = xs.map fun x => PyData.tuple [x, x] := by
          exact zip_self xs
        rw [← e]
        rcases hs with rfl | rfl
        · exact dei_zipL (de_var rfl) (de_var rfl) rfl
        · exact dei_zipT (de_var rfl) (de_var rfl) rfl
      refine (de_allF xs (fun _ => true) (DeN.de ((den_lc xs (enc := fun x => PyData.tuple [x, x]) (js := [2, 3]) hz hl (by decide) (fun x => [some d, some d, some x, some x]) (fun _ => true) (fun _ => .bool true) (fun x _ => deg_two) (fun x _ => deb_yes) fun x hx' _ => de_call (dea_2 (de_var (d := x) rfl) (de_var (d := x) rfl)) ⟨x, rfl, hx x hx', rfl⟩).to (by rw [List.filter_eq_self.mpr fun _ _ => rfl])))).to ?_
      congr 1
      rw [List.all_eq_true]
      exact fun _ _ => rfl
theorem cal__law_same {P : Program} {w : World} {K : PySem.W.Frag} {mg : Str → Option Value} {base : Heap} {f : Addr} {fd : FuncData} (T : Tx K mg) (F : FnP K "_law_same" (top 42) f fd) (hm : mg "_law_same" = some (.ref f)) : ∀ n, Cal P w K mg base n "_law_same" p__law_same (spD (R__law_same n))
  | 0 => cal_of F hm (FunD.bindsN F fun _ _ _ _ _ _ us hl => match us, hl with | [_, _], _ => rfl) (fnOk_false fun _ _ h => h)
  | n + 1 => cal_of F hm (FunD.bindsN F fun _ _ _ _ _ _ us hl => match us, hl with | [_, _], _ => rfl) (fn_data F sc__law_same (fun as r h => by obtain ⟨d, rfl, _⟩ := h; rfl) fun cdv A outer s H E hr => ⟨_, ps__law_same T (cal__law_same T F hm n) cdv A outer s H E hr, ok__law_same n⟩)
theorem de_mulS {ds : Sd} {ta tb : TE} {a b : Nat} (ha : De ta ds (nI a)) (hb : De tb ds (nI b)) (h : a < 2 ^ 64 ∨ b < 2 ^ 64) : De (tOp rMulS ta tb) ds (nI (a * b)) := (de_op ha hb (dr_I (h.elim (fun h => .inl ⟨by omega, by omega⟩) fun h => .inr ⟨by omega, by omega⟩))).to (by
  show PyData.int ((a : Int) * b) = .int ((a * b : Nat) : Int)
  rw [Int.natCast_mul])

def R__law_take : RX := fun as k Po => ∃ b : Nat, as = [nI b] ∧ 0 < b ∧ b < 1073741824 ∧ k = 1 ∧ Po = fun d => ∃ r, r < b ∧ d = nI r

abbrev sp__law_take : Sp := spX R__law_take
abbrev N__law_take : List Str := ["_law_tin", "_law_below_so", "_law_once_so", "_law_wide_so", "_law_twice_so", "_law_drawn"]
abbrev p__law_take : List Str := ["_law_tin", "_law_below_so"]
theorem sc__law_take : FnScope N__law_take p__law_take (defScope (top 37)) := ⟨rfl, rfl, rfl, by decide +kernel, rfl, by decide +kernel, by decide +kernel⟩
def t__law_take (K : PySem.W.Frag) (P : Program) (w : World) : TS := tSeq (tIfS (tTest (tOp rGt (tOp (rIx K) (tVar 0) (tC (.int 0))) (tC (.int 0)))) (tSeq (tAsg (tOp rMod (tCB rInt (tCons (tOp (rIx K) (tVar 0) (tC (.int 0))) (tNil))) (tVar 1)) (gName 5)) (tSeq (tAsg (tOp rFdv (tOp (rIx K) (tVar 0) (tC (.int 0))) (tVar 1)) (gSub (tVar 0) (tC (.int 0)) rSetL)) (tRet (tVar 5)))) (tNext)) (tSeq (tAsg (tOp rAdd (tOp (rIx K) (tVar 0) (tC (.int 2))) (tC (.int 1))) (gSub (tVar 0) (tC (.int 2)) rSetL)) (tSeq (tAsg (tOp rMod (tCB rInt (tCons (tOp rMulS (tOp rAdd (tOp (rIx K) (tVar 0) (tC (.int 1))) (tOp rMulS (tC (.int 48271)) (tOp (rIx K) (tVar 0) (tC (.int 2))))) (tOp rAdd (tC (.int 39373)) (tOp (rIx K) (tVar 0) (tC (.int 2))))) (tNil))) (tC (.int 2147483647))) (gName 2)) (tSeq (tAsg (tOp rAdd (tOp rMod (tCB rInt (tCons (tVar 2) (tNil))) (tC (.int 40009))) (tC (.int 7))) (gName 3)) (tSeq (tAsg (tOp rMod (tCB rInt (tCons (tOp rMulS (tOp rAdd (tOp rAdd (tVar 2) (tOp (rIx K) (tVar 0) (tC (.int 2)))) (tOp rFdv (tOp (rIx K) (tVar 0) (tC (.int 1))) (tC (.int 1000003)))) (tVar 3)) (tNil))) (tC (.int 2147483629))) (gName 4)) (tRet (tOp rMod (tCB rInt (tCons (tOp rFdv (tOp rMod (tCB rInt (tCons (tOp rAdd (tOp rMulS (tVar 4) (tC (.int 48271))) (tVar 2)) (tNil))) (tC (.int 2147483587))) (tC (.int 64))) (tNil))) (tVar 1)))))))
theorem ps__law_take {P : Program} {w : World} {K : PySem.W.Frag} {mg : Str → Option Value} {base : Heap} {f : Addr} (T : Tx K mg) (cdv : Value) (A : Around) (outer : List Env) (s : Shared) (H : Hp) (E : XK) (hr : Room 0 (A.deeper (envOfC "_law_take" (defScope (top 37)) s.heap.objs.size f cdv))) :
    PSs (cxOf CX0 P w K mg base N__law_take "_law_take" (defScope (top 37)) f cdv A outer s H E).nox (defBody (top 37)) (t__law_take K P w) := by
  have nd := sc__law_take.nd
  have hu := hu_of hr
  unfold t__law_take
  exact pss_cons (ps_if (pt_cmpR op_gt (pe_ix ix_seq (pv 0) (pe_int) (fun _ _ => rfl)) (pe_int) (nomark _)) (pss_cons (ps_set (i := 5) nd rfl (by first | exact Or.inl rfl | exact Or.inr rfl) (pe_op op_modN (pe_ty T.int call_int1 (pa_cons (pe_ix ix_seq (pv 0) (pe_int) (fun _ _ => rfl)) (pa_nil))) (pv 1))) (pss_cons (ps_asg (pe_op op_fdivN (pe_ix ix_seq (pv 0) (pe_int) (fun _ _ => rfl)) (pv 1)) (pg_sub (pv 0) (pe_int) set_list (fun _ => rfl))) (pss_one (ps_ret (pv 5))))) (pss_nil)) (pss_cons (ps_asg (pe_op op_add (pe_ix ix_seq (pv 0) (pe_int) (fun _ _ => rfl)) (pe_int)) (pg_sub (pv 0) (pe_int) set_list (fun _ => rfl))) (pss_cons (ps_set (i := 2) nd rfl (by first | exact Or.inl rfl | exact Or.inr rfl) (pe_op op_modN (pe_ty T.int call_int1 (pa_cons (pe_op op_mul (pe_op op_add (pe_ix ix_seq (pv 0) (pe_int) (fun _ _ => rfl)) (pe_op op_mul (pe_int) (pe_ix ix_seq (pv 0) (pe_int) (fun _ _ => rfl)))) (pe_op op_add (pe_int) (pe_ix ix_seq (pv 0) (pe_int) (fun _ _ => rfl)))) (pa_nil))) (pe_int))) (pss_cons (ps_set (i := 3) nd rfl (by first | exact Or.inl rfl | exact Or.inr rfl) (pe_op op_add (pe_op op_modN (pe_ty T.int call_int1 (pa_cons (pv 2) (pa_nil))) (pe_int)) (pe_int))) (pss_cons (ps_set (i := 4) nd rfl (by first | exact Or.inl rfl | exact Or.inr rfl) (pe_op op_modN (pe_ty T.int call_int1 (pa_cons (pe_op op_mul (pe_op op_add (pe_op op_add (pv 2) (pe_ix ix_seq (pv 0) (pe_int) (fun _ _ => rfl))) (pe_op op_fdivN (pe_ix ix_seq (pv 0) (pe_int) (fun _ _ => rfl)) (pe_int))) (pv 3)) (pa_nil))) (pe_int))) (pss_one (ps_ret (pe_op op_modN (pe_ty T.int call_int1 (pa_cons (pe_op op_fdivN (pe_op op_modN (pe_ty T.int call_int1 (pa_cons (pe_op op_add (pe_op op_mul (pv 4) (pe_int)) (pv 2)) (pa_nil))) (pe_int)) (pe_int)) (pa_nil))) (pv 1))))))))
theorem len__law_take : ∀ as k Po, R__law_take as k Po → as.length + 1 = p__law_take.length := by rintro _ _ _ ⟨b, rfl, _⟩; rfl
theorem ok__law_take {P : Program} {w : World} {K : PySem.W.Frag} : ∀ as c Po, R__law_take as c Po → ∀ (p : Addr) (o : HO) (n : Nat) (E0 Ni : Hp) (D : Ends), Ni p = none → Tv o (n + c) → RtX E0 Ni p n Po D.rt → Okk (upd E0 p o) Ni (t__law_take K P w) D (sX N__law_take p as) := by
  rintro _ _ _ ⟨m, rfl, hm, hm2, rfl, rfl⟩ p o n E0 Ni D hn hT hR
  obtain ⟨a, b, c, rfl, ha, hb, hb2, hc, hc2⟩ := hT
  obtain ⟨a, rfl⟩ := Int.eq_ofNat_of_zero_le ha
  obtain ⟨b, rfl⟩ := Int.eq_ofNat_of_zero_le hb
  obtain ⟨c, rfl⟩ := Int.eq_ofNat_of_zero_le hc
  clear ha hb hc
  have hb3 : b ≤ 2 ^ 62 := by omega
  have hc3 : c + 1 ≤ 1000000 := by omega
  show Okk (upd E0 p (tinL a b c)) Ni (t__law_take K P w) D [.raw (.ref p), .val (nI m), .no, .no, .no, .no]
  have rd : ∀ (ds : Sd) (x y z j v : Nat), ds[0]? = some (some (tinD x y z)) → [x, y, z][j]? = some v → De (tOp (rIx K) (tVar 0) (tC (.int (j : Int)))) ds (nI v) := fun ds x y z j v h hv => de_ix (de_var h) (de_n j) (.inl rfl) (by rw [List.getElem?_map, hv]; rfl)
  refine okt_if (r := decide (0 < a)) rfl hn (deb_test (de_gt (b := 0) (rd _ a b c 0 a rfl rfl) (de_n 0))) (fun h => ?_) fun h => okk_next fun N H σ w s => ?_
  · refine okt_set rfl hn (de_mod (b := m) (de_intN (rd _ a b c 0 a rfl rfl)) (de_var rfl) hm) ?_
    refine okt_put (j := 0) rfl hn (de_div (b := m) (rd _ a b c 0 a rfl rfl) (de_var rfl) hm hm2) (by decide) (rfl : [a, b, c].set 0 (a / m) = [a / m, b, c]) ?_
    exact okt_ret rfl hn ⟨_, _, _, rfl, Int.natCast_nonneg _, by omega, by omega, by omega, by omega⟩ (de_var rfl) ⟨a % m, Nat.mod_lt _ hm, rfl⟩ hR
  · refine okt_put (j := 2) rfl hn (de_add (b := 1) (rd _ a b c 2 c rfl rfl) (de_n 1)) (by decide) (rfl : [a, b, c].set 2 (c + 1) = [a, b, c + 1]) ?_ N H σ w s
    have c48 : 48271 * (c + 1) < 2 ^ 64 := by omega
    refine okt_set rfl hn (de_mod (b := 2147483647) (de_intN (de_mulS (de_add (rd _ a b (c + 1) 1 b rfl rfl) (de_mulS (a := 48271) (de_n 48271) (rd _ a b (c + 1) 2 (c + 1) rfl rfl) (.inl (by decide)))) (de_add (a := 39373) (de_n 39373) (rd _ a b (c + 1) 2 (c + 1) rfl rfl)) (.inr (by omega)))) (de_n 2147483647) (by decide)) ?_
    generalize (b + 48271 * (c + 1)) * (39373 + (c + 1)) % 2147483647 = x1
    refine okt_set rfl hn (de_add (b := 7) (de_mod (b := 40009) (de_intN (a := x1) (de_var rfl)) (de_n 40009) (by decide)) (de_n 7)) ?_
    have hx2 : x1 % 40009 + 7 < 2 ^ 64 := by omega
    generalize x1 % 40009 + 7 = x2 at hx2
    refine okt_set rfl hn (de_mod (b := 2147483629) (de_intN (de_mulS (b := x2) (de_add (de_add (a := x1) (de_var rfl) (rd _ a b (c + 1) 2 (c + 1) rfl rfl)) (de_div (b := 1000003) (rd _ a b (c + 1) 1 b rfl rfl) (de_n 1000003) (by decide) (by decide))) (de_var rfl) (.inr hx2))) (de_n 2147483629) (by decide)) ?_
    generalize (x1 + (c + 1) + b / 1000003) * x2 % 2147483629 = x3
    exact okt_ret rfl hn ⟨_, _, _, rfl, by omega, by omega, by omega, by omega, by omega⟩ (de_mod (b := m) (de_intN (de_div (b := 64) (de_mod (b := 2147483587) (de_intN (de_add (b := x1) (de_mulS (a := x3) (b := 48271) (de_var rfl) (de_n 48271) (.inr (by decide))) (de_var rfl))) (de_n 2147483587) (by decide)) (de_n 64) (by decide) (by decide))) (de_var rfl) hm) ⟨_, Nat.mod_lt _ hm, rfl⟩ hR

theorem cal__law_take {P : Program} {w : World} {K : PySem.W.Frag} {mg : Str → Option Value} {base : Heap} {f : Addr} {fd : FuncData} (T : Tx K mg) (F : FnP K "_law_take" (top 37) f fd) (hm : mg "_law_take" = some (.ref f)) : Cal P w K mg base 1 "_law_take" p__law_take sp__law_take :=
  cal_of F hm (FunD.bindsN F fun _ _ _ _ _ _ us hl => match us, hl with | [_, _], _ => rfl) (fn_tin F sc__law_take (len__law_take) fun cdv A outer s H E hr => ⟨_, ps__law_take T cdv A outer s H E hr, ok__law_take⟩)

def R__law_of : RX := fun as k Po => ∃ (y : Dat) (xs : List Dat), as = [y] ∧ isSeq y xs ∧ xs ≠ [] ∧ xs.length < 1073741824 ∧ k = 1 ∧ Po = fun d => d ∈ xs

abbrev sp__law_of : Sp := spX R__law_of
abbrev N__law_of : List Str := ["_law_tin", "_law_goods_so"]
abbrev p__law_of : List Str := ["_law_tin", "_law_goods_so"]
theorem sc__law_of : FnScope N__law_of p__law_of (defScope (top 39)) := ⟨rfl, rfl, rfl, by decide +kernel, rfl, by decide +kernel, by decide +kernel⟩
def t__law_of (K : PySem.W.Frag) (P : Program) (w : World) : TS := tRet (tOp (rIx K) (tVar 1) (tCall sp__law_take [] E0 (tCons (tVar 0) (tCons (tCB (rLenS K) (tCons (tVar 1) (tNil))) (tNil)))))
theorem ps__law_of {P : Program} {w : World} {K : PySem.W.Frag} {mg : Str → Option Value} {base : Heap} {f : Addr} (T : Tx K mg) (C__law_take : Cal P w K mg base 1 "_law_take" p__law_take sp__law_take) (cdv : Value) (A : Around) (outer : List Env) (s : Shared) (H : Hp) (E : XK) (hr : Room 1 (A.deeper (envOfC "_law_of" (defScope (top 39)) s.heap.objs.size f cdv))) :
    PSs (cxOf CX0 P w K mg base N__law_of "_law_of" (defScope (top 39)) f cdv A outer s H E).nox (defBody (top 39)) (t__law_of K P w) := by
  have nd := sc__law_of.nd
  have hu := hu_of hr
  unfold t__law_of
  exact pss_one (ps_ret (pe_ix ix_seq (pv 1) (pe_cal C__law_take hr (pa_cons (pv 0) (pa_cons (pe_bi T.len call_len_seq (pa_cons (pv 1) (pa_nil))) (pa_nil)))) (fun _ _ => rfl)))
theorem len__law_of : ∀ as k Po, R__law_of as k Po → as.length + 1 = p__law_of.length := by rintro _ _ _ ⟨b, _, rfl, _⟩; rfl
theorem dx_take {p : Addr} {ds : Sd} {tb : TE} {b : Nat} (h : De tb ds (nI b)) (h0 : 0 < b) (h1 : b < 1073741824) : DX p (tCall sp__law_take [] L2.E0 (tCons (tVar 0) (tCons tb tNil))) ds 1 (fun d => ∃ r, r < b ∧ d = nI r) :=
  dx_callT (k1 := 0) (k2 := 1) (dxa_of (dea_1 h)) fun es he => ⟨b, he, h0, h1, rfl, rfl⟩
theorem ok__law_of {P : Program} {w : World} {K : PySem.W.Frag} : ∀ as c Po, R__law_of as c Po → ∀ (p : Addr) (o : HO) (n : Nat) (E0 Ni : Hp) (D : Ends), Ni p = none → Tv o (n + c) → RtX E0 Ni p n Po D.rt → Okk (upd E0 p o) Ni (t__law_of K P w) D (sX N__law_of p as) := by
  rintro _ _ _ ⟨y, xs, rfl, hy, hne, hl, rfl, rfl⟩ p o n E0 Ni D hn hT hR
  have h0 : 0 < xs.length := List.length_pos_iff.mpr hne
  refine okx_ret rfl hn hT (dx_op (k1 := 0) (k2 := 1) (dx_of (de_var (d := y) rfl)) (dx_take (de_len (de_var (d := y) rfl) hy) h0 hl) ?_) hR
  rintro _ _ rfl ⟨r, hr, rfl⟩
  exact ⟨xs[r], dr_ixn hy (List.getElem?_eq_getElem hr), List.getElem_mem hr⟩


theorem cal__law_of {P : Program} {w : World} {K : PySem.W.Frag} {mg : Str → Option Value} {base : Heap} {f : Addr} {fd : FuncData} (T : Tx K mg) (C__law_take : Cal P w K mg base 1 "_law_take" p__law_take sp__law_take) (F : FnP K "_law_of" (top 39) f fd) (hm : mg "_law_of" = some (.ref f)) : Cal P w K mg base 2 "_law_of" p__law_of sp__law_of :=
  cal_of F hm (FunD.bindsN F fun _ _ _ _ _ _ us hl => match us, hl with | [_, _], _ => rfl) (fn_tin F sc__law_of (len__law_of) fun cdv A outer s H E hr => ⟨_, ps__law_of T C__law_take cdv A outer s H E hr, ok__law_of⟩)

def R__law_pick : RX := fun as k Po => ∃ (y : Dat) (xs : List Dat) (c : Nat), as = [y, nI c] ∧ isSeq y xs ∧ xs.length ≤ 1000 ∧ c ≤ 1000 ∧ min c xs.length ≤ k ∧ ∀ zs rest : List Dat, zs.length = min c xs.length → (zs ++ rest).Perm xs → Po (.list zs)

abbrev sp__law_pick : Sp := spX R__law_pick
abbrev N__law_pick : List Str := ["_law_tin", "_law_goods_so", "_law_count_so", "_law_lap", "_law_pool_so", "_law_found"]
abbrev p__law_pick : List Str := ["_law_tin", "_law_goods_so", "_law_count_so"]
theorem sc__law_pick : FnScope N__law_pick p__law_pick (defScope (top 40)) := ⟨rfl, rfl, rfl, by decide +kernel, rfl, by decide +kernel, by decide +kernel⟩
def t__law_pick (K : PySem.W.Frag) (P : Program) (w : World) : TS := tSeq (tPar 4 5 (tCons (tCB (rLstS K) (tCons (tVar 1) (tNil))) (tCons (tLst (tNil)) (tNil)))) (tSeq (tFor (iRng1 (tCons (tCB rMin2 (tCons (tCB rInt (tCons (tVar 2) (tNil))) (tCons (tCB (rLenS K) (tCons (tVar 4) (tNil))) (tNil)))) (tNil))) (gName 3) (tDrop (tBM K "list" rAppend (tVar 5) (tCons (tBM K "list" rPopAt (tVar 4) (tCons (tCall sp__law_take [] E0 (tCons (tVar 0) (tCons (tCB (rLenS K) (tCons (tVar 4) (tNil))) (tNil)))) (tNil))) (tNil))))) (tRet (tVar 5)))
theorem ps__law_pick {P : Program} {w : World} {K : PySem.W.Frag} {mg : Str → Option Value} {base : Heap} {f : Addr} (T : Tx K mg) (C__law_take : Cal P w K mg base 1 "_law_take" p__law_take sp__law_take) (cdv : Value) (A : Around) (outer : List Env) (s : Shared) (H : Hp) (E : XK) (hr : Room 1 (A.deeper (envOfC "_law_pick" (defScope (top 40)) s.heap.objs.size f cdv))) :
    PSs (cxOf CX0 P w K mg base N__law_pick "_law_pick" (defScope (top 40)) f cdv A outer s H E).nox (defBody (top 40)) (t__law_pick K P w) := by
  have nd := sc__law_pick.nd
  have hu := hu_of hr
  unfold t__law_pick
  exact pss_cons (ps_par (i := 4) (j := 5) rfl nd rfl rfl (by decide) rfl rfl (pa_cons (pe_ty T.list call_list_of (pa_cons (pv 1) (pa_nil))) (pa_cons (pe_lst (pa_nil)) (pa_nil))) (by rfl)) (pss_cons (ps_for PassesOwn.never rfl (pi_range1 rfl T.range (pa_cons (pe_bi T.min (call_min2 rfl) (pa_cons (pe_ty T.int call_int1 (pa_cons (pv 2) (pa_nil))) (pa_cons (pe_bi T.len call_len_seq (pa_cons (pv 4) (pa_nil))) (pa_nil)))) (pa_nil))) (pg_name (i := 3) nd rfl (by first | exact Or.inl rfl | exact Or.inr rfl)) (pss_one (ps_expr (pe_bm PySem.F.plainAttrs_list PySem.F.slot_list_append PySem.F.type_list_append mt_append (pv 5) (pa_cons (pe_bm PySem.F.plainAttrs_list PySem.F.slot_list_pop PySem.F.type_list_pop mt_popAt (pv 4) (pa_cons (pe_cal C__law_take hr (pa_cons (pv 0) (pa_cons (pe_bi T.len call_len_seq (pa_cons (pv 4) (pa_nil))) (pa_nil)))) (pa_nil))) (pa_nil)))))) (pss_one (ps_ret (pv 5))))
theorem len__law_pick : ∀ as k Po, R__law_pick as k Po → as.length + 1 = p__law_pick.length := by rintro _ _ _ ⟨b, _, _, rfl, _⟩; rfl
theorem min_int (c l : Nat) : PyData.int (if ((l : Nat) : Int) < (c : Int) then (l : Int) else (c : Int)) = nI (min c l) := by
  unfold nI
  congr 1
  by_cases h : l < c
  · rw [if_pos (by omega), Nat.min_eq_right (by omega)]
  · rw [if_neg (by omega), Nat.min_eq_left (by omega)]
theorem ok__law_pick {P : Program} {w : World} {K : PySem.W.Frag} : ∀ as c Po, R__law_pick as c Po → ∀ (p : Addr) (o : HO) (n : Nat) (E0 Ni : Hp) (D : Ends), Ni p = none → Tv o (n + c) → RtX E0 Ni p n Po D.rt → Okk (upd E0 p o) Ni (t__law_pick K P w) D (sX N__law_pick p as) := by
  rintro _ _ _ ⟨y, xs, c, rfl, hy, hl, hc, hk, hPo⟩ p o n E0 Ni D hn hT0 hR
  have hT := hT0.mono (show n + min c xs.length ≤ _ from Nat.add_le_add_left hk n)
  refine okk_parNN (xs := xs) (ys := []) (den_lstS (de_var (d := y) rfl) hy) (den_lst dea_nil (by decide)) ?_
  have hcl : min c xs.length ≤ c := Nat.min_le_left _ _
  have hxl : min c xs.length ≤ xs.length := Nat.min_le_right _ _
  refine okx_forR hT.mb (j := 3) (i := 4) (xs := xs) (z := min c xs.length) rfl (by omega) ((de_cb (dea_2 (de_intN (a := c) (de_var rfl)) (de_len (x := .list xs) (de_var rfl) (.inl rfl))) dc_min2).to (min_int c xs.length))
    (fun i o' ds' => ∃ pool found : List Dat, Tv o' (n + (min c xs.length - i)) ∧ found.length = i ∧ (found ++ pool).Perm xs ∧ ds' = [.raw (.ref p), .val y, .val (nI c), .no, .own pool, .own found]) ⟨xs, [], hT, rfl, .refl _, rfl⟩ (fun Nj i o' ds' hn' hi hv => ?_) hn fun o' ds' hv => ?_
  · obtain ⟨pool, found, hT', hf, hp, rfl⟩ := hv
    have hlen : found.length + pool.length = xs.length := by rw [← List.length_append]; exact hp.length_eq
    have h0 : 0 < pool.length := by omega
    refine okx_popapp (n := n + (min c xs.length - (i + 1))) (k := 1) (i := 4) (j := 5) (xs := pool) (ys := found) rfl hn' (hT'.mono (by omega)) (by decide) rfl rfl (by omega) (by omega) (dx_take (de_len (x := .list pool) (de_var rfl) (.inl rfl)) h0 (by omega)) fun r hr o2 t2 N H σ w s => ?_
    refine ⟨o2, _, ⟨pool.eraseIdx r, found ++ [pool[r]], t2, by rw [List.length_append, hf]; rfl, ?_, rfl⟩, N, w, s.forget 3⟩
    rw [List.append_assoc]
    exact (List.Perm.append_left found (erase_perm pool r hr)).trans hp
  · obtain ⟨pool, found, hT', hf, hp, rfl⟩ := hv
    refine okk_freeze (j := 5) rfl ?_
    exact okx_retP (hT'.mono (by omega)) (de_var (d := .list found) rfl) (hPo found pool hf hp) hR

theorem cal__law_pick {P : Program} {w : World} {K : PySem.W.Frag} {mg : Str → Option Value} {base : Heap} {f : Addr} {fd : FuncData} (T : Tx K mg) (C__law_take : Cal P w K mg base 1 "_law_take" p__law_take sp__law_take) (F : FnP K "_law_pick" (top 40) f fd) (hm : mg "_law_pick" = some (.ref f)) : Cal P w K mg base 2 "_law_pick" p__law_pick sp__law_pick :=
  cal_of F hm (FunD.bindsN F fun _ _ _ _ _ _ us hl => match us, hl with | [_, _, _], _ => rfl) (fn_tin F sc__law_pick (len__law_pick) fun cdv A outer s H E hr => ⟨_, ps__law_pick T C__law_take cdv A outer s H E hr, ok__law_pick⟩)

/-- four different lamps -/
structure L4 (l : List Nat) : Prop where
  nd : l.Nodup
  bd : ∀ i ∈ l, i < 24
theorem maskL_perm {l : List Nat} (h : L4 l) : (bitsL (maskL l)).Perm l := (List.perm_ext_iff_of_nodup (bitsL_nodup _) h.nd).mpr fun i => by
  rw [mem_bitsL, maskL_bit, decide_eq_true_iff]
  exact ⟨fun z => z.2, fun z => ⟨h.bd i z, z⟩⟩
theorem dx_pick {p : Addr} {ds : Sd} {ta : TE} {y : Dat} {l : List Nat} {c : Nat} (h : De ta ds y) (hy : isSeq y (l.map nI)) (hl : l.length ≤ 1000) (hc : c ≤ l.length) :
    DX p (tCall sp__law_pick [] L2.E0 (tCons (tVar 0) (tCons ta (tCons (tC (.int (c : Int))) tNil)))) ds c (fun d => ∃ u : List Nat, d = .list (u.map nI) ∧ u.length = c ∧ ∃ v, (u ++ v).Perm l) := by
  have e : min c (l.map nI).length = c := by rw [List.length_map]; exact Nat.min_eq_left hc
  refine ((dx_callT (k1 := 0) (k2 := c) (Po := fun d => ∃ zs rest, d = .list zs ∧ zs.length = min c (l.map nI).length ∧ (zs ++ rest).Perm (l.map nI)) (dxa_of (dea_2 h (de_n c))) fun es he => ⟨y, l.map nI, c, he, hy, by rw [List.length_map]; exact hl, by omega, Nat.le_of_eq e, fun zs rest h1 h2 => ⟨zs, rest, rfl, h1, h2⟩⟩).le (by omega)).imp ?_
  rintro d ⟨zs, rest, rfl, h1, h2⟩
  obtain ⟨ms, hp, e2⟩ := perm_map_inv nI l _ h2
  obtain ⟨u, v, rfl, e3, e4⟩ := List.map_eq_append_iff.mp e2.symm
  refine ⟨u, by rw [e3], ?_, v, hp⟩
  rw [← e3, List.length_map, e] at h1
  exact h1
theorem sub_bits {m : Nat} {u v : List Nat} (h : (u ++ v).Perm (bitsL m)) : L4 u ∧ ∀ i ∈ u, i ∈ bitsL m := by
  have nd : (u ++ v).Nodup := (List.Perm.nodup_iff h).mpr (bitsL_nodup m)
  have hm : ∀ i ∈ u, i ∈ bitsL m := fun i hi => h.mem_iff.mp (List.mem_append_left _ hi)
  exact ⟨⟨(List.nodup_append.mp nd).1, fun i hi => (mem_bitsL.mp (hm i hi)).1⟩, hm⟩
theorem l4_app {a b : Nat} {u v : List Nat} (hu : L4 u) (hv : L4 v) (h : ∀ i ∈ u, i ∉ v) : L4 (u ++ v) :=
  ⟨List.nodup_append.mpr ⟨hu.nd, hv.nd, fun x hx y hy e => h x hx (by rw [e]; exact hy)⟩, fun i hi => (List.mem_append.mp hi).elim (hu.bd i) (hv.bd i)⟩
theorem off_bits {a b i : Nat} (h : a &&& b = 0) (ha : i ∈ bitsL a) : i ∉ bitsL b := fun hb => by
  have h1 := (mem_bitsL.mp ha).2
  have h2 := (mem_bitsL.mp hb).2
  have : (a &&& b).testBit i = true := by rw [Nat.testBit_and, h1, h2]; rfl
  rw [h] at this
  simp at this
def Four (d : Dat) : Prop := ∃ m, d = lt m ∧ m < 2 ^ 24 ∧ popc m = 4
theorem four_of {l : List Nat} (h : L4 l) (hl : l.length = 4) : Four (.tuple ((bitsL (maskL l)).map nI)) := ⟨maskL l, rfl, maskL_lt h.bd, by unfold popc; rw [(maskL_perm h).length_eq, hl]⟩
theorem dx_sort4 {K : PySem.W.Frag} {p : Addr} {ds : Sd} {ta : TE} {k : Nat} (h : DX p ta ds k (fun d => ∃ u : List Nat, d = .list (u.map nI) ∧ u.length = 4 ∧ L4 u)) : DX p (tCB (rTupS K) (tCons (tCB (rSortD K) (tCons ta tNil)) tNil)) ds k Four := by
  refine (dx_cb (dxa_1 (P1 := fun d => ∃ u : List Nat, d = .list ((bitsL (maskL u)).map nI) ∧ u.length = 4 ∧ L4 u) (dx_cb (dxa_1 h) ?_)) ?_).le (by omega)
  · rintro _ ⟨_, _, rfl, ⟨u, rfl, h1, h2⟩, rfl⟩
    exact ⟨_, dcn_dc (dcn_sortI (.inl rfl) (maskL_perm h2) ((bitsL_asc _).imp Nat.le_of_lt)), u, rfl, h1, h2⟩
  · rintro _ ⟨_, _, rfl, ⟨u, rfl, h1, h2⟩, rfl⟩
    exact ⟨_, dc_tuple (.inl rfl), four_of h2 h1⟩
structure Six (ms : List Nat) : Prop where
  len : ms.length = 6
  bd : ∀ m ∈ ms, m < 2 ^ 24 ∧ popc m = 4
  dj : ms.Pairwise fun a b => a &&& b = 0
def R__law_near_four : RX := fun as k Po => ∃ ms : List Nat, as = [.tuple (ms.map lt)] ∧ Six ms ∧ k = 9 ∧ Po = Four

abbrev sp__law_near_four : Sp := spX R__law_near_four
abbrev N__law_near_four : List Str := ["_law_tin", "_law_fours_so", "_law_rows_so", "_law_way_so"]
abbrev p__law_near_four : List Str := ["_law_tin", "_law_fours_so"]
theorem sc__law_near_four : FnScope N__law_near_four p__law_near_four (defScope (top 58)) := ⟨rfl, rfl, rfl, by decide +kernel, rfl, by decide +kernel, by decide +kernel⟩
def t__law_near_four (K : PySem.W.Frag) (P : Program) (w : World) : TS := tSeq (tPar 2 3 (tCons (tCall sp__law_pick [] E0 (tCons (tVar 0) (tCons (tVar 1) (tCons (tC (.int 4)) (tNil))))) (tCons (tCall sp__law_take [] E0 (tCons (tVar 0) (tCons (tC (.int 5)) (tNil)))) (tNil)))) (tSeq (tIfS (tTest (tOp (rEqD K) (tVar 3) (tC (.int 0)))) (tRet (tOp (rIx K) (tVar 2) (tC (.int 0)))) (tNext)) (tSeq (tIfS (tTest (tOp (rEqD K) (tVar 3) (tC (.int 1)))) (tRet (tCB (rTupS K) (tCons (tCB (rSortD K) (tCons (tOp rCat (tCall sp__law_pick [] E0 (tCons (tVar 0) (tCons (tOp (rIx K) (tVar 2) (tC (.int 0))) (tCons (tC (.int 2)) (tNil))))) (tCall sp__law_pick [] E0 (tCons (tVar 0) (tCons (tOp (rIx K) (tVar 2) (tC (.int 1))) (tCons (tC (.int 2)) (tNil)))))) (tNil))) (tNil)))) (tNext)) (tSeq (tIfS (tTest (tOp (rEqD K) (tVar 3) (tC (.int 2)))) (tRet (tCB (rTupS K) (tCons (tCB (rSortD K) (tCons (tOp rCat (tCall sp__law_pick [] E0 (tCons (tVar 0) (tCons (tOp (rIx K) (tVar 2) (tC (.int 0))) (tCons (tC (.int 3)) (tNil))))) (tCall sp__law_pick [] E0 (tCons (tVar 0) (tCons (tOp (rIx K) (tVar 2) (tC (.int 1))) (tCons (tC (.int 1)) (tNil)))))) (tNil))) (tNil)))) (tNext)) (tSeq (tIfS (tTest (tOp (rEqD K) (tVar 3) (tC (.int 3)))) (tRet (tCB (rTupS K) (tCons (tCB (rSortD K) (tCons (tOp rCat (tOp rCat (tCall sp__law_pick [] E0 (tCons (tVar 0) (tCons (tOp (rIx K) (tVar 2) (tC (.int 0))) (tCons (tC (.int 2)) (tNil))))) (tCall sp__law_pick [] E0 (tCons (tVar 0) (tCons (tOp (rIx K) (tVar 2) (tC (.int 1))) (tCons (tC (.int 1)) (tNil)))))) (tCall sp__law_pick [] E0 (tCons (tVar 0) (tCons (tOp (rIx K) (tVar 2) (tC (.int 2))) (tCons (tC (.int 1)) (tNil)))))) (tNil))) (tNil)))) (tNext)) (tRet (tCB (rTupS K) (tCons (tCB (rSortD K) (tCons (tCall sp__law_pick [] E0 (tCons (tVar 0) (tCons (tLstRg (tRg1 (tC (.int 24)))) (tCons (tC (.int 4)) (tNil))))) (tNil))) (tNil))))))))
theorem ps__law_near_four {P : Program} {w : World} {K : PySem.W.Frag} {mg : Str → Option Value} {base : Heap} {f : Addr} (T : Tx K mg) (C__law_take : Cal P w K mg base 1 "_law_take" p__law_take sp__law_take) (C__law_pick : Cal P w K mg base 2 "_law_pick" p__law_pick sp__law_pick) (cdv : Value) (A : Around) (outer : List Env) (s : Shared) (H : Hp) (E : XK) (hr : Room 2 (A.deeper (envOfC "_law_near_four" (defScope (top 58)) s.heap.objs.size f cdv))) :
    PSs (cxOf CX0 P w K mg base N__law_near_four "_law_near_four" (defScope (top 58)) f cdv A outer s H E).nox (defBody (top 58)) (t__law_near_four K P w) := by
  have nd := sc__law_near_four.nd
  have hu := hu_of hr
  unfold t__law_near_four
  exact pss_cons (ps_par (i := 2) (j := 3) rfl nd rfl rfl (by decide) rfl rfl (pa_cons (pe_cal C__law_pick hr (pa_cons (pv 0) (pa_cons (pv 1) (pa_cons (pe_int) (pa_nil))))) (pa_cons (pe_cal C__law_take hr (pa_cons (pv 0) (pa_cons (pe_int) (pa_nil)))) (pa_nil))) (by rfl)) (pss_cons (ps_if (pt_cmpR (op_eqD hr.units) (pv 3) (pe_int) (nomark _)) (pss_one (ps_ret (pe_ix ix_seq (pv 2) (pe_int) (fun _ _ => rfl)))) (pss_nil)) (pss_cons (ps_if (pt_cmpR (op_eqD hr.units) (pv 3) (pe_int) (nomark _)) (pss_one (ps_ret (pe_ty T.tuple call_tuple_of (pa_cons (pe_bi T.sorted (cr_sortD hr.units) (pa_cons (pe_op op_cat (pe_cal C__law_pick hr (pa_cons (pv 0) (pa_cons (pe_ix ix_seq (pv 2) (pe_int) (fun _ _ => rfl)) (pa_cons (pe_int) (pa_nil))))) (pe_cal C__law_pick hr (pa_cons (pv 0) (pa_cons (pe_ix ix_seq (pv 2) (pe_int) (fun _ _ => rfl)) (pa_cons (pe_int) (pa_nil)))))) (pa_nil))) (pa_nil))))) (pss_nil)) (pss_cons (ps_if (pt_cmpR (op_eqD hr.units) (pv 3) (pe_int) (nomark _)) (pss_one (ps_ret (pe_ty T.tuple call_tuple_of (pa_cons (pe_bi T.sorted (cr_sortD hr.units) (pa_cons (pe_op op_cat (pe_cal C__law_pick hr (pa_cons (pv 0) (pa_cons (pe_ix ix_seq (pv 2) (pe_int) (fun _ _ => rfl)) (pa_cons (pe_int) (pa_nil))))) (pe_cal C__law_pick hr (pa_cons (pv 0) (pa_cons (pe_ix ix_seq (pv 2) (pe_int) (fun _ _ => rfl)) (pa_cons (pe_int) (pa_nil)))))) (pa_nil))) (pa_nil))))) (pss_nil)) (pss_cons (ps_if (pt_cmpR (op_eqD hr.units) (pv 3) (pe_int) (nomark _)) (pss_one (ps_ret (pe_ty T.tuple call_tuple_of (pa_cons (pe_bi T.sorted (cr_sortD hr.units) (pa_cons (pe_op op_cat (pe_op op_cat (pe_cal C__law_pick hr (pa_cons (pv 0) (pa_cons (pe_ix ix_seq (pv 2) (pe_int) (fun _ _ => rfl)) (pa_cons (pe_int) (pa_nil))))) (pe_cal C__law_pick hr (pa_cons (pv 0) (pa_cons (pe_ix ix_seq (pv 2) (pe_int) (fun _ _ => rfl)) (pa_cons (pe_int) (pa_nil)))))) (pe_cal C__law_pick hr (pa_cons (pv 0) (pa_cons (pe_ix ix_seq (pv 2) (pe_int) (fun _ _ => rfl)) (pa_cons (pe_int) (pa_nil)))))) (pa_nil))) (pa_nil))))) (pss_nil)) (pss_one (ps_ret (pe_ty T.tuple call_tuple_of (pa_cons (pe_bi T.sorted (cr_sortD hr.units) (pa_cons (pe_cal C__law_pick hr (pa_cons (pv 0) (pa_cons (pe_listRg rfl rfl T.list (prg_1 rfl T.range (pe_int))) (pa_cons (pe_int) (pa_nil))))) (pa_nil))) (pa_nil)))))))))
theorem len__law_near_four : ∀ as k Po, R__law_near_four as k Po → as.length + 1 = p__law_near_four.length := by rintro _ _ _ ⟨b, rfl, _⟩; rfl
theorem dx_cat2 {p : Addr} {ds : Sd} {ta tb : TE} {k1 k2 : Nat} {P1 P2 : List Nat → Prop} (ha : DX p ta ds k1 (fun d => ∃ u : List Nat, d = .list (u.map nI) ∧ P1 u)) (hb : DX p tb ds k2 (fun d => ∃ u : List Nat, d = .list (u.map nI) ∧ P2 u)) (hl : ∀ u v, P1 u → P2 v → u.length + v.length ≤ 100) :
    DX p (tOp rCat ta tb) ds (k1 + k2) (fun d => ∃ w : List Nat, d = .list (w.map nI) ∧ ∃ u v, w = u ++ v ∧ P1 u ∧ P2 v) := by
  refine dx_op ha hb ?_
  rintro _ _ ⟨u, rfl, hu⟩ ⟨v, rfl, hv⟩
  have := hl u v hu hv
  exact ⟨_, drn_dr (drn_cat (by rw [List.length_map, List.length_map]; omega)), u ++ v, by rw [List.map_append], u, v, rfl, hu, hv⟩
theorem ok__law_near_four {P : Program} {w : World} {K : PySem.W.Frag} : ∀ as c Po, R__law_near_four as c Po → ∀ (p : Addr) (o : HO) (n : Nat) (E0 Ni : Hp) (D : Ends), Ni p = none → Tv o (n + c) → RtX E0 Ni p n Po D.rt → Okk (upd E0 p o) Ni (t__law_near_four K P w) D (sX N__law_near_four p as) := by
  rintro _ _ _ ⟨ms, rfl, hm, rfl, rfl⟩ p o n E0 Ni D hn hT hR
  have hml := hm.len
  refine okx_par (n := n + 4) (k := 4) (k2 := 1) (Po := fun d => ∃ ns rest : List Nat, d = .list (ns.map lt) ∧ ns.length = 4 ∧ (ns ++ rest).Perm ms) (P2 := fun d => ∃ r, r < 5 ∧ d = nI r) rfl hn (hT.mono (by omega)) ?_ (dx_take (b := 5) (de_n 5) (by decide) (by decide)) ?_
  · have e : min 4 (ms.map lt).length = 4 := by rw [List.length_map, hml]; rfl
    refine ((dx_callT (k1 := 0) (k2 := 4) (Po := fun d => ∃ zs rest, d = .list zs ∧ zs.length = min 4 (ms.map lt).length ∧ (zs ++ rest).Perm (ms.map lt)) (dxa_of (dea_2 (de_var (d := .tuple (ms.map lt)) rfl) (de_n 4))) fun es he => ⟨_, ms.map lt, 4, he, .inr rfl, by rw [List.length_map, hml]; decide, by decide, Nat.le_of_eq e, fun zs rest h1 h2 => ⟨zs, rest, rfl, h1, h2⟩⟩).le (by omega)).imp ?_
    rintro d ⟨zs, rest, rfl, h1, h2⟩
    obtain ⟨ms', hp, e2⟩ := perm_map_inv lt ms _ h2
    obtain ⟨u, v, rfl, e3, e4⟩ := List.map_eq_append_iff.mp e2.symm
    refine ⟨u, v, by rw [e3], ?_, hp⟩
    rw [← e3, List.length_map, e] at h1
    exact h1
  · rintro _ _ o' ⟨ns, rest, rfl, hl4, hp⟩ ⟨r, hr, rfl⟩ hT'
    have hdj : (ns ++ rest).Pairwise fun a b => a &&& b = 0 := (List.Perm.pairwise_iff (fun {x y} h => by rw [Nat.and_comm]; exact h) hp).mpr hm.dj
    have hbd : ∀ m ∈ ns, m < 2 ^ 24 ∧ popc m = 4 := fun m h => hm.bd m (hp.mem_iff.mp (List.mem_append_left _ h))
    obtain ⟨a0, a1, a2, a3, rfl⟩ : ∃ a0 a1 a2 a3, ns = [a0, a1, a2, a3] := by
      match ns, hl4 with
      | [a0, a1, a2, a3], _ => exact ⟨a0, a1, a2, a3, rfl⟩
    have d01 : a0 &&& a1 = 0 := (List.pairwise_cons.mp hdj).1 a1 (by simp)
    have d02 : a0 &&& a2 = 0 := (List.pairwise_cons.mp hdj).1 a2 (by simp)
    have d12 : a1 &&& a2 = 0 := (List.pairwise_cons.mp (List.pairwise_cons.mp hdj).2).1 a2 (by simp)
    have b0 := hbd a0 (by simp)
    have b1 := hbd a1 (by simp)
    have b2 := hbd a2 (by simp)
    have q0 : (bitsL a0).length = 4 := b0.2
    have q1 : (bitsL a1).length = 4 := b1.2
    have q2 : (bitsL a2).length = 4 := b2.2
    show Okk _ _ _ _ [.raw (.ref p), .val (.tuple (ms.map lt)), .val (.list ([a0, a1, a2, a3].map lt)), .val (nI r)]
    have rix : ∀ (j m : Nat), [a0, a1, a2, a3][j]? = some m → De (tOp (rIx K) (tVar 2) (tC (.int (j : Int)))) (sv [.raw (.ref p), .val (.tuple (ms.map lt)), .val (.list ([a0, a1, a2, a3].map lt)), .val (nI r)]) (lt m) := fun j m h => de_ix (x := .list ([a0, a1, a2, a3].map lt)) (de_var rfl) (de_n j) (.inl rfl) (by rw [List.getElem?_map, h]; rfl)
    have tst : ∀ c : Nat, DeB (tTest (tOp (rEqD K) (tVar 3) (tC (.int (c : Int))))) (sv [.raw (.ref p), .val (.tuple (ms.map lt)), .val (.list ([a0, a1, a2, a3].map lt)), .val (nI r)]) (decide (r = c)) := fun c => deb_test (de_eqI (de_var rfl) (de_n c))
    have pk : ∀ (j m c : Nat), [a0, a1, a2, a3][j]? = some m → (bitsL m).length = 4 → c ≤ 4 → DX p (tCall sp__law_pick [] L2.E0 (tCons (tVar 0) (tCons (tOp (rIx K) (tVar 2) (tC (.int (j : Int)))) (tCons (tC (.int (c : Int))) tNil)))) (sv [.raw (.ref p), .val (.tuple (ms.map lt)), .val (.list ([a0, a1, a2, a3].map lt)), .val (nI r)]) c (fun d => ∃ u : List Nat, d = .list (u.map nI) ∧ (u.length = c ∧ L4 u ∧ ∀ i ∈ u, i ∈ bitsL m)) := fun j m c h h4 hc =>
      (dx_pick (l := bitsL m) (rix j m h) (.inr rfl) (by omega) (by omega)).imp fun d ⟨u, e, hu, v, hv⟩ => ⟨u, e, hu, sub_bits hv⟩
    refine okk_if (tst 0) (fun h => ?_) fun h => okk_next fun N H σ w s => ?_
    · exact okx_retP (hT'.mono (by omega)) (rix 0 a0 rfl) ⟨a0, rfl, b0.1, b0.2⟩ hR
    refine okk_if (tst 1) (fun h => ?_) (fun h => okk_next fun N H σ w s => ?_) N H σ w s
    · refine okx_ret rfl hn (hT'.mono (Nat.le_refl _)) ((dx_sort4 ((dx_cat2 (pk 0 a0 2 rfl q0 (by decide)) (pk 1 a1 2 rfl q1 (by decide)) ?_).imp ?_))) hR
      · rintro u v ⟨h1, _⟩ ⟨h2, _⟩; omega
      · rintro d ⟨w, rfl, u, v, rfl, ⟨h1, h2, h3⟩, h4, h5, h6⟩
        exact ⟨_, rfl, by rw [List.length_append, h1, h4], l4_app (a := 0) (b := 0) h2 h5 fun i hi hi2 => off_bits d01 (h3 i hi) (h6 i hi2)⟩
    refine okk_if (tst 2) (fun h => ?_) (fun h => okk_next fun N H σ w s => ?_) N H σ w s
    · refine okx_ret rfl hn (hT'.mono (Nat.le_refl _)) ((dx_sort4 ((dx_cat2 (pk 0 a0 3 rfl q0 (by decide)) (pk 1 a1 1 rfl q1 (by decide)) ?_).imp ?_))) hR
      · rintro u v ⟨h1, _⟩ ⟨h2, _⟩; omega
      · rintro d ⟨w, rfl, u, v, rfl, ⟨h1, h2, h3⟩, h4, h5, h6⟩
        exact ⟨_, rfl, by rw [List.length_append, h1, h4], l4_app (a := 0) (b := 0) h2 h5 fun i hi hi2 => off_bits d01 (h3 i hi) (h6 i hi2)⟩
    refine okk_if (tst 3) (fun h => ?_) (fun h => okk_next fun N H σ w s => ?_) N H σ w s
    · refine okx_ret rfl hn (hT'.mono (Nat.le_refl _)) ((dx_sort4 ((dx_cat2 (dx_cat2 (pk 0 a0 2 rfl q0 (by decide)) (pk 1 a1 1 rfl q1 (by decide)) ?_) (pk 2 a2 1 rfl q2 (by decide)) ?_).imp ?_))) hR
      · rintro u v ⟨h1, _⟩ ⟨h2, _⟩; omega
      · rintro w x ⟨u, v, rfl, ⟨h1, _⟩, h2, _⟩ ⟨h3, _⟩
        rw [List.length_append]; omega
      · rintro d ⟨w, rfl, y, x, rfl, ⟨u, v, rfl, ⟨h1, h2, h3⟩, h4, h5, h6⟩, h7, h8, h9⟩
        refine ⟨_, rfl, by rw [List.length_append, List.length_append, h1, h4, h7], l4_app (a := 0) (b := 0) (l4_app (a := 0) (b := 0) h2 h5 fun i hi hi2 => off_bits d01 (h3 i hi) (h6 i hi2)) h8 fun i hi hi2 => ?_⟩
        rcases List.mem_append.mp hi with z | z
        · exact off_bits d02 (h3 i z) (h9 i hi2)
        · exact off_bits d12 (h6 i z) (h9 i hi2)
    · refine okx_ret rfl hn (hT'.mono (Nat.le_refl _)) ((dx_sort4 ((dx_pick (l := List.range 24) (c := 4) (DeN.de (den_listRg (n := 24) (de_n 24) (by decide))) (.inl rfl) (by decide) (by decide)).imp ?_))) hR N H σ w s
      rintro d ⟨u, rfl, h1, v, h2⟩
      have nd : (u ++ v).Nodup := (List.Perm.nodup_iff h2).mpr List.nodup_range
      exact ⟨u, rfl, h1, (List.nodup_append.mp nd).1, fun i hi => List.mem_range.mp (h2.mem_iff.mp (List.mem_append_left _ hi))⟩

theorem cal__law_near_four {P : Program} {w : World} {K : PySem.W.Frag} {mg : Str → Option Value} {base : Heap} {f : Addr} {fd : FuncData} (T : Tx K mg) (C__law_take : Cal P w K mg base 1 "_law_take" p__law_take sp__law_take) (C__law_pick : Cal P w K mg base 2 "_law_pick" p__law_pick sp__law_pick) (F : FnP K "_law_near_four" (top 58) f fd) (hm : mg "_law_near_four" = some (.ref f)) : Cal P w K mg base 3 "_law_near_four" p__law_near_four sp__law_near_four :=
  cal_of F hm (FunD.bindsN F fun _ _ _ _ _ _ us hl => match us, hl with | [_, _], _ => rfl) (fn_tin F sc__law_near_four (len__law_near_four) fun cdv A outer s H E hr => ⟨_, ps__law_near_four T C__law_take C__law_pick cdv A outer s H E hr, ok__law_near_four⟩)

end Ez

set_option Elab.async false
set_option linter.all false
set_option autoImplicit false
set_option maxRecDepth 100000
set_option maxHeartbeats 1000000
/-! the script, walks over new lists, stores into an own list -/
namespace Ez
open PySem L2 Fz PyProof.Rows
theorem sql_same {K : PySem.W.Frag} {H H' : Hp} {a : Addr} {xs : List V} (k : Same H H') (h : SqL K H a xs) : SqL K H' a xs :=
  h.elim (fun h => .inl (h.elim (fun h => .inl (k _ _ h)) fun ⟨o, h⟩ => .inr ⟨o, k _ _ h⟩)) .inr
section
variable {E Ni : Hp} {D : Ends} {ds st' : Ss} {t u : TS} {te tb tx : TE} {d : Dat} {K : PySem.W.Frag} {a : Addr}
/-- a piece of the script, a new list -/
theorem cut_ev {N H : Hp} {σ : L2.St} {tl th : TO} {xs : List V} {lo hi : Option Int} (h0 : ds[0]? = some (.raw (.ref a))) (hS : SqL K E a xs) (w : Wd E Ni N H) (s : SS E N H σ ds)
    (hl : ∀ σ N, Sl N σ (sv ds) → ∀ H, Same N H → ∀ Q : Option Int → Hp → Prop, (∀ N' H', Stp N H N' H' → Q lo H') → tl σ H Q) (hh : ∀ σ N, Sl N σ (sv ds) → ∀ H, Same N H → ∀ Q : Option Int → Hp → Prop, (∀ N' H', Stp N H N' H' → Q hi H') → th σ H Q)
    (Q : VK) (q : ∀ p N' H', Stp N H N' H' → H p = none → N' p = none → H' p = some (.lst (cutV xs lo hi)) → Q (.ref p) H') : tSl (rSlL K) (tVar 0) tl th σ H Q :=
  ⟨.ref a, s.raw 0 _ h0, hl σ N s.sl H w.nh _ fun N1 H1 s1 => hh σ N1 (s.sl.mono s1.nn) H1 s1.nh _ fun N2 H2 s2 => ⟨a, xs, rfl, sql_same (w.eh.trans (s1.hh.trans s2.hh)) hS, fun p hp => by
    have sa := s1.trans s2
    exact q p N2 _ (sa.trans (Stp.hid sa.nh hp)) (same_none sa.hh hp) (same_none sa.nh hp) upd_same⟩⟩
theorem okk_forL {wi : TI} {g : TG} {tb : TS} {items : List Dat} (hI : ∀ N H σ, Wd E Ni N H → SS E N H σ ds → ∀ R : It → Hp → Prop, (∀ J N' H', Stp N H N' H' → Wk J N' items → R J H') → wi σ H R) (st : Nat → Ss) (h0 : st 0 = ds)
    (hg : ∀ Nj i d, items[i]? = some d → ∀ N H σ v, Wd E Nj N H → SS E N H σ (st i) → Rp N v d → g v σ H fun σ2 H2 => tb { D with nx := Nx E Nj (st (i + 1)), ct := Nx E Nj (st (i + 1)), bk := D.nx } σ2 H2) (k : ∀ N H σ, Wd E Ni N H → SS E N H σ (st items.length) → D.nx σ H) :
    Okk E Ni (tFor wi g tb) D ds := fun N H σ w s => hI N H σ w s _ fun J N1 H1 s1 wk => by
  have w1 := w.step s1
  refine ⟨fun i m σ' H' => m = items.length - i ∧ i ≤ items.length ∧ ∃ N', Wd E N1 N' H' ∧ SS E N' H' σ' (st i), ⟨items.length, by omega, Nat.zero_le _, N1, w1.re, by rw [h0]; exact s.step s1⟩, ?_⟩
  rintro i m σ' H' ⟨rfl, hi, N', w', s'⟩
  by_cases hlt : i < items.length
  · refine .inr ⟨wk.go i H' hlt (w'.ni.trans w'.nh), Nx E N1 (st (i + 1)), fun σ2 H2 hN => ⟨items.length - (i + 1), by omega, rfl, hlt, hN⟩, fun x H3 hy => ?_⟩
    have hd := List.getElem?_eq_getElem hlt
    obtain ⟨N3, s3, rx⟩ := wk.yld i _ N' H' x H3 hd w'.ni w'.nh hy
    exact hg N1 i _ hd N3 H3 σ' x (w'.step s3) (s'.step s3) rx
  · have ei : i = items.length := by omega
    subst ei
    exact .inl ⟨wk.stop H' (w'.ni.trans w'.nh), k N' H' σ' (w1.trans w') s'⟩
theorem okk_for2L {wi : TI} {tb : TS} {j l : Nat} {items : List Dat} (hI : ∀ N H σ, Wd E Ni N H → SS E N H σ ds → ∀ R : It → Hp → Prop, (∀ J N' H', Stp N H N' H' → Wk J N' items → R J H') → wi σ H R) (st : Nat → Ss) (h0 : st 0 = ds) (ht : ∀ (i : Nat) (d : Dat), items[i]? = some d → ∃ x y : Dat, d = PyData.tuple [x, y])
    (hb : ∀ (Nj : Hp) (i : Nat) (x y : Dat), items[i]? = some (PyData.tuple [x, y]) → Okk E Nj tb { D with nx := Nx E Nj (st (i + 1)), ct := Nx E Nj (st (i + 1)), bk := t D } (((st i).set j (.val x)).set l (.val y))) (k : Okk E Ni t D (st items.length)) :
    Okk E Ni (tSeq (tFor wi (gTup K 2 (gCons (gName j) (gCons (gName l) gNil))) tb) t) D ds := okk_forL (D := { D with nx := t D }) hI st h0 (fun Nj i d hd N H σ v w s r => by
  obtain ⟨x, y, rfl⟩ := ht i d hd
  obtain ⟨a, us, rfl, ha, ra⟩ := r.tup_ref
  cases ra with
  | cons r1 r2 =>
    cases r2 with
    | cons r3 r4 =>
      cases r4
      exact ⟨a, _, rfl, SqT.of (w.nh _ _ ha), rfl, _, _, rfl, _, _, rfl, rfl, hb Nj i x y hd N H _ w ((s.set_val j r1).set_val l r3)⟩) k
theorem wk_enumL {N : Hp} {a : Addr} {us : List V} {xs : List Dat} (ha : N a = some (.lst us)) (ra : RpA N us xs) : Wk (Ite K a) N (enumD xs) := by
  refine ⟨fun H2 k2 => ⟨us, SqL.of (k2 _ _ ha), by rw [enumD_len, ra.length]; exact Nat.le_refl _⟩, fun i H2 hi k2 => ?_, fun i d N2 H2 x H3 hd k2 k3 hy => ?_⟩
  · rw [enumD_len] at hi
    obtain ⟨u, hu, _⟩ := ra.get (List.getElem?_eq_getElem hi)
    exact ⟨us, u, SqL.of (k2 _ _ ha), hu⟩
  · obtain ⟨T, y, rfl, hT, rfl, hx⟩ := hy
    obtain ⟨z, hz, rfl⟩ := enumD_get hd
    obtain ⟨u, hu, ru⟩ := ra.get hz
    have e := hx us (SqL.of (k3 _ _ (k2 _ _ ha)))
    rw [hu] at e
    cases e
    exact ⟨_, Stp.new k3 hT, .tup upd_same (.cons (.int _) (.cons ((ru.mono k2).mono (same_new (same_none k3 hT))) .nil))⟩
/-- an own list is read: the answer is an int -/
theorem own_evI {N H : Hp} {σ : L2.St} {E' : Hp} {i : Nat} {z : Int} {xs : List Dat} (hi : ds[i]? = some (.own xs)) (k : Same N H) (s : SS E' N H σ ds) (h : De te (sv (ds.set i (.val (.list xs)))) (.int z)) (Q : VK) (q : ∀ H1, Stp N H N H1 → Q (.int z) H1) : te σ H Q := by
  obtain ⟨a, sq, eq, nq, us, hq, ru⟩ := s.own i _ hi rfl
  refine h σ _ (own_sl s hi sq nq ru) H (same_up k hq) Q fun v N1 H1 s1 r1 => ?_
  rw [Rp.int_eq r1]
  exact q H1 ⟨Same.refl N, s1.hh, fun x u e => s1.hh x u (k x u e), fun _ _ e => e⟩
/-- xs[j] = an int read from xs, at the end of a turn -/
theorem okk_putIxN {i j : Nat} {z : Int} {xs : List Dat} {tj : TE} (js : List Nat) (hi : ds[i]? = some (.own xs)) (hj : j < xs.length) (h : De te (sv (ds.set i (.val (.list xs)))) (.int z)) (h2 : De tj (sv ds) (nI j)) (e : fgA js (ds.set i (.own (xs.set j (.int z)))) = st') (hn : ∀ σ H, Nx E Ni st' σ H → D.nx σ H := by exact fun _ _ z => z) :
    Okk E Ni (tAsg te (gSub (tVar i) tj rSetL)) D ds := fun N H σ w s =>
  own_evI hi w.nh s h _ fun H1 s1 => by
    have w1 := w.step s1
    have ss1 := s.step s1
    obtain ⟨q, sq, eq, nq, us, hq, ru⟩ := ss1.own i _ hi rfl
    refine ⟨.ref q, sq, h2 σ N ss1.sl H1 w1.nh _ fun v N2 H2 s2 r2 => ?_⟩
    rw [Rp.int_eq (i := (j : Int)) r2]
    have e2 : H2 q = some (.lst us) := s2.hh _ _ hq
    have n2 : N2 q = none := s2.fr q (by rw [hq]; exact mb (by intro _ z; cases z)) nq
    have w2 := w1.step s2
    have ss2 := ss1.step s2
    refine ⟨q, us, (j : Int), j, rfl, rfl, e2, ixN_nat (by rw [ru.length]; exact hj), ?_⟩
    have m := ss2.mut i (k := .own (xs.set j (.int z))) (o := .lst (us.set j (.int z))) hi rfl sq rfl ⟨_, upd_same, (ru.mono s2.nn).set j (.int z)⟩
    exact hn σ _ ⟨N2, ⟨w2.ni, same_mut w2.eh eq, same_mut w2.nh n2, w2.fr⟩, e ▸ m.forgets js⟩
end
end Ez

set_option Elab.async false
set_option linter.all false
set_option autoImplicit false
set_option maxRecDepth 100000
set_option maxHeartbeats 2000000
namespace Ez
open PySem PySem.Spec L2 Fz PyProof.Rows

/-! cells, box -/
theorem bit_small (b : Bool) : -(2 ^ 64) < (if b then (1 : Int) else 0) ∧ (if b then (1 : Int) else 0) < 2 ^ 64 := by cases b <;> decide

def R__law_box (as : List Dat) (r : Dat) : Prop := ∃ (c : Int) (a b : Nat), as = [.list [.int c], nI 0] ∧ (if c < 0 then -c else c) * (if decide ((10 : Int) ^ (18 : Int).toNat ≤ (if c < 0 then -c else c)) then 1 else 0) = (a : Int) ∧ c.fmod 2305843009213693951 + 39373 * 0 + 11040 = (b : Int) ∧ r = lN [a, b, 0]
theorem box_ok (c : Int) : ∃ a b : Nat, R__law_box [.list [.int c], nI 0] (lN [a, b, 0]) ∧ b ≤ 2 ^ 62 := by
  have h1 : 0 ≤ (if c < 0 then -c else c) * (if decide ((10 : Int) ^ (18 : Int).toNat ≤ (if c < 0 then -c else c)) then 1 else 0) := by
    refine Int.mul_nonneg ?_ ?_
    · split <;> omega
    · split <;> omega
  obtain ⟨a, ha⟩ := Int.eq_ofNat_of_zero_le h1
  have h2 := Int.emod_nonneg c (show (2305843009213693951 : Int) ≠ 0 by decide)
  have h3 := Int.emod_lt_of_pos c (show (0 : Int) < 2305843009213693951 by decide)
  rw [← Int.fmod_eq_emod_of_nonneg c (show (0 : Int) ≤ 2305843009213693951 by decide)] at h2 h3
  obtain ⟨b, hb⟩ := Int.eq_ofNat_of_zero_le h2
  refine ⟨a, b + 11040, ⟨c, a, b + 11040, rfl, ha, by rw [hb]; omega, rfl⟩, by omega⟩

abbrev sp__law_box : Sp := spD R__law_box
abbrev N__law_box : List Str := ["_law_script", "_law_k", "_law_cell_so"]
abbrev p__law_box : List Str := ["_law_script", "_law_k"]
theorem sc__law_box : FnScope N__law_box p__law_box (defScope (top 36)) := ⟨rfl, rfl, rfl, by decide +kernel, rfl, by decide +kernel, by decide +kernel⟩
def t__law_box (K : PySem.W.Frag) (P : Program) (w : World) : TS := tSeq (tAsg (tIf (tTest (tOp rLt (tVar 1) (tCB (rLenS K) (tCons (tVar 0) (tNil))))) (tOp (rIx K) (tVar 0) (tVar 1)) (tC (.int 0))) (gName 2)) (tRet (tLst (tCons (tOp rMulS (tCB rAbs (tCons (tVar 2) (tNil))) (tCB rInt (tCons (tOp rGe (tCB rAbs (tCons (tVar 2) (tNil))) (tOp rPow (tC (.int 10)) (tC (.int 18)))) (tNil)))) (tCons (tOp rAdd (tOp rAdd (tOp rMod (tCB rInt (tCons (tVar 2) (tNil))) (tC (.int 2305843009213693951))) (tOp rMulS (tC (.int 39373)) (tVar 1))) (tC (.int 11040))) (tCons (tC (.int 0)) (tNil))))))
theorem ps__law_box {P : Program} {w : World} {K : PySem.W.Frag} {mg : Str → Option Value} {base : Heap} {f : Addr} (T : Tx K mg) (cdv : Value) (A : Around) (outer : List Env) (s : Shared) (H : Hp) (E : XK) (hr : Room 0 (A.deeper (envOfC "_law_box" (defScope (top 36)) s.heap.objs.size f cdv))) :
    PSs (cxOf CX0 P w K mg base N__law_box "_law_box" (defScope (top 36)) f cdv A outer s H E).nox (defBody (top 36)) (t__law_box K P w) := by
  have nd := sc__law_box.nd
  have hu := hu_of hr
  unfold t__law_box
  exact pss_cons (ps_set (i := 2) nd rfl (by first | exact Or.inl rfl | exact Or.inr rfl) (pe_ifExp (pt_cmpR op_lt (pv 1) (pe_bi T.len call_len_seq (pa_cons (pv 0) (pa_nil))) (nomark _)) (pe_ix ix_seq (pv 0) (pv 1) (fun _ _ => rfl)) (pe_int))) (pss_one (ps_ret (pe_lst (pa_cons (pe_op op_mul (pe_bi T.abs call_abs (pa_cons (pv 2) (pa_nil))) (pe_ty T.int call_int1 (pa_cons (pe_cmpR op_ge (pe_bi T.abs call_abs (pa_cons (pv 2) (pa_nil))) (pe_op op_pow (pe_int) (pe_int)) (nomark _)) (pa_nil)))) (pa_cons (pe_op op_add (pe_op op_add (pe_op op_modN (pe_ty T.int call_int1 (pa_cons (pv 2) (pa_nil))) (pe_int)) (pe_op op_mul (pe_int) (pv 1))) (pe_int)) (pa_cons (pe_int) (pa_nil)))))))
theorem len__law_box : ∀ as r, R__law_box as r → as.length = p__law_box.length := by rintro _ _ ⟨l, a, b, rfl, _⟩; rfl
theorem ok__law_box {P : Program} {w : World} {K : PySem.W.Frag} : ∀ as r, R__law_box as r → ∀ (E0 Ni : Hp) (D : Ends), Rt E0 Ni r D.rt → Okk E0 Ni (t__law_box K P w) D (s0 N__law_box as) := by
  rintro _ _ ⟨c, a, b, rfl, ha, hb, rfl⟩ E0 Ni D hR
  refine okk_set (d := .int c) (de_if (b := true) ((deb_test (de_lt (a := 0) (b := 1) (de_var rfl) (de_len (x := .list [.int c]) (de_var rfl) (.inl rfl)))).to rfl) (fun _ => de_ix (x := .list [.int c]) (j := 0) (de_var rfl) (de_var rfl) (.inl rfl) rfl) fun z => by cases z) ?_
  have hc : ∀ ds : Sd, ds[2]? = some (some (.int c)) → De (tCB rAbs (tCons (tVar 2) tNil)) ds (.int (if c < 0 then -c else c)) := fun ds h => de_cb (dea_1 (de_var h)) dc_abs
  refine okk_ret (DeN.de (den_lst (dea_3 (x := nI a) (y := nI b) (z := nI 0) ((de_op (hc _ rfl) (de_cb (dea_1 (de_op (hc _ rfl) (de_op (x := .int 10) (y := .int 18) de_int de_int (dr_I ⟨by decide, by decide, by decide⟩)) dr_B0)) dc_intB) (dr_I (.inr (bit_small _)))).to ?_) ((de_op (de_op (de_op (de_cb (dea_1 (de_var (d := .int c) rfl)) dc_int) (de_int (i := 2305843009213693951)) (dr_I (by decide))) (de_op (de_int (i := 39373)) (de_var (d := .int 0) rfl) (dr_I (.inr (by decide)))) dr_I0) (de_int (i := 11040)) dr_I0).to ?_) (de_n 0)) (Nat.le_of_ble_eq_true rfl))) hR
  · show PyData.int _ = .int _
    congr 1
  · show PyData.int _ = .int _
    congr 1

theorem cal__law_box {P : Program} {w : World} {K : PySem.W.Frag} {mg : Str → Option Value} {base : Heap} {f : Addr} {fd : FuncData} (T : Tx K mg) (F : FnP K "_law_box" (top 36) f fd) (hm : mg "_law_box" = some (.ref f)) : Cal P w K mg base 1 "_law_box" p__law_box sp__law_box :=
  cal_of F hm (FunD.bindsN F fun _ _ _ _ _ _ us hl => match us, hl with | [_, _], _ => rfl) (fn_data F sc__law_box (len__law_box) fun cdv A outer s H E hr => ⟨_, ps__law_box T cdv A outer s H E hr, ok__law_box⟩)

def sp__law_cells (K : PySem.W.Frag) : Sp := fun vs H Q _ => ∃ (a : Addr) (ns : List Int), vs = [.ref a, .int 1] ∧ SqL K H a (ns.map V.int) ∧ ns.length ≤ 63 ∧ ∀ (c : Int) (v : V) (N' H' : Hp), Stp (fun _ => none) H N' H' → Rp N' v (.list [.int c]) → Q v H'


abbrev N__law_cells : List Str := ["_law_script", "_law_most_so", "_law_cells_so", "_law_k", "_law_cell_so", "_law_at_so"]
abbrev p__law_cells : List Str := ["_law_script", "_law_most_so"]
theorem sc__law_cells : FnScope N__law_cells p__law_cells (defScope (top 38)) := ⟨rfl, rfl, rfl, by decide +kernel, rfl, by decide +kernel, by decide +kernel⟩
def t__law_cells (K : PySem.W.Frag) (P : Program) (w : World) : TS := tSeq (tAsg (tOrT K (tCB (rLstS K) (tCons (tSl (rSlL K) (tVar 0) (tNoPart) (tPart (tVar 1))) (tNil))) (tLst (tCons (tC (.int 0)) (tNil)))) (gName 2)) (tSeq (tFor (iEnum K (tCons (tSl (rSlL K) (tVar 0) (tPart (tVar 1)) (tPart (tC (.int 63)))) (tNil))) (gTup K 2 (gCons (gName 3) (gCons (gName 4) (gNil)))) (tSeq (tAsg (tOp rMod (tCB rInt (tCons (tVar 3) (tNil))) (tVar 1)) (gName 5)) (tAsg (tOp rAdd (tOp (rIx K) (tVar 2) (tVar 5)) (tOp rMulS (tVar 4) (tOp rAdd (tVar 3) (tC (.int 2))))) (gSub (tVar 2) (tVar 5) rSetL)))) (tRet (tVar 2)))
theorem ps__law_cells {P : Program} {w : World} {K : PySem.W.Frag} {mg : Str → Option Value} {base : Heap} {f : Addr} (T : Tx K mg) (cdv : Value) (A : Around) (outer : List Env) (s : Shared) (H : Hp) (E : XK) (hr : Room 0 (A.deeper (envOfC "_law_cells" (defScope (top 38)) s.heap.objs.size f cdv))) :
    PSs (cxOf CX0 P w K mg base N__law_cells "_law_cells" (defScope (top 38)) f cdv A outer s H E).nox (defBody (top 38)) (t__law_cells K P w) := by
  have nd := sc__law_cells.nd
  have hu := hu_of hr
  unfold t__law_cells
  exact pss_cons (ps_set (i := 2) nd rfl (by first | exact Or.inl rfl | exact Or.inr rfl) (pe_orT (pe_ty T.list call_list_of (pa_cons (pe_slice sl_list (pv 0) (po_none) (po_some (pv 1))) (pa_nil))) (pe_one (pe_lst (pa_cons (pe_int) (pa_nil)))))) (pss_cons (ps_for PassesOwn.never rfl (pi_enum rfl T.enumerate (pa_cons (pe_slice sl_list (pv 0) (po_some (pv 1)) (po_some (pe_int))) (pa_nil))) (pg_tup (by rfl) (pgs_cons (pg_name (i := 3) nd rfl (by first | exact Or.inl rfl | exact Or.inr rfl)) (pgs_cons (pg_name (i := 4) nd rfl (by first | exact Or.inl rfl | exact Or.inr rfl)) (pgs_nil)))) (pss_cons (ps_set (i := 5) nd rfl (by first | exact Or.inl rfl | exact Or.inr rfl) (pe_op op_modN (pe_ty T.int call_int1 (pa_cons (pv 3) (pa_nil))) (pv 1))) (pss_one (ps_asg (pe_op op_add (pe_ix ix_seq (pv 2) (pv 5) (fun _ _ => rfl)) (pe_op op_mul (pv 4) (pe_op op_add (pv 3) (pe_int)))) (pg_sub (pv 2) (pv 5) set_list (fun _ => rfl)))))) (pss_one (ps_ret (pv 2))))
theorem cut_map (ns : List Int) (lo hi : Option Int) : ∃ ys : List Int, cutV (ns.map V.int) lo hi = ys.map V.int ∧ ys.length ≤ ns.length := by
  refine ⟨(ns.drop (HT.sIx ns.length 0 lo)).take (HT.sIx ns.length ns.length hi - HT.sIx ns.length 0 lo), ?_, ?_⟩
  · unfold cutV
    rw [List.length_map, List.map_take, List.map_drop]
  · rw [List.length_take, List.length_drop]; omega
theorem cut_to1 (ns : List Int) : cutV (ns.map V.int) none (some (1 : Int)) = (ns.take 1).map V.int := by
  unfold cutV
  rw [show (some (1 : Int)) = some ((1 : Nat) : Int) from rfl, HT.sIx_nat, HT.sIx_none, List.drop_zero, Nat.sub_zero, List.length_map]
  cases ns with
  | nil => rfl
  | cons a l => rw [Nat.min_eq_left (by rw [List.length_cons]; omega)]; rfl
def csI (ys : List Int) (c0 : Int) : Nat → Int
  | 0 => c0
  | i + 1 => csI ys c0 i + ys.getD i 0 * ((i + 2 : Nat) : Int)
theorem ok__law_cells {P : Program} {w : World} {K : PySem.W.Frag} {E : Hp} {a : Addr} {ns : List Int} (hS : SqL K E a (ns.map V.int)) (hl : ns.length ≤ 63) (D : Ends) (hR : ∀ c, Rt E (fun _ => none) (.list [.int c]) D.rt) : Okk E (fun _ => none) (t__law_cells K P w) D (sX N__law_cells a [nI 1]) := by
  show Okk E (fun _ => none) (t__law_cells K P w) D [.raw (.ref a), .val (nI 1), .no, .no, .no, .no]
  have rest : ∀ c0 : Int, Okk E (fun _ => none) (tSeq (tFor (iEnum K (tCons (tSl (rSlL K) (tVar 0) (tPart (tVar 1)) (tPart (tC (.int 63)))) tNil)) (gTup K 2 (gCons (gName 3) (gCons (gName 4) gNil))) (tSeq (tAsg (tOp rMod (tCB rInt (tCons (tVar 3) tNil)) (tVar 1)) (gName 5)) (tAsg (tOp rAdd (tOp (rIx K) (tVar 2) (tVar 5)) (tOp rMulS (tVar 4) (tOp rAdd (tVar 3) (tC (.int 2))))) (gSub (tVar 2) (tVar 5) rSetL)))) (tRet (tVar 2))) D [.raw (.ref a), .val (nI 1), .own [.int c0], .no, .no, .no] := fun c0 => by
    obtain ⟨ys, hy, hyl⟩ := cut_map ns (some ((1 : Nat) : Int)) (some ((63 : Nat) : Int))
    refine okk_for2L (j := 3) (l := 4) (items := enumD (ys.map PyData.int)) (fun N H σ w s R q => ?_) (fun i => [.raw (.ref a), .val (nI 1), .own [.int (csI ys c0 i)], .no, .no, .no]) rfl (fun i d h => ?_) (fun Nj i x y h => ?_) ?_
    · refine cut_ev (lo := some ((1 : Nat) : Int)) (hi := some ((63 : Nat) : Int)) rfl hS w s (part_of (de_var rfl)) (part_of (de_n 63)) _ fun p N1 H1 s1 hp np e1 => ?_
      rw [hy] at e1
      refine ⟨p, _, rfl, SqL.of e1, ?_⟩
      exact q _ _ H1 (s1.know hp np e1) (wk_enumL upd_same (rp_ints ys))
    · obtain ⟨x, _, rfl⟩ := enumD_get h
      exact ⟨_, _, rfl⟩
    · obtain ⟨z, hz, e⟩ := enumD_get h
      obtain ⟨v, hv, rfl⟩ := get_map hz
      have e1 : x = nI i ∧ y = .int v := by
        have := PyData.tuple.inj e
        simp only [List.cons.injEq, and_true] at this
        exact this
      obtain ⟨rfl, rfl⟩ := e1
      have hi : i < 63 := by
        have := (List.getElem?_eq_some_iff.mp hv).1
        omega
      have hgd : ys.getD i 0 = v := by rw [List.getD_eq_getElem?_getD, hv]; rfl
      refine okk_set (d := nI 0) ((de_mod (a := i) (b := 1) (de_intN (de_var rfl)) (de_var rfl) (by decide)).to (by rw [Nat.mod_one])) ?_
      refine okk_putIxN (j := 0) (z := csI ys c0 (i + 1)) [3, 4, 5] rfl (by simp) ((de_op (x := .int (csI ys c0 i)) (de_ix (x := .list [.int (csI ys c0 i)]) (j := 0) (de_var rfl) (de_var rfl) (.inl rfl) rfl) (de_op (x := .int v) (y := nI (i + 2)) (de_var rfl) (de_add (a := i) (b := 2) (de_var rfl) (de_n 2)) (dr_I (.inr ⟨by omega, by omega⟩))) dr_I0).to ?_) (de_var rfl) rfl
      rw [csI, hgd]
    · refine okk_freeze (j := 2) rfl ?_
      exact okk_ret (de_var rfl) (hR _)
  refine (fun N H σ w s => ?_ : Okk _ _ (tSeq (tAsg (tOrT K (tCB (rLstS K) (tCons (tSl (rSlL K) (tVar 0) tNoPart (tPart (tVar 1))) tNil)) (tLst (tCons (tC (.int 0)) tNil))) (gName 2)) _) _ _)
  refine cut_ev (lo := none) (hi := some ((1 : Nat) : Int)) rfl hS w s part_no (part_of (de_var rfl)) _ fun p N1 H1 s1 hp np e1 => ?_
  rw [show (some ((1 : Nat) : Int)) = some (1 : Int) from rfl, cut_to1] at e1
  refine ⟨p, _, rfl, .inl (SqL.of e1), fun l hl' => ?_⟩
  have s2 := s1.trans (Stp.hid (o := .lst ((ns.take 1).map V.int)) s1.nh hl')
  refine ⟨_, .inl ⟨_, SqL.of upd_same, rfl⟩, ?_⟩
  cases ns with
  | nil =>
    rw [if_neg (by decide)]
    refine ⟨show 1 ≤ sizeLine by decide, fun q hq => ?_⟩
    have s3 := s2.trans (Stp.hid (o := .lst [V.int 0]) s2.nh hq)
    exact rest 0 N1 _ _ (w.step s3) (s.set_own s3 2 (k := .own [.int 0]) (same_none (w.step s2).eh hq) (same_none s2.hh hq) (same_none s2.nh hq) ⟨_, upd_same, .cons (.int 0) .nil⟩ rfl)
  | cons v r =>
    exact rest v N1 _ _ (w.step s2) (s.set_own s2 2 (k := .own [.int v]) (same_none (w.step s1).eh hl') (same_none s1.hh hl') (same_none s1.nh hl') ⟨_, upd_same, .cons (.int v) .nil⟩ rfl)
theorem cal__law_cells {P : Program} {w : World} {K : PySem.W.Frag} {mg : Str → Option Value} {base : Heap} {f : Addr} {fd : FuncData} (T : Tx K mg) (F : FnP K "_law_cells" (top 38) f fd) (hm : mg "_law_cells" = some (.ref f)) : Cal P w K mg base 1 "_law_cells" p__law_cells (sp__law_cells K) := by
  refine cal_of F hm (FunD.bindsN F fun _ _ _ _ _ _ us hl => match us, hl with | [_, _], _ => rfl) (F.ok sc__law_cells (fun vs H Q E h => ?_) fun cdv A outer s H vs Q E hr h => ?_)
  · obtain ⟨a, ns, rfl, _⟩ := h
    rfl
  · obtain ⟨a, ns, rfl, hS, hl, hQ⟩ := h
    refine ⟨_, (ps__law_cells T cdv A outer s H E hr).nox, ok__law_cells hS hl { nx := fun _ H' => Q .non H', rt := Q } (fun c v N' H' w' r' => hQ c v N' H' w'.stp r') (fun _ => none) H _ (Wd.start fun _ _ e => by cases e) (ss_startX (N0 := fun _ => none) (.cons (.int 1) .nil))⟩

end Ez

set_option Elab.async false
set_option linter.all false
set_option autoImplicit false
set_option maxRecDepth 100000
set_option maxHeartbeats 1000000
/-! dicts by ints; walks over dicts that are locked -/
namespace Ez
open PySem L2 Fz PyProof.Rows
section
variable {N : Hp}
theorem RelK.length {ws : List (L2.Key × V)} {kvs : List (Int × Dat)} (h : RelK N ws kvs) : ws.length = kvs.length := Paired.length h
theorem RelK.mono {N' : Hp} {ws : List (L2.Key × V)} {kvs : List (Int × Dat)} (k : Same N N') (h : RelK N ws kvs) : RelK N' ws kvs := L2.Paired.mapP h fun _ _ z => ⟨z.1, z.2.mono k⟩
theorem inl_inj {a b : Int} : (Sum.inl a : L2.Key) = Sum.inl b ↔ a = b := ⟨fun h => Sum.inl.inj h, fun h => by rw [h]⟩
theorem RelK.get : ∀ {ws : List (L2.Key × V)} {kvs : List (Int × Dat)}, RelK N ws kvs → ∀ {k : Int} {d : Dat}, valX kvs k = some d → ∃ v, valV ws (Sum.inl k) = some v ∧ Rp N v d
  | _, _, .nil, k, d, h => by cases h
  | _, _, .cons (a := w) (b := kv) h t, k, d, e => by
    rw [valX_cons] at e
    by_cases hk : kv.1 = k
    · rw [if_pos hk] at e
      cases e
      exact ⟨w.2, valV_pos (by rw [h.1, hk]), h.2⟩
    · rw [if_neg hk] at e
      obtain ⟨v, h1, h2⟩ := RelK.get t e
      exact ⟨v, by rw [valV_neg (by rw [h.1, inl_inj]; exact hk)]; exact h1, h2⟩
theorem RelK.getN : ∀ {ws : List (L2.Key × V)} {kvs : List (Int × Dat)}, RelK N ws kvs → ∀ {k : Int}, valX kvs k = none → valV ws (Sum.inl k) = none
  | _, _, .nil, k, h => rfl
  | _, _, .cons (a := w) (b := kv) h t, k, e => by
    rw [valX_cons] at e
    by_cases hk : kv.1 = k
    · rw [if_pos hk] at e; cases e
    · rw [if_neg hk] at e
      rw [valV_neg (by rw [h.1, inl_inj]; exact hk)]
      exact RelK.getN t e
theorem RelK.any : ∀ {ws : List (L2.Key × V)} {kvs : List (Int × Dat)}, RelK N ws kvs → ∀ (k : Int), (ws.any fun w => decide (w.1 = Sum.inl k)) = kvs.any fun kv => decide (kv.1 = k)
  | _, _, .nil, k => rfl
  | _, _, .cons h t, k => by
    rw [List.any_cons, List.any_cons, RelK.any t, h.1]
    congr 1
    exact decide_eq_decide.mpr inl_inj
theorem RelK.put {ws : List (L2.Key × V)} {kvs : List (Int × Dat)} (h : RelK N ws kvs) (k : Int) {v : V} {d : Dat} (r : Rp N v d) : RelK N (putK ws (Sum.inl k) v) (putX kvs k d) := by
  unfold putK putX
  rw [h.any k]
  split
  · rename_i hc
    clear hc
    induction h with
    | nil => exact .nil
    | @cons wa kb _ _ a t ih =>
      refine .cons ?_ ih
      show (if wa.1 = Sum.inl k then (wa.1, v) else wa).1 = Sum.inl (if kb.1 = k then (kb.1, d) else kb).1 ∧ Rp N (if wa.1 = Sum.inl k then (wa.1, v) else wa).2 (if kb.1 = k then (kb.1, d) else kb).2
      by_cases e : kb.1 = k
      · rw [if_pos e, if_pos (by rw [a.1, e])]; exact ⟨a.1, r⟩
      · rw [if_neg e, if_neg (by rw [a.1, inl_inj]; exact e)]; exact a
  · exact Paired.snoc h ⟨rfl, r⟩
end
section
variable {E Ni : Hp} {D : Ends} {ds st' : Ss} {t u : TS} {te tk : TE} {d : Dat} {K : PySem.W.Frag}
/-- x = d[k] if k in d else e -/
theorem okk_getK {i j : Nat} {kvs : List (Int × Dat)} {h : Nat} (hi : ds[i]? = some (.ownK kvs)) (hk : De tk (sv ds) (nI h)) (he : De te (sv ds) d) (k : Okk E Ni t D (ds.set j (.val ((valX kvs (h : Int)).getD d)))) :
    Okk E Ni (tSeq (tAsg (tIf (tB (tDIn tk (tVar i))) (tDGet (tVar i) tk) te) (gName j)) t) D ds := fun N H σ w s =>
  hk σ N s.sl H w.nh _ fun y N1 H1 s1 r1 => by
    rw [Rp.int_eq (i := (h : Int)) r1]
    have w1 := w.step s1
    have ss1 := s.step s1
    obtain ⟨p, sp, ep, np, ws, hp, r⟩ := ss1.own i _ hi rfl
    refine ⟨.ref p, sp, p, _, rfl, DGet.k (k := Sum.inl (h : Int)) hp, _, rfl, ?_⟩
    cases e : valX kvs (h : Int) with
    | none =>
      rw [r.getN e]
      show te σ H1 _
      refine he σ N1 ss1.sl H1 w1.nh _ fun v N2 H2 s2 r2 => ?_
      rw [e] at k
      exact k N2 H2 _ (w1.step s2) ((ss1.step s2).set_val j r2)
    | some x =>
      obtain ⟨v, hv, rv⟩ := r.get e
      rw [hv]
      show (tDGet (tVar i) tk) σ H1 _
      refine ⟨.ref p, sp, hk σ N1 ss1.sl H1 w1.nh _ fun y2 N2 H2 s2 r2 => ?_⟩
      rw [Rp.int_eq (i := (h : Int)) r2]
      have hg := DGet.k (k := Sum.inl (h : Int)) (s2.hh _ _ hp)
      rw [hv] at hg
      refine ⟨p, v, rfl, hg, ?_⟩
      rw [e] at k
      exact k N2 H2 _ (w1.step s2) ((ss1.step s2).set_val j (rv.mono s2.nn))
theorem okk_putKN {i : Nat} {kvs : List (Int × Dat)} {h : Nat} (js : List Nat) (hi : ds[i]? = some (.ownK kvs)) (hv : De te (sv ds) d) (hk : De tk (sv ds) (nI h)) (hl : kvs.length < 100000) (e : fgA js (ds.set i (.ownK (putX kvs (h : Int) d))) = st') (hn : ∀ σ H, Nx E Ni st' σ H → D.nx σ H := by exact fun _ _ z => z) :
    Okk E Ni (sDPut (tVar i) tk te) D ds := fun N H σ w s => by
  obtain ⟨p, sp, ep, np, ws, hp, r⟩ := s.own i _ hi rfl
  refine hv σ N s.sl H w.nh _ fun v N1 H1 s1 r1 => ⟨.ref p, sp, hk σ N1 (s.sl.mono s1.nn) H1 s1.nh _ fun y N2 H2 s2 r2 => ?_⟩
  rw [Rp.int_eq (i := (h : Int)) r2]
  have s12 := s1.trans s2
  have e1 : H2 p = some (.dK ws) := s12.hh _ _ hp
  have n1 : N2 p = none := s12.fr p (by rw [hp]; exact mb (by intro _ z; cases z)) np
  have w1 := w.step s12
  refine ⟨p, _, rfl, DPut.k (k := Sum.inl (h : Int)) e1 (Nat.lt_of_lt_of_le (show ws.length < 100000 by rw [r.length]; exact hl) (by decide)), ?_⟩
  exact hn σ _ ⟨N2, ⟨w1.ni, same_mut w1.eh ep, same_mut w1.nh n1, w1.fr⟩, e ▸ (((s.step s12).mut i (k := .ownK (putX kvs (h : Int) d)) hi rfl sp rfl ⟨_, upd_same, (RelK.mono s12.nn r).put _ (r1.mono s2.nn)⟩).forgets js)⟩
/-- a comprehension at one state -/
theorem evn_lc {σ : L2.St} {N : Hp} {wi : TI} {vs : List Nat} {j : Nat} {items : List Dat} (hj : j ∈ vs) (hz : items.length ≤ 100000) (r : Nat → Dat)
    (hI : ∀ H, Same N H → ∀ R : It → Hp → Prop, (∀ J N' H', Stp N H N' H' → Wk J N' items → R J H') → wi σ H R)
    (he : ∀ i d v N', items[i]? = some d → Same N N' → Rp N' v d → Ev te ((L2.wipe σ vs).set j (some v)) N' fun u N'' => Rp N'' u (r i)) : EvN (tLc wi (gName j) tYes te vs) σ N ((List.range items.length).map r) := fun H k Q q =>
  hI H k _ fun J N1 H1 s1 wk D hD => by
    have hN1 : N1 D = none := same_none s1.nh hD
    refine ⟨fun i m H' => m = items.length - i ∧ i ≤ items.length ∧ ∃ N' us, Stp N1 H1 N' H' ∧ N' D = none ∧ H' D = some (.lst us) ∧ RpA N' us ((List.range i).map r),
      ⟨items.length, by omega, Nat.zero_le _, N1, [], Stp.hid s1.nh hD, hN1, upd_same, .nil⟩, ?_⟩
    rintro i m H' ⟨rfl, hi, N', us, s2, n2, e2, r2⟩
    by_cases hlt : i < items.length
    · refine .inr ⟨wk.go i H' hlt (s2.nn.trans s2.nh), fun H' => ∃ N' us, Stp N1 H1 N' H' ∧ N' D = none ∧ H' D = some (.lst us) ∧ RpA N' us ((List.range (i + 1)).map r), fun H'' w => ⟨items.length - (i + 1), by omega, rfl, hlt, w⟩, fun x H3 hy => ?_⟩
      have hd := List.getElem?_eq_getElem hlt
      obtain ⟨N3, s3, rx⟩ := wk.yld i _ N' H' x H3 hd s2.nn s2.nh hy
      refine ⟨?_, ?_⟩
      · have e1 : L2.wipe ((L2.wipe σ vs).set j (some x)) vs = L2.wipe (L2.wipe σ vs) vs := wipe_ext List.length_set fun l hl => List.getElem?_set_ne (fun z : j = l => hl (z ▸ hj))
        exact e1.trans (wipe_wipe σ vs)
      · show te _ H3 _
        refine he i _ x N3 hd (s1.nn.trans (s2.nn.trans s3.nn)) rx H3 s3.nh _ fun y N5 H5 s5 ry => ?_
        have n3 : N3 D = none := s3.fr D (by rw [e2]; exact mb (by intro _ z; cases z)) n2
        have e3 : H3 D = some (.lst us) := s3.hh _ _ e2
        have n5 : N5 D = none := s5.fr D (by rw [e3]; exact mb (by intro _ z; cases z)) n3
        have e5 : H5 D = some (.lst us) := s5.hh _ _ e3
        have s15 := (s2.trans s3).trans s5
        refine ⟨us, e5, ?_, N5, us ++ [y], ⟨s15.nn, same_mut s15.hh hD, same_mut s15.nh n5, s15.fr⟩, n5, upd_same, ?_⟩
        · have h1 := r2.length
          rw [List.length_map, List.length_range] at h1
          exact Nat.lt_of_le_of_lt (show us.length ≤ 100000 by omega) (by decide)
        · rw [List.range_succ, List.map_append]
          exact (r2.mono (s3.nn.trans s5.nn)).snoc ry
    · have ei : i = items.length := by omega
      subst ei
      exact .inl ⟨wk.stop H' (s2.nn.trans s2.nh), q D us N' H' (s1.trans s2) (same_none s1.hh hD) n2 e2 r2⟩
end
/-! what does not hold p -/
def hid (N : Hp) (p : Addr) : Hp := fun a => if a = p then none else N a
theorem hid_ne {N : Hp} {p a : Addr} (h : a ≠ p) : hid N p a = N a := if_neg h
theorem hid_same {N : Hp} {p : Addr} : hid N p p = none := if_pos rfl
def Odd (o : Option HO) : Prop := (∀ xs, o ≠ some (.lst xs)) ∧ (∀ xs, o ≠ some (.tup xs)) ∧ ∀ ws, o ≠ some (.dT ws)
mutual
theorem Rp.off {N : Hp} {p : Addr} (ho : Odd (N p)) : ∀ {v : V} {d : Dat}, Rp N v d → Rp (hid N p) v d
  | _, _, .non => .non
  | _, _, .bl b => .bl b
  | _, _, .int i => .int i
  | _, _, .lst (a := a) e t => .lst (by rw [hid_ne (fun z => ho.1 _ (by rw [← z]; exact e))]; exact e) (RpA.off ho t)
  | _, _, .tup (a := a) e t => .tup (by rw [hid_ne (fun z => ho.2.1 _ (by rw [← z]; exact e))]; exact e) (RpA.off ho t)
  | _, _, .dct (a := a) e t => .dct (by rw [hid_ne (fun z => ho.2.2 _ (by rw [← z]; exact e))]; exact e) (RpD.off ho t)
theorem RpA.off {N : Hp} {p : Addr} (ho : Odd (N p)) : ∀ {vs : List V} {ds : List Dat}, RpA N vs ds → RpA (hid N p) vs ds
  | _, _, .nil => .nil
  | _, _, .cons h t => .cons (Rp.off ho h) (RpA.off ho t)
theorem RpD.off {N : Hp} {p : Addr} (ho : Odd (N p)) : ∀ {ws : List (List L2.Key × V)} {es : List (Dat × Dat)}, RpD N ws es → RpD (hid N p) ws es
  | _, _, .nil => .nil
  | _, _, .cons h t => .cons (Rp.off ho h) (RpD.off ho t)
end
theorem odd_frz {o : Obj} {u : HO} : Odd (some (.frz o u)) := ⟨fun _ => (by intro z; cases z), fun _ => (by intro z; cases z), fun _ => (by intro z; cases z)⟩
end Ez

set_option Elab.async false
set_option linter.all false
set_option autoImplicit false
set_option maxRecDepth 100000
set_option maxHeartbeats 1000000
/-! three targets; what evaluates at one state; locked dicts -/
namespace Ez
open PySem L2 Fz PyProof.Rows
section
variable {E Ni : Hp} {D : Ends} {ds st' : Ss} {t u : TS} {te tb : TE} {d d2 : Dat} {K : PySem.W.Frag}
/-- a, b, c = x, y, {} (a dict by ints) -/
theorem okk_asg3K {i j l : Nat} (h : De te (sv ds) d) (h2 : De tb (sv ds) d2) (k : Okk E Ni t D (((ds.set i (.val d)).set j (.val d2)).set l (.ownK []))) :
    Okk E Ni (tSeq (tAsg (tTup (tCons te (tCons tb (tCons tDNewK tNil)))) (gTup K 3 (gCons (gName i) (gCons (gName j) (gCons (gName l) gNil))))) t) D ds := fun N H σ w s =>
  h σ N s.sl H w.nh _ fun v N1 H1 s1 r1 => h2 σ N1 (s.sl.mono s1.nn) H1 s1.nh _ fun v2 N2 H2 s2 r2 => fun q hq => by
    refine ⟨show 3 ≤ sizeLine by decide, fun p hp => ⟨p, _, rfl, SqT.of upd_same, rfl, _, _, rfl, _, _, rfl, _, _, rfl, rfl, ?_⟩⟩
    have sa := s1.trans s2
    have sq := Stp.hid (o := HO.dK []) sa.nh hq
    have hqp : q ≠ p := fun z => by rw [z, upd_same] at hp; cases hp
    have sb := sq.trans (Stp.hid (o := HO.tup [v, v2, .ref q]) sq.nh hp)
    exact k N2 _ _ (w.step (sa.trans sb)) ((((s.step sa).set_val i (r1.mono s2.nn)).set_val j r2).set_own sb l (k := .ownK []) (same_none (w.step sa).eh hq) hq (same_none sa.nh hq) ⟨[], by rw [upd_ne hqp]; exact upd_same, .nil⟩ rfl)
theorem wk_listL {N : Hp} {a : Addr} {us : List V} {xs : List Dat} (ha : N a = some (.lst us)) (ra : RpA N us xs) : Wk (Itl K a) N xs := by
  refine ⟨fun H2 k2 => ⟨us, SqL.of (k2 _ _ ha), Nat.le_of_eq ra.length⟩, fun i H2 hi k2 => ?_, fun i d N2 H2 x H3 hd k2 k3 hy => ?_⟩
  · obtain ⟨u, hu, _⟩ := ra.get (List.getElem?_eq_getElem hi)
    exact ⟨us, u, SqL.of (k2 _ _ ha), hu⟩
  · obtain ⟨rfl, hx⟩ := hy
    obtain ⟨u, hu, ru⟩ := ra.get hd
    have e := hx us (SqL.of (k3 _ _ (k2 _ _ ha)))
    rw [hu] at e
    cases e
    exact ⟨N2, Stp.refl k3, ru.mono k2⟩
theorem wk_keys {N : Hp} {p : Addr} {od : Obj} {ws : List (L2.Key × V)} {kvs : List (Int × Dat)} (hp : N p = some (.frz od (.dK ws))) (r : ∃ M, RelK M ws kvs) : Wk (Itk p od ws) N (kvs.map fun kv => PyData.int kv.1) := by
  obtain ⟨M, r⟩ := r
  have hl := r.length
  refine ⟨fun H2 k2 => ⟨k2 _ _ hp, by rw [List.length_map]; omega⟩, fun i H2 hi k2 => ⟨k2 _ _ hp, by rw [List.length_map] at hi; omega⟩, fun i d N2 H2 x H3 hd k2 k3 hy => ?_⟩
  obtain ⟨rfl, k, v, hk, rfl⟩ := hy
  obtain ⟨kv, hkv, rfl⟩ := get_map hd
  obtain ⟨b, hb, e1, _⟩ := paired_get r hk
  rw [hkv] at hb
  cases hb
  have e1 : k = Sum.inl kv.1 := e1
  subst e1
  exact ⟨N2, Stp.refl k3, .int _⟩
end
section
variable {σ : L2.St} {N : Hp} {te : TE} {es zs : List Dat} {d z : Dat} {r : List V → Hp → VK → Prop}
theorem ev_know (h : EvN te σ N es) : Ev te σ N fun v N' => Rp N' v (.list es) := fun H k Q q => h H k Q fun p vs N' H' s hp n e r => q _ _ _ (s.know hp n e) (.lst upd_same (r.mono (same_new n)))
theorem ev_cb (h : Ev te σ N fun v N' => Rp N' v d) (hr : DC r [d] z) : Ev (tCB r (tCons te tNil)) σ N fun v N' => Rp N' v z := fun H k Q q =>
  h H k _ fun v N1 H1 s1 r1 => hr N1 [v] (.cons r1 .nil) H1 s1.nh Q fun u N2 H2 s2 r2 => q u N2 H2 (s1.trans s2) r2
end
theorem valX_mem {κ β : Type} [DecidableEq κ] : ∀ {kvs : List (κ × β)} {kv : κ × β}, (kvs.map (·.1)).Nodup → kv ∈ kvs → valX kvs kv.1 = some kv.2
  | a :: l, kv, hn, h => by
    rw [List.map_cons, List.nodup_cons] at hn
    rw [valX_cons]
    rcases List.mem_cons.mp h with e | e
    · rw [e, if_pos rfl]
    · rw [if_neg (fun z => hn.1 (by rw [z]; exact List.mem_map.mpr ⟨kv, e, rfl⟩))]
      exact valX_mem hn.2 e
theorem valX_none {κ β : Type} [DecidableEq κ] : ∀ {kvs : List (κ × β)} {k : κ}, (∀ kv ∈ kvs, kv.1 ≠ k) → valX kvs k = none
  | [], _, _ => rfl
  | a :: l, k, h => by
    rw [valX_cons, if_neg (h a List.mem_cons_self)]
    exact valX_none fun kv hk => h kv (List.mem_cons_of_mem _ hk)
end Ez

set_option Elab.async false
set_option linter.all false
set_option autoImplicit false
set_option maxRecDepth 100000
set_option maxHeartbeats 1000000
/-! a walk over the pairs of an own dict, which is locked meanwhile -/
namespace Ez
open PySem L2 Fz PyProof.Rows
theorem wk_items {N : Hp} {p : Addr} {od : Obj} {ws : List (List L2.Key × V)} {kvs : List (List Int × Dat)} (hp : N p = some (.frz od (.dT ws))) (r : RelT N ws kvs) : Wk (Itit p od ws) N (kvs.map fun kv => PyData.tuple [tI kv.1, kv.2]) := by
  have hl := r.length
  refine ⟨fun H2 k2 => ⟨k2 _ _ hp, by rw [List.length_map]; omega⟩, fun i H2 hi k2 => ⟨k2 _ _ hp, by rw [List.length_map] at hi; omega⟩, fun i d N2 H2 x H3 hd k2 k3 hy => ?_⟩
  obtain ⟨T, k, v, q, hk, rfl, hT, hq, rfl⟩ := hy
  obtain ⟨kv, hkv, rfl⟩ := get_map hd
  obtain ⟨b, hb, e1, rv⟩ := paired_get r hk
  rw [hkv] at hb
  cases hb
  have e1 : k = kv.1.map Sum.inl := e1
  subst e1
  rw [kV_map] at hq
  have rv : Rp N v kv.2 := rv
  -- the key's tuple becomes known
  have s1 : Stp N2 H2 (upd N2 q (.tup (kv.1.map V.int))) H2 := by
    refine ⟨fun a u e => ?_, Same.refl H2, same_up k3 hq, fun a ha na => ?_⟩
    · by_cases h : a = q
      · subst h
        rw [k3 _ _ e] at hq
        rw [upd_same, hq]
      · rw [upd_ne h]; exact e
    · have h : a ≠ q := fun z => by rw [z] at ha; exact ha.2 _ hq
      rw [upd_ne h]; exact na
  have s2 := s1.trans (Stp.new (o := .tup [.ref q, v]) s1.nh hT)
  refine ⟨_, s2, .tup upd_same (.cons ?_ (.cons ((rv.mono k2).mono s2.nn) .nil))⟩
  have hTq : q ≠ T := fun z => by rw [z, hT] at hq; cases hq
  exact .tup (by rw [upd_ne hTq]; exact upd_same) (rp_ints kv.1)
section
variable {E Ni : Hp} {D : Ends} {ds : Ss} {t u : TS} {te tb : TE} {d : Dat} {K : PySem.W.Frag}
theorem SS.off {E N H : Hp} {σ : L2.St} {p : Addr} {o u : HO} (ho : Odd (N p)) (s : SS (upd E p o) N H σ ds) (j : Nat) : SS E (hid N p) (upd H p u) σ (ds.set j .no) := by
  have s := s.forget j
  refine ⟨s.len, fun i d e => let ⟨v, a, b⟩ := s.val i d e; ⟨v, a, b.off ho⟩, fun i k e ok => ?_, s.one, s.raw⟩
  obtain ⟨q, a, b, c, h⟩ := s.own i k e ok
  have hq : q ≠ p := fun z => by subst z; rw [upd_same] at b; cases b
  rw [upd_ne hq] at b
  refine ⟨q, a, b, by rw [hid_ne hq]; exact c, ?_⟩
  cases k with
  | own xs => obtain ⟨us, e1, r⟩ := h; exact ⟨us, by rw [upd_ne hq]; exact e1, r.off ho⟩
  | ownT kvs => obtain ⟨us, e1, r⟩ := h; exact ⟨us, by rw [upd_ne hq]; exact e1, L2.Paired.mapP r fun _ _ z => ⟨z.1, z.2.off ho⟩⟩
  | ownK kvs => obtain ⟨us, e1, r⟩ := h; exact ⟨us, by rw [upd_ne hq]; exact e1, L2.Paired.mapP r fun _ _ z => ⟨z.1, z.2.off ho⟩⟩
  | _ => exact h.elim
/-- for k, v in d.items(): d an own dict by tuples -/
theorem okk_items {tb : TS} {i j l : Nat} {kvs : List (List Int × Dat)} (hi : ds[i]? = some (.ownT kvs)) (st : Addr → Nat → Ss) (h0 : ∀ p, st p 0 = ds.set i (.raw (.ref p)))
    (hb : ∀ (E' Nj : Hp) (p : Addr) (D' : Ends) (n : Nat) (kv : List Int × Dat), kvs[n]? = some kv → D'.nx = Nx E' Nj (st p (n + 1)) → Okk E' Nj tb D' (((st p n).set j (.val (tI kv.1))).set l (.val kv.2)))
    (k : ∀ p, Okk E Ni t D ((st p kvs.length).set i .no)) : Okk E Ni (tSeq (tLock (tFor (iItemsT (tVar i)) (gTup K 2 (gCons (gName j) (gCons (gName l) gNil))) tb)) t) D ds := fun N H σ w s => by
  obtain ⟨p, sp, ep, np, ws, hp, r⟩ := s.own i _ hi rfl
  have hil : i < ds.length := (List.getElem?_eq_some_iff.mp hi).1
  refine ⟨p, .dT ws, hp, trivial, fun od => ?_⟩
  let N1 := upd N p (.frz od (.dT ws))
  let H1 := upd H p (.frz od (.dT ws))
  have k1 : Same N1 H1 := fun x u e => by
    by_cases hx : x = p
    · subst hx
      rw [show N1 x = _ from upd_same] at e
      rw [show H1 x = _ from upd_same]
      exact e
    · rw [show N1 x = N x from upd_ne hx] at e
      rw [show H1 x = H x from upd_ne hx]
      exact w.nh x u e
  have w1 : Wd (upd E p (.frz od (.dT ws))) N1 N1 H1 := ⟨Same.refl N1, fun x u e => by
    by_cases hx : x = p
    · subst hx
      rw [upd_same] at e
      rw [show H1 x = _ from upd_same]
      exact e
    · rw [upd_ne hx] at e
      rw [show H1 x = H x from upd_ne hx]
      exact w.eh x u e, k1, fun _ _ e => e⟩
  have s1 : SS (upd E p (.frz od (.dT ws))) N1 H1 σ (ds.set i (.raw (.ref p))) := by
    have key : ∀ (m : Nat) (z : Sk), (ds.set i (.raw (.ref p)))[m]? = some z → (m = i ∧ z = .raw (.ref p)) ∨ (m ≠ i ∧ ds[m]? = some z) := fun m z e => by
      by_cases h : i = m
      · subst h
        rw [List.getElem?_set_self hil] at e
        exact .inl ⟨rfl, (Option.some.inj e).symm⟩
      · rw [List.getElem?_set_ne h] at e
        exact .inr ⟨fun q => h q.symm, e⟩
    refine ⟨by rw [List.length_set]; exact s.len, fun m d e => ?_, fun m z e oz => ?_, fun m n z y q e1 e2 o1 o2 q1 q2 => ?_, fun m v e => ?_⟩
    · rcases key m _ e with ⟨_, h⟩ | ⟨_, e⟩
      · cases h
      · obtain ⟨v, a, b⟩ := s.val m d e
        exact ⟨v, a, b.mono (same_new np)⟩
    · rcases key m _ e with ⟨_, h⟩ | ⟨hm, e'⟩
      · subst h; cases oz
      · obtain ⟨q, a, b, c, h⟩ := s.own m z e' oz
        have hq : q ≠ p := fun x => hm (s.one m i _ _ p e' hi oz rfl (by rw [← x]; exact a) sp)
        exact ⟨q, a, by rw [upd_ne hq]; exact b, by rw [show N1 q = N q from upd_ne hq]; exact c, h.mono (same_new np) (by rw [show H1 q = H q from upd_ne hq])⟩
    · rcases key m _ e1 with ⟨_, h⟩ | ⟨_, e1⟩
      · subst h; cases o1
      · rcases key n _ e2 with ⟨_, h⟩ | ⟨_, e2⟩
        · subst h; cases o2
        · exact s.one m n z y q e1 e2 o1 o2 q1 q2
    · rcases key m _ e with ⟨h1, h⟩ | ⟨_, e⟩
      · cases h; rw [h1]; exact sp
      · exact s.raw m v e
  refine okk_forL (E := upd E p (.frz od (.dT ws))) (Ni := N1) (D := ⟨_, _, _, _⟩) (items := kvs.map fun kv => PyData.tuple [tI kv.1, kv.2]) (fun N2 H2 σ2 w2 s2 R q => ?_) (st p) (h0 p) (fun Nj n d hd N2 H2 σ2 v w2 s2 rv => ?_) (fun N2 H2 σ2 w2 s2 => ?_) N1 H1 σ w1 s1
  · have np2 : N2 p = some (.frz od (.dT ws)) := w2.ni _ _ upd_same
    have r2 : RelT N2 ws kvs := RelT.mono ((same_new np).trans w2.ni) r
    exact ⟨.ref p, s2.raw i _ (by rw [List.getElem?_set_self hil]), p, od, ws, rfl, w2.nh _ _ np2, q _ N2 H2 (Stp.refl w2.nh) (wk_items np2 r2)⟩
  · obtain ⟨kv, hkv, rfl⟩ := get_map hd
    obtain ⟨a, us, rfl, ha, ra⟩ := rv.tup_ref
    cases ra with
    | cons r1 r2 =>
      cases r2 with
      | cons r3 r4 =>
        cases r4
        exact ⟨a, _, rfl, SqT.of (w2.nh _ _ ha), rfl, _, _, rfl, _, _, rfl, rfl, hb _ Nj p _ n kv hkv rfl N2 H2 _ w2 ((s2.set_val j r1).set_val l r3)⟩
  · rw [List.length_map] at s2
    have np2 : N2 p = some (.frz od (.dT ws)) := w2.ni _ _ upd_same
    have ho : Odd (N2 p) := by rw [np2]; exact odd_frz
    refine ⟨w2.eh _ _ upd_same, k p (hid N2 p) (upd H2 p (.dT ws)) σ2 ⟨fun x u e => ?_, fun x u e => ?_, fun x u e => ?_, fun x h1 h2 => ?_⟩ (s2.off ho i)⟩
    · have hx := w.ni x u e
      have xp : x ≠ p := fun z => by rw [z, np] at hx; cases hx
      rw [hid_ne xp]
      exact w2.ni x u (show N1 x = some u by rw [show N1 x = N x from upd_ne xp]; exact hx)
    · have xp : x ≠ p := fun z => by rw [z, ep] at e; cases e
      rw [upd_ne xp]
      exact w2.eh x u (by rw [upd_ne xp]; exact e)
    · have xp : x ≠ p := fun z => by rw [z, hid_same] at e; cases e
      rw [hid_ne xp] at e
      rw [upd_ne xp]
      exact w2.nh x u e
    · have xp : x ≠ p := fun z => by rw [z, ep] at h1; exact h1.1 rfl
      rw [hid_ne xp]
      exact w2.fr x (by rw [upd_ne xp]; exact h1) (show N1 x = none by rw [show N1 x = N x from upd_ne xp]; exact w.fr x h1 h2)
end
end Ez

set_option Elab.async false
set_option linter.all false
set_option autoImplicit false
set_option maxRecDepth 100000
set_option maxHeartbeats 1000000
/-! grouping eights by the half they share with a lot -/
namespace Ez
open PySem L2 Fz
def selE (m e : Nat) : Bool := decide (popc (e &&& m) = 4) && decide ((bitsL (e &&& m)).headD 0 = (bitsL m).headD 0)
abbrev Gr := List (Nat × List Nat)
def addG (kvs : Gr) (h x : Nat) : Gr := if (kvs.any fun kv => decide (kv.1 = h)) = true then kvs.map (fun kv => if kv.1 = h then (kv.1, kv.2 ++ [x]) else kv) else kvs ++ [(h, [x])]
def grpS (m : Nat) (kvs : Gr) (e : Nat) : Gr := if selE m e then addG kvs (e &&& m) (e ^^^ (e &&& m)) else kvs
def grp (m : Nat) (es : List Nat) : Gr := es.foldl (grpS m) []
theorem grp_take (m : Nat) {es : List Nat} {i e : Nat} (h : es[i]? = some e) : grp m (es.take (i + 1)) = grpS m (grp m (es.take i)) e := by
  unfold grp
  rw [List.take_succ, h, List.foldl_append]; rfl
def rowsG (m : Nat) (es : List Nat) (h : Nat) : List Nat := (es.filter fun e => selE m e && decide (e &&& m = h)).map fun e => e ^^^ h
structure GOk (m : Nat) (es : List Nat) (kvs : Gr) : Prop where
  nd : (kvs.map (·.1)).Nodup
  key : ∀ h, h ∈ kvs.map (·.1) ↔ ∃ e ∈ es, selE m e = true ∧ e &&& m = h
  row : ∀ kv ∈ kvs, kv.2 = rowsG m es kv.1
theorem rowsG_snoc (m : Nat) (es : List Nat) (e h : Nat) : rowsG m (es ++ [e]) h = rowsG m es h ++ if (selE m e && decide (e &&& m = h)) = true then [e ^^^ h] else [] := by
  unfold rowsG
  rw [List.filter_append, List.map_append, List.filter_cons]
  split <;> rfl
theorem rowsG_none {m : Nat} {es : List Nat} {h : Nat} (hn : ∀ e ∈ es, ¬ (selE m e = true ∧ e &&& m = h)) : rowsG m es h = [] := by
  unfold rowsG
  rw [List.filter_eq_nil_iff.mpr]
  · rfl
  · intro e he z
    rw [Bool.and_eq_true, decide_eq_true_iff] at z
    exact hn e he z
theorem gok_nil (m : Nat) : GOk m [] [] := ⟨List.Pairwise.nil, fun h => by simp, fun kv h => by cases h⟩
theorem gok_snoc {m : Nat} {es : List Nat} {kvs : Gr} (g : GOk m es kvs) (e : Nat) : GOk m (es ++ [e]) (grpS m kvs e) := by
  unfold grpS
  cases hs : selE m e with
  | false =>
    rw [if_neg (by decide)]
    refine ⟨g.nd, fun h => ?_, fun kv hkv => ?_⟩
    · rw [g.key]
      constructor
      · rintro ⟨x, h1, h2⟩; exact ⟨x, List.mem_append_left _ h1, h2⟩
      · rintro ⟨x, h1, h2, h3⟩
        rcases List.mem_append.mp h1 with z | z
        · exact ⟨x, z, h2, h3⟩
        · rw [List.mem_singleton.mp z, hs] at h2; cases h2
    · rw [g.row kv hkv, rowsG_snoc, hs, Bool.false_and, if_neg (by decide), List.append_nil]
  | true =>
    rw [if_pos rfl]
    unfold addG
    have keys : ∀ h, (h ∈ kvs.map (·.1) ∨ h = e &&& m) ↔ ∃ x ∈ es ++ [e], selE m x = true ∧ x &&& m = h := fun h => by
      rw [g.key]
      constructor
      · rintro (⟨x, h1, h2⟩ | rfl)
        · exact ⟨x, List.mem_append_left _ h1, h2⟩
        · exact ⟨e, List.mem_append_right _ List.mem_cons_self, hs, rfl⟩
      · rintro ⟨x, h1, h2, h3⟩
        rcases List.mem_append.mp h1 with z | z
        · exact .inl ⟨x, z, h2, h3⟩
        · rw [List.mem_singleton.mp z] at h3; exact .inr h3.symm
    split
    · rename_i ha
      rw [List.any_eq_true] at ha
      obtain ⟨kv0, hk0, hk1⟩ := ha
      have hk1 := of_decide_eq_true hk1
      have em : (kvs.map fun kv => if kv.1 = e &&& m then (kv.1, kv.2 ++ [e ^^^ (e &&& m)]) else kv).map (·.1) = kvs.map (·.1) := by
        rw [List.map_map]
        apply List.map_congr_left
        intro kv _
        show (if kv.1 = e &&& m then (kv.1, kv.2 ++ [e ^^^ (e &&& m)]) else kv).1 = kv.1
        split <;> rfl
      refine ⟨by rw [em]; exact g.nd, fun h => ?_, fun kv hkv => ?_⟩
      · rw [em, ← keys]
        constructor
        · exact .inl
        · rintro (z | rfl)
          · exact z
          · exact List.mem_map.mpr ⟨kv0, hk0, hk1⟩
      · obtain ⟨kv', hm', rfl⟩ := List.mem_map.mp hkv
        have := g.row kv' hm'
        by_cases hc : kv'.1 = e &&& m
        · rw [if_pos hc, rowsG_snoc, hs, Bool.true_and, if_pos (decide_eq_true hc.symm), this]
          rw [hc]
        · rw [if_neg hc, rowsG_snoc, hs, Bool.true_and, if_neg (by rw [decide_eq_true_iff]; exact fun z => hc z.symm), List.append_nil, this]
    · rename_i ha
      have hn : ∀ kv ∈ kvs, kv.1 ≠ e &&& m := fun kv hkv z => ha (by rw [List.any_eq_true]; exact ⟨kv, hkv, decide_eq_true z⟩)
      have hnm : e &&& m ∉ kvs.map (·.1) := fun z => by obtain ⟨kv, h1, h2⟩ := List.mem_map.mp z; exact hn kv h1 h2
      refine ⟨?_, fun h => ?_, fun kv hkv => ?_⟩
      · rw [List.map_append]
        refine List.nodup_append.mpr ⟨g.nd, by simp, fun a ha b hb z => ?_⟩
        rw [List.map_cons, List.map_nil, List.mem_singleton] at hb
        rw [z, hb] at ha
        exact hnm ha
      · rw [List.map_append, List.mem_append, ← keys]
        simp
      · rcases List.mem_append.mp hkv with z | z
        · rw [rowsG_snoc, hs, Bool.true_and, if_neg (by rw [decide_eq_true_iff]; exact fun q => hn kv z q.symm), List.append_nil]
          exact g.row kv z
        · rw [List.mem_singleton.mp z, rowsG_snoc, hs, Bool.true_and, if_pos (decide_eq_true rfl), rowsG_none]
          · rfl
          · intro x hx hq
            exact hnm ((g.key _).mpr ⟨x, hx, hq⟩)
theorem gok (m : Nat) (es : List Nat) : GOk m es (grp m es) := by
  have : ∀ i, i ≤ es.length → GOk m (es.take i) (grp m (es.take i)) := by
    intro i
    induction i with
    | zero => intro _; exact gok_nil m
    | succ i ih =>
      intro hi
      have he := List.getElem?_eq_getElem (show i < es.length by omega)
      rw [grp_take m he, List.take_succ, he]
      exact gok_snoc (ih (by omega)) _
  have h := this es.length (Nat.le_refl _)
  rw [List.take_length] at h
  exact h
/-- a part of the answer: the six lots of a group -/
def partD (m : Nat) (kv : Nat × List Nat) : Dat := .tuple (srt ((kv.1 :: (m ^^^ kv.1) :: kv.2).map lt))
def Gd (m : Nat) (es : List Nat) : List Dat := (grp m es).map (partD m)
theorem lv_srt {n : Nat} {ds : List Dat} (h : ∀ d ∈ ds, Lv n d) : Lv (n + 1) (.tuple (srt ds)) := ⟨_, rfl, fun x hx => h x ((srt_perm ds).mem_iff.mp hx)⟩
theorem lv_part (m : Nat) (kv : Nat × List Nat) : Lv 2 (partD m kv) := lv_srt (lv_map lv_lt _)
theorem gd_perm (m : Nat) {A B : List Nat} (h : A.Perm B) : (Gd m A).Perm (Gd m B) := by
  have ga := gok m A
  have gb := gok m B
  have e : ∀ (C : List Nat) (g : GOk m C (grp m C)), Gd m C = ((grp m C).map (·.1)).map fun k => partD m (k, rowsG m C k) := fun C g => by
    unfold Gd
    rw [List.map_map]
    apply List.map_congr_left
    intro kv hkv
    have := g.row kv hkv
    show partD m kv = partD m (kv.1, rowsG m C kv.1)
    rw [← this]
  rw [e A ga, e B gb]
  have hk : ((grp m A).map (·.1)).Perm ((grp m B).map (·.1)) := (List.perm_ext_iff_of_nodup ga.nd gb.nd).mpr fun k => by
    rw [ga.key, gb.key]
    exact ⟨fun ⟨x, h1, h2⟩ => ⟨x, h.mem_iff.mp h1, h2⟩, fun ⟨x, h1, h2⟩ => ⟨x, h.mem_iff.mpr h1, h2⟩⟩
  have hf : (fun k => partD m (k, rowsG m A k)) = fun k => partD m (k, rowsG m B k) := by
    funext k
    unfold partD
    congr 1
    refine srt_of_perm (n := 1) (lv_map lv_lt _) (List.Perm.map _ (List.Perm.cons _ (List.Perm.cons _ ?_)))
    exact List.Perm.map _ (h.filter _)
  rw [hf]
  exact hk.map _
theorem gd_srt (m : Nat) {A B : List Nat} (h : A.Perm B) : srt (Gd m A) = srt (Gd m B) :=
  srt_of_perm (n := 2) (fun d hd => by obtain ⟨kv, _, rfl⟩ := List.mem_map.mp hd; exact lv_part m kv) (gd_perm m h)
theorem grp_len (m : Nat) (es : List Nat) : (grp m es).length ≤ es.length := by
  have : ∀ (es : List Nat) (kvs : Gr), (es.foldl (grpS m) kvs).length ≤ kvs.length + es.length := by
    intro es
    induction es with
    | nil => intro kvs; exact Nat.le_refl _
    | cons e es ih =>
      intro kvs
      rw [List.foldl_cons]
      have h1 := ih (grpS m kvs e)
      have h2 : (grpS m kvs e).length ≤ kvs.length + 1 := by
        unfold grpS addG
        split
        · split
          · rw [List.length_map]; omega
          · rw [List.length_append]; exact Nat.le_refl _
        · omega
      rw [List.length_cons]
      omega
  have h := this es []
  rw [List.length_nil, Nat.zero_add] at h
  exact h
theorem grp_prop {m : Nat} {es : List Nat} {kv : Nat × List Nat} (h : kv ∈ grp m es) : popc kv.1 = 4 ∧ kv.1 &&& m = kv.1 ∧ kv.2.length ≤ es.length ∧ kv.2 = rowsG m es kv.1 := by
  have g := gok m es
  have hr := g.row kv h
  obtain ⟨e, he, h1, h2⟩ := (g.key kv.1).mp (List.mem_map.mpr ⟨kv, h, rfl⟩)
  unfold selE at h1
  rw [Bool.and_eq_true, decide_eq_true_iff] at h1
  refine ⟨by rw [← h2]; exact h1.1, by rw [← h2, Nat.and_assoc, Nat.and_self], ?_, hr⟩
  rw [hr]
  unfold rowsG
  rw [List.length_map]
  exact List.length_filter_le _ _
end Ez

set_option Elab.async false
set_option linter.all false
set_option autoImplicit false
set_option maxRecDepth 100000
set_option maxHeartbeats 2000000
namespace Ez
open PySem PySem.Spec L2 Fz PyProof.Rows

/-! eights of an eight, grouped: the law's and the package's -/
theorem valX_enc {κ κ' α β : Type} [DecidableEq κ] [DecidableEq κ'] {f : κ → κ'} {g : κ → α → β} : ∀ {kvs : List (κ × α)} {k : κ}, (∀ kv ∈ kvs, f kv.1 = f k → kv.1 = k) → valX (kvs.map fun kv => (f kv.1, g kv.1 kv.2)) (f k) = (valX kvs k).map (g k)
  | [], k, _ => rfl
  | a :: l, k, h => by
    rw [List.map_cons, valX_cons, valX_cons]
    by_cases e : a.1 = k
    · rw [if_pos (by rw [e]), if_pos e, e]; rfl
    · rw [if_neg (fun z => e (h a List.mem_cons_self z)), if_neg e]
      exact valX_enc fun kv hk => h kv (List.mem_cons_of_mem _ hk)
theorem putX_enc {κ κ' α β : Type} [DecidableEq κ] [DecidableEq κ'] {f : κ → κ'} {g : κ → α → β} {kvs : List (κ × α)} {k : κ} {v : α} (h : ∀ kv ∈ kvs, f kv.1 = f k → kv.1 = k) : putX (kvs.map fun kv => (f kv.1, g kv.1 kv.2)) (f k) (g k v) = (putX kvs k v).map fun kv => (f kv.1, g kv.1 kv.2) := by
  unfold putX
  have e : ((kvs.map fun kv => (f kv.1, g kv.1 kv.2)).any fun kv => decide (kv.1 = f k)) = kvs.any fun kv => decide (kv.1 = k) := by
    rw [List.any_map]
    rw [Bool.eq_iff_iff, List.any_eq_true, List.any_eq_true]
    constructor
    · rintro ⟨kv, h1, h2⟩; exact ⟨kv, h1, decide_eq_true (h kv h1 (of_decide_eq_true h2))⟩
    · rintro ⟨kv, h1, h2⟩; exact ⟨kv, h1, decide_eq_true (congrArg f (of_decide_eq_true h2))⟩
  rw [e]
  split
  · rw [List.map_map, List.map_map]
    apply List.map_congr_left
    intro kv hkv
    show (if f kv.1 = f k then (f kv.1, g k v) else (f kv.1, g kv.1 kv.2)) = (f (if kv.1 = k then (kv.1, v) else kv).1, g (if kv.1 = k then (kv.1, v) else kv).1 (if kv.1 = k then (kv.1, v) else kv).2)
    by_cases e : kv.1 = k
    · rw [if_pos (by rw [e]), if_pos e, e]
    · rw [if_neg (fun z => e (h kv hkv z)), if_neg e]
  · rw [List.map_append]; rfl
def rowsIn (kvs : Gr) (h : Nat) : List Nat := (valX kvs h).getD []
theorem addG_put {kvs : Gr} (hn : (kvs.map (·.1)).Nodup) (h x : Nat) : addG kvs h x = putX kvs h (rowsIn kvs h ++ [x]) := by
  unfold addG putX
  split
  · apply List.map_congr_left
    intro kv hkv
    by_cases e : kv.1 = h
    · rw [if_pos e, if_pos e]
      have := valX_mem hn hkv
      unfold rowsIn
      rw [← e, this]; rfl
    · rw [if_neg e, if_neg e]
  · rename_i ha
    unfold rowsIn
    rw [valX_none (fun kv hk z => ha (by rw [List.any_eq_true]; exact ⟨kv, hk, decide_eq_true z⟩))]
    rfl
theorem hd_mem {l : List Nat} (h : l ≠ []) : l.headD 0 ∈ l := by
  cases l with
  | nil => exact absurd rfl h
  | cons a l => exact List.mem_cons_self
theorem hd_le {l : List Nat} (hs : l.Pairwise (· < ·)) {x : Nat} (hx : x ∈ l) : l.headD 0 ≤ x := by
  cases l with
  | nil => cases hx
  | cons a l =>
    rcases List.mem_cons.mp hx with e | e
    · rw [e]; exact Nat.le_refl _
    · exact Nat.le_of_lt ((List.pairwise_cons.mp hs).1 x e)
theorem sub_mem {a b i : Nat} (h : i ∈ bitsL (a &&& b)) : i ∈ bitsL b := by
  rw [mem_bitsL, Nat.testBit_and, Bool.and_eq_true] at h
  exact mem_bitsL.mpr ⟨h.1, h.2.2⟩
theorem and_pow_ne (x a : Nat) : x &&& 2 ^ a ≠ 0 ↔ x.testBit a = true := by
  constructor
  · intro h
    cases q : x.testBit a with
    | true => rfl
    | false =>
      refine absurd (Nat.eq_of_testBit_eq fun i => ?_) h
      rw [Nat.testBit_and, Nat.testBit_two_pow, Nat.zero_testBit]
      by_cases hi : a = i
      · subst hi; rw [q]; rfl
      · simp [hi]
  · intro h z
    have : (x &&& 2 ^ a).testBit a = true := by rw [Nat.testBit_and, Nat.testBit_two_pow, h]; simp
    rw [z, Nat.zero_testBit] at this
    cases this
/-- the half holds the lot's first lamp -/
theorem hd_bit {m e : Nat} (hm : bitsL m ≠ []) (he : bitsL (e &&& m) ≠ []) : decide ((e &&& m) &&& 2 ^ (bitsL m).headD 0 ≠ 0) = decide ((bitsL (e &&& m)).headD 0 = (bitsL m).headD 0) := by
  apply decide_eq_decide.mpr
  have h1 : (e &&& m) &&& 2 ^ (bitsL m).headD 0 ≠ 0 ↔ (e &&& m).testBit ((bitsL m).headD 0) = true := by
    exact and_pow_ne _ _
  have h24 : (bitsL m).headD 0 < 24 := (mem_bitsL.mp (hd_mem hm)).1
  rw [h1]
  constructor
  · intro h
    have hin : (bitsL m).headD 0 ∈ bitsL (e &&& m) := mem_bitsL.mpr ⟨h24, h⟩
    exact Nat.le_antisymm (hd_le (bitsL_asc _) hin) (hd_le (bitsL_asc _) (sub_mem (hd_mem he)))
  · intro h
    have := hd_mem he
    rw [h] at this
    exact (mem_bitsL.mp this).2
theorem popc_ne {m : Nat} (h : popc m ≠ 0) : bitsL m ≠ [] := fun z => h (by unfold popc; rw [z]; rfl)
def encL (m : Nat) (kv : Nat × List Nat) : Int × Dat := ((kv.1 : Int), lN (kv.1 :: (m ^^^ kv.1) :: kv.2))
theorem encL_get (m : Nat) (kvs : Gr) (h : Nat) : (valX (kvs.map (encL m)) (h : Int)).getD (lN [h, m ^^^ h]) = lN (h :: (m ^^^ h) :: rowsIn kvs h) := by
  have := valX_enc (f := fun n : Nat => (n : Int)) (g := fun k (r : List Nat) => lN (k :: (m ^^^ k) :: r)) (kvs := kvs) (k := h) (fun kv _ z => by omega)
  rw [show (kvs.map (encL m)) = kvs.map fun kv => ((kv.1 : Int), lN (kv.1 :: (m ^^^ kv.1) :: kv.2)) from rfl, this]
  unfold rowsIn
  cases valX kvs h <;> rfl
theorem encL_put (m : Nat) {kvs : Gr} (hn : (kvs.map (·.1)).Nodup) (h x : Nat) : putX (kvs.map (encL m)) (h : Int) (lN ((h :: (m ^^^ h) :: rowsIn kvs h) ++ [x])) = (addG kvs h x).map (encL m) := by
  rw [addG_put hn]
  exact putX_enc (f := fun n : Nat => (n : Int)) (g := fun k (r : List Nat) => lN (k :: (m ^^^ k) :: r)) (kvs := kvs) (k := h) (v := rowsIn kvs h ++ [x]) (fun kv _ z => by omega)
theorem addG_any_len (kvs : Gr) (h x : Nat) : (addG kvs h x).length ≤ kvs.length + 1 := by
  unfold addG
  split
  · rw [List.length_map]; omega
  · rw [List.length_append]; exact Nat.le_refl _
theorem grp_bd {m : Nat} {es : List Nat} {kv : Nat × List Nat} (hm : m < 2 ^ 24) (hm8 : popc m = 8) (he : ∀ e ∈ es, e < 2 ^ 24 ∧ popc e = 8) (h : kv ∈ grp m es) : ∀ x ∈ kv.1 :: (m ^^^ kv.1) :: kv.2, x < 2 ^ 24 ∧ x ≠ 0 := by
  obtain ⟨q1, q2, q3, q4⟩ := grp_prop h
  have hk : kv.1 < 2 ^ 24 := by rw [← q2]; exact Nat.lt_of_le_of_lt Nat.and_le_right hm
  have xz : ∀ a b : Nat, a ^^^ b = 0 → a = b := fun a b z => by
    have : (a ^^^ b) ^^^ b = 0 ^^^ b := by rw [z]
    rw [Nat.xor_assoc, Nat.xor_self, Nat.xor_zero, Nat.zero_xor] at this
    exact this
  intro x hx
  rcases List.mem_cons.mp hx with rfl | hx
  · exact ⟨hk, fun z => by rw [z] at q1; exact absurd q1 (by decide +kernel)⟩
  rcases List.mem_cons.mp hx with rfl | hx
  · exact ⟨Nat.xor_lt_two_pow hm hk, fun z => by rw [xz _ _ z] at hm8; omega⟩
  · rw [q4] at hx
    obtain ⟨e, h1, rfl⟩ := List.mem_map.mp hx
    obtain ⟨h2, h3⟩ := he e (List.mem_filter.mp h1).1
    exact ⟨Nat.xor_lt_two_pow h2 hk, fun z => by rw [xz _ _ z] at h3; omega⟩
theorem part_cons (m : Nat) (kv : Nat × List Nat) : ∃ x r, partD m kv = .tuple (x :: r) := by
  unfold partD
  cases e : srt ((kv.1 :: (m ^^^ kv.1) :: kv.2).map lt) with
  | nil =>
    have := srt_length ((kv.1 :: (m ^^^ kv.1) :: kv.2).map lt)
    rw [e] at this
    cases this
  | cons a l => exact ⟨a, l, rfl⟩

def R__law_fours_in (as : List Dat) (r : Dat) : Prop := ∃ m : Nat, as = [boardD, lt m] ∧ m < 2 ^ 24 ∧ popc m = 8 ∧ (∀ z, z < 2 ^ 24 → talN z = popc z) ∧ (∀ e ∈ E8, popc e = 8) ∧ r = .list (srt (Gd m E8))

abbrev sp__law_fours_in : Sp := spD R__law_fours_in
abbrev N__law_fours_in : List Str := ["_law_board_so", "_law_eight_so", "_law_low_so", "_law_own", "_law_bits_so", "_law_tally_so", "_law_found", "_law_half_so", "_law_before_so", "_law_bit"]
abbrev p__law_fours_in : List Str := ["_law_board_so", "_law_eight_so"]
theorem sc__law_fours_in : FnScope N__law_fours_in p__law_fours_in (defScope (top 61)) := ⟨rfl, rfl, rfl, by decide +kernel, rfl, by decide +kernel, by decide +kernel⟩
def t__law_fours_in (K : PySem.W.Frag) (P : Program) (w : World) : TS := tSeq (tAsg (tTup (tCons (tCall sp__law_bits [] E0 (tCons (tVar 1) (tNil))) (tCons (tOp (rIx K) (tVar 0) (tC (.int 2))) (tCons (tDNewK) (tNil))))) (gTup K 3 (gCons (gName 4) (gCons (gName 5) (gCons (gName 6) (gNil)))))) (tSeq (tAsg (tOp rShl (tC (.int 1)) (tOp (rIx K) (tVar 1) (tC (.int 0)))) (gName 2)) (tSeq (tFor (iList K (tOp (rIx K) (tVar 0) (tC (.int 1)))) (gName 3) (tSeq (tAsg (tOp rAnd (tVar 3) (tVar 4)) (gName 7)) (tIfS (tAnd (tTru K (tOp rAnd (tVar 7) (tVar 2))) (tTest (tOp (rEqD K) (tCall sp__law_many [] E0 (tCons (tVar 5) (tCons (tVar 7) (tNil)))) (tC (.int 4))))) (tSeq (tAsg (tIf (tB (tDIn (tVar 7) (tVar 6))) (tDGet (tVar 6) (tVar 7)) (tLst (tCons (tVar 7) (tCons (tOp rXor (tVar 4) (tVar 7)) (tNil))))) (gName 8)) (sDPut (tVar 6) (tVar 7) (tOp rCat (tVar 8) (tLst (tCons (tOp rXor (tVar 3) (tVar 7)) (tNil)))))) (tNext)))) (tRet (tCB (rSortD K) (tCons (tLockE (tLc (iKeys (tVar 6)) (gName 3) (tYes) (tCB (rTupS K) (tCons (tCB (rSortD K) (tCons (tLc (iList K (tDGet (tVar 6) (tVar 3))) (gName 9) (tYes) (tCall sp__law_lot [] E0 (tCons (tVar 9) (tNil))) [9]) (tNil))) (tNil))) [3])) (tNil))))))
theorem ps__law_fours_in {P : Program} {w : World} {K : PySem.W.Frag} {mg : Str → Option Value} {base : Heap} {f : Addr} (T : Tx K mg) (C__law_bits : Cal P w K mg base 1 "_law_bits" p__law_bits sp__law_bits) (C__law_many : Cal P w K mg base 1 "_law_many" p__law_many sp__law_many) (C__law_lot : Cal P w K mg base 1 "_law_lot" p__law_lot sp__law_lot) (cdv : Value) (A : Around) (outer : List Env) (s : Shared) (H : Hp) (E : XK) (hr : Room 1 (A.deeper (envOfC "_law_fours_in" (defScope (top 61)) s.heap.objs.size f cdv))) :
    PSs (cxOf CX0 P w K mg base N__law_fours_in "_law_fours_in" (defScope (top 61)) f cdv A outer s H E).nox (defBody (top 61)) (t__law_fours_in K P w) := by
  have nd := sc__law_fours_in.nd
  have hu := hu_of hr
  unfold t__law_fours_in
  exact pss_cons (ps_asg (pe_tup (pa_cons (pe_cal C__law_bits hr (pa_cons (pv 1) (pa_nil))) (pa_cons (pe_ix ix_seq (pv 0) (pe_int) (fun _ _ => rfl)) (pa_cons (pe_dnewK) (pa_nil))))) (pg_tup (by rfl) (pgs_cons (pg_name (i := 4) nd rfl (by first | exact Or.inl rfl | exact Or.inr rfl)) (pgs_cons (pg_name (i := 5) nd rfl (by first | exact Or.inl rfl | exact Or.inr rfl)) (pgs_cons (pg_name (i := 6) nd rfl (by first | exact Or.inl rfl | exact Or.inr rfl)) (pgs_nil)))))) (pss_cons (ps_set (i := 2) nd rfl (by first | exact Or.inl rfl | exact Or.inr rfl) (pe_op op_shl (pe_int) (pe_ix ix_seq (pv 1) (pe_int) (fun _ _ => rfl)))) (pss_cons (ps_for PassesOwn.never rfl (pi_list (pe_ix ix_seq (pv 0) (pe_int) (fun _ _ => rfl))) (pg_name (i := 3) nd rfl (by first | exact Or.inl rfl | exact Or.inr rfl)) (pss_cons (ps_set (i := 7) nd rfl (by first | exact Or.inl rfl | exact Or.inr rfl) (pe_op op_and (pv 3) (pv 4))) (pss_one (ps_if (PW.pt (pw_and (pt_truth (pe_op op_and (pv 7) (pv 2)) (by intro _; rfl)) (pw_and1 (pt_cmpR (op_eqD hr.units) (pe_cal C__law_many hr (pa_cons (pv 5) (pa_cons (pv 7) (pa_nil)))) (pe_int) (nomark _))))) (pss_cons (ps_set (i := 8) nd rfl (by first | exact Or.inl rfl | exact Or.inr rfl) (pe_ifExp (pt_cmp (pc_din hu (pv 7) (pv 6))) (pe_dget hu (pv 6) (pv 7) (fun _ _ => rfl)) (pe_lst (pa_cons (pv 7) (pa_cons (pe_op op_xor (pv 4) (pv 7)) (pa_nil)))))) (pss_one (ps_dput hu (pv 6) (pv 7) (pe_op op_cat (pv 8) (pe_lst (pa_cons (pe_op op_xor (pv 3) (pv 7)) (pa_nil)))) rfl))) (pss_nil))))) (pss_one (ps_ret (pe_bi T.sorted (cr_sortD hr.units) (pa_cons (pe_lock (pe_lc (own := [("_law_own", 3)]) (g := gName 3) (tt := tYes) (te := tCB (rTupS K) (tCons (tCB (rSortD K) (tCons (tLc (iList K (tDGet (tVar 6) (tVar 3))) (gName 9) (tYes) (tCall sp__law_lot [] E0 (tCons (tVar 9) (tNil))) [9]) (tNil))) (tNil))) rfl nd (pi_keys (pv 6)) (blkOk_by (N := N__law_fours_in) (sc := defScope (top 61)) (by decide +kernel)) (fun _ _ _ _ _ => pg_name (i := 3) nd rfl (by first | exact Or.inl rfl | exact Or.inr rfl)) (fun _ _ _ _ _ => pts_nil) (fun _ _ _ _ _ => pe_ty T.tuple call_tuple_of (pa_cons (pe_bi T.sorted (cr_sortD hr.units) (pa_cons (pe_lc (own := [("_law_bit", 9)]) (g := gName 9) (tt := tYes) (te := tCall sp__law_lot [] E0 (tCons (tVar 9) (tNil))) rfl nd (pi_list (pe_dget hu (pv 6) (pv 3) (fun _ _ => rfl))) (blkOk_by (N := N__law_fours_in) (by first | kernel_rfl | rfl)) (fun _ _ _ _ _ => pg_name (i := 9) nd rfl (by first | exact Or.inl rfl | exact Or.inr rfl)) (fun _ _ _ _ _ => pts_nil) (fun _ _ _ _ _ => pe_cal C__law_lot hr (pa_cons (pv 9) (pa_nil)))) (pa_nil))) (pa_nil))))) (pa_nil)))))))
theorem len__law_fours_in : ∀ as r, R__law_fours_in as r → as.length = p__law_fours_in.length := by rintro _ _ ⟨l, rfl, _⟩; rfl
theorem rowsIn_len (m : Nat) (es : List Nat) (h : Nat) : (rowsIn (grp m es) h).length ≤ es.length := by
  unfold rowsIn
  cases e : valX (grp m es) h with
  | none => exact Nat.zero_le _
  | some r =>
    have : ∃ kv ∈ grp m es, kv.2 = r := by
      unfold valX at e
      cases q : (grp m es).find? (fun kv => decide (kv.1 = h)) with
      | none => rw [q] at e; cases e
      | some kv =>
        rw [q] at e
        exact ⟨kv, List.mem_of_find?_eq_some q, Option.some.inj e⟩
    obtain ⟨kv, hk, rfl⟩ := this
    exact (grp_prop hk).2.2.1
theorem part_ev {P : Program} {w : World} {K : PySem.W.Frag} {σ : L2.St} {N : Hp} {p : Addr} {od : Obj} {ws : List (L2.Key × V)} {m : Nat} {kv : Nat × List Nat} {kvs : Gr} (hn : (kvs.map (·.1)).Nodup) (hkv : kv ∈ kvs) (hl : kv.2.length ≤ 50000) (hx : ∀ x ∈ kv.1 :: (m ^^^ kv.1) :: kv.2, x < 2 ^ 24 ∧ x ≠ 0)
    (hlen : 9 < σ.length) (h6 : σ[6]? = some (some (.ref p))) (h3 : σ[3]? = some (some (.int (kv.1 : Int)))) (hp : N p = some (.frz od (.dK ws))) (r : RelK N ws (kvs.map (encL m))) :
    Ev (tCB (rTupS K) (tCons (tCB (rSortD K) (tCons (tLc (iList K (tDGet (tVar 6) (tVar 3))) (gName 9) tYes (tCall sp__law_lot [] L2.E0 (tCons (tVar 9) tNil)) [9]) tNil)) tNil)) σ N fun u N' => Rp N' u (partD m kv) := by
  let l := kv.1 :: (m ^^^ kv.1) :: kv.2
  have hv : valX (kvs.map (encL m)) (kv.1 : Int) = some (lN l) := by
    have := valX_enc (f := fun n : Nat => (n : Int)) (g := fun k (r : List Nat) => lN (k :: (m ^^^ k) :: r)) (kvs := kvs) (k := kv.1) (fun kv _ z => by omega)
    rw [show (kvs.map (encL m)) = kvs.map fun kv => ((kv.1 : Int), lN (kv.1 :: (m ^^^ kv.1) :: kv.2)) from rfl, this, valX_mem hn hkv]
    rfl
  have key : EvN (tLc (iList K (tDGet (tVar 6) (tVar 3))) (gName 9) tYes (tCall sp__law_lot [] L2.E0 (tCons (tVar 9) tNil)) [9]) σ N (l.map lt) := by
    have e : l.map lt = (List.range (l.map nI).length).map fun i => lt (l.getD i 0) := by
      rw [List.length_map]
      apply List.ext_getElem
      · rw [List.length_map, List.length_map, List.length_range]
      · intro i h1 h2
        rw [List.length_map] at h1
        rw [List.getElem_map, List.getElem_map, List.getElem_range, List.getD_eq_getElem?_getD, List.getElem?_eq_getElem h1]
        rfl
    rw [e]
    refine evn_lc (items := l.map nI) (by decide) (by rw [List.length_map]; show kv.2.length + 1 + 1 ≤ _; omega) _ (fun H k R q => ?_) fun i d v N' hd kN rv => ?_
    · obtain ⟨v, hv1, rv⟩ := r.get hv
      obtain ⟨b, us, rfl, hb, rb⟩ := Rp.list_ref rv
      refine ⟨.ref p, h6, _, h3, p, .ref b, rfl, ?_, b, rfl, ⟨us, SqL.of (k _ _ hb)⟩, q _ N H (Stp.refl k) (wk_listL hb rb)⟩
      have g : DGet H p (kV (Sum.inl (kv.1 : Int))) (valV ws (Sum.inl (kv.1 : Int))) := .inl ⟨ws, Sum.inl (kv.1 : Int), .inr ⟨od, k _ _ hp⟩, rfl, rfl⟩
      rw [hv1] at g
      exact g
    · obtain ⟨x, hx1, rfl⟩ := get_nI hd
      have : l.getD i 0 = x := by rw [List.getD_eq_getElem?_getD, hx1]; rfl
      rw [this]
      intro H k Q q
      exact ⟨v, List.getElem?_set_self (by rw [wipe_length]; exact hlen), N', [nI x], lt x, k, .cons rv .nil, ⟨x, rfl, rfl⟩, fun u N2 H2 s2 r2 => q u N2 H2 s2 r2⟩
  refine ev_cb (d := .list (srt (l.map lt))) (ev_cb (d := .list (l.map lt)) (ev_know key) (dcn_dc (dcn_sort (.inl rfl) (fun d hd e he => lv_alike 1 d e (lv_map lv_lt l d hd) (lv_map lv_lt l e he)) (.inl (.inl fun d hd => ?_)) (fun d hd => Nat.le_trans (lv_depth 1 d (lv_map lv_lt l d hd)) (by decide)) (nodA_of fun d hd => lv_nod 1 d (lv_map lv_lt l d hd))))) (dc_tuple (.inl rfl))
  obtain ⟨x, hxm, rfl⟩ := List.mem_map.mp hd
  have := bitsL_ne (hx x hxm).1 (hx x hxm).2
  unfold lt tN
  cases e : bitsL x with
  | nil => exact absurd e this
  | cons a l => exact ⟨_, _, rfl⟩
theorem fours_gen {P : Program} {w : World} {K : PySem.W.Frag} {E0 Ni : Hp} {D : Ends} (m : Nat) (rt es : List Nat) (hE : es.length ≤ 5000) (hE8 : ∀ e ∈ es, e < 2 ^ 24 ∧ popc e = 8) (hm : m < 2 ^ 24) (hm8 : popc m = 8) (htal : ∀ z, z < 2 ^ 24 → talN z = popc z) (hR : Rt E0 Ni (.list (srt (Gd m es))) D.rt) :
    Okk E0 Ni (t__law_fours_in K P w) D (s0 N__law_fours_in [.tuple [lN rt, lN es, lN (tal 12)], lt m]) := by
  have hmne := popc_ne (m := m) (by omega)
  have h24 := popc_le m
  let a := (bitsL m).headD 0
  have ha : (bitsL m)[0]? = some a := by
    cases e : bitsL m with
    | nil => exact absurd e hmne
    | cons x l => show some x = some ((bitsL m).headD 0); rw [e]; rfl
  have ha24 : a < 24 := (mem_bitsL.mp (hd_mem hmne)).1
  refine okk_asg3K (d := nI m) (d2 := lN (tal 12)) (de_call (dea_1 (de_var (d := lt m) rfl)) ⟨m, rfl, hm, rfl⟩) (de_ix (x := (PyData.tuple [lN rt, lN es, lN (tal 12)])) (j := 2) (de_var rfl) (de_n 2) (.inr rfl) rfl) ?_
  refine okk_set (de_shl (a := 1) (b := a) (de_n 1) (de_ix (x := lt m) (j := 0) (de_var rfl) (de_n 0) (.inr rfl) (by rw [List.getElem?_map, ha]; rfl)) (by decide) (by omega)) ?_
  refine okk_for (j := 3) (dei_list (xs := es.map nI) (de_ix (x := (PyData.tuple [lN rt, lN es, lN (tal 12)])) (j := 1) (de_var rfl) (de_n 1) (.inr rfl) rfl)) (fun i => [.val (PyData.tuple [lN rt, lN es, lN (tal 12)]), .val (lt m), .val (nI (1 * 2 ^ a)), .no, .val (nI m), .val (lN (tal 12)), .ownK ((grp m (es.take i)).map (encL m)), .no, .no, .no]) rfl (fun Nj i d hd => ?_) ?_
  · obtain ⟨e, he, rfl⟩ := get_nI hd
    have he24 : e < 2 ^ 24 := (hE8 e (List.mem_of_getElem? he)).1
    have hh24 : e &&& m < 2 ^ 24 := Nat.lt_of_le_of_lt Nat.and_le_left he24
    have hgl := grp_len m (es.take i)
    have htl := List.length_take_le' i es
    refine okk_set (de_and (a := e) (b := m) (de_var rfl) (de_var rfl)) ?_
    have hsel : (decide ((e &&& m) &&& (1 * 2 ^ a) ≠ 0) && decide (talN (e &&& m) = 4)) = selE m e := by
      unfold selE
      rw [htal _ hh24, Nat.one_mul]
      by_cases h4 : popc (e &&& m) = 4
      · rw [show (decide ((e &&& m) &&& 2 ^ a ≠ 0)) = decide ((bitsL (e &&& m)).headD 0 = (bitsL m).headD 0) from hd_bit hmne (popc_ne (by omega)), Bool.and_comm]
      · rw [decide_eq_false h4, Bool.and_false, Bool.false_and]
    refine okk_ifE (b := selE m e) ((deb_and (deb_truN (de_and (a := e &&& m) (b := 1 * 2 ^ a) (de_var rfl) (de_var rfl))) fun _ => deb_test (de_eqI (b := 4) (de_call (dea_2 (de_var (d := lN (tal 12)) rfl) (de_var (d := nI (e &&& m)) rfl)) ⟨_, rfl, hh24, rfl⟩) (de_n 4))).to hsel) (fun hs => ?_) fun hs => ?_
    · refine okk_getK (h := e &&& m) (d := lN [e &&& m, m ^^^ (e &&& m)]) (kvs := (grp m (es.take i)).map (encL m)) rfl (de_var rfl) (DeN.de (den_lst (dea_2 (x := nI (e &&& m)) (y := nI (m ^^^ (e &&& m))) (de_var rfl) (de_xor (a := m) (b := e &&& m) (de_var rfl) (de_var rfl))) (Nat.le_of_ble_eq_true rfl))) ?_
      rw [encL_get]
      have hr := rowsIn_len m (es.take i) (e &&& m)
      refine okk_putKN (h := e &&& m) (kvs := (grp m (es.take i)).map (encL m)) (d := lN (((e &&& m) :: (m ^^^ (e &&& m)) :: rowsIn (grp m (es.take i)) (e &&& m)) ++ [e ^^^ (e &&& m)])) [3, 7, 8] rfl ((DeN.de (den_op (x := lN ((e &&& m) :: (m ^^^ (e &&& m)) :: rowsIn (grp m (es.take i)) (e &&& m))) (y := .list [nI (e ^^^ (e &&& m))]) (de_var rfl) (DeN.de (den_lst (dea_1 (de_xor (a := e) (b := e &&& m) (de_var rfl) (de_var rfl))) (Nat.le_of_ble_eq_true rfl))) (drn_cat (by rw [List.length_map]; show (rowsIn (grp m (es.take i)) (e &&& m)).length + 1 + 1 + 1 ≤ _; omega)))).to (lN_cat _ [_])) (de_var rfl) (by rw [List.length_map]; omega) ?_
      rw [encL_put m (gok m _).nd]
      show _ = [Sk.val (PyData.tuple [lN rt, lN es, lN (tal 12)]), .val (lt m), .val (nI (1 * 2 ^ a)), .no, .val (nI m), .val (lN (tal 12)), .ownK ((grp m (es.take (i + 1))).map (encL m)), .no, .no, .no]
      rw [grp_take m he]
      unfold grpS
      rw [hs]
      rfl
    · refine okk_nextN [3, 7] ?_
      show _ = [Sk.val (PyData.tuple [lN rt, lN es, lN (tal 12)]), .val (lt m), .val (nI (1 * 2 ^ a)), .no, .val (nI m), .val (lN (tal 12)), .ownK ((grp m (es.take (i + 1))).map (encL m)), .no, .no, .no]
      rw [grp_take m he]
      unfold grpS
      rw [hs]
      rfl
  · rw [List.length_map, List.take_length]
    intro N H σ wd s
    obtain ⟨p, sp, ep, np, ws, hp, r⟩ := s.own 6 _ rfl rfl
    have hmb : Mut (some (HO.dK ws)) := trivial
    have hlen : σ.length = 10 := s.len
    have g := gok m es
    refine ⟨p, .dK ws, hp, hmb, fun od => ?_⟩
    let N1 := upd N p (.frz od (.dK ws))
    let H1 := upd H p (.frz od (.dK ws))
    have k1 : Same N1 H1 := fun x u e => by
      by_cases hx : x = p
      · subst hx
        rw [show N1 x = _ from upd_same] at e
        rw [show H1 x = _ from upd_same]
        exact e
      · rw [show N1 x = N x from upd_ne hx] at e
        rw [show H1 x = H x from upd_ne hx]
        exact wd.nh x u e
    have r1 : RelK N1 ws ((grp m es).map (encL m)) := RelK.mono (same_new np) r
    have items : ((grp m es).map (encL m)).map (fun kv => PyData.int kv.1) = (grp m es).map fun kv => nI kv.1 := by rw [List.map_map]; rfl
    have ev : EvN (tLc (iKeys (tVar 6)) (gName 3) tYes (tCB (rTupS K) (tCons (tCB (rSortD K) (tCons (tLc (iList K (tDGet (tVar 6) (tVar 3))) (gName 9) tYes (tCall sp__law_lot [] L2.E0 (tCons (tVar 9) tNil)) [9]) tNil)) tNil)) [3]) σ N1 (Gd m es) := by
      have e : Gd m es = (List.range ((grp m es).map fun kv => nI kv.1).length).map fun i => partD m ((grp m es).getD i (0, [])) := by
        unfold Gd
        rw [List.length_map]
        apply List.ext_getElem
        · rw [List.length_map, List.length_map, List.length_range]
        · intro i h1 h2
          rw [List.length_map] at h1
          rw [List.getElem_map, List.getElem_map, List.getElem_range, List.getD_eq_getElem?_getD, List.getElem?_eq_getElem h1]
          rfl
      rw [e]
      refine evn_lc (j := 3) (vs := [3]) (items := (grp m es).map fun kv => nI kv.1) (by decide) (by rw [List.length_map]; have := grp_len m es; omega) _ (fun H' k' R q => ?_) fun i d v N' hd kN rv => ?_
      · refine ⟨.ref p, sp, p, od, rfl, .inl ⟨ws, k' p _ upd_same, q _ N1 H' (Stp.refl k') ?_⟩⟩
        rw [← items]
        exact wk_keys upd_same ⟨_, r1⟩
      · obtain ⟨kv, hkv, rfl⟩ := get_map hd
        have hgd : (grp m es).getD i (0, []) = kv := by rw [List.getD_eq_getElem?_getD, hkv]; rfl
        rw [hgd]
        have hkm := List.mem_of_getElem? hkv
        obtain ⟨q1, q2, q3, q4⟩ := grp_prop hkm
        have hv : v = .int (kv.1 : Int) := Rp.int_eq rv
        subst hv
        have s6 : ((L2.wipe σ [3]).set 3 (some (V.int (kv.1 : Int))))[6]? = some (some (.ref p)) := by
          rw [List.getElem?_set_ne (by decide), wipe_out (by decide)]
          exact sp
        have s3 : ((L2.wipe σ [3]).set 3 (some (V.int (kv.1 : Int))))[3]? = some (some (.int (kv.1 : Int))) := List.getElem?_set_self (by rw [wipe_length, hlen]; decide)
        refine part_ev (P := P) (w := w) g.nd hkm (by omega) ?_ (by rw [List.length_set, wipe_length, hlen]; decide) s6 s3 (kN _ _ upd_same) (r1.mono kN)
        intro x hx
        exact grp_bd hm hm8 hE8 hkm x hx
    refine ev H1 k1 _ fun q us N' H' s1 hq nq e ru => ⟨s1.hh _ _ upd_same, ?_⟩
    have hqp : q ≠ p := fun z => by rw [z, show H1 p = _ from upd_same] at hq; cases hq
    have np' : N' p = some (.frz od (.dK ws)) := s1.nn _ _ upd_same
    have ru2 := RpA.off (p := p) (by rw [np']; exact odd_frz) ru
    let N3 := upd (hid N' p) q (.lst us)
    let H2 := upd H' p (.dK ws)
    have hN : ∀ x, x ≠ p → x ≠ q → N3 x = N' x := fun x h1 h2 => by rw [show N3 x = hid N' p x from upd_ne h2, hid_ne h1]
    have w3 : Wd E0 Ni N3 H2 := by
      refine ⟨fun x u h => ?_, fun x u h => ?_, fun x u h => ?_, fun x h1 h2 => ?_⟩
      · have hx := wd.ni x u h
        have xp : x ≠ p := fun z => by rw [z, np] at hx; cases hx
        have hx2 := s1.nn x u (show N1 x = some u by rw [show N1 x = N x from upd_ne xp]; exact hx)
        have xq : x ≠ q := fun z => by rw [z, nq] at hx2; cases hx2
        rw [hN x xp xq]
        exact hx2
      · have xp : x ≠ p := fun z => by rw [z, ep] at h; cases h
        show H2 x = some u
        rw [show H2 x = H' x from upd_ne xp]
        exact s1.hh x u (show H1 x = some u by rw [show H1 x = H x from upd_ne xp]; exact wd.eh x u h)
      · by_cases xq : x = q
        · subst xq
          rw [show N3 x = _ from upd_same] at h
          rw [show H2 x = H' x from upd_ne hqp, e]
          exact h
        · rw [show N3 x = hid N' p x from upd_ne xq] at h
          have xp : x ≠ p := fun z => by rw [z, hid_same] at h; cases h
          rw [hid_ne xp] at h
          rw [show H2 x = H' x from upd_ne xp]
          exact s1.nh x u h
      · have xp : x ≠ p := fun z => by rw [z, ep] at h1; exact h1.1 rfl
        have hH : Mb (H1 x) := by rw [show H1 x = H x from upd_ne xp]; exact mb_same wd.eh h1
        have xq : x ≠ q := fun z => by rw [z, hq] at hH; exact hH.1 rfl
        rw [hN x xp xq]
        exact s1.fr x hH (by rw [show N1 x = N x from upd_ne xp]; exact wd.fr x h1 h2)
    refine dcn_dc (dcn_sort (K := K) (.inl rfl) (fun d hd e he => ?_) (.inl (.inl fun d hd => ?_)) (fun d hd => ?_) (nodA_of fun d hd => ?_)) N3 [.ref q] (.cons (.lst upd_same (ru2.mono (same_new (by rw [hid_ne hqp]; exact nq)))) .nil) H2 w3.nh _ fun u N4 H4 s4 r4 => hR u N4 H4 (w3.step s4) r4
    · obtain ⟨a, _, rfl⟩ := List.mem_map.mp hd
      obtain ⟨b, _, rfl⟩ := List.mem_map.mp he
      exact lv_alike 2 _ _ (lv_part m a) (lv_part m b)
    · obtain ⟨a, _, rfl⟩ := List.mem_map.mp hd
      exact part_cons m a
    · obtain ⟨a, _, rfl⟩ := List.mem_map.mp hd
      exact Nat.le_trans (lv_depth 2 _ (lv_part m a)) (by decide)
    · obtain ⟨a, _, rfl⟩ := List.mem_map.mp hd
      exact lv_nod 2 _ (lv_part m a)
theorem ok__law_fours_in {P : Program} {w : World} {K : PySem.W.Frag} : ∀ as r, R__law_fours_in as r → ∀ (E0 Ni : Hp) (D : Ends), Rt E0 Ni r D.rt → Okk E0 Ni (t__law_fours_in K P w) D (s0 N__law_fours_in as) := by
  rintro _ _ ⟨m, rfl, hm, hm8, htal, hE8, rfl⟩ E0 Ni D hR
  exact fours_gen m RT E8 (Nat.le_trans E8_len (by decide)) (fun e he => ⟨E8_bd e he, hE8 e he⟩) hm hm8 htal hR

theorem cal__law_fours_in {P : Program} {w : World} {K : PySem.W.Frag} {mg : Str → Option Value} {base : Heap} {f : Addr} {fd : FuncData} (T : Tx K mg) (C__law_bits : Cal P w K mg base 1 "_law_bits" p__law_bits sp__law_bits) (C__law_many : Cal P w K mg base 1 "_law_many" p__law_many sp__law_many) (C__law_lot : Cal P w K mg base 1 "_law_lot" p__law_lot sp__law_lot) (F : FnP K "_law_fours_in" (top 61) f fd) (hm : mg "_law_fours_in" = some (.ref f)) : Cal P w K mg base 2 "_law_fours_in" p__law_fours_in sp__law_fours_in :=
  cal_of F hm (FunD.bindsN F fun _ _ _ _ _ _ us hl => match us, hl with | [_, _], _ => rfl) (fn_data F sc__law_fours_in (len__law_fours_in) fun cdv A outer s H E hr => ⟨_, ps__law_fours_in T C__law_bits C__law_many C__law_lot cdv A outer s H E hr, ok__law_fours_in⟩)

end Ez

set_option Elab.async false
set_option linter.all false
set_option autoImplicit false
set_option maxRecDepth 100000
set_option maxHeartbeats 2000000
namespace Ez
open PySem PySem.Spec L2 Fz PyProof.Rows

/-! the package's fours_in -/
def keyI (h : Nat) : List Int := (bitsL h).map fun n : Nat => (n : Int)
def keyL (h : Nat) : List L2.Key := (keyI h).map Sum.inl
theorem tI_keyI (h : Nat) : tI (keyI h) = lt h := by rw [lt, tN_tI]; rfl
theorem keyL_inj {a b : Nat} (ha : a < 2 ^ 24) (hb : b < 2 ^ 24) (h : keyL a = keyL b) : a = b := lt_inj ha hb (by rw [← tI_keyI, ← tI_keyI, (map_inl_inj.mp h)])
def PC (E N H : Hp) : List (List L2.Key × V) → Gr → Prop := Paired fun w kv => w.1 = keyL kv.1 ∧ ∃ q us, w.2 = .ref q ∧ E q = none ∧ N q = none ∧ H q = some (.lst us) ∧ RpA N us (kv.2.map lt)
structure PLs (E N H : Hp) (σ : L2.St) (kvs : Gr) (p f : Addr) (ws : List (List L2.Key × V)) : Prop where
  s3 : σ[3]? = some (some (.ref p))
  s4 : σ[4]? = some (some (.ref f))
  ep : E p = none
  np : N p = none
  hp : H p = some (.dT ws)
  ef : E f = none
  nf : N f = none
  hf : H f = some (.lst [])
  nk : (ws.map (·.1)).Nodup
  nv : (ws.map (·.2)).Nodup
  fv : V.ref f ∉ ws.map (·.2)
  pc : PC E N H ws kvs
theorem pc_mapM {α β : Type} {F G : α → β → Prop} {g : β → β} : ∀ {l1 : List α} {l2 : List β}, Paired F l1 l2 → (∀ a b, a ∈ l1 → b ∈ l2 → F a b → G a (g b)) → Paired G l1 (l2.map g)
  | _, _, .nil, _ => .nil
  | _, _, .cons h t, k => .cons (k _ _ List.mem_cons_self List.mem_cons_self h) (pc_mapM t fun a b ha hb => k a b (List.mem_cons_of_mem _ ha) (List.mem_cons_of_mem _ hb))
theorem pc_mem {α β : Type} {F : α → β → Prop} : ∀ {l1 : List α} {l2 : List β}, Paired F l1 l2 → ∀ {a : α}, a ∈ l1 → ∃ b ∈ l2, F a b
  | _, _, .nil, _, h => by cases h
  | _, _, .cons h t, a, ha => by
    rcases List.mem_cons.mp ha with rfl | ha
    · exact ⟨_, List.mem_cons_self, h⟩
    · obtain ⟨b, hb, f⟩ := pc_mem t ha
      exact ⟨b, List.mem_cons_of_mem _ hb, f⟩
theorem nodup_inj {α β : Type} {f : α → β} : ∀ {l : List α}, (l.map f).Nodup → ∀ {a b : α}, a ∈ l → b ∈ l → f a = f b → a = b
  | x :: l, hn, a, b, ha, hb, e => by
    rw [List.map_cons, List.nodup_cons] at hn
    rcases List.mem_cons.mp ha with ha | ha <;> rcases List.mem_cons.mp hb with hb | hb
    · rw [ha, hb]
    · rw [ha] at e; exact absurd (List.mem_map.mpr ⟨b, hb, e.symm⟩) hn.1
    · rw [hb] at e; exact absurd (List.mem_map.mpr ⟨a, ha, e⟩) hn.1
    · exact nodup_inj hn.2 ha hb e
theorem PLs.step {E N H N' H' : Hp} {σ : L2.St} {kvs : Gr} {p f : Addr} {ws : List (List L2.Key × V)} (h : PLs E N H σ kvs p f ws) (s : Stp N H N' H') : PLs E N' H' σ kvs p f ws :=
  ⟨h.s3, h.s4, h.ep, s.fr p (by rw [h.hp]; exact mb (by intro _ z; cases z)) h.np, s.hh _ _ h.hp, h.ef, s.fr f (by rw [h.hf]; exact mb (by intro _ z; cases z)) h.nf, s.hh _ _ h.hf, h.nk, h.nv, h.fv,
    L2.Paired.mapP h.pc fun w kv ⟨a, q, us, b, c, d, e, r⟩ => ⟨a, q, us, b, c, s.fr q (by rw [e]; exact mb (by intro _ z; cases z)) d, s.hh _ _ e, r.mono s.nn⟩⟩
theorem PLs.set {E N H : Hp} {σ : L2.St} {kvs : Gr} {p f : Addr} {ws : List (List L2.Key × V)} (h : PLs E N H σ kvs p f ws) (j : Nat) (h3 : j ≠ 3) (h4 : j ≠ 4) (v : Option V) : PLs E N H (σ.set j v) kvs p f ws :=
  { h with s3 := by rw [List.getElem?_set_ne h3]; exact h.s3, s4 := by rw [List.getElem?_set_ne h4]; exact h.s4 }
/-- the value at a key -/
theorem pc_valV {E N H : Hp} {ws : List (List L2.Key × V)} {k : List L2.Key} {v : V} (h : valV ws k = some v) : (k, v) ∈ ws := by
  unfold valV at h
  cases q : ws.find? (fun kv => decide (kv.1 = k)) with
  | none => rw [q] at h; cases h
  | some w =>
    rw [q] at h
    have h1 := List.mem_of_find?_eq_some q
    have h2 := List.find?_some q
    have h2 := of_decide_eq_true h2
    cases h
    rw [← h2]
    exact h1
def updG (h x : Nat) (kv : Nat × List Nat) : Nat × List Nat := if kv.1 = h then (kv.1, kv.2 ++ [x]) else kv
theorem pl_tail {E N H : Hp} {σ : L2.St} {kvs : Gr} {p f q : Addr} {ws : List (List L2.Key × V)} {h x : Nat} {v : V} (pl : PLs E N H σ kvs p f ws) (hq : (keyL h, V.ref q) ∈ ws) (hb : ∀ kv ∈ kvs, kv.1 < 2 ^ 24) (hh : h < 2 ^ 24) (r : Rp N v (lt x)) :
    ∃ us, H q = some (.lst us) ∧ E q = none ∧ N q = none ∧ (∃ kv ∈ kvs, us.length = kv.2.length) ∧ PLs E N (upd H q (.lst (us ++ [v]))) σ (kvs.map (updG h x)) p f ws := by
  obtain ⟨kv0, hk0, e0, q', us, hq', eq, nq, hu, ru⟩ := pc_mem pl.pc hq
  cases hq'
  have hqp : q ≠ p := fun z => by rw [z, pl.hp] at hu; cases hu
  have hqf : q ≠ f := fun z => pl.fv (List.mem_map.mpr ⟨_, hq, by rw [z]⟩)
  refine ⟨us, hu, eq, nq, ⟨kv0, hk0, by rw [ru.length, List.length_map]⟩, pl.s3, pl.s4, pl.ep, pl.np, by rw [upd_ne (Ne.symm hqp)]; exact pl.hp, pl.ef, pl.nf, by rw [upd_ne (Ne.symm hqf)]; exact pl.hf, pl.nk, pl.nv, pl.fv, ?_⟩
  refine pc_mapM pl.pc fun w kv hw hkv ⟨a, q2, us2, b, c, d, e, r2⟩ => ?_
  by_cases hc : kv.1 = h
  · have hw2 : w = (keyL h, V.ref q) := nodup_inj (f := fun w : List L2.Key × V => w.1) pl.nk hw hq (by rw [a, hc])
    rw [hw2] at b
    cases b
    rw [hu] at e
    cases e
    unfold updG
    rw [if_pos hc]
    exact ⟨a, q, us ++ [v], by rw [hw2], eq, nq, upd_same, by rw [List.map_append]; exact r2.snoc r⟩
  · have hne : q2 ≠ q := fun z => by
      have hw2 : w = (keyL h, V.ref q) := nodup_inj (f := fun w : List L2.Key × V => w.2) pl.nv hw hq (by rw [b, z])
      rw [hw2] at a
      exact hc (keyL_inj hh (hb kv hkv) a).symm
    unfold updG
    rw [if_neg hc]
    exact ⟨a, q2, us2, b, c, d, by rw [upd_ne hne]; exact e, r2⟩
/-- parts.setdefault(half, []).append(lot) -/
theorem pl_append {E Ni N H : Hp} {σ : L2.St} {kvs : Gr} {p f : Addr} {ws : List (List L2.Key × V)} {K : PySem.W.Frag} {tk tx : TE} {h x : Nat} {ds : Sd} {Q : VK} (w : Wd E Ni N H) (pl : PLs E N H σ kvs p f ws) (hkv : ∀ kv ∈ kvs, kv.1 < 2 ^ 24 ∧ kv.2.length ≤ 50000) (hh : h < 2 ^ 24) (hlen : kvs.length ≤ 50000)
    (hs : Sl N σ ds) (hk : De tk ds (lt h)) (hx : De tx ds (lt x))
    (q : ∀ v N' H' ws', Wd E Ni N' H' → Same N N' → PLs E N' H' σ (addG kvs h x) p f ws' → Q v H') :
    tBM K "list" rAppend (tBM K "dict" rSetDefT (tVar 3) (tCons tk (tCons (tLst tNil) tNil))) (tCons tx tNil) σ H Q := by
  refine ⟨.ref p, pl.s3, .inr (.inr (.inl ⟨rfl, .inr ⟨ws, pl.hp⟩⟩)), ?_⟩
  refine hk σ N hs H w.nh _ fun v1 N1 H1 s1 r1 => ⟨Nat.zero_le _, fun l hl => ?_⟩
  obtain ⟨b, us, rfl, hb, rb⟩ := Rp.tup_ref (show Rp N1 v1 (.tuple ((bitsL h).map nI)) from r1)
  rw [nI_map] at rb
  rw [rpa_ints rb] at hb
  have sl := s1.trans (Stp.hid (o := HO.lst []) s1.nh hl)
  have pl2 := pl.step sl
  have w2 := w.step sl
  have hl2 : ws.length = kvs.length := Paired.length pl.pc
  have any_of : ∀ qq, (keyL h, V.ref qq) ∈ ws → (kvs.any fun kv => decide (kv.1 = h)) = true := fun qq hq => by
    obtain ⟨kv0, hk0, e0, _⟩ := pc_mem pl.pc hq
    rw [List.any_eq_true]
    exact ⟨kv0, hk0, decide_eq_true (keyL_inj (hkv kv0 hk0).1 hh e0.symm)⟩
  -- what stands behind the list's choice
  have tail : ∀ (H3 : Hp) (q3 : Addr) (kvs3 : Gr) (ws3 : List (List L2.Key × V)), Wd E Ni N1 H3 → PLs E N1 H3 σ kvs3 p f ws3 → (keyL h, V.ref q3) ∈ ws3 → (∀ kv ∈ kvs3, kv.1 < 2 ^ 24 ∧ kv.2.length ≤ 50000) → kvs3.map (updG h x) = addG kvs h x →
      tyV K "list" (.ref q3) H3 ∧ (tCons tx tNil) σ H3 fun xs H2 => rAppend (.ref q3) xs H2 Q := fun H3 q3 kvs3 ws3 w3 pl3 hq3 hk3 e3 => by
    obtain ⟨kv0, hk0, e0, q', us, hq', eq, nq, hu, ru⟩ := pc_mem pl3.pc hq3
    cases hq'
    refine ⟨.inl ⟨rfl, us, SqL.of hu⟩, hx σ N1 (hs.mono s1.nn) H3 w3.nh _ fun v2 N2 H4 s4 r4 => ?_⟩
    have pl4 := pl3.step s4
    have w4 := w3.step s4
    obtain ⟨us4, hu4, eq4, nq4, ⟨kv5, hk5, hl5⟩, pl5⟩ := pl_tail pl4 hq3 (fun kv hkv => (hk3 kv hkv).1) hh r4
    have := (hk3 kv5 hk5).2
    refine ⟨q3, us4, v2, rfl, rfl, hu4, Nat.lt_of_le_of_lt (show us4.length ≤ 50000 by omega) (by decide), ?_⟩
    rw [e3] at pl5
    exact q _ N2 _ ws3 ⟨w4.ni, same_mut w4.eh eq4, same_mut w4.nh nq4, w4.fr⟩ (s1.nn.trans s4.nn) pl5
  refine ⟨p, ws, keyL h, b, .ref l, rfl, rfl, pl2.hp, ?_, Nat.lt_of_le_of_lt (show ws.length ≤ 50000 by omega) (by decide), fun v hv => ?_, fun hv => ?_⟩
  · rw [keyL, kV_map]
    have hbl : b ≠ l := fun z => by rw [z] at hb; rw [s1.nh _ _ hb] at hl; cases hl
    rw [upd_ne hbl]
    exact s1.nh _ _ hb
  · have hm := pc_valV (E := E) (N := N) (H := H) hv
    obtain ⟨kv0, hk0, e0, q0, us0, rfl, _⟩ := pc_mem pl2.pc hm
    have ha := any_of q0 hm
    exact tail _ q0 kvs ws w2 pl2 hm hkv (by unfold addG; rw [if_pos ha]; rfl)
  · have hno : ∀ w' ∈ ws, w'.1 ≠ keyL h := fun w' hw' z => by
      have : valV ws w'.1 = some w'.2 := valX_mem (kvs := ws) pl.nk hw'
      rw [z, hv] at this
      cases this
    have hkn : ∀ kv ∈ kvs, kv.1 ≠ h := fun kv hk z => by
      obtain ⟨w', hw', e⟩ : ∃ w' ∈ ws, w'.1 = keyL kv.1 := by
        have : ∀ {ws : List (List L2.Key × V)} {kvs : Gr}, PC E N H ws kvs → ∀ kv ∈ kvs, ∃ w' ∈ ws, w'.1 = keyL kv.1 := by
          intro ws kvs pc
          induction pc with
          | nil => intro kv h; cases h
          | cons a t ih =>
            intro kv h
            rcases List.mem_cons.mp h with rfl | h
            · exact ⟨_, List.mem_cons_self, a.1⟩
            · obtain ⟨w', h1, h2⟩ := ih kv h
              exact ⟨w', List.mem_cons_of_mem _ h1, h2⟩
        exact this pl.pc kv hk
      exact hno w' hw' (by rw [e, z])
    rw [putK_new _ hv]
    have hlp : l ≠ p := fun z => by rw [z, s1.hh _ _ pl.hp] at hl; cases hl
    have hlf : l ≠ f := fun z => by rw [z, s1.hh _ _ pl.hf] at hl; cases hl
    have el : E l = none := same_none (w.step s1).eh hl
    have nl : N1 l = none := same_none s1.nh hl
    have lv : V.ref l ∉ ws.map (·.2) := fun z => by
      obtain ⟨w', hw', e⟩ := List.mem_map.mp z
      obtain ⟨kv0, _, _, q0, us0, e2, _, _, e3, _⟩ := pc_mem pl.pc hw'
      rw [e2] at e
      cases e
      rw [s1.hh _ _ e3] at hl
      cases hl
    refine tail _ l (kvs ++ [(h, [])]) (ws ++ [(keyL h, .ref l)]) ⟨w2.ni, same_mut w2.eh pl.ep, same_mut w2.nh pl2.np, w2.fr⟩ ⟨pl2.s3, pl2.s4, pl2.ep, pl2.np, upd_same, pl2.ef, pl2.nf, ?_, ?_, ?_, ?_, ?_⟩ (List.mem_append_right _ List.mem_cons_self) (fun kv hk => ?_) ?_
    · have hfp : f ≠ p := fun z => by have := pl.hf; rw [z, pl.hp] at this; cases this
      rw [upd_ne hfp]
      exact pl2.hf
    · rw [List.map_append]
      refine List.nodup_append.mpr ⟨pl.nk, by simp, fun a ha b hb z => ?_⟩
      obtain ⟨w', hw', rfl⟩ := List.mem_map.mp ha
      rw [List.map_cons, List.map_nil, List.mem_singleton] at hb
      exact hno w' hw' (z.trans hb)
    · rw [List.map_append]
      refine List.nodup_append.mpr ⟨pl.nv, by simp, fun a ha b hb z => ?_⟩
      rw [List.map_cons, List.map_nil, List.mem_singleton] at hb
      rw [z, hb] at ha
      exact lv ha
    · rw [List.map_append, List.mem_append, not_or]
      refine ⟨pl.fv, ?_⟩
      rw [List.map_cons, List.map_nil, List.mem_singleton]
      intro z
      cases z
      exact hlf rfl
    · refine Paired.snoc (L2.Paired.mapP pl2.pc fun w' kv ⟨a, q0, us0, b0, c, d, e, r⟩ => ⟨a, q0, us0, b0, c, d, ?_, r⟩) ⟨rfl, l, [], rfl, el, nl, ?_, .nil⟩
      · have : q0 ≠ p := fun z => by rw [z, pl2.hp] at e; cases e
        rw [upd_ne this]
        exact e
      · rw [upd_ne hlp]
        exact upd_same
    · rcases List.mem_append.mp hk with z | z
      · exact hkv kv z
      · rw [List.mem_singleton.mp z]; exact ⟨hh, Nat.zero_le _⟩
    · unfold addG
      rw [if_neg (fun z => by
        rw [List.any_eq_true] at z
        obtain ⟨kv, h1, h2⟩ := z
        exact hkn kv h1 (of_decide_eq_true h2)), List.map_append]
      congr 1
      · rw [← List.map_id kvs, List.map_map]
        apply List.map_congr_left
        intro kv hk
        show updG h x kv = kv
        unfold updG
        rw [if_neg (hkn kv hk)]
      · show [updG h x (h, [])] = _
        unfold updG
        rw [if_pos rfl]
        rfl
def kvT (kv : Nat × List Nat) : List Int × Dat := (keyI kv.1, PyData.list (kv.2.map lt))
theorem pl_learn {E N H : Hp} : ∀ {ws : List (List L2.Key × V)} {kvs : Gr}, PC E N H ws kvs → (ws.map (·.2)).Nodup → ∀ N0, Same N N0 → Same N0 H → (∀ q, V.ref q ∈ ws.map (·.2) → N0 q = none) →
    ∃ N', Same N0 N' ∧ Same N' H ∧ (∀ a, N0 a = none → V.ref a ∉ ws.map (·.2) → N' a = none) ∧ RelT N' ws (kvs.map kvT)
  | _, _, .nil, _, N0, _, k, _ => ⟨N0, Same.refl _, k, fun _ h _ => h, .nil⟩
  | _, _, .cons (a := w) (b := kv) h t, hn, N0, k0, k, hq => by
    obtain ⟨a, q, us, b, c, d, e, r⟩ := h
    rw [List.map_cons, List.nodup_cons] at hn
    have nq : N0 q = none := hq q (by rw [List.map_cons, b]; exact List.mem_cons_self)
    have k1 : Same (upd N0 q (.lst us)) H := same_up k e
    obtain ⟨N', h1, h2, h3, h4⟩ := pl_learn t hn.2 (upd N0 q (.lst us)) (k0.trans (same_new nq)) k1 (fun q2 h2 => by
      have : q2 ≠ q := fun z => hn.1 (by rw [b, ← z]; exact h2)
      rw [upd_ne this]
      exact hq q2 (by rw [List.map_cons]; exact List.mem_cons_of_mem _ h2))
    refine ⟨N', (same_new nq).trans h1, h2, fun x hx hx2 => ?_, .cons ⟨a, ?_⟩ h4⟩
    · rw [List.map_cons, List.mem_cons, not_or] at hx2
      have : x ≠ q := fun z => hx2.1 (by rw [b, z])
      exact h3 x (by rw [upd_ne this]; exact hx) hx2.2
    · rw [b]
      exact .lst (h1 _ _ upd_same) (r.mono ((k0.trans (same_new nq)).trans h1))
theorem ss_own2 {E N H : Hp} {σ : L2.St} {ds : Ss} (s : SS E N H σ ds) (hv : ∀ k ∈ ds, k.isOwn = false) {i j : Nat} {p f : Addr} {k1 k2 : Sk} (hij : i ≠ j) (hi : i < ds.length) (hj : j < ds.length) (hpf : p ≠ f) (si : σ[i]? = some (some (.ref p))) (sj : σ[j]? = some (some (.ref f)))
    (ep : E p = none) (np : N p = none) (ef : E f = none) (nf : N f = none) (o1 : OwnAt N H p k1) (o2 : OwnAt N H f k2) (w1 : k1.isOwn = true) (w2 : k2.isOwn = true) : SS E N H σ ((ds.set i k1).set j k2) := by
  have key : ∀ (m : Nat) (z : Sk), ((ds.set i k1).set j k2)[m]? = some z → (m = j ∧ z = k2) ∨ (m = i ∧ z = k1) ∨ ds[m]? = some z := fun m z e => by
    by_cases h : j = m
    · subst h
      rw [List.getElem?_set_self (by rw [List.length_set]; exact hj)] at e
      exact .inl ⟨rfl, (Option.some.inj e).symm⟩
    · rw [List.getElem?_set_ne h] at e
      by_cases h2 : i = m
      · subst h2
        rw [List.getElem?_set_self hi] at e
        exact .inr (.inl ⟨rfl, (Option.some.inj e).symm⟩)
      · rw [List.getElem?_set_ne h2] at e
        exact .inr (.inr e)
  have old : ∀ (m : Nat) (z : Sk), ds[m]? = some z → z.isOwn = true → False := fun m z e o => by
    rw [hv z (List.mem_of_getElem? e)] at o; cases o
  refine ⟨by rw [List.length_set, List.length_set]; exact s.len, fun m d e => ?_, fun m z e o => ?_, fun m n z y q e1 e2 q1 q2 a1 a2 => ?_, fun m v e => ?_⟩
  · rcases key m _ e with ⟨_, h⟩ | ⟨_, h⟩ | h
    · subst h; cases w2
    · subst h; cases w1
    · exact s.val m d h
  · rcases key m _ e with ⟨rfl, rfl⟩ | ⟨rfl, rfl⟩ | h
    · exact ⟨f, sj, ef, nf, o2⟩
    · exact ⟨p, si, ep, np, o1⟩
    · exact (old m z h o).elim
  · rcases key m _ e1 with ⟨rfl, rfl⟩ | ⟨rfl, rfl⟩ | h
    · rcases key n _ e2 with ⟨rfl, rfl⟩ | ⟨rfl, rfl⟩ | h2
      · rfl
      · rw [sj] at a1; rw [si] at a2; cases a1; cases a2; exact absurd rfl hpf
      · exact (old n y h2 q2).elim
    · rcases key n _ e2 with ⟨rfl, rfl⟩ | ⟨rfl, rfl⟩ | h2
      · rw [si] at a1; rw [sj] at a2; cases a1; cases a2; exact absurd rfl hpf
      · rfl
      · exact (old n y h2 q2).elim
    · exact (old m z h q1).elim
  · rcases key m _ e with ⟨_, h⟩ | ⟨_, h⟩ | h
    · subst h; cases w2
    · subst h; cases w1
    · exact s.raw m v h
theorem ss_vals {E N H N' H' : Hp} {σ : L2.St} {ds : Ss} (s : SS E N H σ ds) (hv : ∀ k ∈ ds, k.isOwn = false) (k : Same N N') : SS E N' H' σ ds :=
  ⟨s.len, fun i d e => let ⟨v, a, b⟩ := s.val i d e; ⟨v, a, b.mono k⟩, fun i z e o => (by rw [hv z (List.mem_of_getElem? e)] at o; cases o), fun i j z y p e _ o => (by rw [hv z (List.mem_of_getElem? e)] at o; cases o), s.raw⟩
theorem okk_forP {E Ni : Hp} {D : Ends} {ds : Ss} {wi : TI} {tb t : TS} {j : Nat} {items : List Dat} (hI : DeI wi (sv ds) items) (st : Nat → Ss) (h0 : st 0 = ds) (PX : Nat → Hp → Hp → L2.St → Prop) (hstep : ∀ i N H N' H' σ, PX i N H σ → Stp N H N' H' → PX i N' H' σ) (hset : ∀ i N H σ v, PX i N H σ → PX i N H (σ.set j (some v)))
    (hb : ∀ Nj i d, items[i]? = some d → ∀ N H σ, Wd E Nj N H → SS E N H σ ((st i).set j (.val d)) → PX i N H σ → tb { D with nx := fun σ H => ∃ N, Wd E Nj N H ∧ SS E N H σ (st (i + 1)) ∧ PX (i + 1) N H σ, ct := fun σ H => ∃ N, Wd E Nj N H ∧ SS E N H σ (st (i + 1)) ∧ PX (i + 1) N H σ, bk := t D } σ H)
    (k : ∀ N H σ, Wd E Ni N H → SS E N H σ (st items.length) → PX items.length N H σ → t D σ H) (N H : Hp) (σ : L2.St) (w : Wd E Ni N H) (s : SS E N H σ ds) (px : PX 0 N H σ) : tSeq (tFor wi (gName j) tb) t D σ H := hI σ N s.sl H w.nh _ fun J N1 H1 s1 wk => by
  have w1 := w.step s1
  refine ⟨fun i m σ' H' => m = items.length - i ∧ i ≤ items.length ∧ ∃ N', Wd E N1 N' H' ∧ SS E N' H' σ' (st i) ∧ PX i N' H' σ', ⟨items.length, by omega, Nat.zero_le _, N1, w1.re, by rw [h0]; exact s.step s1, hstep _ _ _ _ _ _ px s1⟩, ?_⟩
  rintro i m σ' H' ⟨rfl, hi, N', w', s', px'⟩
  by_cases hlt : i < items.length
  · refine .inr ⟨wk.go i H' hlt (w'.ni.trans w'.nh), fun σ H => ∃ N, Wd E N1 N H ∧ SS E N H σ (st (i + 1)) ∧ PX (i + 1) N H σ, fun σ2 H2 hN => ⟨items.length - (i + 1), by omega, rfl, hlt, hN⟩, fun x H3 hy => ?_⟩
    have hd := List.getElem?_eq_getElem hlt
    obtain ⟨N3, s3, rx⟩ := wk.yld i _ N' H' x H3 hd w'.ni w'.nh hy
    exact hb N1 i _ hd N3 H3 _ (w'.step s3) ((s'.step s3).set_val j rx) (hset _ _ _ _ _ (hstep _ _ _ _ _ _ px' s3))
  · have ei : i = items.length := by omega
    subst ei
    exact .inl ⟨wk.stop H' (w'.ni.trans w'.nh), k N' H' σ' (w1.trans w') s' px'⟩

def R_fours_in (as : List Dat) (r : Dat) : Prop := ∃ (d : Dat) (m : Nat) (es : List Nat), as = [d] ∧ Ns 2 d ∧ tupD d = lt m ∧ m < 2 ^ 24 ∧ popc m = 8 ∧ srt (rawE.map tN) = es.map lt ∧ (∀ e ∈ es, e < 2 ^ 24 ∧ popc e = 8) ∧ es.length ≤ 1000 ∧ es.Nodup ∧ (∀ kv ∈ grp m es, kv.2.length ≤ 50) ∧ r = .list (srt (Gd m es))

abbrev sp_fours_in : Sp := spD R_fours_in
abbrev N_fours_in : List Str := ["eight", "other", "own", "parts", "found", "half", "rows", "lamp"]
abbrev p_fours_in : List Str := ["eight"]
theorem sc_fours_in : FnScope N_fours_in p_fours_in (defScope (top 28)) := ⟨rfl, rfl, rfl, by decide +kernel, rfl, by decide +kernel, by decide +kernel⟩
def t_fours_in (K : PySem.W.Frag) (P : Program) (w : World) : TS := tSeq (tAsg (tTup (tCons (tCall sp_tupled [] E0 (tCons (tVar 0) (tNil))) (tCons (tDNewT) (tCons (tLst (tNil)) (tNil))))) (gTup K 3 (gCons (gName 2) (gCons (gName 3) (gCons (gName 4) (gNil)))))) (tSeq (tFor (iList K (tCall sp_all_eights [] E0 tNil)) (gName 1) (tSeq (tAsg (tCB (rTupS K) (tCons (tLc (iTup K (tVar 1)) (gName 7) (tTest (tOp (rIn K false) (tVar 7) (tVar 2))) (tVar 7) [7]) (tNil))) (gName 5)) (tIfS (tAnd (tTest (tOp (rEqD K) (tCB (rLenS K) (tCons (tVar 5) (tNil))) (tC (.int 4)))) (tTest (tOp (rEqD K) (tOp (rIx K) (tVar 5) (tC (.int 0))) (tOp (rIx K) (tVar 2) (tC (.int 0)))))) (tDrop (tBM K "list" rAppend (tBM K "dict" rSetDefT (tVar 3) (tCons (tVar 5) (tCons (tLst (tNil)) (tNil)))) (tCons (tCall sp_without [] E0 (tCons (tVar 1) (tCons (tVar 5) (tNil)))) (tNil)))) (tNext)))) (tSeq (tLock (tFor (iItemsT (tVar 3)) (gTup K 2 (gCons (gName 5) (gCons (gName 6) (gNil)))) (tDrop (tBM K "list" rAppend (tVar 4) (tCons (tCall sp_set_of [] E0 (tCons (tLst (tCons (tVar 5) (tCons (tCall sp_without [] E0 (tCons (tVar 2) (tCons (tVar 5) (tNil)))) (StX.tStar K (tVar 6) (tNil))))) (tNil))) (tNil)))))) (tRet (tCB (rSortD K) (tCons (tVar 4) (tNil))))))
theorem ps_fours_in {P : Program} {w : World} {K : PySem.W.Frag} {mg : Str → Option Value} {base : Heap} {f : Addr} (T : Tx K mg) (C_tupled : Cal P w K mg base 3 "tupled" p_tupled sp_tupled) (C_all_eights : Cal P w K mg base 6 "all_eights" p_all_eights sp_all_eights) (C_without : Cal P w K mg base 1 "without" p_without sp_without) (C_set_of : Cal P w K mg base 1 "set_of" p_set_of sp_set_of) (cdv : Value) (A : Around) (outer : List Env) (s : Shared) (H : Hp) (E : XK) (hr : Room 6 (A.deeper (envOfC "fours_in" (defScope (top 28)) s.heap.objs.size f cdv))) :
    PSs (cxOf CX0 P w K mg base N_fours_in "fours_in" (defScope (top 28)) f cdv A outer s H E).nox (defBody (top 28)) (t_fours_in K P w) := by
  have nd := sc_fours_in.nd
  have hu := hu_of hr
  unfold t_fours_in
  exact pss_cons (ps_asg (pe_tup (pa_cons (pe_cal C_tupled hr (pa_cons (pv 0) (pa_nil))) (pa_cons (pe_dnewT) (pa_cons (pe_lst (pa_nil)) (pa_nil))))) (pg_tup (by rfl) (pgs_cons (pg_name (i := 2) nd rfl (by first | exact Or.inl rfl | exact Or.inr rfl)) (pgs_cons (pg_name (i := 3) nd rfl (by first | exact Or.inl rfl | exact Or.inr rfl)) (pgs_cons (pg_name (i := 4) nd rfl (by first | exact Or.inl rfl | exact Or.inr rfl)) (pgs_nil)))))) (pss_cons (ps_for PassesOwn.never rfl (pi_list (pe_cal0 C_all_eights hr)) (pg_name (i := 1) nd rfl (by first | exact Or.inl rfl | exact Or.inr rfl)) (pss_cons (ps_set (i := 5) nd rfl (by first | exact Or.inl rfl | exact Or.inr rfl) (pe_ty T.tuple call_tuple_of (pa_cons (pe_lc (own := [("lamp", 7)]) (g := gName 7) (tt := tTest (tOp (rIn K false) (tVar 7) (tVar 2))) (te := tVar 7) rfl nd (pi_tup (pv 1)) (blkOk_by (N := N_fours_in) (sc := defScope (top 28)) (by decide +kernel)) (fun _ _ _ _ _ => pg_name (i := 7) nd rfl (by first | exact Or.inl rfl | exact Or.inr rfl)) (fun _ _ _ _ _ => pts_one (pt_cmpR op_in_seq (pv 7) (pv 2) (by rfl))) (fun _ _ _ _ _ => pv 7)) (pa_nil)))) (pss_one (ps_if (PW.pt (pw_and (pt_cmpR (op_eqD hr.units) (pe_bi T.len call_len_seq (pa_cons (pv 5) (pa_nil))) (pe_int) (nomark _)) (pw_and1 (pt_cmpR (op_eqD hr.units) (pe_ix ix_seq (pv 5) (pe_int) (fun _ _ => rfl)) (pe_ix ix_seq (pv 2) (pe_int) (fun _ _ => rfl)) (nomark _))))) (pss_one (ps_expr (pe_bm PySem.F.plainAttrs_list PySem.F.slot_list_append PySem.F.type_list_append mt_append (pe_bm PySem.F.plainAttrs_dict PySem.F.slot_dict_setdefault PySem.F.type_dict_setdefault (mt_setdefT hu) (pv 3) (pa_cons (pv 5) (pa_cons (pe_lst (pa_nil)) (pa_nil)))) (pa_cons (pe_cal C_without hr (pa_cons (pv 1) (pa_cons (pv 5) (pa_nil)))) (pa_nil))))) (pss_nil))))) (pss_cons (ps_lock (ps_for PassesOwn.never rfl (pi_itemsT (pv 3)) (pg_tup (by rfl) (pgs_cons (pg_name (i := 5) nd rfl (by first | exact Or.inl rfl | exact Or.inr rfl)) (pgs_cons (pg_name (i := 6) nd rfl (by first | exact Or.inl rfl | exact Or.inr rfl)) (pgs_nil)))) (pss_one (ps_expr (pe_bm PySem.F.plainAttrs_list PySem.F.slot_list_append PySem.F.type_list_append mt_append (pv 4) (pa_cons (pe_cal C_set_of hr (pa_cons (pe_lst (pa_cons (pv 5) (pa_cons (pe_cal C_without hr (pa_cons (pv 2) (pa_cons (pv 5) (pa_nil)))) (StX.pa_star (pv 6) (pa_nil))))) (pa_nil))) (pa_nil))))))) (pss_one (ps_ret (pe_bi T.sorted (cr_sortD hr.units) (pa_cons (pv 4) (pa_nil)))))))
theorem len_fours_in : ∀ as r, R_fours_in as r → as.length = p_fours_in.length := by rintro _ _ ⟨d, m, es, rfl, _⟩; rfl
theorem part_set {m : Nat} {es : List Nat} {kv : Nat × List Nat} (hm : m < 2 ^ 24) (hm8 : popc m = 8) (he : ∀ e ∈ es, e < 2 ^ 24 ∧ popc e = 8) (hn : es.Nodup) (h : kv ∈ grp m es) (hl : kv.2.length ≤ 50) : R_set_of [.list ((kv.1 :: (m ^^^ kv.1) :: kv.2).map lt)] (partD m kv) := by
  have hb := grp_bd hm hm8 he h
  obtain ⟨q1, q2, q3, q4⟩ := grp_prop h
  have b1 := hb kv.1 List.mem_cons_self
  have b2 := hb (m ^^^ kv.1) (List.mem_cons_of_mem _ List.mem_cons_self)
  have xz : ∀ a b : Nat, a ^^^ b = 0 → a = b := fun a b z => by
    have : (a ^^^ b) ^^^ b = 0 ^^^ b := by rw [z]
    rw [Nat.xor_assoc, Nat.xor_self, Nat.xor_zero, Nat.zero_xor] at this
    exact this
  -- the rows lie off the lot
  have off : ∀ x ∈ kv.2, x &&& m = 0 := fun x hx => by
    rw [q4] at hx
    obtain ⟨e, h1, rfl⟩ := List.mem_map.mp hx
    have h2 := (List.mem_filter.mp h1).2
    rw [Bool.and_eq_true, decide_eq_true_iff] at h2
    rw [← h2.2]
    apply Nat.eq_of_testBit_eq
    intro i
    rw [Nat.testBit_and, Nat.testBit_xor, Nat.testBit_and, Nat.zero_testBit]
    cases e.testBit i <;> cases m.testBit i <;> rfl
  refine set_lots (L := kv.1 :: (m ^^^ kv.1) :: kv.2) (M := kv.1 :: (m ^^^ kv.1) :: kv.2) (by simp only [List.length_cons]; omega) (fun x hx => (hb x hx).1) (fun x hx => (hb x hx).2) ?_ (fun _ => Iff.rfl)
  refine List.nodup_cons.mpr ⟨fun z => ?_, List.nodup_cons.mpr ⟨fun z => ?_, ?_⟩⟩
  · rcases List.mem_cons.mp z with z | z
    · have : kv.1 &&& kv.1 = 0 := by
        have e1 : kv.1 &&& (m ^^^ kv.1) = 0 := by
          rw [← q2]
          apply Nat.eq_of_testBit_eq
          intro i
          rw [Nat.testBit_and, Nat.testBit_xor, Nat.testBit_and, Nat.zero_testBit]
          cases kv.1.testBit i <;> cases m.testBit i <;> rfl
        rw [← z] at e1
        exact e1
      rw [Nat.and_self] at this
      exact b1.2 this
    · have := off _ z
      rw [q2] at this
      exact b1.2 this
  · have := off _ z
    have e1 : (m ^^^ kv.1) &&& m = m ^^^ kv.1 := by
      rw [← q2]
      apply Nat.eq_of_testBit_eq
      intro i
      rw [Nat.testBit_and, Nat.testBit_xor, Nat.testBit_and]
      cases kv.1.testBit i <;> cases m.testBit i <;> rfl
    rw [e1] at this
    exact b2.2 this
  · rw [q4]
    unfold rowsG List.Nodup
    rw [List.pairwise_map]
    refine (hn.filter _).imp fun {a b} hab z => hab ?_
    have : (a ^^^ kv.1) ^^^ kv.1 = (b ^^^ kv.1) ^^^ kv.1 := by rw [z]
    rw [Nat.xor_assoc, Nat.xor_assoc, Nat.xor_self, Nat.xor_zero, Nat.xor_zero] at this
    exact this
theorem ok_fours_in {P : Program} {w : World} {K : PySem.W.Frag} : ∀ as r, R_fours_in as r → ∀ (E0 Ni : Hp) (D : Ends), Rt E0 Ni r D.rt → Okk E0 Ni (t_fours_in K P w) D (s0 N_fours_in as) := by
  rintro _ _ ⟨d, m, es, rfl, hns, htd, hm, hm8, hes, he8, hl1000, hnd, hrow, rfl⟩ E0 Ni D hR
  have hmne := popc_ne (m := m) (by omega)
  have hm24 := popc_le m
  unfold popc at hm24
  have ha : (bitsL m)[0]? = some ((bitsL m).headD 0) := by
    cases e : bitsL m with
    | nil => exact absurd e hmne
    | cons x l => rfl
  intro N H σ wd s
  have hlen : σ.length = 8 := s.len
  let ds1 : Ss := [.val d, .no, .val (lt m), .no, .no, .no, .no, .no]
  have hv1 : ∀ k ∈ ds1, k.isOwn = false := by
    intro k hk
    simp only [ds1, List.mem_cons, List.not_mem_nil, or_false] at hk
    rcases hk with rfl | rfl | rfl | rfl | rfl | rfl | rfl | rfl <;> rfl
  -- own, parts, found = tupled(eight), {}, []
  refine de_call (z := lt m) (Rl := R_tupled 3) (dea_1 (de_var (d := d) rfl)) ⟨d, rfl, hns, htd.symm⟩ σ N s.sl H wd.nh _ fun v1 N1 H1 s1 r1 => fun p hp => ⟨Nat.zero_le _, fun f hf => ⟨show 3 ≤ sizeLine by decide, fun T hT => ⟨T, _, rfl, SqT.of upd_same, rfl, _, _, rfl, _, _, rfl, _, _, rfl, rfl, ?_⟩⟩⟩
  have sp := Stp.hid (o := HO.dT []) s1.nh hp
  have sf := sp.trans (Stp.hid (o := HO.lst []) sp.nh hf)
  have sT := sf.trans (Stp.hid (o := HO.tup [v1, .ref p, .ref f]) sf.nh hT)
  have hfp : f ≠ p := fun z => by rw [z, upd_same] at hf; cases hf
  have hTp : p ≠ T := fun z => by rw [← z, upd_ne (Ne.symm hfp), upd_same] at hT; cases hT
  have hTf : f ≠ T := fun z => by rw [← z, upd_same] at hT; cases hT
  have s0T := s1.trans sT
  have w1 := wd.step s0T
  have ss1 : SS E0 N1 (upd (upd (upd H1 p (HO.dT [])) f (HO.lst [])) T (.tup [v1, .ref p, .ref f])) (((σ.set 2 (some v1)).set 3 (some (.ref p))).set 4 (some (.ref f))) ds1 := by
    have a := (s.step s0T).set_val 2 r1
    have b := ((a.forget 3).forget 4)
    refine ⟨by rw [List.length_set, List.length_set, List.length_set, hlen]; rfl, fun i e q => ?_, fun i z e o => (by rw [hv1 z (List.mem_of_getElem? e)] at o; cases o), fun i j z y q e _ o => (by rw [hv1 z (List.mem_of_getElem? e)] at o; cases o), fun i v e => ?_⟩
    · obtain ⟨v, hv, rv⟩ := b.val i e q
      refine ⟨v, ?_, rv⟩
      have h3 : i ≠ 3 := fun z => by subst z; cases q
      have h4 : i ≠ 4 := fun z => by subst z; cases q
      rw [List.getElem?_set_ne (Ne.symm h4), List.getElem?_set_ne (Ne.symm h3)]
      exact hv
    · exfalso
      match i, e with
      | 0, e => cases e
      | 1, e => cases e
      | 2, e => cases e
      | 3, e => cases e
      | 4, e => cases e
      | 5, e => cases e
      | 6, e => cases e
      | 7, e => cases e
  have pl0 : PLs E0 N1 (upd (upd (upd H1 p (HO.dT [])) f (HO.lst [])) T (.tup [v1, .ref p, .ref f])) (((σ.set 2 (some v1)).set 3 (some (.ref p))).set 4 (some (.ref f))) [] p f [] :=
    ⟨by rw [List.getElem?_set_ne (by decide), List.getElem?_set_self (by rw [List.length_set, hlen]; decide)], by rw [List.getElem?_set_self (by rw [List.length_set, List.length_set, hlen]; decide)], same_none (wd.step s1).eh hp, same_none s1.nh hp,
      by rw [upd_ne hTp, upd_ne (Ne.symm hfp)]; exact upd_same, same_none (wd.step (s1.trans sp)).eh hf, same_none sp.nh hf, by rw [upd_ne hTf]; exact upd_same, .nil, .nil, by simp, .nil⟩
  dsimp only
  refine okk_forP (E := E0) (Ni := Ni) (j := 1) (items := es.map lt) (dei_list (de_call dea_nil ⟨rfl, by rw [hes]⟩)) (fun _ => ds1) rfl (fun i N H σ => ∃ ws, PLs E0 N H σ (grp m (es.take i)) p f ws) (fun i N H N' H' σ ⟨ws, h⟩ st => ⟨ws, h.step st⟩) (fun i N H σ v ⟨ws, h⟩ => ⟨ws, h.set 1 (by decide) (by decide) _⟩) (fun Nj i z hz N2 H2 σ2 w2 s2 ⟨ws, pl⟩ => ?_) (fun N2 H2 σ2 w2 s2 ⟨ws, pl⟩ => ?_) _ _ _ w1 ss1 ⟨[], pl0⟩
  · obtain ⟨e, he, rfl⟩ := get_map hz
    have hem : e ∈ es := List.mem_of_getElem? he
    have he24 := (he8 e hem).1
    have he25 := popc_le e
    unfold popc at he25
    have hh24 : e &&& m < 2 ^ 24 := Nat.lt_of_le_of_lt Nat.and_le_left he24
    -- half
    refine (de_tupS (K := K) (DeN.de (den_filter (bitsL e) (dei_tup (xs := (bitsL e).map nI) (de_var rfl)) (by omega) (by decide) (fun i => decide (i ∈ bitsL m)) nI (fun i hi => deb_test (de_isIn (y := lt m) (de_var (d := nI i) rfl) (de_var rfl) (.inr rfl))) fun i hi _ => de_var rfl)) (.inl rfl)) σ2 N2 s2.sl H2 w2.nh _ fun v3 N3 H3 s3 r3 => ?_
    rw [bitsL_and] at r3
    have w3 := w2.step s3
    have ss3 := (s2.step s3).set_val 5 (d := lt (e &&& m)) r3
    have pl3 := (pl.step s3).set 5 (by decide) (by decide) (some v3)
    have h4l : (bitsL (e &&& m)).length ≤ 24 := popc_le _
    refine (deb_and (a := decide (popc (e &&& m) = 4)) (b := decide ((bitsL (e &&& m)).headD 0 = (bitsL m).headD 0)) (deb_test ((de_eqI (de_len (K := K) (x := lt (e &&& m)) (de_var rfl) (.inr rfl)) (de_n 4)).to (by rw [List.length_map]; rfl))) fun h4 => ?_) _ N3 ss3.sl H3 w3.nh _ fun N4 H4 s4 => ?_
    · have h4 := of_decide_eq_true h4
      have hq : (bitsL (e &&& m))[0]? = some ((bitsL (e &&& m)).headD 0) := by
        cases z : bitsL (e &&& m) with
        | nil => unfold popc at h4; rw [z] at h4; cases h4
        | cons x l => rfl
      exact deb_test (de_eqI (de_ix (x := lt (e &&& m)) (j := 0) (de_var rfl) (de_n 0) (.inr rfl) (by rw [List.getElem?_map, hq]; rfl)) (de_ix (x := lt m) (j := 0) (de_var rfl) (de_n 0) (.inr rfl) (by rw [List.getElem?_map, ha]; rfl)))
    · have w4 := w3.step s4
      have ss4 := ss3.step s4
      have pl4 := pl3.step s4
      have hgl := grp_len m (es.take i)
      have htl := List.length_take_le' i es
      have sel : (decide (popc (e &&& m) = 4) && decide ((bitsL (e &&& m)).headD 0 = (bitsL m).headD 0)) = selE m e := rfl
      rw [sel]
      cases hs : selE m e with
      | true =>
        refine pl_append (h := e &&& m) (x := e ^^^ (e &&& m)) w4 pl4 (fun kv hk => ?_) hh24 (by omega) ss4.sl (de_var rfl) ((de_call (dea_2 (de_var (d := lt e) rfl) (de_var (d := lt (e &&& m)) rfl)) ⟨e, e &&& m, rfl, rfl⟩).to (by rw [← Nat.and_assoc, Nat.and_self])) fun v N5 H5 ws5 w5 k5 pl5 => ?_
        · obtain ⟨q1, q2, q3, q4⟩ := grp_prop hk
          exact ⟨by rw [← q2]; exact Nat.lt_of_le_of_lt Nat.and_le_right hm, by omega⟩
        · refine ⟨N5, w5, ss_vals ((ss4.forget 1).forget 5) hv1 k5, ws5, ?_⟩
          rw [grp_take m he]
          unfold grpS
          rw [hs]
          exact pl5
      | false =>
        refine ⟨N4, w4, (ss4.forget 1).forget 5, ws, ?_⟩
        rw [grp_take m he]
        unfold grpS
        rw [hs]
        exact pl4
  · rw [List.length_map, List.take_length] at pl
    have hpf : p ≠ f := Ne.symm hfp
    obtain ⟨N3, k1, k2, k3, rt⟩ := pl_learn pl.pc pl.nv N2 (Same.refl _) w2.nh (fun q hq => by
      obtain ⟨w', hw', e⟩ := List.mem_map.mp hq
      obtain ⟨kv0, _, _, q0, us0, e2, _, e4, _⟩ := pc_mem pl.pc hw'
      rw [e2] at e
      cases e
      exact e4)
    have eq0 : ∀ q, V.ref q ∈ ws.map (·.2) → E0 q = none := fun q hq => by
      obtain ⟨w', hw', e⟩ := List.mem_map.mp hq
      obtain ⟨kv0, _, _, q0, us0, e2, e3, _⟩ := pc_mem pl.pc hw'
      rw [e2] at e
      cases e
      exact e3
    have w3 : Wd E0 Ni N3 H2 := ⟨w2.ni.trans k1, w2.eh, k2, fun x h1 h2 => k3 x (w2.fr x h1 h2) (fun z => h1.1 (eq0 x z))⟩
    have pnot : V.ref p ∉ ws.map (·.2) := fun hq => by
      obtain ⟨w', hw', e⟩ := List.mem_map.mp hq
      obtain ⟨kv0, _, _, q0, us0, e2, _, _, e3, _⟩ := pc_mem pl.pc hw'
      rw [e2] at e
      cases e
      rw [pl.hp] at e3
      cases e3
    have ss3 := ss_own2 (ss_vals s2 hv1 k1 (H' := H2)) hv1 (i := 3) (j := 4) (k1 := .ownT ((grp m es).map kvT)) (k2 := .own []) (by decide) (by show 3 < 8; decide) (by show 4 < 8; decide) hpf pl.s3 pl.s4 pl.ep (k3 p pl.np pnot) pl.ef (k3 f pl.nf pl.fv) ⟨ws, pl.hp, rt⟩ ⟨[], pl.hf, .nil⟩ rfl rfl
    refine okk_items (ds := [.val d, .no, .val (lt m), .ownT ((grp m es).map kvT), .own [], .no, .no, .no]) (kvs := (grp m es).map kvT) (i := 3) (j := 5) (l := 6) rfl (fun p n => [.val d, .no, .val (lt m), .raw (.ref p), .own (((grp m es).take n).map (partD m)), .no, .no, .no]) (fun p => rfl) (fun E' Nj p D' n kv' hkv hnx => ?_) (fun p => ?_) N3 H2 σ2 w3 ss3
    · have hgl := grp_len m es
      rw [List.getElem?_map] at hkv
      cases hk : (grp m es)[n]? with
      | none => rw [hk] at hkv; cases hkv
      | some kv =>
        rw [hk] at hkv
        have hkv := (Option.some.inj hkv).symm
        subst hkv
        have hkm := List.mem_of_getElem? hk
        obtain ⟨q1, q2, q3, q4⟩ := grp_prop hkm
        have hset := part_set hm hm8 he8 hnd hkm (hrow kv hkm)
        have hrl := hrow kv hkm
        rw [show tI (kvT kv).1 = lt kv.1 from tI_keyI kv.1, show (kvT kv).2 = PyData.list (kv.2.map lt) from rfl]
        refine okk_appN (xs := ((grp m es).take n).map (partD m)) (d := partD m kv) [5, 6] rfl (de_call (dea_1 (x := .list ((kv.1 :: (m ^^^ kv.1) :: kv.2).map lt)) ((DeN.de (den_lst (dea_cons (x := lt kv.1) (de_var rfl) (dea_cons (de_call (z := lt (m ^^^ (m &&& kv.1))) (dea_2 (de_var (d := lt m) rfl) (de_var (d := lt kv.1) rfl)) ⟨m, kv.1, rfl, rfl⟩) (dea_starL (xs := kv.2.map lt) (de_var rfl) dea_nil))) ?_)).to ?_)) hset) ?_ ?_ (hn := fun _ _ z => by rw [hnx]; exact z)
        · rw [List.append_nil]; simp only [List.length_cons, List.length_map]; omega
        · rw [List.append_nil, Nat.and_comm, q2]; rfl
        · rw [List.length_map]
          have := List.length_take_le' n (grp m es)
          omega
        · show _ = [Sk.val d, .no, .val (lt m), .raw (.ref p), .own (((grp m es).take (n + 1)).map (partD m)), .no, .no, .no]
          rw [List.take_succ, hk, List.map_append]
          rfl
    · rw [List.length_map, List.take_length]
      refine okk_freeze (j := 4) rfl ?_
      refine okk_ret (DeN.de (den_sortT (n := 2) (xs := Gd m es) (de_var rfl) (.inl rfl) (by decide) (fun d hd => ?_) (.inl (.inl fun d hd => ?_)))) hR
      · obtain ⟨a, _, rfl⟩ := List.mem_map.mp hd
        exact lv_part m a
      · obtain ⟨a, _, rfl⟩ := List.mem_map.mp hd
        exact part_cons m a

theorem cal_fours_in {P : Program} {w : World} {K : PySem.W.Frag} {mg : Str → Option Value} {base : Heap} {f : Addr} {fd : FuncData} (T : Tx K mg) (C_tupled : Cal P w K mg base 3 "tupled" p_tupled sp_tupled) (C_all_eights : Cal P w K mg base 6 "all_eights" p_all_eights sp_all_eights) (C_without : Cal P w K mg base 1 "without" p_without sp_without) (C_set_of : Cal P w K mg base 1 "set_of" p_set_of sp_set_of) (F : FnP K "fours_in" (top 28) f fd) (hm : mg "fours_in" = some (.ref f)) : Cal P w K mg base 7 "fours_in" p_fours_in sp_fours_in :=
  cal_of F hm (FunD.bindsN F fun _ _ _ _ _ _ us hl => match us, hl with | [_], _ => rfl) (fn_data F sc_fours_in (len_fours_in) fun cdv A outer s H E hr => ⟨_, ps_fours_in T C_tupled C_all_eights C_without C_set_of cdv A outer s H E hr, ok_fours_in⟩)

end Ez

set_option Elab.async false
set_option linter.all false
set_option autoImplicit false
set_option maxRecDepth 100000
set_option maxHeartbeats 2000000
namespace Ez
open PySem PySem.Spec L2 Fz PyProof.Rows

/-! the law -/
/-- a sextet in some order -/
def SX (ms : List Nat) : Prop := ∃ m, m < 2 ^ 24 ∧ popc m = 4 ∧ ms.Perm (sxM m)
/-- what the walk asks of the geometry -/
structure Geo : Prop where
  tal : ∀ z, z < 2 ^ 24 → talN z = popc z
  e8 : ∀ e ∈ E8, popc e = 8
  right8 : ∀ e ∈ E8, rightOK e = true
  ne8 : E8 ≠ []
  six : ∀ ms, SX ms → Six ms
  two : ∀ ms, SX ms → ms.Pairwise fun a b => a ||| b ∈ E8
  pairs : ∀ ms, SX ms → (pairsM ms).Nodup ∧ (pairsM ms).length ≤ 60
  num : ∀ ms ns, SX ms → SX ns → numM ms ns ∈ [[0, 4], [0, 2], [0, 1, 3], [0, 1, 2]]
  fr : ([51, 204, 13056, 52224, 3342336, 13369344] : List Nat).Perm (sxM 51)
  es : ∃ es, srt (rawE.map tN) = es.map lt ∧ es.Perm E8 ∧ es.length ≤ 1000 ∧ es.Nodup ∧ ∀ m, m < 2 ^ 24 → popc m = 8 → ∀ kv ∈ grp m es, kv.2.length ≤ 50
theorem sx_of {m : Nat} (h : m < 2 ^ 24) (h4 : popc m = 4) : ∃ ms, PyData.tuple (srt ((sxM m).map lt)) = .tuple (ms.map lt) ∧ SX ms := by
  obtain ⟨ms, hp, e⟩ := perm_map_inv lt (sxM m) _ (srt_perm ((sxM m).map lt))
  exact ⟨ms, by rw [e], m, h, h4, hp⟩
theorem once (l : List Nat) : ∃ M : List Nat, M.Nodup ∧ M.length ≤ l.length ∧ ∀ x, x ∈ M ↔ x ∈ l := by
  induction l with
  | nil => exact ⟨[], .nil, Nat.le_refl _, fun _ => Iff.rfl⟩
  | cons a l ih =>
    obtain ⟨M, h1, h3, h2⟩ := ih
    by_cases h : a ∈ M
    · exact ⟨M, h1, Nat.le_succ_of_le h3, fun x => by
        rw [List.mem_cons, ← h2]
        exact ⟨.inr, fun z => z.elim (fun e => by rw [e]; exact h) id⟩⟩
    · exact ⟨a :: M, List.nodup_cons.mpr ⟨h, h1⟩, Nat.succ_le_succ h3, fun x => by rw [List.mem_cons, List.mem_cons, h2]⟩
theorem Ns.up : ∀ {n : Nat} {d : Dat}, Ns n d → Ns (n + 1) d
  | 0, _, ⟨i, h⟩ => .inl ⟨i, h⟩
  | n + 1, _, .inl h => .inl h
  | n + 1, _, .inr ⟨xs, h1, h2, h3⟩ => .inr ⟨xs, h1, h2, fun x hx => (h3 x hx).up⟩
theorem ns_nI (n : Nat) : Ns 0 (nI n) := ⟨_, rfl⟩
theorem ns_tup {n : Nat} {xs : List Dat} (h : xs.length ≤ 100000) (hx : ∀ x ∈ xs, Ns n x) : Ns (n + 1) (.tuple xs) := .inr ⟨xs, .inr rfl, h, hx⟩
theorem ns_lst {n : Nat} {xs : List Dat} (h : xs.length ≤ 100000) (hx : ∀ x ∈ xs, Ns n x) : Ns (n + 1) (.list xs) := .inr ⟨xs, .inl rfl, h, hx⟩
theorem ns_nIs {l : List Nat} : ∀ x ∈ l.map nI, Ns 0 x := fun x hx => by obtain ⟨n, _, rfl⟩ := List.mem_map.mp hx; exact ns_nI n
theorem ns_tN {l : List Nat} (h : l.length ≤ 100000) : Ns 1 (tN l) := ns_tup (by rw [List.length_map]; exact h) ns_nIs
theorem ns_tab {ms ns : List Nat} (h : ms.length ≤ 1000) (h2 : ns.length ≤ 1000) : Ns 2 (tabM ms ns) := ns_tup (by rw [List.length_map]; omega) fun x hx => by
  obtain ⟨m, _, rfl⟩ := List.mem_map.mp hx
  exact ns_tup (by rw [List.length_map]; omega) fun y hy => by obtain ⟨n, _, rfl⟩ := List.mem_map.mp hy; exact ns_nI _
theorem ns_lots {l : List Nat} (h : l.length ≤ 1000) : Ns 2 (.tuple (srt (l.map lt))) := ns_tup (by rw [srt_length, List.length_map]; omega) fun x hx => by
  obtain ⟨m, _, rfl⟩ := List.mem_map.mp ((srt_perm _).mem_iff.mp hx)
  exact ns_lt m
theorem lisD_lots (ms : List Nat) : lisD (.tuple (ms.map lt)) = .list (ms.map fun m => lN (bitsL m)) := by
  rw [lisD, lisDA_map, List.map_map]
  congr 1
  refine List.map_congr_left fun m _ => ?_
  show lisD (.tuple ((bitsL m).map nI)) = _
  rw [lisD, lisDA_map, List.map_map]
  rfl
/-- a, b, c = x, y, z -/
theorem okk_par3 {E Ni : Hp} {D : Ends} {ds : Ss} {t : TS} {t1 t2 t3 : TE} {d1 d2 d3 : Dat} {i j l : Nat} (h1 : De t1 (sv ds) d1) (h2 : De t2 (sv ds) d2) (h3 : De t3 (sv ds) d3) (k : Okk E Ni t D (((ds.set i (.val d1)).set j (.val d2)).set l (.val d3))) :
    Okk E Ni (tSeq (tPar3 i j l (tCons t1 (tCons t2 (tCons t3 tNil)))) t) D ds := fun N H σ w s =>
  h1 σ N s.sl H w.nh _ fun v1 N1 H1 s1 r1 => h2 σ N1 (s.sl.mono s1.nn) H1 s1.nh _ fun v2 N2 H2 s2 r2 => h3 σ N2 (s.sl.mono (s1.nn.trans s2.nn)) H2 s2.nh _ fun v3 N3 H3 s3 r3 =>
    ⟨v1, v2, v3, rfl, k N3 H3 _ (w.step ((s1.trans s2).trans s3)) ((((s.step ((s1.trans s2).trans s3)).set_val i (r1.mono (s2.nn.trans s3.nn))).set_val j (r2.mono s3.nn)).set_val l r3)⟩
theorem dr_notInT {K : PySem.W.Frag} {x : Dat} {ds : List Dat} (hx : SeqAt.shaped x = true) (hs : SeqAt.shaped (.tuple ds) = true) : DR (rNotInT K) x (.tuple ds) (.bool (!ds.any fun z => PyData.eqv z x)) := fun N v w hv hw H k Q q =>
  ⟨x, ds, (hv.mono k).dp (nod_sh hx), (hw.mono k).dp (nod_sh hs), hx, hs, q _ N H (Stp.refl k) (.bl _)⟩
theorem popc_comm (a b : Nat) : popc (a &&& b) = popc (b &&& a) := by rw [Nat.and_comm]
theorem popc_and_le (a b : Nat) : popc (a &&& b) ≤ popc b := by
  unfold popc
  rw [Nat.and_comm, ← bitsL_and]
  exact List.length_filter_le _ _
theorem numM_mem {ms ns : List Nat} (h : ∀ m ∈ ms, popc m ≤ 8) (i : Nat) : i ∈ numM ms ns ↔ ∃ a ∈ ns, ∃ b ∈ ms, popc (b &&& a) = i := by
  unfold numM
  rw [List.mem_filter, List.mem_range, List.any_eq_true]
  constructor
  · rintro ⟨_, m, hm, hi⟩
    obtain ⟨z, hz, e⟩ := List.mem_map.mp (of_decide_eq_true hi)
    exact ⟨z, hz, m, hm, by rw [popc_comm]; exact e⟩
  · rintro ⟨a, ha, b, hb, rfl⟩
    have h1 := popc_and_le a b
    rw [popc_comm] at h1
    have := h b hb
    exact ⟨by omega, b, hb, decide_eq_true (List.mem_map.mpr ⟨a, ha, popc_comm a b⟩)⟩
theorem numM_asc (ms ns : List Nat) : (numM ms ns).Pairwise (· < ·) := List.Pairwise.filter _ List.pairwise_lt_range
theorem refM_comm (ms ns : List Nat) (x : Nat) : x ∈ refM ms ns ↔ x ∈ refM ns ms := by
  have : ∀ ms ns : List Nat, x ∈ refM ms ns → x ∈ refM ns ms := fun ms ns h => by
    simp only [refM, List.mem_flatMap, List.mem_map] at h ⊢
    obtain ⟨a, ha, b, hb, rfl⟩ := h
    exact ⟨b, hb, a, ha, Nat.and_comm b a⟩
  exact ⟨this ms ns, this ns ms⟩
theorem Six.le {ms : List Nat} (h : Six ms) : ms.length ≤ 6 := Nat.le_of_eq h.len
theorem Six.ne {ms : List Nat} (h : Six ms) : ∀ m ∈ ms, m ≠ 0 := fun m hm z => by
  have := (h.bd m hm).2
  rw [z] at this
  exact absurd this (by decide +kernel)
/-- the 15 unions, in the law's order -/
def manyM (ms : List Nat) (k : Nat) : List Nat := (List.range k).flatMap fun k => (List.range k).map fun j => ms.getD j 0 ||| ms.getD k 0
theorem manyM_succ (ms : List Nat) (k : Nat) : manyM ms (k + 1) = manyM ms k ++ (List.range k).map fun j => ms.getD j 0 ||| ms.getD k 0 := by
  unfold manyM
  rw [List.range_succ, List.flatMap_append, List.flatMap_cons, List.flatMap_nil, List.append_nil]
theorem dx_fours {p : Addr} {ds : Sd} {te : TE} {k : Nat} (G : Geo) (h1 : ds[1]? = some (some boardD)) (h : DX p te ds k Four) : DX p (tCall sp__law_fours_by [] L2.E0 (tCons (tVar 1) (tCons te tNil))) ds k (fun d => ∃ ms, d = .tuple (ms.map lt) ∧ SX ms) := by
  refine (dx_callP (dxa_cons (dx_of (de_var h1)) (dxa_1 h)) ?_).le (by omega)
  rintro _ ⟨_, _, rfl, rfl, _, _, rfl, ⟨m, rfl, hm, h4⟩, rfl⟩
  obtain ⟨ms, e, hs⟩ := sx_of hm h4
  have s6 := G.six (sxM m) ⟨m, hm, h4, .refl _⟩
  exact ⟨_, ⟨m, rfl, hm, fun x hx => ⟨(s6.bd x hx).1, s6.ne x hx⟩, rfl⟩, ms, e, hs⟩

def R__law_front_right (as : List Dat) (r : Dat) : Prop := as = [boardD] ∧ Geo ∧ r = .bool true

abbrev sp__law_front_right : Sp := spD R__law_front_right
abbrev N__law_front_right : List Str := ["_law_board_so", "_law_columns_so", "_law_own_so", "_law_got", "_law_due", "_law_k", "_law_row_so"]
abbrev p__law_front_right : List Str := ["_law_board_so"]
theorem sc__law_front_right : FnScope N__law_front_right p__law_front_right (defScope (top 62)) := ⟨rfl, rfl, rfl, by decide +kernel, rfl, by decide +kernel, by decide +kernel⟩
def t__law_front_right (K : PySem.W.Frag) (P : Program) (w : World) : TS := tSeq (tAsg (tCB (rTupS K) (tCons (tLc (iRng1 (tCons (tC (.int 6)) (tNil))) (gName 5) (tYes) (tTupRg (tRg2 (tOp rMul (tC (.int 4)) (tVar 5)) (tOp rAdd (tOp rMul (tC (.int 4)) (tVar 5)) (tC (.int 4))))) [5]) (tNil))) (gName 1)) (tSeq (tAsg (tCall sp__law_fours_by [] E0 (tCons (tVar 0) (tCons (tTup (tCons (tC (.int 0)) (tCons (tC (.int 1)) (tCons (tC (.int 4)) (tCons (tC (.int 5)) (tNil)))))) (tNil)))) (gName 2)) (tSeq (tAsg (tLst (tCons (tCall sp_shared [] E0 (tCons (tVar 1) (tCons (tTup (tCons (tC (.int 0)) (tCons (tC (.int 1)) (tCons (tC (.int 4)) (tCons (tC (.int 23)) (tNil)))))) (tNil)))) (tCons (tCall sp_shared [] E0 (tCons (tVar 1) (tCons (tTupRg (tRg1 (tC (.int 24)))) (tNil)))) (tCons (tOp (rIx K) (tCall sp_shared_table [] E0 (tCons (tVar 1) (tCons (tVar 1) (tNil)))) (tC (.int 2))) (tCons (tCall sp_meeting [] E0 (tCons (tVar 1) (tCons (tVar 1) (tNil)))) (tNil)))))) (gName 3)) (tSeq (tAsg (tLst (tCons (tTup (tCons (tC (.int 2)) (tCons (tC (.int 1)) (tCons (tC (.int 0)) (tCons (tC (.int 0)) (tCons (tC (.int 0)) (tCons (tC (.int 1)) (tNil)))))))) (tCons (tOp (rRepT K) (tTup (tCons (tC (.int 4)) (tNil))) (tC (.int 6))) (tCons (tTup (tCons (tC (.int 0)) (tCons (tC (.int 0)) (tCons (tC (.int 4)) (tCons (tC (.int 0)) (tCons (tC (.int 0)) (tCons (tC (.int 0)) (tNil)))))))) (tCons (tTup (tCons (tC (.int 0)) (tCons (tC (.int 4)) (tNil)))) (tNil)))))) (gName 4)) (tSeq (tAsg (tOp rCat (tVar 3) (tLst (tCons (tCall sp_refined [] E0 (tCons (tVar 1) (tCons (tVar 1) (tNil)))) (tCons (tSl (rSlA K) (tCall sp_eights_of_fours [] E0 (tCons (tVar 1) (tNil))) (tNoPart) (tPart (tC (.int 2)))) (tCons (tOp (rIx K) (tCall sp_eights_of_fours [] E0 (tCons (tVar 1) (tNil))) (tUn rNeg (tC (.int 1)))) (tCons (tCB (rLenS K) (tCons (tCall sp_eights_of_fours [] E0 (tCons (tVar 1) (tNil))) (tNil))) (tNil))))))) (gName 3)) (tSeq (tAsg (tOp rCat (tVar 4) (tLst (tCons (tVar 1) (tCons (tTup (tCons (tTupRg (tRg1 (tC (.int 8)))) (tCons (tTup (tCons (tC (.int 0)) (tCons (tC (.int 1)) (tCons (tC (.int 2)) (tCons (tC (.int 3)) (tCons (tC (.int 8)) (tCons (tC (.int 9)) (tCons (tC (.int 10)) (tCons (tC (.int 11)) (tNil)))))))))) (tNil)))) (tCons (tTupRg (tRg2 (tC (.int 16)) (tC (.int 24)))) (tCons (tOp rAdd (tOp rAdd (tOp rAdd (tOp rAdd (tC (.int 5)) (tC (.int 4))) (tC (.int 3))) (tC (.int 2))) (tC (.int 1))) (tNil))))))) (gName 4)) (tSeq (tAsg (tOp rCat (tVar 3) (tLst (tCons (tCall sp_meeting [] E0 (tCons (tVar 2) (tCons (tVar 1) (tNil)))) (tCons (tLc (iTup K (tCallK sp_shared_table kw0 E0 tNil (tCons (tVar 2) (tCons (tVar 1) (tNil))))) (gName 6) (tYes) (tCB (rSortD K) (tCons (tVar 6) (tNil))) [6]) (tCons (tOp (rIx K) (tCall sp_refined [] E0 (tCons (tVar 2) (tCons (tVar 1) (tNil)))) (tC (.int 0))) (tNil)))))) (gName 3)) (tRet (tCall sp__law_same [] E0 (tCons (tVar 3) (tCons (tOp rCat (tVar 4) (tLst (tCons (tTup (tCons (tC (.int 0)) (tCons (tC (.int 2)) (tNil)))) (tCons (tOp rRep (tLst (tCons (tLst (tCons (tC (.int 0)) (tCons (tC (.int 0)) (tCons (tC (.int 0)) (tCons (tC (.int 0)) (tCons (tC (.int 2)) (tCons (tC (.int 2)) (tNil)))))))) (tNil))) (tC (.int 6))) (tCons (tTup (tCons (tC (.int 0)) (tCons (tC (.int 1)) (tNil)))) (tNil)))))) (tNil)))))))))))
theorem ps__law_front_right {P : Program} {w : World} {K : PySem.W.Frag} {mg : Str → Option Value} {base : Heap} {f : Addr} (T : Tx K mg) (C__law_fours_by : Cal P w K mg base 3 "_law_fours_by" p__law_fours_by sp__law_fours_by) (C_meeting : Cal P w K mg base 5 "meeting" p_meeting sp_meeting) (C_shared_table : Cal P w K mg base 4 "shared_table" p_shared_table sp_shared_table) (C_shared : Cal P w K mg base 4 "shared" p_shared sp_shared) (C_eights_of_fours : Cal P w K mg base 4 "eights_of_fours" p_eights_of_fours sp_eights_of_fours) (C_refined : Cal P w K mg base 4 "refined" p_refined sp_refined) (C__law_same : Cal P w K mg base 5 "_law_same" p__law_same sp__law_same) (CK_shared_table : CalK P w K mg base 4 "shared_table" p_shared_table ["one", "other"] sp_shared_table) (cdv : Value) (A : Around) (outer : List Env) (s : Shared) (H : Hp) (E : XK) (hr : Room 5 (A.deeper (envOfC "_law_front_right" (defScope (top 62)) s.heap.objs.size f cdv))) :
    PSs (cxOf CX0 P w K mg base N__law_front_right "_law_front_right" (defScope (top 62)) f cdv A outer s H E).nox (defBody (top 62)) (t__law_front_right K P w) := by
  have nd := sc__law_front_right.nd
  have hu := hu_of hr
  unfold t__law_front_right
  exact pss_cons (ps_set (i := 1) nd rfl (by first | exact Or.inl rfl | exact Or.inr rfl) (pe_ty T.tuple call_tuple_of (pa_cons (pe_lc (own := [("_law_k", 5)]) (g := gName 5) (tt := tYes) (te := tTupRg (tRg2 (tOp rMul (tC (.int 4)) (tVar 5)) (tOp rAdd (tOp rMul (tC (.int 4)) (tVar 5)) (tC (.int 4))))) rfl nd (pi_range1 rfl T.range (pa_cons (pe_int) (pa_nil))) (blkOk_by (N := N__law_front_right) (sc := defScope (top 62)) (by decide +kernel)) (fun _ _ _ _ _ => pg_name (i := 5) nd rfl (by first | exact Or.inl rfl | exact Or.inr rfl)) (fun _ _ _ _ _ => pts_nil) (fun _ _ _ _ _ => pe_tupRg rfl rfl T.tuple (prg_2 rfl T.range (pe_op op_mulW (pe_int) (pv 5)) (pe_op op_add (pe_op op_mulW (pe_int) (pv 5)) (pe_int))))) (pa_nil)))) (pss_cons (ps_set (i := 2) nd rfl (by first | exact Or.inl rfl | exact Or.inr rfl) (pe_cal C__law_fours_by hr (pa_cons (pv 0) (pa_cons (pe_tup (pa_cons (pe_int) (pa_cons (pe_int) (pa_cons (pe_int) (pa_cons (pe_int) (pa_nil)))))) (pa_nil))))) (pss_cons (ps_set (i := 3) nd rfl (by first | exact Or.inl rfl | exact Or.inr rfl) (pe_lst (pa_cons (pe_cal C_shared hr (pa_cons (pv 1) (pa_cons (pe_tup (pa_cons (pe_int) (pa_cons (pe_int) (pa_cons (pe_int) (pa_cons (pe_int) (pa_nil)))))) (pa_nil)))) (pa_cons (pe_cal C_shared hr (pa_cons (pv 1) (pa_cons (pe_tupRg rfl rfl T.tuple (prg_1 rfl T.range (pe_int))) (pa_nil)))) (pa_cons (pe_ix ix_seq (pe_cal C_shared_table hr (pa_cons (pv 1) (pa_cons (pv 1) (pa_nil)))) (pe_int) (fun _ _ => rfl)) (pa_cons (pe_cal C_meeting hr (pa_cons (pv 1) (pa_cons (pv 1) (pa_nil)))) (pa_nil))))))) (pss_cons (ps_set (i := 4) nd rfl (by first | exact Or.inl rfl | exact Or.inr rfl) (pe_lst (pa_cons (pe_tup (pa_cons (pe_int) (pa_cons (pe_int) (pa_cons (pe_int) (pa_cons (pe_int) (pa_cons (pe_int) (pa_cons (pe_int) (pa_nil)))))))) (pa_cons (pe_op op_repT (pe_tup (pa_cons (pe_int) (pa_nil))) (pe_int)) (pa_cons (pe_tup (pa_cons (pe_int) (pa_cons (pe_int) (pa_cons (pe_int) (pa_cons (pe_int) (pa_cons (pe_int) (pa_cons (pe_int) (pa_nil)))))))) (pa_cons (pe_tup (pa_cons (pe_int) (pa_cons (pe_int) (pa_nil)))) (pa_nil))))))) (pss_cons (ps_set (i := 3) nd rfl (by first | exact Or.inl rfl | exact Or.inr rfl) (pe_op op_cat (pv 3) (pe_lst (pa_cons (pe_cal C_refined hr (pa_cons (pv 1) (pa_cons (pv 1) (pa_nil)))) (pa_cons (pe_slice sl_tupA (pe_cal C_eights_of_fours hr (pa_cons (pv 1) (pa_nil))) (po_none) (po_some (pe_int))) (pa_cons (pe_ix ix_seq (pe_cal C_eights_of_fours hr (pa_cons (pv 1) (pa_nil))) (pe_un un_neg (pe_int)) (fun _ _ => rfl)) (pa_cons (pe_bi T.len call_len_seq (pa_cons (pe_cal C_eights_of_fours hr (pa_cons (pv 1) (pa_nil))) (pa_nil))) (pa_nil)))))))) (pss_cons (ps_set (i := 4) nd rfl (by first | exact Or.inl rfl | exact Or.inr rfl) (pe_op op_cat (pv 4) (pe_lst (pa_cons (pv 1) (pa_cons (pe_tup (pa_cons (pe_tupRg rfl rfl T.tuple (prg_1 rfl T.range (pe_int))) (pa_cons (pe_tup (pa_cons (pe_int) (pa_cons (pe_int) (pa_cons (pe_int) (pa_cons (pe_int) (pa_cons (pe_int) (pa_cons (pe_int) (pa_cons (pe_int) (pa_cons (pe_int) (pa_nil)))))))))) (pa_nil)))) (pa_cons (pe_tupRg rfl rfl T.tuple (prg_2 rfl T.range (pe_int) (pe_int))) (pa_cons (pe_op op_add (pe_op op_add (pe_op op_add (pe_op op_add (pe_int) (pe_int)) (pe_int)) (pe_int)) (pe_int)) (pa_nil)))))))) (pss_cons (ps_set (i := 3) nd rfl (by first | exact Or.inl rfl | exact Or.inr rfl) (pe_op op_cat (pv 3) (pe_lst (pa_cons (pe_cal C_meeting hr (pa_cons (pv 2) (pa_cons (pv 1) (pa_nil)))) (pa_cons (pe_lc (own := [("_law_row_so", 6)]) (g := gName 6) (tt := tYes) (te := tCB (rSortD K) (tCons (tVar 6) (tNil))) rfl nd (pi_tup (pe_calK CK_shared_table hr (pk_cons (pv 2) (pk_cons (pv 1) (pk_nil))))) (blkOk_by (N := N__law_front_right) (sc := defScope (top 62)) (by decide +kernel)) (fun _ _ _ _ _ => pg_name (i := 6) nd rfl (by first | exact Or.inl rfl | exact Or.inr rfl)) (fun _ _ _ _ _ => pts_nil) (fun _ _ _ _ _ => pe_bi T.sorted (cr_sortD hr.units) (pa_cons (pv 6) (pa_nil)))) (pa_cons (pe_ix ix_seq (pe_cal C_refined hr (pa_cons (pv 2) (pa_cons (pv 1) (pa_nil)))) (pe_int) (fun _ _ => rfl)) (pa_nil))))))) (pss_one (ps_ret (pe_cal C__law_same hr (pa_cons (pv 3) (pa_cons (pe_op op_cat (pv 4) (pe_lst (pa_cons (pe_tup (pa_cons (pe_int) (pa_cons (pe_int) (pa_nil)))) (pa_cons (pe_op op_rep (pe_lst (pa_cons (pe_lst (pa_cons (pe_int) (pa_cons (pe_int) (pa_cons (pe_int) (pa_cons (pe_int) (pa_cons (pe_int) (pa_cons (pe_int) (pa_nil)))))))) (pa_nil))) (pe_int)) (pa_cons (pe_tup (pa_cons (pe_int) (pa_cons (pe_int) (pa_nil)))) (pa_nil)))))) (pa_nil))))))))))))
theorem len__law_front_right : ∀ as r, R__law_front_right as r → as.length = p__law_front_right.length := by rintro _ _ ⟨rfl, _⟩; rfl
abbrev CM : List Nat := [15, 240, 3840, 61440, 983040, 15728640]
abbrev OW : List Nat := [51, 204, 13056, 52224, 3342336, 13369344]
abbrev MS : List Nat := [3, 12, 48, 192, 768, 3072, 12288, 49152, 196608, 786432, 3145728, 12582912]
theorem srt_sorted {L : List Nat} (h : L.Pairwise (fun a b => leD (lt a) (lt b) = true)) : srt (L.map lt) = L.map lt := srt_uniq (n := 1) (lv_map lv_lt _) (.refl _) (by rw [List.pairwise_map]; exact h)
theorem de_tupRg2 {ta tb : TE} {ds : Sd} {a n : Nat} (h : De ta ds (nI a)) (h2 : De tb ds (nI (a + n))) (ha : a + n ≤ 1000) : De (tTupRg (tRg2 ta tb)) ds (.tuple ((List.range n).map fun i => nI (a + i))) := fun σ N hs H k Q q =>
  h σ N hs H k _ fun v N1 H1 s1 r1 => h2 σ N1 (hs.mono s1.nn) H1 s1.nh _ fun w N2 H2 s2 r2 => by
    refine ⟨(a : Int), ((a + n : Nat) : Int), Rp.int_eq r1, Rp.int_eq r2, ⟨by omega, by omega, by omega, by omega, by omega⟩, fun p hp => ?_⟩
    have e : rgV (a : Int) ((a + n : Nat) : Int) = ((List.range n).map fun i : Nat => ((a + i : Nat) : Int)).map V.int := by
      unfold rgV
      rw [List.map_map, show (((a + n : Nat) : Int) - (a : Int)).toNat = n by omega]
      apply List.map_congr_left
      intro i _
      show V.int ((a : Int) + (i : Int)) = V.int ((a + i : Nat) : Int)
      rw [Int.natCast_add]
    rw [e]
    refine q _ _ _ ((s1.trans s2).trans (Stp.new s2.nh hp)) (.tup upd_same ?_)
    have := rp_ints (H := upd N2 p (.tup (((List.range n).map fun i : Nat => ((a + i : Nat) : Int)).map V.int))) ((List.range n).map fun i : Nat => ((a + i : Nat) : Int))
    rw [List.map_map (g := PyData.int)] at this
    exact this
theorem de_tupRg1 {ta : TE} {ds : Sd} {n : Nat} (h : De ta ds (nI n)) (ha : n ≤ 1000) : De (tTupRg (tRg1 ta)) ds (.tuple ((List.range n).map nI)) := fun σ N hs H k Q q =>
  h σ N hs H k _ fun v N1 H1 s1 r1 => by
    refine ⟨(n : Int), Rp.int_eq r1, ⟨by omega, by omega, by omega, by omega, by omega⟩, fun p hp => ?_⟩
    rw [rgV_nat]
    refine q _ _ _ (s1.trans (Stp.new s1.nh hp)) (.tup upd_same ?_)
    have := rp_ints (H := upd N1 p (.tup (((List.range n).map fun i : Nat => (i : Int)).map V.int))) ((List.range n).map fun i : Nat => (i : Int))
    rw [List.map_map (g := PyData.int)] at this
    exact this
theorem rpa_rep {N : Hp} {us : List V} {xs : List Dat} (r : RpA N us xs) : ∀ k, RpA N (List.replicate k us).flatten (List.replicate k xs).flatten
  | 0 => .nil
  | k + 1 => by
    rw [List.replicate_succ, List.replicate_succ, List.flatten_cons, List.flatten_cons]
    exact r.append (rpa_rep r k)
theorem de_repT {K : PySem.W.Frag} {ta tb : TE} {ds : Sd} {xs : List Dat} {k : Nat} (h : De ta ds (.tuple xs)) (h2 : De tb ds (nI k)) (hk : 2 ≤ k) (hk2 : k ≤ 1000) (hx : xs ≠ []) (hl : xs.length ≤ 1000) : De (tOp (rRepT K) ta tb) ds (.tuple (List.replicate k xs).flatten) := de_op h h2 fun N v w hv hw H kk Q q => by
  obtain ⟨a, us, rfl, ha, ra⟩ := hv.tup_ref
  have hw2 : w = .int (k : Int) := Rp.int_eq hw
  subst hw2
  refine ⟨a, (k : Int), us, rfl, rfl, SqT.of (kk _ _ ha), fun z => hx (List.eq_nil_of_length_eq_zero (by rw [← ra.length, z]; rfl)), by omega, by omega, by rw [ra.length]; exact hl, fun p hp => q _ _ _ (Stp.new kk hp) (.tup upd_same ?_)⟩
  rw [Int.toNat_natCast]
  exact rpa_rep (ra.mono (same_new (same_none kk hp))) k
theorem den_rep {ta tb : TE} {ds : Sd} {xs : List Dat} {k : Nat} (h : De ta ds (.list xs)) (h2 : De tb ds (nI k)) (hl : xs.length * k ≤ 100000) (hk : k ≤ 1000) : DeN (tOp rRep ta tb) ds (List.replicate k xs).flatten := den_op h h2 fun N v w hv hw H kk Q q => by
  obtain ⟨a, us, rfl, ha, ra⟩ := hv.list_ref
  have hw2 : w = .int (k : Int) := Rp.int_eq hw
  subst hw2
  refine ⟨a, (k : Int), us, rfl, rfl, kk _ _ ha, by omega, by omega, by rw [Int.toNat_natCast, ra.length]; exact Nat.le_trans hl (by decide), fun p hp => ?_⟩
  rw [Int.toNat_natCast]
  exact q p _ N _ (Stp.hid kk hp) hp (same_none kk hp) upd_same (rpa_rep ra k)
theorem de_callK {Rl : List Dat → Dat → Prop} {E : XK} {ds : Sd} {tk : TA} {es : List Dat} {z : Dat} (h : DeA tk ds es) (hr : Rl es z) : De (tCallK (spD Rl) kw0 E tNil tk) ds z := fun σ N hs H k Q q =>
  h σ N hs H k _ fun zs N1 H1 s1 r1 => ⟨N1, es, z, s1.nh, r1, hr, fun v N2 H2 s2 r2 => q v N2 H2 (s1.trans s2) r2⟩
theorem up8 : PyData.tuple ((List.range 8).map fun i => nI (16 + i)) = lt 16711680 := by
  have e : (List.range 8).map (fun i => 16 + i) = bitsL 16711680 := by decide +kernel
  unfold lt tN
  rw [← e, List.map_map]
  rfl
theorem ok__law_front_right {P : Program} {w : World} {K : PySem.W.Frag} : ∀ as r, R__law_front_right as r → ∀ (E0 Ni : Hp) (D : Ends), Rt E0 Ni r D.rt → Okk E0 Ni (t__law_front_right K P w) D (s0 N__law_front_right as) := by
  rintro _ _ ⟨rfl, G, rfl⟩ E0 Ni D hR
  have lC : Lots (.tuple (CM.map lt)) CM := lots_tup (by decide)
  have lO : Lots (.tuple (OW.map lt)) OW := lots_tup (by decide)
  have bC : ∀ m ∈ CM, m < 2 ^ 24 := by decide
  have bO : ∀ m ∈ OW, m < 2 ^ 24 := by decide
  have s51 : ∀ x ∈ sxM 51, x < 2 ^ 24 ∧ x ≠ 0 := fun x hx => by
    have : ∀ x ∈ OW, x < 2 ^ 24 ∧ x ≠ 0 := by decide
    exact this x (G.fr.mem_iff.mpr hx)
  have e51 : srt ((sxM 51).map lt) = OW.map lt := srt_uniq (n := 1) (lv_map lv_lt _) (G.fr.map lt) (by rw [List.pairwise_map]; exact (by decide +kernel : OW.Pairwise (fun a b => leD (lt a) (lt b) = true)))
  have tl : ∀ (l : List Nat) (m : Nat), bitsL m = l → tN l = lt m := fun l m h => by rw [← h]; rfl
  refine okk_set (d := .tuple (CM.map lt)) ((de_tupS (DeN.de (den_map (List.range 6) (r := fun k => lt (CM.getD k 0)) (dei_rngN (n := 6) (de_n 6) (by decide)) (by decide) (by decide) fun k hk => ?_)) (.inl rfl)).to rfl) ?_
  · have hk := List.mem_range.mp hk
    refine (de_tupRg2 (a := 4 * k) (n := 4) (de_mul (a := 4) (b := k) (de_n 4) (de_var rfl) (by decide) (by omega)) (de_add (a := 4 * k) (b := 4) (de_mul (a := 4) (b := k) (de_n 4) (de_var rfl) (by decide) (by omega)) (de_n 4)) (by omega)).to ?_
    have : ∀ k ∈ List.range 6, (List.range 4).map (fun i => 4 * k + i) = bitsL (CM.getD k 0) := by decide +kernel
    have e := this k (List.mem_range.mpr hk)
    unfold lt tN
    rw [← e, List.map_map]
    rfl
  refine okk_set (d := .tuple (OW.map lt)) ((de_call (dea_2 (x := boardD) (y := lt 51) (de_var rfl) ((de_tup (dea_cons (de_n 0) (dea_cons (de_n 1) (dea_cons (de_n 4) (dea_cons (de_n 5) dea_nil)))) (by decide)).to (tl [0, 1, 4, 5] 51 (by decide +kernel)))) ⟨51, rfl, by decide, s51, rfl⟩).to (by rw [e51])) ?_
  have mCC : ∀ i, i ∈ [0, 4] ↔ ∃ a ∈ CM, ∃ b ∈ CM, popc (b &&& a) = i := fun i => by
    have h1 : ∀ a ∈ CM, ∀ b ∈ CM, popc (b &&& a) ∈ [0, 4] := by decide +kernel
    have h2 : ∀ i ∈ [0, 4], ∃ a ∈ CM, ∃ b ∈ CM, popc (b &&& a) = i := by decide +kernel
    exact ⟨h2 i, fun ⟨a, ha, b, hb, e⟩ => e ▸ h1 a ha b hb⟩
  have mOC : ∀ i, i ∈ [0, 2] ↔ ∃ a ∈ OW, ∃ b ∈ CM, popc (b &&& a) = i := fun i => by
    have h1 : ∀ a ∈ OW, ∀ b ∈ CM, popc (b &&& a) ∈ [0, 2] := by decide +kernel
    have h2 : ∀ i ∈ [0, 2], ∃ a ∈ OW, ∃ b ∈ CM, popc (b &&& a) = i := by decide +kernel
    exact ⟨h2 i, fun ⟨a, ha, b, hb, e⟩ => e ▸ h1 a ha b hb⟩
  have rCC : ∀ x, x ∈ CM ↔ x ≠ 0 ∧ x ∈ refM CM CM := fun x => by
    have h1 : ∀ x ∈ CM, x ≠ 0 ∧ x ∈ refM CM CM := by decide +kernel
    have h2 : ∀ x ∈ refM CM CM, x ≠ 0 → x ∈ CM := by decide +kernel
    exact ⟨h1 x, fun ⟨a, b⟩ => h2 x b a⟩
  have rOC : ∀ x, x ∈ MS ↔ x ≠ 0 ∧ x ∈ refM OW CM := fun x => by
    have h1 : ∀ x ∈ MS, x ≠ 0 ∧ x ∈ refM OW CM := by decide +kernel
    have h2 : ∀ x ∈ refM OW CM, x ≠ 0 → x ∈ MS := by decide +kernel
    exact ⟨h1 x, fun ⟨a, b⟩ => h2 x b a⟩
  have sC : srt (CM.map lt) = CM.map lt := srt_sorted (by decide +kernel)
  have sM : srt (MS.map lt) = MS.map lt := srt_sorted (by decide +kernel)
  have sP : srt ((pairsM CM).map lt) = (pairsM CM).map lt := srt_sorted (by decide +kernel)
  have vC : ∀ ds : Sd, ds[1]? = some (some (.tuple (CM.map lt))) → De (tVar 1) ds (.tuple (CM.map lt)) := fun ds h => de_var h
  have e8 : ∀ ds : Sd, ds[1]? = some (some (.tuple (CM.map lt))) → De (tCall sp_eights_of_fours [] L2.E0 (tCons (tVar 1) tNil)) ds (.tuple ((pairsM CM).map lt)) := fun ds h => (de_call (dea_1 (vC ds h)) ⟨_, CM, pairsM CM, rfl, lC, by decide, bC, by decide, by decide +kernel, fun _ => Iff.rfl, by decide +kernel, rfl⟩).to (by rw [sP])
  let g0 : List Dat := [tN [2, 1, 0, 0, 0, 1], tN [4, 4, 4, 4, 4, 4], tN [0, 0, 4, 0, 0, 0], tN [0, 4]]
  let g1 : List Dat := [.tuple (CM.map lt), .tuple [lt 255, lt 3855], lt 16711680, nI 15]
  let g2 : List Dat := [tN [0, 2], .list [lN [0, 0, 0, 0, 2, 2], lN [0, 0, 0, 0, 2, 2], lN [0, 0, 0, 0, 2, 2], lN [0, 0, 0, 0, 2, 2], lN [0, 0, 0, 0, 2, 2], lN [0, 0, 0, 0, 2, 2]], lt 3]
  have shr : ∀ m l, (CM.map fun s => popc (s &&& m)) = l → PyData.tuple (CM.map fun s => nI (popc (s &&& m))) = tN l := fun m l h => by rw [← h]; rfl
  refine okk_set (d := .list g0) (DeN.de (den_lst (dea_cons ((de_call (dea_2 (vC _ rfl) (y := lt 8388627) ((de_tup (dea_cons (de_n 0) (dea_cons (de_n 1) (dea_cons (de_n 4) (dea_cons (de_n 23) dea_nil)))) (by decide)).to (tl [0, 1, 4, 23] 8388627 (by decide +kernel)))) ⟨_, CM, 8388627, _, rfl, lC, .inr rfl, by decide, rfl⟩).to (shr _ [2, 1, 0, 0, 0, 1] (by decide +kernel)))
    (dea_cons ((de_call (dea_2 (vC _ rfl) (y := lt 16777215) ((de_tupRg1 (n := 24) (de_n 24) (by decide)).to (tl (List.range 24) 16777215 (by decide +kernel)))) ⟨_, CM, 16777215, _, rfl, lC, .inr rfl, by decide, rfl⟩).to (shr _ [4, 4, 4, 4, 4, 4] (by decide +kernel)))
    (dea_cons ((de_ix (x := tabM CM CM) (j := 2) (z := .tuple (CM.map fun s => nI (popc (s &&& 3840)))) (de_call (dea_2 (vC _ rfl) (vC _ rfl)) ⟨_, _, CM, CM, rfl, lC, lC, by decide, by decide, rfl⟩) (de_n 2) (.inr rfl) rfl).to (shr _ [0, 0, 4, 0, 0, 0] (by decide +kernel)))
    (dea_cons (de_call (z := tN [0, 4]) (dea_2 (vC _ rfl) (vC _ rfl)) ⟨_, _, CM, CM, [0, 4], rfl, lC, lC, by decide, by decide, by decide, mCC, rfl⟩) dea_nil)))) (Nat.le_of_ble_eq_true rfl))) ?_
  refine okk_set (d := .list g0) (DeN.de (den_lst (dea_cons (de_tup (dea_cons (de_n 2) (dea_cons (de_n 1) (dea_cons (de_n 0) (dea_cons (de_n 0) (dea_cons (de_n 0) (dea_cons (de_n 1) dea_nil)))))) (by decide))
    (dea_cons (de_repT (k := 6) (de_tup (dea_1 (de_n 4)) (by decide)) (de_n 6) (by decide) (by decide) (by decide) (by decide))
    (dea_cons (de_tup (dea_cons (de_n 0) (dea_cons (de_n 0) (dea_cons (de_n 4) (dea_cons (de_n 0) (dea_cons (de_n 0) (dea_cons (de_n 0) dea_nil)))))) (by decide))
    (dea_cons (de_tup (dea_2 (de_n 0) (de_n 4)) (by decide)) dea_nil)))) (Nat.le_of_ble_eq_true rfl))) ?_
  refine okk_set (d := .list (g0 ++ g1)) (DeN.de (den_op (x := .list g0) (y := .list g1) (de_var rfl) (DeN.de (den_lst (dea_cons ((de_call (dea_2 (vC _ rfl) (vC _ rfl)) ⟨_, _, CM, CM, CM, rfl, lC, lC, by decide, by decide, bC, by decide, rCC, rfl⟩).to (by rw [sC]))
    (dea_cons ((slice_to (n := 2) (e8 _ rfl) (de_n 2)).to rfl)
    (dea_cons (de_op (e8 _ rfl) (de_neg (i := 1) de_int) (dr_ix (z := lt 16711680) (.inr rfl) (ixN_last (by decide +kernel)) rfl))
    (dea_cons (de_len (e8 _ rfl) (.inr rfl)) dea_nil)))) (Nat.le_of_ble_eq_true rfl))) (drn_cat (Nat.le_of_ble_eq_true rfl)))) ?_
  refine okk_set (d := .list (g0 ++ g1)) (DeN.de (den_op (x := .list g0) (y := .list g1) (de_var rfl) (DeN.de (den_lst (dea_cons (vC _ rfl)
    (dea_cons (de_tup (dea_2 (x := lt 255) (y := lt 3855) ((de_tupRg1 (n := 8) (de_n 8) (by decide)).to (tl (List.range 8) 255 (by decide +kernel))) ((de_tup (dea_cons (de_n 0) (dea_cons (de_n 1) (dea_cons (de_n 2) (dea_cons (de_n 3) (dea_cons (de_n 8) (dea_cons (de_n 9) (dea_cons (de_n 10) (dea_cons (de_n 11) dea_nil)))))))) (by decide)).to (tl [0, 1, 2, 3, 8, 9, 10, 11] 3855 (by decide +kernel)))) (Nat.le_of_ble_eq_true rfl))
    (dea_cons ((de_tupRg2 (a := 16) (n := 8) (de_n 16) (de_n 24) (by decide)).to up8)
    (dea_cons ((de_add (de_add (de_add (de_add (a := 5) (b := 4) (de_n 5) (de_n 4)) (de_n 3)) (de_n 2)) (de_n 1))) dea_nil)))) (Nat.le_of_ble_eq_true rfl))) (drn_cat (Nat.le_of_ble_eq_true rfl)))) ?_
  refine okk_set (d := .list (g0 ++ g1 ++ g2)) (DeN.de (den_op (x := .list (g0 ++ g1)) (y := .list g2) (de_var rfl) (DeN.de (den_lst (dea_cons (de_call (z := tN [0, 2]) (dea_2 (de_var (d := .tuple (OW.map lt)) rfl) (vC _ rfl)) ⟨_, _, OW, CM, [0, 2], rfl, lO, lC, by decide, by decide, by decide, mOC, rfl⟩)
    (dea_cons (DeN.de (den_map OW (r := fun _ => lN [0, 0, 0, 0, 2, 2]) (dei_tup (xs := OW.map fun m => PyData.tuple (CM.map fun n => nI (popc (n &&& m)))) (de_callK (z := tabM OW CM) (dea_2 (de_var (d := .tuple (OW.map lt)) rfl) (vC _ rfl)) ⟨_, _, OW, CM, rfl, lO, lC, by decide, by decide, rfl⟩)) (by decide) (by decide) fun m hm => ?_))
    (dea_cons ((de_ix (x := .tuple (MS.map lt)) (j := 0) (z := lt 3) ((de_call (dea_2 (de_var (d := .tuple (OW.map lt)) rfl) (vC _ rfl)) ⟨_, _, OW, CM, MS, rfl, lO, lC, by decide, by decide, bO, by decide, rOC, rfl⟩).to (by rw [sM])) (de_n 0) (.inr rfl) rfl)) dea_nil))) (Nat.le_of_ble_eq_true rfl))) (drn_cat (Nat.le_of_ble_eq_true rfl)))) ?_
  · have hp : ∀ m ∈ OW, ([0, 0, 0, 0, 2, 2] : List Nat).Perm (CM.map fun n => popc (n &&& m)) := by decide +kernel
    exact DeN.de (den_sortI (l := CM.map fun n => popc (n &&& m)) (m := [0, 0, 0, 0, 2, 2]) (de_var rfl) (.inr (by rw [List.map_map]; rfl)) (hp m hm) (by decide))
  have hN : Ns 4 (.list (g0 ++ g1 ++ g2)) := by
    have t1 : ∀ l : List Nat, l.length ≤ 100000 → Ns 3 (tN l) := fun l h => (ns_tN h).up.up
    have l1 : Ns 1 (lN [0, 0, 0, 0, 2, 2]) := ns_lst (by decide) ns_nIs
    refine ns_lst (Nat.le_of_ble_eq_true rfl) fun x hx => ?_
    have hx : x ∈ [tN [2, 1, 0, 0, 0, 1], tN [4, 4, 4, 4, 4, 4], tN [0, 0, 4, 0, 0, 0], tN [0, 4], .tuple (CM.map lt), .tuple [lt 255, lt 3855], lt 16711680, nI 15, tN [0, 2], .list [lN [0, 0, 0, 0, 2, 2], lN [0, 0, 0, 0, 2, 2], lN [0, 0, 0, 0, 2, 2], lN [0, 0, 0, 0, 2, 2], lN [0, 0, 0, 0, 2, 2], lN [0, 0, 0, 0, 2, 2]], lt 3] := hx
    simp only [List.mem_cons, List.not_mem_nil, or_false] at hx
    rcases hx with rfl | rfl | rfl | rfl | rfl | rfl | rfl | rfl | rfl | rfl | rfl
    · exact t1 _ (by decide)
    · exact t1 _ (by decide)
    · exact t1 _ (by decide)
    · exact t1 _ (by decide)
    · exact lC.ns.up
    · exact (ns_tup (n := 1) (Nat.le_of_ble_eq_true rfl) fun y hy => by
        simp only [List.mem_cons, List.not_mem_nil, or_false] at hy
        rcases hy with rfl | rfl <;> exact ns_lt _).up
    · exact (ns_lt _).up.up
    · exact (ns_nI 15).up.up.up
    · exact t1 _ (by decide)
    · exact (ns_lst (n := 1) (Nat.le_of_ble_eq_true rfl) fun y hy => by
        simp only [List.mem_cons, List.not_mem_nil, or_false] at hy
        rcases hy with rfl | rfl | rfl | rfl | rfl | rfl <;> exact l1).up
    · exact (ns_lt _).up.up
  refine okk_ret (de_call (dea_2 (x := .list (g0 ++ g1 ++ g2)) (y := .list (g0 ++ g1 ++ g2)) (de_var rfl) (DeN.de (den_op (x := .list (g0 ++ g1)) (y := .list g2) (de_var rfl) (DeN.de (den_lst (dea_cons (de_tup (dea_2 (de_n 0) (de_n 2)) (by decide))
    (dea_cons (DeN.de (den_rep (k := 6) (DeN.de (den_lst (dea_1 (DeN.de (den_lst (dea_cons (de_n 0) (dea_cons (de_n 0) (dea_cons (de_n 0) (dea_cons (de_n 0) (dea_cons (de_n 2) (dea_cons (de_n 2) dea_nil)))))) (by decide)))) (by decide))) (de_n 6) (by decide) (by decide)))
    (dea_cons ((de_tup (dea_2 (de_n 0) (de_n 1)) (by decide)).to (tl [0, 1] 3 (by decide +kernel))) dea_nil))) (Nat.le_of_ble_eq_true rfl))) (drn_cat (Nat.le_of_ble_eq_true rfl))))) ⟨_, rfl, hN, rfl⟩) hR

theorem cal__law_front_right {P : Program} {w : World} {K : PySem.W.Frag} {mg : Str → Option Value} {base : Heap} {f : Addr} {fd : FuncData} (T : Tx K mg) (C__law_fours_by : Cal P w K mg base 3 "_law_fours_by" p__law_fours_by sp__law_fours_by) (C_meeting : Cal P w K mg base 5 "meeting" p_meeting sp_meeting) (C_shared_table : Cal P w K mg base 4 "shared_table" p_shared_table sp_shared_table) (C_shared : Cal P w K mg base 4 "shared" p_shared sp_shared) (C_eights_of_fours : Cal P w K mg base 4 "eights_of_fours" p_eights_of_fours sp_eights_of_fours) (C_refined : Cal P w K mg base 4 "refined" p_refined sp_refined) (C__law_same : Cal P w K mg base 5 "_law_same" p__law_same sp__law_same) (CK_shared_table : CalK P w K mg base 4 "shared_table" p_shared_table ["one", "other"] sp_shared_table) (F : FnP K "_law_front_right" (top 62) f fd) (hm : mg "_law_front_right" = some (.ref f)) : Cal P w K mg base 6 "_law_front_right" p__law_front_right sp__law_front_right :=
  cal_of F hm (FunD.bindsN F fun _ _ _ _ _ _ us hl => match us, hl with | [_], _ => rfl) (fn_data F sc__law_front_right (len__law_front_right) fun cdv A outer s H E hr => ⟨_, ps__law_front_right T C__law_fours_by C_meeting C_shared_table C_shared C_eights_of_fours C_refined C__law_same CK_shared_table cdv A outer s H E hr, ok__law_front_right⟩)

def R__law_right : RX := fun as k Po => as = [] ∧ k = 100 ∧ Geo ∧ Po = fun d => d = .bool true

abbrev sp__law_right : Sp := spX R__law_right
abbrev N__law_right : List Str := ["_law_tin", "_law_board_so", "_law_one_so", "_law_lap", "_law_eight_so", "_law_k", "_law_got", "_law_due", "_law_other_so", "_law_near_so", "_law_far_so", "_law_lot_so", "_law_many_so", "_law_table_so", "_law_soft_so", "_law_mild_so", "_law_j", "_law_own"]
abbrev p__law_right : List Str := ["_law_tin"]
theorem sc__law_right : FnScope N__law_right p__law_right (defScope (top 63)) := ⟨rfl, rfl, rfl, by decide +kernel, rfl, by decide +kernel, by decide +kernel⟩
def t__law_right (K : PySem.W.Frag) (P : Program) (w : World) : TS := tSeq (tAsg (tCall sp__law_board [] E0 tNil) (gName 1)) (tSeq (tIfS (tNot (tB (tCall sp__law_front_right [] E0 (tCons (tVar 1) (tNil))))) (tRet (tC (.bl false))) (tNext)) (tSeq (tAsg (tCall sp__law_fours_by [] E0 (tCons (tVar 1) (tCons (tCB (rTupS K) (tCons (tCB (rSortD K) (tCons (tCall sp__law_pick [] E0 (tCons (tVar 0) (tCons (tLstRg (tRg1 (tC (.int 24)))) (tCons (tC (.int 4)) (tNil))))) (tNil))) (tNil))) (tNil)))) (gName 2)) (tSeq (tFor (iRng1 (tCons (tC (.int 3)) (tNil))) (gName 3) (tSeq (tAsg (tCall sp__law_fours_by [] E0 (tCons (tVar 1) (tCons (tCall sp__law_near_four [] E0 (tCons (tVar 0) (tCons (tVar 2) (tNil)))) (tNil)))) (gName 8)) (tSeq (tPar3 13 14 15 (tCons (tCall sp__law_table [] E0 (tCons (tVar 2) (tCons (tVar 8) (tNil)))) (tCons (tCall sp__law_lists [] E0 (tCons (tVar 2) (tNil))) (tCons (tCall sp__law_lists [] E0 (tCons (tVar 8) (tNil))) (tNil))))) (tSeq (tAsg (tLst (tCons (tCall sp_shared_table [] E0 (tCons (tVar 14) (tCons (tVar 15) (tNil)))) (tCons (tCall sp_shared_table [] E0 (tCons (tVar 8) (tCons (tVar 2) (tNil)))) (tCons (tCall sp_meeting [] E0 (tCons (tVar 15) (tCons (tVar 14) (tNil)))) (tCons (tCall sp_refined [] E0 (tCons (tVar 14) (tCons (tVar 15) (tNil)))) (tCons (tCall sp_refined [] E0 (tCons (tVar 8) (tCons (tVar 2) (tNil)))) (tNil))))))) (gName 6)) (tSeq (tAsg (tLst (tCons (tVar 13) (tCons (tCall sp__law_table [] E0 (tCons (tVar 8) (tCons (tVar 2) (tNil)))) (tCons (tCall sp__law_numbers [] E0 (tCons (tVar 13) (tNil))) (tCons (tCall sp__law_refined [] E0 (tCons (tVar 2) (tCons (tVar 8) (tNil)))) (tCons (tCall sp__law_refined [] E0 (tCons (tVar 2) (tCons (tVar 8) (tNil)))) (tNil))))))) (gName 7)) (tIfS (tOr (tNot (tB (tCall sp__law_same [] E0 (tCons (tVar 6) (tCons (tVar 7) (tNil)))))) (tTest (tOp (rNotInT K) (tCall sp__law_numbers [] E0 (tCons (tVar 13) (tNil))) (tTup (tCons (tTup (tCons (tC (.int 0)) (tCons (tC (.int 4)) (tNil)))) (tCons (tTup (tCons (tC (.int 0)) (tCons (tC (.int 2)) (tNil)))) (tCons (tTup (tCons (tC (.int 0)) (tCons (tC (.int 1)) (tCons (tC (.int 3)) (tNil))))) (tCons (tTup (tCons (tC (.int 0)) (tCons (tC (.int 1)) (tCons (tC (.int 2)) (tNil))))) (tNil))))))))) (tRet (tC (.bl false))) (tNext))))))) (tSeq (tAsg (tCall sp__law_pick [] E0 (tCons (tVar 0) (tCons (tVar 2) (tCons (tC (.int 2)) (tNil))))) (gUnl K 2 (gCons (gName 9) (gCons (gName 10) (gNil))))) (tSeq (tAsg (tIf (tTest (tOp rGt (tCall sp__law_take [] E0 (tCons (tVar 0) (tCons (tC (.int 3)) (tNil)))) (tC (.int 0)))) (tCall sp__law_joined [] E0 (tCons (tVar 9) (tCons (tVar 10) (tNil)))) (tCall sp__law_lot [] E0 (tCons (tCall sp__law_of [] E0 (tCons (tVar 0) (tCons (tOp (rIx K) (tVar 1) (tC (.int 1))) (tNil)))) (tNil)))) (gName 4)) (tSeq (tPar 11 12 (tCons (tCB (rTupS K) (tCons (tCB (rSortD K) (tCons (tCall sp__law_pick [] E0 (tCons (tVar 0) (tCons (tLstRg (tRg1 (tC (.int 24)))) (tCons (tCall sp__law_take [] E0 (tCons (tVar 0) (tCons (tC (.int 25)) (tNil)))) (tNil))))) (tNil))) (tNil))) (tCons (tLst (tNil)) (tNil)))) (tSeq (tFor (iRng1 (tCons (tC (.int 6)) (tNil))) (gName 5) (tAsg (tOp rCat (tVar 12) (tLc (iRng1 (tCons (tVar 5) (tNil))) (gName 16) (tYes) (tCall sp__law_joined [] E0 (tCons (tOp (rIx K) (tVar 2) (tVar 16)) (tCons (tOp (rIx K) (tVar 2) (tVar 5)) (tNil)))) [16])) (gName 12))) (tSeq (tAsg (tLst (tCons (tCall sp_shared [] E0 (tCons (tVar 14) (tCons (tCB (rLstS K) (tCons (tVar 11) (tNil))) (tNil)))) (tCons (tCall sp_shared [] E0 (tCons (tVar 15) (tCons (tCB (rLstS K) (tCons (tVar 4) (tNil))) (tNil)))) (tCons (tCall sp_eights_of_fours [] E0 (tCons (tVar 14) (tNil))) (tCons (tCall sp_fours_in [] E0 (tCons (tCB (rLstS K) (tCons (tVar 4) (tNil))) (tNil))) (tNil)))))) (gName 6)) (tSeq (tAsg (tLst (tCons (tOp (rIx K) (tCall sp__law_table [] E0 (tCons (tTup (tCons (tVar 11) (tNil))) (tCons (tVar 2) (tNil)))) (tC (.int 0))) (tCons (tOp (rIx K) (tCall sp__law_table [] E0 (tCons (tTup (tCons (tVar 4) (tNil))) (tCons (tVar 8) (tNil)))) (tC (.int 0))) (tCons (tCB (rTupS K) (tCons (tCB (rSortD K) (tCons (tVar 12) (tNil))) (tNil))) (tCons (tCall sp__law_fours_in [] E0 (tCons (tVar 1) (tCons (tVar 4) (tNil)))) (tNil)))))) (gName 7)) (tRet (tAndV (tCall sp__law_same [] E0 (tCons (tVar 6) (tCons (tVar 7) (tNil)))) (tCB (rAll K) (tCons (tLc (iList K (tVar 12)) (gName 17) (tYes) (tCall sp__law_is_right [] E0 (tCons (tVar 17) (tNil))) [17]) (tNil))))))))))))))
theorem ps__law_right {P : Program} {w : World} {K : PySem.W.Frag} {mg : Str → Option Value} {base : Heap} {f : Addr} (T : Tx K mg) (C__law_board : Cal P w K mg base 5 "_law_board" p__law_board sp__law_board) (C__law_front_right : Cal P w K mg base 6 "_law_front_right" p__law_front_right sp__law_front_right) (C__law_fours_by : Cal P w K mg base 3 "_law_fours_by" p__law_fours_by sp__law_fours_by) (C__law_pick : Cal P w K mg base 2 "_law_pick" p__law_pick sp__law_pick) (C__law_near_four : Cal P w K mg base 3 "_law_near_four" p__law_near_four sp__law_near_four) (C__law_lists : Cal P w K mg base 3 "_law_lists" p__law_lists sp__law_lists) (C__law_table : Cal P w K mg base 1 "_law_table" p__law_table sp__law_table) (C_refined : Cal P w K mg base 4 "refined" p_refined sp_refined) (C_meeting : Cal P w K mg base 5 "meeting" p_meeting sp_meeting) (C_shared_table : Cal P w K mg base 4 "shared_table" p_shared_table sp_shared_table) (C__law_refined : Cal P w K mg base 1 "_law_refined" p__law_refined sp__law_refined) (C__law_numbers : Cal P w K mg base 1 "_law_numbers" p__law_numbers sp__law_numbers) (C__law_same : Cal P w K mg base 5 "_law_same" p__law_same sp__law_same) (C__law_take : Cal P w K mg base 1 "_law_take" p__law_take sp__law_take) (C__law_joined : Cal P w K mg base 1 "_law_joined" p__law_joined sp__law_joined) (C__law_lot : Cal P w K mg base 1 "_law_lot" p__law_lot sp__law_lot) (C__law_of : Cal P w K mg base 2 "_law_of" p__law_of sp__law_of) (C_fours_in : Cal P w K mg base 7 "fours_in" p_fours_in sp_fours_in) (C_eights_of_fours : Cal P w K mg base 4 "eights_of_fours" p_eights_of_fours sp_eights_of_fours) (C_shared : Cal P w K mg base 4 "shared" p_shared sp_shared) (C__law_fours_in : Cal P w K mg base 2 "_law_fours_in" p__law_fours_in sp__law_fours_in) (C__law_is_right : Cal P w K mg base 3 "_law_is_right" p__law_is_right sp__law_is_right) (cdv : Value) (A : Around) (outer : List Env) (s : Shared) (H : Hp) (E : XK) (hr : Room 7 (A.deeper (envOfC "_law_right" (defScope (top 63)) s.heap.objs.size f cdv))) :
    PSs (cxOf CX0 P w K mg base N__law_right "_law_right" (defScope (top 63)) f cdv A outer s H E).nox (defBody (top 63)) (t__law_right K P w) := by
  have nd := sc__law_right.nd
  have hu := hu_of hr
  unfold t__law_right
  exact pss_cons (ps_set (i := 1) nd rfl (by first | exact Or.inl rfl | exact Or.inr rfl) (pe_cal0 C__law_board hr)) (pss_cons (ps_if (pt_not (pt_val (pe_cal C__law_front_right hr (pa_cons (pv 1) (pa_nil))))) (pss_one (ps_ret (pe_bl))) (pss_nil)) (pss_cons (ps_set (i := 2) nd rfl (by first | exact Or.inl rfl | exact Or.inr rfl) (pe_cal C__law_fours_by hr (pa_cons (pv 1) (pa_cons (pe_ty T.tuple call_tuple_of (pa_cons (pe_bi T.sorted (cr_sortD hr.units) (pa_cons (pe_cal C__law_pick hr (pa_cons (pv 0) (pa_cons (pe_listRg rfl rfl T.list (prg_1 rfl T.range (pe_int))) (pa_cons (pe_int) (pa_nil))))) (pa_nil))) (pa_nil))) (pa_nil))))) (pss_cons (ps_for PassesOwn.never rfl (pi_range1 rfl T.range (pa_cons (pe_int) (pa_nil))) (pg_name (i := 3) nd rfl (by first | exact Or.inl rfl | exact Or.inr rfl)) (pss_cons (ps_set (i := 8) nd rfl (by first | exact Or.inl rfl | exact Or.inr rfl) (pe_cal C__law_fours_by hr (pa_cons (pv 1) (pa_cons (pe_cal C__law_near_four hr (pa_cons (pv 0) (pa_cons (pv 2) (pa_nil)))) (pa_nil))))) (pss_cons (ps_par3 (i := 13) (j := 14) (l := 15) rfl nd rfl rfl rfl (by decide) (by decide) (by decide) rfl rfl rfl (pa_cons (pe_cal C__law_table hr (pa_cons (pv 2) (pa_cons (pv 8) (pa_nil)))) (pa_cons (pe_cal C__law_lists hr (pa_cons (pv 2) (pa_nil))) (pa_cons (pe_cal C__law_lists hr (pa_cons (pv 8) (pa_nil))) (pa_nil)))) (by rfl)) (pss_cons (ps_set (i := 6) nd rfl (by first | exact Or.inl rfl | exact Or.inr rfl) (pe_lst (pa_cons (pe_cal C_shared_table hr (pa_cons (pv 14) (pa_cons (pv 15) (pa_nil)))) (pa_cons (pe_cal C_shared_table hr (pa_cons (pv 8) (pa_cons (pv 2) (pa_nil)))) (pa_cons (pe_cal C_meeting hr (pa_cons (pv 15) (pa_cons (pv 14) (pa_nil)))) (pa_cons (pe_cal C_refined hr (pa_cons (pv 14) (pa_cons (pv 15) (pa_nil)))) (pa_cons (pe_cal C_refined hr (pa_cons (pv 8) (pa_cons (pv 2) (pa_nil)))) (pa_nil)))))))) (pss_cons (ps_set (i := 7) nd rfl (by first | exact Or.inl rfl | exact Or.inr rfl) (pe_lst (pa_cons (pv 13) (pa_cons (pe_cal C__law_table hr (pa_cons (pv 8) (pa_cons (pv 2) (pa_nil)))) (pa_cons (pe_cal C__law_numbers hr (pa_cons (pv 13) (pa_nil))) (pa_cons (pe_cal C__law_refined hr (pa_cons (pv 2) (pa_cons (pv 8) (pa_nil)))) (pa_cons (pe_cal C__law_refined hr (pa_cons (pv 2) (pa_cons (pv 8) (pa_nil)))) (pa_nil)))))))) (pss_one (ps_if (PW.pt (pw_or (pt_not (pt_val (pe_cal C__law_same hr (pa_cons (pv 6) (pa_cons (pv 7) (pa_nil)))))) (pw_or1 (pt_cmpR (op_notInT (units65 hr)) (pe_cal C__law_numbers hr (pa_cons (pv 13) (pa_nil))) (pe_tup (pa_cons (pe_tup (pa_cons (pe_int) (pa_cons (pe_int) (pa_nil)))) (pa_cons (pe_tup (pa_cons (pe_int) (pa_cons (pe_int) (pa_nil)))) (pa_cons (pe_tup (pa_cons (pe_int) (pa_cons (pe_int) (pa_cons (pe_int) (pa_nil))))) (pa_cons (pe_tup (pa_cons (pe_int) (pa_cons (pe_int) (pa_cons (pe_int) (pa_nil))))) (pa_nil)))))) (by rfl))))) (pss_one (ps_ret (pe_bl))) (pss_nil)))))))) (pss_cons (ps_asg (pe_cal C__law_pick hr (pa_cons (pv 0) (pa_cons (pv 2) (pa_cons (pe_int) (pa_nil))))) (pg_unl (by rfl) (pgs_cons (pg_name (i := 9) nd rfl (by first | exact Or.inl rfl | exact Or.inr rfl)) (pgs_cons (pg_name (i := 10) nd rfl (by first | exact Or.inl rfl | exact Or.inr rfl)) (pgs_nil))))) (pss_cons (ps_set (i := 4) nd rfl (by first | exact Or.inl rfl | exact Or.inr rfl) (pe_ifExp (pt_cmpR op_gt (pe_cal C__law_take hr (pa_cons (pv 0) (pa_cons (pe_int) (pa_nil)))) (pe_int) (nomark _)) (pe_cal C__law_joined hr (pa_cons (pv 9) (pa_cons (pv 10) (pa_nil)))) (pe_cal C__law_lot hr (pa_cons (pe_cal C__law_of hr (pa_cons (pv 0) (pa_cons (pe_ix ix_seq (pv 1) (pe_int) (fun _ _ => rfl)) (pa_nil)))) (pa_nil))))) (pss_cons (ps_par (i := 11) (j := 12) rfl nd rfl rfl (by decide) rfl rfl (pa_cons (pe_ty T.tuple call_tuple_of (pa_cons (pe_bi T.sorted (cr_sortD hr.units) (pa_cons (pe_cal C__law_pick hr (pa_cons (pv 0) (pa_cons (pe_listRg rfl rfl T.list (prg_1 rfl T.range (pe_int))) (pa_cons (pe_cal C__law_take hr (pa_cons (pv 0) (pa_cons (pe_int) (pa_nil)))) (pa_nil))))) (pa_nil))) (pa_nil))) (pa_cons (pe_lst (pa_nil)) (pa_nil))) (by rfl)) (pss_cons (ps_for PassesOwn.never rfl (pi_range1 rfl T.range (pa_cons (pe_int) (pa_nil))) (pg_name (i := 5) nd rfl (by first | exact Or.inl rfl | exact Or.inr rfl)) (pss_one (ps_set (i := 12) nd rfl (by first | exact Or.inl rfl | exact Or.inr rfl) (pe_op op_cat (pv 12) (pe_lc (own := [("_law_j", 16)]) (g := gName 16) (tt := tYes) (te := tCall sp__law_joined [] E0 (tCons (tOp (rIx K) (tVar 2) (tVar 16)) (tCons (tOp (rIx K) (tVar 2) (tVar 5)) (tNil)))) rfl nd (pi_range1 rfl T.range (pa_cons (pv 5) (pa_nil))) (blkOk_by (N := N__law_right) (sc := defScope (top 63)) (by decide +kernel)) (fun _ _ _ _ _ => pg_name (i := 16) nd rfl (by first | exact Or.inl rfl | exact Or.inr rfl)) (fun _ _ _ _ _ => pts_nil) (fun _ _ _ _ _ => pe_cal C__law_joined hr (pa_cons (pe_ix ix_seq (pv 2) (pv 16) (fun _ _ => rfl)) (pa_cons (pe_ix ix_seq (pv 2) (pv 5) (fun _ _ => rfl)) (pa_nil))))))))) (pss_cons (ps_set (i := 6) nd rfl (by first | exact Or.inl rfl | exact Or.inr rfl) (pe_lst (pa_cons (pe_cal C_shared hr (pa_cons (pv 14) (pa_cons (pe_ty T.list call_list_of (pa_cons (pv 11) (pa_nil))) (pa_nil)))) (pa_cons (pe_cal C_shared hr (pa_cons (pv 15) (pa_cons (pe_ty T.list call_list_of (pa_cons (pv 4) (pa_nil))) (pa_nil)))) (pa_cons (pe_cal C_eights_of_fours hr (pa_cons (pv 14) (pa_nil))) (pa_cons (pe_cal C_fours_in hr (pa_cons (pe_ty T.list call_list_of (pa_cons (pv 4) (pa_nil))) (pa_nil))) (pa_nil))))))) (pss_cons (ps_set (i := 7) nd rfl (by first | exact Or.inl rfl | exact Or.inr rfl) (pe_lst (pa_cons (pe_ix ix_seq (pe_cal C__law_table hr (pa_cons (pe_tup (pa_cons (pv 11) (pa_nil))) (pa_cons (pv 2) (pa_nil)))) (pe_int) (fun _ _ => rfl)) (pa_cons (pe_ix ix_seq (pe_cal C__law_table hr (pa_cons (pe_tup (pa_cons (pv 4) (pa_nil))) (pa_cons (pv 8) (pa_nil)))) (pe_int) (fun _ _ => rfl)) (pa_cons (pe_ty T.tuple call_tuple_of (pa_cons (pe_bi T.sorted (cr_sortD hr.units) (pa_cons (pv 12) (pa_nil))) (pa_nil))) (pa_cons (pe_cal C__law_fours_in hr (pa_cons (pv 1) (pa_cons (pv 4) (pa_nil)))) (pa_nil))))))) (pss_one (ps_ret (pe_and (pe_cal C__law_same hr (pa_cons (pv 6) (pa_cons (pv 7) (pa_nil)))) (pe_one (pe_bi T.all (cr_all rfl) (pa_cons (pe_lc (own := [("_law_own", 17)]) (g := gName 17) (tt := tYes) (te := tCall sp__law_is_right [] E0 (tCons (tVar 17) (tNil))) rfl nd (pi_list (pv 12)) (blkOk_by (N := N__law_right) (sc := defScope (top 63)) (by decide +kernel)) (fun _ _ _ _ _ => pg_name (i := 17) nd rfl (by first | exact Or.inl rfl | exact Or.inr rfl)) (fun _ _ _ _ _ => pts_nil) (fun _ _ _ _ _ => pe_cal C__law_is_right hr (pa_cons (pv 17) (pa_nil)))) (pa_nil))))))))))))))))
theorem len__law_right : ∀ as k Po, R__law_right as k Po → as.length + 1 = p__law_right.length := by rintro _ _ _ ⟨rfl, _⟩; rfl
theorem cmp_ok (ms ns : List Nat) (hm : Six ms) (hn : Six ns) (M : List Nat) (hM : M.length ≤ 1000) : Ns 4 (.list [tabM ms ns, tabM ns ms, tN (numM ms ns), .tuple (srt (M.map lt)), .tuple (srt (M.map lt))]) := by
  have h1 := hm.len
  have h2 := hn.len
  refine ns_lst (Nat.le_of_ble_eq_true rfl) fun x hx => ?_
  simp only [List.mem_cons, List.not_mem_nil, or_false] at hx
  rcases hx with rfl | rfl | rfl | rfl | rfl
  · exact (ns_tab (by omega) (by omega)).up
  · exact (ns_tab (by omega) (by omega)).up
  · exact (ns_tN (Nat.le_trans (List.length_filter_le _ _) (by decide))).up.up
  · exact (ns_lots hM).up
  · exact (ns_lots hM).up
theorem nums_in {l : List Nat} (h : l ∈ [[0, 4], [0, 2], [0, 1, 3], [0, 1, 2]]) : (!([tN [0, 4], tN [0, 2], tN [0, 1, 3], tN [0, 1, 2]] : List Dat).any fun z => PyData.eqv z (tN l)) = false := by
  simp only [List.mem_cons, List.not_mem_nil, or_false] at h
  rcases h with rfl | rfl | rfl | rfl <;> decide +kernel
theorem lap_ok {K : PySem.W.Frag} {E Nj : Hp} {D : Ends} {p : Addr} {o : HO} {n i : Nat} {ms : List Nat} (G : Geo) (hs : SX ms) (hn : Nj p = none) (hT : Tv o (n + 9)) (A : List Nat → Ss)
    (hA : ∀ ns, A ns = [.raw (.ref p), .val boardD, .val (.tuple (ms.map lt)), .no, .no, .no, .no, .no, .val (.tuple (ns.map lt)), .no, .no, .no, .no, .no, .val (.list (ms.map fun m => lN (bitsL m))), .val (.list (ns.map fun m => lN (bitsL m))), .no, .no])
    (hnx : ∀ ns o', SX ns → Tv o' n → ∀ N H σ, Wd (upd E p o') Nj N H → SS (upd E p o') N H σ (A ns) → D.nx σ H) :
    Okk (upd E p o) Nj (tSeq (tAsg (tCall sp__law_fours_by [] L2.E0 (tCons (tVar 1) (tCons (tCall sp__law_near_four [] L2.E0 (tCons (tVar 0) (tCons (tVar 2) tNil))) tNil))) (gName 8)) (tSeq (tPar3 13 14 15 (tCons (tCall sp__law_table [] L2.E0 (tCons (tVar 2) (tCons (tVar 8) tNil))) (tCons (tCall sp__law_lists [] L2.E0 (tCons (tVar 2) tNil)) (tCons (tCall sp__law_lists [] L2.E0 (tCons (tVar 8) tNil)) tNil)))) (tSeq (tAsg (tLst (tCons (tCall sp_shared_table [] L2.E0 (tCons (tVar 14) (tCons (tVar 15) tNil))) (tCons (tCall sp_shared_table [] L2.E0 (tCons (tVar 8) (tCons (tVar 2) tNil))) (tCons (tCall sp_meeting [] L2.E0 (tCons (tVar 15) (tCons (tVar 14) tNil))) (tCons (tCall sp_refined [] L2.E0 (tCons (tVar 14) (tCons (tVar 15) tNil))) (tCons (tCall sp_refined [] L2.E0 (tCons (tVar 8) (tCons (tVar 2) tNil))) tNil)))))) (gName 6)) (tSeq (tAsg (tLst (tCons (tVar 13) (tCons (tCall sp__law_table [] L2.E0 (tCons (tVar 8) (tCons (tVar 2) tNil))) (tCons (tCall sp__law_numbers [] L2.E0 (tCons (tVar 13) tNil)) (tCons (tCall sp__law_refined [] L2.E0 (tCons (tVar 2) (tCons (tVar 8) tNil))) (tCons (tCall sp__law_refined [] L2.E0 (tCons (tVar 2) (tCons (tVar 8) tNil))) tNil)))))) (gName 7)) (tIfS (tOr (tNot (tB (tCall sp__law_same [] L2.E0 (tCons (tVar 6) (tCons (tVar 7) tNil))))) (tTest (tOp (rNotInT K) (tCall sp__law_numbers [] L2.E0 (tCons (tVar 13) tNil)) (tTup (tCons (tTup (tCons (tC (.int 0)) (tCons (tC (.int 4)) tNil))) (tCons (tTup (tCons (tC (.int 0)) (tCons (tC (.int 2)) tNil))) (tCons (tTup (tCons (tC (.int 0)) (tCons (tC (.int 1)) (tCons (tC (.int 3)) tNil)))) (tCons (tTup (tCons (tC (.int 0)) (tCons (tC (.int 1)) (tCons (tC (.int 2)) tNil)))) tNil)))))))) (tRet (tC (.bl false))) tNext)))))
      D [.raw (.ref p), .val boardD, .val (.tuple (ms.map lt)), .val (nI i), .no, .no, .no, .no, .no, .no, .no, .no, .no, .no, .no, .no, .no, .no] := by
  have h6 := G.six ms hs
  have hml := h6.len
  refine okx_set (n := n) (k := 9) (Po := fun d => ∃ ms, d = .tuple (ms.map lt) ∧ SX ms) rfl hn hT (dx_fours G rfl ((dx_callT (k1 := 0) (k2 := 9) (Po := Four) (dxa_of (dea_1 (de_var (d := .tuple (ms.map lt)) rfl))) fun es he => ⟨ms, he, h6, rfl, rfl⟩).le (by decide))) ?_
  rintro _ o' ⟨ns, rfl, hns⟩ hT'
  have n6 := G.six ns hns
  have hnl := n6.len
  have b1 : ∀ m ∈ ms, m < 2 ^ 24 := fun m h => (h6.bd m h).1
  have b2 : ∀ m ∈ ns, m < 2 ^ 24 := fun m h => (n6.bd m h).1
  refine okk_par3 (d1 := tabM ms ns) (d2 := .list (ms.map fun m => lN (bitsL m))) (d3 := .list (ns.map fun m => lN (bitsL m)))
    (de_call (dea_2 (de_var (d := .tuple (ms.map lt)) rfl) (de_var (d := .tuple (ns.map lt)) rfl)) ⟨ms, ns, rfl, by omega, by omega, rfl⟩)
    (de_call (dea_1 (de_var (d := .tuple (ms.map lt)) rfl)) ⟨_, rfl, (lots_tup (by omega)).ns, (lisD_lots ms).symm⟩)
    (de_call (dea_1 (de_var (d := .tuple (ns.map lt)) rfl)) ⟨_, rfl, (lots_tup (by omega)).ns, (lisD_lots ns).symm⟩) ?_
  obtain ⟨M, hM1, hMl, hM2⟩ := once ((refM ms ns).filter fun x => decide (x ≠ 0))
  have hM3 : ∀ x, x ∈ M ↔ x ≠ 0 ∧ x ∈ refM ms ns := fun x => by rw [hM2, List.mem_filter, decide_eq_true_iff]; exact And.comm
  have hM4 : ∀ x, x ∈ M ↔ x ≠ 0 ∧ x ∈ refM ns ms := fun x => by rw [hM3, refM_comm]
  have hML : M.length ≤ 1000 := by
    have : M.length ≤ (refM ms ns).length := Nat.le_trans hMl (List.length_filter_le _ _)
    rw [refM_len, hml, hnl] at this
    omega
  have ls : Lots (.list (ms.map fun m => lN (bitsL m))) ms := lots_list (by omega)
  have lm : Lots (.list (ns.map fun m => lN (bitsL m))) ns := lots_list (by omega)
  have lo : Lots (.tuple (ms.map lt)) ms := lots_tup (by omega)
  have lt2 : Lots (.tuple (ns.map lt)) ns := lots_tup (by omega)
  have hcmp := cmp_ok ms ns h6 n6 M hML
  refine okk_set (d := .list [tabM ms ns, tabM ns ms, tN (numM ms ns), .tuple (srt (M.map lt)), .tuple (srt (M.map lt))]) (DeN.de (den_lst (dea_cons (de_call (dea_2 (de_var (d := .list (ms.map fun m => lN (bitsL m))) rfl) (de_var (d := .list (ns.map fun m => lN (bitsL m))) rfl)) ⟨_, _, ms, ns, rfl, ls, lm, by omega, by omega, rfl⟩)
    (dea_cons (de_call (dea_2 (de_var (d := .tuple (ns.map lt)) rfl) (de_var (d := .tuple (ms.map lt)) rfl)) ⟨_, _, ns, ms, rfl, lt2, lo, by omega, by omega, rfl⟩)
    (dea_cons (de_call (dea_2 (de_var (d := .list (ns.map fun m => lN (bitsL m))) rfl) (de_var (d := .list (ms.map fun m => lN (bitsL m))) rfl)) ⟨_, _, ns, ms, numM ms ns, rfl, lm, ls, by omega, by omega, numM_asc ms ns, numM_mem (fun m h => by have := (h6.bd m h).2; omega), rfl⟩)
    (dea_cons (de_call (dea_2 (de_var (d := .list (ms.map fun m => lN (bitsL m))) rfl) (de_var (d := .list (ns.map fun m => lN (bitsL m))) rfl)) ⟨_, _, ms, ns, M, rfl, ls, lm, by omega, by omega, b1, hM1, hM3, rfl⟩)
    (dea_cons (de_call (dea_2 (de_var (d := .tuple (ns.map lt)) rfl) (de_var (d := .tuple (ms.map lt)) rfl)) ⟨_, _, ns, ms, M, rfl, lt2, lo, by omega, by omega, b2, hM1, hM4, rfl⟩) dea_nil))))) (Nat.le_of_ble_eq_true rfl))) ?_
  refine okk_set (d := .list [tabM ms ns, tabM ns ms, tN (numM ms ns), .tuple (srt (M.map lt)), .tuple (srt (M.map lt))]) (DeN.de (den_lst (dea_cons (de_var rfl)
    (dea_cons (de_call (dea_2 (de_var (d := .tuple (ns.map lt)) rfl) (de_var (d := .tuple (ms.map lt)) rfl)) ⟨ns, ms, rfl, by omega, by omega, rfl⟩)
    (dea_cons (de_call (dea_1 (de_var (d := tabM ms ns) rfl)) ⟨ms, ns, rfl, by omega, rfl⟩)
    (dea_cons (de_call (dea_2 (de_var (d := .tuple (ms.map lt)) rfl) (de_var (d := .tuple (ns.map lt)) rfl)) ⟨ms, ns, M, rfl, by omega, by omega, b1, hM1, hM3, rfl⟩)
    (dea_cons (de_call (dea_2 (de_var (d := .tuple (ms.map lt)) rfl) (de_var (d := .tuple (ns.map lt)) rfl)) ⟨ms, ns, M, rfl, by omega, by omega, b1, hM1, hM3, rfl⟩) dea_nil))))) (Nat.le_of_ble_eq_true rfl))) ?_
  refine okk_ifE (b := false) (deb_or (a := false) (b := false) (deb_not (a := true) (deb_B (de_call (dea_2 (de_var rfl) (de_var rfl)) ⟨_, rfl, hcmp, rfl⟩))) fun _ => deb_test ((de_op (de_call (z := tN (numM ms ns)) (dea_1 (de_var (d := tabM ms ns) rfl)) ⟨ms, ns, rfl, by omega, rfl⟩) (de_tup (es := [tN [0, 4], tN [0, 2], tN [0, 1, 3], tN [0, 1, 2]]) (dea_cons (de_tup (dea_2 (de_n 0) (de_n 4)) (by decide)) (dea_cons (de_tup (dea_2 (de_n 0) (de_n 2)) (by decide)) (dea_cons (de_tup (dea_3 (de_n 0) (de_n 1) (de_n 3)) (by decide)) (dea_cons (de_tup (dea_3 (de_n 0) (de_n 1) (de_n 2)) (by decide)) dea_nil)))) (by decide)) (dr_notInT (shaped_nIs _) (by decide +kernel))).to ?_)) (fun z => by cases z) fun _ => ?_
  · rw [nums_in (G.num ms ns hs hns)]
  · refine okk_next fun N H σ w s => hnx ns o' hns hT' N H σ w ?_
    rw [hA]
    exact (((s.forget 3).forget 6).forget 7).forget 13
theorem dx_of8 {p : Addr} {ds : Sd} {te : TE} (G : Geo) (h : De te ds (lN E8)) : DX p (tCall sp__law_of [] L2.E0 (tCons (tVar 0) (tCons te tNil))) ds 1 (fun d => d ∈ E8.map nI) :=
  dx_callT (k1 := 0) (k2 := 1) (dxa_of (dea_1 h)) fun es he => ⟨_, E8.map nI, he, .inl rfl, fun z => G.ne8 (List.map_eq_nil_iff.mp z), by rw [List.length_map]; have := E8_len; omega, rfl, rfl⟩
theorem sx_len {ms : List Nat} (G : Geo) (h : SX ms) : ms.length = 6 := (G.six ms h).len
theorem pair_get {ms : List Nat} {R : Nat → Nat → Prop} (h : ms.Pairwise R) {j k : Nat} (hjk : j < k) (hk : k < ms.length) : R (ms.getD j 0) (ms.getD k 0) := by
  have hj : j < ms.length := by omega
  have e1 : ms.getD j 0 = ms[j] := by rw [List.getD_eq_getElem?_getD, List.getElem?_eq_getElem hj]; rfl
  have e2 : ms.getD k 0 = ms[k] := by rw [List.getD_eq_getElem?_getD, List.getElem?_eq_getElem hk]; rfl
  rw [e1, e2]
  exact List.pairwise_iff_getElem.mp h j k hj hk hjk
theorem get_lt {ms : List Nat} {j : Nat} (hj : j < ms.length) : (ms.map lt)[j]? = some (lt (ms.getD j 0)) := by
  rw [List.getElem?_map, List.getD_eq_getElem?_getD, List.getElem?_eq_getElem hj]; rfl
theorem many_pairs {ms : List Nat} (x : Nat) : x ∈ manyM ms ms.length ↔ x ∈ pairsM ms := by
  unfold manyM pairsM
  simp only [List.mem_flatMap, List.mem_map, List.mem_range]
  constructor
  · rintro ⟨k, hk, j, hj, rfl⟩
    refine ⟨j, by omega, ms.getD k 0, ?_, rfl⟩
    rw [List.getD_eq_getElem?_getD, List.getElem?_eq_getElem hk]
    exact List.mem_iff_getElem.mpr ⟨k - (j + 1), by rw [List.length_drop]; omega, by rw [List.getElem_drop]; show ms[j + 1 + (k - (j + 1))] = ms[k]; congr 1; omega⟩
  · rintro ⟨i, hi, b, hb, rfl⟩
    obtain ⟨l, hl, e⟩ := List.mem_iff_getElem.mp hb
    rw [List.length_drop] at hl
    rw [List.getElem_drop] at e
    refine ⟨i + 1 + l, by omega, i, by omega, ?_⟩
    rw [List.getD_eq_getElem?_getD (l := ms) (i := i + 1 + l), List.getElem?_eq_getElem (by omega)]
    show _ ||| ms[i + 1 + l] = _
    rw [e]
theorem manyM_mem {ms : List Nat} {k x : Nat} (h : x ∈ manyM ms k) : ∃ i j, i < j ∧ j < k ∧ x = ms.getD i 0 ||| ms.getD j 0 := by
  unfold manyM at h
  simp only [List.mem_flatMap, List.mem_map, List.mem_range] at h
  obtain ⟨a, ha, b, hb, rfl⟩ := h
  exact ⟨b, a, hb, ha, rfl⟩
theorem manyM_len (ms : List Nat) (k : Nat) : (manyM ms k).length ≤ k * k := by
  induction k with
  | zero => exact Nat.le_refl _
  | succ k ih => rw [manyM_succ, List.length_append, List.length_map, List.length_range, Nat.add_mul, Nat.mul_add]; omega
theorem many_nodup {ms : List Nat} (hl : ms.length = 6) (h : (pairsM ms).Nodup) : (manyM ms 6).Nodup := by
  obtain ⟨a, b, c, d, e, f, rfl⟩ : ∃ a b c d e f, ms = [a, b, c, d, e, f] := by
    match ms, hl with
    | [a, b, c, d, e, f], _ => exact ⟨a, b, c, d, e, f, rfl⟩
  have e1 : pairsM [a, b, c, d, e, f] = [a ||| b, a ||| c, a ||| d, a ||| e, a ||| f, b ||| c, b ||| d, b ||| e, b ||| f, c ||| d, c ||| e, c ||| f, d ||| e, d ||| f, e ||| f] := rfl
  have e2 : manyM [a, b, c, d, e, f] 6 = [a ||| b, a ||| c, b ||| c, a ||| d, b ||| d, c ||| d, a ||| e, b ||| e, c ||| e, d ||| e, a ||| f, b ||| f, c ||| f, d ||| f, e ||| f] := rfl
  have hp : (manyM [a, b, c, d, e, f] 6).Perm (pairsM [a, b, c, d, e, f]) := by
    rw [e1, e2]
    have : ∀ x : Fin 15 → Nat, ([x 0, x 1, x 5, x 2, x 6, x 9, x 3, x 7, x 10, x 12, x 4, x 8, x 11, x 13, x 14] : List Nat).Perm [x 0, x 1, x 2, x 3, x 4, x 5, x 6, x 7, x 8, x 9, x 10, x 11, x 12, x 13, x 14] := fun x => List.Perm.map x (show ([0, 1, 5, 2, 6, 9, 3, 7, 10, 12, 4, 8, 11, 13, 14] : List (Fin 15)).Perm [0, 1, 2, 3, 4, 5, 6, 7, 8, 9, 10, 11, 12, 13, 14] by decide)
    exact this fun i => ([a ||| b, a ||| c, a ||| d, a ||| e, a ||| f, b ||| c, b ||| d, b ||| e, b ||| f, c ||| d, c ||| e, c ||| f, d ||| e, d ||| f, e ||| f] : List Nat).get (Fin.cast rfl i)
  exact (List.Perm.nodup_iff hp).mpr h
/-- what stands behind the draws -/
theorem end_ok {K : PySem.W.Frag} {E Ni : Hp} {D : Ends} {p : Addr} {n : Nat} {Po : Dat → Prop} {o : HO} {ms ns u : List Nat} {e : Nat} (G : Geo) (hs : SX ms) (hns : SX ns) (hT : Tv o n) (hu : L4 u) (he : e ∈ E8) (hP : Po (.bool true)) (hR : RtX E Ni p n Po D.rt) :
    Okk (upd E p o) Ni (tSeq (tFor (iRng1 (tCons (tC (.int 6)) tNil)) (gName 5) (tAsg (tOp rCat (tVar 12) (tLc (iRng1 (tCons (tVar 5) tNil)) (gName 16) tYes (tCall sp__law_joined [] L2.E0 (tCons (tOp (rIx K) (tVar 2) (tVar 16)) (tCons (tOp (rIx K) (tVar 2) (tVar 5)) tNil))) [16])) (gName 12))) (tSeq (tAsg (tLst (tCons (tCall sp_shared [] L2.E0 (tCons (tVar 14) (tCons (tCB (rLstS K) (tCons (tVar 11) tNil)) tNil))) (tCons (tCall sp_shared [] L2.E0 (tCons (tVar 15) (tCons (tCB (rLstS K) (tCons (tVar 4) tNil)) tNil))) (tCons (tCall sp_eights_of_fours [] L2.E0 (tCons (tVar 14) tNil)) (tCons (tCall sp_fours_in [] L2.E0 (tCons (tCB (rLstS K) (tCons (tVar 4) tNil)) tNil)) tNil))))) (gName 6)) (tSeq (tAsg (tLst (tCons (tOp (rIx K) (tCall sp__law_table [] L2.E0 (tCons (tTup (tCons (tVar 11) tNil)) (tCons (tVar 2) tNil))) (tC (.int 0))) (tCons (tOp (rIx K) (tCall sp__law_table [] L2.E0 (tCons (tTup (tCons (tVar 4) tNil)) (tCons (tVar 8) tNil))) (tC (.int 0))) (tCons (tCB (rTupS K) (tCons (tCB (rSortD K) (tCons (tVar 12) tNil)) tNil)) (tCons (tCall sp__law_fours_in [] L2.E0 (tCons (tVar 1) (tCons (tVar 4) tNil))) tNil))))) (gName 7)) (tRet (tAndV (tCall sp__law_same [] L2.E0 (tCons (tVar 6) (tCons (tVar 7) tNil))) (tCB (rAll K) (tCons (tLc (iList K (tVar 12)) (gName 17) tYes (tCall sp__law_is_right [] L2.E0 (tCons (tVar 17) tNil)) [17]) tNil)))))))
      D [.raw (.ref p), .val boardD, .val (.tuple (ms.map lt)), .no, .val (lt e), .no, .no, .no, .val (.tuple (ns.map lt)), .no, .no, .val (lt (maskL u)), .val (.list []), .no, .val (.list (ms.map fun m => lN (bitsL m))), .val (.list (ns.map fun m => lN (bitsL m))), .no, .no] := by
  have h6 := G.six ms hs
  have n6 := G.six ns hns
  have hml := h6.len
  have hnl := n6.len
  have he24 := E8_bd e he
  have he8 := G.e8 e he
  have b1 : ∀ m ∈ ms, m < 2 ^ 24 := fun m h => (h6.bd m h).1
  refine okk_for (j := 5) (dei_rngN (n := 6) (de_n 6) (by decide)) (fun k => [.raw (.ref p), .val boardD, .val (.tuple (ms.map lt)), .no, .val (lt e), .no, .no, .no, .val (.tuple (ns.map lt)), .no, .no, .val (lt (maskL u)), .val (.list ((manyM ms k).map lt)), .no, .val (.list (ms.map fun m => lN (bitsL m))), .val (.list (ns.map fun m => lN (bitsL m))), .no, .no]) rfl (fun Nj k d hd => ?_) ?_
  · obtain ⟨hk, rfl⟩ := get_rng hd
    have hl := manyM_len ms k
    have hk36 : k * k ≤ 36 := Nat.le_trans (Nat.mul_le_mul (show k ≤ 6 by omega) (show k ≤ 6 by omega)) (by decide)
    refine okk_setN [5] ((DeN.de (den_op (x := .list ((manyM ms k).map lt)) (y := .list ((List.range k).map fun j => lt (ms.getD j 0 ||| ms.getD k 0))) (de_var rfl) (DeN.de (den_map (List.range k) (r := fun j => lt (ms.getD j 0 ||| ms.getD k 0)) (dei_rngN (n := k) (de_var rfl) (by omega)) (by rw [List.length_range]; omega) (by decide) fun j hj => ?_)) (drn_cat (by rw [List.length_map, List.length_map, List.length_range]; omega)))).to (e := .list ((manyM ms (k + 1)).map lt)) ?_) rfl
    · have hj := List.mem_range.mp hj
      exact de_call (dea_2 (de_ix (x := .tuple (ms.map lt)) (j := j) (z := lt (ms.getD j 0)) (de_var rfl) (de_var rfl) (.inr rfl) (get_lt (by omega))) (de_ix (x := .tuple (ms.map lt)) (j := k) (z := lt (ms.getD k 0)) (de_var rfl) (de_var rfl) (.inr rfl) (get_lt (by omega)))) ⟨_, _, rfl, pair_get h6.dj hj (by omega), rfl⟩
    · rw [manyM_succ, List.map_append, List.map_map]
      rfl
  · rw [List.length_map, List.length_range]
    let mm := manyM ms 6
    have hmm : ∀ x, x ∈ mm ↔ x ∈ pairsM ms := fun x => by rw [← many_pairs, hml]
    have hE : ∀ x ∈ mm, x ∈ E8 := fun x hx => by
      obtain ⟨i, j, h1, h2, rfl⟩ := manyM_mem hx
      exact pair_get (G.two ms hs) h1 (by omega)
    have hmml : mm.length ≤ 36 := manyM_len ms 6
    obtain ⟨es, he1, he2, he3, he4, he5⟩ := G.es
    obtain ⟨hp1, hp2⟩ := G.pairs ms hs
    have hnd : mm.Nodup ∨ True := .inr trivial
    have gd : srt (Gd e es) = srt (Gd e E8) := gd_srt e he2
    have ls : Lots (.list (ms.map fun m => lN (bitsL m))) ms := lots_list (by omega)
    have lm : Lots (.list (ns.map fun m => lN (bitsL m))) ns := lots_list (by omega)
    have hq : srt (mm.map lt) = srt ((pairsM ms).map lt) := by
      have hmn : mm.Nodup := many_nodup hml hp1
      exact srt_of_perm (n := 1) (lv_map lv_lt _) (List.Perm.map _ ((List.perm_ext_iff_of_nodup hmn hp1).mpr hmm))
    let row : List Nat → Nat → Dat := fun ms l => .tuple (ms.map fun s => nI (popc (s &&& l)))
    let got : List Dat := [row ms (maskL u), row ns e, .tuple (srt ((pairsM ms).map lt)), .list (srt (Gd e E8))]
    refine okk_set (d := .list got) (DeN.de (den_lst (dea_cons (de_call (dea_2 (de_var (d := .list (ms.map fun m => lN (bitsL m))) rfl) (DeN.de (den_lstS (x := lt (maskL u)) (de_var rfl) (.inr rfl)))) ⟨_, ms, maskL u, _, rfl, ls, .inl rfl, by omega, rfl⟩)
      (dea_cons (de_call (dea_2 (de_var (d := .list (ns.map fun m => lN (bitsL m))) rfl) (DeN.de (den_lstS (x := lt e) (de_var rfl) (.inr rfl)))) ⟨_, ns, e, _, rfl, lm, .inl rfl, by omega, rfl⟩)
      (dea_cons (de_call (dea_1 (de_var (d := .list (ms.map fun m => lN (bitsL m))) rfl)) ⟨_, ms, pairsM ms, rfl, ls, h6.le, b1, h6.ne, hp1, fun _ => Iff.rfl, hp2, rfl⟩)
      (dea_cons (de_call (z := .list (srt (Gd e E8))) (dea_1 (DeN.de (den_lstS (x := lt e) (de_var rfl) (.inr rfl)))) ⟨_, e, es, rfl, (ns_lst (by rw [List.length_map]; exact Nat.le_trans (popc_le e) (by decide)) ns_nIs).up, by rw [tupD, tupDA_ints]; rfl, he24, he8, he1, fun x hx => ⟨E8_bd x (he2.mem_iff.mp hx), G.e8 x (he2.mem_iff.mp hx)⟩, he3, he4, he5 e he24 he8, by rw [gd]⟩) dea_nil)))) (Nat.le_of_ble_eq_true rfl))) ?_
    have mmV : (tVar 12 : TE) = tVar 12 := rfl
    refine okk_set (d := .list got) (DeN.de (den_lst (dea_cons (de_ix (x := tabM [maskL u] ms) (j := 0) (z := row ms (maskL u)) (de_call (dea_2 (x := .tuple ([maskL u].map lt)) (de_tup (dea_1 (de_var rfl)) (Nat.le_of_ble_eq_true rfl)) (de_var (d := .tuple (ms.map lt)) rfl)) ⟨[maskL u], ms, rfl, by show 1 ≤ 1000; decide, by omega, rfl⟩) (de_n 0) (.inr rfl) rfl)
      (dea_cons (de_ix (x := tabM [e] ns) (j := 0) (z := row ns e) (de_call (dea_2 (x := .tuple ([e].map lt)) (de_tup (dea_1 (de_var rfl)) (Nat.le_of_ble_eq_true rfl)) (de_var (d := .tuple (ns.map lt)) rfl)) ⟨[e], ns, rfl, by show 1 ≤ 1000; decide, by omega, rfl⟩) (de_n 0) (.inr rfl) rfl)
      (dea_cons ((de_tupS (DeN.de (den_sortT (n := 1) (x := .list (mm.map lt)) (xs := mm.map lt) (de_var rfl) (.inl rfl) (by decide) (lv_map lv_lt _) (.inl (.inl fun d hd => ?_)))) (.inl rfl)).to (e := .tuple (srt ((pairsM ms).map lt))) (by rw [hq]))
      (dea_cons (de_call (dea_2 (de_var (d := boardD) rfl) (de_var (d := lt e) rfl)) ⟨e, rfl, he24, he8, G.tal, G.e8, rfl⟩) dea_nil)))) (Nat.le_of_ble_eq_true rfl))) ?_
    · obtain ⟨x, hx, rfl⟩ := List.mem_map.mp hd
      have := popc_ne (m := x) (by rw [G.e8 x (hE x hx)]; decide)
      unfold lt tN
      cases z : bitsL x with
      | nil => exact absurd z this
      | cons a l => exact ⟨_, _, rfl⟩
    have hN : Ns 4 (.list got) := by
      refine ns_lst (Nat.le_of_ble_eq_true rfl) fun x hx => ?_
      have rw1 : ∀ (l : List Nat) (q : Nat), l.length ≤ 1000 → Ns 1 (row l q) := fun l q hl => ns_tup (by rw [List.length_map]; omega) fun y hy => by obtain ⟨z, _, rfl⟩ := List.mem_map.mp hy; exact ns_nI _
      have hx : x = row ms (maskL u) ∨ x = row ns e ∨ x = .tuple (srt ((pairsM ms).map lt)) ∨ x = .list (srt (Gd e E8)) := by
        simpa only [got, List.mem_cons, List.not_mem_nil, or_false] using hx
      rcases hx with rfl | rfl | rfl | rfl
      · exact (rw1 ms _ (by omega)).up.up
      · exact (rw1 ns _ (by omega)).up.up
      · exact (ns_lots (by omega)).up
      · have hgl := grp_len e E8
        have hE8l := E8_len
        refine ns_lst (by rw [srt_length]; unfold Gd; rw [List.length_map]; omega) fun y hy => ?_
        obtain ⟨kv, hkv, rfl⟩ := List.mem_map.mp ((srt_perm _).mem_iff.mp hy)
        have := (grp_prop hkv).2.2.1
        exact ns_tup (by rw [srt_length, List.length_map]; simp only [List.length_cons]; omega) fun z hz => by
          obtain ⟨m, _, rfl⟩ := List.mem_map.mp ((srt_perm _).mem_iff.mp hz)
          exact ns_lt m
    refine okx_retP hT (de_andV (a := true) (b := true) (de_call (dea_2 (de_var rfl) (de_var rfl)) ⟨_, rfl, hN, rfl⟩) fun _ => ?_) hP hR
    refine (de_allF mm (fun _ => true) (DeN.de (den_map mm (r := fun _ => .bool true) (dei_list (xs := mm.map lt) (de_var rfl)) (by omega) (by decide) fun x hx => de_call (dea_1 (de_var (d := lt x) rfl)) ⟨x, rfl, G.right8 x (hE x hx), rfl⟩))).to (by rw [show mm.all (fun _ => true) = true from List.all_eq_true.mpr fun _ _ => rfl])
theorem ok__law_right {P : Program} {w : World} {K : PySem.W.Frag} : ∀ as c Po, R__law_right as c Po → ∀ (p : Addr) (o : HO) (n : Nat) (E0 Ni : Hp) (D : Ends), Ni p = none → Tv o (n + c) → RtX E0 Ni p n Po D.rt → Okk (upd E0 p o) Ni (t__law_right K P w) D (sX N__law_right p as) := by
  rintro _ _ _ ⟨rfl, rfl, G, rfl⟩ p o n E0 Ni D hn hT hR
  refine okk_set (d := boardD) (de_call dea_nil ⟨rfl, rfl⟩) ?_
  refine okk_skip ((deb_not (a := true) (deb_B (de_call (dea_1 (de_var (d := boardD) rfl)) ⟨rfl, G, rfl⟩)))) ?_
  refine okx_set (n := n + 96) (k := 4) (Po := fun d => ∃ ms, d = .tuple (ms.map lt) ∧ SX ms) rfl hn hT (dx_fours G rfl (dx_sort4 ((dx_pick (l := List.range 24) (c := 4) (DeN.de (den_listRg (n := 24) (de_n 24) (by decide))) (.inl rfl) (by decide) (by decide)).imp ?_))) ?_
  · rintro d ⟨u, rfl, h1, v, h2⟩
    have nd : (u ++ v).Nodup := (List.Perm.nodup_iff h2).mpr List.nodup_range
    exact ⟨u, rfl, h1, (List.nodup_append.mp nd).1, fun i hi => List.mem_range.mp (h2.mem_iff.mp (List.mem_append_left _ hi))⟩
  rintro _ o1 ⟨ms, rfl, hs⟩ hT1
  have h6 := G.six ms hs
  have hml := h6.len
  let A0 : Ss := [.raw (.ref p), .val boardD, .val (.tuple (ms.map lt)), .no, .no, .no, .no, .no, .no, .no, .no, .no, .no, .no, .no, .no, .no, .no]
  let A1 : List Nat → Ss := fun ns => [.raw (.ref p), .val boardD, .val (.tuple (ms.map lt)), .no, .no, .no, .no, .no, .val (.tuple (ns.map lt)), .no, .no, .no, .no, .no, .val (.list (ms.map fun m => lN (bitsL m))), .val (.list (ns.map fun m => lN (bitsL m))), .no, .no]
  refine okx_for (j := 3) (items := (List.range 3).map nI) hT1.mb (dei_rngN (n := 3) (de_n 3) (by decide)) (fun i o' ds' => Tv o' (n + 60 + (3 - i) * 9) ∧ ((i = 0 ∧ ds' = A0) ∨ ∃ ns, SX ns ∧ ds' = A1 ns)) ⟨hT1.mono (by omega), .inl ⟨rfl, rfl⟩⟩ (fun Nj i d o' ds' hn' hd hv => ?_) hn fun o' ds' hv => ?_
  · obtain ⟨hi, rfl⟩ := get_rng hd
    obtain ⟨hT', hv⟩ := hv
    rcases hv with ⟨rfl, rfl⟩ | ⟨ns, hns, rfl⟩
    · exact lap_ok (n := n + 60 + (3 - (0 + 1)) * 9) G hs hn' (hT'.mono (by omega)) A1 (fun ns => rfl) (fun ns o2 hns ht N H σ w s => ⟨o2, A1 ns, ⟨ht, .inr ⟨ns, hns, rfl⟩⟩, N, w, s⟩)
    · exact okk_forget 8 (okk_forget 14 (okk_forget 15 (lap_ok (n := n + 60 + (3 - (i + 1)) * 9) G hs hn' (hT'.mono (by omega)) A1 (fun ns => rfl) (fun ns o2 hns ht N H σ w s => ⟨o2, A1 ns, ⟨ht, .inr ⟨ns, hns, rfl⟩⟩, N, w, s⟩))))
  · rw [List.length_map, List.length_range] at hv
    obtain ⟨hT', hv⟩ := hv
    rcases hv with ⟨h, _⟩ | ⟨ns, hns, rfl⟩
    · cases h
    have hT2 : Tv o' (n + 58 + 2) := hT'.mono (by omega)
    refine okx_two (n := n + 58) (k := 2) (Pj := fun x y => ∃ a b, x = lt a ∧ y = lt b ∧ a &&& b = 0 ∧ a ||| b ∈ E8) rfl hn hT2 ?_ ?_
    · have e : min 2 (ms.map lt).length = 2 := by rw [List.length_map, hml]; rfl
      refine ((dx_callT (k1 := 0) (k2 := 2) (Po := fun d => ∃ zs rest, d = .list zs ∧ zs.length = min 2 (ms.map lt).length ∧ (zs ++ rest).Perm (ms.map lt)) (dxa_of (dea_2 (de_var (d := .tuple (ms.map lt)) rfl) (de_n 2))) fun es he => ⟨_, ms.map lt, 2, he, .inr rfl, by rw [List.length_map, hml]; decide, by decide, Nat.le_of_eq e, fun zs rest h1 h2 => ⟨zs, rest, rfl, h1, h2⟩⟩).le (by omega)).imp ?_
      rintro d ⟨zs, rest, rfl, h1, h2⟩
      obtain ⟨ms', hp, e2⟩ := perm_map_inv lt ms _ h2
      obtain ⟨u, v, rfl, e3, e4⟩ := List.map_eq_append_iff.mp e2.symm
      rw [← e3, List.length_map, e] at h1
      obtain ⟨a, b, rfl⟩ : ∃ a b, u = [a, b] := by
        match u, h1 with
        | [a, b], _ => exact ⟨a, b, rfl⟩
      have hdj : ([a, b] ++ v).Pairwise fun a b => a &&& b = 0 := (List.Perm.pairwise_iff (fun {x y} h => by rw [Nat.and_comm]; exact h) hp).mpr h6.dj
      have h8 : ([a, b] ++ v).Pairwise fun a b => a ||| b ∈ E8 := (List.Perm.pairwise_iff (fun {x y} h => by rw [Nat.or_comm]; exact h) hp).mpr (G.two ms hs)
      exact ⟨lt a, lt b, by rw [← e3]; rfl, a, b, rfl, rfl, (List.pairwise_cons.mp hdj).1 b (by simp), (List.pairwise_cons.mp h8).1 b (by simp)⟩
    rintro _ _ o2 ⟨a, b, rfl, rfl, hab, hab8⟩ hT3
    refine okx_set (n := n + 56) (k := 2) (Po := fun d => ∃ e, d = lt e ∧ e ∈ E8) rfl hn (hT3.mono (by omega)) ((dx_if (k1 := 1) (k2 := 1) ((dx_op (k1 := 1) (k2 := 0) (P2 := fun x => x = nI 0) (dx_take (b := 3) (de_n 3) (by decide) (by decide)) (dx_of (de_n 0)) ?_).le (by decide)) ((dx_of (de_call (z := lt (a ||| b)) (dea_2 (de_var (d := lt a) rfl) (de_var (d := lt b) rfl)) ⟨a, b, rfl, hab, rfl⟩)).imp ?_ |>.le (by decide)) ((dx_callP (dxa_1 (dx_of8 G (de_ix (x := boardD) (j := 1) (z := lN E8) (de_var rfl) (de_n 1) (.inr rfl) rfl))) ?_).le (by decide)))) ?_
    · rintro _ _ ⟨r, hr, rfl⟩ rfl
      exact ⟨_, dr_B0, _, rfl⟩
    · rintro d rfl
      exact ⟨_, rfl, hab8⟩
    · rintro _ ⟨x, _, rfl, hx, rfl⟩
      obtain ⟨e, he, rfl⟩ := List.mem_map.mp hx
      exact ⟨lt e, ⟨e, rfl, rfl⟩, e, rfl, he⟩
    rintro _ o3 ⟨e, rfl, he⟩ hT4
    refine okx_parN (n := n) (k := 25) (xs := []) (Po := fun d => ∃ u, L4 u ∧ d = lt (maskL u)) rfl hn (hT4.mono (by omega)) ?_ (DeN.de (den_lst dea_nil (by decide))) ?_
    · refine (dx_cb (dxa_1 (P1 := fun d => ∃ u : List Nat, d = .list ((bitsL (maskL u)).map nI) ∧ L4 u) (dx_cb (dxa_1 (P1 := fun d => ∃ u : List Nat, d = .list (u.map nI) ∧ L4 u) ((dx_callT (k1 := 1) (k2 := 24) (Po := fun d => ∃ zs rest, d = .list zs ∧ (zs ++ rest).Perm ((List.range 24).map nI)) (dxa_cons (k1 := 0) (k2 := 1) (dx_of (DeN.de (den_listRg (n := 24) (de_n 24) (by decide)))) (dxa_1 (dx_take (b := 25) (de_n 25) (by decide) (by decide)))) ?_).imp ?_)) ?_)) ?_).le (by decide)
      · rintro _ ⟨_, _, rfl, rfl, _, _, rfl, ⟨r, hr, rfl⟩, rfl⟩
        exact ⟨_, (List.range 24).map nI, r, rfl, .inl rfl, by rw [List.length_map, List.length_range]; decide, by omega, by rw [List.length_map, List.length_range]; exact Nat.min_le_right _ _, fun zs rest _ h2 => ⟨zs, rest, rfl, h2⟩⟩
      · rintro d ⟨zs, rest, rfl, h2⟩
        obtain ⟨ms', hp, e2⟩ := perm_map_inv nI (List.range 24) _ h2
        obtain ⟨u, v, rfl, e3, e4⟩ := List.map_eq_append_iff.mp e2.symm
        have nd : (u ++ v).Nodup := (List.Perm.nodup_iff hp).mpr List.nodup_range
        exact ⟨u, by rw [e3], (List.nodup_append.mp nd).1, fun i hi => List.mem_range.mp (hp.mem_iff.mp (List.mem_append_left _ hi))⟩
      · rintro _ ⟨_, _, rfl, ⟨u, rfl, h2⟩, rfl⟩
        exact ⟨_, dcn_dc (dcn_sortI (.inl rfl) (maskL_perm h2) ((bitsL_asc _).imp Nat.le_of_lt)), u, rfl, h2⟩
      · rintro _ ⟨_, _, rfl, ⟨u, rfl, h2⟩, rfl⟩
        exact ⟨_, dc_tuple (.inl rfl), u, h2, rfl⟩
    rintro _ o4 ⟨u, hu, rfl⟩ hT5
    exact okk_forget 9 (okk_forget 10 (end_ok (Po := fun d => d = .bool true) G hs hns hT5 hu he rfl hR))

theorem cal__law_right {P : Program} {w : World} {K : PySem.W.Frag} {mg : Str → Option Value} {base : Heap} {f : Addr} {fd : FuncData} (T : Tx K mg) (C__law_board : Cal P w K mg base 5 "_law_board" p__law_board sp__law_board) (C__law_front_right : Cal P w K mg base 6 "_law_front_right" p__law_front_right sp__law_front_right) (C__law_fours_by : Cal P w K mg base 3 "_law_fours_by" p__law_fours_by sp__law_fours_by) (C__law_pick : Cal P w K mg base 2 "_law_pick" p__law_pick sp__law_pick) (C__law_near_four : Cal P w K mg base 3 "_law_near_four" p__law_near_four sp__law_near_four) (C__law_lists : Cal P w K mg base 3 "_law_lists" p__law_lists sp__law_lists) (C__law_table : Cal P w K mg base 1 "_law_table" p__law_table sp__law_table) (C_refined : Cal P w K mg base 4 "refined" p_refined sp_refined) (C_meeting : Cal P w K mg base 5 "meeting" p_meeting sp_meeting) (C_shared_table : Cal P w K mg base 4 "shared_table" p_shared_table sp_shared_table) (C__law_refined : Cal P w K mg base 1 "_law_refined" p__law_refined sp__law_refined) (C__law_numbers : Cal P w K mg base 1 "_law_numbers" p__law_numbers sp__law_numbers) (C__law_same : Cal P w K mg base 5 "_law_same" p__law_same sp__law_same) (C__law_take : Cal P w K mg base 1 "_law_take" p__law_take sp__law_take) (C__law_joined : Cal P w K mg base 1 "_law_joined" p__law_joined sp__law_joined) (C__law_lot : Cal P w K mg base 1 "_law_lot" p__law_lot sp__law_lot) (C__law_of : Cal P w K mg base 2 "_law_of" p__law_of sp__law_of) (C_fours_in : Cal P w K mg base 7 "fours_in" p_fours_in sp_fours_in) (C_eights_of_fours : Cal P w K mg base 4 "eights_of_fours" p_eights_of_fours sp_eights_of_fours) (C_shared : Cal P w K mg base 4 "shared" p_shared sp_shared) (C__law_fours_in : Cal P w K mg base 2 "_law_fours_in" p__law_fours_in sp__law_fours_in) (C__law_is_right : Cal P w K mg base 3 "_law_is_right" p__law_is_right sp__law_is_right) (F : FnP K "_law_right" (top 63) f fd) (hm : mg "_law_right" = some (.ref f)) : Cal P w K mg base 8 "_law_right" p__law_right sp__law_right :=
  cal_of F hm (FunD.bindsN F fun _ _ _ _ _ _ us hl => match us, hl with | [_], _ => rfl) (fn_tin F sc__law_right (len__law_right) fun cdv A outer s H E hr => ⟨_, ps__law_right T C__law_board C__law_front_right C__law_fours_by C__law_pick C__law_near_four C__law_lists C__law_table C_refined C_meeting C_shared_table C__law_refined C__law_numbers C__law_same C__law_take C__law_joined C__law_lot C__law_of C_fours_in C_eights_of_fours C_shared C__law_fours_in C__law_is_right cdv A outer s H E hr, ok__law_right⟩)

def sp_law (K : PySem.W.Frag) : Sp := fun vs H Q _ => ∃ (a : Addr) (ns : List Int), vs = [.ref a] ∧ SqL K H a (ns.map V.int) ∧ ns.length ≤ 63 ∧ Geo ∧ ∀ H', Q (.bl true) H'


abbrev N_law : List Str := ["_law_script"]
abbrev p_law : List Str := ["_law_script"]
theorem sc_law : FnScope N_law p_law (defScope (top 64)) := ⟨rfl, rfl, rfl, by decide +kernel, rfl, by decide +kernel, by decide +kernel⟩
def t_law (K : PySem.W.Frag) (P : Program) (w : World) : TS := tRet (tCall sp__law_right [] E0 (tCons (tCall sp__law_box [] E0 (tCons (tCall (sp__law_cells K) [] E0 (tCons (tVar 0) (tCons (tC (.int 1)) (tNil)))) (tCons (tC (.int 0)) (tNil)))) (tNil)))
theorem ps_law {P : Program} {w : World} {K : PySem.W.Frag} {mg : Str → Option Value} {base : Heap} {f : Addr} (T : Tx K mg) (C__law_right : Cal P w K mg base 8 "_law_right" p__law_right sp__law_right) (C__law_box : Cal P w K mg base 1 "_law_box" p__law_box sp__law_box) (C__law_cells : Cal P w K mg base 1 "_law_cells" p__law_cells (sp__law_cells K)) (cdv : Value) (A : Around) (outer : List Env) (s : Shared) (H : Hp) (E : XK) (hr : Room 8 (A.deeper (envOfC "law" (defScope (top 64)) s.heap.objs.size f cdv))) :
    PSs (cxOf CX0 P w K mg base N_law "law" (defScope (top 64)) f cdv A outer s H E).nox (defBody (top 64)) (t_law K P w) := by
  have nd := sc_law.nd
  have hu := hu_of hr
  unfold t_law
  exact pss_one (ps_ret (pe_cal C__law_right hr (pa_cons (pe_cal C__law_box hr (pa_cons (pe_cal C__law_cells hr (pa_cons (pv 0) (pa_cons (pe_int) (pa_nil)))) (pa_cons (pe_int) (pa_nil)))) (pa_nil))))
theorem law_ok {P : Program} {w : World} {K : PySem.W.Frag} {mg : Str → Option Value} {base : Heap} {f : Addr} {fd : FuncData} (T : Tx K mg) (C1 : Cal P w K mg base 8 "_law_right" p__law_right sp__law_right) (C2 : Cal P w K mg base 1 "_law_box" p__law_box sp__law_box) (C3 : Cal P w K mg base 1 "_law_cells" p__law_cells (sp__law_cells K)) (F : FnP K "law" (top 64) f fd) :
    FnOk P w K mg base CX0 (8 + 1) f fd p_law (sp_law K) := by
  refine F.ok sc_law (fun vs H Q E h => ?_) fun cdv A outer s H vs Q E hr h => ?_
  · obtain ⟨a, ns, rfl, _⟩ := h
    rfl
  · obtain ⟨a, ns, rfl, hS, hl, G, hQ⟩ := h
    refine ⟨_, (ps_law T C1 C2 C3 cdv A outer s H E hr).nox, ?_⟩
    refine ⟨_, rfl, a, ns, rfl, hS, hl, fun c v N1 H1 s1 r1 => ?_⟩
    obtain ⟨x, y, hb, hy⟩ := box_ok c
    refine ⟨N1, [.list [.int c], nI 0], lN [x, y, 0], s1.nh, .cons r1 (.cons (.int 0) .nil), hb, fun v2 N2 H2 s2 r2 => ?_⟩
    obtain ⟨p, us, rfl, hp, ru⟩ := Rp.list_ref r2
    have hus : us = [.int (x : Int), .int (y : Int), .int 0] := by
      cases ru with
      | cons a1 t1 =>
        cases t1 with
        | cons a2 t2 =>
          cases t2 with
          | cons a3 t3 =>
            cases t3
            rw [Rp.int_eq (i := (x : Int)) a1, Rp.int_eq (i := (y : Int)) a2, Rp.int_eq (i := 0) a3]
    refine ⟨p, [], fun _ => none, [], 0, 100, fun d => d = .bool true, rfl, fun _ _ e => (by cases e), rfl, ⟨_, s2.nh _ _ hp, (x : Int), (y : Int), 0, by rw [hus], Int.natCast_nonneg _, Int.natCast_nonneg _, by omega, by decide, by decide⟩, .nil, ⟨rfl, rfl, G, rfl⟩, fun v d N3 H3 s3 t3 r3 e3 => ?_⟩
    subst e3
    rw [r3.bool_eq]
    exact hQ H3

end Ez

set_option Elab.async false
set_option linter.all false
set_option autoImplicit false
set_option maxRecDepth 1000000
set_option maxHeartbeats 0
/-! eights and fours: what the kernel computes -/
namespace Ez
open PySem L2
def EM : List Nat := [255, 3855, 4080, 61455, 61680, 65280, 983055, 983280, 986880, 1044480, 15728655, 15728880, 15732480, 15790080, 16711680, 5844995, 5881868, 5648396, 5685251, 11087884,
  11124739, 10891267, 10928140, 9654277, 9674762, 10244106, 10264581, 6508554, 6529029, 7098373, 7118858, 13262854, 13275145, 12935177, 12947462, 3825673, 3837958, 3497990, 3510281, 9777200,
  9814208, 10105024, 10141744, 6631616, 6668336, 6959152, 6996160, 13369395, 13369548, 12779580, 12779715, 3932220, 3932355, 3342387, 3342540, 417845, 417994, 430138, 430277, 614458,
  614597, 626741, 626890, 5263417, 5263558, 5283894, 5284041, 10506294, 10506441, 10526777, 10526918, 3756112, 3776672, 3559584, 3579984, 13193376, 13213776, 12996688, 13017248, 6316115,
  6316204, 6328412, 6328483, 9461852, 9461923, 9474131, 9474220, 11141205, 11141290, 10813530, 10813605, 5898330, 5898405, 5570645, 5570730, 208985, 209062, 245846, 245929, 798806,
  798889, 835673, 835750, 11296864, 11309200, 10707088, 10719328, 6054032, 6066272, 5464160, 5476496, 348268, 348307, 368739, 368796, 675939, 675996, 696428, 696467, 3158122,
  3158165, 3194981, 3195034, 12595301, 12595354, 12632170, 12632213, 6684774, 6684825, 6881385, 6881430, 9830505, 9830550, 10027110, 10027161, 3355392, 3394560, 3947520, 3982080, 12794880,
  12829440, 13382400, 13421568, 6947587, 6949900, 6619916, 6622211, 10093324, 10095619, 9765635, 9767948, 10511109, 10513418, 10523402, 10525701, 5268234, 5270533, 5280517, 5282826, 611081,
  613382, 631558, 633865, 414470, 416777, 434953, 437254, 10879792, 10882240, 11076544, 11078704, 5637056, 5639216, 5833520, 5835968, 13107, 13260, 15420, 15555, 49980,
  50115, 52275, 52428, 680784, 683168, 693152, 695376, 353184, 355408, 365392, 367776, 12583766, 12583849, 12586073, 12586150, 3146585, 3146662, 3148886, 3148969, 9458576,
  9460832, 9479008, 9481360, 6312800, 6315152, 6333328, 6335584, 787301, 787354, 789610, 789653, 197482, 197525, 199781, 199834, 5592320, 5614080, 5921280, 5940480, 10836480,
  10855680, 11162880, 11184640, 812291, 813580, 824588, 825859, 222476, 223747, 234755, 236044, 12977413, 12978698, 13174026, 13175301, 3540234, 3541509, 3736837, 3738122, 9450761,
  9452038, 9487622, 9488905, 6305030, 6306313, 6341897, 6343174, 12608816, 12610240, 12621248, 12622384, 3171776, 3172912, 3183920, 3185344, 656694, 656841, 657977, 658118, 329017,
  329158, 330294, 330441, 7079248, 7080608, 6489504, 6490704, 10225056, 10226256, 9635152, 9636512, 21845, 21930, 23130, 23205, 42330, 42405, 43605, 43690, 603536,
  604768, 640352, 641680, 406880, 408208, 443792, 445024, 10487139, 10487196, 10488428, 10488467, 5244268, 5244307, 5245539, 5245596, 6710784, 6723840, 6908160, 6919680, 9857280,
  9868800, 10053120, 10066176, 3167756, 3168515, 3188227, 3189004, 12604931, 12605708, 12625420, 12626179, 341514, 342277, 378373, 379146, 669189, 669962, 706058, 706821, 11273734,
  11274505, 10683913, 10684678, 6030857, 6031622, 5441030, 5441801, 218816, 219440, 239152, 240064, 808496, 809408, 829120, 829744, 6293045, 6293194, 6293818, 6293957, 9438778,
  9438917, 9439541, 9439690, 5256864, 5257552, 5293648, 5294496, 10499664, 10500512, 10536608, 10537296, 394835, 394924, 395612, 395683, 591452, 591523, 592211, 592300, 13239904,
  13240720, 12912272, 12912992, 3802768, 3803488, 3475040, 3475856, 26214, 26265, 26985, 27030, 38505, 38550, 39270, 39321, 1118494, 1118689, 1121809, 1171729, 1970449,
  14749969, 4727069, 4727266, 4730386, 4772114, 4661522, 12067090, 8536347, 8536548, 8539668, 8565012, 9257236, 7487764, 13926680, 2851096, 2388248, 2392343, 2392552, 2395672, 8659246,
  8659409, 8662561, 8704289, 9117985, 7610657, 13766946, 2953506, 2232621, 2232786, 2235938, 2285858, 1540388, 1601828, 1605931, 1606100, 1609252, 15237412, 5128488, 4276519, 4276696,
  4279848, 4305192, 11616552, 2638158, 2638257, 2641473, 2666817, 2572609, 14172481, 7438658, 8483138, 8487245, 8487346, 8490562, 9339202, 11800900, 4919620, 4460875, 4460980, 4464196,
  4514116, 14819656, 1188167, 1188280, 1191496, 1233224, 1909064, 11698561, 5079425, 4354433, 4358513, 4358542, 4361857, 14958978, 1327474, 1327501, 1330818, 1356162, 1786242, 3023236,
  2171252, 2171275, 2174596, 2216324, 13705604, 7868808, 8851848, 8917368, 8917383, 8920712, 8970632, 2236958, 2237153, 2239761, 2282001, 2957841, 13771281, 7606802, 9114130, 8655389,
  8655586, 8658194, 8708626, 11633172, 4289044, 4293147, 4293348, 4295956, 5145108, 15221272, 1589783, 1589992, 1592600, 1618456, 1524248, 12063265, 4657697, 4723246, 4723409, 4726049,
  4776481, 14754338, 1974818, 1122861, 1123026, 1125666, 1167906, 2376235, 2376404, 2379044, 2404900, 2834980, 13910564, 7504424, 9273896, 8548904, 8552999, 8553176, 8555816, 1802817,
  1339969, 1344078, 1344177, 1346881, 14975553, 4342349, 4342450, 4345154, 4371010, 5063234, 11682370, 8921675, 8921780, 8924484, 8966724, 8856132, 7873092, 13701704, 2167367, 2167480,
  2170184, 2220616, 3019336, 9323137, 8471153, 8471182, 8473985, 8499841, 7422593, 14189186, 2589314, 2650754, 2654834, 2654861, 2657666, 1905284, 1184372, 1184395, 1187204, 1237636,
  14815876, 4465272, 4465287, 4468104, 4510344, 4924040, 11805320, 4473886, 4474081, 4475665, 4502545, 4932625, 11813905, 1934354, 1209362, 1213469, 1213666, 1215250, 14844946, 14160916,
  2561044, 2626587, 2626788, 2628372, 2679828, 9315352, 8463383, 8463592, 8465176, 8508440, 7414808, 13730849, 2192417, 2196526, 2196689, 2198305, 3048481, 8930349, 8930514, 8932130,
  8959010, 8864802, 7881762, 4334635, 4334804, 4336420, 4379684, 5055524, 11674660, 1774632, 1315879, 1316056, 1317672, 1369128, 14947368, 7476289, 9245761, 8524878, 8524977, 8526657,
  8578113, 2368589, 2368690, 2370370, 2413634, 2827330, 13902914, 14763076, 1983556, 1131595, 1131700, 1133380, 1160260, 12092488, 4686920, 4748360, 4752455, 4752568, 4754248, 15213697,
  1582193, 1582222, 1584001, 1627265, 1516673, 11605122, 4265074, 4265101, 4266882, 4318338, 5117058, 7636100, 9143428, 8680580, 8684660, 8684683, 8686468, 2245752, 2245767, 2247560,
  2274440, 2966664, 13780104, 7899153, 8882193, 8943633, 8947473, 8947742, 8947937, 3033106, 2180882, 2181149, 2181346, 2209810, 13715474, 14952468, 1320724, 1320987, 1321188, 1366036,
  1779732, 11671576, 5052440, 4331288, 4331543, 4331752, 4384792, 14829601, 1197857, 1198126, 1198289, 1226785, 1919009, 11831330, 4950050, 4487202, 4491042, 4491309, 4491474, 7411748,
  8460068, 8460331, 8460500, 8513572, 9312292, 2631464, 2631719, 2631896, 2676776, 2566184, 14166056, 5122113, 4269889, 4270158, 4270257, 4315201, 11610177, 1513538, 1578818, 1579085,
  1579186, 1632322, 15210562, 13797444, 2984004, 2259012, 2262852, 2263115, 2263220, 8669000, 8669255, 8669368, 8697928, 9128008, 7620680, 13899905, 2824321, 2365313, 2365553, 2365582,
  2418817, 8529794, 8530034, 8530061, 8575106, 9250946, 7481474, 4736900, 4737140, 4737163, 4765828, 4671620, 12077188, 1144968, 1148808, 1149048, 1149063, 2001032, 14780552]
def leafB (m : Nat) : List Nat → Nat → Bool
  | [], acc => acc == 16777215
  | e :: r, acc => (acc &&& (e ^^^ m)) == 0 && leafB m r (acc ||| (e ^^^ m))
def leafC (m : Nat) (C : List Nat) : Bool := C.length == 5 && leafB m C m
def chkD (m c : Nat) (C : List Nat) : Bool := (List.range c).all fun d => leafC (m ||| 2 ^ d) (C.filter (fun e => e.testBit d))
def chkC (m b : Nat) (C : List Nat) : Bool := (List.range b).all fun c => chkD (m ||| 2 ^ c) c (C.filter (fun e => e.testBit c))
def chkB (m a : Nat) (C : List Nat) : Bool := (List.range a).all fun b => chkC (m ||| 2 ^ b) b (C.filter (fun e => e.testBit b))
def chkA (C : List Nat) : Bool := (List.range 24).all fun a => chkB (2 ^ a) a (C.filter (fun e => e.testBit a))
end Ez

set_option Elab.async false
set_option linter.all false
set_option autoImplicit false
set_option maxRecDepth 1000000
set_option maxHeartbeats 0
/-! what the kernel computes: the board's eights -/
namespace Ez
open PySem L2
theorem em_eq : (RT.filter fun m => decide (popc m = 8)) = EM := by decide +kernel
theorem rt_w : (RT.all fun m => decide (popc m = 0 ∨ popc m = 8 ∨ popc m = 12 ∨ popc m = 16 ∨ popc m = 24)) = true := by decide +kernel
theorem em_right : (EM.all rightOK) = true := by decide +kernel
end Ez

set_option Elab.async false
set_option linter.all false
set_option autoImplicit false
set_option maxRecDepth 1000000
set_option maxHeartbeats 0
/-! what the kernel computes: the package's eights -/
namespace Ez
open PySem L2
theorem raw_perm : (rawE.map maskL).isPerm EM = true := by decide +kernel
theorem raw_asc : (rawE.all fun l => decide (l = bitsL (maskL l))) = true := by decide +kernel
end Ez

set_option Elab.async false
set_option linter.all false
set_option autoImplicit false
set_option maxRecDepth 1000000
set_option maxHeartbeats 0
/-! what the kernel computes: fours -/
namespace Ez
open PySem L2
theorem chk_all : chkA EM = true := by decide +kernel
end Ez

set_option Elab.async false
set_option linter.all false
set_option autoImplicit false
set_option maxRecDepth 1000000
set_option maxHeartbeats 0
/-! what the kernel computes: no eight twice -/
namespace Ez
open PySem L2
def diffB : List Nat → Bool
  | [] => true
  | a :: l => (l.all fun b => !(Nat.beq a b)) && diffB l
theorem em_diff : diffB EM = true := by decide +kernel
end Ez

set_option Elab.async false
set_option linter.all false
set_option autoImplicit false
set_option maxRecDepth 100000
set_option maxHeartbeats 1000000
/-! the geometry -/
namespace Ez
open PySem L2
/-! ### counting bits -/
def cntB (n i : Nat) : Nat := ((List.range n).filter i.testBit).length
theorem cntB_succ (n i : Nat) : cntB (n + 1) i = cntB n i + if i.testBit n then 1 else 0 := by
  unfold cntB
  rw [List.range_succ, List.filter_append, List.length_append, List.filter_cons]
  split <;> rfl
theorem cntB_congr {n i j : Nat} (h : ∀ k, k < n → i.testBit k = j.testBit k) : cntB n i = cntB n j := by
  unfold cntB
  rw [List.filter_congr fun k hk => h k (List.mem_range.mp hk)]
theorem tal_get : ∀ (n i : Nat), i < 2 ^ n → (tal n).getD i 0 = cntB n i
  | 0, i, h => by
    have : i = 0 := by simpa using h
    subst this; rfl
  | n + 1, i, h => by
    have hl := tal_len n
    unfold tal
    rw [cntB_succ]
    by_cases hi : i < 2 ^ n
    · rw [List.getD_eq_getElem?_getD, List.getElem?_append_left (by rw [hl]; exact hi), ← List.getD_eq_getElem?_getD, tal_get n i hi, Nat.testBit_lt_two_pow hi]
      rfl
    · obtain ⟨j, rfl⟩ : ∃ j, i = 2 ^ n + j := ⟨i - 2 ^ n, by omega⟩
      have hj : j < 2 ^ n := by rw [Nat.pow_succ] at h; omega
      rw [List.getD_eq_getElem?_getD, List.getElem?_append_right (by rw [hl]; omega), hl, Nat.add_sub_cancel_left, List.getElem?_map, List.getElem?_eq_getElem (by rw [hl]; exact hj)]
      have ih := tal_get n j hj
      rw [List.getD_eq_getElem?_getD, List.getElem?_eq_getElem (by rw [hl]; exact hj)] at ih
      have ih : (tal n)[j]'(by rw [hl]; exact hj) = cntB n j := ih
      show (tal n)[j]'(by rw [hl]; exact hj) + 1 = _
      rw [ih, Nat.testBit_two_pow_add_eq, Nat.testBit_lt_two_pow hj]
      rw [cntB_congr (i := 2 ^ n + j) (j := j) fun k hk => Nat.testBit_two_pow_add_gt hk j]
      rfl
theorem geo_tal : ∀ z, z < 2 ^ 24 → talN z = popc z := fun z hz => by
  unfold talN
  rw [tal_get 12 _ (Nat.lt_of_le_of_lt Nat.and_le_right (by decide)), tal_get 12 _ (show z / 4096 < 2 ^ 12 by omega)]
  show _ = cntB 24 z
  have e1 : cntB 12 (z &&& 4095) = cntB 12 z := cntB_congr fun k hk => by
    rw [Nat.testBit_and, show (4095 : Nat) = 2 ^ 12 - 1 from rfl, Nat.testBit_two_pow_sub_one, decide_eq_true hk, Bool.and_true]
  rw [e1]
  unfold cntB
  rw [show (24 : Nat) = 12 + 12 from rfl, List.range_add, List.filter_append, List.length_append, List.filter_map, List.length_map]
  congr 2
  apply List.filter_congr
  intro k _
  show (z / 4096).testBit k = z.testBit (12 + k)
  rw [show (4096 : Nat) = 2 ^ 12 from rfl, Nat.testBit_div_two_pow, Nat.add_comm]
theorem e8_eq : E8 = EM := by
  rw [← em_eq]
  unfold E8
  apply List.filter_congr
  intro m hm
  rw [geo_tal m (RT_bd m hm)]
theorem geo_e8 : ∀ e ∈ E8, popc e = 8 := fun e he => by
  rw [e8_eq, ← em_eq] at he
  exact of_decide_eq_true (List.mem_filter.mp he).2
theorem geo_right : ∀ e ∈ E8, rightOK e = true := fun e he => by
  rw [e8_eq] at he
  exact List.all_eq_true.mp em_right e he
theorem mem_e8 {m : Nat} : m ∈ E8 ↔ m ∈ RT ∧ popc m = 8 := by
  rw [e8_eq, ← em_eq, List.mem_filter, decide_eq_true_iff]
/-! ### the code is closed -/
theorem rt_closed : ∀ x ∈ RT, ∀ y ∈ RT, x ^^^ y ∈ RT := by
  have : ∀ (bs f : List Nat), (∀ x ∈ f, ∀ y ∈ f, x ^^^ y ∈ f) → ∀ x ∈ bs.foldl (fun f b => f ++ f.map fun x => x ^^^ b) f, ∀ y ∈ bs.foldl (fun f b => f ++ f.map fun x => x ^^^ b) f, x ^^^ y ∈ bs.foldl (fun f b => f ++ f.map fun x => x ^^^ b) f := by
    intro bs
    induction bs with
    | nil => intro f h; exact h
    | cons b bs ih =>
      intro f h
      refine ih _ fun x hx y hy => ?_
      rw [List.mem_append] at hx hy ⊢
      have sw : ∀ p q r s : Nat, (p ^^^ q) ^^^ (r ^^^ s) = (p ^^^ r) ^^^ (q ^^^ s) := fun p q r s => by
        rw [Nat.xor_assoc, Nat.xor_assoc, ← Nat.xor_assoc q, Nat.xor_comm q r, Nat.xor_assoc r]
      rcases hx with hx | hx <;> rcases hy with hy | hy
      · exact .inl (h x hx y hy)
      · obtain ⟨z, hz, rfl⟩ := List.mem_map.mp hy
        exact .inr (List.mem_map.mpr ⟨x ^^^ z, h x hx z hz, Nat.xor_assoc x z b⟩)
      · obtain ⟨z, hz, rfl⟩ := List.mem_map.mp hx
        exact .inr (List.mem_map.mpr ⟨z ^^^ y, h z hz y hy, by rw [Nat.xor_assoc, Nat.xor_comm y b, ← Nat.xor_assoc]⟩)
      · obtain ⟨z, hz, rfl⟩ := List.mem_map.mp hx
        obtain ⟨z2, hz2, rfl⟩ := List.mem_map.mp hy
        refine .inl ?_
        rw [sw, Nat.xor_self, Nat.xor_zero]
        exact h z hz z2 hz2
  exact this baseM [0] (by simp)
theorem rt_weight {x : Nat} (h : x ∈ RT) : popc x = 0 ∨ popc x = 8 ∨ popc x = 12 ∨ popc x = 16 ∨ popc x = 24 := of_decide_eq_true (List.all_eq_true.mp rt_w x h)
theorem popc_xor (a b : Nat) : popc (a ^^^ b) + 2 * popc (a &&& b) = popc a + popc b := by
  unfold popc bitsL
  induction List.range 24 with
  | nil => rfl
  | cons i l ih =>
    simp only [List.filter_cons, Nat.testBit_xor, Nat.testBit_and]
    cases a.testBit i <;> cases b.testBit i <;> simp <;> omega
theorem popc_zero {a : Nat} (h : a < 2 ^ 24) : popc a = 0 ↔ a = 0 := by
  constructor
  · intro z
    refine bitsL_inj h (by decide) ?_
    rw [List.eq_nil_of_length_eq_zero z]
    decide +kernel
  · rintro rfl
    decide +kernel
theorem xor_or {a b : Nat} (h : a &&& b = 0) : a ||| b = a ^^^ b := by
  apply Nat.eq_of_testBit_eq
  intro i
  have := congrArg (fun z => z.testBit i) h
  simp only [Nat.testBit_and, Nat.zero_testBit] at this
  rw [Nat.testBit_or, Nat.testBit_xor]
  cases ha : a.testBit i <;> cases hb : b.testBit i <;> simp_all
/-- two eights meet in 0, 2, 4 or 8 lamps -/
theorem e8_meet {e f : Nat} (he : e ∈ E8) (hf : f ∈ E8) : popc (e &&& f) = 0 ∨ popc (e &&& f) = 2 ∨ popc (e &&& f) = 4 ∨ popc (e &&& f) = 8 := by
  have h1 := mem_e8.mp he
  have h2 := mem_e8.mp hf
  have h3 := popc_xor e f
  have h4 := rt_weight (rt_closed e h1.1 f h2.1)
  omega
/-! ### fours -/
theorem leafB_ok {m : Nat} : ∀ {C : List Nat} {acc : Nat}, leafB m C acc = true →
    (C.map fun e => e ^^^ m).Pairwise (fun a b => a &&& b = 0) ∧ (∀ x ∈ C.map fun e => e ^^^ m, acc &&& x = 0) ∧ ∀ i, i < 24 → acc.testBit i = true ∨ ∃ x ∈ C.map fun e => e ^^^ m, x.testBit i = true
  | [], acc, h => by
    have h : (acc == 16777215) = true := h
    have h := beq_iff_eq.mp h
    refine ⟨.nil, fun x hx => (by cases hx), fun i hi => .inl ?_⟩
    rw [h, show (16777215 : Nat) = 2 ^ 24 - 1 from rfl, Nat.testBit_two_pow_sub_one]
    exact decide_eq_true hi
  | e :: C, acc, h => by
    have h : ((acc &&& (e ^^^ m)) == 0 && leafB m C (acc ||| (e ^^^ m))) = true := h
    rw [Bool.and_eq_true, beq_iff_eq] at h
    obtain ⟨h1, h2⟩ := h
    obtain ⟨i1, i2, i3⟩ := leafB_ok h2
    have or0 : ∀ p q x : Nat, (p ||| q) &&& x = 0 → p &&& x = 0 ∧ q &&& x = 0 := fun p q x z => by
      rw [Nat.and_or_distrib_right] at z
      exact Nat.or_eq_zero_iff.mp z
    refine ⟨List.pairwise_cons.mpr ⟨fun x hx => (or0 _ _ _ (i2 x hx)).2, i1⟩, fun x hx => ?_, fun i hi => ?_⟩
    · rw [List.map_cons] at hx
      rcases List.mem_cons.mp hx with rfl | hx
      · exact h1
      · exact (or0 _ _ _ (i2 x hx)).1
    · rcases i3 i hi with z | ⟨x, hx, z⟩
      · rw [Nat.testBit_or, Bool.or_eq_true] at z
        rcases z with z | z
        · exact .inl z
        · exact .inr ⟨_, List.mem_cons_self, z⟩
      · exact .inr ⟨x, List.mem_cons_of_mem _ hx, z⟩
theorem chk_get {a b c d : Nat} (ha : a < 24) (hb : b < a) (hc : c < b) (hd : d < c) :
    leafC (((2 ^ a ||| 2 ^ b) ||| 2 ^ c) ||| 2 ^ d) ((((EM.filter fun e => e.testBit a).filter fun e => e.testBit b).filter fun e => e.testBit c).filter fun e => e.testBit d) = true := by
  have h := chk_all
  unfold chkA at h
  have h := List.all_eq_true.mp h a (List.mem_range.mpr ha)
  unfold chkB at h
  have h := List.all_eq_true.mp h b (List.mem_range.mpr hb)
  unfold chkC at h
  have h := List.all_eq_true.mp h c (List.mem_range.mpr hc)
  unfold chkD at h
  exact List.all_eq_true.mp h d (List.mem_range.mpr hd)
theorem and_self_iff (e m : Nat) (hm : m < 2 ^ 24) : e &&& m = m ↔ ∀ i ∈ bitsL m, e.testBit i = true := by
  constructor
  · intro h i hi
    have h2 := (mem_bitsL.mp hi).2
    rw [← h, Nat.testBit_and, Bool.and_eq_true] at h2
    exact h2.1
  · intro h
    apply Nat.eq_of_testBit_eq
    intro i
    rw [Nat.testBit_and]
    by_cases hi : i < 24
    · cases q : m.testBit i with
      | false => rw [Bool.and_false]
      | true => rw [h i (mem_bitsL.mpr ⟨hi, q⟩)]; rfl
    · rw [Nat.testBit_lt_two_pow (Nat.lt_of_lt_of_le hm (Nat.pow_le_pow_right (by decide) (by omega))), Bool.and_false]
theorem four_chk {m : Nat} (hm : m < 2 ^ 24) (h4 : popc m = 4) : (conM E8 m).length = 5 ∧ leafB m (conM E8 m) m = true := by
  have hasc := bitsL_asc m
  have hl : (bitsL m).length = 4 := h4
  obtain ⟨d, c, b, a, e⟩ : ∃ d c b a, bitsL m = [d, c, b, a] := by
    match bitsL m, hl with
    | [d, c, b, a], _ => exact ⟨d, c, b, a, rfl⟩
  rw [e] at hasc
  have h1 : d < c := (List.pairwise_cons.mp hasc).1 c (by simp)
  have h2 : c < b := (List.pairwise_cons.mp (List.pairwise_cons.mp hasc).2).1 b (by simp)
  have h3 : b < a := (List.pairwise_cons.mp (List.pairwise_cons.mp (List.pairwise_cons.mp hasc).2).2).1 a (by simp)
  have ha : a < 24 := (mem_bitsL.mp (show a ∈ bitsL m by rw [e]; simp)).1
  have em : (((2 ^ a ||| 2 ^ b) ||| 2 ^ c) ||| 2 ^ d) = m := by
    refine bitsL_inj ?_ hm ?_
    · refine Nat.or_lt_two_pow (Nat.or_lt_two_pow (Nat.or_lt_two_pow ?_ ?_) ?_) ?_ <;> exact Nat.pow_lt_pow_right (by decide) (by omega)
    · refine asc_ext (bitsL_asc _) (bitsL_asc _) fun i => ?_
      rw [mem_bitsL, e]
      simp only [Nat.testBit_or, Nat.testBit_two_pow, Bool.or_eq_true, decide_eq_true_iff, List.mem_cons, List.not_mem_nil, or_false]
      constructor
      · rintro ⟨_, ((h | h) | h) | h⟩ <;> subst h <;> simp
      · rintro (h | h | h | h) <;> subst h <;> refine ⟨by omega, ?_⟩ <;> simp
  have ec : ((((EM.filter fun e => e.testBit a).filter fun e => e.testBit b).filter fun e => e.testBit c).filter fun e => e.testBit d) = conM E8 m := by
    rw [List.filter_filter, List.filter_filter, List.filter_filter, e8_eq]
    unfold conM
    apply List.filter_congr
    intro x _
    rw [Bool.eq_iff_iff, decide_eq_true_iff, and_self_iff x m hm, e]
    simp only [List.mem_cons, List.not_mem_nil, or_false, Bool.and_eq_true]
    constructor
    · rintro ⟨⟨⟨hd, hc⟩, hb⟩, ha⟩ i (rfl | rfl | rfl | rfl)
      · exact hd
      · exact hc
      · exact hb
      · exact ha
    · intro h
      exact ⟨⟨⟨h d (.inl rfl), h c (.inr (.inl rfl))⟩, h b (.inr (.inr (.inl rfl)))⟩, h a (.inr (.inr (.inr rfl)))⟩
  have := chk_get ha h3 h2 h1
  rw [em, ec] at this
  unfold leafC at this
  rw [Bool.and_eq_true, beq_iff_eq] at this
  exact this
theorem six0 {m : Nat} (hm : m < 2 ^ 24) (h4 : popc m = 4) : Six (sxM m) ∧ (∀ i, i < 24 → ∃ x ∈ sxM m, x.testBit i = true) ∧ ∀ x ∈ sxM m, ∀ y ∈ sxM m, x &&& y = 0 → x ||| y ∈ E8 := by
  obtain ⟨h5, hb⟩ := four_chk hm h4
  obtain ⟨i1, i2, i3⟩ := leafB_ok hb
  have con : ∀ e ∈ conM E8 m, e ∈ E8 ∧ e &&& m = m := fun e he => ⟨(List.mem_filter.mp he).1, of_decide_eq_true (List.mem_filter.mp he).2⟩
  have rest : ∀ e ∈ conM E8 m, e ^^^ m < 2 ^ 24 ∧ popc (e ^^^ m) = 4 := fun e he => by
    obtain ⟨h1, h2⟩ := con e he
    have h3 := popc_xor e m
    rw [h2, h4, geo_e8 e h1] at h3
    exact ⟨Nat.xor_lt_two_pow (E8_bd e h1) hm, by omega⟩
  refine ⟨⟨by unfold sxM; rw [List.length_cons, List.length_map, h5], fun x hx => ?_, List.pairwise_cons.mpr ⟨i2, i1⟩⟩, fun i hi => ?_, ?_⟩
  · rcases List.mem_cons.mp hx with rfl | hx
    · exact ⟨hm, h4⟩
    · obtain ⟨e, he, rfl⟩ := List.mem_map.mp hx
      exact rest e he
  · rcases i3 i hi with z | ⟨x, hx, z⟩
    · exact ⟨m, List.mem_cons_self, z⟩
    · exact ⟨x, List.mem_cons_of_mem _ hx, z⟩
  · have key : ∀ e ∈ conM E8 m, ∀ f ∈ conM E8 m, (e ^^^ m) &&& (f ^^^ m) = 0 → (e ^^^ m) ||| (f ^^^ m) ∈ E8 := fun e he f hf h => by
      rw [xor_or h]
      have sw : (e ^^^ m) ^^^ (f ^^^ m) = e ^^^ f := by
        rw [Nat.xor_assoc, ← Nat.xor_assoc m, Nat.xor_comm m f, Nat.xor_assoc f, Nat.xor_self, Nat.xor_zero]
      have hp := popc_xor (e ^^^ m) (f ^^^ m)
      rw [h, (rest e he).2, (rest f hf).2] at hp
      rw [mem_e8]
      refine ⟨by rw [sw]; exact rt_closed e (mem_e8.mp (con e he).1).1 f (mem_e8.mp (con f hf).1).1, ?_⟩
      have : popc 0 = 0 := by decide +kernel
      omega
    have one : ∀ e ∈ conM E8 m, m &&& (e ^^^ m) = 0 → m ||| (e ^^^ m) ∈ E8 := fun e he h => by
      rw [xor_or h, Nat.xor_comm e m, ← Nat.xor_assoc, Nat.xor_self, Nat.zero_xor]
      exact (con e he).1
    intro x hx y hy h
    rcases List.mem_cons.mp hx with rfl | hx <;> rcases List.mem_cons.mp hy with rfl | hy
    · rw [Nat.and_self] at h
      rw [h] at h4
      exact absurd h4 (by decide +kernel)
    · obtain ⟨e, he, rfl⟩ := List.mem_map.mp hy
      exact one e he h
    · obtain ⟨e, he, rfl⟩ := List.mem_map.mp hx
      rw [Nat.or_comm]
      rw [Nat.and_comm] at h
      exact one e he h
    · obtain ⟨e, he, rfl⟩ := List.mem_map.mp hx
      obtain ⟨f, hf, rfl⟩ := List.mem_map.mp hy
      exact key e he f hf h
theorem geo_six (ms : List Nat) (h : SX ms) : Six ms := by
  obtain ⟨m, hm, h4, hp⟩ := h
  obtain ⟨s, _, _⟩ := six0 hm h4
  exact ⟨by rw [hp.length_eq]; exact s.len, fun x hx => s.bd x (hp.mem_iff.mp hx), (List.Perm.pairwise_iff (fun {x y} h => by rw [Nat.and_comm]; exact h) hp).mpr s.dj⟩
theorem geo_two (ms : List Nat) (h : SX ms) : ms.Pairwise fun a b => a ||| b ∈ E8 := by
  have s := geo_six ms h
  obtain ⟨m, hm, h4, hp⟩ := h
  obtain ⟨_, _, t⟩ := six0 hm h4
  exact s.dj.imp_of_mem fun {a b} ha hb hab => t a (hp.mem_iff.mp ha) b (hp.mem_iff.mp hb) hab
theorem geo_cover (ms : List Nat) (h : SX ms) : ∀ i, i < 24 → ∃ x ∈ ms, x.testBit i = true := fun i hi => by
  obtain ⟨m, hm, h4, hp⟩ := h
  obtain ⟨_, c, _⟩ := six0 hm h4
  obtain ⟨x, hx, z⟩ := c i hi
  exact ⟨x, hp.mem_iff.mpr hx, z⟩
end Ez

set_option Elab.async false
set_option linter.all false
set_option autoImplicit false
set_option maxRecDepth 1000000
set_option maxHeartbeats 2000000
/-! rows of a table: parts of 4 -/
namespace Ez
open PySem L2
/-- the lists of n numbers with sum s -/
def comp : Nat → Nat → List (List Nat)
  | 0, 0 => [[]]
  | 0, _ + 1 => []
  | n + 1, s => (List.range (s + 1)).flatMap fun k => (comp n (s - k)).map fun r => k :: r
theorem mem_comp : ∀ (n s : Nat) (r : List Nat), r.length = n → r.sum = s → r ∈ comp n s
  | 0, s, [], _, h => by
    subst h
    exact List.mem_cons_self
  | n + 1, s, k :: r, hl, hs => by
    rw [List.sum_cons] at hs
    unfold comp
    rw [List.mem_flatMap]
    refine ⟨k, List.mem_range.mpr (by omega), List.mem_map.mpr ⟨r, mem_comp n (s - k) r (by simpa using hl) (by omega), rfl⟩⟩
/-- all sums of two places of both rows are 0, 2, 4 or 8 -/
def ok2 (x : Nat) : Bool := x == 0 || x == 2 || x == 4 || x == 8
def okP : List Nat → List Nat → Bool
  | a :: r, b :: t => ((r.zip t).all fun p => ok2 (a + b + (p.1 + p.2))) && okP r t
  | _, _ => true
/-- kinds: 0: a 4; 1: two 2s; 2: a 3; 3: a 2 and 1s; 4: 1s -/
def kind (r : List Nat) : Nat := if r.contains 4 then 0 else if r.contains 3 then 2 else if r.contains 2 then (if r.contains 1 then 3 else 1) else 4
def meets (r t : List Nat) : Bool := kind r == kind t && (kind r != 4 || r == t) || (kind r == 4 && (kind t == 2 || kind t == 3)) || (kind t == 4 && (kind r == 2 || kind r == 3))
theorem pair_chk : ((comp 6 4).all fun r => (comp 6 4).all fun t => !okP r t || meets r t) = true := by decide +kernel
theorem kind_chk : ((comp 6 4).all fun r => (kind r != 0 || (List.range 9).all fun n => r.contains n == [0, 4].contains n) && (kind r != 1 || (List.range 9).all fun n => r.contains n == [0, 2].contains n) &&
    (kind r != 2 || (List.range 9).all fun n => r.contains n == [0, 1, 3].contains n) && (kind r != 3 || (List.range 9).all fun n => r.contains n == [0, 1, 2].contains n) && (kind r != 4 || (List.range 9).all fun n => r.contains n == [0, 1].contains n) && kind r < 5) = true := by decide +kernel
end Ez

set_option Elab.async false
set_option linter.all false
set_option autoImplicit false
set_option maxRecDepth 100000
set_option maxHeartbeats 2000000
/-! what two sextets' meeting may be; the geometry whole -/
namespace Ez
open PySem L2
theorem one_bit {i : Nat} : ∀ {ns : List Nat}, ns.Pairwise (fun a b => a &&& b = 0) → (∃ x ∈ ns, x.testBit i = true) → (ns.map fun z => if z.testBit i then 1 else 0).sum = 1
  | [], _, h => by obtain ⟨x, hx, _⟩ := h; cases hx
  | a :: l, hp, h => by
    rw [List.pairwise_cons] at hp
    rw [List.map_cons, List.sum_cons]
    have zero : ∀ l : List Nat, (∀ z ∈ l, z.testBit i = false) → (l.map fun z => if z.testBit i then 1 else 0).sum = 0 := by
      intro l
      induction l with
      | nil => intro _; rfl
      | cons b l ih =>
        intro h
        rw [List.map_cons, List.sum_cons, h b List.mem_cons_self, ih fun z hz => h z (List.mem_cons_of_mem _ hz)]
        rfl
    cases ha : a.testBit i with
    | true =>
      rw [zero l fun z hz => by
        have := congrArg (fun q => q.testBit i) (hp.1 z hz)
        simp only [Nat.testBit_and, Nat.zero_testBit, ha, Bool.true_and] at this
        exact this]
      rfl
    | false =>
      obtain ⟨x, hx, hb⟩ := h
      rcases List.mem_cons.mp hx with rfl | hx
      · rw [ha] at hb; cases hb
      · rw [one_bit hp.2 ⟨x, hx, hb⟩]; rfl
theorem sum_add {α : Type} (f g : α → Nat) : ∀ l : List α, (l.map fun z => f z + g z).sum = (l.map f).sum + (l.map g).sum
  | [] => rfl
  | a :: l => by
    rw [List.map_cons, List.map_cons, List.map_cons, List.sum_cons, List.sum_cons, List.sum_cons, sum_add f g l]
    omega
theorem sum_parts {ns : List Nat} (hd : ns.Pairwise fun a b => a &&& b = 0) (hc : ∀ i, i < 24 → ∃ x ∈ ns, x.testBit i = true) (m : Nat) : (ns.map fun z => popc (z &&& m)).sum = popc m := by
  have e : ∀ z, popc (z &&& m) = ((bitsL m).filter z.testBit).length := fun z => by
    unfold popc
    rw [Nat.and_comm, ← bitsL_and]
    congr 1
    apply List.filter_congr
    intro i hi
    rw [Bool.eq_iff_iff, decide_eq_true_iff, mem_bitsL]
    exact ⟨fun h => h.2, fun h => ⟨(mem_bitsL.mp hi).1, h⟩⟩
  have key : ∀ l : List Nat, (∀ i ∈ l, i < 24) → (ns.map fun z => (l.filter z.testBit).length).sum = l.length := by
    intro l
    induction l with
    | nil =>
      intro _
      have : ∀ ns : List Nat, (ns.map fun z => (([] : List Nat).filter z.testBit).length).sum = 0 := by
        intro ns
        induction ns with
        | nil => rfl
        | cons a l ih => rw [List.map_cons, List.sum_cons, ih]; rfl
      exact this ns
    | cons i l ih =>
      intro h
      have e1 : (fun z : Nat => ((i :: l).filter z.testBit).length) = fun z => (if z.testBit i then 1 else 0) + (l.filter z.testBit).length := by
        funext z
        rw [List.filter_cons]
        cases z.testBit i with
        | true => simp; omega
        | false => simp
      rw [e1, sum_add, one_bit hd (hc i (h i List.mem_cons_self)), ih fun j hj => h j (List.mem_cons_of_mem _ hj), List.length_cons]
      omega
  rw [show (fun z => popc (z &&& m)) = fun z => ((bitsL m).filter z.testBit).length from funext e]
  exact key (bitsL m) fun i hi => (mem_bitsL.mp hi).1
theorem popc_or {a b : Nat} (h : a &&& b = 0) : popc (a ||| b) = popc a + popc b := by
  rw [xor_or h]
  have := popc_xor a b
  rw [h, show popc 0 = 0 by decide +kernel] at this
  omega
theorem okP_of {f g : Nat → Nat} : ∀ {ns : List Nat}, ns.Pairwise (fun z y => ok2 (f z + g z + (f y + g y)) = true) → okP (ns.map f) (ns.map g) = true
  | [], _ => rfl
  | a :: l, h => by
    rw [List.pairwise_cons] at h
    rw [List.map_cons, List.map_cons]
    show ((((l.map f).zip (l.map g)).all fun p => ok2 (f a + g a + (p.1 + p.2))) && okP (l.map f) (l.map g)) = true
    rw [okP_of h.2, Bool.and_true, List.all_eq_true]
    intro p hp
    rw [List.zip_map'] at hp
    obtain ⟨y, hy, rfl⟩ := List.mem_map.mp hp
    exact h.1 y hy
theorem and0 {a b c d : Nat} (h : a &&& b = 0) : (a &&& c) &&& (b &&& d) = 0 := by
  apply Nat.eq_of_testBit_eq
  intro i
  have := congrArg (fun z => z.testBit i) h
  simp only [Nat.testBit_and, Nat.zero_testBit] at this ⊢
  cases ha : a.testBit i <;> cases hb : b.testBit i <;> simp_all
theorem meet4 {m m' z y : Nat} (hm : m &&& m' = 0) (hz : z &&& y = 0) (hm8 : m ||| m' ∈ E8) (hz8 : z ||| y ∈ E8) : ok2 (popc (z &&& m) + popc (z &&& m') + (popc (y &&& m) + popc (y &&& m'))) = true := by
  have h := e8_meet hz8 hm8
  have e1 : (z ||| y) &&& (m ||| m') = ((z &&& m) ||| (z &&& m')) ||| ((y &&& m) ||| (y &&& m')) := by
    rw [Nat.and_or_distrib_right, Nat.and_or_distrib_left, Nat.and_or_distrib_left]
  have o1 : (z &&& m) &&& (z &&& m') = 0 := by rw [Nat.and_comm z m, Nat.and_comm z m']; exact and0 hm
  have o2 : (y &&& m) &&& (y &&& m') = 0 := by rw [Nat.and_comm y m, Nat.and_comm y m']; exact and0 hm
  have o3 : ((z &&& m) ||| (z &&& m')) &&& ((y &&& m) ||| (y &&& m')) = 0 := by
    rw [← Nat.and_or_distrib_left, ← Nat.and_or_distrib_left]
    exact and0 hz
  rw [e1, popc_or o3, popc_or o1, popc_or o2] at h
  unfold ok2
  rcases h with h | h | h | h <;> rw [h] <;> rfl
theorem pw_mem {α : Type} {R : α → α → Prop} : ∀ {l : List α}, l.Pairwise R → ∀ {a b : α}, a ∈ l → b ∈ l → a = b ∨ R a b ∨ R b a
  | x :: l, h, a, b, ha, hb => by
    rw [List.pairwise_cons] at h
    rcases List.mem_cons.mp ha with ha | ha <;> rcases List.mem_cons.mp hb with hb | hb
    · exact .inl (by rw [ha, hb])
    · exact .inr (.inl (by rw [ha]; exact h.1 b hb))
    · exact .inr (.inr (by rw [hb]; exact h.1 a ha))
    · exact pw_mem h.2 ha hb
theorem meets_kind {r t : List Nat} (h : meets r t = true) : (kind r = kind t ∧ (kind r = 4 → r = t)) ∨ (kind r = 4 ∧ (kind t = 2 ∨ kind t = 3)) ∨ (kind t = 4 ∧ (kind r = 2 ∨ kind r = 3)) := by
  unfold meets at h
  simp only [Bool.or_eq_true, Bool.and_eq_true, beq_iff_eq, bne_iff_ne] at h
  rcases h with (⟨h1, h2⟩ | h) | h
  · exact .inl ⟨h1, fun z => h2.elim (fun q => absurd z q) id⟩
  · exact .inr (.inl h)
  · exact .inr (.inr h)
theorem num_rows {rows : List (List Nat)} (hl : rows.length = 6) (hc : ∀ r ∈ rows, r ∈ comp 6 4) (hp : rows.Pairwise fun r t => meets r t = true) (hs : ∀ j, j < 6 → (rows.map fun r => r.getD j 0).sum = 4) :
    ((List.range 9).filter fun n => rows.any fun r => r.contains n) ∈ [[0, 4], [0, 2], [0, 1, 3], [0, 1, 2]] := by
  have kc : ∀ r ∈ rows, (kind r = 0 → ∀ n, n < 9 → r.contains n = [0, 4].contains n) ∧ (kind r = 1 → ∀ n, n < 9 → r.contains n = [0, 2].contains n) ∧ (kind r = 2 → ∀ n, n < 9 → r.contains n = [0, 1, 3].contains n) ∧ (kind r = 3 → ∀ n, n < 9 → r.contains n = [0, 1, 2].contains n) ∧ (kind r = 4 → ∀ n, n < 9 → r.contains n = [0, 1].contains n) ∧ kind r < 5 := fun r hr => by
    have h := List.all_eq_true.mp kind_chk r (hc r hr)
    simp only [Bool.and_eq_true, Bool.or_eq_true, bne_iff_ne, List.all_eq_true, List.mem_range, beq_iff_eq, decide_eq_true_eq] at h
    obtain ⟨⟨⟨⟨⟨h0, h1⟩, h2⟩, h3⟩, h4⟩, h5⟩ := h
    exact ⟨fun z => h0.resolve_left (fun q => q z), fun z => h1.resolve_left (fun q => q z), fun z => h2.resolve_left (fun q => q z), fun z => h3.resolve_left (fun q => q z), fun z => h4.resolve_left (fun q => q z), h5⟩
  have two : ∀ r ∈ rows, ∀ t ∈ rows, (kind r = kind t ∧ (kind r = 4 → r = t)) ∨ (kind r = 4 ∧ (kind t = 2 ∨ kind t = 3)) ∨ (kind t = 4 ∧ (kind r = 2 ∨ kind r = 3)) := fun r hr t ht => by
    rcases pw_mem hp hr ht with e | h | h
    · subst e; exact .inl ⟨rfl, fun _ => rfl⟩
    · exact meets_kind h
    · rcases meets_kind h with ⟨a, b⟩ | h | h
      · exact .inl ⟨a.symm, fun z => (b (by rw [a]; exact z)).symm⟩
      · exact .inr (.inr h)
      · exact .inr (.inl h)
  have fin : ∀ K : List Nat, (∀ n, n < 9 → (rows.any fun r => r.contains n) = K.contains n) → ((List.range 9).filter fun n => rows.any fun r => r.contains n) = (List.range 9).filter fun n => K.contains n := fun K h =>
    List.filter_congr fun n hn => h n (List.mem_range.mp hn)
  have all1 : ∀ K : List Nat, (∀ r ∈ rows, ∀ n, n < 9 → r.contains n = K.contains n) → ∀ n, n < 9 → (rows.any fun r => r.contains n) = K.contains n := fun K h n hn => by
    obtain ⟨r0, hr0⟩ : ∃ r, r ∈ rows := by
      cases rows with
      | nil => cases hl
      | cons a l => exact ⟨a, List.mem_cons_self⟩
    rw [Bool.eq_iff_iff, List.any_eq_true]
    exact ⟨fun ⟨r, hr, z⟩ => by rw [← h r hr n hn]; exact z, fun z => ⟨r0, hr0, by rw [h r0 hr0 n hn]; exact z⟩⟩
  have some1 : ∀ K : List Nat, (∃ r ∈ rows, ∀ n, n < 9 → r.contains n = K.contains n) → (∀ r ∈ rows, ∀ n, n < 9 → r.contains n = true → K.contains n = true) → ∀ n, n < 9 → (rows.any fun r => r.contains n) = K.contains n := fun K ⟨r0, hr0, h0⟩ h n hn => by
    rw [Bool.eq_iff_iff, List.any_eq_true]
    exact ⟨fun ⟨r, hr, z⟩ => h r hr n hn z, fun z => ⟨r0, hr0, by rw [h0 n hn]; exact z⟩⟩
  by_cases c0 : ∃ r ∈ rows, kind r = 0
  · obtain ⟨r0, hr0, k0⟩ := c0
    have : ∀ r ∈ rows, kind r = 0 := fun r hr => by
      rcases two r0 hr0 r hr with ⟨a, _⟩ | ⟨a, _⟩ | ⟨_, a | a⟩ <;> omega
    rw [fin [0, 4] (all1 [0, 4] fun r hr => (kc r hr).1 (this r hr))]
    decide
  by_cases c1 : ∃ r ∈ rows, kind r = 1
  · obtain ⟨r0, hr0, k0⟩ := c1
    have : ∀ r ∈ rows, kind r = 1 := fun r hr => by
      rcases two r0 hr0 r hr with ⟨a, _⟩ | ⟨a, _⟩ | ⟨_, a | a⟩ <;> omega
    rw [fin [0, 2] (all1 [0, 2] fun r hr => (kc r hr).2.1 (this r hr))]
    decide
  have sub3 : ∀ n, n < 9 → [0, 1].contains n = true → [0, 1, 3].contains n = true := by decide
  have sub2 : ∀ n, n < 9 → [0, 1].contains n = true → [0, 1, 2].contains n = true := by decide
  by_cases c2 : ∃ r ∈ rows, kind r = 2
  · obtain ⟨r0, hr0, k0⟩ := c2
    have : ∀ r ∈ rows, kind r = 2 ∨ kind r = 4 := fun r hr => by
      rcases two r0 hr0 r hr with ⟨a, _⟩ | ⟨a, _⟩ | ⟨b, a | a⟩ <;> omega
    rw [fin [0, 1, 3] (some1 [0, 1, 3] ⟨r0, hr0, (kc r0 hr0).2.2.1 k0⟩ fun r hr n hn z => by
      rcases this r hr with k | k
      · rw [← (kc r hr).2.2.1 k n hn]; exact z
      · exact sub3 n hn (by rw [← (kc r hr).2.2.2.2.1 k n hn]; exact z))]
    decide
  by_cases c3 : ∃ r ∈ rows, kind r = 3
  · obtain ⟨r0, hr0, k0⟩ := c3
    have : ∀ r ∈ rows, kind r = 3 ∨ kind r = 4 := fun r hr => by
      rcases two r0 hr0 r hr with ⟨a, _⟩ | ⟨a, _⟩ | ⟨b, a | a⟩ <;> omega
    rw [fin [0, 1, 2] (some1 [0, 1, 2] ⟨r0, hr0, (kc r0 hr0).2.2.2.1 k0⟩ fun r hr n hn z => by
      rcases this r hr with k | k
      · rw [← (kc r hr).2.2.2.1 k n hn]; exact z
      · exact sub2 n hn (by rw [← (kc r hr).2.2.2.2.1 k n hn]; exact z))]
    decide
  · exfalso
    have k4 : ∀ r ∈ rows, kind r = 4 := fun r hr => by
      have h5 := (kc r hr).2.2.2.2.2
      have h0 : kind r ≠ 0 := fun z => c0 ⟨r, hr, z⟩
      have h1 : kind r ≠ 1 := fun z => c1 ⟨r, hr, z⟩
      have h2 : kind r ≠ 2 := fun z => c2 ⟨r, hr, z⟩
      have h3 : kind r ≠ 3 := fun z => c3 ⟨r, hr, z⟩
      omega
    have same : ∀ r ∈ rows, ∀ t ∈ rows, r = t := fun r hr t ht => by
      rcases two r hr t ht with ⟨_, b⟩ | ⟨_, a | a⟩ | ⟨_, a | a⟩
      · exact b (k4 r hr)
      · rw [k4 t ht] at a; cases a
      · rw [k4 t ht] at a; cases a
      · rw [k4 r hr] at a; cases a
      · rw [k4 r hr] at a; cases a
    obtain ⟨a, b, c, d, e, f, rfl⟩ : ∃ a b c d e f, rows = [a, b, c, d, e, f] := by
      match rows, hl with
      | [a, b, c, d, e, f], _ => exact ⟨a, b, c, d, e, f, rfl⟩
    have s0 := hs 0 (by decide)
    have e1 := same b (by simp) a (by simp)
    have e2 := same c (by simp) a (by simp)
    have e3 := same d (by simp) a (by simp)
    have e4 := same e (by simp) a (by simp)
    have e5 := same f (by simp) a (by simp)
    subst e1 e2 e3 e4 e5
    simp only [List.map_cons, List.map_nil, List.sum_cons, List.sum_nil] at s0
    omega
theorem geo_num (ms ns : List Nat) (hm : SX ms) (hn : SX ns) : numM ms ns ∈ [[0, 4], [0, 2], [0, 1, 3], [0, 1, 2]] := by
  have m6 := geo_six ms hm
  have n6 := geo_six ns hn
  let row : Nat → List Nat := fun m => ns.map fun z => popc (z &&& m)
  have hc : ∀ m ∈ ms, row m ∈ comp 6 4 := fun m h => mem_comp 6 4 _ (by rw [List.length_map, n6.len]) (by rw [sum_parts n6.dj (geo_cover ns hn) m, (m6.bd m h).2])
  have e : numM ms ns = (List.range 9).filter fun n => (ms.map row).any fun r => r.contains n := by
    unfold numM
    apply List.filter_congr
    intro n _
    rw [List.any_map]
    congr 1
    funext m
    show decide (n ∈ row m) = (row m).contains n
    rw [List.contains_eq_mem]
  rw [e]
  refine num_rows (by rw [List.length_map, m6.len]) (fun r hr => by obtain ⟨m, h, rfl⟩ := List.mem_map.mp hr; exact hc m h) ?_ (fun j hj => ?_)
  · rw [List.pairwise_map]
    refine ((m6.dj.and (geo_two ms hm)).imp_of_mem fun {m m'} h h' ⟨h1, h2⟩ => ?_)
    have ok : okP (row m) (row m') = true := okP_of ((n6.dj.and (geo_two ns hn)).imp fun {z y} ⟨h3, h4⟩ => meet4 h1 h3 h2 h4)
    have h5 := List.all_eq_true.mp (List.all_eq_true.mp pair_chk (row m) (hc m h)) (row m') (hc m' h')
    rw [ok] at h5
    exact h5
  · have hj2 : j < ns.length := by rw [n6.len]; exact hj
    rw [List.map_map]
    have e2 : ((fun r : List Nat => r.getD j 0) ∘ row) = fun m => popc (m &&& ns[j]) := by
      funext m
      show (ns.map fun z => popc (z &&& m)).getD j 0 = _
      rw [List.getD_eq_getElem?_getD, List.getElem?_map, List.getElem?_eq_getElem hj2, Nat.and_comm]
      rfl
    rw [e2, sum_parts m6.dj (geo_cover ms hm), (n6.bd _ (List.getElem_mem hj2)).2]
end Ez

set_option Elab.async false
set_option linter.all false
set_option autoImplicit false
set_option maxRecDepth 1000000
set_option maxHeartbeats 2000000
/-! the geometry whole -/
namespace Ez
open PySem L2 Fz
theorem diffB_ok : ∀ {l : List Nat}, diffB l = true → l.Nodup
  | [], _ => .nil
  | a :: l, h => by
    have h : ((l.all fun b => !(Nat.beq a b)) && diffB l) = true := h
    rw [Bool.and_eq_true, List.all_eq_true] at h
    refine List.nodup_cons.mpr ⟨fun z => ?_, diffB_ok h.2⟩
    have := h.1 a z
    rw [Nat.beq_refl] at this
    cases this
theorem em_nodup : EM.Nodup := diffB_ok em_diff
theorem em_len : EM.length = 759 := by decide +kernel
theorem geo_ne : E8 ≠ [] := fun h => by
  have := em_len
  rw [← e8_eq, h] at this
  cases this
theorem geo_fr : ([51, 204, 13056, 52224, 3342336, 13369344] : List Nat).Perm (sxM 51) := by
  unfold sxM
  rw [e8_eq]
  decide +kernel
abbrev ix15 : List (Nat × Nat) := [(0, 1), (0, 2), (0, 3), (0, 4), (0, 5), (1, 2), (1, 3), (1, 4), (1, 5), (2, 3), (2, 4), (2, 5), (3, 4), (3, 5), (4, 5)]
theorem geo_pairs (ms : List Nat) (h : SX ms) : (pairsM ms).Nodup ∧ (pairsM ms).length ≤ 60 := by
  have s := geo_six ms h
  have e : pairsM ms = ix15.map fun p => ms.getD p.1 0 ||| ms.getD p.2 0 := by
    have hl := s.len
    clear h s
    obtain ⟨a, b, c, d, e, f, rfl⟩ : ∃ a b c d e f, ms = [a, b, c, d, e, f] := by
      match ms, hl with
      | [a, b, c, d, e, f], _ => exact ⟨a, b, c, d, e, f, rfl⟩
    rfl
  rw [e]
  refine ⟨?_, by rw [List.length_map]; decide⟩
  have dj : ∀ i j, i < 6 → j < 6 → i ≠ j → ms.getD i 0 &&& ms.getD j 0 = 0 := fun i j hi hj hij => by
    rcases Nat.lt_or_gt_of_ne hij with h | h
    · exact pair_get s.dj h (by rw [s.len]; exact hj)
    · rw [Nat.and_comm]; exact pair_get s.dj h (by rw [s.len]; exact hi)
  have ne : ∀ i, i < 6 → ms.getD i 0 ≠ 0 := fun i hi => by
    have hl : i < ms.length := by rw [s.len]; exact hi
    rw [List.getD_eq_getElem?_getD, List.getElem?_eq_getElem hl]
    exact s.ne _ (List.getElem_mem hl)
  -- a part of a union is one of its two
  have part : ∀ i k l, i < 6 → k < 6 → l < 6 → ms.getD i 0 &&& (ms.getD k 0 ||| ms.getD l 0) = ms.getD i 0 → i = k ∨ i = l := fun i k l hi hk hl h => by
    by_cases h1 : i = k
    · exact .inl h1
    · by_cases h2 : i = l
      · exact .inr h2
      · rw [Nat.and_or_distrib_left, dj i k hi hk h1, dj i l hi hl h2, Nat.or_zero] at h
        exact absurd h.symm (ne i hi)
  have sub1 : ∀ a b : Nat, a &&& (a ||| b) = a := fun a b => by
    apply Nat.eq_of_testBit_eq
    intro i
    rw [Nat.testBit_and, Nat.testBit_or]
    cases a.testBit i <;> cases b.testBit i <;> rfl
  have hb : ∀ p ∈ ix15, p.1 < p.2 ∧ p.2 < 6 := by decide
  unfold List.Nodup
  rw [List.pairwise_map]
  have nd : ix15.Pairwise (fun p q => p ≠ q) := by decide
  refine nd.imp_of_mem fun {p q} hp hq hpq z => hpq ?_
  obtain ⟨p1, p2⟩ := hb p hp
  obtain ⟨q1, q2⟩ := hb q hq
  have z : ms.getD p.1 0 ||| ms.getD p.2 0 = ms.getD q.1 0 ||| ms.getD q.2 0 := z
  have a1 := part p.1 q.1 q.2 (by omega) (by omega) q2 (by rw [← z]; exact sub1 _ _)
  have a2 := part p.2 q.1 q.2 p2 (by omega) q2 (by rw [← z, Nat.or_comm]; exact sub1 _ _)
  have a3 := part q.1 p.1 p.2 (by omega) (by omega) p2 (by rw [z]; exact sub1 _ _)
  have : p.1 = q.1 ∧ p.2 = q.2 := by omega
  exact Prod.ext this.1 this.2
theorem geo_es : ∃ es, srt (rawE.map tN) = es.map lt ∧ es.Perm E8 ∧ es.length ≤ 1000 ∧ es.Nodup ∧ ∀ m, m < 2 ^ 24 → popc m = 8 → ∀ kv ∈ grp m es, kv.2.length ≤ 50 := by
  have e1 : rawE.map tN = (rawE.map maskL).map lt := by
    rw [List.map_map]
    apply List.map_congr_left
    intro l hl
    have := of_decide_eq_true (List.all_eq_true.mp raw_asc l hl)
    show tN l = tN (bitsL (maskL l))
    rw [← this]
  have p1 : (rawE.map maskL).Perm EM := List.isPerm_iff.mp raw_perm
  obtain ⟨es, hp, e2⟩ := perm_map_inv lt (rawE.map maskL) (srt (rawE.map tN)) (by rw [e1]; exact srt_perm _)
  have p2 : es.Perm EM := hp.trans p1
  refine ⟨es, e2, by rw [e8_eq]; exact p2, by rw [p2.length_eq, em_len]; decide, (List.Perm.nodup_iff p2).mpr em_nodup, fun m hm _ kv hkv => ?_⟩
  obtain ⟨q1, q2, _, q4⟩ := grp_prop hkv
  have hk : kv.1 < 2 ^ 24 := by rw [← q2]; exact Nat.lt_of_le_of_lt Nat.and_le_right hm
  rw [q4]
  unfold rowsG
  rw [List.length_map]
  have h5 := (four_chk hk q1).1
  have l1 : (es.filter fun e => selE m e && decide (e &&& m = kv.1)).length ≤ (es.filter fun e => decide (e &&& kv.1 = kv.1)).length := by
    rw [← List.countP_eq_length_filter, ← List.countP_eq_length_filter]
    refine List.countP_mono_left fun e _ h => ?_
    rw [Bool.and_eq_true, decide_eq_true_iff] at h
    rw [decide_eq_true_iff, ← h.2, ← Nat.and_assoc, Nat.and_self]
  have l2 : (es.filter fun e => decide (e &&& kv.1 = kv.1)).length = (conM E8 kv.1).length := by
    unfold conM
    rw [e8_eq]
    exact (p2.filter _).length_eq
  omega
theorem geo : Geo := ⟨geo_tal, geo_e8, geo_right, geo_ne, geo_six, geo_two, geo_pairs, geo_num, geo_fr, geo_es⟩
end Ez

set_option Elab.async false
set_option linter.all false
set_option maxRecDepth 100000
set_option maxHeartbeats 0
/-! the head: facts by names, the run -/
namespace Ez
open PySem PySem.Spec PyProof.Rows L2

def d_tupled : He.DefD := ⟨("tupled", none), "tupled", "tupled", defArgs (top 1), defBody (top 1), defScope (top 1), [], []⟩
def d_set_of : He.DefD := ⟨("set_of", none), "set_of", "set_of", defArgs (top 2), defBody (top 2), defScope (top 2), [], []⟩
def d_sign_sum : He.DefD := ⟨("sign_sum", none), "sign_sum", "sign_sum", defArgs (top 7), defBody (top 7), defScope (top 7), [], []⟩
def d_sign_product : He.DefD := ⟨("sign_product", none), "sign_product", "sign_product", defArgs (top 8), defBody (top 8), defScope (top 8), [], []⟩
def d_begun_word : He.DefD := ⟨("begun_word", none), "begun_word", "begun_word", defArgs (top 9), defBody (top 9), defScope (top 9), [], []⟩
def d_word_of_number : He.DefD := ⟨("word_of_number", none), "word_of_number", "word_of_number", defArgs (top 10), defBody (top 10), defScope (top 10), [], []⟩
def d_all_words : He.DefD := ⟨("all_words", none), "all_words", "all_words", defArgs (top 11), defBody (top 11), defScope (top 11), [], []⟩
def d_line_sets : He.DefD := ⟨("line_sets", none), "line_sets", "line_sets", defArgs (top 13), defBody (top 13), defScope (top 13), [], []⟩
def d_column_ways : He.DefD := ⟨("column_ways", none), "column_ways", "column_ways", defArgs (top 14), defBody (top 14), defScope (top 14), [], []⟩
def d_ways_fitting : He.DefD := ⟨("ways_fitting", none), "ways_fitting", "ways_fitting", defArgs (top 18), defBody (top 18), defScope (top 18), [], []⟩
def d_grown : He.DefD := ⟨("grown", none), "grown", "grown", defArgs (top 19), defBody (top 19), defScope (top 19), [], []⟩
def d_top_parity : He.DefD := ⟨("top_parity", none), "top_parity", "top_parity", defArgs (top 20), defBody (top 20), defScope (top 20), [], []⟩
def d_eights_in : He.DefD := ⟨("eights_in", none), "eights_in", "eights_in", defArgs (top 21), defBody (top 21), defScope (top 21), [], []⟩
def d_all_eights : He.DefD := ⟨("all_eights", none), "all_eights", "all_eights", defArgs (top 22), defBody (top 22), defScope (top 22), [], []⟩
def d_joined_of : He.DefD := ⟨("joined_of", none), "joined_of", "joined_of", defArgs (top 24), defBody (top 24), defScope (top 24), [], []⟩
def d_without : He.DefD := ⟨("without", none), "without", "without", defArgs (top 25), defBody (top 25), defScope (top 25), [], []⟩
def d_pairs_joined : He.DefD := ⟨("pairs_joined", none), "pairs_joined", "pairs_joined", defArgs (top 26), defBody (top 26), defScope (top 26), [], []⟩
def d_eights_of_fours : He.DefD := ⟨("eights_of_fours", none), "eights_of_fours", "eights_of_fours", defArgs (top 27), defBody (top 27), defScope (top 27), [], []⟩
def d_fours_in : He.DefD := ⟨("fours_in", none), "fours_in", "fours_in", defArgs (top 28), defBody (top 28), defScope (top 28), [], []⟩
def d_shares_of : He.DefD := ⟨("shares_of", none), "shares_of", "shares_of", defArgs (top 29), defBody (top 29), defScope (top 29), [], []⟩
def d_shared : He.DefD := ⟨("shared", none), "shared", "shared", defArgs (top 30), defBody (top 30), defScope (top 30), [], []⟩
def d_table_of : He.DefD := ⟨("table_of", none), "table_of", "table_of", defArgs (top 31), defBody (top 31), defScope (top 31), [], []⟩
def d_shared_table : He.DefD := ⟨("shared_table", none), "shared_table", "shared_table", defArgs (top 32), defBody (top 32), defScope (top 32), [], []⟩
def d_meeting : He.DefD := ⟨("meeting", none), "meeting", "meeting", defArgs (top 33), defBody (top 33), defScope (top 33), [], []⟩
def d_refined : He.DefD := ⟨("refined", none), "refined", "refined", defArgs (top 34), defBody (top 34), defScope (top 34), [], []⟩
def d__law_box : He.DefD := ⟨("_law_box", none), "_law_box", "_law_box", defArgs (top 36), defBody (top 36), defScope (top 36), [], []⟩
def d__law_take : He.DefD := ⟨("_law_take", none), "_law_take", "_law_take", defArgs (top 37), defBody (top 37), defScope (top 37), [], []⟩
def d__law_cells : He.DefD := ⟨("_law_cells", none), "_law_cells", "_law_cells", defArgs (top 38), defBody (top 38), defScope (top 38), [], []⟩
def d__law_of : He.DefD := ⟨("_law_of", none), "_law_of", "_law_of", defArgs (top 39), defBody (top 39), defScope (top 39), [], []⟩
def d__law_pick : He.DefD := ⟨("_law_pick", none), "_law_pick", "_law_pick", defArgs (top 40), defBody (top 40), defScope (top 40), [], []⟩
def d__law_lists : He.DefD := ⟨("_law_lists", none), "_law_lists", "_law_lists", defArgs (top 41), defBody (top 41), defScope (top 41), [], []⟩
def d__law_same : He.DefD := ⟨("_law_same", none), "_law_same", "_law_same", defArgs (top 42), defBody (top 42), defScope (top 42), [], []⟩
def d__law_signs_product : He.DefD := ⟨("_law_signs_product", none), "_law_signs_product", "_law_signs_product", defArgs (top 43), defBody (top 43), defScope (top 43), [], []⟩
def d__law_word_by : He.DefD := ⟨("_law_word_by", none), "_law_word_by", "_law_word_by", defArgs (top 44), defBody (top 44), defScope (top 44), [], []⟩
def d__law_sign : He.DefD := ⟨("_law_sign", none), "_law_sign", "_law_sign", defArgs (top 45), defBody (top 45), defScope (top 45), [], []⟩
def d__law_is_right : He.DefD := ⟨("_law_is_right", none), "_law_is_right", "_law_is_right", defArgs (top 46), defBody (top 46), defScope (top 46), [], []⟩
def d__law_bits : He.DefD := ⟨("_law_bits", none), "_law_bits", "_law_bits", defArgs (top 47), defBody (top 47), defScope (top 47), [], []⟩
def d__law_lot : He.DefD := ⟨("_law_lot", none), "_law_lot", "_law_lot", defArgs (top 48), defBody (top 48), defScope (top 48), [], []⟩
def d__law_base : He.DefD := ⟨("_law_base", none), "_law_base", "_law_base", defArgs (top 49), defBody (top 49), defScope (top 49), [], []⟩
def d__law_tally : He.DefD := ⟨("_law_tally", none), "_law_tally", "_law_tally", defArgs (top 50), defBody (top 50), defScope (top 50), [], []⟩
def d__law_many : He.DefD := ⟨("_law_many", none), "_law_many", "_law_many", defArgs (top 51), defBody (top 51), defScope (top 51), [], []⟩
def d__law_rights : He.DefD := ⟨("_law_rights", none), "_law_rights", "_law_rights", defArgs (top 52), defBody (top 52), defScope (top 52), [], []⟩
def d__law_board : He.DefD := ⟨("_law_board", none), "_law_board", "_law_board", defArgs (top 53), defBody (top 53), defScope (top 53), [], []⟩
def d__law_with : He.DefD := ⟨("_law_with", none), "_law_with", "_law_with", defArgs (top 54), defBody (top 54), defScope (top 54), [], []⟩
def d__law_fours_by : He.DefD := ⟨("_law_fours_by", none), "_law_fours_by", "_law_fours_by", defArgs (top 55), defBody (top 55), defScope (top 55), [], []⟩
def d__law_table : He.DefD := ⟨("_law_table", none), "_law_table", "_law_table", defArgs (top 56), defBody (top 56), defScope (top 56), [], []⟩
def d__law_joined : He.DefD := ⟨("_law_joined", none), "_law_joined", "_law_joined", defArgs (top 57), defBody (top 57), defScope (top 57), [], []⟩
def d__law_near_four : He.DefD := ⟨("_law_near_four", none), "_law_near_four", "_law_near_four", defArgs (top 58), defBody (top 58), defScope (top 58), [], []⟩
def d__law_refined : He.DefD := ⟨("_law_refined", none), "_law_refined", "_law_refined", defArgs (top 59), defBody (top 59), defScope (top 59), [], []⟩
def d__law_numbers : He.DefD := ⟨("_law_numbers", none), "_law_numbers", "_law_numbers", defArgs (top 60), defBody (top 60), defScope (top 60), [], []⟩
def d__law_fours_in : He.DefD := ⟨("_law_fours_in", none), "_law_fours_in", "_law_fours_in", defArgs (top 61), defBody (top 61), defScope (top 61), [], []⟩
def d__law_front_right : He.DefD := ⟨("_law_front_right", none), "_law_front_right", "_law_front_right", defArgs (top 62), defBody (top 62), defScope (top 62), [], []⟩
def d__law_right : He.DefD := ⟨("_law_right", none), "_law_right", "_law_right", defArgs (top 63), defBody (top 63), defScope (top 63), [], []⟩
def d_law : He.DefD := ⟨("law", none), "law", "law", defArgs (top 64), defBody (top 64), defScope (top 64), [], []⟩
def hfn : List He.DefD := [d_tupled, d_set_of, d_sign_sum, d_sign_product, d_begun_word, d_word_of_number, d_all_words, d_line_sets, d_column_ways, d_ways_fitting, d_grown, d_top_parity, d_eights_in, d_all_eights, d_joined_of, d_without, d_pairs_joined, d_eights_of_fours, d_fours_in, d_shares_of, d_shared, d_table_of, d_shared_table, d_meeting, d_refined, d__law_box, d__law_take, d__law_cells, d__law_of, d__law_pick, d__law_lists, d__law_same, d__law_signs_product, d__law_word_by, d__law_sign, d__law_is_right, d__law_bits, d__law_lot, d__law_base, d__law_tally, d__law_many, d__law_rights, d__law_board, d__law_with, d__law_fours_by, d__law_table, d__law_joined, d__law_near_four, d__law_refined, d__law_numbers, d__law_fours_in, d__law_front_right, d__law_right, d_law]
def hfa : List He.Fa := [.glo "tupled", .glo "set_of", .glo "sign_sum", .glo "sign_product", .glo "begun_word", .glo "word_of_number", .glo "all_words", .glo "line_sets", .glo "column_ways", .glo "ways_fitting", .glo "grown", .glo "top_parity", .glo "eights_in", .glo "all_eights", .glo "joined_of", .glo "without", .glo "pairs_joined", .glo "eights_of_fours", .glo "fours_in", .glo "shares_of", .glo "shared", .glo "table_of", .glo "shared_table", .glo "meeting", .glo "refined", .glo "_law_box", .glo "_law_take", .glo "_law_cells", .glo "_law_of", .glo "_law_pick", .glo "_law_lists", .glo "_law_same", .glo "_law_signs_product", .glo "_law_word_by", .glo "_law_sign", .glo "_law_is_right", .glo "_law_bits", .glo "_law_lot", .glo "_law_base", .glo "_law_tally", .glo "_law_many", .glo "_law_rights", .glo "_law_board", .glo "_law_with", .glo "_law_fours_by", .glo "_law_table", .glo "_law_joined", .glo "_law_near_four", .glo "_law_refined", .glo "_law_numbers", .glo "_law_fours_in", .glo "_law_front_right", .glo "_law_right", .glo "law", .free "len", .free "tuple", .free "list", .free "sorted", .free "set", .free "range", .free "enumerate", .free "zip", .free "sum", .free "any", .free "all", .free "abs", .free "int", .free "min", .free "isinstance", .free "bool", .free "str", .int "SIGNS" 4, .int "MANY_WORDS" 64, .int "COLUMNS" 6, .int "BURNING" 8, .glo "PRODUCTS"]
def t4B (K : PySem.W.Frag) (a : Addr) (l : List Int) : Bool := match K.lookup a with
  | some ⟨.type c, _, .seq its _, _⟩ => decide (c = "tuple") && (decide (its.size ≤ sizeLine) && He.relAll (l.map V.int) its.toList)
  | _ => false
theorem t4B_ok {K : PySem.W.Frag} {a : Addr} {l : List Int} (h : t4B K a l = true) : KT K a (l.map V.int) := by
  unfold t4B at h
  cases q : K.lookup a with
  | none =>
    rw [q] at h
    cases h
  | some o =>
    obtain ⟨oc, od, dt, osl⟩ := o
    rw [q] at h
    cases oc with
    | type c =>
      cases dt with
      | seq its n =>
        obtain ⟨h1, h2⟩ := He.ba (show (decide (c = "tuple") && (decide (its.size ≤ sizeLine) && He.relAll (l.map V.int) its.toList)) = true from h)
        obtain ⟨h3, h4⟩ := He.ba h2
        exact ⟨_, its, n, q, congrArg Value.type (of_decide_eq_true h1), rfl, of_decide_eq_true h3, He.relAll_ok h4⟩
      | _ => cases h
    | _ => cases dt <;> cases h
def fourB (K : PySem.W.Frag) : List Value → Bool
  | [.ref b0, .ref b1, .ref b2, .ref b3] => t4B K b0 [0, 0, 0, 0] && (t4B K b1 [0, 1, 2, 3] && (t4B K b2 [0, 2, 3, 1] && t4B K b3 [0, 3, 1, 2]))
  | _ => false
def prodB (K : PySem.W.Frag) : Bool := match K.lookup (He.ga K "PRODUCTS") with
  | some ⟨.type c, _, .seq its _, _⟩ => decide (c = "tuple") && (decide (its.size ≤ sizeLine) && fourB K its.toList)
  | _ => false
theorem fourB_ok {K : PySem.W.Frag} {l : List Value} (h : fourB K l = true) : ∃ b0 b1 b2 b3, l = [.ref b0, .ref b1, .ref b2, .ref b3] ∧ KT K b0 [.int 0, .int 0, .int 0, .int 0] ∧ KT K b1 [.int 0, .int 1, .int 2, .int 3] ∧ KT K b2 [.int 0, .int 2, .int 3, .int 1] ∧ KT K b3 [.int 0, .int 3, .int 1, .int 2] := by
  unfold fourB at h
  split at h
  · obtain ⟨h0, h⟩ := He.ba h
    obtain ⟨h1, h⟩ := He.ba h
    obtain ⟨h2, h3⟩ := He.ba h
    exact ⟨_, _, _, _, rfl, t4B_ok h0, t4B_ok h1, t4B_ok h2, t4B_ok h3⟩
  · cases h
theorem prodB_ok {K : PySem.W.Frag} (h : prodB K = true) : ∃ b0 b1 b2 b3, KT K (He.ga K "PRODUCTS") [.ref b0, .ref b1, .ref b2, .ref b3] ∧ KT K b0 [.int 0, .int 0, .int 0, .int 0] ∧ KT K b1 [.int 0, .int 1, .int 2, .int 3] ∧ KT K b2 [.int 0, .int 2, .int 3, .int 1] ∧ KT K b3 [.int 0, .int 3, .int 1, .int 2] := by
  unfold prodB at h
  cases q : K.lookup (He.ga K "PRODUCTS") with
  | none =>
    rw [q] at h
    cases h
  | some o =>
    obtain ⟨oc, od, dt, osl⟩ := o
    rw [q] at h
    cases oc with
    | type c =>
      cases dt with
      | seq its n =>
        obtain ⟨h1, h2⟩ := He.ba (show (decide (c = "tuple") && (decide (its.size ≤ sizeLine) && fourB K its.toList)) = true from h)
        obtain ⟨h3, h4⟩ := He.ba h2
        obtain ⟨b0, b1, b2, b3, e, r⟩ := fourB_ok h4
        exact ⟨b0, b1, b2, b3, ⟨_, its, n, q, congrArg Value.type (of_decide_eq_true h1), rfl, of_decide_eq_true h3, by rw [e]; exact .cons rfl (.cons rfl (.cons rfl (.cons rfl .nil)))⟩, r⟩
      | _ => cases h
    | _ => cases dt <;> cases h
abbrev AlP : Type := He.AlD × Bool
def obsPG (n : Nat) (g : Addr → Option Obj) : AlP := (He.obsDG n hfa hfn g, prodB (He.frG g (He.asD g n)))
def SaysP (K : PySem.W.Frag) : Prop := (He.obsD hfa hfn K, prodB K) = (He.valD hfn, true)
def hookP (n : Nat) : PySem.W.Hook where
  α := AlP
  obs := fun s => obsPG n s.heap.get?
  val := fun _ => (He.valD hfn, true)
  says := fun _ h => ∃ K : PySem.W.Frag, K.In h ∧ SaysP K
  of := fun _ _ e => ⟨_, He.frG_in, e⟩
  keeps := fun _ _ _ ⟨K, hK, c⟩ k => ⟨K, PySem.W.Frag.In.keeps hK k, c⟩
theorem obsPG_eq {n : Nat} {g : Addr → Option Obj} {s : Shared} (h : ∀ a, g a = s.heap.get? a) : obsPG n g = (hookP n).obs s := by
  have e : g = s.heap.get? := funext h
  rw [e] <;> rfl
theorem kbind_st {K : PySem.W.Frag} {f : Addr} {fd : FuncData} (F : FnP K "shared_table" (top 32) f fd) : KBinds K fd p_shared_table ["one", "other"] kw0 kw0 := by
  constructor
  · intro s us ws _ hl
    obtain ⟨oc, od, dV, kV, doc, pm, an, cdv, ct, osl, rfl, lk, hcd, hD, hK⟩ := F.ex
    rcases hD with ⟨_, rfl⟩ | ⟨e, _⟩
    · match us, ws, hl with
      | [], [a, b], _ => exact .of_eq rfl
    · exact absurd rfl e
  · intro vs us zs ws r1 r2
    cases r1 with
    | nil => exact r2
    | cons _ _ => exact .nil

theorem hd_facts {P : Program} {w : World} {K : PySem.W.Frag} {h : Heap} {mg : Str → Option Value} {f : Addr} (X : K.In h) (G : h.Ns mainGlobals mg) (hf : mg ("law" : Str) = some (.ref f)) (c : He.SaysD hfa hfn K) (cp : prodB K = true) :
    ∃ fd : FuncData, (∀ (s : Shared) (v : Value), BindsTo s fd ⟨[v], []⟩ [("_law_script", v)]) ∧ ∀ base : Heap, K.In base → base.Ns mainGlobals mg → FnOk P w K mg base CX0 (8 + 1) f fd ["_law_script"] (sp_law K) := by
  obtain ⟨fd_tupled, F_tupled⟩ := c.def_ 0 (d := d_tupled) rfl
  obtain ⟨fd_set_of, F_set_of⟩ := c.def_ 1 (d := d_set_of) rfl
  obtain ⟨fd_sign_sum, F_sign_sum⟩ := c.def_ 2 (d := d_sign_sum) rfl
  obtain ⟨fd_sign_product, F_sign_product⟩ := c.def_ 3 (d := d_sign_product) rfl
  obtain ⟨fd_begun_word, F_begun_word⟩ := c.def_ 4 (d := d_begun_word) rfl
  obtain ⟨fd_word_of_number, F_word_of_number⟩ := c.def_ 5 (d := d_word_of_number) rfl
  obtain ⟨fd_all_words, F_all_words⟩ := c.def_ 6 (d := d_all_words) rfl
  obtain ⟨fd_line_sets, F_line_sets⟩ := c.def_ 7 (d := d_line_sets) rfl
  obtain ⟨fd_column_ways, F_column_ways⟩ := c.def_ 8 (d := d_column_ways) rfl
  obtain ⟨fd_ways_fitting, F_ways_fitting⟩ := c.def_ 9 (d := d_ways_fitting) rfl
  obtain ⟨fd_grown, F_grown⟩ := c.def_ 10 (d := d_grown) rfl
  obtain ⟨fd_top_parity, F_top_parity⟩ := c.def_ 11 (d := d_top_parity) rfl
  obtain ⟨fd_eights_in, F_eights_in⟩ := c.def_ 12 (d := d_eights_in) rfl
  obtain ⟨fd_all_eights, F_all_eights⟩ := c.def_ 13 (d := d_all_eights) rfl
  obtain ⟨fd_joined_of, F_joined_of⟩ := c.def_ 14 (d := d_joined_of) rfl
  obtain ⟨fd_without, F_without⟩ := c.def_ 15 (d := d_without) rfl
  obtain ⟨fd_pairs_joined, F_pairs_joined⟩ := c.def_ 16 (d := d_pairs_joined) rfl
  obtain ⟨fd_eights_of_fours, F_eights_of_fours⟩ := c.def_ 17 (d := d_eights_of_fours) rfl
  obtain ⟨fd_fours_in, F_fours_in⟩ := c.def_ 18 (d := d_fours_in) rfl
  obtain ⟨fd_shares_of, F_shares_of⟩ := c.def_ 19 (d := d_shares_of) rfl
  obtain ⟨fd_shared, F_shared⟩ := c.def_ 20 (d := d_shared) rfl
  obtain ⟨fd_table_of, F_table_of⟩ := c.def_ 21 (d := d_table_of) rfl
  obtain ⟨fd_shared_table, F_shared_table⟩ := c.def_ 22 (d := d_shared_table) rfl
  obtain ⟨fd_meeting, F_meeting⟩ := c.def_ 23 (d := d_meeting) rfl
  obtain ⟨fd_refined, F_refined⟩ := c.def_ 24 (d := d_refined) rfl
  obtain ⟨fd__law_box, F__law_box⟩ := c.def_ 25 (d := d__law_box) rfl
  obtain ⟨fd__law_take, F__law_take⟩ := c.def_ 26 (d := d__law_take) rfl
  obtain ⟨fd__law_cells, F__law_cells⟩ := c.def_ 27 (d := d__law_cells) rfl
  obtain ⟨fd__law_of, F__law_of⟩ := c.def_ 28 (d := d__law_of) rfl
  obtain ⟨fd__law_pick, F__law_pick⟩ := c.def_ 29 (d := d__law_pick) rfl
  obtain ⟨fd__law_lists, F__law_lists⟩ := c.def_ 30 (d := d__law_lists) rfl
  obtain ⟨fd__law_same, F__law_same⟩ := c.def_ 31 (d := d__law_same) rfl
  obtain ⟨fd__law_signs_product, F__law_signs_product⟩ := c.def_ 32 (d := d__law_signs_product) rfl
  obtain ⟨fd__law_word_by, F__law_word_by⟩ := c.def_ 33 (d := d__law_word_by) rfl
  obtain ⟨fd__law_sign, F__law_sign⟩ := c.def_ 34 (d := d__law_sign) rfl
  obtain ⟨fd__law_is_right, F__law_is_right⟩ := c.def_ 35 (d := d__law_is_right) rfl
  obtain ⟨fd__law_bits, F__law_bits⟩ := c.def_ 36 (d := d__law_bits) rfl
  obtain ⟨fd__law_lot, F__law_lot⟩ := c.def_ 37 (d := d__law_lot) rfl
  obtain ⟨fd__law_base, F__law_base⟩ := c.def_ 38 (d := d__law_base) rfl
  obtain ⟨fd__law_tally, F__law_tally⟩ := c.def_ 39 (d := d__law_tally) rfl
  obtain ⟨fd__law_many, F__law_many⟩ := c.def_ 40 (d := d__law_many) rfl
  obtain ⟨fd__law_rights, F__law_rights⟩ := c.def_ 41 (d := d__law_rights) rfl
  obtain ⟨fd__law_board, F__law_board⟩ := c.def_ 42 (d := d__law_board) rfl
  obtain ⟨fd__law_with, F__law_with⟩ := c.def_ 43 (d := d__law_with) rfl
  obtain ⟨fd__law_fours_by, F__law_fours_by⟩ := c.def_ 44 (d := d__law_fours_by) rfl
  obtain ⟨fd__law_table, F__law_table⟩ := c.def_ 45 (d := d__law_table) rfl
  obtain ⟨fd__law_joined, F__law_joined⟩ := c.def_ 46 (d := d__law_joined) rfl
  obtain ⟨fd__law_near_four, F__law_near_four⟩ := c.def_ 47 (d := d__law_near_four) rfl
  obtain ⟨fd__law_refined, F__law_refined⟩ := c.def_ 48 (d := d__law_refined) rfl
  obtain ⟨fd__law_numbers, F__law_numbers⟩ := c.def_ 49 (d := d__law_numbers) rfl
  obtain ⟨fd__law_fours_in, F__law_fours_in⟩ := c.def_ 50 (d := d__law_fours_in) rfl
  obtain ⟨fd__law_front_right, F__law_front_right⟩ := c.def_ 51 (d := d__law_front_right) rfl
  obtain ⟨fd__law_right, F__law_right⟩ := c.def_ 52 (d := d__law_right) rfl
  obtain ⟨fd_law, F_law⟩ := c.def_ 53 (d := d_law) rfl
  have T : Tx K mg := by
    obtain ⟨t1, i1⟩ := He.int_ok X G (c.fact 71 (f := .int "SIGNS" 4) rfl)
    obtain ⟨t2, i2⟩ := He.int_ok X G (c.fact 72 (f := .int "MANY_WORDS" 64) rfl)
    obtain ⟨t3, i3⟩ := He.int_ok X G (c.fact 73 (f := .int "COLUMNS" 6) rfl)
    obtain ⟨t4, i4⟩ := He.int_ok X G (c.fact 74 (f := .int "BURNING" 8) rfl)
    obtain ⟨b0, b1, b2, b3, r⟩ := prodB_ok cp
    exact { len := He.free_ok X G (c.fact 54 (f := .free "len") rfl), tuple := He.free_ok X G (c.fact 55 (f := .free "tuple") rfl), list := He.free_ok X G (c.fact 56 (f := .free "list") rfl), sorted := He.free_ok X G (c.fact 57 (f := .free "sorted") rfl), set := He.free_ok X G (c.fact 58 (f := .free "set") rfl), range := He.free_ok X G (c.fact 59 (f := .free "range") rfl), enumerate := He.free_ok X G (c.fact 60 (f := .free "enumerate") rfl), zip := He.free_ok X G (c.fact 61 (f := .free "zip") rfl), sum := He.free_ok X G (c.fact 62 (f := .free "sum") rfl), any := He.free_ok X G (c.fact 63 (f := .free "any") rfl), all := He.free_ok X G (c.fact 64 (f := .free "all") rfl), abs := He.free_ok X G (c.fact 65 (f := .free "abs") rfl), int := He.free_ok X G (c.fact 66 (f := .free "int") rfl), min := He.free_ok X G (c.fact 67 (f := .free "min") rfl), isinstance := He.free_ok X G (c.fact 68 (f := .free "isinstance") rfl), bool := He.free_ok X G (c.fact 69 (f := .free "bool") rfl), str := He.free_ok X G (c.fact 70 (f := .free "str") rfl), SIGNS := ⟨_, i1, t1, rfl⟩, MANY_WORDS := ⟨_, i2, t2, rfl⟩, COLUMNS := ⟨_, i3, t3, rfl⟩, BURNING := ⟨_, i4, t4, rfl⟩, PRODUCTS := ⟨_, b0, b1, b2, b3, He.glo_ok X G (c.fact 75 (f := .glo "PRODUCTS") rfl), r⟩ }
  have g_tupled : mg "tupled" = some (.ref _) := He.glo_ok X G (c.fact 0 (f := .glo "tupled") rfl)
  have g_set_of : mg "set_of" = some (.ref _) := He.glo_ok X G (c.fact 1 (f := .glo "set_of") rfl)
  have g_sign_sum : mg "sign_sum" = some (.ref _) := He.glo_ok X G (c.fact 2 (f := .glo "sign_sum") rfl)
  have g_sign_product : mg "sign_product" = some (.ref _) := He.glo_ok X G (c.fact 3 (f := .glo "sign_product") rfl)
  have g_begun_word : mg "begun_word" = some (.ref _) := He.glo_ok X G (c.fact 4 (f := .glo "begun_word") rfl)
  have g_word_of_number : mg "word_of_number" = some (.ref _) := He.glo_ok X G (c.fact 5 (f := .glo "word_of_number") rfl)
  have g_all_words : mg "all_words" = some (.ref _) := He.glo_ok X G (c.fact 6 (f := .glo "all_words") rfl)
  have g_line_sets : mg "line_sets" = some (.ref _) := He.glo_ok X G (c.fact 7 (f := .glo "line_sets") rfl)
  have g_column_ways : mg "column_ways" = some (.ref _) := He.glo_ok X G (c.fact 8 (f := .glo "column_ways") rfl)
  have g_ways_fitting : mg "ways_fitting" = some (.ref _) := He.glo_ok X G (c.fact 9 (f := .glo "ways_fitting") rfl)
  have g_grown : mg "grown" = some (.ref _) := He.glo_ok X G (c.fact 10 (f := .glo "grown") rfl)
  have g_top_parity : mg "top_parity" = some (.ref _) := He.glo_ok X G (c.fact 11 (f := .glo "top_parity") rfl)
  have g_eights_in : mg "eights_in" = some (.ref _) := He.glo_ok X G (c.fact 12 (f := .glo "eights_in") rfl)
  have g_all_eights : mg "all_eights" = some (.ref _) := He.glo_ok X G (c.fact 13 (f := .glo "all_eights") rfl)
  have g_joined_of : mg "joined_of" = some (.ref _) := He.glo_ok X G (c.fact 14 (f := .glo "joined_of") rfl)
  have g_without : mg "without" = some (.ref _) := He.glo_ok X G (c.fact 15 (f := .glo "without") rfl)
  have g_pairs_joined : mg "pairs_joined" = some (.ref _) := He.glo_ok X G (c.fact 16 (f := .glo "pairs_joined") rfl)
  have g_eights_of_fours : mg "eights_of_fours" = some (.ref _) := He.glo_ok X G (c.fact 17 (f := .glo "eights_of_fours") rfl)
  have g_fours_in : mg "fours_in" = some (.ref _) := He.glo_ok X G (c.fact 18 (f := .glo "fours_in") rfl)
  have g_shares_of : mg "shares_of" = some (.ref _) := He.glo_ok X G (c.fact 19 (f := .glo "shares_of") rfl)
  have g_shared : mg "shared" = some (.ref _) := He.glo_ok X G (c.fact 20 (f := .glo "shared") rfl)
  have g_table_of : mg "table_of" = some (.ref _) := He.glo_ok X G (c.fact 21 (f := .glo "table_of") rfl)
  have g_shared_table : mg "shared_table" = some (.ref _) := He.glo_ok X G (c.fact 22 (f := .glo "shared_table") rfl)
  have g_meeting : mg "meeting" = some (.ref _) := He.glo_ok X G (c.fact 23 (f := .glo "meeting") rfl)
  have g_refined : mg "refined" = some (.ref _) := He.glo_ok X G (c.fact 24 (f := .glo "refined") rfl)
  have g__law_box : mg "_law_box" = some (.ref _) := He.glo_ok X G (c.fact 25 (f := .glo "_law_box") rfl)
  have g__law_take : mg "_law_take" = some (.ref _) := He.glo_ok X G (c.fact 26 (f := .glo "_law_take") rfl)
  have g__law_cells : mg "_law_cells" = some (.ref _) := He.glo_ok X G (c.fact 27 (f := .glo "_law_cells") rfl)
  have g__law_of : mg "_law_of" = some (.ref _) := He.glo_ok X G (c.fact 28 (f := .glo "_law_of") rfl)
  have g__law_pick : mg "_law_pick" = some (.ref _) := He.glo_ok X G (c.fact 29 (f := .glo "_law_pick") rfl)
  have g__law_lists : mg "_law_lists" = some (.ref _) := He.glo_ok X G (c.fact 30 (f := .glo "_law_lists") rfl)
  have g__law_same : mg "_law_same" = some (.ref _) := He.glo_ok X G (c.fact 31 (f := .glo "_law_same") rfl)
  have g__law_signs_product : mg "_law_signs_product" = some (.ref _) := He.glo_ok X G (c.fact 32 (f := .glo "_law_signs_product") rfl)
  have g__law_word_by : mg "_law_word_by" = some (.ref _) := He.glo_ok X G (c.fact 33 (f := .glo "_law_word_by") rfl)
  have g__law_sign : mg "_law_sign" = some (.ref _) := He.glo_ok X G (c.fact 34 (f := .glo "_law_sign") rfl)
  have g__law_is_right : mg "_law_is_right" = some (.ref _) := He.glo_ok X G (c.fact 35 (f := .glo "_law_is_right") rfl)
  have g__law_bits : mg "_law_bits" = some (.ref _) := He.glo_ok X G (c.fact 36 (f := .glo "_law_bits") rfl)
  have g__law_lot : mg "_law_lot" = some (.ref _) := He.glo_ok X G (c.fact 37 (f := .glo "_law_lot") rfl)
  have g__law_base : mg "_law_base" = some (.ref _) := He.glo_ok X G (c.fact 38 (f := .glo "_law_base") rfl)
  have g__law_tally : mg "_law_tally" = some (.ref _) := He.glo_ok X G (c.fact 39 (f := .glo "_law_tally") rfl)
  have g__law_many : mg "_law_many" = some (.ref _) := He.glo_ok X G (c.fact 40 (f := .glo "_law_many") rfl)
  have g__law_rights : mg "_law_rights" = some (.ref _) := He.glo_ok X G (c.fact 41 (f := .glo "_law_rights") rfl)
  have g__law_board : mg "_law_board" = some (.ref _) := He.glo_ok X G (c.fact 42 (f := .glo "_law_board") rfl)
  have g__law_with : mg "_law_with" = some (.ref _) := He.glo_ok X G (c.fact 43 (f := .glo "_law_with") rfl)
  have g__law_fours_by : mg "_law_fours_by" = some (.ref _) := He.glo_ok X G (c.fact 44 (f := .glo "_law_fours_by") rfl)
  have g__law_table : mg "_law_table" = some (.ref _) := He.glo_ok X G (c.fact 45 (f := .glo "_law_table") rfl)
  have g__law_joined : mg "_law_joined" = some (.ref _) := He.glo_ok X G (c.fact 46 (f := .glo "_law_joined") rfl)
  have g__law_near_four : mg "_law_near_four" = some (.ref _) := He.glo_ok X G (c.fact 47 (f := .glo "_law_near_four") rfl)
  have g__law_refined : mg "_law_refined" = some (.ref _) := He.glo_ok X G (c.fact 48 (f := .glo "_law_refined") rfl)
  have g__law_numbers : mg "_law_numbers" = some (.ref _) := He.glo_ok X G (c.fact 49 (f := .glo "_law_numbers") rfl)
  have g__law_fours_in : mg "_law_fours_in" = some (.ref _) := He.glo_ok X G (c.fact 50 (f := .glo "_law_fours_in") rfl)
  have g__law_front_right : mg "_law_front_right" = some (.ref _) := He.glo_ok X G (c.fact 51 (f := .glo "_law_front_right") rfl)
  have g__law_right : mg "_law_right" = some (.ref _) := He.glo_ok X G (c.fact 52 (f := .glo "_law_right") rfl)
  have e := hf.symm.trans (He.glo_ok X G (c.fact 53 (f := .glo "law") rfl))
  cases e
  have b := FunD.bindsA (ps := ["_law_script"]) F_law fun _ _ _ _ _ _ us hl => match us, hl with | [_], _ => rfl
  refine ⟨fd_law, fun s v => b s [v] rfl, fun base _ _ => ?_⟩
  have C_sign_sum : Cal P w K mg base 1 "sign_sum" p_sign_sum sp_sign_sum := cal_sign_sum T F_sign_sum g_sign_sum
  have C_sign_product : Cal P w K mg base 1 "sign_product" p_sign_product sp_sign_product := cal_sign_product T F_sign_product g_sign_product
  have C_begun_word : Cal P w K mg base 2 "begun_word" p_begun_word sp_begun_word := cal_begun_word T C_sign_sum C_sign_product F_begun_word g_begun_word
  have C_word_of_number : Cal P w K mg base 3 "word_of_number" p_word_of_number sp_word_of_number := cal_word_of_number T C_begun_word F_word_of_number g_word_of_number
  have C_all_words : Cal P w K mg base 4 "all_words" p_all_words sp_all_words := cal_all_words T C_word_of_number F_all_words g_all_words
  have C_line_sets : Cal P w K mg base 1 "line_sets" p_line_sets sp_line_sets := cal_line_sets T F_line_sets g_line_sets
  have C_column_ways : Cal P w K mg base 2 "column_ways" p_column_ways sp_column_ways := cal_column_ways T C_line_sets C_sign_sum F_column_ways g_column_ways
  have C_ways_fitting : Cal P w K mg base 3 "ways_fitting" p_ways_fitting sp_ways_fitting := cal_ways_fitting T C_column_ways F_ways_fitting g_ways_fitting
  have C_grown : Cal P w K mg base 1 "grown" p_grown sp_grown := cal_grown T F_grown g_grown
  have C_top_parity : Cal P w K mg base 1 "top_parity" p_top_parity sp_top_parity := cal_top_parity T F_top_parity g_top_parity
  have C_eights_in : Cal P w K mg base 5 "eights_in" p_eights_in sp_eights_in := cal_eights_in T C_ways_fitting C_all_words C_grown C_top_parity F_eights_in g_eights_in
  have C_all_eights : Cal P w K mg base 6 "all_eights" p_all_eights sp_all_eights := cal_all_eights T C_eights_in F_all_eights g_all_eights
  have C_tupled : Cal P w K mg base 3 "tupled" p_tupled sp_tupled := cal_tupled T F_tupled g_tupled 3
  have C_set_of : Cal P w K mg base 1 "set_of" p_set_of sp_set_of := cal_set_of T F_set_of g_set_of
  have C_joined_of : Cal P w K mg base 2 "joined_of" p_joined_of sp_joined_of := cal_joined_of T C_set_of F_joined_of g_joined_of
  have C_without : Cal P w K mg base 1 "without" p_without sp_without := cal_without T F_without g_without
  have C_pairs_joined : Cal P w K mg base 3 "pairs_joined" p_pairs_joined sp_pairs_joined := cal_pairs_joined T C_joined_of F_pairs_joined g_pairs_joined
  have C_eights_of_fours : Cal P w K mg base 4 "eights_of_fours" p_eights_of_fours sp_eights_of_fours := cal_eights_of_fours T C_set_of C_pairs_joined C_tupled F_eights_of_fours g_eights_of_fours
  have C_shares_of : Cal P w K mg base 1 "shares_of" p_shares_of sp_shares_of := cal_shares_of T F_shares_of g_shares_of
  have C_shared : Cal P w K mg base 4 "shared" p_shared sp_shared := cal_shared T C_shares_of C_tupled F_shared g_shared
  have C_table_of : Cal P w K mg base 2 "table_of" p_table_of sp_table_of := cal_table_of T C_shares_of F_table_of g_table_of
  have C_shared_table : Cal P w K mg base 4 "shared_table" p_shared_table sp_shared_table := cal_shared_table T C_table_of C_tupled F_shared_table g_shared_table
  have CK : CalK P w K mg base 4 "shared_table" p_shared_table ["one", "other"] sp_shared_table := ⟨_, _, g_shared_table, F_shared_table.kp, kbind_st F_shared_table, fn_data F_shared_table sc_shared_table len_shared_table fun cdv A outer s H E hr => ⟨_, ps_shared_table T C_table_of C_tupled cdv A outer s H E hr, ok_shared_table⟩⟩
  have C_meeting : Cal P w K mg base 5 "meeting" p_meeting sp_meeting := cal_meeting T C_set_of C_shared_table F_meeting g_meeting
  have C_refined : Cal P w K mg base 4 "refined" p_refined sp_refined := cal_refined T C_tupled C_set_of F_refined g_refined
  have C__law_signs_product : Cal P w K mg base 1 "_law_signs_product" p__law_signs_product sp__law_signs_product := cal__law_signs_product T F__law_signs_product g__law_signs_product
  have C__law_word_by : Cal P w K mg base 2 "_law_word_by" p__law_word_by sp__law_word_by := cal__law_word_by T C__law_signs_product F__law_word_by g__law_word_by
  have C__law_sign : Cal P w K mg base 1 "_law_sign" p__law_sign sp__law_sign := cal__law_sign T F__law_sign g__law_sign
  have C__law_is_right : Cal P w K mg base 3 "_law_is_right" p__law_is_right sp__law_is_right := cal__law_is_right T C__law_sign C__law_word_by F__law_is_right g__law_is_right
  have C__law_bits : Cal P w K mg base 1 "_law_bits" p__law_bits sp__law_bits := cal__law_bits T F__law_bits g__law_bits
  have C__law_lot : Cal P w K mg base 1 "_law_lot" p__law_lot sp__law_lot := cal__law_lot T F__law_lot g__law_lot
  have C__law_tally : Cal P w K mg base 1 "_law_tally" p__law_tally sp__law_tally := cal__law_tally T F__law_tally g__law_tally
  have C__law_many : Cal P w K mg base 1 "_law_many" p__law_many sp__law_many := cal__law_many T F__law_many g__law_many
  have C__law_base : Cal P w K mg base 3 "_law_base" p__law_base sp__law_base := cal__law_base T C__law_word_by F__law_base g__law_base
  have C__law_rights : Cal P w K mg base 4 "_law_rights" p__law_rights sp__law_rights := cal__law_rights T C__law_base C__law_bits F__law_rights g__law_rights
  have C__law_board : Cal P w K mg base 5 "_law_board" p__law_board sp__law_board := cal__law_board T C__law_tally C__law_rights F__law_board g__law_board
  have C__law_with : Cal P w K mg base 2 "_law_with" p__law_with sp__law_with := cal__law_with T C__law_bits F__law_with g__law_with
  have C__law_fours_by : Cal P w K mg base 3 "_law_fours_by" p__law_fours_by sp__law_fours_by := cal__law_fours_by T C__law_with C__law_bits C__law_lot F__law_fours_by g__law_fours_by
  have C__law_table : Cal P w K mg base 1 "_law_table" p__law_table sp__law_table := cal__law_table T F__law_table g__law_table
  have C__law_joined : Cal P w K mg base 1 "_law_joined" p__law_joined sp__law_joined := cal__law_joined T F__law_joined g__law_joined
  have C__law_refined : Cal P w K mg base 1 "_law_refined" p__law_refined sp__law_refined := cal__law_refined T F__law_refined g__law_refined
  have C__law_numbers : Cal P w K mg base 1 "_law_numbers" p__law_numbers sp__law_numbers := cal__law_numbers T F__law_numbers g__law_numbers
  have C__law_lists : Cal P w K mg base 3 "_law_lists" p__law_lists sp__law_lists := cal__law_lists T F__law_lists g__law_lists 3
  have C__law_same : Cal P w K mg base 5 "_law_same" p__law_same sp__law_same := cal__law_same T F__law_same g__law_same 5
  have C__law_take : Cal P w K mg base 1 "_law_take" p__law_take sp__law_take := cal__law_take T F__law_take g__law_take
  have C__law_of : Cal P w K mg base 2 "_law_of" p__law_of sp__law_of := cal__law_of T C__law_take F__law_of g__law_of
  have C__law_pick : Cal P w K mg base 2 "_law_pick" p__law_pick sp__law_pick := cal__law_pick T C__law_take F__law_pick g__law_pick
  have C__law_near_four : Cal P w K mg base 3 "_law_near_four" p__law_near_four sp__law_near_four := cal__law_near_four T C__law_take C__law_pick F__law_near_four g__law_near_four
  have C__law_box : Cal P w K mg base 1 "_law_box" p__law_box sp__law_box := cal__law_box T F__law_box g__law_box
  have C__law_cells : Cal P w K mg base 1 "_law_cells" p__law_cells (sp__law_cells K) := cal__law_cells T F__law_cells g__law_cells
  have C__law_fours_in : Cal P w K mg base 2 "_law_fours_in" p__law_fours_in sp__law_fours_in := cal__law_fours_in T C__law_bits C__law_many C__law_lot F__law_fours_in g__law_fours_in
  have C_fours_in : Cal P w K mg base 7 "fours_in" p_fours_in sp_fours_in := cal_fours_in T C_tupled C_all_eights C_without C_set_of F_fours_in g_fours_in
  have C__law_front_right : Cal P w K mg base 6 "_law_front_right" p__law_front_right sp__law_front_right := cal__law_front_right T C__law_fours_by C_meeting C_shared_table C_shared C_eights_of_fours C_refined C__law_same CK F__law_front_right g__law_front_right
  have C__law_right : Cal P w K mg base 8 "_law_right" p__law_right sp__law_right := cal__law_right T C__law_board C__law_front_right C__law_fours_by C__law_pick C__law_near_four C__law_lists C__law_table C_refined C_meeting C_shared_table C__law_refined C__law_numbers C__law_same C__law_take C__law_joined C__law_lot C__law_of C_fours_in C_eights_of_fours C_shared C__law_fours_in C__law_is_right F__law_right g__law_right
  exact law_ok T C__law_right C__law_box C__law_cells F_law
abbrev hR : PySem.W.OpenRow := PySem.W.OpenLaw.row PySem.Challenge.rw_eightlots_k20_whole_how_fours_meet
abbrev hk : PySem.W.Hook := hookP 5
def hob (s : PySem.W.SharedT) : AlP := obsPG 5 (HandSHeadRun.getT s)
theorem hob_eq (s : PySem.W.SharedT) : hob s = hk.obs s.abs := obsPG_eq (HandSHeadRun.getT_eq s)
def hloose : List Str := (["tupled", "set_of", "sign_sum", "sign_product", "begun_word", "word_of_number", "all_words", "line_sets", "column_ways", "ways_fitting", "grown", "top_parity", "eights_in", "all_eights", "joined_of", "without", "pairs_joined", "eights_of_fours", "fours_in", "shares_of"] : List Str) ++ (["shared", "table_of", "shared_table", "meeting", "refined", "_law_box", "_law_take", "_law_cells", "_law_of", "_law_pick", "_law_lists", "_law_same", "_law_signs_product", "_law_word_by", "_law_sign", "_law_is_right", "_law_bits", "_law_lot", "_law_base", "_law_tally"] : List Str) ++ (["_law_many", "_law_rights", "_law_board", "_law_with", "_law_fours_by", "_law_table", "_law_joined", "_law_near_four", "_law_refined", "_law_numbers", "_law_fours_in", "_law_front_right", "_law_right", "SIGNS", "MANY_WORDS", "PRODUCTS", "COLUMNS", "BURNING"] : List Str)
end Ez

set_option Elab.async false
set_option linter.all false
set_option maxRecDepth 100000
set_option maxHeartbeats 0
namespace Ez
open PySem PySem.Spec PyProof.Rows L2
theorem hrun (w : World) : HandSHeadRun.RunEq hR (PySem.W.view hR.prog [64]) hk hob 2400 hloose w := by
  intro os
  kernel_rfl
end Ez

set_option Elab.async false
set_option linter.all false
set_option maxRecDepth 100000
set_option maxHeartbeats 0
open PySem PySem.W PySem.Calls PyProof.Rows
theorem PySem.Challenge.cw_eightlots_k20_whole_how_fours_meet_holds : PySem.Challenge.rw_eightlots_k20_whole_how_fours_meet.Holds := by
  w_on; o_law
  refine HandSHeadRun.head_any (r := OpenLaw.row PySem.Challenge.rw_eightlots_k20_whole_how_fours_meet) (q := view (OpenLaw.row PySem.Challenge.rw_eightlots_k20_whole_how_fours_meet).prog [64]) (H := Ez.hk) (ob := Ez.hob) (M := 2400) (loose := Ez.hloose) (d := HandSHeadRun.topDef (OpenLaw.row PySem.Challenge.rw_eightlots_k20_whole_how_fours_meet).prog 64) (kwd := []) Ez.hob_eq
    (by kernel_rfl) (fun s => by kernel_rfl) Ez.hrun (by kernel_rfl) (by kernel_rfl) (by kernel_rfl) (by rfl) (by first | assumption | decide +kernel) (by decide +kernel) ⟨rfl, rfl, rfl, rfl, rfl, by decide +kernel⟩ ?hw ?hc
  case hw => w_witness2
  case hc =>
    refine L2.walk_ofE (l := PySem.Challenge.rw_eightlots_k20_whole_how_fours_meet) (n := 63) (k := 9) (x := "_law_script") (CX := L2.CX0) rfl (by decide) (by kernel_rfl) ⟨rfl, by decide, by decide⟩ ?F (fun _ _ _ _ z => z)
    intro w mg fa h Y G hmg0
    obtain ⟨K, KX, c⟩ := Y
    have hmg : mg ("law" : PySem.Str) = some (.ref fa) := by
      have e : (HandSHeadRun.topDef (OpenLaw.row PySem.Challenge.rw_eightlots_k20_whole_how_fours_meet).prog 64).name = ("law" : PySem.Str) := by kernel_rfl
      rw [← e]
      exact hmg0
    have c1 : He.SaysD Ez.hfa Ez.hfn K := congrArg (fun z : Ez.AlP => z.1) c
    have c2 : Ez.prodB K = true := congrArg (fun z : Ez.AlP => z.2) c
    obtain ⟨fd, hb, hF⟩ := Ez.hd_facts (P := (PySem.Challenge.rw_eightlots_k20_whole_how_fours_meet).prog) (w := w) KX G hmg c1 c2
    exact ⟨K, fd, Ez.sp_law K, KX, hb, fun H a ns hl _ hS => ⟨a, ns, rfl, hS, hl, Ez.geo, fun _ => rfl⟩, hF⟩
