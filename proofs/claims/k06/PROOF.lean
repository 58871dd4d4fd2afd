import PyProof.Rows.All
import Wide.All
import OpenK.AllK
import Wide.FinOn
import HandS.ForMost
import HandS.ForExc
import HandS.HotCalls
import HandS.TryMany
import HandS.ExcInit
import HandS.ExcIs
import HandS.ExcField
import HandS.IsInst
import HandS.Wide
import HandS.Defaults
import HandS.NestedK
import HandS.Style
import KE.KExcSuper
import KE.SortKeyHeap
import KE.GoesEnum
import HandS.SortInts
import HandS.Lambda
import HandS.SortKw
import KE.KExcIs
import HandS.ExcInitHot
import HandS.Walk
import HandS.WideBits
import HandS.EndTab
import KE.KNestM
import PySem.Challenge.RW_saggar_k06_new_harms_nothing_reached
set_option Elab.async false
set_option linter.all false
set_option maxRecDepth 100000
set_option maxHeartbeats 4000000
/-! SgHot: iterators' ends while an exception is handled. -/
namespace Sg
open PySem PySem.Spec PyProof.Rows HotX

section
variable {prog : Program} {w : World} {A : Around} {E : Value → Shared → Prop} {s : Shared}
/-- the exception that is handled is no object of two fields -/
theorem hot_ne {x1 I : Addr} {h : Heap} {o : Obj} {a b : Value} (hot : HotAt A x1 h) (ho : h.get? I = some o) (hd : o.data = .fields #[a, b]) : x1 ≠ I := by
  intro e
  obtain ⟨_, o1, vs, h1, d1, c1⟩ := hot
  rw [e, ho] at h1
  cases h1
  rw [hd] at d1
  injection d1 with d1
  subst d1
  simp at c1
theorem hot_push {x1 : Addr} {h : Heap} (o : Obj) (hot : HotAt A x1 h) : HotAt A x1 (h.push o) := by
  obtain ⟨hh, o1, vs, h1, d1, c1⟩ := hot
  exact ⟨hh, o1, vs, Heap.get?_push_of_some _ h1, d1, c1⟩
theorem hot_upd {x1 I : Addr} {h : Heap} {f : Obj → Obj} (hot : HotAt A x1 h) (ne : x1 ≠ I) : HotAt A x1 (h.update I f) := by
  obtain ⟨hh, o1, vs, h1, d1, c1⟩ := hot
  exact ⟨hh, o1, vs, (Heap.get?_update_other _ _ (Ne.symm ne)).trans h1, d1, c1⟩
theorem hot_keeps {x1 : Addr} {h h' : Heap} (hot : HotAt A x1 h) (k : ∀ b o, h.get? b = some o → h'.get? b = some o) : HotAt A x1 h' := by
  obtain ⟨hh, o1, vs, h1, d1, c1⟩ := hot
  exact ⟨hh, o1, vs, k _ _ h1, d1, c1⟩

/-- StopIteration made and raised while x1 is handled -/
theorem stop_hot {α : Type} {x1 : Addr} {P : α → Shared → Prop} (hot : HotAt A x1 s.heap)
    (hE : ∀ a h', (∀ b o, s.heap.get? b = some o → h'.get? b = some o) → (∃ o, h'.get? a = some o ∧ o.cls = .type "StopIteration") → E (.ref a) { s with heap := h' }) :
    wpAny (model prog w) A (do let e ← newExc (.type "StopIteration") []; raiseNew e : Sem α) P E s := by
  refine wpAny_bind (?_ : wpAny _ _ (newExc (.type "StopIteration") []) _ _ _)
  simp only [newExc, newTuple]
  refine wpAny_bind (wpAny_newObj_type ?_ (by size_fits))
  refine wpAny_bind (m := firstArgMember _ _) (wpAny_of_eq (a := Value.none) (by first | rfl | (simp only [firstArgMember]; rfl)) ?_)
  refine wpAny_newObj_type ?_ (by size_fits)
  refine raiseNew_hot (x1 := x1) (hot_push _ (hot_push _ hot)) ?ne (Heap.get?_push_size _ rfl) rfl (by first | (simp; done) | (simp; omega) | (simp only [Array.size_append]; simp; omega)) ?_
  case ne =>
    obtain ⟨_, o1, vs1, h1, _, _⟩ := hot
    exact Nat.ne_of_lt (Heap.lt_size (Heap.get?_push_of_some _ h1))
  refine hE _ _ (fun b o e => ?_) ⟨_, Heap.get?_update_self _ (Heap.get?_push_size _ rfl) rfl, rfl⟩
  rw [Heap.get?_update_other _ _ (Nat.ne_of_gt (Heap.lt_size (Heap.get?_push_of_some _ e)))]
  exact Heap.get?_push_of_some _ (Heap.get?_push_of_some _ e)
/-- what pyNext does with it -/
theorem stop_next {a : Addr} {Q : Option Value → Shared → Prop} (h : ∃ o, s.heap.get? a = some o ∧ o.cls = .type "StopIteration") (q : Q none s) :
    wpAny (model prog w) A (do if (← isInstance (.ref a) (.type "StopIteration")) = true then pure none else throw (.ref a) : Sem (Option Value)) Q E s := by
  refine wpAny_bind (wpAny_isInstance (T := "StopIteration") (b := true) h isSubtype_stop ?_)
  exact wpAny_pure q
/-- next of a list's iterator at its end -/
theorem list_end_hot {I l x1 : Addr} {i : Nat} {its} {Q : Option Value → Shared → Prop} (hot : HotAt A x1 s.heap) (hI : s.heap.IsListIter I l i) (hL : s.heap.IsList l its) (hx : its[i]? = none)
    (hQ : ∀ h', Heap.ExtBut I s.heap h' → Q none { s with heap := h' }) : wpAny (model prog w) A (pyNext (.ref I)) Q E s := by
  obtain ⟨oI, hoI, hcI, hdI⟩ := id hI
  obtain ⟨oL, hoL, _, nL, hdL⟩ := hL
  have ne : x1 ≠ I := hot_ne hot hoI hdI
  unfold pyNext
  refine wpAny_bind (wpAny_attempt (wpAny_callSpecial?_slot (name := Str.ofString "__next__") hI.typeIs slot_listiter_next (wpAny_call_entry slot_listiter_next hI.typeIs entry_listiter_next ?_ (args_listiter_next _))))
  show wpAny _ _ (field (.ref I) 0 >>= _) _ _ s
  refine wpAny_bind (wpAny_field hoI hdI (x := .ref l) rfl ?_)
  show wpAny _ _ (if (Value.ref l == Value.none) = true then _ else _) _ _ s
  rw [if_neg (show ¬ ((Value.ref l == Value.none) = true) from fun z => Bool.false_ne_true z)]
  show wpAny _ _ (field (.ref I) 1 >>= _) _ _ s
  refine wpAny_bind (wpAny_field hoI hdI (x := .int i 0) rfl ?_)
  show wpAny _ _ (seqItems? (.ref l) >>= _) _ _ s
  refine wpAny_bind (wpAny_seqItems hoL hdL ?_)
  simp only [Int.toNat_natCast, hx]
  refine wpAny_bind (wpAny_rule (wpAny_bind (wpAny_setField hoI hdI (by simp) ?_)))
  refine stop_hot (x1 := x1) (hot_upd (A := A.in1) hot ne) fun a h' k hc => ?_
  exact stop_next hc (hQ h' fun b o hb e => k b o ((Heap.get?_update_other _ _ (Ne.symm hb)).trans e))
/-- next of a tuple's iterator at its end -/
theorem tuple_end_hot {I l x1 : Addr} {i : Nat} {its} {Q : Option Value → Shared → Prop} (hot : HotAt A x1 s.heap) (hI : s.heap.IsTupleIter I l i) (hL : s.heap.IsTuple l its) (hx : its[i]? = none)
    (hQ : ∀ h', Heap.ExtBut I s.heap h' → Q none { s with heap := h' }) : wpAny (model prog w) A (pyNext (.ref I)) Q E s := by
  obtain ⟨oI, hoI, hcI, hdI⟩ := id hI
  obtain ⟨oL, hoL, _, nL, hdL⟩ := hL
  have ne : x1 ≠ I := hot_ne hot hoI hdI
  unfold pyNext
  refine wpAny_bind (wpAny_attempt (wpAny_callSpecial?_slot (name := Str.ofString "__next__") hI.typeIs F.slot_tuple_iterator_next (wpAny_call_entry F.slot_tuple_iterator_next hI.typeIs F.entry_tuple_iterator_next ?_ (F.args_tuple_iterator_next_1 _))))
  show wpAny _ _ (field (.ref I) 0 >>= _) _ _ s
  refine wpAny_bind (wpAny_field hoI hdI (x := .ref l) rfl ?_)
  show wpAny _ _ (if (Value.ref l == Value.none) = true then _ else _) _ _ s
  rw [if_neg (show ¬ ((Value.ref l == Value.none) = true) from fun z => Bool.false_ne_true z)]
  show wpAny _ _ (field (.ref I) 1 >>= _) _ _ s
  refine wpAny_bind (wpAny_field hoI hdI (x := .int i 0) rfl ?_)
  show wpAny _ _ (seqItems? (.ref l) >>= _) _ _ s
  refine wpAny_bind (wpAny_seqItems hoL hdL ?_)
  simp only [Int.toNat_natCast, hx]
  refine wpAny_bind (wpAny_rule (wpAny_bind (wpAny_setField hoI hdI (by simp) ?_)))
  refine stop_hot (x1 := x1) (hot_upd (A := A.in1) hot ne) fun a h' k hc => ?_
  exact stop_next hc (hQ h' fun b o hb e => k b o ((Heap.get?_update_other _ _ (Ne.symm hb)).trans e))
section
variable {K : Type} [DecidableEq K] {knd : KeyKind prog w K}
/-- next of a dict's iterator at its end -/
theorem dict_end_hot {I d x1 : Addr} {i ep : Nat} {kvs : List (K × Value)} {Q : Option Value → Shared → Prop} (hot : HotAt A x1 s.heap) (hI : s.heap.IsKeyIter I d i kvs.length ep)
    (hD : s.heap.DictAt knd d kvs ep) (hx : kvs[i]? = none) (hQ : ∀ h', Heap.ExtBut I s.heap h' → Q none { s with heap := h' }) : wpAny (model prog w) A (pyNext (.ref I)) Q E s := by
  obtain ⟨oI, hoI, hcI, hdI⟩ := id hI
  obtain ⟨oD, es, hoD, hcD, hdD, hk, hp, hn⟩ := id hD
  have ne : x1 ≠ I := fun e => by
    obtain ⟨_, o1, vs, h1, d1, c1⟩ := id hot
    rw [e, hoI] at h1
    cases h1
    rw [hdI] at d1
    injection d1 with d1
    subst d1
    simp at c1
  unfold pyNext
  refine wpAny_bind (wpAny_attempt (wpAny_callSpecial?_slot (name := Str.ofString "__next__") hI.typeIs F.slot_dict_keyiterator_next (wpAny_call_entry F.slot_dict_keyiterator_next hI.typeIs F.entry_dict_keyiterator_next ?_ (F.args_dict_keyiterator_next_1 _))))
  refine wpAny_bind (wpAny_pure (wpAny_bind (wpAny_bind ?_)))
  first | refine wpAny_bind (wpAny_typeNameOfWhole_keyiter hI.typeIs (wpAny_pure ?_)) | refine wpAny_bind (wpAny_typeNameOf_keyiter hI.typeIs (wpAny_pure ?_))
  refine wpAny_bind (wpAny_fieldsOf hoI hdI ?_)
  simp only [(by decide : Builtin.Dict_items.ownsTuple "dict_keyiterator" = false), Bool.false_eq_true, if_false]
  show wpAny _ _ (if (Value.ref d == Value.none) = true then _ else _) _ _ s
  rw [if_neg (show ¬ ((Value.ref d == Value.none) = true) from fun z => Bool.false_ne_true z)]
  refine wpAny_bind (wpAny_pure (wpAny_bind (wpAny_dictEntries hoD hdD ?_)))
  have hes : es.size = kvs.length := by rw [← hp.length]; simp
  rw [if_neg (by rw [hes]; simp)]
  refine wpAny_bind (wpAny_pure (wpAny_bind (wpAny_dictEpoch hoD hdD ?_)))
  rw [if_neg (by simp)]
  refine wpAny_pure ?_
  have hle : es.size ≤ i := by rw [hes]; simpa using hx
  simp only [show ¬ ((i : Int) < 0) from by omega, if_false, Int.toNat_natCast, Array.getElem?_eq_none hle]
  refine wpAny_bind ?_
  first | refine wpAny_bind (wpAny_typeNameOfWhole_keyiter hI.typeIs (wpAny_pure ?_)) | refine wpAny_bind (wpAny_typeNameOf_keyiter hI.typeIs (wpAny_pure ?_))
  show wpAny _ _ (setField (.ref I) 0 .none >>= _) _ _ s
  refine wpAny_bind (wpAny_setField hoI hdI (by simp) ?_)
  refine stop_hot (x1 := x1) (hot_upd (A := A.in1) hot ne) fun a h' k hc => ?_
  exact stop_next hc (hQ h' fun b o hb e => k b o ((Heap.get?_update_other _ _ (Ne.symm hb)).trans e))
end
end
end Sg

/-! SgHot2: walks, min, a dict collected and sorted, while an exception is handled. -/
namespace Sg
open PySem PySem.W PySem.Spec PySem.Calls PyProof.Rows HotX

theorem iter2_ne {A : Around} {x1 I t : Addr} {i : Nat} {h : Heap} (hot : HotAt A x1 h) (hI : h.IsTupleIter I t i) : x1 ≠ I := by
  obtain ⟨o, ho, _, hd⟩ := hI
  exact hot_ne hot ho hd
theorem iterk_ne {A : Around} {x1 I d : Addr} {i n ep : Nat} {h : Heap} (hot : HotAt A x1 h) (hI : h.IsKeyIter I d i n ep) : x1 ≠ I := fun e => by
  obtain ⟨o, ho, _, hd⟩ := hI
  obtain ⟨_, o1, vs, h1, d1, c1⟩ := id hot
  rw [e, ho] at h1
  cases h1
  rw [hd] at d1
  injection d1 with d1
  subst d1
  simp at c1
theorem walk_tuple_hot {prog : Program} {w : World} {A : Around} (x1 I ax : Addr) (hne : ax ≠ I) (items : Array Value) :
    Walks prog w A I [x1, I, ax] [I] items.size (fun i v => items[i]? = some v) (fun i h => HotAt A x1 h ∧ h.IsTupleIter I ax i ∧ h.IsTuple ax items) where
  sub := fun b hb => by simp at hb; simp [hb]
  frame := fun _ h h' st hk => ⟨by
      obtain ⟨hh, o1, vs, h1, d1, c1⟩ := st.1
      exact ⟨hh, o1, vs, hk x1 (by simp) _ h1, d1, c1⟩, st.2.1.at fun o e => hk I (by simp) o e, st.2.2.at fun o e => hk ax (by simp) o e⟩
  item := fun i s Q E hi st hQ => by
    refine wpAny_pyNext_tuple_item st.2.1 st.2.2 (x := items[i]) (by simp [hi]) fun h' hit' hs' => ?_
    refine hQ _ h' s.toks (by simp [hi]) ⟨?_, hit', st.2.2.extBut hs'.extBut hne⟩ fun b o hb e => hs'.extBut b o (fun h => hb (by simp [h])) e
    obtain ⟨hh, o1, vs, h1, d1, c1⟩ := st.1
    exact ⟨hh, o1, vs, (hs'.2 x1 (iter2_ne st.1 st.2.1)).trans h1, d1, c1⟩
  done := fun s Q E st hQ => tuple_end_hot st.1 st.2.1 st.2.2 (by simp) fun h' he' => hQ h' s.toks fun b o hb e => he' b o (fun h => hb (by simp [h])) e
  self := fun _ _ _ _ st hQ => wpAny_pyIter_tupleiter st.2.1 hQ
theorem walk_keys_hot {prog : Program} {w : World} {A : Around} {K : Type} [DecidableEq K] {knd : KeyKind prog w K} (x1 I d : Addr) (hne : d ≠ I) (kvs : List (K × Value)) (ep : Nat) :
    Walks prog w A I [x1, I, d] [I] kvs.length (fun i v => ∃ k x, kvs[i]? = some (k, x) ∧ knd.is k v = true) (fun i h => HotAt A x1 h ∧ h.IsKeyIter I d i kvs.length ep ∧ h.DictAt knd d kvs ep) where
  sub := fun b hb => by simp at hb; simp [hb]
  frame := fun _ h h' st hk => ⟨by
      obtain ⟨hh, o1, vs, h1, d1, c1⟩ := st.1
      exact ⟨hh, o1, vs, hk x1 (by simp) _ h1, d1, c1⟩, st.2.1.at fun o e => hk I (by simp) o e, st.2.2.at' fun o e => hk d (by simp) o e⟩
  item := fun i s Q E hi st hQ => by
    obtain ⟨⟨k, x⟩, hx⟩ : ∃ p, kvs[i]? = some p := ⟨kvs[i], by simp [hi]⟩
    refine wpAny_pyNext_dict_item st.2.1 st.2.2 hx fun key h' hkey hit' hs' => ?_
    refine hQ key h' s.toks ⟨k, x, hx, hkey⟩ ⟨?_, hit', st.2.2.extBut hs'.extBut hne⟩ fun b o hb e => hs'.extBut b o (fun h => hb (by simp [h])) e
    obtain ⟨hh, o1, vs, h1, d1, c1⟩ := st.1
    exact ⟨hh, o1, vs, (hs'.2 x1 (iterk_ne st.1 st.2.1)).trans h1, d1, c1⟩
  done := fun s Q E st hQ => dict_end_hot st.1 st.2.1 st.2.2 (by simp) fun h' he' => hQ h' s.toks fun b o hb e => he' b o (fun h => hb (by simp [h])) e
  self := fun _ _ _ _ st hQ => wpAny_pyIter_keyiter st.2.1 hQ

section
variable {prog : Program} {w : World} {A : Around} {E : Value → Shared → Prop} {s : Shared}
/-- min(a, b) -/
theorem min2_hot {x1 : Addr} {a b : Int} {t u : Tok} {Q : Value → Shared → Prop} (hot : HotAt A x1 s.heap)
    (h : ∀ h' tk, (∀ c o, s.heap.get? c = some o → h'.get? c = some o) → Q (if b < a then .int b u else .int a t) { s with heap := h', toks := tk }) :
    wpAny (model prog w) A (call (.builtin "min") [.int a t, .int b u]) Q E s := by
  have hT : (s.heap.push { cls := .type "tuple", data := .seq #[.int a t, .int b u] }).IsTuple s.heap.objs.size (intItems #[(a, t), (b, u)]) := ⟨_, Heap.get?_push_size _ rfl, rfl, 0, by simp [intItems]⟩
  refine call_min_two (wpAny_pyIter_tuple hT ?_)
  have hsz : (s.heap.push { cls := .type "tuple", data := .seq #[.int a t, .int b u] }).objs.size = s.heap.objs.size + 1 := Heap.size_push ..
  have hx : x1 < s.heap.objs.size := by
    obtain ⟨_, o1, _, h1, _⟩ := hot
    exact Heap.lt_size h1
  refine ⟨_, [x1, _, s.heap.objs.size], [_], _, _, _, _, rfl, walk_tuple_hot (A := A.in1) x1 _ s.heap.objs.size (by rw [hsz]; exact Nat.ne_of_lt (Nat.lt_succ_self _)) (intItems #[(a, t), (b, u)]),
    ⟨hot_push (A := A.in1) _ (hot_push _ hot), ⟨_, Heap.get?_push_size _ rfl, rfl, rfl⟩, hT.push _⟩, fun c hc => ?_, by simp [intItems], CmpOf.ints_lt (numAt #[(a, t), (b, u)]) (fun _ _ => intItems_at), fun v h' tk hP hk => ?_⟩
  · show c < ((s.heap.push _).push _).objs.size
    rw [Heap.size_push, hsz]
    simp only [List.mem_cons, List.not_mem_nil, or_false] at hc
    rcases hc with rfl | rfl | rfl
    · exact Nat.lt_succ_of_lt (Nat.lt_succ_of_lt hx)
    · rw [hsz]; exact Nat.lt_succ_self _
    · exact Nat.lt_succ_of_lt (Nat.lt_succ_self _)
  · have keep : ∀ c o, s.heap.get? c = some o → h'.get? c = some o := fun c o e => by
      refine hk c o (fun hm => ?_) (Heap.get?_push_of_some _ (Heap.get?_push_of_some _ e))
      have e1 := List.mem_singleton.mp hm
      have := Heap.lt_size e
      rw [e1, hsz] at this
      exact Nat.lt_irrefl _ (Nat.lt_of_succ_lt this)
    have key := h h' tk keep
    have hP1 : (intItems #[(a, t), (b, u)])[argBest (fun i j => decide (numAt #[(a, t), (b, u)] i < numAt #[(a, t), (b, u)] j)) 1]? = some v := by
      have z : (intItems #[(a, t), (b, u)]).size - 1 = 1 := by simp [intItems]
      rw [← z]; exact hP
    have hv : v = if b < a then Value.int b u else Value.int a t := by
      by_cases hba : b < a
      · rw [show argBest (fun i j => decide (numAt #[(a, t), (b, u)] i < numAt #[(a, t), (b, u)] j)) 1 = 1 from by simp [argBest, numAt, hba]] at hP1
        simpa [intItems, hba] using hP1.symm
      · rw [show argBest (fun i j => decide (numAt #[(a, t), (b, u)] i < numAt #[(a, t), (b, u)] j)) 1 = 0 from by simp [argBest, numAt, hba]] at hP1
        simpa [intItems, hba] using hP1.symm
    rw [hv]; exact key
end
end Sg

/-! SgHot3: a dict's keys collected, whether or not an exception is handled. -/
namespace Sg
open PySem PySem.W PySem.Spec PySem.Calls PyProof.Rows HotX

/-- nothing is handled, or an exception whose context is None -/
def Cool (A : Around) (h : Heap) : Prop := A.handled = none ∨ ∃ x1, HotAt A x1 h
theorem Cool.keeps {A : Around} {h h' : Heap} (c : Cool A h) (k : ∀ b o, h.get? b = some o → h'.get? b = some o) : Cool A h' :=
  c.elim .inl fun ⟨x, q⟩ => .inr ⟨x, hot_keeps q k⟩
section
variable {prog : Program} {w : World} {A : Around} {E : Value → Shared → Prop} {s : Shared}
theorem min2_cool {a b : Int} {t u : Tok} {Q : Value → Shared → Prop} (c : Cool A s.heap)
    (h : ∀ h' tk, (∀ c o, s.heap.get? c = some o → h'.get? c = some o) → Q (if b < a then .int b u else .int a t) { s with heap := h', toks := tk }) :
    wpAny (model prog w) A (call (.builtin "min") [.int a t, .int b u]) Q E s :=
  c.elim (fun hh => min_two_ints hh h) fun ⟨_, hot⟩ => min2_hot hot h
section
variable {K : Type} [DecidableEq K] {knd : KeyKind prog w K} {d : Addr} {kvs : List (K × Value)} {ep : Nat}
/-- the walk over the keys -/
theorem keys_cool (c : Cool A s.heap) (hm : s.heap.DictAt knd d kvs ep) : ∃ (fp : List Addr) (St : Nat → Heap → Prop),
    Walks prog w A s.heap.objs.size fp [s.heap.objs.size] kvs.length (fun i v => ∃ k x, kvs[i]? = some (k, x) ∧ knd.is k v = true) St ∧ (∀ b ∈ fp, b = s.heap.objs.size ∨ ∃ o, s.heap.get? b = some o) ∧ (∀ h : Heap, Cool A h → h.IsKeyIter s.heap.objs.size d 0 kvs.length ep → h.DictAt knd d kvs ep → (∀ b o, s.heap.get? b = some o → h.get? b = some o) → St 0 h) ∧
    (∀ b ∈ fp, b = s.heap.objs.size ∨ b = d ∨ A.handled = some (.ref b)) := by
  have ne : d ≠ s.heap.objs.size := Nat.ne_of_lt hm.lt_size
  obtain ⟨od, hod⟩ : ∃ o, s.heap.get? d = some o := by
    obtain ⟨o, es, ho, _⟩ := hm
    exact ⟨o, ho⟩
  rcases c with hh | ⟨x1, hot⟩
  · refine ⟨_, _, Walks.dictKeys hh s.heap.objs.size d ne kvs ep, fun b hb => ?_, fun h _ h1 h2 _ => ⟨h1, h2⟩, fun b hb => ?_⟩
    · simp only [List.mem_cons, List.not_mem_nil, or_false] at hb
      rcases hb with rfl | rfl
      · exact .inl rfl
      · exact .inr ⟨_, hod⟩
    · simp only [List.mem_cons, List.not_mem_nil, or_false] at hb
      rcases hb with rfl | rfl
      · exact .inl rfl
      · exact .inr (.inl rfl)
  · refine ⟨_, _, walk_keys_hot x1 s.heap.objs.size d ne kvs ep, fun b hb => ?_, fun h _ h1 h2 k => ⟨hot_keeps hot k, h1, h2⟩, fun b hb => ?_⟩
    · simp only [List.mem_cons, List.not_mem_nil, or_false] at hb
      rcases hb with rfl | rfl | rfl
      · obtain ⟨_, o1, _, h1, _⟩ := hot
        exact .inr ⟨_, h1⟩
      · exact .inl rfl
      · exact .inr ⟨_, hod⟩
    · simp only [List.mem_cons, List.not_mem_nil, or_false] at hb
      rcases hb with rfl | rfl | rfl
      · exact .inr (.inr hot.1)
      · exact .inl rfl
      · exact .inr (.inl rfl)
/-- list.extend by a dict -/
theorem extend_cool {R : Result → Shared → Prop} (c : Cool A s.heap) (lo : (d == sysModules) = false) (hm : s.heap.DictAt knd d kvs ep) (L : Addr) (hLx : A.handled ≠ some (.ref L)) (hLd : L ≠ d) (res : Value) (c₀ : Nat) (hL : s.heap.get? L = some { cls := .type "list", data := .seq #[] c₀ })
    (hR : ∀ h' tk acc c', (∀ b o, b ≠ L → s.heap.get? b = some o → h'.get? b = some o) → h'.get? L = some { cls := .type "list", dict := none, data := .seq acc c', slots := #[] } → ItemsOf (fun i v => ∃ k x, kvs[i]? = some (k, x) ∧ knd.is k v = true) acc kvs.length → R (.ok (.ret res)) { s with heap := h', toks := tk }) (hn : kvs.length ≤ sizeLine) :
    wpAny (model prog w) A.in1 (Builtin.List.listExtendWith (.ref L) (.ref d) res)
      (fun fin s' => match fin with | .done f => R (.ok f) s' | .again c' => c'.quiet = true ∧ codeAny (model prog w) A c' R s') (fun e s' => R (.error e) s') s := by
  have hLI : L ≠ s.heap.objs.size := Nat.ne_of_lt (Heap.lt_size hL)
  obtain ⟨fp, St, W, -, st0, hfp⟩ := keys_cool (A := A.in1) (knd := knd) (kvs := kvs) (ep := ep) c hm
  have hLf : L ∉ fp := fun hm' => by
    rcases hfp L hm' with e | e | e
    · exact hLI e
    · exact hLd e
    · exact hLx e
  have key : ∀ (h : Heap) (c₁ tk : Nat), St 0 h → (∀ b o, b ≠ L → s.heap.get? b = some o → h.get? b = some o) → h.get? L = some { cls := .type "list", data := .seq #[] c₁ } →
      codeAny (model prog w) A (.builtin "list.extend.loop" ⟨[.ref L, .ref s.heap.objs.size, res], []⟩) R { s with heap := h, toks := tk } := by
    intro h c₁ tk hst hk hL1
    refine codeAny_extend_loopS W.toS hn L hLf res kvs.length 0 _ #[] c₁ rfl (Nat.zero_le _) hst hL1 (ItemsOf.nil _) fun s' acc c' hmv hL' hacc => ?_
    rw [Moved.eq_with hmv]
    refine hR s'.heap s'.toks acc c' (fun b o hb e => hmv.heap b o (fun hmem => ?_) (hk b o hb e)) hL' hacc
    rcases List.mem_cons.mp hmem with e' | hmem
    · exact hb e'
    · exact absurd (Heap.lt_size e) (by rw [List.mem_singleton.mp hmem]; exact Nat.lt_irrefl _)
  have hT : s.TypeIs (.ref d) "dict" := hm.dictOf.typeIs
  unfold Builtin.List.listExtendWith
  refine wpAny_bind (wpAny_typeOf (T := "dict") hT ?_)
  have nr : Builtin.List.listSameRef (.ref L) (.ref d) = false := by simp [Builtin.List.listSameRef, hLd]
  simp only [nr, (by decide : (Value.type "dict" == Value.type "list") = false), (by decide : (Value.type "dict" == Value.type "tuple") = false), Bool.or_false, Bool.false_eq_true, if_false]
  refine wpAny_bind (wpAny_pyIter_dict lo hm ?_)
  have hnew : (s.heap.push { cls := .type "dict_keyiterator", data := .fields #[.ref d, .int 0 0, .int kvs.length 0, .int ep 0] }).IsKeyIter s.heap.objs.size d 0 kvs.length ep := ⟨_, Heap.get?_push_size _ rfl, rfl, rfl⟩
  have kp : ∀ b o, s.heap.get? b = some o → (s.heap.push { cls := .type "dict_keyiterator", data := .fields #[.ref d, .int 0 0, .int kvs.length 0, .int ep 0] }).get? b = some o := fun b o e => Heap.get?_push_of_some _ e
  have hL1 := kp _ _ hL
  have st1 := st0 _ (Cool.keeps (A := A.in1) c kp) hnew (hm.push _) kp
  refine wpAny_bind (wpAny_holding (kdl_hint_dict (hm.push _).dictOf.typeIs ?_))
  refine wpAny_ite_split (fun _ => ?_) (fun _ => wpAny_pure ⟨plainId_quiet PySem.F.plain_extend_loop _, key _ c₀ _ st1 (fun b o _ e => kp b o e) hL1⟩)
  refine wpAny_bind (wpAny_rule (wpAny_bind ?_))
  show wpAny _ _ (updateSeq L (·.push .none) >>= fun _ => updateSeq L (·.pop)) _ _ _
  refine wpAny_bind (wpAny_updateSeq hL1 rfl ?_)
  have hL2 := Heap.get?_update_self (Obj.mapSeq (·.push Value.none)) hL1 rfl
  refine wpAny_updateSeq (hz := by seq_fits) hL2 rfl ?_
  have hL3 := Heap.get?_update_self (Obj.mapSeq (·.pop)) hL2 rfl
  have oth : ∀ b o, b ≠ L → (s.heap.push { cls := .type "dict_keyiterator", data := .fields #[.ref d, .int 0 0, .int kvs.length 0, .int ep 0] }).get? b = some o → (((s.heap.push { cls := .type "dict_keyiterator", data := .fields #[.ref d, .int 0 0, .int kvs.length 0, .int ep 0] }).update L (Obj.mapSeq (·.push Value.none))).update L (Obj.mapSeq (·.pop))).get? b = some o := fun b o hb e =>
    (Heap.get?_update_other _ _ (Ne.symm hb)).trans ((Heap.get?_update_other _ _ (Ne.symm hb)).trans e)
  exact wpAny_pure ⟨plainId_quiet PySem.F.plain_extend_loop _, key _ _ _ (W.frame 0 _ _ st1 fun b hb o e => oth b o (fun z => hLf (z ▸ hb)) e) (fun b o hb e => oth b o hb (kp b o e)) hL3⟩
/-- the values of a dict's keys as a list -/
theorem collect_cool {R : List Value → Shared → Prop} (c : Cool A s.heap) (lo : (d == sysModules) = false) (hm : s.heap.DictAt knd d kvs ep) (hn : kvs.length ≤ sizeLine)
    (h : ∀ (h' : Heap) (tk : Nat) (acc : Array Value), (∀ b o, s.heap.get? b = some o → h'.get? b = some o) → ItemsOf (fun i v => ∃ k x, kvs[i]? = some (k, x) ∧ knd.is k v = true) acc kvs.length → R acc.toList { s with heap := h', toks := tk }) :
    wpAny (model prog w) A (collect (.ref d)) R E s := by
  have hlt := hm.lt_size
  have hx : A.handled ≠ some (.ref s.heap.objs.size) := fun e => by
    rcases c with hh | ⟨x1, hh, o1, _, h1, _⟩
    · rw [hh] at e; cases e
    · rw [hh] at e
      cases e
      exact absurd (Heap.lt_size h1) (Nat.lt_irrefl _)
  unfold collect
  refine wpAny_bind (wpAny_runValue (codeAny_builtin entry_proto_collect' ?_))
  rw [Around.under_plainId PySem.F.plain_proto_collect _]
  show wpAny _ A.in1 (newList [] >>= fun l => again (.builtin "list.__iadd__" ⟨[l, .ref d], []⟩)) _ _ s
  refine wpAny_bind (wpAny_newObj_type (wpAny_pure ⟨plainId_quiet PySem.F.plain_list_iadd _, codeAny_builtin entry_list_iadd' ?_⟩))
  rw [Around.under_plainId PySem.F.plain_list_iadd _]
  have hL : (s.heap.push { cls := .type "list", data := .seq ([] : List Value).toArray }).get? s.heap.objs.size = some { cls := .type "list", data := .seq #[] } := Heap.get?_push_size _ rfl
  have kp : ∀ b o, s.heap.get? b = some o → (s.heap.push { cls := .type "list", data := .seq ([] : List Value).toArray }).get? b = some o := fun b o e => Heap.get?_push_of_some _ e
  show wpAny _ A.in1 (Builtin.List.listExtendWith (.ref s.heap.objs.size) (.ref d) (.ref s.heap.objs.size)) _ _ _
  have go := extend_cool (A := A) (knd := knd) (kvs := kvs) (ep := ep) (s := { s with heap := s.heap.push { cls := .type "list", data := .seq ([] : List Value).toArray } })
    (R := fun (q : Result) (s' : Shared) => ∃ (h' : Heap) (tk : Nat) (acc' : Array Value) (c' : Nat), q = .ok (.ret (.ref s.heap.objs.size)) ∧ s' = { s with heap := h', toks := tk } ∧ (∀ b o, s.heap.get? b = some o → h'.get? b = some o) ∧
      h'.get? s.heap.objs.size = some { cls := .type "list", dict := none, data := .seq acc' c', slots := #[] } ∧ ItemsOf (fun i v => ∃ k x, kvs[i]? = some (k, x) ∧ knd.is k v = true) acc' kvs.length)
    (c.keeps kp) lo (hm.push _) s.heap.objs.size hx (Nat.ne_of_gt hlt) (.ref s.heap.objs.size) 0 hL
    (fun h' tk acc' c' hk hS' hacc => ⟨h', tk, acc', c', rfl, rfl, fun b o e => hk b o (Nat.ne_of_lt (Heap.lt_size e)) (kp b o e), hS', hacc⟩) hn
  refine wpAny_mono go (fun fin s' x => ?_) fun e s' x => ?_
  · cases fin with
    | done f =>
      obtain ⟨h', tk, acc', c', e, rfl, hk, hS', hacc⟩ := x
      cases e
      show wpAny _ A (load s.heap.objs.size >>= _) _ _ _
      exact wpAny_bind (wpAny_load hS' (wpAny_pure (h h' tk acc' hk hacc)))
    | again c₁ =>
      refine ⟨x.1, codeAny_mono x.2 fun q s₂ y => ?_⟩
      obtain ⟨h', tk, acc', c', rfl, rfl, hk, hS', hacc⟩ := y
      show wpAny _ A (load s.heap.objs.size >>= _) _ _ _
      exact wpAny_bind (wpAny_load hS' (wpAny_pure (h h' tk acc' hk hacc)))
  · obtain ⟨_, _, _, _, e', _⟩ := x
    cases e'
end
end
end Sg

/-! SgCool: bodies that run whether or not an exception is handled: calls, loops, comprehensions. -/
namespace Sg
open PySem PySem.Spec PyProof.Rows L2 L2H HotX

/-- calm, or within an except suite of an exception whose context is None -/
def CoolC (X : Cx) : Prop := X.calm = true ∨ HotC X
theorem CoolC.at {X : Cx} {pins : List (Addr × Obj)} {σ : L2.St} {H : Hp} {s : Shared} (c : CoolC X) (I : Inv X pins σ H s) : Cool X.A s.heap :=
  c.elim (fun h => .inl (I.ok.hd h)) fun h => .inr (h.at I)
section
variable {X : Cx} {CX : CXT} {k : Nat} {f C : Addr} {fd : FuncData} {ps : List Str} {sp : Sp} {E : L2.St → XK} {x m : Str} {p pos apos : Pos} {e o : Expr} {es : List Expr} {ta : TE} {t : TA}
/-- o.m(e, ..), what is raised wished for at the caller's slots -/
theorem pe_methX {pl : Sem Bool} (he : PE X o ta) (c : Cls X.K C) (hm : Meth X.K C m f) (F : FnOk X.prog X.w X.K X.mg X.base CX k f fd ps sp) (hr : Room k X.A) (hb : Binds X.K fd ps []) (hx : ∀ σ, PassesAt CX X σ (E σ)) (ha : PA X (e :: es) t)
    (hst : starEach (e :: es) X.env = (false, eval e X.env) :: starEach es X.env := by rfl) (hpl : (backTo pos (starEach es X.env)).any (·.1) = false := by rfl)
    (ht : eval (.Call (.Attribute o m apos) (e :: es) [] pos) X.env = (do
      let w ← eval o X.env
      standAt apos.atName
      let (f, first) ← holding [w] (getMethod w m pl)
      callWith pos f first (backTo pos (starEach (e :: es) X.env)) (backToKw pos (keywordEach [] X.env))) := by rfl) :
    PE X (.Call (.Attribute o m apos) (e :: es) [] pos) (tMethH C m sp E ta t) := by
  refine ⟨fun pins s σ H Q I h => PySem.W.methodCall_KW (pl := pl) (thn (he.run pins s σ H _ I h) fun u s1 hu => ?_) ht⟩
  obtain ⟨y, H1, I1, ry, a, dx, fs, rfl, ea, l, q⟩ := hu
  obtain rfl : u = Value.ref a := ry
  refine getmeth_ok I1 ea c hm l (PySem.W.callWith_K (first := [.ref a]) (h₀ := X.base) I.ok.mod.kin hm.kp (thn (ha.run pos pins s1 σ H1 _ I1 q) fun us s2 hus => ?_) hst hpl)
  obtain ⟨vs, H2, I2, r, q2⟩ := hus
  exact ⟨I2.kIn, run_fnS (us := .ref a :: us) (vs := .ref a :: vs) F hr hb (hx σ) I2 (.cons rfl r) q2⟩
theorem pe_methX0 {pl : Sem Bool} (he : PE X o ta) (c : Cls X.K C) (hm : Meth X.K C m f) (F : FnOk X.prog X.w X.K X.mg X.base CX k f fd ps sp) (hr : Room k X.A) (hb : Binds X.K fd ps []) (hx : ∀ σ, PassesAt CX X σ (E σ))
    (ht : eval (.Call (.Attribute o m apos) [] [] pos) X.env = (do
      let w ← eval o X.env
      standAt apos.atName
      let (f, first) ← holding [w] (getMethod w m pl)
      callWith pos f first (backTo pos (starEach [] X.env)) (backToKw pos (keywordEach [] X.env))) := by rfl) :
    PE X (.Call (.Attribute o m apos) [] [] pos) (tMethH C m sp E ta tNil) := by
  refine ⟨fun pins s σ H Q I h => PySem.W.methodCall_KW (pl := pl) (thn (he.run pins s σ H _ I h) fun u s1 hu => ?_) ht⟩
  obtain ⟨y, H1, I1, ry, a, dx, fs, rfl, ea, l, q⟩ := hu
  obtain rfl : u = Value.ref a := ry
  exact getmeth_ok I1 ea c hm l (PySem.W.callWith_K0 (first := [.ref a]) I1.kIn hm.kp (run_fnS (us := [.ref a]) (vs := [.ref a]) F hr hb (hx σ) I1 (.cons rfl .nil) q))
theorem pe_methH0 {pl : Sem Bool} (he : PE X o ta) (c : Cls X.K C) (hm : Meth X.K C m f) (F : FnH X.prog X.w X.K X.mg X.base CX k f fd ps sp) (hr : RoomH k X.A) (hc : HotC X) (hb : Binds X.K fd ps []) (hx : ∀ σ, PassesAt CX X σ (E σ))
    (ht : eval (.Call (.Attribute o m apos) [] [] pos) X.env = (do
      let w ← eval o X.env
      standAt apos.atName
      let (f, first) ← holding [w] (getMethod w m pl)
      callWith pos f first (backTo pos (starEach [] X.env)) (backToKw pos (keywordEach [] X.env))) := by rfl) :
    PE X (.Call (.Attribute o m apos) [] [] pos) (tMethH C m sp E ta tNil) := by
  refine ⟨fun pins s σ H Q I h => PySem.W.methodCall_KW (pl := pl) (thn (he.run pins s σ H _ I h) fun u s1 hu => ?_) ht⟩
  obtain ⟨y, H1, I1, ry, a, dx, fs, rfl, ea, l, q⟩ := hu
  obtain rfl : u = Value.ref a := ry
  exact getmeth_ok I1 ea c hm l (PySem.W.callWith_K0 (first := [.ref a]) I1.kIn hm.kp (run_fnH (us := [.ref a]) (vs := [.ref a]) F hr hc hb (hx σ) I1 (.cons rfl .nil) q))
end

/-! ### defs that keep a promise in both states, and raise nothing -/
structure FnB (P : Program) (w : World) (K : PySem.W.Frag) (mg : Str → Option Value) (base : Heap) (k : Nat) (f : Addr) (fd : FuncData) (ps : List Str) (sp : Sp) : Prop where
  ok : FnOk P w K mg base CX0 k f fd ps sp
  hot : FnH P w K mg base CX0 k f fd ps sp
theorem FnH.mono {P : Program} {w : World} {K : PySem.W.Frag} {mg : Str → Option Value} {base : Heap} {CX : CXT} {j k : Nat} {f : Addr} {fd : FuncData} {ps : List Str} {sp : Sp} (F : FnH P w K mg base CX j f fd ps sp) (h : j ≤ k) : FnH P w K mg base CX k f fd ps sp :=
  ⟨F.len, fun A outer s H args us vs Q E p hr => F.run A outer s H args us vs Q E p (hr.mono h)⟩
theorem FnB.mono {P : Program} {w : World} {K : PySem.W.Frag} {mg : Str → Option Value} {base : Heap} {j k : Nat} {f : Addr} {fd : FuncData} {ps : List Str} {sp : Sp} (F : FnB P w K mg base j f fd ps sp) (h : j ≤ k) : FnB P w K mg base k f fd ps sp :=
  ⟨F.ok.mono h, Sg.FnH.mono F.hot h⟩
/-- a def's body, with o the handled exception, if any -/
def cxO (P : Program) (w : World) (K : PySem.W.Frag) (mg : Str → Option Value) (base : Heap) (N : List Str) (qual : Str) (scope : Scope) (f : Addr) (cd : Value) (A : Around) (outer : List Env) (s : Shared) (H : Hp) (E : XK) (o : Option (Addr × Obj)) : Cx :=
  { cxOf CX0 P w K mg base N qual scope f cd A outer s H E with calm := o.isNone, pn := o.toList }
abbrev EN : XK := fun _ _ _ => False
theorem passN {X : Cx} : ∀ σ : L2.St, PassesAt CX0 X σ ((fun _ => EN : L2.St → XK) σ) := fun _ _ _ _ _ _ _ h => h.elim
section
variable {P : Program} {w : World} {K : PySem.W.Frag} {mg : Str → Option Value} {base : Heap}
theorem okB {x qual : Str} {st : Stmt} {f : Addr} {fd : FuncData} {N ps : List Str} {k : Nat} {sp : Sp} (F : Fun K x qual st f fd) (S : FnScope N ps (defScope st)) (len : ∀ vs H Q E, sp vs H Q E → vs.length = ps.length)
    (hbody : ∀ (cdv : Value) (A : Around) (outer : List Env) (s : Shared) (H : Hp) (vs : List V) (Q : VK) (E : XK) (o : Option (Addr × Obj)), RoomH k (A.deeper (envOfC qual (defScope st) s.heap.objs.size f cdv)) → CoolC (cxO P w K mg base N qual (defScope st) f cdv A outer s H E o).nox → sp vs H Q E →
      ∃ t, PSs (cxO P w K mg base N qual (defScope st) f cdv A outer s H E o).nox (defBody st) t ∧ t { nx := fun _ H' => Q .non H', rt := Q } (L2.start N vs) H) : FnB P w K mg base (k + 1) f fd ps sp := by
  obtain ⟨oc, od, kV, doc, pm, an, cdv, ct, osl, rfl, lk, hcd⟩ := F.ex
  refine ⟨fn_of lk hcd S len fun A outer s H vs Q E hr hsp => ?_, fn_ofH lk hcd S len fun A outer s H vs Q E p hot hr hsp => ?_⟩
  · obtain ⟨t, h, q⟩ := hbody cdv A outer s H vs Q E none (roomH_of hr) (.inl rfl) hsp
    exact ⟨t, h.nox, q⟩
  · obtain ⟨t, h, q⟩ := hbody cdv A outer s H vs Q E (some p) hr (.inr ⟨p, hot, List.mem_singleton.mpr rfl⟩) hsp
    exact ⟨t, h.nox, q⟩
end
section
variable {X : Cx} {k : Nat} {f C : Addr} {fd : FuncData} {ps : List Str} {sp : Sp} {x m : Str} {p pos apos : Pos} {e o : Expr} {es : List Expr} {ta : TE} {t : TA}
theorem room_of {X : Cx} {pins : List (Addr × Obj)} {σ : L2.St} {H : Hp} {s : Shared} (c : X.calm = true) (hr : RoomH k X.A) (I : Inv X pins σ H s) : Room k X.A := ⟨I.ok.hd c, hr.dp, hr.un⟩
/-- f(e, ..) -/
theorem pe_cb (F : FnB X.prog X.w X.K X.mg X.base k f fd ps sp) (hr : RoomH k X.A) (c : CoolC X) (hg : Gl X x) (hm : X.mg x = some (.ref f)) (hk : PySem.W.keepIn X.K (.ref f) = true) (hb : Binds X.K fd ps []) (ha : PA X (e :: es) t)
    (hdb : (x == ("__debug__" : Str)) = false := by decide) (he : starEach (e :: es) X.env = (false, eval e X.env) :: starEach es X.env := by rfl) (hpl : (backTo pos (starEach es X.env)).any (·.1) = false := by rfl) :
    PE X (.Call (.Name x p) (e :: es) [] pos) (tCallS sp (fun _ => EN) t) := by
  rcases c with c | c
  · exact ⟨fun pins s σ H Q I h => (pe_callS F.ok (room_of c hr I) hg hm hk hb passN ha hdb he hpl).run pins s σ H Q I h⟩
  · exact pe_callH F.hot hr c hg hm hk hb passN ha hdb he hpl
/-- o.m(e, ..); o.m() -/
theorem pe_mb {pl : Sem Bool} (he : PE X o ta) (cl : Cls X.K C) (hm : Meth X.K C m f) (F : FnB X.prog X.w X.K X.mg X.base k f fd ps sp) (hr : RoomH k X.A) (c : CoolC X) (hb : Binds X.K fd ps []) (ha : PA X (e :: es) t)
    (hst : starEach (e :: es) X.env = (false, eval e X.env) :: starEach es X.env := by rfl) (hpl : (backTo pos (starEach es X.env)).any (·.1) = false := by rfl)
    (ht : eval (.Call (.Attribute o m apos) (e :: es) [] pos) X.env = (do
      let w ← eval o X.env
      standAt apos.atName
      let (f, first) ← holding [w] (getMethod w m pl)
      callWith pos f first (backTo pos (starEach (e :: es) X.env)) (backToKw pos (keywordEach [] X.env))) := by rfl) :
    PE X (.Call (.Attribute o m apos) (e :: es) [] pos) (tMethH C m sp (fun _ => EN) ta t) := by
  rcases c with c | c
  · exact ⟨fun pins s σ H Q I h => (pe_methX he cl hm F.ok (room_of c hr I) hb passN ha hst hpl ht).run pins s σ H Q I h⟩
  · exact pe_methH he cl hm F.hot hr c hb passN ha hst hpl ht
theorem pe_mb0 {pl : Sem Bool} (he : PE X o ta) (cl : Cls X.K C) (hm : Meth X.K C m f) (F : FnB X.prog X.w X.K X.mg X.base k f fd ps sp) (hr : RoomH k X.A) (c : CoolC X) (hb : Binds X.K fd ps [])
    (ht : eval (.Call (.Attribute o m apos) [] [] pos) X.env = (do
      let w ← eval o X.env
      standAt apos.atName
      let (f, first) ← holding [w] (getMethod w m pl)
      callWith pos f first (backTo pos (starEach [] X.env)) (backToKw pos (keywordEach [] X.env))) := by rfl) :
    PE X (.Call (.Attribute o m apos) [] [] pos) (tMethH C m sp (fun _ => EN) ta tNil) := by
  rcases c with c | c
  · exact ⟨fun pins s σ H Q I h => (pe_methX0 he cl hm F.ok (room_of c hr I) hb passN ht).run pins s σ H Q I h⟩
  · exact pe_methH0 he cl hm F.hot hr c hb passN ht
/-- min(a, b) -/
theorem call_min2C (c : CoolC X) : CallR X (.builtin "min") (fun xs H Q => ∃ i j, xs = [.int i, .int j] ∧ Q (.int (if j < i then j else i)) H) := by
  intro pins s σ H xs us Q I r h
  obtain ⟨i, j, rfl, q⟩ := h
  obtain ⟨u, v, rfl, ⟨t, rfl⟩, ⟨t', rfl⟩⟩ := vals2 r
  refine min2_cool (c.at I) fun h' tk kp => ⟨_, H, I.kept kp, ?_, q⟩
  split <;> exact ⟨_, rfl⟩
end

/-! ### for over a list -/
theorem turn_listH {P : Program} {w : World} {K : PySem.W.Frag} {tg : Expr} (a it : Addr) : TurnH P w K tg (Itl K a) [it] it (fun i h => h.IsListIter it a i) where
  mem := (turn_list (P := P) (w := w) (K := K) (tg := tg) a it).mem
  obj := (turn_list (P := P) (w := w) (K := K) (tg := tg) a it).obj
  keep := (turn_list (P := P) (w := w) (K := K) (tg := tg) a it).keep
  item := by
    intro X hP hw hK _ i pins s σ H E I hf st hg
    subst hP hw hK
    obtain ⟨xs, x, hq, hx⟩ := hg
    obtain ⟨its, rv, p, _⟩ := I.list hq
    obtain ⟨u, hu, ru⟩ := rv.get hx
    obtain ⟨f0, f1, f2, f3, f4, f5⟩ := hf it (List.mem_singleton.mpr rfl)
    refine wpAny_pyNext_list_item st p.isList (x := u) (by simpa using hu) fun h1 st1 sb => ⟨u, rfl, ?_⟩
    obtain ⟨o, e, c, d⟩ := id st1
    have J : Inv X pins σ H { s with heap := h1 } := I.turned (t' := s.toks) (fun b o hb e => (sb.2 b hb).trans e) f0 f1 f3 f4 f5
    exact go_of (s := { s with heap := h1 }) e c d (by decide) ⟨x, H, J, ru, ⟨rfl, fun ys hy => by rw [I.list_inj hy hq]; exact hx⟩, st1, fun b hb => (hf b hb).1⟩
  done := by
    intro X hP hw hK hc i pins s σ H E I hf st hg
    subst hP hw hK
    obtain ⟨xs, hq, hx⟩ := hg
    obtain ⟨its, rv, p, _⟩ := I.list hq
    obtain ⟨f0, f1, f2, f3, f4, f5⟩ := hf it (List.mem_singleton.mpr rfl)
    obtain ⟨x1, hot⟩ := hc.at I
    have hl := rv.length
    exact list_end_hot hot st p.isList (by simp; omega) fun h1 eb => ⟨rfl, I.turned (t' := s.toks) (fun b o hb e => eb b o hb e) f0 f1 f3 f4 f5⟩
  self := (turn_list (P := P) (w := w) (K := K) (tg := tg) a it).self
section
variable {X : Cx} {tg l : Expr} {tl : TE} {body : List Stmt} {g : TG} {tb : TS} {pos : Pos}
theorem pi_listH (hl : PE X l tl) : PIH X tg l (iList X.K tl) := by
  refine ⟨fun pins s σ H R I h => thn (hl.run pins s σ H _ I h) fun u s1 hu => ?_⟩
  obtain ⟨x, H1, I1, rx, a, rfl, ⟨xs, hq⟩, r⟩ := hu
  obtain rfl : u = Value.ref a := rx
  obtain ⟨its, rv, p, _⟩ := I1.list hq
  refine wpAny_pyIter_list p.isList ?_
  have kp : ∀ (o : Obj) b u, s1.heap.get? b = some u → (s1.heap.push o).get? b = some u := fun o b u e => Heap.get?_push_of_some _ e
  refine ⟨s1.heap.objs.size, [s1.heap.objs.size], _, Itl X.K a, H1, rfl, I1.kept (t' := s1.toks) (kp _), turn_listH a _, ⟨_, Heap.get?_push_size _ rfl, rfl, rfl⟩, fun b hb => ?_, r⟩
  rw [List.mem_singleton.mp hb]
  exact I1.fpOk (Nat.le_refl _) (I1.hok.fresh (Nat.le_refl _))
theorem ps_forL (hp : PassesOwn (model X.prog X.w) X.A X.env X.xe) (c : CoolC X) (hl : PE X l tl) (hg : PG X tg g) (hb : PSs X body tb)
    (hs : ∀ x, foldedSetIterable l X.env x = pure x := by intro _; rfl) : PS X (.For tg l body [] pos) (tFor (iList X.K tl) g tb) := by
  rcases c with c | c
  · exact ps_for hp c (pi_list hl) hg hb hs
  · exact ps_forH hp c (pi_listH hl) hg hb hs
end
end Sg

/-! SgComp: list comprehensions over a list, whether or not an exception is handled. -/
namespace Sg
open PySem PySem.Spec PyProof.Rows L2 L2H HotX

/-- a comprehension's block, the handled exception (if any) borne along -/
abbrev blkO (X : Cx) (s : Shared) (H : Hp) (scope : Scope) (cenv : Env) (fp : List Addr) (pn : List (Addr × Obj)) : Cx := { X.blk s H scope cenv fp with pn := pn }
section
variable {X : Cx} {pins : List (Addr × Obj)} {σ : L2.St} {H : Hp} {s : Shared}
theorem lcH_core {Q : VK} {elt tg iter : Expr} {ifs : List Expr} {scope : Scope} {own : List (Str × Nat)} {pos pos' : Pos} {wi : TI} {g : TG} {tt : TT} {te : TE} {use : Option (Value → Sem Unit)} {Qf : Value → Shared → Prop} {p : Addr × Obj}
    (hot : Hot1 X.A p) (hp : p ∈ X.pn) (hN : X.N.Nodup) (I : Inv X pins σ H s) (hi : PIH X tg iter wi) (ok : BlkOk X.N X.env.scope scope own)
    (hg : ∀ (s : Shared) (H : Hp) (C : Addr) (cl : List (Str × Addr)) (fp : List Addr), PG (blkO X s H scope (compEnvC scope cl C X.env) fp [p]) tg g)
    (ht : ∀ (s : Shared) (H : Hp) (C : Addr) (cl : List (Str × Addr)) (fp : List Addr), PTs (blkO X s H scope (compEnvC scope cl C X.env) fp [p]) ifs tt)
    (he : ∀ (s : Shared) (H : Hp) (C : Addr) (cl : List (Str × Addr)) (fp : List Addr), PE (blkO X s H scope (compEnvC scope cl C X.env) fp [p]) elt te) (hs : ∀ x, foldedSetIterable iter X.env x = pure x)
    (h : tLc wi g tt te (own.map (·.2)) σ H Q)
    (hRR : ∀ D C s' m H', Inv X pins σ H' s' → Q (.ref D) H' → s'.heap.Ns C m → FpOk X pins H' C → compPost (model X.prog X.w) X.A X.xe use Qf (.ref D) C (.ok .next) s') :
    wpAny (model X.prog X.w) X.A (comprehension (.ListComp elt [⟨tg, iter, ifs, 0⟩] scope pos) scope X.env pos' (newList []) false (eval iter X.env) use) Qf X.xe s := by
  have captured : ∀ y ∈ scope.names, y.2 = .free → ∃ c, X.env.cells.lookup y.1 = some c := fun y hy e => (ok.free y hy e).elim (fun k => I.ok.has _ (.inl k)) fun k => I.ok.has _ (.inr k)
  refine wpAny_comprehension_free (use := use) rfl hs (closure_ok captured) ok.kind (fun y hy e => by rw [ok.uniq y hy, e]) (thn (hi.run pins s σ H _ I h) fun xv s1 hx => thn hx fun itv s2 h2 => ?_)
  obtain ⟨it, fp, tn, J, H2, rfl, I2, T, tn2, fok2, q⟩ := h2
  refine wpAny_newObj_type (newEnv_comp ?_) (by show 0 ≤ sizeLine; decide)
  -- the new list at D
  obtain ⟨D, hD⟩ : ∃ D, s2.heap.objs.size = D := ⟨_, rfl⟩
  rw [hD]
  have freeD : H2 D = none := I2.hok.fresh (Nat.le_of_eq hD)
  obtain ⟨W, ⟨m0, w0⟩, turn⟩ := q D freeD
  obtain ⟨s3, es3⟩ : ∃ s3 : Shared, s3 = { s2 with heap := s2.heap.push { cls := .type "list", data := .seq ([] : List Value).toArray } } := ⟨_, rfl⟩
  have heap3 : s3.heap = s2.heap.push { cls := .type "list", data := .seq ([] : List Value).toArray } := by rw [es3]
  have I3 : Inv X pins σ (upd H2 D (.lst [])) s3 := by
    rw [es3]
    refine I2.laid (t' := s2.toks) (fun b o e => Heap.get?_push_of_some _ e) (Nat.le_of_eq hD) ⟨Nat.zero_le _, [], 0, .nil, ?_⟩
    rw [← hD]
    exact Heap.get?_push_size _ rfl
  rw [← es3]
  have under : ∀ b ∈ fp, b < s2.heap.objs.size := fun b hb => (T.obj _ _ tn2 b hb).elim fun o e => Heap.lt_size e.1
  obtain ⟨H3, eH3⟩ : ∃ H3, H3 = upd H2 D (.lst []) := ⟨_, rfl⟩
  rw [← eH3] at I3 w0
  have fok3 : ∀ b ∈ fp, FpOk X pins H3 b ∧ b < s3.heap.objs.size := fun b hb => by
    refine ⟨⟨?_, (fok2 b hb).2⟩, by rw [heap3, Heap.size_push]; exact Nat.lt_succ_of_lt (under b hb)⟩
    rw [eH3, upd_ne (by rw [← hD]; exact Nat.ne_of_lt (under b hb))]
    exact (fok2 b hb).1
  have tn3 : tn 0 s3.heap := T.keep _ _ _ tn2 fun b _ o e => by rw [heap3]; exact Heap.get?_push_of_some _ e
  have blk := block_start I3 ok hN fok3
  have pg := hg s3 H3 s3.heap.objs.size (cellsFrom (s3.heap.objs.size + 1) scope.names (cloFrom X.env.cells scope.names [])) fp
  have pt := ht s3 H3 s3.heap.objs.size (cellsFrom (s3.heap.objs.size + 1) scope.names (cloFrom X.env.cells scope.names [])) fp
  have pe := he s3 H3 s3.heap.objs.size (cellsFrom (s3.heap.objs.size + 1) scope.names (cloFrom X.env.cells scope.names [])) fp
  show codeAny _ _ (.compStart (.ListComp elt [⟨tg, iter, ifs, 0⟩] scope pos) 0 (.ref it) (.ref D) (compEnvC scope (cellsFrom (s3.heap.objs.size + 1) scope.names (cloFrom X.env.cells scope.names [])) s3.heap.objs.size X.env)) (compPost (model X.prog X.w) X.A X.xe use Qf (.ref D) s3.heap.objs.size) { s3 with heap := pushCells (s3.heap.push { cls := .type "dict", data := .dict #[] }) scope.names }
  generalize hce : compEnvC scope (cellsFrom (s3.heap.objs.size + 1) scope.names (cloFrom X.env.cells scope.names [])) s3.heap.objs.size X.env = ce at blk pg pt pe ⊢
  have locC : ce.locals = s3.heap.objs.size := by subst hce; rfl
  have kp : ∀ b o, s3.heap.get? b = some o → (pushCells (s3.heap.push { cls := .type "dict", data := .dict #[] }) scope.names).get? b = some o := fun b o e => pushCells_keeps _ _ _ _ (Heap.get?_push_of_some _ e)
  obtain ⟨s4, es4⟩ : ∃ s4 : Shared, s4 = { s3 with heap := pushCells (s3.heap.push { cls := .type "dict", data := .dict #[] }) scope.names } := ⟨_, rfl⟩
  rw [← es4] at blk ⊢
  have tn4 : tn 0 s4.heap := T.keep _ _ _ tn3 fun b _ o e => by rw [es4]; exact kp b o e
  -- the handled exception is borne into the block
  have P3 := I3.pin p (List.mem_append_left _ hp)
  have pst : p.1 ∉ frs X.stack := fun hm => (List.mem_cons.mp (I3.stkSub p.1 hm)).elim P3.2.2.1 P3.2.2.2.1
  have I4 : Inv (blkO X s3 H3 scope ce fp [p]) [] (wipe σ (own.map (·.2))) H3 s4 := by
    refine (blk.pins_of (pins' := [p]) fun q hq => ?_).toTry (fun _ _ => False)
    rw [List.mem_singleton.mp hq]
    refine ⟨by rw [es4]; exact kp _ _ P3.1, P3.2.1, fun z => ?_, pst, P3.2.2.2.2⟩
    have z' : p.1 = ce.locals := z
    rw [locC] at z'
    exact absurd (Heap.lt_size P3.1) (by rw [z']; exact Nat.lt_irrefl _)
  have hotB : HotC (blkO X s3 H3 scope ce fp [p]) := ⟨p, hot, List.mem_singleton.mpr rfl⟩
  have free3 : ∀ b ∈ fp, H3 b = none := fun b hb => (fok3 b hb).1.1
  have stat : ∀ {σ' : L2.St} {H' : Hp} {s' : Shared}, Inv (blkO X s3 H3 scope ce fp [p]) [] σ' H' s' → (∀ b ∈ fp, H' b = none) → ∀ b ∈ fp, FpOk (blkO X s3 H3 scope ce fp [p]) [] H' b := fun {σ' H' s'} I' hn b hb =>
    ⟨hn b hb, (I'.ok.exf b hb).1, I'.ok.exfs b hb, .inl hb, fun x c e => (I'.ok.exf b hb).2 x c e, fun q hq => by
      have eq : q = p := by simpa using (show q ∈ [p] ++ ([] : List (Addr × Obj)) from hq)
      rw [eq]
      exact (fok3 b hb).1.2.2.2.2.2 p (List.mem_append_left _ hp)⟩
  have loop : codeAny (model X.prog X.w) X.A (.compLoop (.ListComp elt [⟨tg, iter, ifs, 0⟩] scope pos) 0 (.ref it) (.ref D) ce) (compPost (model X.prog X.w) X.A X.xe use Qf (.ref D) s3.heap.objs.size) s4 := by
    refine compLoop_any (fun n s' => ∃ i H', Inv (blkO X s3 H3 scope ce fp [p]) [] (wipe σ (own.map (·.2))) H' s' ∧ tn i s'.heap ∧ (∀ b ∈ fp, H' b = none) ∧ W i n H') ?_ m0 ⟨0, H3, I4, tn4, free3, w0⟩
    rintro n s5 ⟨i, H5, I5, tn5, free5, w5⟩
    rcases turn i n H5 w5 with ⟨stop, qq⟩ | ⟨go, Nx, hNx, step⟩
    · refine thnF (T.done (blkO X s3 H3 scope ce fp [p]) rfl rfl rfl hotB i [] s5 _ H5 (fun _ _ => False) I5 (stat I5 free5) tn5 stop) fun r s6 hr6 => ?_
      obtain ⟨rfl, I6⟩ := hr6
      have I7 : Inv X pins σ H5 s6 := I3.call' (ch := fp) I6.os I6.base I6.hok I6.bare fun b hb => ⟨(fok3 b hb).1.2.2.2.1, (fok3 b hb).1.2.1, (fok3 b hb).1.2.2.2.2.1, (fok3 b hb).1.2.2.2.2.2⟩
      have freeC : H5 s3.heap.objs.size = none := by
        have z : H5 ce.locals = none := I6.free
        rw [locC] at z
        exact z
      obtain ⟨m, hn, _⟩ := I6.loc
      have hn : s6.heap.Ns ce.locals m := hn
      rw [locC] at hn
      exact hRR D s3.heap.objs.size s6 m H5 I7 qq hn (I3.fpOk (Nat.le_refl _) freeC)
    · refine thnF (T.item (blkO X s3 H3 scope ce fp [p]) rfl rfl rfl hotB i [] s5 _ H5 (fun _ _ => False) I5 (stat I5 free5) tn5 go) fun r s6 hr6 => ?_
      obtain ⟨u, rfl, h6⟩ := hr6
      refine thnF h6 fun _ s7 h7 => ?_
      obtain ⟨x, H7, I7, r7, y7, tn7, free7⟩ := h7
      refine thnF (pg.run _ s7 _ H7 x u _ (I7.pinned (stat I7 free7) (T.obj _ _ tn7)) r7 (step x H7 y7)) fun _ s8 h8 => ?_
      obtain ⟨σ8, H8, I8, wp8, q8⟩ := h8
      refine thnF (pt.run _ s8 σ8 H8 _ I8 q8) fun b s9 h9 => ?_
      obtain ⟨H9, I9, q9⟩ := h9
      have ends : ∀ {s' : Shared} {H' : Hp}, Inv (blkO X s3 H3 scope ce fp [p]) ([] ++ pinsAt fp s7.heap) σ8 H' s' → Nx H' → ∃ m, m < n ∧ ∃ i H', Inv (blkO X s3 H3 scope ce fp [p]) [] (wipe σ (own.map (·.2))) H' s' ∧ tn i s'.heap ∧ (∀ b ∈ fp, H' b = none) ∧ W i m H' := fun {s' H'} I' nx => by
        obtain ⟨m', hm, w'⟩ := hNx H' nx
        have still : ∀ b ∈ fp, ∀ o, s7.heap.get? b = some o → s'.heap.get? b = some o ∧ H' b = none := fun b hb o e =>
          have z := I'.pin (b, o) (List.mem_append_right _ (List.mem_append_right _ (mem_pinsAt hb e)))
          ⟨z.1, z.2.1⟩
        refine ⟨m', hm, i + 1, H', (I'.unpinned (pins := [])).weak (by rw [← wp8, wipe_length]) (fun j v e => ?_), T.keep _ _ _ tn7 fun b hb o e => (still b hb o e).1, fun b hb => ?_, w'⟩
        · rw [← wp8] at e
          exact (wipe_some e).1
        · obtain ⟨o, e, _⟩ := T.obj _ _ tn7 b hb
          exact (still b hb o e).2
      cases b with
      | false =>
        simp only [Bool.false_eq_true, if_false] at q9 ⊢
        exact ends I9 q9
      | true =>
        simp only [if_true] at q9 ⊢
        refine thnF (pe.run _ s9 σ8 H9 _ I9 q9) fun z s10 h10 => ?_
        obtain ⟨yv, H10, I10, r10, acc, hD10, hz10, nx⟩ := h10
        exact app_ok (X := blkO X s3 H3 scope ce fp [p]) I10 hD10 hz10 r10 fun s11 I11 => ends I11 nx
  exact codeAny_compStart_list loop (T.self X.A 0 _ _ _ tn4 loop)
end
section
variable {X : Cx} {elt tg l : Expr} {ifs : List Expr} {scope : Scope} {own : List (Str × Nat)} {pos spos : Pos} {tl : TE} {g : TG} {tt : TT} {te : TE}
/-- [elt for tg in l if ..] -/
theorem pe_lcC (c : CoolC X) (hN : X.N.Nodup) (hl : PE X l tl) (ok : BlkOk X.N X.env.scope scope own)
    (hg : ∀ (s : Shared) (H : Hp) (C : Addr) (cl : List (Str × Addr)) (fp : List Addr) (pn : List (Addr × Obj)), CoolC (blkO X s H scope (compEnvC scope cl C X.env) fp pn) → PG (blkO X s H scope (compEnvC scope cl C X.env) fp pn) tg g)
    (ht : ∀ (s : Shared) (H : Hp) (C : Addr) (cl : List (Str × Addr)) (fp : List Addr) (pn : List (Addr × Obj)), CoolC (blkO X s H scope (compEnvC scope cl C X.env) fp pn) → PTs (blkO X s H scope (compEnvC scope cl C X.env) fp pn) ifs tt)
    (he : ∀ (s : Shared) (H : Hp) (C : Addr) (cl : List (Str × Addr)) (fp : List Addr) (pn : List (Addr × Obj)), CoolC (blkO X s H scope (compEnvC scope cl C X.env) fp pn) → PE (blkO X s H scope (compEnvC scope cl C X.env) fp pn) elt te) (hs : ∀ x, foldedSetIterable l X.env x = pure x := by intro _; rfl) :
    PE X (.ListComp elt [⟨tg, l, ifs, 0⟩] scope pos) (tLc (iList X.K tl) g tt te (own.map (·.2))) := by
  rcases c with c | ⟨p, hot, hp⟩
  · exact pe_lc c hN (pi_list hl) ok (fun s H C cl fp => hg s H C cl fp [] (.inl c)) (fun s H C cl fp => ht s H C cl fp [] (.inl c)) (fun s H C cl fp => he s H C cl fp [] (.inl c)) hs
  · have hb : ∀ s H C cl fp, CoolC (blkO X s H scope (compEnvC scope cl C X.env) fp [p]) := fun s H C cl fp => .inr ⟨p, hot, List.mem_singleton.mpr rfl⟩
    refine ⟨fun pins s σ H Q I h => ?_⟩
    rw [eval_ListComp]
    refine lcH_core hot hp hN I (pi_listH hl) ok (fun s H C cl fp => hg s H C cl fp [p] (hb ..)) (fun s H C cl fp => ht s H C cl fp [p] (hb ..)) (fun s H C cl fp => he s H C cl fp [p] (hb ..)) hs h fun D C s' m H' I' q hn f => ⟨m, hn, fun h2 sb => ?_⟩
    obtain ⟨f0, f1, f2, f3, f4, f5⟩ := f
    exact ⟨.ref D, H', I'.turned (t' := s'.toks) (fun b o hb e => (sb.2 b hb).trans e) f0 f1 f3 f4 f5, rfl, q⟩
/-- y = [..] on one line, y a local -/
theorem ps_setLcC {i : Nat} {y : Str} {py : Pos} (c : CoolC X) (hN : X.N.Nodup) (hy : X.N[i]? = some y) (hyl : X.env.scope.names.lookup y = some .local)
    (hsw : swapsWith (.ListComp elt [⟨tg, l, ifs, 0⟩] scope pos) (some (.Name y py)) spos.line X.env = pure true) (hl : PE X l tl) (ok : BlkOk X.N X.env.scope scope own)
    (hg : ∀ (s : Shared) (H : Hp) (C : Addr) (cl : List (Str × Addr)) (fp : List Addr) (pn : List (Addr × Obj)), CoolC (blkO X s H scope (compEnvC scope cl C X.env) fp pn) → PG (blkO X s H scope (compEnvC scope cl C X.env) fp pn) tg g)
    (ht : ∀ (s : Shared) (H : Hp) (C : Addr) (cl : List (Str × Addr)) (fp : List Addr) (pn : List (Addr × Obj)), CoolC (blkO X s H scope (compEnvC scope cl C X.env) fp pn) → PTs (blkO X s H scope (compEnvC scope cl C X.env) fp pn) ifs tt)
    (he : ∀ (s : Shared) (H : Hp) (C : Addr) (cl : List (Str × Addr)) (fp : List Addr) (pn : List (Addr × Obj)), CoolC (blkO X s H scope (compEnvC scope cl C X.env) fp pn) → PE (blkO X s H scope (compEnvC scope cl C X.env) fp pn) elt te) (hs : ∀ x, foldedSetIterable l X.env x = pure x := by intro _; rfl) :
    PS X (.Assign [.Name y py] (.ListComp elt [⟨tg, l, ifs, 0⟩] scope pos) spos) (tAsg (tLc (iList X.K tl) g tt te (own.map (·.2))) (gName i)) := by
  rcases c with c | ⟨p, hot, hp⟩
  · exact ps_setLc c hN hy hyl hsw (pi_list hl) ok (fun s H C cl fp => hg s H C cl fp [] (.inl c)) (fun s H C cl fp => ht s H C cl fp [] (.inl c)) (fun s H C cl fp => he s H C cl fp [] (.inl c)) hs
  · have hb : ∀ s H C cl fp, CoolC (blkO X s H scope (compEnvC scope cl C X.env) fp [p]) := fun s H C cl fp => .inr ⟨p, hot, List.mem_singleton.mpr rfl⟩
    refine ⟨fun pins s σ H D I h => ?_⟩
    rw [exec_Assign_Name_used _ _ _ _ hsw]
    refine wpAny_bind (wpAny_standAt (wpAny_bind ?_))
    have h1 : tLc (iList X.K tl) g tt te (own.map (·.2)) σ H (fun x H1 => gName i x σ H1 D.nx) := h
    show wpAny _ X.A (comprehension (.ListComp elt [⟨tg, l, ifs, 0⟩] scope pos) scope X.env (firstIterPos [⟨tg, l, ifs, 0⟩] pos) (newList []) false (eval l X.env) (some (assign (.Name y py) X.env)) >>= fun _ => _) _ _ s
    refine wpAny_bind (thn (lcH_core (Qf := fun _ s' => SP X pins D .next s') hot hp hN I (pi_listH hl) ok (fun s H C cl fp => hg s H C cl fp [p] (hb ..)) (fun s H C cl fp => ht s H C cl fp [p] (hb ..)) (fun s H C cl fp => he s H C cl fp [p] (hb ..)) hs h1 fun L C s' m H' I' q hn f => ?_) fun _ s' hq => wpAny_pure (wpAny_pure hq))
    show wpAny _ _ (assign (.Name y py) X.env (.ref L)) _ _ _
    obtain ⟨f0, f1, f2, f3, f4, f5⟩ := f
    refine wpAny_assign_Name (store_ok2 (v := V.ref L) I' hN hy (.inl hyl) rfl (fun s2 I2 hs2 => ?_) (.inr hyl))
    obtain ⟨a, sb, ha⟩ := hs2
    have neC : C ≠ a := ha.elim (fun z => by rw [z]; exact f1) fun z e => f4 y a z e.symm
    exact ⟨m, hn.sameBut sb neC, fun h3 sb3 => ⟨_, H', I2.turned (t' := s2.toks) (fun b o hb e => (sb3.2 b hb).trans e) f0 f1 f3 f4 f5, q⟩⟩
end
end Sg

/-! SgSort: sorted(d), sorted(d, key=lambda x: e[x]) for dicts whose keys are ints, whether or not an exception is handled. -/
namespace Sg
open PySem PySem.W PySem.Spec PySem.Calls PyProof.Rows L2 L2H HotX

theorem ints_at : ∀ {vs : List Value} {ns : List Int}, vs.length = ns.length → (∀ (j : Nat) (v : Value), vs[j]? = some v → ∃ n t, ns[j]? = some n ∧ v = Value.int n t) → IntsAre vs ns
  | [], [], _, _ => .nil
  | [], _ :: _, hl, _ => by simp at hl
  | _ :: _, [], hl, _ => by simp at hl
  | v :: vs, n :: ns, hl, h => by
    obtain ⟨m, t, e1, e2⟩ := h 0 v rfl
    obtain rfl : n = m := Option.some.inj e1
    rw [e2]
    exact .cons _ _ (ints_at (by simpa using hl) fun j u e => h (j + 1) u (by simpa using e))
/-- the ints that a dict's keys are -/
theorem keys_ints {P : Program} {w : World} {kvs : List (Key × V)} {vs : List (Key × Value)} {ks : List Int} {acc : Array Value} (rel : KV kvs vs) (hks : kvs.map (·.1) = ks.map Sum.inl)
    (hacc : ItemsOf (fun i v => ∃ k x, vs[i]? = some (k, x) ∧ (mixKind P w).is k v = true) acc vs.length) : IntsAre acc.toList ks := by
  have hkeys : vs.map (·.1) = ks.map Sum.inl := rel.keys.symm.trans hks
  have hl : vs.length = ks.length := by
    have e := congrArg List.length hkeys
    rwa [List.length_map, List.length_map] at e
  have hal : acc.toList.length = ks.length := by rw [Array.length_toList, hacc.1, hl]
  refine ints_at hal fun j v e => ?_
  obtain ⟨k, x, e1, e2⟩ := hacc.2 j v (by rw [← Array.getElem?_toList]; exact e)
  have e3 : (vs.map (·.1))[j]? = some k := by rw [List.getElem?_map, e1]; rfl
  rw [hkeys, List.getElem?_map] at e3
  cases e4 : ks[j]? with
  | none => rw [e4] at e3; cases e3
  | some y =>
    rw [e4] at e3
    have e5 : Sum.inl y = k := Option.some.inj e3
    subst e5
    rcases keyIs_shape (show keyIs (Sum.inl y) v = true from e2) with ⟨i, t, ek, ev⟩ | ⟨z, t, ek, ev⟩
    · cases ek
      exact ⟨y, t, rfl, ev⟩
    · cases ek

section
variable {X : Cx}
/-- sorted(d), the keys ints -/
def rSortD : List V → Hp → VK → Prop := fun xs H Q => ∃ (a : Addr) (kvs : List (Key × V)) (ks : List Int), xs = [.ref a] ∧ Rd H a (.dK kvs) ∧ kvs.map (·.1) = ks.map Sum.inl ∧
  ∀ (ys : List Int) (p : Addr), ys.Perm ks → ys.Pairwise (· ≤ ·) → H p = none → Q (.ref p) (upd H p (.lst (ys.map V.int)))
theorem call_sortD (c : CoolC X) : CallR X (.builtin "sorted") rSortD := by
  intro pins s σ H xs us Q I r h
  obtain ⟨a, kvs, ks, rfl, hd, hks, q⟩ := h
  obtain ⟨u, rfl, ru⟩ := vals1 r
  obtain rfl : u = Value.ref a := ru
  obtain ⟨z, lo, vs, rel, dd⟩ := dk_rd I.hok hd
  obtain ⟨ep, hat⟩ := dd.dictAt
  have hn : vs.length ≤ sizeLine := by rw [← rel.length]; exact z
  refine Calls.call_function_entry PyProof.Rows.kind_sorted PyProof.Rows.plain_sorted PyProof.Rows.entry_sorted (PyProof.Rows.args_sorted1 _) ?_
  unfold Builtin.«sorted»
  refine wpAny_bind (m := checkCount "sorted" 1 1 _) (wpAny_pure (wpAny_bind (collect_cool (A := X.A.in1) (knd := mixKind X.prog X.w) (kvs := vs) (ep := ep) (c.at I) lo hat hn fun h1 tk acc hk hacc => ?_)))
  have hS := keys_ints rel hks hacc
  have hlen : acc.toList.length ≤ sizeLine := by rw [Array.length_toList, hacc.1]; exact hn
  have I1 : Inv X pins σ H { s with heap := h1, toks := tk } := I.kept hk
  refine wpAny_bind (wpAny_newList ?_ hlen)
  have hoL : (h1.push (seqObj "list" acc.toList.toArray 0)).get? h1.objs.size = some (seqObj "list" acc.toList.toArray 0) := Heap.get?_push_size _ rfl
  show wpAny _ _ _ _ _ { s with heap := h1.push (seqObj "list" acc.toList.toArray 0), toks := tk }
  refine wpAny_bind (wpAny_holding (wpAny_call_entry PyProof.Rows.slot_list_sort ⟨_, hoL, rfl⟩ PyProof.Rows.entry_list_sort
    (SrtO.list_sort_ord SrtO.swo_int hoL hlen (fun h2 => SrtO.ints_sortable hS h2) fun out o1 o2 => ⟨_, rfl, ?_⟩) (PyProof.Rows.args_list_sort _)))
  obtain ⟨k1, k2, k3⟩ := SrtO.ints_out hS o1 o2
  obtain ⟨e', he'⟩ := PyProof.Rows.sortedHeap_at (vs := acc.toList) (out := out.toArray) hoL
  have hl2 : ((out.map SrtO.iv).map V.int).length ≤ sizeLine := by
    rw [List.length_map, k2.length_eq]
    have e := congrArg List.length hks
    rw [List.length_map, List.length_map] at e
    rw [← e]
    exact z
  refine wpAny_pure ⟨_, rfl, .ref h1.objs.size, upd H h1.objs.size (.lst ((out.map SrtO.iv).map V.int)), I1.laid (t' := tk) (fun b u e => ?_) (Nat.le_refl _)
    (show ObjOk X.prog X.w _ _ _ (.lst ((out.map SrtO.iv).map V.int)) from ⟨hl2, _, e', vals_of_ints k1, he'⟩), rfl, q _ _ k2 k3 (I1.hok.fresh (Nat.le_refl _))⟩
  have hb : b < h1.objs.size := Heap.lt_size e
  rw [PyProof.Rows.sortedHeap_old (Nat.ne_of_lt hb) (by rw [size_push']; exact Nat.lt_succ_of_lt hb)]
  exact Heap.get?_push_of_some _ e
end
end Sg

/-! SgLam: sorted(d, key=lambda x: e[x]). -/
namespace Sg
open PySem PySem.W PySem.Spec PySem.Calls PyProof.Rows L2 L2H HotX

section
variable {prog : Program} {w : World} {A : Around} {s : Shared}
/-- the lambda is called: x gives e[x] -/
theorem lam_turn {hp : Heap} {f a cc c' : Addr} {q xn dn : Str} {params : Arguments} {p1 p2 p3 : Pos} {scope : Scope} {cl : List (Str × Addr)} {pm ctv : Value} {vs : List (Key × Value)} {n pl : Int} {t t2 : Tok} (hA : A.depth < recursionLimit)
    (hf : hp.get? f = some (kla_obj "<lambda>" q params (.Subscript (.Name dn p1) (.Name xn p2) p3) scope cl pm c' ctv)) (hcode : ∃ (oc : Obj) (us : Array Value) (tk : Tok), hp.get? c' = some oc ∧ oc.data = .fields us ∧ us[1]? = some (.str q tk))
    (hcl : cl.lookup dn = some cc) (hcell : hp.IsCell cc (some (.ref a))) (dd : hp.DictOf (mixKind prog w) a vs) (lim : hp.NoLimit) (hk : scope.kind = .function) (hco : scope.isCoroutine = false) (hgen : scope.isGenerator = false) (hnc : ∀ y ∈ scope.names, y.2 ≠ .cell)
    (hx : scope.names.lookup xn = some .local) (hd : scope.names.lookup dn = some .free) (hbind : ∀ (cv v : Value), bindArgs (kla_fn "<lambda>" q params (.Subscript (.Name dn p1) (.Name xn p2) p3) scope cl pm cv ctv) ⟨[v], []⟩ = pure [(xn, v)])
    (hv : valueAt vs (Sum.inl n) = some (.int pl t2)) (hdx : (xn == ("__debug__" : Str)) = false) (hdd : (dn == ("__debug__" : Str)) = false) (hcx : (xn == ("__classdict__" : Str)) = false) (hcd : (dn == ("__classdict__" : Str)) = false) (kp : ∀ b o, hp.get? b = some o → s.heap.get? b = some o) :
    wpAny (model prog w) A (call (.ref f) [.int n t]) (KeyPure (.int pl) s) (fun _ _ => False) s := by
  obtain ⟨oc, us, tk, hoc, hdc, hu1⟩ := hcode
  refine wpAny_call (kla_callFunE hA (kp _ _ hf) rfl hco hgen rfl ⟨c', oc, us, tk, rfl, kp _ _ hoc, hdc, hu1⟩ ?_)
  rw [hbind]
  refine wpAny_pure (wpAny_newFunctionEnv hnc (fun y hy => ?_) (fun h1 hns hsb => ⟨(lim.keeps kp).fresh _ hsb, ?_⟩) hk)
  · rw [List.mem_singleton.mp hy]
    exact hx
  show codeAny _ _ (.expr (.Subscript (.Name dn p1) (.Name xn p2) p3) (envX q scope s.heap.objs.size f (.ref c') cl)) _ _
  have k1 : ∀ b o, s.heap.get? b = some o → h1.get? b = some o := fun b o e => hsb.extBut b o (Nat.ne_of_lt (Heap.lt_size e)) (Heap.get?_push_of_some _ e)
  obtain ⟨ocell, hc1, hc2⟩ := hcell
  have cell1 : h1.IsCell cc (some (.ref a)) := ⟨ocell, k1 _ _ (kp _ _ hc1), hc2⟩
  have d1 : h1.DictOf (mixKind prog w) a vs := dd.keep fun b o e => k1 b o (kp b o e)
  refine kla_codeExpr (wpAny_Subscript_Name (T := "dict") PySem.F.slot_dict_getitem.lookup (wpAny_Name (wpAny_loadName_free hk hd hcl cell1 (wpAny_Name (wpAny_loadName_local hk hx hns (v := .int n t) ?_ ⟨d1.typeIs, ?_⟩) hdx) hcd) hdd))
  · show List.lookup xn [(xn, Value.int n t)] = _
    simp [List.lookup]
  · exact wpAny_getItem_of (keyIs_int n t) d1.mapOf hv ⟨_, _, rfl, fun b o e => k1 b o e, .int pl t2⟩
end
/-- sorted(d, key=lambda x: d[x]) for a dict whose keys and values are ints: i is d's slot -/
def tSortK (T : List (Addr × Str)) (i : Nat) : TE := fun σ H Q => LamX.Tabs T H ∧ ∃ (a : Addr) (ps : List (Int × Int)), σ[i]? = some (some (.ref a)) ∧ H a = some (.dK (ps.map fun p => (Sum.inl p.1, V.int p.2))) ∧ (ps.map (·.1)).Nodup ∧
  ∀ (ys : List (Int × Int)) (H1 : Hp) (p : Addr), ys.Perm ps → ys.Pairwise (fun x y => x.2 ≤ y.2) → LamX.ExtN H H1 → LamX.Tabs T H1 → H1 p = none → Q (.ref p) (upd H1 p (.lst (ys.map fun y => V.int y.1)))
theorem valV_pairs : ∀ {ps : List (Int × Int)}, (ps.map (·.1)).Nodup → ∀ p ∈ ps, valV (ps.map fun p => ((Sum.inl p.1 : Key), V.int p.2)) (Sum.inl p.1) = some (V.int p.2)
  | [], _, p, h => by simp at h
  | q :: r, hn, p, h => by
    obtain ⟨h1, h2⟩ := List.nodup_cons.mp (show (q.1 :: r.map (·.1)).Nodup from hn)
    by_cases e : p.1 = q.1
    · have eq : p = q := by
        rcases List.mem_cons.mp h with z | z
        · exact z
        · exact absurd (List.mem_map.mpr ⟨p, z, e⟩) h1
      subst eq
      simp [valV]
    · have hp : p ∈ r := (List.mem_cons.mp h).resolve_left fun z => e (by rw [z])
      have ih := valV_pairs h2 p hp
      have ne : ¬ (Sum.inl q.1 : Key) = Sum.inl p.1 := fun z => e (Sum.inl.inj z).symm
      simpa [valV, ne] using ih
section
variable {X : Cx}
theorem pe_sortK {T : List (Addr × Str)} {c P : Addr} {k i : Nat} {dn xn : Str} {params : Arguments} {scope : Scope} {p0 p1 p2 p3 p4 lpos kpos pos : Pos} (cool : CoolC X) (hr : RoomH k X.A) (hg : Gl X "sorted") (hm : X.mg "sorted" = none)
    (TB : LamX.TabB X.base X.mg c P) (hcode : X.env.code = .ref c) (hmT : (P, X.env.qual ++ "<lambda>") ∈ T) (hu : ∀ p ∈ T, p.1 = P → p.2 = X.env.qual ++ "<lambda>") (hdef : defaultsOf params X.env = ([], []))
    (hN : X.N[i]? = some dn) (hcell : X.env.scope.names.lookup dn = some .cell) (hfree : ∀ y ∈ scope.names, y.2 = .free → y.1 = dn) (hk : scope.kind = .function) (hco : scope.isCoroutine = false) (hgen : scope.isGenerator = false) (hnc : ∀ y ∈ scope.names, y.2 ≠ .cell)
    (hx : scope.names.lookup xn = some .local) (hd : (dn, NameKind.free) ∈ scope.names) (hd2 : scope.names.lookup dn = some .free)
    (hbind : ∀ (q : Str) (cl : List (Str × Addr)) (pm cv ctv v : Value), bindArgs (kla_fn "<lambda>" q params (.Subscript (.Name dn p1) (.Name xn p2) p3) scope cl pm cv ctv) ⟨[v], []⟩ = pure [(xn, v)])
    (hdx : (xn == ("__debug__" : Str)) = false := by decide) (hdd : (dn == ("__debug__" : Str)) = false := by decide) (hcx : (xn == ("__classdict__" : Str)) = false := by decide) (hcd : (dn == ("__classdict__" : Str)) = false := by decide)
    (hst : starEach [.Name dn p4] X.env = (false, eval (.Name dn p4) X.env) :: starEach [] X.env := by rfl) (he : backTo pos (starEach [.Name dn p4] X.env) = (false, eval (.Name dn p4) X.env) :: backTo pos (starEach [] X.env) := by rfl) (hpl : (backTo pos (starEach [.Name dn p4] X.env)).any (·.1) = false := by rfl)
    (hkw : backToKw pos (keywordEach [⟨some (Str.ofString "key"), .Lambda params (.Subscript (.Name dn p1) (.Name xn p2) p3) scope lpos, kpos⟩] X.env) = [(some (Str.ofString "key"), do let v ← eval (.Lambda params (.Subscript (.Name dn p1) (.Name xn p2) p3) scope lpos) X.env; standAt pos; pure v)] := by rfl) :
    PE X (.Call (.Name "sorted" p0) [.Name dn p4] [⟨some (Str.ofString "key"), .Lambda params (.Subscript (.Name dn p1) (.Name xn p2) p3) scope lpos, kpos⟩] pos) (tSortK T i) := by
  refine ⟨fun pins s σ H Q I h => ?_⟩
  obtain ⟨hT, a, ps, hs, ha, hnd, q⟩ := h
  refine wpAny_Call_Name_kw (ld_blt I hg hm (by decide +kernel : bootBuiltins "sorted" = some (.builtin "sorted")) ?_ (by decide) (by decide))
  have arg : PA X [.Name dn p4] (tCons (tVar i) tNil) := pa_cons (pe_var hN (.inr (.inl hcell)) hdd hcd) pa_nil hst
  refine PyProof.Rows.callWith_kw (thn (arg.run pos pins s σ H (fun vs H1 => vs = [V.ref a] ∧ H1 = H) I ⟨_, hs, rfl, rfl⟩) fun us s1 hus => ?_) he hpl (by rw [hkw]; rfl) (by rw [hkw]; rfl)
  obtain ⟨zs, H1, I1, r1, rfl, rfl⟩ := hus
  obtain ⟨u, rfl, ru⟩ := vals1 r1
  obtain rfl : u = Value.ref a := ru
  rw [hkw]
  have captured : ∀ y ∈ scope.names, y.2 = .free → ∃ c, X.env.cells.lookup y.1 = some c := fun y hy e => by
    rw [hfree y hy e]
    exact I.ok.has _ (.inl hcell)
  refine wpAny_evalAll_cons (wpAny_bind (LamX.lam_make2 I1 TB hcode hmT hu hT hdef captured fun f c' pm ctv H2 s2 I2 eN T2 hf hfn hfr hco2 => wpAny_bind (wpAny_standAt (wpAny_pure (wpAny_evalAll_nil ?_)))))
  show wpAny _ _ (call (.builtin "sorted") [.ref a] [(Str.ofString "key", .ref f)]) _ _ s2
  -- the dict, the cell, the code object
  have ha2 : H2 a = some (.dK (ps.map fun p => (Sum.inl p.1, V.int p.2))) := eN a _ ha fun ps z => by cases z
  obtain ⟨z, lo, vs, rel, dd⟩ := dk_of I2.hok ha2
  obtain ⟨ep, hat⟩ := dd.dictAt
  have hn : vs.length ≤ sizeLine := by rw [← rel.length]; exact z
  obtain ⟨⟨oc, us, tk, hoc, hdc, hu1⟩, _, _⟩ := I2.hok c' _ hco2
  obtain ⟨m, _, hl⟩ := I2.loc
  obtain ⟨u, ru, lk⟩ := hl i dn (.ref a) hN hs (.inr (.inl hcell))
  obtain rfl : u = Value.ref a := ru
  have lk2 : ∃ cc, X.env.cells.lookup dn = some cc ∧ s2.heap.IsCell cc (some (.ref a)) := by
    rcases lk with ⟨k1, _⟩ | ⟨_, e⟩
    · have k1 : X.env.scope.names.lookup dn = some .local := k1
      rw [hcell] at k1
      cases k1
    · exact e
  obtain ⟨cc, hcc, hic⟩ := lk2
  have hcl := NdefX.clo_has captured hd hcc
  have hks : (ps.map fun p => ((Sum.inl p.1 : Key), V.int p.2)).map (·.1) = (ps.map (·.1)).map Sum.inl := by simp
  have ha1 : X.A.depth < recursionLimit := hr.depth
  have cool2 : Cool X.A s2.heap := cool.at I2
  refine call_function_entry_kw PyProof.Rows.kind_sorted PyProof.Rows.plain_sorted PyProof.Rows.entry_sorted (PyProof.Rows.ksk_s1 _ _) ?_
  unfold Builtin.«sorted»
  refine wpAny_bind (m := checkCount "sorted" 1 1 _) (wpAny_pure (wpAny_bind (collect_cool (A := X.A.in1) (knd := mixKind X.prog X.w) (kvs := vs) (ep := ep) cool2 lo hat hn fun h3 tk3 acc hk3 hacc => ?_)))
  have hS := keys_ints rel hks hacc
  have hlen : acc.toList.length ≤ sizeLine := by rw [Array.length_toList, hacc.1]; exact hn
  have hpl2 : ps.length ≤ sizeLine := by simpa using z
  refine wpAny_bind (wpAny_newList ?_ hlen)
  have hoL : (h3.push (seqObj "list" acc.toList.toArray 0)).get? h3.objs.size = some (seqObj "list" acc.toList.toArray 0) := Heap.get?_push_size _ rfl
  have kp4 : ∀ b o, s2.heap.get? b = some o → (h3.push (seqObj "list" acc.toList.toArray 0)).get? b = some o := fun b o e => Heap.get?_push_of_some _ (hk3 b o e)
  have neL : ∀ b o, s2.heap.get? b = some o → b ≠ h3.objs.size := fun b o e => Nat.ne_of_lt (Heap.lt_size (hk3 b o e))
  show wpAny _ _ _ _ _ { s2 with heap := h3.push (seqObj "list" acc.toList.toArray 0), toks := tk3 }
  -- each value is the int of its pair
  have each : EachIs (fun (v : Value) (b : Int × Int) => ∃ t, v = Value.int b.1 t) acc.toList ps := by
    have go : ∀ {ws : List Value} {bs : List (Int × Int)}, IntsAre ws (bs.map (·.1)) → EachIs (fun (v : Value) (b : Int × Int) => ∃ t, v = Value.int b.1 t) ws bs := by
      intro ws bs
      induction bs generalizing ws with
      | nil => intro h; cases h; exact .nil
      | cons b bs ih => intro h; cases h with | cons i t h2 => exact .cons ⟨_, rfl⟩ (ih h2)
    exact go hS
  have inner := list_sort_key_data (prog := X.prog) (w := X.w) (A := X.A.in1) (E := X.xe) (s := { s2 with heap := h3.push (seqObj "list" acc.toList.toArray 0), toks := tk3 }) (a := h3.objs.size) (b := false) (f := .ref f) (kw := [(Str.ofString "key", .ref f)])
    (Q := fun v s' => ∃ out c h5 tk5, v = Value.none ∧ s' = { s2 with heap := h5, toks := tk5 } ∧ KeepsBut h3.objs.size (h3.push (seqObj "list" acc.toList.toArray 0)) h5 ∧ h5.get? h3.objs.size = some (seqObj "list" (List.toArray out) c) ∧ out.length = ps.length ∧
      EachIs (fun (v : Value) (b : Int × Int) => ∃ t, v = Value.int b.1 t) out (ps.mergeSort (dataLe false fun b : Int × Int => .int b.2)))
    (fun b : Int × Int => .int b.2) hoL each (fun d hd d' hd' => by
      obtain ⟨b, _, rfl⟩ := List.mem_map.mp hd
      obtain ⟨b', _, rfl⟩ := List.mem_map.mp hd'
      simp [alike]) (.inr fun d hd => by
      obtain ⟨b, _, rfl⟩ := List.mem_map.mp hd
      exact ⟨(fun z => by cases z), (fun xs z => by cases z)⟩) hpl2 (fun b _ => by
      have := hr.un
      show X.A.units + 1 + 1 + PyData.depth (.int b.2) < cLine
      simp [PyData.depth]
      omega) (PyProof.Rows.ksk_l1 _ _) (PyProof.Rows.ksk_t1 _ _)
    (fun v b hv hb h6 tk6 kb => by
      obtain ⟨t, rfl⟩ := hv
      obtain ⟨w', hw, rw'⟩ := RelO.some_of (v := V.int b.2) (o := valueAt vs (Sum.inl b.1)) (by rw [← valV_pairs hnd b hb]; exact rel.val _)
      obtain ⟨t2, rfl⟩ := rw'
      exact lam_turn (hp := s2.heap) (A := X.A.in1.in1) ha1 hf ⟨oc, us, tk, hoc, hdc, hu1⟩ hcl hic dd I2.nolimit hk hco hgen hnc hx hd2 (fun cv v => hbind _ _ _ _ _ _) hw hdx hdd hcx hcd fun b' o' e => kb b' o' (neL b' o' e) (kp4 b' o' e))
    (fun out c h5 tk5 kb ho5 hl5 he5 => ⟨out, c, h5, tk5, rfl, rfl, kb, ho5, hl5, he5⟩)
  refine wpAny_bind (wpAny_holding (wpAny_mono inner (fun v s6 hv => ?_) fun _ _ z => z))
  obtain ⟨out, cnt, h5, tk5, rfl, rfl, kb, ho5, hl5, he5⟩ := hv
  -- the end
  rw [dataLe_int] at he5
  have perm : (ps.mergeSort fun a b => decide (a.2 ≤ b.2)).Perm ps := List.mergeSort_perm _ _
  have srt : (ps.mergeSort fun a b => decide (a.2 ≤ b.2)).Pairwise fun x y => x.2 ≤ y.2 := by
    refine (List.pairwise_mergeSort (le := fun (a b : Int × Int) => decide (a.2 ≤ b.2)) (fun a b c h1 h2 => ?_) (fun a b => ?_) ps).imp fun {x y} h => of_decide_eq_true h
    · exact decide_eq_true (Int.le_trans (of_decide_eq_true h1) (of_decide_eq_true h2))
    · rcases Int.le_total a.2 b.2 with h | h
      · simp [h]
      · simp [h]
  have I5 : Inv X pins σ H2 { s2 with heap := h3, toks := tk3 } := I2.kept hk3
  have fin : ∀ {ws : List Value} {bs : List (Int × Int)}, EachIs (fun (v : Value) (b : Int × Int) => ∃ t, v = Value.int b.1 t) ws bs → Vals (bs.map fun y => V.int y.1) ws := by
    intro ws bs h
    induction h with
    | nil => exact .nil
    | cons h1 _ ih => exact .cons h1 ih
  refine wpAny_pure ⟨_, rfl, .ref h3.objs.size, upd H2 h3.objs.size (.lst ((ps.mergeSort fun a b => decide (a.2 ≤ b.2)).map fun y => V.int y.1)), I5.laid (t' := tk5) (fun b u e => ?_) (Nat.le_refl _)
    (show ObjOk X.prog X.w _ _ _ (.lst ((ps.mergeSort fun a b => decide (a.2 ≤ b.2)).map fun y => V.int y.1)) from ⟨?_, out, cnt, fin he5, ho5⟩), rfl, q _ _ _ perm srt eN T2 (I5.hok.fresh (Nat.le_refl _))⟩
  · exact kb b u (Nat.ne_of_lt (Heap.lt_size e)) (Heap.get?_push_of_some _ e)
  · rw [List.length_map, perm.length_eq]
    exact hpl2
end
end Sg

/-! SgExc: an own error class (over a class over ValueError, or over ValueError) whose __init__ begins with super().__init__(e). -/
namespace Sg
open PySem PySem.W PySem.Spec PySem.Calls PyProof.Rows L2 L2H HotX NdefX

section
variable {prog : Program} {w : World} {A : Around} {E : Value → Shared → Prop} {h : Heap} {g : Array GenState} {d : Drawn} {t : Nat} {os : OsState}
/-- the bound ValueError.__init__ is called -/
theorem call_bound_ve {nm q : Str} {C N : Addr} {bs bm : List Value} {hdct : Bool} {sn : List Str} {sub : List Value} {ab : Bool} {col : Option Bool} {dd : Option Addr} {k0 k1 k2 k3 k5 : Option Value} {u e t0 : Addr} {rest : List Value} {Q : Value → Shared → Prop}
    (hC : h.get? C = some (excClassObj nm q C N bs bm hdct sn sub ab col dd k0 k1 k2 k3 k5 "ValueError.__new__")) (he : h.get? e = some (HandSPX.excO C t0)) (hu : h.get? u = some (kxs_mw "ValueError.__init__" e)) (hrest : rest.length ≤ sizeLine)
    (hq : ∀ h' t1, (∀ b o, b ≠ e → h.get? b = some o → h'.get? b = some o) → h'.get? e = some (HandSPX.excO C t1) → Q .none ⟨h', g, d, t, os⟩) :
    wpAny (model prog w) A (call (.ref u) rest) Q E ⟨h, g, d, t, os⟩ := by
  refine wpAny_call (codeAny_of_tree ?_)
  show wpAny _ A.in1 (callAny (.ref u) ⟨rest, []⟩) _ _ _
  simp only [callAny]
  refine wpAny_bind (wpAny_load hu ?_)
  simp only [kxs_mw, show (Value.type "method-wrapper" == Value.type "method" || Value.type "method-wrapper" == Value.type "builtin_function_or_method" || Value.type "method-wrapper" == Value.type "method-wrapper") = true by decide, if_true]
  refine KFB.if_so (by decide) ?_
  refine wpAny_bind (check_bound_init PySem.F.excBase_ValueError.toExcCallFacts hC he rfl (wpAny_bind (wpAny_pure (wpAny_pure ⟨plainId_quiet PySem.F.excBase_ValueError.init.plain _, codeAny_builtin PySem.F.excBase_ValueError.initEntry ?_⟩))))
  exact exc_init_tree (cls := .ref C) (t0 := t0) (dv := none) (c2 := .none) (c3 := .none) (b4 := .bool false) he hrest fun h' k e' _ => hq h' _ k e'
end

/-- what the written part tells of such a class and of its __init__ -/
structure SupC (K : Frag) (prog : Program) (C f cc : Addr) (F : NF) : Prop where
  oex : OexC K C
  fn : ∃ (oc : Value) (od : Option Addr) (osl : Array (Option Value)) (doc pm ctv : Value), K.lookup f = some ⟨oc, od, .func (F.fd doc pm ctv), osl⟩
  code : codeIn K (.ref F.c) F.qual = true
  file : ∃ (ccl : Value) (cdd : Option Addr) (vs : Array Value) (ccs : Array (Option Value)) (fl : Str) (tf : Tok), K.lookup F.c = some ⟨ccl, cdd, .fields vs, ccs⟩ ∧ vs[2]? = some (.str fl tf) ∧ ((prog.main.file : Str) == fl) = true
  cell : ∃ (cl : Value) (cld : Option Addr) (csl : Array (Option Value)), K.lookup cc = some ⟨cl, cld, .cell (some (.ref C)), csl⟩
  caps : F.cl = [((Str.ofString "__class__"), cc)]
  self : mroIn K C (.ref C) = some true
  opaq : nsIn K cStatics "thirdparty.any" = some none
  sup : ks_superIn K C C "__init__" = some (some (.builtin "ValueError.__init__"))
  subV : subIn K (.ref C) (.type "ValueError") = some true
  top : (prog.main.scope.names.lookup ("super" : Str)).isSome = false

/-- super().__init__(e); rest: σ's slot 0 is self -/
def tSup (ta : TA) (tr : TS) (C : Addr) : TS := fun D σ H => ∃ a, σ[0]? = some (some (.ref a)) ∧ H a = some (exo a C none) ∧ ta σ H fun vs H1 => vs.length ≤ 1000 ∧ H1 a = some (exo a C none) ∧ tr D σ H1
section
variable {P : Program} {w : World} {K : Frag} {mg : Str → Option Value} {base : Heap} {CX : CXT} {C f cc : Addr} {F : NF} {k : Nat} {sp : Sp} {N ps : List Str}
theorem ok_super {e : Expr} {es : List Expr} {rest : List Stmt} {p0 p1 p2 p3 p4 : Pos} {selfn : Str} {ar : Arg} {pl : Env → Sem Bool} {oc doc pm ctv : Value} {od : Option Addr} {osl : Array (Option Value)} (S : SupC K P C f cc F) (lk : K.lookup f = some ⟨oc, od, .func (F.fd doc pm ctv), osl⟩) (hmS : mg "super" = none)
    (hbody : F.body = .Expr (.Call (.Attribute (.Call (.Name "super" p0) [] [] p1) "__init__" p2) (e :: es) [] p3) p4 :: rest) (hN : N[0]? = some selfn) (har : (F.params.posonlyargs ++ F.params.args).head? = some ar) (hars : ar.arg = selfn)
    (NS : NScope N ps ["__class__"] F.scope) (hls : F.scope.names.lookup selfn = some .local) (hsg : F.scope.names.lookup ("super" : Str) = some .globalImplicit) (hfr : F.scope.names.lookup ("__class__" : Str) = some .free)
    (len : ∀ vs H Q E, sp vs H Q E → vs.length = ps.length)
    (hst : ∀ (env : Env), starEach (e :: es) env = (false, eval e env) :: starEach es env) (hpl : ∀ (env : Env), (backTo p3 (starEach es env)).any (·.1) = false)
    (hcall : ∀ (env : Env), env.scope = F.scope → eval (.Call (.Attribute (.Call (.Name "super" p0) [] [] p1) "__init__" p2) (e :: es) [] p3) env = (do
      let ov ← attributeBase (.Call (.Name "super" p0) [] [] p1) "__init__" env (eval (.Call (.Name "super" p0) [] [] p1) env)
      standAt p2.atName
      let (f, first) ← holding [ov] (getMethod ov "__init__" (pl env))
      callWith p3 f first (backTo p3 (starEach (e :: es) env)) []))
    (body : ∀ (A : Around) (outer : List Env) (s : Shared) (H : Hp) (vs : List V) (Q : VK) (E : XK), Room k (A.deeper (envF F f s.heap.objs.size)) → sp vs H Q E →
      ∃ ta tr, PA (ncx CX P w K mg base N F f A outer s H E).nox (e :: es) ta ∧ PSs (ncx CX P w K mg base N F f A outer s H E).nox rest tr ∧ tSup ta tr C { nx := fun _ H' => Q .non H', rt := Q } (startF N vs [some (.ref C)]) H) :
    FnOk P w K mg base CX (k + 1) f (F.fd doc pm ctv) ps sp := by
  refine ⟨len, fun A outer s H args us vs Q E hr e0 hb r hsp => ?_⟩
  have hl := len _ _ _ _ hsp
  have KX : K.In s.heap := e0.mod.kin.keeps fun b o e => (e0.bs b o e).1
  have lim : s.heap.NoLimit := e0.mod.nolimit.keeps fun b o e => (e0.bs b o e).1
  refine codeAny_call_function hr.depth (KX _ _ lk) rfl NS.co NS.gen rfl (codeRec_of KX S.code) (hb _ _ _ _ ?_)
  refine wpAny_newFunctionEnv NS.nocell (fun ⟨n, _⟩ hy => NS.par n (List.of_mem_zip hy).1) (fun h₁ hns hsb => ⟨lim.fresh _ hsb, ?_⟩) NS.kind
  show codeAny _ _ (.func F.body (envF F f s.heap.objs.size)) _ _
  have kp : ∀ b o, s.heap.get? b = some o → h₁.get? b = some o := fun b o e => hsb.extBut b o (Nat.ne_of_lt (Heap.lt_size e)) (Heap.get?_push_of_some _ e)
  obtain ⟨cl, cld, csl, hcell⟩ := S.cell
  have ccs : s.heap.IsCell cc (some (.ref C)) := ⟨_, KX _ _ hcell, rfl⟩
  have ccN : H cc = none := (e0.bs cc _ (e0.mod.kin _ _ hcell)).2
  have cells : CellsAt F.cl ["__class__"] [some (V.ref C)] s.heap H := by
    rw [S.caps]
    have one : ∀ y c, ([((Str.ofString "__class__"), cc)] : List (Str × Addr)).lookup y = some c → y = Str.ofString "__class__" ∧ c = cc := fun y c e => by
      have := PySem.mem_of_lookup e
      simp only [List.mem_singleton, Prod.mk.injEq] at this
      exact this
    refine ⟨rfl, fun y c e => ?_, fun x y c e1 e2 => ?_, fun i y e => ?_⟩
    · obtain ⟨_, rfl⟩ := one y c e
      exact ⟨ccN, _, ccs⟩
    · rw [(one x c e1).1, (one y c e2).1]
    · match i, e with
      | 0, e =>
        have e := Option.some.inj e
        subst e
        refine ⟨cc, by simp [List.lookup], fun v hv => ?_⟩
        have hv := Option.some.inj (Option.some.inj hv)
        subst hv
        exact ⟨_, rfl, ccs⟩
      | i + 1, e => simp at e
  obtain ⟨ta, tr, hta, htr, a, hs0, hea, hq⟩ := body A outer s H vs Q E (hr.deeper _) hsp
  have I : Inv (ncx CX P w K mg base N F f A outer s H E) [] (startF N vs [some (.ref C)]) H { s with heap := h₁, toks := s.toks + (ps.zip us).length } := inv_startN NS hr.hd e0 hl r cells hns kp
  refine ks_codeAny_funcAt ?_
  rw [hbody]
  -- super()
  have IX := I.wish (fun _ _ => False)
  obtain ⟨nm, qn, N0, bs, bm, sn, sub, ab, col, dd, k0, k1, k2, k3, k5, hC, hbm⟩ := S.oex.cls
  have hcd : clsIn K C = some { name := nm, bases := bs, mro := .ref C :: bm, ns := N0, qualname := qn, hasDict := true, slotNames := sn, subclasses := sub, abstract := ab, collection := col, hasDel := false } := by unfold clsIn; rw [hC] <;> rfl
  obtain ⟨ccl, cdd, fvs, ccsl, fl, tf, hcode, hfl, hfile⟩ := S.file
  obtain ⟨t1, hoe⟩ := exo_at I.hok hea
  obtain ⟨m, hm, hloc⟩ := I.loc
  obtain ⟨u0, ru0, lk0⟩ := hloc 0 selfn (.ref a) hN hs0 (.inl hls)
  obtain rfl : u0 = Value.ref a := ru0
  have mself : m selfn = some (.ref a) := by
    rcases lk0 with ⟨_, z⟩ | ⟨z, _⟩
    · exact z
    · have z : F.scope.names.lookup selfn = some .cell ∨ F.scope.names.lookup selfn = some .free := z
      rw [hls] at z
      rcases z with z | z <;> cases z
  obtain ⟨mb, hmb, hbb⟩ := I.mod.blt
  obtain ⟨hp, gg, dr, tk, os⟩ := s
  have K1 : K.In h₁ := KX.keeps kp
  have oe1 : h₁.get? a = some (HandSPX.excO C t1) := hoe
  have inst : ∀ {hh : Heap}, hh.get? a = some (HandSPX.excO C t1) → InstAt hh a (HandSPX.excO C t1) C none := fun e => ⟨e, rfl, rfl, trivial⟩
  refine ks_wpAt_execs_cons (ks_wpAt_Expr_any (ks_wpAt_MethodCall (pl := pl _) ?_ (hcall _ rfl)) I.quiet rfl)
  refine ks_wpAt_super_base (env := envF F f hp.objs.size) (tf := tf) (file := fl) hsg hfr (by decide) rfl (K1 _ _ lk) rfl har rfl (K1 _ _ hcode) rfl hfl hfile S.top ?_
  refine ks_loadName_global NS.kind hsg (loadGlobal_builtin (I.mod.glob.keeps I.bk) hmS (hmb.keeps I.bk) ((hbb _ (by decide)).trans (by decide +kernel : bootBuiltins "super" = some (.type "super"))) ⟨rfl, ?_⟩)
  refine wpAny_loadName_free NS.kind hfr (by show F.cl.lookup _ = some cc; rw [S.caps]; simp [List.lookup]) (ccs.elim fun o ho => ⟨o, kp _ _ ho.1, ho.2⟩) ?_
  refine wpAny_loadName_local NS.kind (by rw [hars]; exact hls) hm (by rw [hars]; exact mself) ?_
  refine ks_wpAny_isType_cls (K1 _ _ hC) rfl ⟨rfl, ?_⟩
  refine ks_wpAny_call_super (K1 _ _ hC) rfl oe1 rfl (fun c z => by cases z) (looks_mroIn K1 S.self) fun h2 hso k2 => ?_
  have K2 : K.In h2 := K1.keeps k2
  have oe2 := k2 _ _ oe1
  have hal : alongIn K "__init__" (((Value.ref C :: bm).dropWhile (· != .ref C)).drop 1) = some (some (.builtin "ValueError.__init__")) := by
    have z := S.sup
    unfold ks_superIn at z
    rw [hcd] at z
    exact z
  refine kxs_getMethod kxs_ValueError hso (looks_opaque K2 S.opaq) (l₀ := .ref C :: bm) (fun A Q E s k q => wpAny_bind ((looks_clsIn K2 hcd) A _ E s k (wpAny_pure q))) rfl K2 hal ((inst oe2).type.andThen (looks_subIn K2 S.subV)) (ks_ne K2 (inst oe2) hcd) (by decide) ?_
  -- the arguments
  have k3 : ∀ b o, h₁.get? b = some o → (h2.push (kxs_mw "ValueError.__init__" a)).get? b = some o := fun b o e => Heap.get?_push_of_some _ (k2 b o e)
  have I2 : Inv (ncx CX P w K mg base N F f A outer ⟨hp, gg, dr, tk, os⟩ H E).nox [] (startF N vs [some (.ref C)]) H ⟨h2, gg, dr, tk + (ps.zip us).length, os⟩ := IX.kept (t' := tk + (ps.zip us).length) k2
  obtain ⟨f0, f1, f2, _, _, _⟩ := I2.fpOk (b := h2.objs.size) (H' := H) (Nat.le_refl _) (I2.hok.fresh (Nat.le_refl _))
  have I3 : Inv (ncx CX P w K mg base N F f A outer ⟨hp, gg, dr, tk, os⟩ H E).nox [(h2.objs.size, kxs_mw "ValueError.__init__" a)] (startF N vs [some (.ref C)]) H ⟨h2.push (kxs_mw "ValueError.__init__" a), gg, dr, tk + (ps.zip us).length + 1, os⟩ := by
    refine Inv.pins_of (IX.kept (t' := tk + (ps.zip us).length + 1) k3) fun q hq => ?_
    rw [List.mem_singleton.mp hq]
    exact ⟨Heap.get?_push_size _ rfl, f0, f1, f2, fun v z => by cases z⟩
  have spl := hta.run p3 [(h2.objs.size, kxs_mw "ValueError.__init__" a)] _ _ H _ I3 hq
  show wpAny _ _ (callWith p3 (.ref h2.objs.size) [] (backTo p3 (starEach (e :: es) (envF F f hp.objs.size))) []) _ _ _
  have spl2 : wpAny (model P w) (A.deeper (envF F f hp.objs.size)) (spliced (backTo p3 (starEach (e :: es) (envF F f hp.objs.size)))) _ _ _ := spl
  rw [hst] at spl2 ⊢
  refine kxs_callWith (i := "ValueError.__init__") (x := a) (by show (false || (backTo p3 (starEach es (envF F f hp.objs.size))).any (·.1)) = false; rw [hpl]; rfl) (evalArgs_plain (thnF spl2 fun as s4 h4 => ?_))
  obtain ⟨zs, H4, I4, rz, hzl, hea4, hnx⟩ := h4
  have pu := (I4.pin (h2.objs.size, kxs_mw "ValueError.__init__" a) (by simp)).1
  refine ⟨pu, ?_⟩
  obtain ⟨t4, hoe4⟩ := exo_at I4.hok hea4
  obtain ⟨h4, g4, d4, tk4, os4⟩ := s4
  refine call_bound_ve (I4.kIn _ _ hC) hoe4 pu (by show as.length ≤ sizeLine; rw [← Paired.length rz, sizeLine_eq]; omega) fun h5 t5 k5 hx5 => ?_
  -- behind it
  have J := I4.write (t' := tk4) (x := a) (e := a) (o := exo a C none) (by rw [hea4]; exact True.intro) (.inl rfl) k5 ⟨_, hx5⟩ (exo_ok hx5)
  have eu : upd H4 a (exo a C none) = H4 := by
    funext b
    by_cases hb : b = a
    · rw [hb, upd_same, hea4]
    · rw [upd_ne hb]
  rw [eu] at J
  have J0 : Inv (ncx CX P w K mg base N F f A outer ⟨hp, gg, dr, tk, os⟩ H E).nox [] (startF N vs [some (.ref C)]) H4 ⟨h5, g4, d4, tk4, os4⟩ := J.pins_of fun q hq => absurd hq (by simp)
  show PySem.wpAt _ _ _ (execs rest (envF F f hp.objs.size)) _ _ _
  refine PySem.wpAt_of_wpAny (thnF (htr.run [] _ _ H4 _ J0 hnx) fun fl s' hs => ?_)
  have fin : ∀ {σ' : L2.St} {H' : Hp} {v : V} {u : Value}, Inv (ncx CX P w K mg base N F f A outer ⟨hp, gg, dr, tk, os⟩ H E).nox [] σ' H' s' → L2.RelV v u → Q v H' → CE outer P w H ⟨hp, gg, dr, tk, os⟩ Q u s' :=
    fun {σ' H' v u} J rv q => ⟨v, H', J.os, J.bare, J.base, J.hok, rv, q⟩
  cases fl with
  | ret u =>
    obtain ⟨v, σ', H', J, rv, q⟩ := hs
    exact fin J rv q
  | next =>
    obtain ⟨σ', H', J, q⟩ := hs
    exact fin (v := V.non) (u := Value.none) J rfl q
  | brk =>
    obtain ⟨_, _, _, q⟩ := hs
    exact False.elim q
  | cont =>
    obtain ⟨_, _, _, q⟩ := hs
    exact False.elim q
end
end Sg

/-! SgDel: del xs[a:]. -/
namespace Sg
open PySem PySem.W PySem.Spec PySem.Calls PyProof.Rows L2 L2H HotX

theorem zip_take {α : Type} (p : Nat → Bool) (a : Nat) : ∀ (l : List α) (k : Nat), (∀ i, k ≤ i → i < k + l.length → p i = decide (a ≤ i)) → ((l.zipIdx k).filterMap fun (x : α × Nat) => if p x.2 = true then none else some x.1) = l.take (a - k)
  | [], k, _ => by simp
  | x :: l, k, h => by
    have ih := zip_take p a l (k + 1) fun i h1 h2 => h i (by omega) (by rw [List.length_cons]; omega)
    rw [List.zipIdx_cons, List.filterMap_cons]
    have hk := h k (Nat.le_refl _) (by rw [List.length_cons]; omega)
    by_cases c : a ≤ k
    · have e : a - k = 0 := by omega
      have e2 : a - (k + 1) = 0 := by omega
      rw [e2] at ih
      simp only [hk, c, decide_true, if_true, e, List.take_zero]
      simpa using ih
    · obtain ⟨m, hm⟩ : ∃ m, a - k = m + 1 := ⟨a - k - 1, by omega⟩
      have e2 : a - (k + 1) = m := by omega
      rw [e2] at ih
      simp only [hk, c, decide_false, Bool.false_eq_true, if_false, hm, List.take_succ_cons]
      rw [ih]
section
variable {prog : Program} {w : World} {A : Around} {E : Value → Shared → Prop} {s : Shared}
theorem upd_take {M : Model} {l : Addr} {its : List Value} {n a : Nat} {f : Array Value → Array Value} {Q : Unit → Shared → Prop} (e : s.heap.get? l = some { cls := .type "list", data := .seq its.toArray n }) (hz : its.length ≤ sizeLine) (hf : f its.toArray = (its.take a).toArray)
    (q : Q () { s with heap := s.heap.update l (Obj.mapSeq f) }) : wpAny M A (Builtin.List.listUpdate (.ref l) f) Q E s :=
  listUpdate_at e rfl q (by rw [List.size_toArray]; exact hz) (by rw [hf, List.size_toArray, List.length_take]; omega)
theorem delItem_from {l sl : Addr} {its : List Value} {n : Nat} {vl : Value} {a : Nat} {Q : Unit → Shared → Prop} (e : s.heap.get? l = some { cls := .type "list", data := .seq its.toArray n })
    (hs : s.heap.IsSliceOf sl vl .none .none) (pl : IsPart vl (some (a : Int))) (ha : a ≤ its.length) (hz : its.length ≤ sizeLine)
    (h : ∀ f : Array Value → Array Value, f its.toArray = (its.take a).toArray → Q () { s with heap := s.heap.update l (Obj.mapSeq f) }) : wpAny (model prog w) A (delItem (.ref l) (.ref sl)) Q E s := by
  have hl : s.heap.IsList l its.toArray := PySem.IsL.isList e
  obtain ⟨os, hos, hcs, hds⟩ := id hs
  have hTs : s.TypeIs (.ref sl) "slice" := ⟨os, hos, hcs⟩
  have hstep : ¬ ((rawPart none == rawInt 0) = true) := fun z => Bool.false_ne_true z
  refine wpAny_delItem_slot hl.typeIs (by decide) F.slot_list_delitem (wpAny_call_entry F.slot_list_delitem hl.typeIs F.entry_list_delitem ?_ (F.args_list_delitem_2 _ _))
  show wpAny _ _ (Builtin.List.listSubscript? (.ref sl) >>= _) _ _ s
  refine wpAny_bind ?_
  unfold Builtin.List.listSubscript?
  refine wpAny_bind (wpAny_specialOf hTs slice_no_index ?_)
  simp only [Option.isNone_none, if_true]
  refine wpAny_pure ?_
  show wpAny _ _ (typeOf (.ref sl) >>= _) _ _ s
  refine wpAny_bind (wpAny_typeOf hTs ?_)
  first
    | rw [if_neg (by decide)]
    | refine KFB.if_not (by decide) ?_
  rw [listSliceParts_eq]
  refine wpAny_bind (wpAny_bind (wpAny_field hos hds (x := .none) rfl (wpAny_bind (wpAny_listPart .none ?_))))
  rw [if_neg hstep]
  refine wpAny_bind (wpAny_field hos hds (x := vl) rfl (wpAny_bind (wpAny_listPart pl ?_)))
  refine wpAny_bind (wpAny_field hos hds (x := .none) rfl (wpAny_bind (wpAny_listPart .none (wpAny_pure ?_))))
  refine wpAny_bind (m := Builtin.List.listItems (.ref l)) ?_
  unfold Builtin.List.listItems
  refine wpAny_bind (wpAny_seqItems e rfl (wpAny_pure ?_))
  have hb : sliceBounds (some (a : Int)) none none its.toArray.size = ((a : Int), (its.length : Int), 1) := by
    simp only [sliceBounds, Option.getD_none]
    have h1 : ¬ ((a : Int) < 0) := by omega
    simp only [h1, if_false, show (1 : Int) > 0 by decide, if_true, List.size_toArray]
    congr 1
    omega
  refine wpAny_bind (wpAny_of_eq ((sliceIndices_raw (some (a : Int)) none none its.toArray.size (by simp)).trans (congrArg (pure : Int × Int × Int → Sem (Int × Int × Int)) hb)) ?_)
  refine wpAny_bind (wpAny_rule ?_)
  have pick : ∀ (p : Nat → Bool), (∀ i, i < its.length → p i = decide (a ≤ i)) → ((its.toArray.toList.zipIdx.filterMap fun (x : Value × Nat) => if p x.2 = true then none else some x.1).toArray) = (its.take a).toArray := fun p hp => by
    rw [List.toList_toArray, zip_take p a its 0 (fun i _ h2 => hp i (by omega)), Nat.sub_zero]
  refine wpAny_bind (upd_take (a := a) e hz (pick _ fun i hi => ?_) (wpAny_bind (wpAny_letGo (wpAny_pure ⟨.none, rfl, h _ (pick _ fun i hi => ?_)⟩))))
  all_goals
    show (if (1 : Int) > 0 then (decide ((a : Int) ≤ (i : Int)) && decide ((i : Int) < (its.length : Int)) && (((i : Int) - (a : Int)) % 1 == 0)) else _) = _
    rw [if_pos (by decide)]
    have e1 : (((i : Int) - (a : Int)) % 1 == 0) = true := by simp [Int.emod_one]
    have e2 : decide ((i : Int) < (its.length : Int)) = true := decide_eq_true (by omega)
    rw [e1, e2, Bool.and_true, Bool.and_true]
    by_cases c : a ≤ i
    · rw [decide_eq_true c, decide_eq_true (by omega)]
    · rw [decide_eq_false c, decide_eq_false (by omega)]
end
/-- del xs[a:] of a list, a within it -/
def tDelFrom (to ti : TE) : TS := fun D σ H => to σ H fun x H1 => ti σ H1 fun y H2 => ∃ (l : Addr) (xs : List V) (a : Nat), x = .ref l ∧ y = .int a ∧ H2 l = some (.lst xs) ∧ a ≤ xs.length ∧ D.nx σ (upd H2 l (.lst (xs.take a)))
section
variable {X : Cx}
theorem ps_delFrom {o i : Expr} {to ti : TE} {tpos p pos : Pos} (ho : PE X o to) (hi : PE X i ti) : PS X (.Delete [.Subscript o (.Slice (some i) none none p) tpos] pos) (tDelFrom to ti) := by
  refine ⟨fun pins s σ H D I h => ?_⟩
  refine wpAny_Delete (wpAny_deleteEach_cons (wpAny_delete_Subscript (thn (ho.run pins s σ H _ I h) fun u s1 hu => wpAny_Slice ?_)))
  obtain ⟨x, H1, I1, rx, q1⟩ := hu
  rw [evalPart_some]
  refine thn (hi.run pins s1 σ H1 _ I1 q1) fun vl s2 hv => ?_
  obtain ⟨y, H2, I2, ry, l, xs, a, rfl, rfl, hl, ha, q⟩ := hv
  rw [evalPart_none]
  refine wpAny_pure (wpAny_pure ?_)
  obtain rfl : u = Value.ref l := rx
  obtain ⟨t, rfl⟩ := ry
  have I3 : Inv X pins σ H2 { s2 with heap := s2.heap.push { cls := .type "slice", data := .fields #[.int (a : Int) t, .none, .none] } } := I2.kept (t' := s2.toks) fun b o e => Heap.get?_push_of_some _ e
  obtain ⟨z, its, n, r, hlen, e⟩ := I3.lstM hl
  refine delItem_from (a := a) (its := its) e (Heap.IsSliceOf.new ..) (.int _ _) (by rw [← hlen]; exact ha) (by rw [← hlen]; exact z) fun f hf => wpAny_deleteEach_nil ⟨σ, _, I3.lset (its' := its.take a) (t' := s2.toks) hl e hf (r.take a) ?_, q⟩
  rw [List.length_take]
  omega
end
end Sg

/-! SgMisc: o.m(e, .., k = v, ..); isinstance of a caught error with a dict of its own. -/
namespace Sg
open PySem PySem.W PySem.Spec PySem.Calls PyProof.Rows L2 L2H HotX

section
variable {X : Cx} {CX : CXT} {k n : Nat} {f C : Addr} {fd : FuncData} {ps ks : List Str} {sp : Sp} {E : XK} {m : Str} {p pos apos : Pos} {e o : Expr} {es : List Expr} {kws : List Keyword} {to : TE} {t tk : TA} {g : List Value → List Value → List Value} {gV : List V → List V → List V}
def tMethN (C : Addr) (m : Str) (n j : Nat) (sp : Sp) (gV : List V → List V → List V) (E : XK) (to : TE) (t tk : TA) : TE := fun σ H Q => to σ H fun x H0 => ∃ a dx fs, x = .ref a ∧ H0 a = some (.ins C dx fs) ∧ fs.lookup m = none ∧ t σ H0 fun vs H1 => tk σ H1 fun zs H2 => vs.length + 1 = n ∧ zs.length = j ∧ sp (gV (x :: vs) zs) H2 Q E
theorem pe_methN {pl : Sem Bool} (ho : PE X o to) (c : Cls X.K C) (hm : Meth X.K C m f) (F : FnOk X.prog X.w X.K X.mg X.base CX k f fd ps sp) (hr : Room k X.A) (hb : KBn X.K fd ps n ks g gV) (hx : Passes CX X E)
    (ha : PA X (e :: es) t) (hkw : PK X kws tk) (hall : (backToKw pos (keywordEach kws X.env)).all (·.1.isSome) = true := by rfl) (hks : (backToKw pos (keywordEach kws X.env)).filterMap (·.1) = ks := by rfl)
    (he : starEach (e :: es) X.env = (false, eval e X.env) :: starEach es X.env := by rfl)
    (hpl : ((backTo pos (starEach (e :: es) X.env)).any (·.1) || (backToKw pos (keywordEach kws X.env)).any (·.1.isNone)) = false := by rfl)
    (ht : eval (.Call (.Attribute o m apos) (e :: es) kws pos) X.env = (do
      let w ← eval o X.env
      standAt apos.atName
      let (f, first) ← holding [w] (getMethod w m pl)
      callWith pos f first (backTo pos (starEach (e :: es) X.env)) (backToKw pos (keywordEach kws X.env))) := by rfl) :
    PE X (.Call (.Attribute o m apos) (e :: es) kws pos) (tMethN C m n ks.length sp gV E to t tk) := by
  refine ⟨fun pins s σ H Q I h => PySem.W.methodCall_KW (pl := pl) (thn (ho.run pins s σ H _ I h) fun u s1 hu => ?_) ht⟩
  obtain ⟨y, H1, I1, ry, a, dx, fs, rfl, ea, l, q⟩ := hu
  obtain rfl : u = Value.ref a := ry
  refine getmeth_ok I1 ea c hm l (PySem.W.callWith_KW (first := [.ref a]) (h₀ := X.base) I.ok.mod.kin hm.kp hall (thn (ha.run pos pins s1 σ H1 _ I1 q) fun us s2 hus => ?_) hpl he)
  obtain ⟨vs, H2, I2, r, q2⟩ := hus
  refine thn (hkw.run pos pins s2 σ H2 _ I2 q2) fun ws s3 hws => ?_
  obtain ⟨zs, H3, I3, rz, l1, l2, q3⟩ := hws
  refine ⟨I3.kIn, ?_⟩
  rw [hks]
  exact run_fnN (us := .ref a :: us) (vs := .ref a :: vs) F hr hb hx I3 (.cons rfl r) rz l1 l2 q3
end
/-- what the class D must say, so that isinstance asks its instances rightly -/
structure XisC (K : Frag) (D : Addr) : Prop where
  cl : (clsIn K D).isSome = true
  hg : findIn K (.ref D) "__getattribute__" = some (some (.builtin "BaseException.__getattribute__"))
  hk : findIn K (.ref D) "__getattr__" = some none
  hs : subIn K (.ref D) (.type "BaseException") = some true
  ha : findIn K (.ref D) "__class__" = some (some (.builtin "object.__class__"))
  hn : specialIn K (.builtin "object.__class__") "__get__" = some (some (.builtin "getset_descriptor.__get__"))
  ht : takesIn K (.builtin "object.__class__") = some true
  hm : mroIn K D (.type "object") = some true
/-- isinstance(e, c), e the error that the suite holds -/
def rIsX (K : Frag) (cls : Value) (d : Option Addr) (a : Addr) : List V → Hp → VK → Prop := fun xs H Q => ∃ (D dd : Addr) (fs : List (Str × V)) (c : V) (cv : Value) (b : Bool), xs = [.ref a, c] ∧ cls = .ref D ∧ XisC K D ∧ d = some dd ∧ H dd = some (.xd fs) ∧ (∀ u, L2.RelV c u → u = cv) ∧ kitOne K (.ref D) cv = some b ∧ Q (.bl b) H
theorem call_isX {X : Cx} {a : Addr} {oe : Obj} {cls : Value} {d : Option Addr} {pn : List (Addr × Obj)} (hz : Zc cls d oe) (hf : ∃ vs, oe.data = .fields vs) : CallR (X.suite a ((a, oe) :: pn)) (.builtin "isinstance") (rIsX X.K cls d a) := by
  intro pins s σ H xs us Q I r h
  obtain ⟨D, dd, fs, c, cv, b, rfl, rfl, C, rfl, ed, hcv, e, q⟩ := h
  obtain ⟨u1, u2, rfl, r1, r2⟩ := vals2 r
  obtain rfl : u1 = Value.ref a := r1
  obtain rfl := hcv _ r2
  obtain ⟨hget, _⟩ := I.pin (a, oe) (List.mem_append.mpr (.inl List.mem_cons_self))
  obtain ⟨vs, hv⟩ := hf
  obtain ⟨mA, hns, hr⟩ := (show ObjOk X.prog X.w H s.heap dd (.xd fs) from I.hok dd _ ed)
  obtain ⟨od, ho, _⟩ := lookIn_ns hns
  have J : InstAt s.heap a oe D (some od) := ⟨hget, hz.1, by unfold notCls; rw [hv] <;> rfl, by rw [hz.2]; exact ho⟩
  refine kia_one (kitx_exc (od := some od) (ox := oe) C.cl C.hg C.hk C.hs C.ha C.hn C.ht C.hm) I.kIn J e (fun z => nomatch z) fun tk => ⟨.bl b, H, I.kept (t' := tk) fun _ _ z => z, rfl, q⟩
end Sg

/-! SgRaise: an own error made where nothing is handled, its context told to be None. -/
namespace Sg
open PySem PySem.W PySem.Spec PySem.Calls PyProof.Rows L2 L2H HotX
section
variable {X : Cx} {e : Expr} {es : List Expr} {ta : TA} {p pos : Pos}
theorem pmk_oexN {CX : CXT} {x : Str} {C fI : Addr} {k : Nat} {fd : FuncData} {ps : List Str} {sp : Sp} (T : OexC X.K C) (iC : PySem.W.findIn X.K (.ref C) "__init__" = some (some (.ref fI))) (tI : PySem.W.typeIn X.K (.ref fI) = some (.type "function"))
    (F1 : FnOk X.prog X.w X.K X.mg X.base CX k fI fd ps sp) (hr : Room (k + 1) X.A) (hb : Binds X.K fd ps []) (hx : Passes CX X (fun _ _ _ => False)) (hg : Gl X x) (hm : X.mg x = some (.ref C)) (ha : PA X (e :: es) ta)
    (hdb : (x == ("__debug__" : Str)) = false := by decide) (he : starEach (e :: es) X.env = (false, eval e X.env) :: starEach es X.env := by rfl) (hpl : (backTo pos (starEach es X.env)).any (·.1) = false := by rfl) :
    L2N.PMk X (.Call (.Name x p) (e :: es) [] pos) (tMkO C sp [] ta) := by
  intro pins s σ H Q I h
  obtain ⟨nm, q, N, bs, bm, sn, sub, ab, col, dd, k0, k1, k2, k3, k5, hC, hbm⟩ := T.cls
  refine wpAny_Call_Name_kw (ld_glob I hg hm ?_ hdb)
  refine PySem.W.callWith_K (h₀ := X.base) I.ok.mod.kin T.kC (thn (ha.run pos pins s σ H _ I h) fun us s1 ⟨vs, H1, I1, r1, hz, q1⟩ => ⟨I1.kIn, ?_⟩) he hpl
  show wpAny _ _ (call (.ref C) us) _ _ _
  obtain ⟨hp, g, dr, tk, os⟩ := s1
  have hsz : hp.objs.size ≤ hp.objs.size + 1 := Nat.le_succ _
  have hn : H1 (hp.objs.size + 1) = none := I1.hok.fresh hsz
  have hq := q1 (hp.objs.size + 1) hn
  rw [List.append_nil] at hq
  have kk : ∀ b o, hp.get? b = some o → ((hp.push (PySem.W.kdv_tup us)).push (PySem.HandSPX.excO C hp.objs.size)).get? b = some o := fun b o e => Heap.get?_push_of_some _ (Heap.get?_push_of_some _ e)
  have hget : ((hp.push (PySem.W.kdv_tup us)).push (PySem.HandSPX.excO C hp.objs.size)).get? (hp.objs.size + 1) = some (PySem.HandSPX.excO C hp.objs.size) := by heap_get
  have I2 : Inv X pins σ (upd H1 (hp.objs.size + 1) (exo (hp.objs.size + 1) C none)) ⟨(hp.push (PySem.W.kdv_tup us)).push (PySem.HandSPX.excO C hp.objs.size), g, dr, tk, os⟩ :=
    I1.laid (t' := tk) (a := hp.objs.size + 1) (o := exo (hp.objs.size + 1) C none) (h' := (hp.push (PySem.W.kdv_tup us)).push (PySem.HandSPX.excO C hp.objs.size)) kk hsz (exo_ok hget)
  have r2 : Vals (V.ref (hp.objs.size + 1) :: vs) (Value.ref (hp.objs.size + 1) :: us) := .cons rfl r1
  have hl : (Value.ref (hp.objs.size + 1) :: us ++ []).length = ps.length := by
    have e := r2.length
    rw [F1.len _ _ _ _ hq] at e
    rw [List.append_nil]
    exact e.symm
  have hus : us.length ≤ sizeLine := by
    rw [← Paired.length r1, sizeLine_eq]
    omega
  have b2 := hb _ (Value.ref (hp.objs.size + 1) :: us) I2.kIn hl
  rw [List.append_nil] at b2
  refine wpAny_call (PySem.HandSPX.call_own F.excBase_ValueError (fun Y => PySem.HandSPX.refsVE_contains Y bm hbm) (I1.kIn _ _ hC) (PySem.W.looks_findIn I1.kIn iC) (fun self => PySem.W.bind_fn I1.kIn self tI) hus
    (codeAny_mono (F1.run _ X.stack _ _ ⟨Value.ref (hp.objs.size + 1) :: us, []⟩ (Value.ref (hp.objs.size + 1) :: us) _ _ (fun _ _ _ => False) (hr.make C us []) (I2.env0.make C us []) b2 r2 hq) fun r s' hq' => ?_))
  cases r with
  | error er => exact hx pins σ _ _ er s' I2 hq'
  | ok fl =>
    cases fl with
    | ret u =>
      obtain ⟨v, H2, os2, bare2, un2, hok2, rv, ev, d, fs, ea, ed, hd1, q2⟩ := hq'
      subst ev
      obtain ⟨h2, g2, d2, t2, os'⟩ := s'
      obtain ⟨t0, G, J, kG, ge, hoe, na⟩ := mk_end0 (d2 := d2) (t2 := t2) I1 hsz kk un2 hok2 os2 bare2 ea ed hd1
      refine ⟨rv, ⟨hp.objs.size + 1, _, _, ⟨G, g2, d2, t2, os'⟩, _, .ref C, some d, rfl, J, kG, ge, hoe, ⟨rfl, rfl, fun vs hv => ?_⟩, rfl, rfl, na, rfl, bare2, raises_own T.exC T.tyC, q2⟩⟩
      · cases hv
        rfl
    | next => exact False.elim hq'
    | brk => exact False.elim hq'
    | cont => exact False.elim hq'
end
end Sg

/-! SgM1: the store as plain data. -/
namespace Sg
open PySem L2
structure Ob where
  num : Int
  kind : Int
  slots : List Int
def Ob.flat (o : Ob) : List Int := o.num :: (o.slots.length : Int) :: o.kind :: o.slots
def flat (os : List Ob) : List Int := os.flatMap Ob.flat
theorem flat_nil : flat [] = [] := rfl
theorem flat_cons (o : Ob) (os : List Ob) : flat (o :: os) = o.flat ++ flat os := by simp [flat]
theorem flat_app (a b : List Ob) : flat (a ++ b) = flat a ++ flat b := by simp [flat]
theorem Ob.flat_len (o : Ob) : o.flat.length = 3 + o.slots.length := by simp [Ob.flat]; omega
/-- numbers with their places, the first place being p -/
def offs : Nat → List Ob → List (Int × Int)
  | _, [] => []
  | p, o :: os => (o.num, (p : Int)) :: offs (p + (3 + o.slots.length)) os
theorem offs_app : ∀ (p : Nat) (a b : List Ob), offs p (a ++ b) = offs p a ++ offs (p + (flat a).length) b
  | p, [], b => by simp [offs, flat]
  | p, o :: a, b => by
    rw [List.cons_append, offs, offs, offs_app, flat_cons, List.length_append, Ob.flat_len, List.cons_append, Nat.add_assoc p]
theorem offs_fst : ∀ (p : Nat) (a : List Ob), (offs p a).map (·.1) = a.map Ob.num
  | p, [] => rfl
  | p, o :: a => by rw [offs, List.map_cons, List.map_cons, offs_fst]
theorem offs_len (p : Nat) (a : List Ob) : (offs p a).length = a.length := by
  have := congrArg List.length (offs_fst p a)
  simpa using this
theorem offs_mem : ∀ {p : Nat} {a : List Ob} {n q : Int}, (n, q) ∈ offs p a → ∃ pre o post, a = pre ++ o :: post ∧ o.num = n ∧ q = ((p + (flat pre).length : Nat) : Int)
  | p, [], n, q, h => by simp [offs] at h
  | p, o :: a, n, q, h => by
    rw [offs] at h
    rcases List.mem_cons.mp h with e | h
    · obtain ⟨rfl, rfl⟩ := Prod.mk.inj e
      exact ⟨[], o, a, rfl, rfl, by simp [flat]⟩
    · obtain ⟨pre, o2, post, rfl, e, e2⟩ := offs_mem h
      refine ⟨o :: pre, o2, post, rfl, e, ?_⟩
      rw [e2, flat_cons, List.length_append, Ob.flat_len, Nat.add_assoc p]
theorem offs_of (p : Nat) (pre : List Ob) (o : Ob) (post : List Ob) : (o.num, ((p + (flat pre).length : Nat) : Int)) ∈ offs p (pre ++ o :: post) := by
  rw [offs_app]
  exact List.mem_append_right _ (by rw [offs]; exact List.mem_cons_self)
theorem offs_ge : ∀ {p : Nat} {a : List Ob} {x : Int × Int}, x ∈ offs p a → (p : Int) ≤ x.2
  | p, a, (n, q), h => by
    obtain ⟨pre, o, post, _, _, e⟩ := offs_mem h
    show (p : Int) ≤ q
    omega
theorem offs_sorted : ∀ (p : Nat) (a : List Ob), (offs p a).Pairwise (fun x y => x.2 < y.2)
  | p, [] => List.Pairwise.nil
  | p, o :: a => by
    rw [offs]
    refine List.Pairwise.cons (fun y hy => ?_) (offs_sorted _ a)
    have := offs_ge hy
    show (p : Int) < y.2
    omega
/-- the words of an object, by its place -/
theorem at_num (pre post : List Ob) (o : Ob) : (flat (pre ++ o :: post))[(flat pre).length]? = some o.num := by
  rw [flat_app, flat_cons, List.getElem?_append_right (Nat.le_refl _), Nat.sub_self]
  rfl
theorem at_size (pre post : List Ob) (o : Ob) : (flat (pre ++ o :: post))[(flat pre).length + 1]? = some (o.slots.length : Int) := by
  rw [flat_app, flat_cons, List.getElem?_append_right (by omega), Nat.add_sub_cancel_left]
  rfl
theorem at_kind (pre post : List Ob) (o : Ob) : (flat (pre ++ o :: post))[(flat pre).length + 2]? = some o.kind := by
  rw [flat_app, flat_cons, List.getElem?_append_right (by omega), Nat.add_sub_cancel_left]
  rfl
theorem at_slots (pre post : List Ob) (o : Ob) : ((flat (pre ++ o :: post)).drop ((flat pre).length + 3)).take o.slots.length = o.slots := by
  rw [flat_app, flat_cons, ← List.append_assoc, ← List.drop_drop, List.append_assoc, List.drop_left]
  show ((o.flat ++ flat post).drop 3).take _ = _
  simp [Ob.flat]
theorem at_all (pre post : List Ob) (o : Ob) : ((flat (pre ++ o :: post)).drop (flat pre).length).take (3 + o.slots.length) = o.flat := by
  rw [flat_app, List.drop_left, flat_cons, ← Ob.flat_len, List.take_left]
theorem len_split (pre post : List Ob) (o : Ob) : (flat (pre ++ o :: post)).length = (flat pre).length + (3 + o.slots.length) + (flat post).length := by
  rw [flat_app, flat_cons, List.length_append, List.length_append, Ob.flat_len]; omega
structure SSt where
  room : Int
  ents : Int
  objs : List Ob
  pl : List (Int × Int)
  least : Int
/-- the store's data hang together; some numbers may have been dropped already -/
structure Lay (S : SSt) : Prop where
  nd : (S.objs.map Ob.num).Nodup
  sub : ∀ x ∈ S.pl, x ∈ offs 0 S.objs
  ndp : (S.pl.map (·.1)).Nodup
  rng : ∀ o ∈ S.objs, 0 ≤ o.num ∧ o.num < S.ents
  fits : ((flat S.objs).length : Int) ≤ S.room
  lim : S.room ≤ 100000
  ents_lim : S.ents ≤ 1000000
  ents0 : 0 ≤ S.ents
def SSt.live (S : SSt) (n : Int) : Prop := n ∈ S.pl.map (·.1)
/-- the store between two calls -/
structure Whole (S : SSt) : Prop extends Lay S where
  all : ∀ x ∈ offs 0 S.objs, x ∈ S.pl
  l0 : 0 ≤ S.least
  lst : ∀ m, 0 ≤ m → m < S.least → S.live m
theorem Lay.find {S : SSt} (L : Lay S) {n q : Int} (h : (n, q) ∈ S.pl) : ∃ pre o post, S.objs = pre ++ o :: post ∧ o.num = n ∧ q = ((flat pre).length : Int) := by
  obtain ⟨pre, o, post, e1, e2, e3⟩ := offs_mem (L.sub _ h)
  exact ⟨pre, o, post, e1, e2, by rw [e3, Nat.zero_add]⟩
theorem split_uniq {a : List Ob} {o o2 : Ob} (nd : (a.map Ob.num).Nodup) (h : o ∈ a) (h2 : o2 ∈ a) (e : o.num = o2.num) : o = o2 := by
  induction a with
  | nil => cases h
  | cons x a ih =>
    obtain ⟨n1, n2⟩ := List.nodup_cons.mp (show (x.num :: a.map Ob.num).Nodup from nd)
    have none : ∀ y, y ∈ a → y.num = x.num → False := fun y hy e => n1 (List.mem_map.mpr ⟨y, hy, e⟩)
    rcases List.mem_cons.mp h with e1 | h1 <;> rcases List.mem_cons.mp h2 with e2 | h2'
    · rw [e1, e2]
    · exact (none o2 h2' (by rw [← e, e1])).elim
    · exact (none o h1 (by rw [e, e2])).elim
    · exact ih n2 h1 h2'
/-- what the store tells of a number -/
def SSt.ob (S : SSt) (n : Int) (o : Ob) : Prop := o ∈ S.objs ∧ o.num = n ∧ S.live n
theorem SSt.ob_uniq {S : SSt} (L : Lay S) {n : Int} {o o2 : Ob} (h : S.ob n o) (h2 : S.ob n o2) : o = o2 := split_uniq L.nd h.1 h2.1 (h.2.1.trans h2.2.1.symm)
theorem Lay.live_ob {S : SSt} (L : Lay S) {n : Int} (h : S.live n) : ∃ o, S.ob n o := by
  obtain ⟨⟨m, q⟩, hm, rfl⟩ := List.mem_map.mp h
  obtain ⟨pre, o, post, e, e2, _⟩ := L.find hm
  exact ⟨o, by rw [e]; simp, e2, h⟩
/-- an object's place -/
theorem Lay.place {S : SSt} (L : Lay S) {n : Int} {o : Ob} (h : S.ob n o) : ∃ pre post, S.objs = pre ++ o :: post ∧ (n, ((flat pre).length : Int)) ∈ S.pl := by
  obtain ⟨⟨m, q⟩, hm, e⟩ := List.mem_map.mp h.2.2
  have e : m = n := e
  subst e
  obtain ⟨pre, o2, post, e, e2, e3⟩ := L.find hm
  have : o2 = o := split_uniq L.nd (by rw [e]; simp) h.1 (e2.trans h.2.1.symm)
  subst this
  exact ⟨pre, post, e, by rw [← e3]; exact hm⟩
instance (S : SSt) (n : Int) : Decidable (S.live n) := by unfold SSt.live; infer_instance
end Sg

/-! SgP1: the program's text by places; bundles of what is known of a def; words and the store's small methods. -/
namespace Sg
open PySem PySem.W PySem.Spec PyProof.Rows L2 L2H HotX
def top (i : Nat) : Stmt := PySem.Challenge.pw_saggar_k06_new_harms_nothing_reached.main.body.getD i (.Pass ⟨0, 0, 0, 0⟩)
end Sg
namespace Sg
open PySem PySem.W PySem.Spec PyProof.Rows L2 L2H HotX
/-- a def of the module, known by its name -/
structure GB (P : Program) (w : World) (K : Frag) (mg : Str → Option Value) (base : Heap) (k : Nat) (x : Str) (ps : List Str) (sp : Sp) : Prop where
  ex : ∃ f fd, FnB P w K mg base k f fd ps sp ∧ mg x = some (.ref f) ∧ keepIn K (.ref f) = true ∧ L2.Binds K fd ps []
/-- a method of the class C -/
structure MB (P : Program) (w : World) (K : Frag) (mg : Str → Option Value) (base : Heap) (k : Nat) (C : Addr) (m : Str) (ps : List Str) (sp : Sp) : Prop where
  ex : ∃ f fd, FnB P w K mg base k f fd ps sp ∧ Meth K C m f ∧ L2.Binds K fd ps []
section
variable {X : Cx} {k : Nat} {C : Addr} {ps : List Str} {sp : Sp} {x m : Str} {p pos apos : Pos} {e o : Expr} {es : List Expr} {ta : TE} {t : TA}
theorem pe_gb (G : GB X.prog X.w X.K X.mg X.base k x ps sp) (hr : RoomH k X.A) (c : CoolC X) (ha : PA X (e :: es) t) (hg : Gl X x := by rfl)
    (hdb : (x == ("__debug__" : Str)) = false := by decide) (he : starEach (e :: es) X.env = (false, eval e X.env) :: starEach es X.env := by rfl) (hpl : (backTo pos (starEach es X.env)).any (·.1) = false := by rfl) :
    PE X (.Call (.Name x p) (e :: es) [] pos) (tCallS sp (fun _ => EN) t) := by
  obtain ⟨f, fd, F, hm, hk, hb⟩ := G.ex
  exact pe_cb F hr c hg hm hk hb ha hdb he hpl
theorem pe_mbb {pl : Sem Bool} (he : PE X o ta) (cl : Cls X.K C) (M : MB X.prog X.w X.K X.mg X.base k C m ps sp) (hr : RoomH k X.A) (c : CoolC X) (ha : PA X (e :: es) t)
    (hst : starEach (e :: es) X.env = (false, eval e X.env) :: starEach es X.env := by rfl) (hpl : (backTo pos (starEach es X.env)).any (·.1) = false := by rfl)
    (ht : eval (.Call (.Attribute o m apos) (e :: es) [] pos) X.env = (do
      let w ← eval o X.env
      standAt apos.atName
      let (f, first) ← holding [w] (getMethod w m pl)
      callWith pos f first (backTo pos (starEach (e :: es) X.env)) (backToKw pos (keywordEach [] X.env))) := by rfl) :
    PE X (.Call (.Attribute o m apos) (e :: es) [] pos) (tMethH C m sp (fun _ => EN) ta t) := by
  obtain ⟨f, fd, F, hm, hb⟩ := M.ex
  exact pe_mb he cl hm F hr c hb ha hst hpl ht
theorem pe_mbb0 {pl : Sem Bool} (he : PE X o ta) (cl : Cls X.K C) (M : MB X.prog X.w X.K X.mg X.base k C m ps sp) (hr : RoomH k X.A) (c : CoolC X)
    (ht : eval (.Call (.Attribute o m apos) [] [] pos) X.env = (do
      let w ← eval o X.env
      standAt apos.atName
      let (f, first) ← holding [w] (getMethod w m pl)
      callWith pos f first (backTo pos (starEach [] X.env)) (backToKw pos (keywordEach [] X.env))) := by rfl) :
    PE X (.Call (.Attribute o m apos) [] [] pos) (tMethH C m sp (fun _ => EN) ta tNil) := by
  obtain ⟨f, fd, F, hm, hb⟩ := M.ex
  exact pe_mb0 he cl hm F hr c hb ht
end
theorem huH {k : Nat} {A : Around} (h : RoomH k A) : A.units + 1 < cLine := by have := h.un; omega
/-- what the kit's built-in names are -/
structure TxN (mg : Str → Option Value) : Prop where
  len : mg "len" = none
  sorted : mg "sorted" = none
  min : mg "min" = none
  sum : mg "sum" = none
  int : mg "int" = none
  list : mg "list" = none
  isinstance : mg "isinstance" = none
  bool : mg "bool" = none
  range : mg "range" = none
section
variable {P : Program} {w : World} {K : Frag} {mg : Str → Option Value} {base : Heap}
/-- heaps: what is not owned stays, and is not owned behind; the tables stay tables -/
structure Mv (T : List (Addr × Str)) (O O' : Addr → Prop) (H H' : Hp) : Prop where
  kp : ∀ b o, H b = some o → ¬ O b → (∀ ps, o ≠ .tbl ps) → H' b = some o ∧ ¬ O' b
  tb : LamX.Tabs T H → LamX.Tabs T H'
theorem Mv.trans {T : List (Addr × Str)} {O O' O'' : Addr → Prop} {H H' H'' : Hp} (a : Mv T O O' H H') (b : Mv T O' O'' H' H'') : Mv T O O'' H H'' :=
  ⟨fun c o h n t => b.kp c o (a.kp c o h n t).1 (a.kp c o h n t).2 t, fun t => b.tb (a.tb t)⟩
theorem Mv.refl (T : List (Addr × Str)) (O : Addr → Prop) (H : Hp) : Mv T O O H H := ⟨fun _ _ h n _ => ⟨h, n⟩, fun t => t⟩
theorem Mv.same {T : List (Addr × Str)} {O : Addr → Prop} {H H' : Hp} (e : Same H H') : Mv T O O H H' := ⟨fun b o h n _ => ⟨e b o h, n⟩, fun t => t.ext e⟩
theorem tabs_upd {T : List (Addr × Str)} {H : Hp} {a : Addr} {o : HO} (t : LamX.Tabs T H) (h : ∀ u, H a = some u → (∀ ps, u ≠ .tbl ps) ∧ ∀ e, u ≠ .ext e) : LamX.Tabs T (upd H a o) := fun p hp => by
  obtain ⟨ps, h1, h2, h3⟩ := t p hp
  refine ⟨ps, by rw [upd_ne fun z => (h _ (z ▸ h1)).1 _ rfl]; exact h1, h2, fun pos cv hc => ?_⟩
  obtain ⟨c, e1, e2⟩ := h3 pos cv hc
  exact ⟨c, e1, by rw [upd_ne fun z => (h _ (z ▸ e2)).2 _ rfl]; exact e2⟩
/-- one owned object is written -/
theorem Mv.upd {T : List (Addr × Str)} {O : Addr → Prop} {H : Hp} {a : Addr} {o u : HO} (ha : H a = some u) (hu : (∀ ps, u ≠ .tbl ps) ∧ ∀ e, u ≠ .ext e) (hO : O a) : Mv T O O H (upd H a o) :=
  ⟨fun b v h n _ => ⟨by rw [upd_ne fun z => n (by rw [z]; exact hO)]; exact h, n⟩, fun t => tabs_upd t fun v hv => by rw [ha] at hv; cases hv; exact hu⟩
theorem nt_lst {xs : List V} : (∀ ps, HO.lst xs ≠ .tbl ps) ∧ ∀ e, HO.lst xs ≠ .ext e := ⟨fun _ z => (nomatch z), fun _ z => (nomatch z)⟩
theorem nt_dK {xs : List (Key × V)} : (∀ ps, HO.dK xs ≠ .tbl ps) ∧ ∀ e, HO.dK xs ≠ .ext e := ⟨fun _ z => (nomatch z), fun _ z => (nomatch z)⟩
theorem nt_ins {C d : Addr} {fs : List (Str × V)} : (∀ ps, HO.ins C d fs ≠ .tbl ps) ∧ ∀ e, HO.ins C d fs ≠ .ext e := ⟨fun _ z => (nomatch z), fun _ z => (nomatch z)⟩
/-- a new object, owned or not -/
theorem Mv.new {T : List (Addr × Str)} {O : Addr → Prop} {H : Hp} {a : Addr} {o : HO} (ha : H a = none) : Mv T O O H (L2.upd H a o) :=
  Mv.same fun b v h => by rw [upd_ne (ne_of_none h ha)]; exact h
theorem same_new {H : Hp} {a : Addr} {o : HO} (ha : H a = none) : Same H (L2.upd H a o) := fun b v h => by rw [upd_ne (ne_of_none h ha)]; exact h
/-- what is owned may be told otherwise, as long as what was not owned and stood is not owned now -/
theorem Mv.own {T : List (Addr × Str)} {O O' O'' : Addr → Prop} {H H' : Hp} (m : Mv T O O' H H') (h : ∀ b, O'' b → O b ∨ H b = none) : Mv T O O'' H H' :=
  ⟨fun b o e n t => ⟨(m.kp b o e n t).1, fun z => (h b z).elim n fun q => by rw [q] at e; cases e⟩, m.tb⟩
theorem dget_of {H : Hp} {a : Addr} {kvs : List (Key × V)} {n : Int} {o : Option V} (h : H a = some (.dK kvs)) (e : valV kvs (Sum.inl n) = o) : DGet H a (.int n) o := by
  subst e
  exact DGet.k (k := Sum.inl n) h
/-! ### the store -/
abbrev sfl (r e : Int) (w d : Addr) (l : Int) : List (Str × V) := [("room", .int r), ("entries", .int e), ("words", .ref w), ("_places", .ref d), ("_least", .int l)]
abbrev kvP (pl : List (Int × Int)) : List (Key × V) := pl.map fun p => ((Sum.inl p.1 : Key), V.int p.2)
structure StoreAt (CS : Addr) (H : Hp) (p w d : Addr) (S : SSt) : Prop where
  ob : ∃ dx, H p = some (.ins CS dx (sfl S.room S.ents w d S.least))
  ws : H w = some (.lst ((flat S.objs).map V.int))
  pc : H d = some (.dK (kvP S.pl))
def own3 (p w d : Addr) : Addr → Prop := fun b => b = p ∨ b = w ∨ b = d
theorem StoreAt.same {CS : Addr} {H H' : Hp} {p w d : Addr} {S : SSt} (A : StoreAt CS H p w d S) (e : Same H H') : StoreAt CS H' p w d S :=
  ⟨let ⟨dx, h⟩ := A.ob; ⟨dx, e _ _ h⟩, e _ _ A.ws, e _ _ A.pc⟩
theorem StoreAt.mv {T : List (Addr × Str)} {O O' : Addr → Prop} {CS : Addr} {H H' : Hp} {p w d : Addr} {S : SSt} (A : StoreAt CS H p w d S) (m : Mv T O O' H H') (n : ∀ b, own3 p w d b → ¬ O b) : StoreAt CS H' p w d S :=
  ⟨let ⟨dx, h⟩ := A.ob; ⟨dx, (m.kp _ _ h (n _ (.inl rfl)) (fun _ z => nomatch z)).1⟩, (m.kp _ _ A.ws (n _ (.inr (.inl rfl))) (fun _ z => nomatch z)).1, (m.kp _ _ A.pc (n _ (.inr (.inr rfl))) (fun _ z => nomatch z)).1⟩
theorem valP : ∀ {pl : List (Int × Int)} {n : Int}, (valV (kvP pl) (Sum.inl n)).isSome = decide (n ∈ pl.map (·.1))
  | [], n => by simp [kvP, valV]
  | p :: r, n => by
    by_cases e : p.1 = n
    · show (valV ((Sum.inl p.1, V.int p.2) :: kvP r) (Sum.inl n)).isSome = _
      rw [valV_pos (by rw [e])]
      simp [e]
    · show (valV ((Sum.inl p.1, V.int p.2) :: kvP r) (Sum.inl n)).isSome = _
      rw [valV_neg (fun z => e (Sum.inl.inj z)), valP]
      have e' : ¬ n = p.1 := fun z => e z.symm
      simp [e']
theorem valP_some {pl : List (Int × Int)} {n p : Int} (nd : (pl.map (·.1)).Nodup) (h : (n, p) ∈ pl) : valV (kvP pl) (Sum.inl n) = some (V.int p) := valV_pairs nd (n, p) h
theorem valP_none {pl : List (Int × Int)} {n : Int} (h : ¬ n ∈ pl.map (·.1)) : valV (kvP pl) (Sum.inl n) = none := by
  have e := valP (pl := pl) (n := n)
  rw [decide_eq_false h] at e
  cases q : valV (kvP pl) (Sum.inl n) with
  | none => rfl
  | some v => rw [q] at e; cases e
theorem dropP (pl : List (Int × Int)) (n : Int) : dropK (kvP pl) (Sum.inl n) = kvP (pl.filter fun x => decide (x.1 ≠ n)) := by
  induction pl with
  | nil => rfl
  | cons p r ih =>
    by_cases e : p.1 = n
    · show dropK ((Sum.inl p.1, V.int p.2) :: kvP r) _ = _
      rw [dropK_pos (by rw [e]), ih, List.filter_cons, if_neg (by simp [e])]
    · show dropK ((Sum.inl p.1, V.int p.2) :: kvP r) _ = _
      rw [dropK_neg (fun z => e (Sum.inl.inj z)), ih, List.filter_cons, if_pos (by simp [e])]
      rfl
theorem cut_nat {xs : List V} {lo hi : Nat} (h1 : lo ≤ hi) (h2 : hi ≤ xs.length) : cutV xs (some (lo : Int)) (some (hi : Int)) = (xs.drop lo).take (hi - lo) := by
  unfold cutV
  rw [HT.sIx_nat, HT.sIx_nat, Nat.min_eq_left h2, Nat.min_eq_left (by omega)]
theorem map_int {xs : List Int} {i : Nat} {v : Int} (h : xs[i]? = some v) : (xs.map V.int)[i]? = some (V.int v) := by rw [List.getElem?_map, h]; rfl
structure TStoreC (K : Frag) (CS : Addr) : Prop where
  cl : Cls K CS
  room : NoAttr K CS "room"
  entries : NoAttr K CS "entries"
  words : NoAttr K CS "words"
  places : NoAttr K CS "_places"
  least : NoAttr K CS "_least"
/-- the module's constants -/
structure TxC (mg : Str → Option Value) : Prop extends TxN mg where
  NIL : ∃ t, mg "NIL" = some (.int 0 t)
  HEADER : ∃ t, mg "HEADER" = some (.int 3 t)
  ROOTS : ∃ t, mg "ROOTS" = some (.int 16 t)
/-! ### words -/
def spIsRef : Sp := fun vs H Q _ => ∃ n, vs = [.int n] ∧ Q (.bl (decide (n % 2 = 0))) H
theorem sc_is_ref : FnScope ["word"] ["word"] (defScope (top 9)) := ⟨rfl, rfl, rfl, by decide +kernel, rfl, by decide +kernel, by decide +kernel⟩
theorem ok_is_ref {f : Addr} {fd : FuncData} (F : Fun K "is_ref" "is_ref" (top 9) f fd)  : FnB P w K mg base 1 f fd ["word"] spIsRef := by
  refine okB F sc_is_ref (fun vs H Q E h => ?_) (fun cdv A outer s H vs Q E o hr cool h => ?_)
  · obtain ⟨n, rfl, q⟩ := h
    rfl
  · obtain ⟨n, rfl, q⟩ := h
    have hu := huH hr
    refine ⟨_, (pss_one (ps_ret (pe_cmpR op_eq (pe_op op_mod (pv 0) pe_int) pe_int (nomark _)))), ?_⟩
    refine ⟨_, rfl, _, _, rfl, rfl, (by show (0 : Int) < 2; decide), rfl, ?_⟩
    have e : decide (V.int (n % 2) = V.int 0) = decide (n % 2 = 0) := by rw [dec_int]; rfl
    show Q (.bl (decide (V.int (n % 2) = V.int 0))) H
    rw [e]
    exact q
def spRefOf : Sp := fun vs H Q _ => ∃ n, vs = [.int n] ∧ n % 2 = 0 ∧ Q (.int (n / 2)) H
theorem sc_ref_of : FnScope ["word"] ["word"] (defScope (top 10)) := ⟨rfl, rfl, rfl, by decide +kernel, rfl, by decide +kernel, by decide +kernel⟩
theorem ok_ref_of {f : Addr} {fd : FuncData} (F : Fun K "ref_of" "ref_of" (top 10) f fd) (G_is_ref : GB P w K mg base 1 "is_ref" ["word"] spIsRef) : FnB P w K mg base 2 f fd ["word"] spRefOf := by
  refine okB F sc_ref_of (fun vs H Q E h => ?_) (fun cdv A outer s H vs Q E o hr cool h => ?_)
  · obtain ⟨n, rfl, hn, q⟩ := h
    rfl
  · obtain ⟨n, rfl, hn, q⟩ := h
    have hu := huH hr
    refine ⟨_, (pss_cons (ps_if (pt_not (pt_val (pe_gb G_is_ref (hr.mono (by decide)) cool (pa_cons (pv 0) pa_nil))))
      (pss_one ps_never) pss_nil)
    (pss_one (ps_ret (pe_op op_fdiv (pv 0) pe_int)))), ?_⟩
    refine ⟨_, rfl, n, rfl, _, rfl, ?_⟩
    rw [decide_eq_true hn]
    exact ⟨_, rfl, _, _, rfl, rfl, ⟨by decide, by decide⟩, q⟩
/-! ### the store's methods -/
def spUsed (CS : Addr) : Sp := fun vs H Q _ => ∃ p wd pd S, vs = [.ref p] ∧ StoreAt CS H p wd pd S ∧ Q (.int ((flat S.objs).length : Nat)) H
theorem sc_Store_used : FnScope ["self"] ["self"] (defScope (inClass (top 18) 1)) := ⟨rfl, rfl, rfl, by decide +kernel, rfl, by decide +kernel, by decide +kernel⟩
theorem ok_Store_used {f : Addr} {fd : FuncData} (F : Fun K "used" "Store.used" (inClass (top 18) 1) f fd) {CS : Addr} (TStore : TStoreC K CS) (T : TxC mg) : FnB P w K mg base 1 f fd ["self"] (spUsed CS) := by
  refine okB F sc_Store_used (fun vs H Q E h => ?_) (fun cdv A outer s H vs Q E o hr cool h => ?_)
  · obtain ⟨p, wd, pd, S, rfl, _⟩ := h
    rfl
  · obtain ⟨p, wd, pd, S, rfl, SA, q⟩ := h
    have hu := huH hr
    refine ⟨_, (pss_one (ps_ret (pe_callB call_len_seq (by rfl) T.len PySem.boot_len (pa_cons (pe_fld (pv 0) rfl) pa_nil)))), ?_⟩
    obtain ⟨⟨dx, ob⟩, ws, pc⟩ := SA
    refine ⟨_, rfl, p, CS, _, _, _, rfl, ob, TStore.cl, TStore.words, rfl, wd, _, rfl, .inl (SqL.of ws), ?_⟩
    rw [List.length_map]
    exact q
def spExists (CS : Addr) : Sp := fun vs H Q _ => ∃ p wd pd S n, vs = [.ref p, .int n] ∧ StoreAt CS H p wd pd S ∧ Q (.bl (decide (S.live n))) H
theorem sc_Store_exists : FnScope ["self", "number"] ["self", "number"] (defScope (inClass (top 18) 2)) := ⟨rfl, rfl, rfl, by decide +kernel, rfl, by decide +kernel, by decide +kernel⟩
theorem ok_Store_exists {f : Addr} {fd : FuncData} (F : Fun K "exists" "Store.exists" (inClass (top 18) 2) f fd) {CS : Addr} (TStore : TStoreC K CS) : FnB P w K mg base 1 f fd ["self", "number"] (spExists CS) := by
  refine okB F sc_Store_exists (fun vs H Q E h => ?_) (fun cdv A outer s H vs Q E o hr cool h => ?_)
  · obtain ⟨p, wd, pd, S, n, rfl, _⟩ := h
    rfl
  · obtain ⟨p, wd, pd, S, n, rfl, SA, q⟩ := h
    have hu := huH hr
    refine ⟨_, (pss_one (ps_ret (pe_cmp (pc_din hu (pv 1) (pe_fld (pv 0) rfl)) rfl))), ?_⟩
    obtain ⟨⟨dx, ob⟩, ws, pc⟩ := SA
    refine ⟨_, rfl, _, rfl, p, CS, _, _, _, rfl, ob, TStore.cl, TStore.places, rfl, pd, _, rfl, DGet.k (k := Sum.inl n) pc, ?_⟩
    rw [valP]
    exact q
def spNumbers (CS : Addr) : Sp := fun vs H Q _ => ∃ p wd pd S, vs = [.ref p] ∧ StoreAt CS H p wd pd S ∧
  ∀ (ys : List Int) (a : Addr), ys.Perm (S.pl.map (·.1)) → ys.Pairwise (· ≤ ·) → H a = none → Q (.ref a) (upd H a (.lst (ys.map V.int)))
theorem sc_Store_numbers : FnScope ["self"] ["self"] (defScope (inClass (top 18) 3)) := ⟨rfl, rfl, rfl, by decide +kernel, rfl, by decide +kernel, by decide +kernel⟩
theorem ok_Store_numbers {f : Addr} {fd : FuncData} (F : Fun K "numbers" "Store.numbers" (inClass (top 18) 3) f fd) {CS : Addr} (TStore : TStoreC K CS) (T : TxC mg) : FnB P w K mg base 1 f fd ["self"] (spNumbers CS) := by
  refine okB F sc_Store_numbers (fun vs H Q E h => ?_) (fun cdv A outer s H vs Q E o hr cool h => ?_)
  · obtain ⟨p, wd, pd, S, rfl, _⟩ := h
    rfl
  · obtain ⟨p, wd, pd, S, rfl, SA, q⟩ := h
    have hu := huH hr
    refine ⟨_, (pss_one (ps_ret (pe_callB (call_sortD cool) (by rfl) T.sorted (by decide +kernel) (pa_cons (pe_fld (pv 0) rfl) pa_nil)))), ?_⟩
    obtain ⟨⟨dx, ob⟩, ws, pc⟩ := SA
    refine ⟨_, rfl, p, CS, _, _, _, rfl, ob, TStore.cl, TStore.places, rfl, pd, _, S.pl.map (·.1), rfl, .inl pc, ?_, fun ys a h1 h2 h3 => q ys a h1 h2 h3⟩
    rw [kvP, List.map_map, List.map_map]
    rfl
def spSize (CS : Addr) : Sp := fun vs H Q _ => ∃ p wd pd S n o, vs = [.ref p, .int n] ∧ StoreAt CS H p wd pd S ∧ Lay S ∧ S.ob n o ∧ Q (.int (o.slots.length : Nat)) H
def spKind (CS : Addr) : Sp := fun vs H Q _ => ∃ p wd pd S n o, vs = [.ref p, .int n] ∧ StoreAt CS H p wd pd S ∧ Lay S ∧ S.ob n o ∧ Q (.int o.kind) H
def spSlots (CS : Addr) : Sp := fun vs H Q _ => ∃ p wd pd S n o, vs = [.ref p, .int n] ∧ StoreAt CS H p wd pd S ∧ Lay S ∧ S.ob n o ∧ ∀ a, H a = none → Q (.ref a) (upd H a (.lst (o.slots.map V.int)))
theorem sc_Store_size : FnScope ["self", "number"] ["self", "number"] (defScope (inClass (top 18) 6)) := ⟨rfl, rfl, rfl, by decide +kernel, rfl, by decide +kernel, by decide +kernel⟩
theorem ok_Store_size {f : Addr} {fd : FuncData} (F : Fun K "size" "Store.size" (inClass (top 18) 6) f fd) {CS : Addr} (TStore : TStoreC K CS) : FnB P w K mg base 1 f fd ["self", "number"] (spSize CS) := by
  refine okB F sc_Store_size (fun vs H Q E h => ?_) (fun cdv A outer s H vs Q E o hr cool h => ?_)
  · obtain ⟨p, wd, pd, S, n, o1, rfl, _⟩ := h
    rfl
  · obtain ⟨p, wd, pd, S, n, o1, rfl, SA, L, ho, q⟩ := h
    have hu := huH hr
    refine ⟨_, (pss_one (ps_ret (pe_ix ix_list (pe_fld (pv 0) rfl) (pe_op op_add (pe_dget hu (pe_fld (pv 0) rfl) (pv 1) (fun _ _ => rfl)) pe_int) (fun _ _ => rfl)))), ?_⟩
    obtain ⟨⟨dx, ob⟩, ws, pc⟩ := SA
    obtain ⟨pre, post, e, hp⟩ := L.place ho
    refine ⟨_, rfl, p, CS, _, _, _, rfl, ob, TStore.cl, TStore.words, rfl, _, rfl, p, CS, _, _, _, rfl, ob, TStore.cl, TStore.places, rfl, _, rfl, pd, _, rfl, dget_of pc (valP_some L.ndp hp), _, _, rfl, rfl, wd, _, _, _, rfl, rfl, SqL.of ws, atI_nat (j := (flat pre).length + 1) (map_int (by rw [e]; exact at_size pre post o1)), ?_⟩
    exact q
theorem sc_Store_kind : FnScope ["self", "number"] ["self", "number"] (defScope (inClass (top 18) 7)) := ⟨rfl, rfl, rfl, by decide +kernel, rfl, by decide +kernel, by decide +kernel⟩
theorem ok_Store_kind {f : Addr} {fd : FuncData} (F : Fun K "kind" "Store.kind" (inClass (top 18) 7) f fd) {CS : Addr} (TStore : TStoreC K CS) : FnB P w K mg base 1 f fd ["self", "number"] (spKind CS) := by
  refine okB F sc_Store_kind (fun vs H Q E h => ?_) (fun cdv A outer s H vs Q E o hr cool h => ?_)
  · obtain ⟨p, wd, pd, S, n, o1, rfl, _⟩ := h
    rfl
  · obtain ⟨p, wd, pd, S, n, o1, rfl, SA, L, ho, q⟩ := h
    have hu := huH hr
    refine ⟨_, (pss_one (ps_ret (pe_ix ix_list (pe_fld (pv 0) rfl) (pe_op op_add (pe_dget hu (pe_fld (pv 0) rfl) (pv 1) (fun _ _ => rfl)) pe_int) (fun _ _ => rfl)))), ?_⟩
    obtain ⟨⟨dx, ob⟩, ws, pc⟩ := SA
    obtain ⟨pre, post, e, hp⟩ := L.place ho
    refine ⟨_, rfl, p, CS, _, _, _, rfl, ob, TStore.cl, TStore.words, rfl, _, rfl, p, CS, _, _, _, rfl, ob, TStore.cl, TStore.places, rfl, _, rfl, pd, _, rfl, dget_of pc (valP_some L.ndp hp), _, _, rfl, rfl, wd, _, _, _, rfl, rfl, SqL.of ws, atI_nat (j := (flat pre).length + 2) (map_int (by rw [e]; exact at_kind pre post o1)), ?_⟩
    exact q
theorem sc_Store_slots : FnScope ["self", "number", "place"] ["self", "number"] (defScope (inClass (top 18) 11)) := ⟨rfl, rfl, rfl, by decide +kernel, rfl, by decide +kernel, by decide +kernel⟩
theorem ok_Store_slots {f : Addr} {fd : FuncData} (F : Fun K "slots" "Store.slots" (inClass (top 18) 11) f fd) {CS : Addr} (TStore : TStoreC K CS) (T : TxC mg) (M_Store_size : MB P w K mg base 1 CS "size" ["self", "number"] (spSize CS)) : FnB P w K mg base 2 f fd ["self", "number"] (spSlots CS) := by
  refine okB F sc_Store_slots (fun vs H Q E h => ?_) (fun cdv A outer s H vs Q E o hr cool h => ?_)
  · obtain ⟨p, wd, pd, S, n, o1, rfl, _⟩ := h
    rfl
  · obtain ⟨p, wd, pd, S, n, o1, rfl, SA, L, ho, q⟩ := h
    have hu := huH hr
    refine ⟨_, (pss_cons (ps_set (i := 2) sc_Store_slots.nd rfl (Or.inl rfl) (pe_op op_add (pe_dget hu (pe_fld (pv 0) rfl) (pv 1) (fun _ _ => rfl)) (pe_glob (v := .int 3) rfl T.HEADER.choose_spec ⟨_, rfl⟩)))
    (pss_one (ps_ret (pe_slice sl_list (pe_fld (pv 0) rfl) (po_some (pv 2)) (po_some (pe_op op_add (pv 2) (pe_mbb (pv 0) TStore.cl M_Store_size (hr.mono (by decide)) cool (pa_cons (pv 1) pa_nil)))))))), ?_⟩
    obtain ⟨⟨dx, ob⟩, ws, pc⟩ := id SA
    obtain ⟨pre, post, e, hp⟩ := L.place ho
    refine ⟨_, rfl, p, CS, _, _, _, rfl, ob, TStore.cl, TStore.places, rfl, _, rfl, pd, _, rfl, dget_of pc (valP_some L.ndp hp), _, _, rfl, rfl, ?_⟩
    refine ⟨_, rfl, p, CS, _, _, _, rfl, ob, TStore.cl, TStore.words, rfl, _, rfl, _, rfl, _, rfl, _, rfl, p, _, _, rfl, ob, rfl, _, rfl, p, wd, pd, S, n, o1, rfl, SA, L, ho, _, _, rfl, rfl, _, rfl, wd, _, rfl, SqL.of ws, fun a ha => ?_⟩
    show Q (.ref a) (upd H a (.lst (cutV ((flat S.objs).map V.int) (some (((flat pre).length : Int) + 3)) (some (((flat pre).length : Int) + 3 + (o1.slots.length : Int))))))
    rw [show (((flat pre).length : Int) + 3) = (((flat pre).length + 3 : Nat) : Int) by omega, show ((((flat pre).length + 3 : Nat) : Int) + (o1.slots.length : Int)) = (((flat pre).length + 3 + o1.slots.length : Nat) : Int) by omega,
      cut_nat (by omega) (by rw [List.length_map, e, len_split]; omega), Nat.add_sub_cancel_left, ← List.map_drop, ← List.map_take, e, at_slots]
    exact q a ha
def spDropS (T : List (Addr × Str)) (CS : Addr) : Sp := fun vs H Q _ => ∃ p wd pd S n, vs = [.ref p, .int n] ∧ StoreAt CS H p wd pd S ∧ S.live n ∧
  ∀ H', StoreAt CS H' p wd pd { S with pl := S.pl.filter (fun x => decide (x.1 ≠ n)), least := if n < S.least then n else S.least } → Mv T (own3 p wd pd) (own3 p wd pd) H H' → Q .non H'
theorem sc_Store_drop : FnScope ["self", "number"] ["self", "number"] (defScope (inClass (top 18) 12)) := ⟨rfl, rfl, rfl, by decide +kernel, rfl, by decide +kernel, by decide +kernel⟩
theorem ok_Store_drop {f : Addr} {fd : FuncData} (F : Fun K "drop" "Store.drop" (inClass (top 18) 12) f fd) {Tb : List (Addr × Str)} {CS : Addr} (TStore : TStoreC K CS) (T : TxC mg) : FnB P w K mg base 1 f fd ["self", "number"] (spDropS Tb CS) := by
  refine okB F sc_Store_drop (fun vs H Q E h => ?_) (fun cdv A outer s H vs Q E o hr cool h => ?_)
  · obtain ⟨p, wd, pd, S, n, rfl, _⟩ := h
    rfl
  · obtain ⟨p, wd, pd, S, n, rfl, SA, hl, q⟩ := h
    have hu := huH hr
    refine ⟨_, (pss_cons (ps_ddel (pe_fld (pv 0) rfl) (pv 1))
    (pss_one (ps_fld (pv 0) (pe_callB (call_min2C cool) (by rfl) T.min (by decide +kernel) (pa_cons (pe_fld (pv 0) rfl) (pa_cons (pv 1) pa_nil))) rfl))), ?_⟩
    obtain ⟨⟨dx, ob⟩, ws, pc⟩ := SA
    have npd : p ≠ pd := ne_of ob pc (fun z => nomatch z)
    have npw : p ≠ wd := ne_of ob ws (fun z => nomatch z)
    have nwd : wd ≠ pd := ne_of ws pc (fun z => nomatch z)
    have ob2 : ∀ o, (upd H pd o) p = some (.ins CS dx (sfl S.room S.ents wd pd S.least)) := fun o => by rw [upd_ne npd]; exact ob
    refine ⟨_, rfl, p, CS, _, _, _, rfl, ob, TStore.cl, TStore.places, rfl, _, rfl, pd, _, Sum.inl n, rfl, pc, rfl, by rw [valP]; exact decide_eq_true hl, ?_⟩
    refine ⟨_, rfl, p, CS, _, _, _, rfl, ob2 _, TStore.cl, TStore.least, rfl, _, rfl, _, _, rfl, ?_⟩
    refine ⟨_, rfl, p, CS, dx, _, rfl, ob2 _, TStore.cl, TStore.least, (by show 5 < 1000; decide), ?_⟩
    rw [dropP]
    refine q _ ⟨⟨dx, upd_same⟩, ?_, ?_⟩ ?_
    · rw [upd_ne npw.symm, upd_ne nwd]; exact ws
    · rw [upd_ne npd.symm, upd_same]
    · exact (Mv.upd pc nt_dK (.inr (.inr rfl))).trans (Mv.upd (ob2 _) nt_ins (.inl rfl))
end
end Sg

/-! SgM2: what is reached, as plain data. -/
namespace Sg
open PySem L2
inductive Reach (S : SSt) (ws : List Int) : Int → Prop
  | root {v : Int} : v ∈ ws → v % 2 = 0 → S.live (v / 2) → Reach S ws (v / 2)
  | step {n : Int} {o : Ob} {v : Int} : Reach S ws n → S.ob n o → v ∈ o.kind :: o.slots → v % 2 = 0 → S.live (v / 2) → Reach S ws (v / 2)
theorem Reach.live {S : SSt} {ws : List Int} {n : Int} (h : Reach S ws n) : S.live n := by cases h <;> assumption
/-- the walk's invariant: ks found, ps waiting; behind n's first i words -/
structure RIn (S : SSt) (ws ks ps : List Int) (n : Option Int) (row : List Int) (i : Nat) : Prop where
  nd : ks.Nodup
  snd : ∀ m ∈ ks, Reach S ws m
  wt : ∀ p ∈ ps, S.live p → Reach S ws p
  rt : ∀ v ∈ ws, v % 2 = 0 → S.live (v / 2) → v / 2 ∈ ks ∨ v / 2 ∈ ps
  cl : ∀ m ∈ ks, n ≠ some m → ∀ o, S.ob m o → ∀ v ∈ o.kind :: o.slots, v % 2 = 0 → S.live (v / 2) → v / 2 ∈ ks ∨ v / 2 ∈ ps
  cn : ∀ v ∈ row.take i, v % 2 = 0 → S.live (v / 2) → v / 2 ∈ ks ∨ v / 2 ∈ ps
theorem RIn.done {S : SSt} {ws ks : List Int} (h : RIn S ws ks [] none [] 0) (L : Lay S) : ∀ n, n ∈ ks ↔ Reach S ws n := fun n => by
  refine ⟨h.snd n, fun r => ?_⟩
  induction r with
  | root a b c => exact (h.rt _ a b c).resolve_right (by simp)
  | step a b c d e ih => exact (h.cl _ ih (by simp) _ b _ c d e).resolve_right (by simp)
/-- the walk starts -/
def evens (ws : List Int) : List Int := (ws.filter fun v => decide (v % 2 = 0)).map (· / 2)
theorem mem_evens {ws : List Int} {n : Int} : n ∈ evens ws ↔ ∃ v ∈ ws, v % 2 = 0 ∧ v / 2 = n := by simp [evens, and_assoc]
theorem evens_app (a b : List Int) : evens (a ++ b) = evens a ++ evens b := by simp [evens]
theorem RIn.start {S : SSt} {ws : List Int} : RIn S ws [] (evens ws) none [] 0 := by
  refine ⟨List.nodup_nil, by simp, fun p hp l => ?_, fun v h1 h2 _ => .inr (mem_evens.mpr ⟨v, h1, h2, rfl⟩), by simp, by simp⟩
  obtain ⟨v, h1, h2, rfl⟩ := mem_evens.mp hp
  exact .root h1 h2 l
theorem RIn.skip {S : SSt} {ws ks ps : List Int} {p : Int} (h : RIn S ws ks (ps ++ [p]) none [] 0) (hp : p ∈ ks ∨ ¬ S.live p) : RIn S ws ks ps none [] 0 := by
  have go : ∀ q, S.live q → q ∈ ks ∨ q ∈ ps ++ [p] → q ∈ ks ∨ q ∈ ps := fun q l z => by
    rcases z with z | z
    · exact .inl z
    · rcases List.mem_append.mp z with z | z
      · exact .inr z
      · rw [List.mem_singleton] at z
        subst z
        exact .inl (hp.resolve_right fun y => y l)
  exact ⟨h.nd, h.snd, fun q hq => h.wt q (List.mem_append_left _ hq), fun v a b c => go _ c (h.rt v a b c), fun m a b o d v e f l => go _ l (h.cl m a b o d v e f l), fun v a => by simp at a⟩
theorem RIn.enter {S : SSt} {ws ks ps : List Int} {p : Int} {o : Ob} (h : RIn S ws ks (ps ++ [p]) none [] 0) (hp : p ∉ ks) (ho : S.ob p o) : RIn S ws (ks ++ [p]) ps (some p) (o.kind :: o.slots) 0 := by
  have hr : Reach S ws p := h.wt p (by simp) ho.2.2
  have go : ∀ q, q ∈ ks ∨ q ∈ ps ++ [p] → q ∈ ks ++ [p] ∨ q ∈ ps := fun q z => by
    rcases z with z | z
    · exact .inl (List.mem_append_left _ z)
    · rcases List.mem_append.mp z with z | z
      · exact .inr z
      · exact .inl (List.mem_append_right _ z)
  refine ⟨?_, fun m hm => ?_, fun q hq => h.wt q (List.mem_append_left _ hq), fun v a b c => go _ (h.rt v a b c), fun m hm hne o' d v e f l => ?_, fun v a => by simp at a⟩
  · rw [List.nodup_append]
    refine ⟨h.nd, by simp, fun a ha b hb e => ?_⟩
    rw [List.mem_singleton] at hb
    exact hp (by rw [← hb, ← e]; exact ha)
  · rcases List.mem_append.mp hm with z | z
    · exact h.snd m z
    · rw [List.mem_singleton] at z
      subst z
      exact hr
  · rcases List.mem_append.mp hm with z | z
    · exact go _ (h.cl m z (by simp) o' d v e f l)
    · rw [List.mem_singleton] at z
      subst z
      exact absurd rfl hne
theorem RIn.turn {S : SSt} {ws ks ps : List Int} {p : Int} {row : List Int} {i : Nat} {v : Int} (h : RIn S ws ks ps (some p) row i) (hv : row[i]? = some v) (hr : Reach S ws p) {o : Ob} (ho : S.ob p o) (hrow : row = o.kind :: o.slots) :
    (v % 2 = 0 → v / 2 ∉ ks → RIn S ws ks (ps ++ [v / 2]) (some p) row (i + 1)) ∧ (¬ (v % 2 = 0 ∧ v / 2 ∉ ks) → RIn S ws ks ps (some p) row (i + 1)) := by
  have ht : row.take (i + 1) = row.take i ++ [v] := by rw [List.take_add_one, hv]; rfl
  have hm : v ∈ row := List.mem_of_getElem? hv
  refine ⟨fun h1 h2 => ?_, fun h1 => ?_⟩
  · have go : ∀ q, q ∈ ks ∨ q ∈ ps → q ∈ ks ∨ q ∈ ps ++ [v / 2] := fun q z => z.imp id fun y => List.mem_append_left _ y
    refine ⟨h.nd, h.snd, fun q hq l => ?_, fun v a b c => go _ (h.rt v a b c), fun m a b o d v e f l => go _ (h.cl m a b o d v e f l), fun u a b c => ?_⟩
    · rcases List.mem_append.mp hq with z | z
      · exact h.wt q z l
      · rw [List.mem_singleton] at z
        subst z
        exact .step hr ho (hrow ▸ hm) h1 l
    · rw [ht] at a
      rcases List.mem_append.mp a with z | z
      · exact go _ (h.cn u z b c)
      · rw [List.mem_singleton] at z
        subst z
        exact .inr (by simp)
  · refine ⟨h.nd, h.snd, h.wt, h.rt, h.cl, fun u a b c => ?_⟩
    rw [ht] at a
    rcases List.mem_append.mp a with z | z
    · exact h.cn u z b c
    · rw [List.mem_singleton] at z
      subst z
      exact .inl (Classical.byContradiction fun z => h1 ⟨b, z⟩)
theorem RIn.leave {S : SSt} {ws ks ps : List Int} {p : Int} {o : Ob} (L : Lay S) (h : RIn S ws ks ps (some p) (o.kind :: o.slots) (o.kind :: o.slots).length) (ho : S.ob p o) : RIn S ws ks ps none [] 0 := by
  refine ⟨h.nd, h.snd, h.wt, h.rt, fun m a _ o' d v e f l => ?_, by simp⟩
  by_cases c : m = p
  · subst c
    obtain rfl := SSt.ob_uniq L d ho
    exact h.cn v (by rw [List.take_length]; exact e) f l
  · exact h.cl m a (fun z => c (Option.some.inj z).symm) o' d v e f l
/-- the measure -/
def rmu (S : SSt) (ks ps : List Int) : Nat := ps.length + ((S.objs.filter fun o => decide (o.num ∉ ks)).map fun o => o.slots.length + 2).sum
theorem sum_drop : ∀ {l : List Ob} {ks : List Int} {o : Ob}, o ∈ l → (l.map Ob.num).Nodup → o.num ∉ ks →
    ((l.filter fun o => decide (o.num ∉ ks)).map fun o => o.slots.length + 2).sum = ((l.filter fun x => decide (x.num ∉ ks ++ [o.num])).map fun o => o.slots.length + 2).sum + (o.slots.length + 2)
  | [], _, _, h, _, _ => by cases h
  | x :: l, ks, o, h, nd, hk => by
    obtain ⟨n1, n2⟩ := List.nodup_cons.mp (show (x.num :: l.map Ob.num).Nodup from nd)
    rcases List.mem_cons.mp h with e | h
    · subst e
      have e2 : (l.filter fun y => decide (y.num ∉ ks ++ [o.num])) = l.filter fun y => decide (y.num ∉ ks) := by
        refine List.filter_congr fun y hy => ?_
        have : y.num ≠ o.num := fun z => n1 (List.mem_map.mpr ⟨y, hy, z⟩)
        simp [this]
      rw [List.filter_cons, if_pos (by simp [hk]), List.filter_cons, if_neg (by simp), e2, List.map_cons, List.sum_cons]
      omega
    · have ne : x.num ≠ o.num := fun z => n1 (List.mem_map.mpr ⟨o, h, z.symm⟩)
      have ih := sum_drop h n2 hk
      by_cases c : x.num ∈ ks
      · rw [List.filter_cons, if_neg (by simp [c]), List.filter_cons, if_neg (by simp [c])]
        exact ih
      · rw [List.filter_cons, if_pos (by simp [c]), List.filter_cons, if_pos (by simp [c, ne]), List.map_cons, List.map_cons, List.sum_cons, List.sum_cons, ih]
        omega
theorem rmu_enter {S : SSt} {ks ps ps' : List Int} {p : Int} {o : Ob} (L : Lay S) (ho : S.ob p o) (hp : p ∉ ks) (hl : ps'.length ≤ ps.length + (o.kind :: o.slots).length) : rmu S (ks ++ [p]) ps' < rmu S ks (ps ++ [p]) := by
  unfold rmu
  obtain ⟨h1, h2, _⟩ := ho
  subst h2
  rw [sum_drop h1 L.nd hp, List.length_append]
  simp only [List.length_cons, List.length_nil] at *
  omega
theorem rmu_skip {S : SSt} {ks ps : List Int} {p : Int} : rmu S ks ps < rmu S ks (ps ++ [p]) := by
  unfold rmu
  rw [List.length_append]
  simp only [List.length_cons, List.length_nil]
  omega
end Sg

/-! SgP2: reached. -/
namespace Sg
open PySem PySem.W PySem.Spec PyProof.Rows L2 L2H HotX
/-- while by an invariant that tells its measure -/
theorem while_m {c : TT} {tb : TS} {D : Ends} {σ : L2.St} {H : Hp} (Pv : Nat → L2.St → Hp → Prop) (h0 : ∃ m, Pv m σ H)
    (hs : ∀ m σ H, Pv m σ H → c σ H fun b H1 => if b = true then ∃ N, (∀ (σ' : L2.St) (H' : Hp), N σ' H' → ∃ m', m' < m ∧ Pv m' σ' H') ∧ tb { nx := N, rt := D.rt, bk := D.nx, ct := N } σ H1 else D.nx σ H1) : tWhile c tb D σ H := ⟨Pv, h0, hs⟩
theorem g_while {i : Nat} {v : V} {σ : L2.St} {H : Hp} {c : TT} {tb b : TS} {D : Ends} {r : VK} {bk ct : L2.St → Hp → Prop} (h : tWhile c tb { D with nx := b D } (σ.set i (some v)) H) : gName i v σ H (Ends.nx { nx := tSeq (tWhile c tb) b D, rt := r, bk := bk, ct := ct }) := h
abbrev kvT (ks : List Int) : List (Key × V) := ks.map fun k => ((Sum.inl k : Key), V.bl true)
theorem kvT_is {ks : List Int} {n : Int} : (valV (kvT ks) (Sum.inl n)).isSome = decide (n ∈ ks) := by
  have e : kvT ks = ks.map fun k => ((Sum.inl k : Key), V.bl true) := rfl
  induction ks with
  | nil => simp [kvT, valV]
  | cons k ks ih =>
    show (valV ((Sum.inl k, V.bl true) :: kvT ks) (Sum.inl n)).isSome = _
    by_cases c : k = n
    · rw [valV_pos (by rw [c])]
      simp [c]
    · rw [valV_neg (fun z => c (Sum.inl.inj z)), ih rfl]
      have c' : ¬ n = k := fun z => c z.symm
      simp [c']
theorem kvT_none {ks : List Int} {n : Int} (h : n ∉ ks) : valV (kvT ks) (Sum.inl n) = none := by
  have e := kvT_is (ks := ks) (n := n)
  rw [decide_eq_false h] at e
  cases q : valV (kvT ks) (Sum.inl n) with
  | none => rfl
  | some v => rw [q] at e; cases e
theorem evens_le (ws : List Int) : (evens ws).length ≤ ws.length := by unfold evens; rw [List.length_map]; exact List.length_filter_le _ _
theorem objs_le (l : List Ob) : 3 * l.length ≤ (flat l).length := by
  induction l with
  | nil => simp [flat]
  | cons o l ih => rw [flat_cons, List.length_append, Ob.flat_len, List.length_cons]; omega
theorem pl_le {S : SSt} (L : Lay S) : 3 * S.pl.length ≤ 100000 := by
  have h1 : S.pl.length ≤ (offs 0 S.objs).length := by
    have nd : S.pl.Nodup := (List.pairwise_map.mp L.ndp).imp fun h e => h (congrArg _ e)
    exact nd.length_le_of_subset fun x hx => L.sub x hx
  rw [offs_len] at h1
  have := objs_le S.objs
  have := L.fits
  have := L.lim
  omega
theorem ks_le {S : SSt} (L : Lay S) {ks : List Int} (nd : ks.Nodup) (h : ∀ m ∈ ks, S.live m) : 3 * ks.length ≤ 100000 := by
  have h1 : ks.length ≤ (S.pl.map (·.1)).length := nd.length_le_of_subset fun x hx => h x hx
  rw [List.length_map] at h1
  have := pl_le L
  omega
theorem sum_le (l : List Ob) (f : Ob → Bool) : ((l.filter f).map fun o => o.slots.length + 2).sum ≤ (flat l).length := by
  induction l with
  | nil => simp [flat]
  | cons o l ih =>
    rw [flat_cons, List.length_append, Ob.flat_len, List.filter_cons]
    split
    · rw [List.map_cons, List.sum_cons]
      omega
    · omega
theorem rmu_start {S : SSt} (L : Lay S) (ps : List Int) : rmu S [] ps ≤ ps.length + 100000 := by
  have h1 := sum_le S.objs fun o => decide (o.num ∉ ([] : List Int))
  have := L.fits
  have := L.lim
  unfold rmu
  omega
theorem rmu_le {S : SSt} {ks ps : List Int} : ps.length ≤ rmu S ks ps := Nat.le_add_right _ _
theorem ob_le {S : SSt} (L : Lay S) {n : Int} {o : Ob} (h : S.ob n o) : o.slots.length ≤ 100000 := by
  obtain ⟨pre, post, e, _⟩ := L.place h
  have h1 := len_split pre post o
  rw [← e] at h1
  have := L.fits
  have := L.lim
  omega
section
variable {P : Program} {w : World} {K : Frag} {mg : Str → Option Value} {base : Heap}
def spReached (CS : Addr) : Sp := fun vs H Q _ => ∃ p wd pd S r ws, vs = [.ref p, .ref r] ∧ StoreAt CS H p wd pd S ∧ Lay S ∧ H r = some (.lst (ws.map V.int)) ∧ ws.length ≤ 200000 ∧
  ∀ ks d H', ks.Nodup → (∀ n, n ∈ ks ↔ Reach S ws n) → Same H H' → H d = none → H' d = some (.dK (kvT ks)) → Q (.ref d) H'
theorem sc_reached : FnScope ["store", "roots", "found", "waiting", "number", "word"] ["store", "roots"] (defScope (top 12)) := ⟨rfl, rfl, rfl, by decide +kernel, rfl, by decide +kernel, by decide +kernel⟩
theorem ok_reached {f : Addr} {fd : FuncData} (F : Fun K "reached" "reached" (top 12) f fd) {CS : Addr} (TStore : TStoreC K CS) (G_is_ref : GB P w K mg base 1 "is_ref" ["word"] spIsRef) (G_ref_of : GB P w K mg base 2 "ref_of" ["word"] spRefOf) (M_Store_exists : MB P w K mg base 1 CS "exists" ["self", "number"] (spExists CS)) (M_Store_kind : MB P w K mg base 1 CS "kind" ["self", "number"] (spKind CS)) (M_Store_slots : MB P w K mg base 2 CS "slots" ["self", "number"] (spSlots CS)) : FnB P w K mg base 3 f fd ["store", "roots"] (spReached CS) := by
  refine okB F sc_reached (fun vs H Q E h => ?_) (fun cdv A outer s H vs Q E o hr cool h => ?_)
  · obtain ⟨p, wd, pd, S, r, ws, rfl, _⟩ := h
    rfl
  · obtain ⟨p, wd, pd, S, r, ws, rfl, SA, L, hr0, hlen, q⟩ := h
    have hu := huH hr
    refine ⟨_, (pss_cons (ps_set (i := 2) sc_reached.nd rfl (Or.inl rfl) pe_dnewK)
    (pss_cons (ps_setLcC (i := 3) (own := [("word", 5)]) (g := gName 5) cool sc_reached.nd rfl rfl (sw_true rfl rfl rfl (by decide +kernel)) (pv 1) (blkOk_by (own := [("word", 5)]) (N := ["store", "roots", "found", "waiting", "number", "word"]) (sc := defScope (top 12)) (by decide +kernel)) (fun _ _ _ _ _ _ c => pg_name (i := 5) sc_reached.nd rfl (Or.inl rfl)) (fun _ _ _ _ _ _ c => (pts_one (pt_val (pe_gb G_is_ref (hr.mono (by decide)) c (pa_cons (pv 5) pa_nil))))) (fun _ _ _ _ _ _ c => (pe_gb G_ref_of (hr.mono (by decide)) c (pa_cons (pv 5) pa_nil))))
    (pss_cons (ps_while PassesOwn.never (pt_truth (pv 3) (by intro _; rfl))
      (pss_cons (ps_set (i := 4) sc_reached.nd rfl (Or.inl rfl) (pe_bm0 PySem.F.plainAttrs_list PySem.F.slot_list_pop PySem.F.type_list_pop mt_pop (pv 3)))
      (pss_one (ps_if (PW.pt (pw_and (pt_cmp (pc_dnotin hu (pv 4) (pv 2))) (pw_and1 (pt_val (pe_mbb (pv 0) TStore.cl M_Store_exists (hr.mono (by decide)) cool (pa_cons (pv 4) pa_nil))))))
        (pss_cons (ps_dput hu (pv 2) (pv 4) pe_bl rfl)
        (pss_one (ps_forL PassesOwn.never cool (pe_op op_cat (pe_lst (pa_cons (pe_mbb (pv 0) TStore.cl M_Store_kind (hr.mono (by decide)) cool (pa_cons (pv 4) pa_nil)) pa_nil)) (pe_mbb (pv 0) TStore.cl M_Store_slots (hr.mono (by decide)) cool (pa_cons (pv 4) pa_nil))) (pg_name (i := 5) sc_reached.nd rfl (Or.inl rfl))
          (pss_one (ps_if (PW.pt (pw_and (pt_val (pe_gb G_is_ref (hr.mono (by decide)) cool (pa_cons (pv 5) pa_nil))) (pw_and1 (pt_cmp (pc_dnotin hu (pe_gb G_ref_of (hr.mono (by decide)) cool (pa_cons (pv 5) pa_nil)) (pv 2))))))
            (pss_one (ps_expr (pe_bm PySem.F.plainAttrs_list PySem.F.slot_list_append PySem.F.type_list_append mt_append (pv 3) (pa_cons (pe_gb G_ref_of (hr.mono (by decide)) cool (pa_cons (pv 5) pa_nil)) pa_nil)))) pss_nil))))) pss_nil))))
    (pss_one (ps_ret (pv 2)))))), ?_⟩
    -- found = {}
    intro d hd
    -- waiting = [..]
    refine ⟨_, rfl, r, rfl, ⟨_, SqL.of (by rw [upd_ne (ne_of_none hr0 hd)]; exact hr0)⟩, fun D hD => lc_list (K := K) (a := r) (xs := ws.map V.int) (fun i H1 => (∀ b o, (upd H d (.dK [])) b = some o → H1 b = some o) ∧ H1 D = some (.lst ((evens (ws.take i)).map V.int)))
      ⟨fun b o e => by rw [upd_ne (ne_of_none e hD)]; exact e, by rw [upd_same]; rfl⟩ (fun i H1 _ ⟨s1, _⟩ => SqL.of (s1 _ _ (by rw [upd_ne (ne_of_none hr0 hd)]; exact hr0))) ?_ ?_⟩
    · rintro i x H1 hi ⟨s1, h1⟩
      obtain ⟨v, hv, rfl⟩ : ∃ v, ws[i]? = some v ∧ x = V.int v := by
        rw [List.getElem?_map] at hi
        cases e : ws[i]? with
        | none => rw [e] at hi; cases hi
        | some z => rw [e] at hi; exact ⟨z, rfl, (Option.some.inj hi).symm⟩
      have ht : ws.take (i + 1) = ws.take i ++ [v] := by rw [List.take_add_one, hv]; rfl
      refine ⟨rfl, _, rfl, v, rfl, _, rfl, ?_⟩
      by_cases hv2 : v % 2 = 0
      · rw [decide_eq_true hv2]
        refine iteT ?_
        refine ⟨_, rfl, v, rfl, hv2, _, h1, ?_, fun b o e => ?_, ?_⟩
        · rw [List.length_map]
          refine Nat.lt_of_le_of_lt (Nat.le_trans (evens_le _) (List.length_take_le _ _)) ?_
          have := (List.getElem?_eq_some_iff.mp hv).1
          rw [sizeLine_eq]
          omega
        · rw [upd_ne (ne_of_none e hD)]
          exact s1 b o e
        · rw [upd_same, ht, evens_app, List.map_append, show evens [v] = [v / 2] by simp [evens, hv2]]
          rfl
      · rw [decide_eq_false hv2]
        refine iteF ?_
        refine ⟨s1, ?_⟩
        rw [ht, evens_app, show evens [v] = [] by simp [evens, hv2], List.append_nil]
        exact h1
    · rintro H1 ⟨s1, h1⟩
      rw [List.length_map, List.take_length] at h1
      have sH : Same H H1 := fun b o e => s1 b o (by rw [upd_ne (ne_of_none e hd)]; exact e)
      have hd1 : H1 d = some (.dK (kvT [])) := s1 _ _ upd_same
      have ndD : d ≠ D := fun z => by rw [← z, upd_same] at hD; cases hD
      have hD0 : H D = none := by rw [← hD, upd_ne ndD.symm]
      -- while waiting
      refine g_while ?_
      refine while_m (fun m σ H2 => ∃ ks ps n5 w5, σ = [some (.ref p), some (.ref r), some (.ref d), some (.ref D), n5, w5] ∧ Same H H2 ∧ H2 d = some (.dK (kvT ks)) ∧ H2 D = some (.lst (ps.map V.int)) ∧ RIn S ws ks ps none [] 0 ∧ rmu S ks ps ≤ 300000 ∧ m = rmu S ks ps)
        ⟨_, [], evens ws, none, none, rfl, sH, hd1, h1, .start, (by have := evens_le ws; have := rmu_start L (evens ws); omega), rfl⟩ ?_
      rintro m σ H2 ⟨ks, ps, n5, w5, rfl, s2, hd2, hD2, R, hsz, rfl⟩
      refine ⟨_, rfl, !(ps.map V.int).isEmpty, .inl ⟨_, SqL.of hD2, rfl⟩, ?_⟩
      rcases List.eq_nil_or_concat ps with rfl | ⟨l, a, rfl⟩
      · refine iteF ?_
        refine ⟨_, rfl, q ks d H2 R.nd (R.done L) s2 hd hd2⟩
      · rw [List.concat_eq_append] at *
        have e0 : (!(List.map V.int (l ++ [a])).isEmpty) = true := by simp
        rw [e0]
        refine iteT ?_
        refine ⟨_, fun _ _ h => h, ?_⟩
        -- number = waiting.pop()
        refine ⟨_, rfl, .inl ⟨rfl, _, SqL.of hD2⟩, D, _, V.int a, rfl, rfl, hD2, by simp, ?_⟩
        rw [show (List.map V.int (l ++ [a])).dropLast = l.map V.int by simp]
        obtain ⟨H3, eH3⟩ : ∃ H3, H3 = upd H2 D (.lst (l.map V.int)) := ⟨_, rfl⟩
        rw [← eH3]
        have s3 : Same H H3 := fun b o e => by rw [eH3, upd_ne (ne_of_none e hD0)]; exact s2 b o e
        have hd3 : H3 d = some (.dK (kvT ks)) := by rw [eH3, upd_ne ndD]; exact hd2
        have hD3 : H3 D = some (.lst (l.map V.int)) := by rw [eH3, upd_same]
        have SA3 := SA.same s3
        obtain ⟨dx, ob3⟩ := SA3.ob
        -- if number not in found and store.exists(number)
        refine ⟨_, rfl, _, rfl, d, _, rfl, DGet.k (k := Sum.inl a) hd3, _, rfl, ?_⟩
        rw [kvT_is]
        have out : (a ∈ ks ∨ ¬ S.live a) → ∃ m', m' < rmu S ks (l ++ [a]) ∧ ∃ ks' ps' n5' w5', [some (V.ref p), some (V.ref r), some (V.ref d), some (V.ref D), some (V.int a), w5] = [some (V.ref p), some (V.ref r), some (V.ref d), some (V.ref D), n5', w5'] ∧ Same H H3 ∧ H3 d = some (.dK (kvT ks')) ∧ H3 D = some (.lst (ps'.map V.int)) ∧ RIn S ws ks' ps' none [] 0 ∧ rmu S ks' ps' ≤ 300000 ∧ m' = rmu S ks' ps' := fun z =>
          ⟨_, rmu_skip, ks, l, _, _, rfl, s3, hd3, hD3, R.skip z, Nat.le_trans (Nat.le_of_lt rmu_skip) hsz, rfl⟩
        by_cases hk : a ∈ ks
        · rw [decide_eq_true hk]
          refine iteF ?_
          exact out (.inl hk)
        · rw [decide_eq_false hk]
          refine iteT ?_
          refine ⟨_, rfl, p, dx, _, rfl, ob3, rfl, _, rfl, p, wd, pd, S, a, rfl, SA3, _, rfl, ?_⟩
          by_cases hlv : S.live a
          · rw [decide_eq_true hlv]
            refine iteT ?_
            obtain ⟨o1, ho⟩ := L.live_ob hlv
            -- found[number] = True
            refine ⟨_, rfl, _, rfl, d, _, rfl, DPut.k (k := Sum.inl a) hd3 ?_, ?_⟩
            · rw [List.length_map, sizeLine_eq]
              have := ks_le L R.nd fun m hm => (R.snd m hm).live
              omega
            rw [putK_new _ (kvT_none hk), show kvT ks ++ [((Sum.inl a : Key), V.bl true)] = kvT (ks ++ [a]) by simp [kvT]]
            obtain ⟨H4, eH4⟩ : ∃ H4, H4 = upd H3 d (.dK (kvT (ks ++ [a]))) := ⟨_, rfl⟩
            rw [← eH4]
            have s4 : Same H H4 := fun b o e => by rw [eH4, upd_ne (ne_of_none e hd)]; exact s3 b o e
            have hd4 : H4 d = some (.dK (kvT (ks ++ [a]))) := by rw [eH4, upd_same]
            have hD4 : H4 D = some (.lst (l.map V.int)) := by rw [eH4, upd_ne ndD.symm]; exact hD3
            have SA4 := SA.same s4
            obtain ⟨dx4, ob4⟩ := SA4.ob
            -- for word in [store.kind(number)] + store.slots(number)
            refine ⟨_, rfl, p, dx4, _, rfl, ob4, rfl, _, rfl, p, wd, pd, S, a, o1, rfl, SA4, L, ho, by show 1 ≤ sizeLine; decide, fun l1 hl1 => ?_⟩
            have s5 := s4.trans (same_new (o := .lst [V.int o1.kind]) hl1)
            obtain ⟨dx5, ob5⟩ := (SA.same s5).ob
            have sz := ob_le L ho
            refine ⟨_, rfl, p, dx5, _, rfl, ob5, rfl, _, rfl, p, wd, pd, S, a, o1, rfl, SA.same s5, L, ho, fun l2 hl2 => ?_⟩
            refine ⟨l1, l2, _, _, rfl, rfl, by rw [upd_ne (ne_of_none upd_same hl2)]; exact upd_same, upd_same, by rw [List.length_map, sizeLine_eq]; show 1 + _ ≤ _; omega, fun l3 hl3 => ?_⟩
            have s7 := s5.trans ((same_new hl2).trans (same_new (o := .lst ([V.int o1.kind] ++ o1.slots.map V.int)) hl3))
            have t7 : Same H4 _ := (same_new hl1).trans ((same_new hl2).trans (same_new (o := .lst ([V.int o1.kind] ++ o1.slots.map V.int)) hl3))
            have f3 : H4 l3 = none := ((same_new hl1).trans (same_new hl2)).free hl3
            have n3D : l3 ≠ D := fun z => by rw [z, hD4] at f3; cases f3
            have n3d : l3 ≠ d := fun z => by rw [z, hd4] at f3; cases f3
            refine ⟨l3, rfl, ⟨_, SqL.of upd_same⟩, for_list (K := K) (a := l3) (xs := (o1.kind :: o1.slots).map V.int) (fun i σ Hx => ∃ ps' w5, σ = [some (.ref p), some (.ref r), some (.ref d), some (.ref D), some (.int a), w5] ∧ Same H Hx ∧ Hx d = some (.dK (kvT (ks ++ [a]))) ∧
                Hx D = some (.lst (ps'.map V.int)) ∧ Hx l3 = some (.lst ((o1.kind :: o1.slots).map V.int)) ∧ RIn S ws (ks ++ [a]) ps' (some a) (o1.kind :: o1.slots) i ∧ ps'.length ≤ l.length + i)
              ⟨l, w5, rfl, s7, t7 _ _ hd4, t7 _ _ hD4, upd_same, R.enter hk ho, Nat.le_refl _⟩ (fun i σ Hx _ ⟨_, _, _, _, _, _, h, _⟩ => SqL.of h) ?_ ?_⟩
            · rintro i x σ Hx hi ⟨ps', w5, rfl, sx, hdx, hDx, hl3x, R2, hle⟩
              obtain ⟨v, hv, rfl⟩ : ∃ v, (o1.kind :: o1.slots)[i]? = some v ∧ x = V.int v := by
                rw [List.getElem?_map] at hi
                cases e : (o1.kind :: o1.slots)[i]? with
                | none => rw [e] at hi; cases hi
                | some z => rw [e] at hi; exact ⟨z, rfl, (Option.some.inj hi).symm⟩
              have T2 := R2.turn hv (R.wt a (by simp) hlv) ho rfl
              have same : ∀ w6, ¬ (v % 2 = 0 ∧ v / 2 ∉ ks ++ [a]) → ∃ ps'' w5', [some (V.ref p), some (V.ref r), some (V.ref d), some (V.ref D), some (V.int a), w6] = [some (.ref p), some (.ref r), some (.ref d), some (.ref D), some (.int a), w5'] ∧ Same H Hx ∧ Hx d = some (.dK (kvT (ks ++ [a]))) ∧
                Hx D = some (.lst (ps''.map V.int)) ∧ Hx l3 = some (.lst ((o1.kind :: o1.slots).map V.int)) ∧ RIn S ws (ks ++ [a]) ps'' (some a) (o1.kind :: o1.slots) (i + 1) ∧ ps''.length ≤ l.length + (i + 1) := fun w6 z => ⟨ps', _, rfl, sx, hdx, hDx, hl3x, T2.2 z, by omega⟩
              refine ⟨_, rfl, v, rfl, _, rfl, ?_⟩
              by_cases hv2 : v % 2 = 0
              · rw [decide_eq_true hv2]
                refine iteT ?_
                refine ⟨_, rfl, v, rfl, hv2, _, rfl, d, _, rfl, DGet.k (k := Sum.inl (v / 2)) hdx, _, rfl, ?_⟩
                rw [kvT_is]
                by_cases hin : v / 2 ∈ ks ++ [a]
                · rw [decide_eq_true hin]
                  refine iteF ?_
                  exact same _ fun z => z.2 hin
                · rw [decide_eq_false hin]
                  refine iteT ?_
                  have hil := (List.getElem?_eq_some_iff.mp hv).1
                  have hml := rmu_le (S := S) (ks := ks) (ps := l ++ [a])
                  simp only [List.length_append, List.length_cons, List.length_nil] at hml hil
                  refine ⟨_, rfl, .inl ⟨rfl, _, SqL.of hDx⟩, _, rfl, v, rfl, hv2, D, _, _, rfl, rfl, hDx, by rw [List.length_map, sizeLine_eq]; omega, ?_⟩
                  refine ⟨ps' ++ [v / 2], _, rfl, fun b o e => by rw [upd_ne (ne_of_none e hD0)]; exact sx b o e, by rw [upd_ne ndD]; exact hdx, by rw [upd_same]; simp, by rw [upd_ne n3D]; exact hl3x, T2.1 hv2 hin, by simp only [List.length_append, List.length_cons, List.length_nil]; omega⟩
              · rw [decide_eq_false hv2]
                refine iteF ?_
                refine iteF ?_
                exact same _ fun z => hv2 z.1
            · rintro σ Hx ⟨ps', w5, rfl, sx, hdx, hDx, hl3x, R2, hle⟩
              rw [List.length_map] at R2 hle
              have lt := rmu_enter (ps' := ps') (ps := l) L ho hk hle
              exact ⟨_, lt, ks ++ [a], ps', _, _, rfl, sx, hdx, hDx, R2.leave L ho, Nat.le_trans (Nat.le_of_lt lt) hsz, rfl⟩
          · rw [decide_eq_false hlv]
            refine iteF ?_
            exact out (.inr hlv)
end
end Sg

/-! SgP3: close_up, collect. -/
namespace Sg
open PySem PySem.W PySem.Spec PyProof.Rows L2 L2H HotX
/-- a def whose code object is known -/
structure FunC (K : Frag) (x qual : Str) (st : Stmt) (f : Addr) (fd : FuncData) (c : Addr) : Prop where
  ex : ∃ (oc : Value) (od : Option Addr) (kV doc pm : Value) (an : Option Addr) (ct : Value) (osl : Array (Option Value)), fd = fnOf x qual (defArgs st) (defBody st) (defScope st) .none kV doc pm an (.ref c) ct ∧ K.lookup f = some ⟨oc, od, .func fd, osl⟩ ∧ codeIn K (.ref c) qual = true
section
variable {P : Program} {w : World} {K : Frag} {mg : Str → Option Value} {base : Heap}
theorem okBc {x qual : Str} {st : Stmt} {f c : Addr} {fd : FuncData} {N ps : List Str} {k : Nat} {sp : Sp} (F : FunC K x qual st f fd c) (S : FnScope N ps (defScope st)) (len : ∀ vs H Q E, sp vs H Q E → vs.length = ps.length)
    (hbody : ∀ (A : Around) (outer : List Env) (s : Shared) (H : Hp) (vs : List V) (Q : VK) (E : XK) (o : Option (Addr × Obj)), RoomH k (A.deeper (envOfC qual (defScope st) s.heap.objs.size f (.ref c))) → CoolC (cxO P w K mg base N qual (defScope st) f (.ref c) A outer s H E o).nox → sp vs H Q E →
      ∃ t, PSs (cxO P w K mg base N qual (defScope st) f (.ref c) A outer s H E o).nox (defBody st) t ∧ t { nx := fun _ H' => Q .non H', rt := Q } (L2.start N vs) H) : FnB P w K mg base (k + 1) f fd ps sp := by
  obtain ⟨oc, od, kV, doc, pm, an, ct, osl, rfl, lk, hcd⟩ := F.ex
  refine ⟨fn_of lk hcd S len fun A outer s H vs Q E hr hsp => ?_, fn_ofH lk hcd S len fun A outer s H vs Q E p hot hr hsp => ?_⟩
  · obtain ⟨t, h, q⟩ := hbody A outer s H vs Q E none (roomH_of hr) (.inl rfl) hsp
    exact ⟨t, h.nox, q⟩
  · obtain ⟨t, h, q⟩ := hbody A outer s H vs Q E (some p) hr (.inr ⟨p, hot, List.mem_singleton.mpr rfl⟩) hsp
    exact ⟨t, h.nox, q⟩
/-- the objects that are live -/
def SSt.kept (S : SSt) : List Ob := S.objs.filter fun o => decide (S.live o.num)
/-- the store, closed up -/
def SSt.closed (S : SSt) : SSt := { S with objs := S.kept, pl := offs 0 S.kept }
theorem flat_filter_le (f : Ob → Bool) : ∀ l : List Ob, (flat (l.filter f)).length ≤ (flat l).length
  | [] => Nat.le_refl _
  | o :: l => by
    have ih := flat_filter_le f l
    rw [List.filter_cons, flat_cons, List.length_append]
    split
    · rw [flat_cons, List.length_append]
      omega
    · omega
theorem Lay.closed {S : SSt} (L : Lay S) : Lay S.closed := by
  have sub : S.kept.Sublist S.objs := List.filter_sublist
  refine ⟨L.nd.sublist (sub.map _), fun x h => h, ?_, fun o ho => L.rng o (sub.subset ho), ?_, L.lim, L.ents_lim, L.ents0⟩
  · show ((offs 0 S.kept).map (·.1)).Nodup
    rw [offs_fst]
    exact L.nd.sublist (sub.map _)
  · have h1 := flat_filter_le (fun o => decide (S.live o.num)) S.objs
    have h2 := L.fits
    show ((flat S.kept).length : Int) ≤ S.room
    unfold SSt.kept
    omega
/-- by place, the live ones in their order -/
theorem sorted_kept {S : SSt} (L : Lay S) {ys : List (Int × Int)} (hp : ys.Perm S.pl) (hs : ys.Pairwise fun x y => x.2 ≤ y.2) : ys.map (·.1) = S.kept.map Ob.num := by
  have h1 : ((offs 0 S.objs).filter fun x => decide (x ∈ S.pl)).Perm S.pl := by
    have nd1 : (offs 0 S.objs).Nodup := (offs_sorted 0 S.objs).imp fun h e => by rw [e] at h; omega
    have nd2 : S.pl.Nodup := (List.pairwise_map.mp L.ndp).imp fun h e => h (congrArg _ e)
    refine (List.perm_ext_iff_of_nodup (nd1.sublist List.filter_sublist) nd2).mpr fun x => ?_
    rw [List.mem_filter]
    exact ⟨fun h => of_decide_eq_true h.2, fun h => ⟨L.sub x h, decide_eq_true h⟩⟩
  have h2 : ((offs 0 S.objs).filter fun x => decide (x ∈ S.pl)).Pairwise fun x y => x.2 < y.2 := (offs_sorted 0 S.objs).sublist List.filter_sublist
  have e : ys = (offs 0 S.objs).filter fun x => decide (x ∈ S.pl) := by
    refine (hp.trans h1.symm).eq_of_pairwise (le := fun x y => x.2 ≤ y.2) (fun a b ha hb hab hba => ?_) hs (h2.imp fun h => Int.le_of_lt h)
    have ha := (hp.trans h1.symm).mem_iff.mp ha
    have eq : a.2 = b.2 := Int.le_antisymm hab hba
    obtain ⟨i, hi, ei⟩ := List.mem_iff_getElem.mp ha
    obtain ⟨j, hj, ej⟩ := List.mem_iff_getElem.mp hb
    rcases Nat.lt_trichotomy i j with c | c | c
    · have := List.pairwise_iff_getElem.mp h2 i j hi hj c
      rw [ei, ej] at this
      omega
    · subst c
      rw [← ei, ← ej]
    · have := List.pairwise_iff_getElem.mp h2 j i hj hi c
      rw [ei, ej] at this
      omega
  rw [e]
  -- the same test, said of the objects
  have key : ∀ (p : Nat) (l : List Ob), (∀ x ∈ offs p l, (x ∈ S.pl ↔ S.live x.1)) → ((offs p l).filter fun x => decide (x ∈ S.pl)).map (·.1) = (l.filter fun o => decide (S.live o.num)).map Ob.num := by
    intro p l
    induction l generalizing p with
    | nil => intro _; rfl
    | cons o l ih =>
      intro h
      have ih := ih (p + (3 + o.slots.length)) fun x hx => h x (by rw [offs]; exact List.mem_cons_of_mem _ hx)
      have h0 := h (o.num, (p : Int)) (by rw [offs]; exact List.mem_cons_self)
      rw [offs, List.filter_cons, List.filter_cons]
      by_cases c : S.live o.num
      · rw [if_pos (decide_eq_true (h0.mpr c)), if_pos (decide_eq_true c), List.map_cons, List.map_cons, ih]
      · rw [if_neg (fun z => c (h0.mp (of_decide_eq_true z))), if_neg (fun z => c (of_decide_eq_true z)), ih]
  refine key 0 S.objs fun x hx => ⟨fun h => List.mem_map.mpr ⟨x, h, rfl⟩, fun h => ?_⟩
  obtain ⟨y, hy, ey⟩ := List.mem_map.mp h
  obtain ⟨pre, o, post, e1, e2, e3⟩ := L.find (n := y.1) (q := y.2) hy
  obtain ⟨pre2, o2, post2, e4, e5, e6⟩ := offs_mem (n := x.1) (q := x.2) hx
  have nd : (offs 0 S.objs).Nodup := (offs_sorted 0 S.objs).imp fun h e => by rw [e] at h; omega
  have hy2 := L.sub y hy
  -- two entries of one number are one
  have one : ∀ {l : List (Int × Int)} {a b : Int × Int}, (l.map (·.1)).Nodup → a ∈ l → b ∈ l → a.1 = b.1 → a = b := by
    intro l a b hn ha hb e
    obtain ⟨i, hi, ei⟩ := List.mem_iff_getElem.mp ha
    obtain ⟨j, hj, ej⟩ := List.mem_iff_getElem.mp hb
    have hh := List.pairwise_iff_getElem.mp (List.pairwise_map.mp hn)
    rcases Nat.lt_trichotomy i j with c | c | c
    · exact absurd (by rw [ei, ej]; exact e) (hh i j hi hj c)
    · subst c
      rw [← ei, ← ej]
    · exact absurd (by rw [ei, ej]; exact e.symm) (hh j i hj hi c)
  have : y = x := one (by rw [offs_fst]; exact L.nd) hy2 hx ey
  rw [← this]
  exact hy
def spClose (T : List (Addr × Str)) (CS : Addr) : Sp := fun vs H Q _ => ∃ p wd pd S, vs = [.ref p] ∧ StoreAt CS H p wd pd S ∧ Lay S ∧ LamX.Tabs T H ∧
  ∀ w' d' H', StoreAt CS H' p w' d' S.closed → H w' = none → H d' = none → Mv T (own3 p wd pd) (own3 p w' d') H H' → Q .non H'
theorem sc_Store_close_up : FnScope ["self", "words", "places", "old", "number", "place"] ["self"] (defScope (inClass (top 18) 13)) := ⟨rfl, rfl, rfl, by decide +kernel, rfl, by decide +kernel, by decide +kernel⟩
theorem ok_Store_close_up {f cc Pt : Addr} {fd : FuncData} (F : FunC K "close_up" "Store.close_up" (inClass (top 18) 13) f fd cc) {CS : Addr} (TStore : TStoreC K CS) (T : TxC mg) (TB : LamX.TabB base mg cc Pt) : FnB P w K mg base 2 f fd ["self"] (spClose [(Pt, "Store.close_up.<locals>.<lambda>")] CS) := by
  refine okBc F sc_Store_close_up (fun vs H Q E h => ?_) (fun A outer s H vs Q E o hr cool h => ?_)
  · obtain ⟨p, wd, pd, S, rfl, _⟩ := h
    rfl
  · obtain ⟨p, wd, pd, S, rfl, SA, L, Tb, q⟩ := h
    have hu := huH hr
    refine ⟨_, (pss_cons (ps_set (i := 1) sc_Store_close_up.nd rfl (Or.inl rfl) (pe_lst pa_nil))
    (pss_cons (ps_set (i := 2) sc_Store_close_up.nd rfl (Or.inl rfl) pe_dnewK)
    (pss_cons (ps_set (i := 3) sc_Store_close_up.nd rfl (Or.inr rfl) (pe_fld (pv 0) rfl))
    (pss_cons (ps_forL PassesOwn.never cool (pe_sortK (T := [(Pt, "Store.close_up.<locals>.<lambda>")]) (k := 0) (i := 3) (c := cc) (P := Pt) cool (hr.mono (by decide)) rfl T.sorted TB rfl (by show _ ∈ _; exact List.mem_singleton.mpr rfl) (fun p hp _ => by rw [List.mem_singleton.mp hp]; rfl) rfl rfl rfl (by decide +kernel) rfl rfl rfl (by decide +kernel) rfl (by decide +kernel) rfl (fun _ _ _ _ _ _ => rfl)) (pg_name (i := 4) sc_Store_close_up.nd rfl (Or.inl rfl))
      (pss_cons (ps_set (i := 5) sc_Store_close_up.nd rfl (Or.inl rfl) (pe_dget hu (pv 3) (pv 4) (fun _ _ => rfl)))
      (pss_cons (ps_dput hu (pv 2) (pv 4) (pe_callB call_len_seq (by rfl) T.len PySem.boot_len (pa_cons (pv 1) pa_nil)) rfl)
      (pss_one (ps_expr (pe_bm PySem.F.plainAttrs_list PySem.F.slot_list_extend PySem.F.type_list_extend mt_extend (pv 1) (pa_cons (pe_slice sl_list (pe_fld (pv 0) rfl) (po_some (pv 5)) (po_some (pe_op op_add (pe_op op_add (pv 5) (pe_glob (v := .int 3) rfl T.HEADER.choose_spec ⟨_, rfl⟩)) (pe_ix ix_list (pe_fld (pv 0) rfl) (pe_op op_add (pv 5) pe_int) (fun _ _ => rfl))))) pa_nil)))))))
    (pss_cons (ps_fld (pv 0) (pv 1) rfl)
    (pss_one (ps_fld (pv 0) (pv 2) rfl))))))), ?_⟩
    obtain ⟨⟨dx, ob⟩, ws, pc⟩ := id SA
    obtain ⟨zs, ezs⟩ : ∃ zs, zs = S.kept := ⟨_, rfl⟩
    have zsub : ∀ o ∈ zs, o ∈ S.objs ∧ S.live o.num := fun o ho => by
      rw [ezs] at ho
      exact ⟨(List.mem_filter.mp ho).1, of_decide_eq_true (List.mem_filter.mp ho).2⟩
    have znd : (zs.map Ob.num).Nodup := by rw [ezs]; exact L.nd.sublist (List.filter_sublist.map _)
    have zfl : (flat zs).length ≤ (flat S.objs).length := by rw [ezs]; exact flat_filter_le _ _
    have hfit : (flat S.objs).length ≤ 100000 := by have := L.fits; have := L.lim; omega
    have nlen : 3 * zs.length ≤ 100000 := by have := objs_le zs; omega
    -- words = []; places = {}; old = self._places
    refine ⟨by show 0 ≤ sizeLine; decide, fun wl hwl => ?_⟩
    intro d hd
    have nwd : wl ≠ d := fun z => by rw [← z, upd_same] at hd; cases hd
    have hd0 : H d = none := by rw [← hd, upd_ne nwd.symm]
    have sA : Same H (upd (upd H wl (.lst [])) d (.dK [])) := fun b o e => by rw [upd_ne (ne_of_none e hd0), upd_ne (ne_of_none e hwl)]; exact e
    refine ⟨_, rfl, p, CS, _, _, _, rfl, sA _ _ ob, TStore.cl, TStore.places, rfl, ?_⟩
    -- for number in sorted(..)
    refine ⟨Tb.ext sA, pd, S.pl, rfl, sA _ _ pc, L.ndp, fun ys H1 l hp hs ex Tb1 hl => ?_⟩
    have eys : ys.map (fun y => V.int y.1) = (zs.map Ob.num).map V.int := by rw [ezs, ← sorted_kept L hp hs, List.map_map]; rfl
    rw [eys]
    have k1 : ∀ b o, H b = some o → (∀ ps, o ≠ .tbl ps) → H1 b = some o := fun b o e n => ex b o (sA b o e) n
    have w1 : H1 wl = some (.lst []) := ex _ _ (by rw [upd_ne nwd]; exact upd_same) fun _ z => nomatch z
    have d1 : H1 d = some (.dK []) := ex _ _ upd_same fun _ z => nomatch z
    have nlw : l ≠ wl := fun z => by rw [z, w1] at hl; cases hl
    have nld : l ≠ d := fun z => by rw [z, d1] at hl; cases hl
    refine ⟨l, rfl, ⟨_, SqL.of upd_same⟩, for_list (K := K) (a := l) (xs := (zs.map Ob.num).map V.int) (fun i σ Hx => ∃ n5 v5, σ = [some (.ref p), some (.ref wl), some (.ref d), some (.ref pd), n5, v5] ∧ Hx wl = some (.lst ((flat (zs.take i)).map V.int)) ∧ Hx d = some (.dK (kvP (offs 0 (zs.take i)))) ∧
        Hx l = some (.lst ((zs.map Ob.num).map V.int)) ∧ (∀ b o, H b = some o → (∀ ps, o ≠ .tbl ps) → Hx b = some o) ∧ LamX.Tabs [(Pt, "Store.close_up.<locals>.<lambda>")] Hx)
      ⟨_, _, rfl, by rw [upd_ne nlw.symm]; exact w1, by rw [upd_ne nld.symm]; exact d1, upd_same, fun b o e n => by rw [upd_ne (ne_of_none (k1 b o e n) hl)]; exact k1 b o e n, Tb1.ext (same_new hl)⟩
      (fun i σ Hx _ ⟨_, _, _, _, _, h, _, _⟩ => SqL.of h) ?_ ?_⟩
    · rintro i x σ Hx hi ⟨n5, v5, rfl, hw, hdd, hll, kx, Tx⟩
      obtain ⟨o1, hz, rfl⟩ : ∃ o1, zs[i]? = some o1 ∧ x = V.int o1.num := by
        rw [List.getElem?_map, List.getElem?_map] at hi
        cases e : zs[i]? with
        | none => rw [e] at hi; cases hi
        | some z => rw [e] at hi; exact ⟨z, rfl, (Option.some.inj hi).symm⟩
      have ht : zs.take (i + 1) = zs.take i ++ [o1] := by rw [List.take_add_one, hz]; rfl
      obtain ⟨m1, m2⟩ := zsub o1 (List.mem_of_getElem? hz)
      obtain ⟨pre, post, e, hpl⟩ := L.place (n := o1.num) ⟨m1, rfl, m2⟩
      have obx := kx _ _ ob (fun _ z => nomatch z)
      have wsx := kx _ _ ws (fun _ z => nomatch z)
      have tlen : (flat (zs.take i)).length + (3 + o1.slots.length) ≤ (flat zs).length := by
        have h1 : flat zs = flat (zs.take (i + 1)) ++ flat (zs.drop (i + 1)) := by rw [← flat_app, List.take_append_drop]
        rw [h1, ht, flat_app, flat_cons, flat_nil, List.append_nil, List.length_append, List.length_append, Ob.flat_len]
        omega
      have fresh : ¬ o1.num ∈ (offs 0 (zs.take i)).map (·.1) := by
        rw [offs_fst]
        intro hm
        have h1 : zs.map Ob.num = (zs.take i).map Ob.num ++ (o1.num :: (zs.drop (i + 1)).map Ob.num) := by
          rw [← List.map_cons, ← List.map_append]
          congr 1
          have := List.take_append_drop (i + 1) zs
          rw [ht, List.append_assoc] at this
          exact this.symm
        rw [h1, List.nodup_append] at znd
        exact znd.2.2 _ hm _ List.mem_cons_self rfl
      -- place = old[number]
      refine ⟨_, rfl, _, rfl, pd, _, rfl, dget_of (kx _ _ pc (fun _ z => nomatch z)) (valP_some L.ndp hpl), ?_⟩
      -- places[number] = len(words)
      refine ⟨_, rfl, wl, _, rfl, .inl (SqL.of hw), _, rfl, _, rfl, d, _, rfl, DPut.k (k := Sum.inl o1.num) hdd ?_, ?_⟩
      · rw [List.length_map, offs_len, sizeLine_eq]
        have := List.length_take_le' i zs
        omega
      rw [putK_new _ (valP_none fresh), List.length_map]
      have enew : kvP (offs 0 (zs.take i)) ++ [((Sum.inl o1.num : Key), V.int ((flat (zs.take i)).length : Nat))] = kvP (offs 0 (zs.take (i + 1))) := by
        rw [ht, offs_app]
        simp [kvP, offs]
      rw [enew]
      obtain ⟨H5, e5⟩ : ∃ H5, H5 = upd Hx d (.dK (kvP (offs 0 (zs.take (i + 1))))) := ⟨_, rfl⟩
      rw [← e5]
      have k5 : ∀ b o, H b = some o → (∀ ps, o ≠ .tbl ps) → H5 b = some o := fun b o e n => by rw [e5, upd_ne (ne_of_none e hd0)]; exact kx b o e n
      have w5 : H5 wl = some (.lst ((flat (zs.take i)).map V.int)) := by rw [e5, upd_ne nwd]; exact hw
      have d5 : H5 d = some (.dK (kvP (offs 0 (zs.take (i + 1))))) := by rw [e5, upd_same]
      have l5 : H5 l = some (.lst ((zs.map Ob.num).map V.int)) := by rw [e5, upd_ne nld]; exact hll
      have T5 : LamX.Tabs [(Pt, "Store.close_up.<locals>.<lambda>")] H5 := by rw [e5]; exact tabs_upd Tx fun u hu => by rw [hdd] at hu; cases hu; exact nt_dK
      have ob5 := k5 _ _ ob (fun _ z => nomatch z)
      have ws5 := k5 _ _ ws (fun _ z => nomatch z)
      -- words.extend(self.words[place:place + HEADER + self.words[place + 1]])
      refine ⟨_, rfl, .inl ⟨rfl, _, SqL.of w5⟩, _, rfl, p, CS, _, _, _, rfl, ob5, TStore.cl, TStore.words, rfl, _, rfl, _, rfl, _, rfl, _, _, rfl, rfl, _, rfl, p, CS, _, _, _, rfl, ob5, TStore.cl, TStore.words, rfl, _, rfl, _, _, rfl, rfl,
        wd, _, _, _, rfl, rfl, SqL.of ws5, atI_nat (j := (flat pre).length + 1) (map_int (by rw [e]; exact at_size pre post o1)), _, _, rfl, rfl, _, rfl, wd, _, rfl, SqL.of ws5, fun a ha => ?_⟩
      have ecut : cutV ((flat S.objs).map V.int) (some ((flat pre).length : Int)) (some (((flat pre).length : Int) + 3 + (o1.slots.length : Int))) = o1.flat.map V.int := by
        rw [show ((flat pre).length : Int) + 3 + (o1.slots.length : Int) = (((flat pre).length + (3 + o1.slots.length) : Nat) : Int) by omega, cut_nat (by omega) (by rw [List.length_map, e, len_split]; omega), Nat.add_sub_cancel_left, ← List.map_drop, ← List.map_take, e, at_all]
      have naw : a ≠ wl := fun z => by rw [z, w5] at ha; cases ha
      have nad : a ≠ d := fun z => by rw [z, d5] at ha; cases ha
      have nal : a ≠ l := fun z => by rw [z, l5] at ha; cases ha
      refine ⟨wl, a, _, _, rfl, rfl, by rw [upd_ne naw.symm]; exact w5, (upd_same.trans (by rw [ecut])), by rw [List.length_map, List.length_map, sizeLine_eq, Ob.flat_len]; omega, ?_⟩
      refine ⟨_, _, rfl, ?_, ?_, ?_, fun b o e n => ?_, ?_⟩
      · rw [upd_same, ht, flat_app, flat_cons, flat_nil, List.append_nil, List.map_append]
      · rw [upd_ne nwd.symm, upd_ne nad.symm]
        exact d5
      · rw [upd_ne nlw, upd_ne nal.symm]
        exact l5
      · rw [upd_ne (ne_of_none e hwl), upd_ne (ne_of_none (k5 b o e n) ha)]
        exact k5 b o e n
      · refine tabs_upd (T5.ext (same_new ha)) fun u hu => ?_
        rw [upd_ne naw.symm, w5] at hu
        cases hu
        exact nt_lst
    · rintro σ Hx ⟨n5, v5, rfl, hw, hdd, hll, kx, Tx⟩
      rw [List.length_map, List.length_map, List.take_length] at hw hdd
      have obx := kx _ _ ob (fun _ z => nomatch z)
      have npw : p ≠ wl := ne_of_none ob hwl
      have npd : p ≠ d := ne_of_none ob hd0
      refine ⟨_, rfl, _, rfl, p, CS, _, _, rfl, obx, TStore.cl, TStore.words, (by show 5 < 1000; decide), ?_⟩
      refine ⟨_, rfl, _, rfl, p, CS, _, _, rfl, upd_same, TStore.cl, TStore.places, (by show 5 < 1000; decide), ?_⟩
      refine q wl d _ ⟨⟨_, upd_same⟩, ?_, ?_⟩ hwl hd0 ⟨fun b o e n t => ⟨?_, ?_⟩, fun _ => ?_⟩
      · rw [upd_ne npw.symm, upd_ne npw.symm, hw, ezs]
        rfl
      · rw [upd_ne npd.symm, upd_ne npd.symm, hdd, ezs]
        rfl
      · have nb : b ≠ p := fun z => n (.inl z)
        rw [upd_ne nb, upd_ne nb]
        exact kx b o e t
      · rintro (z | z | z)
        · exact n (.inl z)
        · rw [z, hwl] at e
          cases e
        · rw [z, hd0] at e
          cases e
      · refine tabs_upd (tabs_upd Tx fun u hu => ?_) fun u hu => ?_
        · rw [obx] at hu
          cases hu
          exact nt_ins
        · rw [upd_same] at hu
          cases hu
          exact nt_ins
end
end Sg

/-! SgP4: collect, words_of. -/
namespace Sg
open PySem PySem.W PySem.Spec PyProof.Rows L2 L2H HotX
/-- S' is S, collected from the words ws -/
structure Coll (S : SSt) (ws : List Int) (S' : SSt) : Prop where
  ks : ∃ ks : List Int, ks.Nodup ∧ (∀ n, n ∈ ks ↔ Reach S ws n) ∧ S'.objs = S.objs.filter fun o => decide (o.num ∈ ks)
  room : S'.room = S.room
  ents : S'.ents = S.ents
  whole : Whole S'
/-- S without the numbers gone -/
def SSt.without (S : SSt) (gone : List Int) (l : Int) : SSt := { S with pl := S.pl.filter (fun x => decide (x.1 ∉ gone)), least := l }
theorem Lay.without {S : SSt} (L : Lay S) (gone : List Int) (l : Int) : Lay (S.without gone l) :=
  ⟨L.nd, fun x hx => L.sub x (List.mem_filter.mp hx).1, L.ndp.sublist (List.filter_sublist.map _), L.rng, L.fits, L.lim, L.ents_lim, L.ents0⟩
theorem live_without {S : SSt} {gone : List Int} {l n : Int} : (S.without gone l).live n ↔ S.live n ∧ n ∉ gone := by
  unfold SSt.live SSt.without
  simp only [List.mem_map, List.mem_filter, decide_eq_true_eq]
  constructor
  · rintro ⟨x, ⟨h1, h2⟩, rfl⟩
    exact ⟨⟨x, h1, rfl⟩, h2⟩
  · rintro ⟨⟨x, h1, rfl⟩, h2⟩
    exact ⟨x, ⟨h1, h2⟩, rfl⟩
theorem without_snoc (S : SSt) (gone : List Int) (l g : Int) (l' : Int) : ({ S.without gone l with pl := (S.without gone l).pl.filter (fun x => decide (x.1 ≠ g)), least := l' } : SSt) = S.without (gone ++ [g]) l' := by
  unfold SSt.without
  simp only [List.filter_filter, List.mem_append, List.mem_singleton, not_or]
  congr 1
  refine List.filter_congr fun x _ => ?_
  by_cases h1 : x.1 ∈ gone <;> by_cases h2 : x.1 = g <;> simp [h1, h2]
theorem without_nil (S : SSt) : S.without [] S.least = S := by
  unfold SSt.without
  have e : (S.pl.filter fun x => decide (x.1 ∉ ([] : List Int))) = S.pl := List.filter_eq_self.mpr (by simp)
  rw [e]
theorem Whole.live_num {S : SSt} (W : Whole S) {o : Ob} (h : o ∈ S.objs) : S.live o.num := by
  have : o.num ∈ (offs 0 S.objs).map (·.1) := by rw [offs_fst]; exact List.mem_map.mpr ⟨o, h, rfl⟩
  obtain ⟨x, hx, e⟩ := List.mem_map.mp this
  exact List.mem_map.mpr ⟨x, W.all x hx, e⟩
theorem Lay.keys {S : SSt} (L : Lay S) {n : Int} (h : S.live n) : n ∈ S.objs.map Ob.num := by
  obtain ⟨o, ho, e, _⟩ := L.live_ob h
  exact List.mem_map.mpr ⟨o, ho, e⟩
theorem Whole.perm {S : SSt} (W : Whole S) : (S.pl.map (·.1)).Perm (S.objs.map Ob.num) := by
  refine (List.perm_ext_iff_of_nodup W.ndp W.nd).mpr fun n => ⟨fun h => W.toLay.keys h, fun h => ?_⟩
  obtain ⟨o, ho, rfl⟩ := List.mem_map.mp h
  exact W.live_num ho
theorem filter_split (l : List Ob) (ks : List Int) : ((l.map Ob.num).filter fun n => decide (n ∉ ks)).length + (l.filter fun o => decide (o.num ∈ ks)).length = l.length := by
  induction l with
  | nil => rfl
  | cons o l ih =>
    rw [List.map_cons, List.filter_cons, List.filter_cons, List.length_cons]
    by_cases h : o.num ∈ ks
    · rw [if_neg (by simp [h]), if_pos (by simp [h]), List.length_cons]
      omega
    · rw [if_pos (by simp [h]), if_neg (by simp [h]), List.length_cons]
      omega
theorem coll_of {S : SSt} {ws ks gone : List Int} {l : Int} (W : Whole S) (nd : ks.Nodup) (hk : ∀ n, n ∈ ks ↔ Reach S ws n) (hg : ∀ n, n ∈ gone ↔ S.live n ∧ n ∉ ks) (h0 : 0 ≤ l) (h1 : l ≤ S.least) (h2 : ∀ x ∈ gone, l ≤ x) :
    Coll S ws (S.without gone l).closed ∧ (S.without gone l).closed.objs = S.objs.filter fun o => decide (o.num ∈ ks) := by
  have eo : (S.without gone l).closed.objs = S.objs.filter fun o => decide (o.num ∈ ks) := by
    refine List.filter_congr fun o ho => ?_
    have := W.live_num ho
    simp only [live_without, hg]
    by_cases h : o.num ∈ ks <;> simp [h, this]
  refine ⟨⟨⟨ks, nd, hk, eo⟩, rfl, rfl, { toLay := (W.toLay.without gone l).closed, all := fun x h => h, l0 := h0, lst := fun m a b => ?_ }⟩, eo⟩
  have lm := W.lst m a (by have b : m < l := b; omega)
  have km : m ∈ ks := Classical.byContradiction fun z => by
    have := h2 m ((hg m).mpr ⟨lm, z⟩)
    have b : m < l := b
    omega
  obtain ⟨o, ho, e, _⟩ := W.toLay.live_ob lm
  show m ∈ (offs 0 (S.without gone l).closed.objs).map (·.1)
  rw [offs_fst, eo]
  exact List.mem_map.mpr ⟨o, List.mem_filter.mpr ⟨ho, decide_eq_true (by rw [e]; exact km)⟩, e⟩
section
variable {P : Program} {w : World} {K : Frag} {mg : Str → Option Value} {base : Heap}
abbrev Tb1 (Pt : Addr) : List (Addr × Str) := [(Pt, "Store.close_up.<locals>.<lambda>")]
def spCollect (T : List (Addr × Str)) (CS : Addr) : Sp := fun vs H Q _ => ∃ p wd pd S r ws, vs = [.ref p, .ref r] ∧ StoreAt CS H p wd pd S ∧ Whole S ∧ LamX.Tabs T H ∧ H r = some (.lst (ws.map V.int)) ∧ ws.length ≤ 200000 ∧
  ∀ w' d' S' H' (n : Int), StoreAt CS H' p w' d' S' → Coll S ws S' → Mv T (own3 p wd pd) (own3 p w' d') H H' → n + (S'.objs.length : Int) = (S.objs.length : Int) → Q (.int n) H'
theorem sc_collect : FnScope ["store", "roots", "found", "gone", "number"] ["store", "roots"] (defScope (top 14)) := ⟨rfl, rfl, rfl, by decide +kernel, rfl, by decide +kernel, by decide +kernel⟩
theorem ok_collect {f : Addr} {fd : FuncData} (F : Fun K "collect" "collect" (top 14) f fd) {CS : Addr} (TStore : TStoreC K CS) (T : TxC mg) {Pt : Addr} (G_reached : GB P w K mg base 3 "reached" ["store", "roots"] (spReached CS)) (M_Store_numbers : MB P w K mg base 1 CS "numbers" ["self"] (spNumbers CS))
    (M_Store_drop : MB P w K mg base 1 CS "drop" ["self", "number"] (spDropS (Tb1 Pt) CS)) (M_Store_close_up : MB P w K mg base 2 CS "close_up" ["self"] (spClose (Tb1 Pt) CS)) : FnB P w K mg base 4 f fd ["store", "roots"] (spCollect (Tb1 Pt) CS) := by
  refine okB F sc_collect (fun vs H Q E h => ?_) (fun cdv A outer s H vs Q E o hr cool h => ?_)
  · obtain ⟨p, wd, pd, S, r, ws, rfl, _⟩ := h
    rfl
  · obtain ⟨p, wd, pd, S, r, ws, rfl, SA, W, Tt, hr0, hlen, q⟩ := h
    have hu := huH hr
    refine ⟨_, (pss_cons (ps_set (i := 2) sc_collect.nd rfl (Or.inr rfl) (pe_gb G_reached (hr.mono (by decide)) cool (pa_cons (pv 0) (pa_cons (pv 1) pa_nil))))
    (pss_cons (ps_setLcC (i := 3) (own := [("number", 4)]) (g := gName 4) cool sc_collect.nd rfl rfl (sw_true rfl rfl rfl (by decide +kernel)) (pe_mbb0 (pv 0) TStore.cl M_Store_numbers (hr.mono (by decide)) cool) (blkOk_by (own := [("number", 4)]) (N := ["store", "roots", "found", "gone", "number"]) (sc := defScope (top 14)) (by decide +kernel)) (fun _ _ _ _ _ _ c => pg_name (i := 4) sc_collect.nd rfl (Or.inl rfl)) (fun _ _ _ _ _ _ c => (pts_one (pt_cmp (pc_dnotin hu (pv 4) (pv 2))))) (fun _ _ _ _ _ _ c => (pv 4)))
    (pss_cons (ps_forL PassesOwn.never cool (pv 3) (pg_name (i := 4) sc_collect.nd rfl (Or.inl rfl))
      (pss_one (ps_expr (pe_mbb (pv 0) TStore.cl M_Store_drop (hr.mono (by decide)) cool (pa_cons (pv 4) pa_nil)))))
    (pss_cons (ps_expr (pe_mbb0 (pv 0) TStore.cl M_Store_close_up (hr.mono (by decide)) cool))
    (pss_one (ps_ret (pe_callB call_len_seq (by rfl) T.len PySem.boot_len (pa_cons (pv 3) pa_nil)))))))), ?_⟩
    have L := W.toLay
    -- found = reached(store, roots)
    refine ⟨_, rfl, _, rfl, p, wd, pd, S, r, ws, rfl, SA, L, hr0, hlen, fun ks d H1 nd hk s1 hd hdk => ?_⟩
    have SA1 := SA.same s1
    obtain ⟨dx1, ob1⟩ := SA1.ob
    -- gone = [..]
    refine ⟨_, rfl, p, dx1, _, rfl, ob1, rfl, p, wd, pd, S, rfl, SA1, fun ys a hp1 hp2 ha => ?_⟩
    have s2 : Same H (upd H1 a (.lst (ys.map V.int))) := s1.trans (same_new ha)
    have hd2 : (upd H1 a (.lst (ys.map V.int))) d = some (.dK (kvT ks)) := by rw [upd_ne (ne_of_none hdk ha)]; exact hdk
    have ylen : 3 * ys.length ≤ 100000 := by rw [hp1.length_eq, List.length_map]; exact pl_le L
    refine ⟨a, rfl, ⟨_, SqL.of upd_same⟩, fun D hD => lc_list (K := K) (a := a) (xs := ys.map V.int) (fun i Hx => Same H Hx ∧ Hx d = some (.dK (kvT ks)) ∧ Hx a = some (.lst (ys.map V.int)) ∧ Hx D = some (.lst (((ys.take i).filter fun n => decide (n ∉ ks)).map V.int)))
      ⟨s2.trans (same_new hD), by rw [upd_ne (ne_of_none hd2 hD)]; exact hd2, by rw [upd_ne (ne_of_none upd_same hD)]; exact upd_same, by rw [upd_same]; rfl⟩ (fun i Hx _ ⟨_, _, h, _⟩ => SqL.of h) ?_ ?_⟩
    · rintro i x Hx hi ⟨sx, hdx, hax, hDx⟩
      obtain ⟨v, hv, rfl⟩ : ∃ v, ys[i]? = some v ∧ x = V.int v := by
        rw [List.getElem?_map] at hi
        cases e : ys[i]? with
        | none => rw [e] at hi; cases hi
        | some z => rw [e] at hi; exact ⟨z, rfl, (Option.some.inj hi).symm⟩
      have ht : ys.take (i + 1) = ys.take i ++ [v] := by rw [List.take_add_one, hv]; rfl
      have hD0 : H D = none := s2.free hD
      have nDd : d ≠ D := fun z => by rw [← z, hd2] at hD; cases hD
      have nDa : a ≠ D := fun z => by rw [← z, upd_same] at hD; cases hD
      refine ⟨rfl, _, rfl, _, rfl, d, _, rfl, DGet.k (k := Sum.inl v) hdx, _, rfl, ?_⟩
      rw [kvT_is]
      by_cases hin : v ∈ ks
      · rw [decide_eq_true hin]
        refine iteF ?_
        refine ⟨sx, hdx, hax, ?_⟩
        rw [ht, List.filter_append, show [v].filter (fun n => decide (n ∉ ks)) = [] by simp [hin], List.append_nil]
        exact hDx
      · rw [decide_eq_false hin]
        refine iteT ?_
        refine ⟨_, rfl, _, hDx, ?_, fun b o e => ?_, ?_, ?_, ?_⟩
        · rw [List.length_map, sizeLine_eq]
          have := List.length_filter_le (fun n => decide (n ∉ ks)) (ys.take i)
          have := List.length_take_le' i ys
          omega
        · rw [upd_ne (ne_of_none e hD0)]
          exact sx b o e
        · rw [upd_ne nDd]
          exact hdx
        · rw [upd_ne nDa]
          exact hax
        · rw [upd_same, ht, List.filter_append, show [v].filter (fun n => decide (n ∉ ks)) = [v] by simp [hin], List.map_append]
          rfl
    · rintro Hx ⟨sx, hdx, hax, hDx⟩
      rw [List.length_map, List.take_length] at hDx
      have hD0 : H D = none := s2.free hD
      obtain ⟨gone, eg⟩ : ∃ gone, gone = ys.filter fun n => decide (n ∉ ks) := ⟨_, rfl⟩
      rw [← eg] at hDx
      have hg : ∀ n, n ∈ gone ↔ S.live n ∧ n ∉ ks := fun n => by
        rw [eg, List.mem_filter, hp1.mem_iff]
        simp [SSt.live]
      have notD : ¬ own3 p wd pd D := by
        obtain ⟨⟨dx, ob⟩, ws1, pc⟩ := SA
        rintro (z | z | z)
        · rw [z, ob] at hD0; cases hD0
        · rw [z, ws1] at hD0; cases hD0
        · rw [z, pc] at hD0; cases hD0
      -- for number in gone
      refine ⟨_, rfl, D, rfl, ⟨_, SqL.of hDx⟩, for_list (K := K) (a := D) (xs := gone.map V.int) (fun i σ Hy => ∃ l n5, σ = [some (.ref p), some (.ref r), some (.ref d), some (.ref D), n5] ∧ StoreAt CS Hy p wd pd (S.without (gone.take i) l) ∧ 0 ≤ l ∧ l ≤ S.least ∧ (∀ x ∈ gone.take i, l ≤ x) ∧ Mv (Tb1 Pt) (own3 p wd pd) (own3 p wd pd) H Hy ∧ Hy D = some (.lst (gone.map V.int)))
        ⟨S.least, _, rfl, by rw [List.take_zero, without_nil]; exact SA.same sx, W.l0, Int.le_refl _, by simp, Mv.same sx, hDx⟩ (fun i σ Hy _ ⟨_, _, _, _, _, _, _, _, h⟩ => SqL.of h) ?_ ?_⟩
      · rintro i x σ Hy hi ⟨l, n5, rfl, SAy, l0, l1, l2, mv, hDy⟩
        obtain ⟨v, hv, rfl⟩ : ∃ v, gone[i]? = some v ∧ x = V.int v := by
          rw [List.getElem?_map] at hi
          cases e : gone[i]? with
          | none => rw [e] at hi; cases hi
          | some z => rw [e] at hi; exact ⟨z, rfl, (Option.some.inj hi).symm⟩
        have ht : gone.take (i + 1) = gone.take i ++ [v] := by rw [List.take_add_one, hv]; rfl
        obtain ⟨dxy, oby⟩ := SAy.ob
        have gnd : gone.Nodup := by rw [eg]; exact (hp1.nodup_iff.mpr L.ndp).sublist List.filter_sublist
        have vnot : v ∉ gone.take i := fun hm => by
          have h1 : gone = gone.take i ++ (v :: gone.drop (i + 1)) := by
            have := List.take_append_drop (i + 1) gone
            rw [ht, List.append_assoc] at this
            exact this.symm
          rw [h1, List.nodup_append] at gnd
          exact gnd.2.2 _ hm _ List.mem_cons_self rfl
        have hm := (hg v).mp (List.mem_of_getElem? hv)
        have v0 : 0 ≤ v := by
          obtain ⟨o1, h1, h2, _⟩ := L.live_ob hm.1
          rw [← h2]
          exact (L.rng o1 h1).1
        refine ⟨_, rfl, p, dxy, _, rfl, oby, rfl, _, rfl, p, wd, pd, _, v, rfl, SAy, live_without.mpr ⟨hm.1, vnot⟩, fun H' SA' mv' => ?_⟩
        rw [without_snoc, ← ht] at SA'
        refine ⟨_, _, rfl, SA', ?_, ?_, fun y hy => ?_, mv.trans mv', (mv'.kp _ _ hDy notD (fun _ z => nomatch z)).1⟩
        · show 0 ≤ if v < l then v else l
          split <;> omega
        · show (if v < l then v else l) ≤ S.least
          split <;> omega
        · show (if v < l then v else l) ≤ y
          rw [ht] at hy
          rcases List.mem_append.mp hy with z | z
          · have := l2 y z
            split <;> omega
          · rw [List.mem_singleton] at z
            rw [z]
            split <;> omega
      · rintro σ Hy ⟨l, n5, rfl, SAy, l0, l1, l2, mv, hDy⟩
        rw [List.length_map, List.take_length] at SAy l2
        obtain ⟨dxy, oby⟩ := SAy.ob
        -- store.close_up()
        refine ⟨_, rfl, p, dxy, _, rfl, oby, rfl, p, wd, pd, _, rfl, SAy, L.without gone l, mv.tb Tt, fun w' d' H' SA' hw' hd' mv' => ?_⟩
        have hDz := (mv'.kp _ _ hDy notD (fun _ z => nomatch z)).1
        refine ⟨_, rfl, D, _, rfl, .inl (SqL.of hDz), ?_⟩
        obtain ⟨C1, C2⟩ := coll_of W nd hk hg l0 l1 l2
        refine q w' d' _ H' _ SA' C1 (mv.trans mv') ?_
        rw [C2, List.length_map, eg]
        have e1 := filter_split S.objs ks
        have e2 : (ys.filter fun n => decide (n ∉ ks)).length = ((S.objs.map Ob.num).filter fun n => decide (n ∉ ks)).length := ((hp1.trans W.perm).filter _).length_eq
        omega
end
end Sg

/-! SgP5: words_of; Store's __init__, put; the space. -/
namespace Sg
open PySem PySem.W PySem.Spec PyProof.Rows L2 L2H HotX
/-- a def that is called where nothing is handled, and raises nothing -/
structure GO (P : Program) (w : World) (K : Frag) (mg : Str → Option Value) (base : Heap) (k : Nat) (x : Str) (ps : List Str) (sp : Sp) : Prop where
  ex : ∃ f fd, FnOk P w K mg base CX0 k f fd ps sp ∧ mg x = some (.ref f) ∧ keepIn K (.ref f) = true ∧ L2.Binds K fd ps []
structure MO (P : Program) (w : World) (K : Frag) (mg : Str → Option Value) (base : Heap) (k : Nat) (C : Addr) (m : Str) (ps : List Str) (sp : Sp) : Prop where
  ex : ∃ f fd, FnOk P w K mg base CX0 k f fd ps sp ∧ Meth K C m f ∧ L2.Binds K fd ps []
section
variable {X : Cx} {k : Nat} {C : Addr} {ps : List Str} {sp : Sp} {x m : Str} {p pos apos : Pos} {e o : Expr} {es : List Expr} {ta : TE} {t : TA}
theorem pe_go (G : GO X.prog X.w X.K X.mg X.base k x ps sp) (hr : Room k X.A) (ha : PA X (e :: es) t) (hg : Gl X x := by rfl)
    (hdb : (x == ("__debug__" : Str)) = false := by decide) (he : starEach (e :: es) X.env = (false, eval e X.env) :: starEach es X.env := by rfl) (hpl : (backTo pos (starEach es X.env)).any (·.1) = false := by rfl) :
    PE X (.Call (.Name x p) (e :: es) [] pos) (tCallS sp (fun _ => EN) t) := by
  obtain ⟨f, fd, F, hm, hk, hb⟩ := G.ex
  exact pe_callS F hr hg hm hk hb passN ha hdb he hpl
theorem pe_mo {pl : Sem Bool} (he : PE X o ta) (cl : Cls X.K C) (M : MO X.prog X.w X.K X.mg X.base k C m ps sp) (hr : Room k X.A) (ha : PA X (e :: es) t)
    (hst : starEach (e :: es) X.env = (false, eval e X.env) :: starEach es X.env := by rfl) (hpl : (backTo pos (starEach es X.env)).any (·.1) = false := by rfl)
    (ht : eval (.Call (.Attribute o m apos) (e :: es) [] pos) X.env = (do
      let w ← eval o X.env
      standAt apos.atName
      let (f, first) ← holding [w] (getMethod w m pl)
      callWith pos f first (backTo pos (starEach (e :: es) X.env)) (backToKw pos (keywordEach [] X.env))) := by rfl) :
    PE X (.Call (.Attribute o m apos) (e :: es) [] pos) (tMethH C m sp (fun _ => EN) ta t) := by
  obtain ⟨f, fd, F, hm, hb⟩ := M.ex
  exact pe_methX he cl hm F hr hb passN ha hst hpl ht
theorem pe_mo0 {pl : Sem Bool} (he : PE X o ta) (cl : Cls X.K C) (M : MO X.prog X.w X.K X.mg X.base k C m ps sp) (hr : Room k X.A)
    (ht : eval (.Call (.Attribute o m apos) [] [] pos) X.env = (do
      let w ← eval o X.env
      standAt apos.atName
      let (f, first) ← holding [w] (getMethod w m pl)
      callWith pos f first (backTo pos (starEach [] X.env)) (backToKw pos (keywordEach [] X.env))) := by rfl) :
    PE X (.Call (.Attribute o m apos) [] [] pos) (tMethH C m sp (fun _ => EN) ta tNil) := by
  obtain ⟨f, fd, F, hm, hb⟩ := M.ex
  exact pe_methX0 he cl hm F hr hb passN ht
end
def total (os : List Ob) : Int := (os.map fun o => 3 + (o.slots.length : Int)).sum
section
variable {P : Program} {w : World} {K : Frag} {mg : Str → Option Value} {base : Heap}
def spWordsOf (CS : Addr) : Sp := fun vs H Q _ => ∃ p wd pd S d os, vs = [.ref p, .ref d] ∧ StoreAt CS H p wd pd S ∧ Lay S ∧ H d = some (.dK (kvT (os.map Ob.num))) ∧ d ≠ pd ∧ os.length ≤ 200000 ∧ (∀ o ∈ os, S.ob o.num o) ∧
  ∀ H', Same H H' → Q (.int (total os)) H'
theorem sc_words_of : FnScope ["store", "numbers", "number"] ["store", "numbers"] (defScope (top 13)) := ⟨rfl, rfl, rfl, by decide +kernel, rfl, by decide +kernel, by decide +kernel⟩
theorem ok_words_of {f : Addr} {fd : FuncData} (F : Fun K "words_of" "words_of" (top 13) f fd) {CS : Addr} (TStore : TStoreC K CS) (T : TxC mg) (M_Store_size : MB P w K mg base 1 CS "size" ["self", "number"] (spSize CS)) : FnOk P w K mg base CX0 3 f fd ["store", "numbers"] (spWordsOf CS) := by
  refine F.ok sc_words_of (fun vs H Q E h => ?_) (fun cdv A outer s H vs Q E hr h => ?_)
  · obtain ⟨p, wd, pd, S, d, os, rfl, _⟩ := h
    rfl
  · obtain ⟨p, wd, pd, S, d, os, rfl, SA, L, hd, npd, hlen, hos, q⟩ := h
    have hu := hu_of hr
    refine ⟨_, (pss_one (ps_ret (pe_callB (cr_sum rfl) (by rfl) T.sum (by decide +kernel) (pa_cons (pe_lock (pe_lc (own := [("number", 2)]) (g := gName 2) (tt := tYes) rfl sc_words_of.nd (pi_keys (pv 1)) (blkOk_by (own := [("number", 2)]) (N := ["store", "numbers", "number"]) (sc := defScope (top 13)) (by decide +kernel)) (fun _ _ _ _ _ => pg_name (i := 2) sc_words_of.nd rfl (Or.inl rfl)) (fun _ _ _ _ _ => pts_nil) (fun _ _ _ _ _ => (pe_op op_add pe_int (pe_mbb (pv 0) TStore.cl M_Store_size ((roomH_of hr).mono (by decide)) (Or.inl rfl) (pa_cons (pv 2) pa_nil)))))) pa_nil)))), ?_⟩
    refine ⟨d, _, hd, trivial, fun od => ?_⟩
    obtain ⟨L1, eL1⟩ : ∃ L1, L1 = upd H d (.frz od (.dK (kvT (os.map Ob.num)))) := ⟨_, rfl⟩
    rw [← eL1]
    have fz : L1 d = some (.frz od (.dK (kvT (os.map Ob.num)))) := by rw [eL1, upd_same]
    have back : ∀ b o, b ≠ d → H b = some o → L1 b = some o := fun b o n e => by rw [eL1, upd_ne n]; exact e
    have SL : StoreAt CS L1 p wd pd S := by
      obtain ⟨⟨dx, ob⟩, ws, pc⟩ := SA
      exact ⟨⟨dx, back _ _ (ne_of ob hd fun z => nomatch z) ob⟩, back _ _ (ne_of ws hd fun z => nomatch z) ws, back _ _ npd.symm pc⟩
    refine ⟨_, rfl, d, od, rfl, .inl ⟨_, fz, fun D hD => lc_it (walk_keys (d := d) (o := od) (kvs := kvT (os.map Ob.num))) (fun i Hx => Same L1 Hx ∧ Hx D = some (.lst (((os.take i).map fun o => 3 + (o.slots.length : Int)).map V.int)))
      ⟨same_new hD, by rw [upd_same]; rfl⟩ (fun i Hx _ ⟨h, _⟩ => h _ _ fz) ?_ ?_⟩⟩
    · rintro i x Hx _ hi ⟨sx, hDx⟩ ⟨rfl, k, v, hk, rfl⟩
      obtain ⟨o1, ho, rfl⟩ : ∃ o1, os[i]? = some o1 ∧ k = Sum.inl o1.num := by
        rw [kvT, List.getElem?_map, List.getElem?_map] at hk
        cases e : os[i]? with
        | none => rw [e] at hk; cases hk
        | some z => rw [e] at hk; exact ⟨z, rfl, (congrArg Prod.fst (Option.some.inj hk)).symm⟩
      have ht : os.take (i + 1) = os.take i ++ [o1] := by rw [List.take_add_one, ho]; rfl
      obtain ⟨dx, obx⟩ := (SL.same sx).ob
      refine ⟨rfl, ?_⟩
      unfold tYes
      refine iteT ?_
      refine ⟨_, rfl, p, dx, _, rfl, obx, rfl, _, rfl, p, wd, pd, S, o1.num, o1, rfl, SL.same sx, L, hos o1 (List.mem_of_getElem? ho), _, _, rfl, rfl, _, hDx, ?_, fun b o e => ?_, ?_⟩
      · rw [List.length_map, List.length_map, sizeLine_eq]
        have := List.length_take_le' i os
        omega
      · rw [upd_ne (ne_of_none e hD)]
        exact sx b o e
      · rw [upd_same, ht, List.map_append, List.map_append]
        rfl
    · rintro Hx ⟨sx, hDx⟩
      rw [List.length_map, List.length_map, List.take_length] at hDx
      have nDd : D ≠ d := fun z => by rw [z, fz] at hD; cases hD
      refine ⟨sx _ _ fz, D, _, rfl, SqL.of (by rw [upd_ne nDd]; exact hDx), ?_⟩
      refine q _ fun b o e => ?_
      by_cases c : b = d
      · subst c
        rw [upd_same, ← e, hd]
      · rw [upd_ne c]
        exact sx b o (back b o c e)
end
end Sg

/-! SgP6: the errors; free_number, allocate. -/
namespace Sg
open PySem PySem.W PySem.Spec PyProof.Rows L2 L2H HotX NdefX
section
variable {P : Program} {w : World} {K : Frag} {mg : Str → Option Value} {base : Heap}
def spErr (C : Addr) (fld : Str) : Sp := fun vs H Q _ => ∃ a n, vs = [.ref a, .int n] ∧ H a = some (exo a C none) ∧ n.natAbs.log2 < 1920 ∧ ∀ d, H d = none → d ≠ a → Q .non (upd (upd H d (exd d [(fld, .int n)])) a (exo a C (some d)))
def nf_NoRoom (cc code : Addr) : NF := ⟨"__init__", "NoRoom.__init__", defArgs (inClass (top 4) 0), defBody (inClass (top 4) 0), defScope (inClass (top 4) 0), [("__class__", cc)], code⟩
theorem ok_NoRoom {C f cc code : Addr} {oc doc pm ctv : Value} {od : Option Addr} {osl : Array (Option Value)} (S : SupC K P C f cc (nf_NoRoom cc code)) (lk : K.lookup f = some ⟨oc, od, .func ((nf_NoRoom cc code).fd doc pm ctv), osl⟩) (hmS : mg "super" = none) (hstr : mg "str" = none) (hfld : findIn K (.ref C) "need" = some none) :
    FnOk P w K mg base CX0 1 f ((nf_NoRoom cc code).fd doc pm ctv) ["self", "need"] (spErr C "need") := by
  refine ok_super (N := ["self", "need", "__class__"]) (selfn := "self") S lk hmS rfl rfl rfl rfl (nscope_by (by show nscB ["self", "need", "__class__"] ["self", "need"] ["__class__"] (defScope (inClass (top 4) 0)) = true; decide +kernel)) rfl rfl rfl (fun vs H Q E h => ?_) (fun env => rfl) (fun env => rfl) (fun env _ => rfl) (fun A outer s H vs Q E hr h => ?_)
  · obtain ⟨a, n, rfl, _⟩ := h
    rfl
  · obtain ⟨a, n, rfl, ha, hn, q⟩ := h
    refine ⟨_, _, pa_cons (pe_callTy call_str_int (by rfl) hstr (by decide +kernel) (pa_cons (pv 1) pa_nil)) pa_nil, pss_one (ps_ost (pv 0) (pv 1)), a, rfl, ha, ?_⟩
    exact ⟨_, rfl, n, rfl, hn, by show 1 ≤ 1000; decide, ha, _, rfl, _, rfl, a, C, rfl, S.oex, hfld, .inl ⟨ha, fun dx hdx ne => q dx hdx ne⟩⟩
def nf_NoNumber (cc code : Addr) : NF := ⟨"__init__", "NoNumber.__init__", defArgs (inClass (top 5) 0), defBody (inClass (top 5) 0), defScope (inClass (top 5) 0), [("__class__", cc)], code⟩
theorem ok_NoNumber {C f cc code : Addr} {oc doc pm ctv : Value} {od : Option Addr} {osl : Array (Option Value)} (S : SupC K P C f cc (nf_NoNumber cc code)) (lk : K.lookup f = some ⟨oc, od, .func ((nf_NoNumber cc code).fd doc pm ctv), osl⟩) (hmS : mg "super" = none) (hstr : mg "str" = none) (hfld : findIn K (.ref C) "limit" = some none) :
    FnOk P w K mg base CX0 1 f ((nf_NoNumber cc code).fd doc pm ctv) ["self", "limit"] (spErr C "limit") := by
  refine ok_super (N := ["self", "limit", "__class__"]) (selfn := "self") S lk hmS rfl rfl rfl rfl (nscope_by (by show nscB ["self", "limit", "__class__"] ["self", "limit"] ["__class__"] (defScope (inClass (top 5) 0)) = true; decide +kernel)) rfl rfl rfl (fun vs H Q E h => ?_) (fun env => rfl) (fun env => rfl) (fun env _ => rfl) (fun A outer s H vs Q E hr h => ?_)
  · obtain ⟨a, n, rfl, _⟩ := h
    rfl
  · obtain ⟨a, n, rfl, ha, hn, q⟩ := h
    refine ⟨_, _, pa_cons (pe_callTy call_str_int (by rfl) hstr (by decide +kernel) (pa_cons (pv 1) pa_nil)) pa_nil, pss_one (ps_ost (pv 0) (pv 1)), a, rfl, ha, ?_⟩
    exact ⟨_, rfl, n, rfl, hn, by show 1 ≤ 1000; decide, ha, _, rfl, _, rfl, a, C, rfl, S.oex, hfld, .inl ⟨ha, fun dx hdx ne => q dx hdx ne⟩⟩
/-- an own error x(e), its word in the field fld -/
structure EB (P : Program) (w : World) (K : Frag) (mg : Str → Option Value) (base : Heap) (x : Str) (C : Addr) (par fld : Str) : Prop where
  oex : OexC K C
  ex : ∃ f fd, FnOk P w K mg base CX0 1 f fd ["self", par] (spErr C fld) ∧ findIn K (.ref C) "__init__" = some (some (.ref f)) ∧ typeIn K (.ref f) = some (.type "function") ∧ L2.Binds K fd ["self", par] []
  hm : mg x = some (.ref C)
theorem ps_raiseE {X : Cx} {W : WX} {x par fld : Str} {C : Addr} {e : Expr} {es : List Expr} {t : TA} {p pos pos' : Pos} (B : EB X.prog X.w X.K X.mg X.base x C par fld) (hc : X.calm = true) (tk : L2N.Takes X W) (hr : Room 2 X.A) (ha : PA X (e :: es) t) (hg : Gl X x := by rfl)
    (hdb : (x == ("__debug__" : Str)) = false := by decide) (he : starEach (e :: es) X.env = (false, eval e X.env) :: starEach es X.env := by rfl) (hpl : (backTo pos (starEach es X.env)).any (·.1) = false := by rfl) :
    PS X (.Raise (some (.Call (.Name x p) (e :: es) [] pos)) none pos') (fun _ σ H => tMkO C (spErr C fld) [] t σ H fun cls d H' => W cls d σ H') := by
  obtain ⟨f, fd, F, h1, h2, h3⟩ := B.ex
  exact L2N.ps_raise hc tk (pmk_oexN B.oex h1 h2 F hr h3 (fun _ _ _ _ _ _ _ h => h.elim) hg B.hm ha hdb he hpl)
theorem err_intro {C : Addr} {fld : Str} {n : Int} {H1 : Hp} {Q : XK} (hn : n.natAbs.log2 < 1920) (q : ∀ d H', H1 d = none → Same H1 H' → H' d = some (.xd [(fld, V.int n)]) → Q (.ref C) (some d) H') :
    ([V.int n] : List V).length ≤ 1000 ∧ ∀ a, H1 a = none → spErr C fld (.ref a :: ([V.int n] ++ [])) (upd H1 a (exo a C none))
      (fun v H2 => v = .non ∧ ∃ (d : Addr) (fs : List (Str × V)), H2 a = some (exo a C (some d)) ∧ H2 d = some (exd d fs) ∧ H1 d = none ∧ Q (.ref C) (some d) (upd (del H2 a) d (.xd fs))) (fun _ _ _ => False) := by
  refine ⟨by show 1 ≤ 1000; decide, fun a ha => ⟨a, n, rfl, upd_same, hn, fun d hd ne => ⟨rfl, d, [(fld, V.int n)], upd_same, by rw [upd_ne ne, upd_same], ?_, ?_⟩⟩⟩
  · rw [upd_ne ne] at hd
    exact hd
  · rw [upd_ne ne] at hd
    refine q d _ hd (fun b o e => ?_) upd_same
    have n1 : b ≠ d := ne_of_none e hd
    have n2 : b ≠ a := ne_of_none e ha
    rw [upd_ne n1, del_ne n2, upd_ne n2, upd_ne n1, upd_ne n2]
    exact e
/-- a def that may let an error out; its context is None -/
theorem okXN {x qual : Str} {st : Stmt} {f : Addr} {fd : FuncData} {N ps : List Str} {k : Nat} {sp : Sp} (F : Fun K x qual st f fd) (S : FnScope N ps (defScope st)) (len : ∀ vs H Q E, sp vs H Q E → vs.length = ps.length)
    (hbody : ∀ (cdv : Value) (A : Around) (outer : List Env) (s : Shared) (H : Hp) (vs : List V) (Q : VK) (E : XK), Room k (A.deeper (envOfC qual (defScope st) s.heap.objs.size f cdv)) → sp vs H Q E →
      ∃ t, PSs (cxOf (L2N.CX P w) P w K mg base N qual (defScope st) f cdv A outer s H E) (defBody st) t ∧ t { nx := fun _ H' => Q .non H', rt := Q } (L2.start N vs) H) : FnOk P w K mg base (L2N.CX P w) (k + 1) f fd ps sp := by
  obtain ⟨oc, od, kV, doc, pm, an, cdv, ct, osl, rfl, lk, hcd⟩ := F.ex
  exact fn_of lk hcd S len fun A outer s H vs Q E hr hsp => hbody cdv A outer s H vs Q E hr hsp
structure MX (P : Program) (w : World) (K : Frag) (mg : Str → Option Value) (base : Heap) (k : Nat) (C : Addr) (m : Str) (ps : List Str) (sp : Sp) : Prop where
  ex : ∃ f fd, FnOk P w K mg base (L2N.CX P w) k f fd ps sp ∧ Meth K C m f ∧ L2.Binds K fd ps []
section
variable {X : Cx} {W : WX} {k : Nat} {C : Addr} {ps : List Str} {sp : Sp} {x m : Str} {p pos apos : Pos} {e o : Expr} {es : List Expr} {ta : TE} {t : TA}
theorem pe_mx {pl : Sem Bool} (he : PE X o ta) (cl : Cls X.K C) (M : MX X.prog X.w X.K X.mg X.base k C m ps sp) (hr : Room k X.A) (tk : L2N.Takes X W) (ha : PA X (e :: es) t)
    (hst : starEach (e :: es) X.env = (false, eval e X.env) :: starEach es X.env := by rfl) (hpl : (backTo pos (starEach es X.env)).any (·.1) = false := by rfl)
    (ht : eval (.Call (.Attribute o m apos) (e :: es) [] pos) X.env = (do
      let w ← eval o X.env
      standAt apos.atName
      let (f, first) ← holding [w] (getMethod w m pl)
      callWith pos f first (backTo pos (starEach (e :: es) X.env)) (backToKw pos (keywordEach [] X.env))) := by rfl) :
    PE X (.Call (.Attribute o m apos) (e :: es) [] pos) (tMethH C m sp (WE W) ta t) := by
  obtain ⟨f, fd, F, hm, hb⟩ := M.ex
  exact pe_methX he cl hm F hr hb (fun σ => L2N.passAt tk σ) ha hst hpl ht
theorem pe_mx0 {pl : Sem Bool} (he : PE X o ta) (cl : Cls X.K C) (M : MX X.prog X.w X.K X.mg X.base k C m ps sp) (hr : Room k X.A) (tk : L2N.Takes X W)
    (ht : eval (.Call (.Attribute o m apos) [] [] pos) X.env = (do
      let w ← eval o X.env
      standAt apos.atName
      let (f, first) ← holding [w] (getMethod w m pl)
      callWith pos f first (backTo pos (starEach [] X.env)) (backToKw pos (keywordEach [] X.env))) := by rfl) :
    PE X (.Call (.Attribute o m apos) [] [] pos) (tMethH C m sp (WE W) ta tNil) := by
  obtain ⟨f, fd, F, hm, hb⟩ := M.ex
  exact pe_methX0 he cl hm F hr hb (fun σ => L2N.passAt tk σ) ht
end
theorem seq_while {c : TT} {tb b : TS} {D : Ends} {σ : L2.St} {H : Hp} (h : tWhile c tb { D with nx := b D } σ H) : tSeq (tWhile c tb) b D σ H := h
theorem small_log {n : Int} (h0 : 0 ≤ n) (h : n ≤ 1000000000) : n.natAbs.log2 < 1920 := by
  have h1 : n.natAbs < 2 ^ 1920 := Nat.lt_of_le_of_lt (m := 1000000000) (by omega) (by decide +kernel)
  by_cases z : n.natAbs = 0
  · rw [z]; decide
  · exact (Nat.log2_lt z).mpr h1
theorem below_le {S : SSt} {l : Int} (h : ∀ j, 0 ≤ j → j < l → S.live j) : l.toNat ≤ S.pl.length := by
  have nd : ((List.range l.toNat).map fun (j : Nat) => (j : Int)).Nodup := by
    refine List.pairwise_map.mpr (List.nodup_range.imp fun h e => h (by omega))
  have := nd.length_le_of_subset (l₂ := S.pl.map (·.1)) fun x hx => by
    obtain ⟨j, hj, rfl⟩ := List.mem_map.mp hx
    exact h j (by omega) (by have := List.mem_range.mp hj; omega)
  simpa using this
/-- the least number that is free: what free_number finds; NoNumber if there is none -/
def spFree (CS CN : Addr) : Sp := fun vs H Q E => ∃ p wd pd S, vs = [.ref p] ∧ StoreAt CS H p wd pd S ∧ Whole S ∧
  ∀ m H', 0 ≤ m → ¬ S.live m → (∀ j, 0 ≤ j → j < m → S.live j) → StoreAt CS H' p wd pd { S with least := m } → (∀ T, Mv T (own3 p wd pd) (own3 p wd pd) H H') →
    (m < S.ents → Q (.int m) H') ∧ (S.ents ≤ m → ∀ d H'', H' d = none → Same H' H'' → H'' d = some (.xd [("limit", V.int S.ents)]) → E (.ref CN) (some d) H'')
theorem sc_Store_free_number : FnScope ["self"] ["self"] (defScope (inClass (top 18) 4)) := ⟨rfl, rfl, rfl, by decide +kernel, rfl, by decide +kernel, by decide +kernel⟩
theorem ok_Store_free_number {f : Addr} {fd : FuncData} (F : Fun K "free_number" "Store.free_number" (inClass (top 18) 4) f fd) {CS : Addr} (TStore : TStoreC K CS) (T : TxC mg) {CN : Addr} (E_NoNumber : EB P w K mg base "NoNumber" CN "limit" "limit") : FnOk P w K mg base (L2N.CX P w) 3 f fd ["self"] (spFree CS CN) := by
  refine okXN F sc_Store_free_number (fun vs H Q E h => ?_) (fun cdv A outer s H vs Q E hr h => ?_)
  · obtain ⟨p, wd, pd, S, rfl, _⟩ := h
    rfl
  · obtain ⟨p, wd, pd, S, rfl, SA, W, q⟩ := h
    have hu := hu_of hr
    refine ⟨_, (pss_cons (ps_while PassesOwn.leaving (pt_cmp (pc_din hu (pe_fld (pv 0) rfl) (pe_fld (pv 0) rfl)))
      (pss_one (ps_fld (pv 0) (pe_op op_add (pe_fld (pv 0) rfl) pe_int) rfl)))
    (pss_cons (ps_if (pt_cmpR op_ge (pe_fld (pv 0) rfl) (pe_fld (pv 0) rfl) (nomark _))
      (pss_one (ps_raiseE E_NoNumber rfl (L2N.takes_of rfl rfl rfl rfl) (hr.mono (by decide)) (pa_cons (pe_fld (pv 0) rfl) pa_nil))) pss_nil)
    (pss_one (ps_ret (pe_fld (pv 0) rfl))))), ?_⟩
    refine seq_while ?_
    refine while_m (fun m σ Hx => ∃ l, σ = [some (.ref p)] ∧ StoreAt CS Hx p wd pd { S with least := l } ∧ 0 ≤ l ∧ (∀ j, 0 ≤ j → j < l → S.live j) ∧ (∀ T, Mv T (own3 p wd pd) (own3 p wd pd) H Hx) ∧ m = S.pl.length - l.toNat)
      ⟨_, S.least, rfl, SA, W.l0, W.lst, fun T => Mv.refl T _ _, rfl⟩ ?_
    rintro m σ Hx ⟨l, rfl, SAx, l0, l1, mv, rfl⟩
    obtain ⟨⟨dx, ob⟩, ws, pc⟩ := id SAx
    refine ⟨_, rfl, p, CS, _, _, _, rfl, ob, TStore.cl, TStore.least, rfl, _, rfl, p, CS, _, _, _, rfl, ob, TStore.cl, TStore.places, rfl, pd, _, rfl, DGet.k (k := Sum.inl l) pc, _, rfl, ?_⟩
    rw [valP]
    by_cases hl : l ∈ S.pl.map (·.1)
    · rw [decide_eq_true hl]
      refine iteT ?_
      refine ⟨_, fun _ _ h => h, ?_⟩
      have l2 : ∀ j, 0 ≤ j → j < l + 1 → S.live j := fun j h0 h1 => by
        by_cases e : j = l
        · rw [e]; exact hl
        · exact l1 j h0 (by omega)
      have b := below_le l2
      refine ⟨_, rfl, p, CS, _, _, _, rfl, ob, TStore.cl, TStore.least, rfl, _, _, rfl, rfl, _, rfl, p, CS, dx, _, rfl, ob, TStore.cl, TStore.least, (by show 5 < 1000; decide), ?_⟩
      refine ⟨_, ?_, l + 1, rfl, ⟨⟨dx, upd_same⟩, ?_, ?_⟩, by omega, l2, fun T => (mv T).trans (Mv.upd ob nt_ins (.inl rfl)), rfl⟩
      · omega
      · rw [upd_ne (ne_of ws ob fun z => nomatch z)]; exact ws
      · rw [upd_ne (ne_of pc ob fun z => nomatch z)]; exact pc
    · rw [decide_eq_false hl]
      refine iteF ?_
      have Q2 := q l Hx l0 hl l1 SAx mv
      refine ⟨_, rfl, p, CS, _, _, _, rfl, ob, TStore.cl, TStore.least, rfl, _, rfl, p, CS, _, _, _, rfl, ob, TStore.cl, TStore.entries, rfl, _, _, rfl, rfl, _, rfl, ?_⟩
      by_cases he : S.ents ≤ l
      · rw [decide_eq_true he]
        refine iteT ?_
        refine ⟨_, rfl, p, CS, _, _, _, rfl, ob, TStore.cl, TStore.entries, rfl, ?_⟩
        exact err_intro (small_log W.ents0 (by have := W.ents_lim; show S.ents ≤ _; omega)) fun d H' h1 h2 h3 => Q2.2 he d H' h1 h2 h3
      · rw [decide_eq_false he]
        refine iteF ?_
        exact ⟨_, rfl, p, CS, _, _, _, rfl, ob, TStore.cl, TStore.least, rfl, Q2.1 (by omega)⟩
end
end Sg

/-! SgP7: allocate, the store's making, put. -/
namespace Sg
open PySem PySem.W PySem.Spec PyProof.Rows L2 L2H HotX
/-- the store with a new last object -/
def SSt.added (S : SSt) (m kind size : Int) : SSt :=
  { S with objs := S.objs ++ [⟨m, kind, List.replicate size.toNat 0⟩], pl := S.pl ++ [(m, ((flat S.objs).length : Int))], least := m }
theorem flat_added (S : SSt) (m kind size : Int) : flat (S.added m kind size).objs = flat S.objs ++ (m :: (size.toNat : Int) :: kind :: List.replicate size.toNat 0) := by
  show flat (S.objs ++ [_]) = _
  rw [flat_app, flat_cons, flat_nil, List.append_nil]
  simp [Ob.flat]
theorem Whole.least_set {S : SSt} (W : Whole S) {m : Int} (m0 : 0 ≤ m) (m2 : ∀ j, 0 ≤ j → j < m → S.live j) : Whole { S with least := m } :=
  { toLay := ⟨W.nd, W.sub, W.ndp, W.rng, W.fits, W.lim, W.ents_lim, W.ents0⟩, all := W.all, l0 := m0, lst := m2 }
theorem Whole.added {S : SSt} (W : Whole S) {m kind size : Int} (m0 : 0 ≤ m) (m1 : ¬ S.live m) (m2 : ∀ j, 0 ≤ j → j < m → S.live j) (hm : m < S.ents) (hs : 0 ≤ size) (fit : ((flat S.objs).length : Int) + 3 + size ≤ S.room) : Whole (S.added m kind size) := by
  have eo : offs 0 (S.added m kind size).objs = offs 0 S.objs ++ [(m, ((flat S.objs).length : Int))] := by
    show offs 0 (S.objs ++ [_]) = _
    rw [offs_app]
    simp [offs]
  have notin : m ∉ S.objs.map Ob.num := fun h => by
    obtain ⟨o, ho, e⟩ := List.mem_map.mp h
    exact m1 (e ▸ W.live_num ho)
  have lv : ∀ j, S.live j → (S.added m kind size).live j := fun j h => by
    show j ∈ (S.pl ++ _).map (·.1)
    rw [List.map_append]
    exact List.mem_append_left _ h
  refine { toLay := ⟨?_, fun x hx => ?_, ?_, fun o ho => ?_, ?_, W.lim, W.ents_lim, W.ents0⟩, all := fun x hx => ?_, l0 := m0, lst := fun j h0 h1 => lv j (m2 j h0 h1) }
  · show ((S.objs ++ [_]).map Ob.num).Nodup
    rw [List.map_append, List.nodup_append]
    exact ⟨W.nd, by simp, fun a ha b hb e => notin (by have hb := List.mem_singleton.mp hb; have hb : b = m := hb; rw [← hb, ← e]; exact ha)⟩
  · rw [eo]
    rcases List.mem_append.mp (show x ∈ S.pl ++ _ from hx) with h | h
    · exact List.mem_append_left _ (W.sub x h)
    · exact List.mem_append_right _ h
  · show ((S.pl ++ [(m, ((flat S.objs).length : Int))]).map (·.1)).Nodup
    rw [List.map_append, List.nodup_append]
    exact ⟨W.ndp, by simp, fun a ha b hb e => m1 (by have hb := List.mem_singleton.mp hb; have hb : b = m := hb; show m ∈ _; rw [← hb, ← e]; exact ha)⟩
  · rcases List.mem_append.mp (show o ∈ S.objs ++ _ from ho) with h | h
    · exact W.rng o h
    · rw [List.mem_singleton.mp h]
      exact ⟨m0, hm⟩
  · rw [flat_added]
    have e : (S.added m kind size).room = S.room := rfl
    rw [e]
    simp only [List.length_append, List.length_cons, List.length_replicate]
    omega
  · rw [eo] at hx
    rcases List.mem_append.mp hx with h | h
    · exact List.mem_append_left _ (W.all x h)
    · exact List.mem_append_right _ h
section
variable {P : Program} {w : World} {K : Frag} {mg : Str → Option Value} {base : Heap}
def spAlloc (CS CR CN : Addr) : Sp := fun vs H Q E => ∃ p wd pd S kind size, vs = [.ref p, .int kind, .int size] ∧ StoreAt CS H p wd pd S ∧ Whole S ∧ 0 ≤ size ∧ size ≤ 100000 ∧
  (((flat S.objs).length : Int) + 3 + size > S.room → ∀ d H', H d = none → Same H H' → H' d = some (.xd [("need", V.int (3 + size))]) → E (.ref CR) (some d) H') ∧
  (¬ ((flat S.objs).length : Int) + 3 + size > S.room → ∀ m, 0 ≤ m → ¬ S.live m → (∀ j, 0 ≤ j → j < m → S.live j) →
    (S.ents ≤ m → ∀ d H1 H'', StoreAt CS H1 p wd pd { S with least := m } → (∀ T, Mv T (own3 p wd pd) (own3 p wd pd) H H1) → H1 d = none → Same H1 H'' → H'' d = some (.xd [("limit", V.int S.ents)]) → E (.ref CN) (some d) H'') ∧
    (m < S.ents → ∀ H', StoreAt CS H' p wd pd (S.added m kind size) → (∀ T, Mv T (own3 p wd pd) (own3 p wd pd) H H') → Q (.int m) H'))
theorem sc_Store_allocate : FnScope ["self", "kind", "size", "number"] ["self", "kind", "size"] (defScope (inClass (top 18) 5)) := ⟨rfl, rfl, rfl, by decide +kernel, rfl, by decide +kernel, by decide +kernel⟩
theorem ok_Store_allocate {f : Addr} {fd : FuncData} (F : Fun K "allocate" "Store.allocate" (inClass (top 18) 5) f fd) {CS : Addr} (TStore : TStoreC K CS) (T : TxC mg) {CR CN : Addr} (E_NoRoom : EB P w K mg base "NoRoom" CR "need" "need") (M_Store_free_number : MX P w K mg base 3 CS "free_number" ["self"] (spFree CS CN)) : FnOk P w K mg base (L2N.CX P w) 4 f fd ["self", "kind", "size"] (spAlloc CS CR CN) := by
  refine okXN F sc_Store_allocate (fun vs H Q E h => ?_) (fun cdv A outer s H vs Q E hr h => ?_)
  · obtain ⟨p, wd, pd, S, kind, size, rfl, _⟩ := h
    rfl
  · obtain ⟨p, wd, pd, S, kind, size, rfl, SA, W, hs0, hs1, q1, q2⟩ := h
    have hu := hu_of hr
    refine ⟨_, (pss_cons (ps_if (pt_cmpR op_gt (pe_op op_add (pe_op op_add (pe_callB call_len_seq (by rfl) T.len PySem.boot_len (pa_cons (pe_fld (pv 0) rfl) pa_nil)) (pe_glob (v := .int 3) rfl T.HEADER.choose_spec ⟨_, rfl⟩)) (pv 2)) (pe_fld (pv 0) rfl) (nomark _))
      (pss_one (ps_raiseE E_NoRoom rfl (L2N.takes_of rfl rfl rfl rfl) (hr.mono (by decide)) (pa_cons (pe_op op_add (pe_glob (v := .int 3) rfl T.HEADER.choose_spec ⟨_, rfl⟩) (pv 2)) pa_nil))) pss_nil)
    (pss_cons (ps_set (i := 3) sc_Store_allocate.nd rfl (Or.inl rfl) (pe_mx0 (pv 0) TStore.cl M_Store_free_number (hr.mono (by decide)) (L2N.takes_of rfl rfl rfl rfl)))
    (pss_cons (ps_dput hu (pe_fld (pv 0) rfl) (pv 3) (pe_callB call_len_seq (by rfl) T.len PySem.boot_len (pa_cons (pe_fld (pv 0) rfl) pa_nil)) rfl)
    (pss_cons (ps_expr (pe_bm PySem.F.plainAttrs_list PySem.F.slot_list_extend PySem.F.type_list_extend mt_extend (pe_fld (pv 0) rfl) (pa_cons (pe_lst (pa_cons (pv 3) (pa_cons (pv 2) (pa_cons (pv 1) pa_nil)))) pa_nil)))
    (pss_cons (ps_expr (pe_bm PySem.F.plainAttrs_list PySem.F.slot_list_extend PySem.F.type_list_extend mt_extend (pe_fld (pv 0) rfl) (pa_cons (pe_op op_rep (pe_lst (pa_cons (pe_glob (v := .int 0) rfl T.NIL.choose_spec ⟨_, rfl⟩) pa_nil)) (pv 2)) pa_nil)))
    (pss_one (ps_ret (pv 3)))))))), ?_⟩
    obtain ⟨⟨dx, ob⟩, ws, pc⟩ := id SA
    refine ⟨_, rfl, p, CS, _, _, _, rfl, ob, TStore.cl, TStore.words, rfl, wd, _, rfl, .inl (SqL.of ws), _, _, rfl, rfl, _, rfl, _, _, rfl, rfl, _, rfl, p, CS, _, _, _, rfl, ob, TStore.cl, TStore.room, rfl, _, _, rfl, rfl, _, rfl, ?_⟩
    rw [List.length_map]
    by_cases hroom : ((flat S.objs).length : Int) + 3 + size > S.room
    · rw [decide_eq_true hroom]
      refine iteT ?_
      refine ⟨_, rfl, _, _, rfl, rfl, ?_⟩
      exact err_intro (small_log (by omega) (by omega)) fun d H' h1 h2 h3 => q1 hroom d H' h1 h2 h3
    · rw [decide_eq_false hroom]
      refine iteF ?_
      -- number = self.free_number()
      refine ⟨_, rfl, p, dx, _, rfl, ob, rfl, p, wd, pd, S, rfl, SA, W, fun m H1 m0 m1 m2 SA1 mv => ⟨fun hm => ?_, fun hm d H'' h1 h2 h3 => (q2 hroom m m0 m1 m2).1 hm d H1 H'' SA1 mv h1 h2 h3⟩⟩
      obtain ⟨⟨dx1, ob1⟩, ws1, pc1⟩ := id SA1
      have nwd : wd ≠ pd := ne_of ws1 pc1 fun z => nomatch z
      have npw : p ≠ wd := ne_of ob1 ws1 fun z => nomatch z
      have npd : p ≠ pd := ne_of ob1 pc1 fun z => nomatch z
      have flen : (flat S.objs).length ≤ 100000 := by have := W.fits; have := W.lim; omega
      -- self._places[number] = len(self.words)
      refine ⟨_, rfl, p, CS, _, _, _, rfl, ob1, TStore.cl, TStore.words, rfl, wd, _, rfl, .inl (SqL.of ws1), _, rfl, p, CS, _, _, _, rfl, ob1, TStore.cl, TStore.places, rfl, _, rfl, pd, _, rfl, DPut.k (k := Sum.inl m) pc1 ?_, ?_⟩
      · rw [List.length_map, sizeLine_eq]
        have := pl_le W.toLay
        show S.pl.length < _
        omega
      rw [putK_new _ (valP_none (show ¬ m ∈ _ from m1)), List.length_map]
      have enew : kvP S.pl ++ [((Sum.inl m : Key), V.int ((flat S.objs).length : Nat))] = kvP (S.added m kind size).pl := by simp [kvP, SSt.added]
      rw [show kvP ({ S with least := m } : SSt).pl ++ [((Sum.inl m : Key), V.int ((flat ({ S with least := m } : SSt).objs).length : Nat))] = kvP (S.added m kind size).pl from enew]
      obtain ⟨H2, e2⟩ : ∃ H2, H2 = upd H1 pd (.dK (kvP (S.added m kind size).pl)) := ⟨_, rfl⟩
      rw [← e2]
      have ob2 : H2 p = some (.ins CS dx1 (sfl S.room S.ents wd pd m)) := by rw [e2, upd_ne npd]; exact ob1
      have ws2 : H2 wd = some (.lst ((flat S.objs).map V.int)) := by rw [e2, upd_ne nwd]; exact ws1
      have pc2 : H2 pd = some (.dK (kvP (S.added m kind size).pl)) := by rw [e2, upd_same]
      have mv2 : ∀ T, Mv T (own3 p wd pd) (own3 p wd pd) H H2 := fun T => by rw [e2]; exact (mv T).trans (Mv.upd pc1 nt_dK (.inr (.inr rfl)))
      -- self.words.extend([number, size, kind])
      refine ⟨_, rfl, p, CS, _, _, _, rfl, ob2, TStore.cl, TStore.words, rfl, .inl ⟨rfl, _, SqL.of ws2⟩, _, rfl, _, rfl, _, rfl, by show 3 ≤ sizeLine; decide, fun a ha => ?_⟩
      have naw : a ≠ wd := fun z => by rw [z, ws2] at ha; cases ha
      refine ⟨wd, a, _, _, rfl, rfl, by rw [upd_ne naw.symm]; exact ws2, upd_same, by rw [List.length_map, sizeLine_eq]; show _ + 3 ≤ _; omega, ?_⟩
      obtain ⟨H3, e3⟩ : ∃ H3, H3 = upd (upd H2 a (.lst [V.int m, V.int size, V.int kind])) wd (.lst ((flat S.objs).map V.int ++ [V.int m, V.int size, V.int kind])) := ⟨_, rfl⟩
      rw [← e3]
      have ob3 : H3 p = some (.ins CS dx1 (sfl S.room S.ents wd pd m)) := by rw [e3, upd_ne npw, upd_ne (ne_of_none ob2 ha)]; exact ob2
      have ws3 : H3 wd = some (.lst ((flat S.objs).map V.int ++ [V.int m, V.int size, V.int kind])) := by rw [e3, upd_same]
      have pc3 : H3 pd = some (.dK (kvP (S.added m kind size).pl)) := by rw [e3, upd_ne nwd.symm, upd_ne (ne_of_none pc2 ha)]; exact pc2
      have mv3 : ∀ T, Mv T (own3 p wd pd) (own3 p wd pd) H H3 := fun T => by rw [e3]; exact (mv2 T).trans ((Mv.new ha).trans (Mv.upd (by rw [upd_ne naw.symm]; exact ws2) nt_lst (.inr (.inl rfl))))
      -- self.words.extend([NIL] * size)
      refine ⟨_, rfl, p, CS, _, _, _, rfl, ob3, TStore.cl, TStore.words, rfl, .inl ⟨rfl, _, SqL.of ws3⟩, by show 1 ≤ sizeLine; decide, fun a2 ha2 => ?_⟩
      refine ⟨_, rfl, a2, size, _, rfl, rfl, upd_same, by omega, by omega, by show 1 * size.toNat ≤ _; rw [sizeLine_eq]; omega, fun a3 ha3 => ?_⟩
      have n2w : a2 ≠ wd := fun z => by rw [z, ws3] at ha2; cases ha2
      have ha3' : H3 a3 = none := (same_new ha2).free ha3
      have n3w : a3 ≠ wd := fun z => by rw [z, ws3] at ha3'; cases ha3'
      have erep : (List.replicate size.toNat [V.int 0]).flatten = (List.replicate size.toNat (0 : Int)).map V.int := by
        rw [List.map_replicate]
        induction size.toNat with
        | zero => rfl
        | succ n ih => rw [List.replicate_succ, List.flatten_cons, ih]; rfl
      rw [erep]
      refine ⟨wd, a3, _, _, rfl, rfl, by rw [upd_ne n3w.symm, upd_ne n2w.symm]; exact ws3, upd_same, by simp only [List.length_append, List.length_map, List.length_replicate, sizeLine_eq, List.length_cons, List.length_nil]; omega, ?_⟩
      refine ⟨_, rfl, (q2 hroom m m0 m1 m2).2 hm _ ⟨⟨dx1, ?_⟩, ?_, ?_⟩ fun T => ?_⟩
      · rw [upd_ne npw, upd_ne (ne_of_none (same_new ha2 _ _ ob3) ha3), upd_ne (ne_of_none ob3 ha2)]
        exact ob3
      · rw [upd_same, flat_added, Int.toNat_of_nonneg hs0]
        simp
      · rw [upd_ne nwd.symm, upd_ne (ne_of_none (same_new ha2 _ _ pc3) ha3), upd_ne (ne_of_none pc3 ha2)]
        exact pc3
      · exact (mv3 T).trans ((Mv.new ha2).trans ((Mv.new ha3).trans (Mv.upd (by rw [upd_ne n3w.symm, upd_ne n2w.symm]; exact ws3) nt_lst (.inr (.inl rfl)))))
/-- a new store -/
def newS (room ents : Int) : SSt := ⟨room, ents, [], [], 0⟩
theorem whole_new {room ents : Int} (h0 : 0 ≤ room) (h1 : room ≤ 100000) (e0 : 0 ≤ ents) (e1 : ents ≤ 1000000) : Whole (newS room ents) :=
  { toLay := ⟨List.nodup_nil, fun x h => (by cases h), List.nodup_nil, fun x h => (by cases h), h0, h1, e1, e0⟩, all := fun x h => (by cases h), l0 := Int.le_refl _, lst := fun m a b => by have b : m < 0 := b; omega }
def spInitS (CS : Addr) : Sp := fun vs H Q _ => ∃ p dx r e, vs = [.ref p, .int r, .int e] ∧ H p = some (.ins CS dx []) ∧
  ∀ wd pd H', H wd = none → H pd = none → StoreAt CS H' p wd pd (newS r e) → (∀ b o, H b = some o → b ≠ p → H' b = some o) → Q .non H'
theorem sc_Store__init_ : FnScope ["self", "room", "entries"] ["self", "room", "entries"] (defScope (inClass (top 18) 0)) := ⟨rfl, rfl, rfl, by decide +kernel, rfl, by decide +kernel, by decide +kernel⟩
theorem ok_Store__init_ {f : Addr} {fd : FuncData} (F : Fun K "__init__" "Store.__init__" (inClass (top 18) 0) f fd) {CS : Addr} (TStore : TStoreC K CS) (T : TxC mg) : FnOk P w K mg base CX0 1 f fd ["self", "room", "entries"] (spInitS CS) := by
  refine F.ok sc_Store__init_ (fun vs H Q E h => ?_) (fun cdv A outer s H vs Q E hr h => ?_)
  · obtain ⟨p, dx, r, e, rfl, _⟩ := h
    rfl
  · obtain ⟨p, dx, r, e, rfl, ob, q⟩ := h
    have hu := hu_of hr
    refine ⟨_, (pss_cons (ps_fld (pv 0) (pv 1) rfl)
    (pss_cons (ps_fld (pv 0) (pv 2) rfl)
    (pss_cons (ps_fld (pv 0) (pe_lst pa_nil) rfl)
    (pss_cons (ps_fld (pv 0) pe_dnewK rfl)
    (pss_one (ps_fld (pv 0) pe_int rfl)))))), ?_⟩
    refine ⟨_, rfl, _, rfl, p, CS, dx, _, rfl, ob, TStore.cl, TStore.room, (by show 0 < 1000; decide), ?_⟩
    refine ⟨_, rfl, _, rfl, p, CS, dx, _, rfl, upd_same, TStore.cl, TStore.entries, (by show 1 < 1000; decide), ?_⟩
    refine ⟨by show 0 ≤ sizeLine; decide, fun wd hw => ?_⟩
    have npw : p ≠ wd := ne_of_none upd_same hw
    refine ⟨_, rfl, p, CS, dx, _, rfl, (by rw [upd_ne npw]; exact upd_same), TStore.cl, TStore.words, (by show 2 < 1000; decide), ?_⟩
    intro pd hd
    have npd : p ≠ pd := ne_of_none upd_same hd
    refine ⟨_, rfl, p, CS, dx, _, rfl, (by rw [upd_ne npd]; exact upd_same), TStore.cl, TStore.places, (by show 3 < 1000; decide), ?_⟩
    refine ⟨_, rfl, p, CS, dx, _, rfl, upd_same, TStore.cl, TStore.least, (by show 4 < 1000; decide), ?_⟩
    have hw0 : H wd = none := by rw [upd_ne npw.symm, upd_ne npw.symm] at hw; exact hw
    have nwd : wd ≠ pd := fun z => by rw [← z, upd_ne npw.symm, upd_same] at hd; cases hd
    have hd0 : H pd = none := by rw [upd_ne npd.symm, upd_ne nwd.symm, upd_ne npd.symm, upd_ne npd.symm] at hd; exact hd
    refine q wd pd _ hw0 hd0 ⟨⟨dx, upd_same⟩, ?_, ?_⟩ fun b o e n => ?_
    · rw [upd_ne npw.symm, upd_ne npw.symm, upd_ne nwd, upd_ne npw.symm, upd_same]
      rfl
    · rw [upd_ne npd.symm, upd_ne npd.symm, upd_same]
      rfl
    · rw [upd_ne n, upd_ne n, upd_ne (ne_of_none e hd0), upd_ne n, upd_ne (ne_of_none e hw0), upd_ne n, upd_ne n]
      exact e
/-- the store with one word of an object written -/
def setSlot (n : Int) (i : Nat) (v : Int) (o : Ob) : Ob := if o.num = n then { o with slots := o.slots.set i v } else o
def SSt.wrote (S : SSt) (n : Int) (i : Nat) (v : Int) : SSt := { S with objs := S.objs.map (setSlot n i v) }
def spPut (CS : Addr) : Sp := fun vs H Q _ => ∃ p wd pd S n o i v, vs = [.ref p, .int n, .int (i : Nat), .int v] ∧ StoreAt CS H p wd pd S ∧ Lay S ∧ S.ob n o ∧ i < o.slots.length ∧
  ∀ H', StoreAt CS H' p wd pd (S.wrote n i v) → (∀ T, Mv T (own3 p wd pd) (own3 p wd pd) H H') → Q .non H'
theorem setSlot_num (n : Int) (i : Nat) (v : Int) (o : Ob) : (setSlot n i v o).num = o.num := by unfold setSlot; split <;> rfl
theorem setSlot_len (n : Int) (i : Nat) (v : Int) (o : Ob) : (setSlot n i v o).slots.length = o.slots.length := by
  unfold setSlot
  split
  · simp
  · rfl
theorem map_setSlot_ne {n : Int} {i : Nat} {v : Int} {l : List Ob} (h : ∀ o ∈ l, o.num ≠ n) : l.map (setSlot n i v) = l := by
  refine (List.map_congr_left fun o ho => ?_).trans (List.map_id _)
  unfold setSlot
  rw [if_neg (h o ho)]
  rfl
theorem offs_setSlot (n : Int) (i : Nat) (v : Int) : ∀ (p : Nat) (l : List Ob), offs p (l.map (setSlot n i v)) = offs p l
  | p, [] => rfl
  | p, o :: l => by rw [List.map_cons, offs, offs, setSlot_num, setSlot_len, offs_setSlot]
theorem flat_len_setSlot (n : Int) (i : Nat) (v : Int) : ∀ (l : List Ob), (flat (l.map (setSlot n i v))).length = (flat l).length
  | [] => rfl
  | o :: l => by rw [List.map_cons, flat_cons, flat_cons, List.length_append, List.length_append, Ob.flat_len, Ob.flat_len, setSlot_len, flat_len_setSlot]
theorem Whole.wrote {S : SSt} (W : Whole S) (n : Int) (i : Nat) (v : Int) : Whole (S.wrote n i v) :=
  { toLay := ⟨by show ((S.objs.map (setSlot n i v)).map Ob.num).Nodup; rw [List.map_map, show Ob.num ∘ setSlot n i v = Ob.num from funext fun o => setSlot_num n i v o]; exact W.nd,
      fun x hx => by show x ∈ offs 0 (S.objs.map _); rw [offs_setSlot]; exact W.sub x hx, W.ndp, fun o ho => by
        obtain ⟨o2, h2, rfl⟩ := List.mem_map.mp (show o ∈ S.objs.map (setSlot n i v) from ho)
        rw [setSlot_num]
        exact W.rng o2 h2, by show ((flat (S.objs.map (setSlot n i v))).length : Int) ≤ S.room; rw [flat_len_setSlot]; exact W.fits, W.lim, W.ents_lim, W.ents0⟩
    all := fun x hx => W.all x (by have hx : x ∈ offs 0 (S.objs.map (setSlot n i v)) := hx; rw [offs_setSlot] at hx; exact hx), l0 := W.l0, lst := W.lst }
theorem flat_wrote {S : SSt} (L : Lay S) {pre post : List Ob} {o : Ob} {i : Nat} {v : Int} (e : S.objs = pre ++ o :: post) (hi : i < o.slots.length) : flat (S.wrote o.num i v).objs = (flat S.objs).set ((flat pre).length + (3 + i)) v := by
  have nd := L.nd
  rw [e, List.map_append, List.map_cons, List.nodup_append] at nd
  have n1 : ∀ x ∈ pre, x.num ≠ o.num := fun x hx z => nd.2.2 _ (List.mem_map.mpr ⟨x, hx, rfl⟩) _ List.mem_cons_self z
  have n2 : ∀ x ∈ post, x.num ≠ o.num := fun x hx z => (List.nodup_cons.mp nd.2.1).1 (List.mem_map.mpr ⟨x, hx, z⟩)
  show flat (S.objs.map (setSlot o.num i v)) = _
  rw [e, List.map_append, List.map_cons, map_setSlot_ne n1, map_setSlot_ne n2, flat_app, flat_cons, flat_app, flat_cons, List.set_append_right _ _ (by omega), Nat.add_sub_cancel_left, List.set_append_left _ _ (by rw [Ob.flat_len]; omega)]
  congr 2
  unfold setSlot
  rw [if_pos rfl]
  simp [Ob.flat, show 3 + i = i + 1 + 1 + 1 by omega]
theorem sc_Store_put : FnScope ["self", "number", "at", "word"] ["self", "number", "at", "word"] (defScope (inClass (top 18) 10)) := ⟨rfl, rfl, rfl, by decide +kernel, rfl, by decide +kernel, by decide +kernel⟩
theorem ok_Store_put {f : Addr} {fd : FuncData} (F : Fun K "put" "Store.put" (inClass (top 18) 10) f fd) {CS : Addr} (TStore : TStoreC K CS) (T : TxC mg) : FnB P w K mg base 1 f fd ["self", "number", "at", "word"] (spPut CS) := by
  refine okB F sc_Store_put (fun vs H Q E h => ?_) (fun cdv A outer s H vs Q E o hr cool h => ?_)
  · obtain ⟨p, wd, pd, S, n, o1, i, v, rfl, _⟩ := h
    rfl
  · obtain ⟨p, wd, pd, S, n, o1, i, v, rfl, SA, L, ho, hi, q⟩ := h
    have hu := huH hr
    refine ⟨_, (pss_one (ps_asg (pv 3) (pg_sub (pe_fld (pv 0) rfl) (pe_op op_add (pe_op op_add (pe_dget hu (pe_fld (pv 0) rfl) (pv 1) (fun _ _ => rfl)) (pe_glob (v := .int 3) rfl T.HEADER.choose_spec ⟨_, rfl⟩)) (pv 2)) set_list))), ?_⟩
    obtain ⟨⟨dx, ob⟩, ws, pc⟩ := id SA
    obtain ⟨pre, post, e, hp⟩ := L.place ho
    have npd : p ≠ pd := ne_of ob pc (fun z => nomatch z)
    have npw : p ≠ wd := ne_of ob ws (fun z => nomatch z)
    have nwd : wd ≠ pd := ne_of ws pc (fun z => nomatch z)
    have hl := len_split pre post o1
    rw [← e] at hl
    refine ⟨_, rfl, _, rfl, p, CS, _, _, _, rfl, ob, TStore.cl, TStore.words, rfl, _, rfl, p, CS, _, _, _, rfl, ob, TStore.cl, TStore.places, rfl, _, rfl, pd, _, rfl, dget_of pc (valP_some L.ndp hp), _, _, rfl, rfl, _, rfl, _, _, rfl, rfl, ?_⟩
    have ej : ((flat pre).length : Int) + 3 + (i : Int) = (((flat pre).length + (3 + i) : Nat) : Int) := by omega
    have hx : ixN ((flat S.objs).map V.int).length (((flat pre).length : Int) + 3 + (i : Int)) = some ((flat pre).length + (3 + i)) := by
      rw [ej, List.length_map]
      unfold ixN
      rw [if_pos (by omega)]
      first
        | (rw [if_pos (by omega)]; rfl)
        | (simp; omega)
    refine ⟨wd, _, _, (flat pre).length + (3 + i), rfl, rfl, ws, hx, ?_⟩
    obtain ⟨h1, h2, h3⟩ := ho
    subst h2
    refine q _ ⟨⟨dx, by rw [upd_ne npw]; exact ob⟩, ?_, by rw [upd_ne nwd.symm]; exact pc⟩ fun T => Mv.upd ws nt_lst (.inr (.inl rfl))
    rw [upd_same, flat_wrote L e hi]
    simp [List.map_set]
end
end Sg

/-! SgP8: the space's plain methods. -/
namespace Sg
open PySem PySem.W PySem.Spec PyProof.Rows L2 L2H HotX
structure SSp where
  store : SSt
  pressure : List Int
  always : Bool
  allocs : Int
  colls : Int
  roots : List Int
  held : List Int
structure PAd where
  st : Addr
  w : Addr
  d : Addr
  pr : Addr
  rt : Addr
  hl : Addr
abbrev pfl (st pr : Addr) (alw : Bool) (al co : Int) (rt hl : Addr) : List (Str × V) :=
  [("store", .ref st), ("pressure", .ref pr), ("always", .bl alw), ("allocations", .int al), ("collections", .int co), ("_roots", .ref rt), ("_held", .ref hl), ("_saved", .non)]
def PAd.own (A : PAd) (s : Addr) : Addr → Prop := fun b => b = s ∨ b = A.pr ∨ b = A.rt ∨ b = A.hl ∨ own3 A.st A.w A.d b
structure SpaceAt (CP CS : Addr) (H : Hp) (s : Addr) (A : PAd) (Z : SSp) : Prop where
  ob : ∃ dx, H s = some (.ins CP dx (pfl A.st A.pr Z.always Z.allocs Z.colls A.rt A.hl))
  sto : StoreAt CS H A.st A.w A.d Z.store
  prs : H A.pr = some (.lst (Z.pressure.map V.int))
  rts : H A.rt = some (.lst (Z.roots.map V.int))
  hld : H A.hl = some (.lst (Z.held.map V.int))
  nst : A.st ≠ s
  nds : A.pr ≠ A.rt ∧ A.pr ≠ A.hl ∧ A.rt ≠ A.hl ∧ A.pr ≠ A.w ∧ A.rt ≠ A.w ∧ A.hl ≠ A.w
theorem SpaceAt.mv {T : List (Addr × Str)} {O O' : Addr → Prop} {CP CS : Addr} {H H' : Hp} {s : Addr} {A : PAd} {Z : SSp} (X : SpaceAt CP CS H s A Z) (m : Mv T O O' H H') (n : ∀ b, A.own s b → ¬ O b) : SpaceAt CP CS H' s A Z :=
  ⟨let ⟨dx, h⟩ := X.ob; ⟨dx, (m.kp _ _ h (n _ (.inl rfl)) (fun _ z => nomatch z)).1⟩, X.sto.mv m fun b hb => n b (.inr (.inr (.inr (.inr hb)))), (m.kp _ _ X.prs (n _ (.inr (.inl rfl))) (fun _ z => nomatch z)).1,
    (m.kp _ _ X.rts (n _ (.inr (.inr (.inl rfl)))) (fun _ z => nomatch z)).1, (m.kp _ _ X.hld (n _ (.inr (.inr (.inr (.inl rfl))))) (fun _ z => nomatch z)).1, X.nst, X.nds⟩
theorem SpaceAt.same {CP CS : Addr} {H H' : Hp} {s : Addr} {A : PAd} {Z : SSp} (X : SpaceAt CP CS H s A Z) (e : Same H H') : SpaceAt CP CS H' s A Z :=
  X.mv (O := fun _ => False) (T := []) (Mv.same e) fun _ _ z => z
/-- what is owned stands -/
theorem SpaceAt.stands {CP CS : Addr} {H : Hp} {s : Addr} {A : PAd} {Z : SSp} (X : SpaceAt CP CS H s A Z) {b : Addr} (h : A.own s b) : ∃ o, H b = some o := by
  obtain ⟨⟨dx, o0⟩, ⟨⟨dy, o1⟩, o2, o3⟩, o4, o5, o6, _, _⟩ := X
  rcases h with rfl | rfl | rfl | rfl | rfl | rfl | rfl <;> exact ⟨_, by assumption⟩
theorem SpaceAt.notOwn {CP CS : Addr} {H : Hp} {s : Addr} {A : PAd} {Z : SSp} (X : SpaceAt CP CS H s A Z) {b : Addr} (h : H b = none) : ¬ A.own s b := fun z => by
  obtain ⟨o, e⟩ := X.stands z
  rw [h] at e
  cases e
/-- the store has moved -/
theorem SpaceAt.store_to {T : List (Addr × Str)} {CP CS : Addr} {H H' : Hp} {s : Addr} {A : PAd} {Z : SSp} {w' d' : Addr} {S' : SSt} (X : SpaceAt CP CS H s A Z) (SA : StoreAt CS H' A.st w' d' S') (m : Mv T (own3 A.st A.w A.d) (own3 A.st w' d') H H') :
    SpaceAt CP CS H' s { A with w := w', d := d' } { Z with store := S' } ∧ Mv T (A.own s) (PAd.own { A with w := w', d := d' } s) H H' := by
  obtain ⟨⟨dx, o0⟩, S0, o4, o5, o6, n1, n2, n3, n4, n5, n6, n7⟩ := X
  have S0' := S0
  obtain ⟨⟨dy, o1⟩, o2, o3⟩ := S0
  have q0 : ¬ own3 A.st A.w A.d s := by
    rintro (z | z | z)
    · exact n1 z.symm
    · exact ne_of o0 o2 (fun z => nomatch z) z
    · exact ne_of o0 o3 (fun z => nomatch z) z
  have q4 : ¬ own3 A.st A.w A.d A.pr := by
    rintro (z | z | z)
    · exact ne_of o4 o1 (fun z => nomatch z) z
    · exact n5 z
    · exact ne_of o4 o3 (fun z => nomatch z) z
  have q5 : ¬ own3 A.st A.w A.d A.rt := by
    rintro (z | z | z)
    · exact ne_of o5 o1 (fun z => nomatch z) z
    · exact n6 z
    · exact ne_of o5 o3 (fun z => nomatch z) z
  have q6 : ¬ own3 A.st A.w A.d A.hl := by
    rintro (z | z | z)
    · exact ne_of o6 o1 (fun z => nomatch z) z
    · exact n7 z
    · exact ne_of o6 o3 (fun z => nomatch z) z
  have r0 := m.kp _ _ o0 q0 (fun _ z => nomatch z)
  have r4 := m.kp _ _ o4 q4 (fun _ z => nomatch z)
  have r5 := m.kp _ _ o5 q5 (fun _ z => nomatch z)
  have r6 := m.kp _ _ o6 q6 (fun _ z => nomatch z)
  refine ⟨⟨⟨dx, r0.1⟩, SA, r4.1, r5.1, r6.1, n1, n2, n3, n4, fun z => r4.2 (.inr (.inl z)), fun z => r5.2 (.inr (.inl z)), fun z => r6.2 (.inr (.inl z))⟩, ⟨fun b o e n t => ?_, m.tb⟩⟩
  have e1 := m.kp b o e (fun z => n (.inr (.inr (.inr (.inr z))))) t
  refine ⟨e1.1, ?_⟩
  rintro (z | z | z | z | z)
  · exact n (.inl z)
  · exact n (.inr (.inl z))
  · exact n (.inr (.inr (.inl z)))
  · exact n (.inr (.inr (.inr (.inl z))))
  · exact e1.2 z
/-- the space's own object is written -/
theorem SpaceAt.self_upd {CP CS : Addr} {H : Hp} {s : Addr} {A : PAd} {Z : SSp} (X : SpaceAt CP CS H s A Z) (dx : Addr) (alw : Bool) (al co : Int) :
    SpaceAt CP CS (upd H s (.ins CP dx (pfl A.st A.pr alw al co A.rt A.hl))) s A { Z with always := alw, allocs := al, colls := co } := by
  obtain ⟨⟨dx0, o0⟩, ⟨⟨dy, o1⟩, o2, o3⟩, o4, o5, o6, n1, n2⟩ := X
  exact ⟨⟨dx, upd_same⟩, ⟨⟨dy, by rw [upd_ne n1]; exact o1⟩, by rw [upd_ne (ne_of o2 o0 fun z => nomatch z)]; exact o2, by rw [upd_ne (ne_of o3 o0 fun z => nomatch z)]; exact o3⟩,
    by rw [upd_ne (ne_of o4 o0 fun z => nomatch z)]; exact o4, by rw [upd_ne (ne_of o5 o0 fun z => nomatch z)]; exact o5, by rw [upd_ne (ne_of o6 o0 fun z => nomatch z)]; exact o6, n1, n2⟩
theorem SpaceAt.self_mv {T : List (Addr × Str)} {CP CS : Addr} {H : Hp} {s : Addr} {A : PAd} {Z : SSp} (X : SpaceAt CP CS H s A Z) (o : HO) : Mv T (A.own s) (A.own s) H (upd H s o) := by
  obtain ⟨dx, h⟩ := X.ob
  exact Mv.upd h nt_ins (.inl rfl)
/-- the list of the roots, of the held words -/
theorem SpaceAt.rt_upd {CP CS : Addr} {H : Hp} {s : Addr} {A : PAd} {Z : SSp} (X : SpaceAt CP CS H s A Z) (rs : List Int) : SpaceAt CP CS (upd H A.rt (.lst (rs.map V.int))) s A { Z with roots := rs } := by
  obtain ⟨⟨dx, o0⟩, ⟨⟨dy, o1⟩, o2, o3⟩, o4, o5, o6, n1, n2, n3, n4, n5, n6, n7⟩ := X
  exact ⟨⟨dx, by rw [upd_ne (ne_of o0 o5 fun z => nomatch z)]; exact o0⟩, ⟨⟨dy, by rw [upd_ne (ne_of o1 o5 fun z => nomatch z)]; exact o1⟩, by rw [upd_ne n6.symm]; exact o2, by rw [upd_ne (ne_of o3 o5 fun z => nomatch z)]; exact o3⟩,
    by rw [upd_ne n2]; exact o4, upd_same, by rw [upd_ne n4.symm]; exact o6, n1, n2, n3, n4, n5, n6, n7⟩
theorem SpaceAt.hl_upd {CP CS : Addr} {H : Hp} {s : Addr} {A : PAd} {Z : SSp} (X : SpaceAt CP CS H s A Z) (rs : List Int) : SpaceAt CP CS (upd H A.hl (.lst (rs.map V.int))) s A { Z with held := rs } := by
  obtain ⟨⟨dx, o0⟩, ⟨⟨dy, o1⟩, o2, o3⟩, o4, o5, o6, n1, n2, n3, n4, n5, n6, n7⟩ := X
  exact ⟨⟨dx, by rw [upd_ne (ne_of o0 o6 fun z => nomatch z)]; exact o0⟩, ⟨⟨dy, by rw [upd_ne (ne_of o1 o6 fun z => nomatch z)]; exact o1⟩, by rw [upd_ne n7.symm]; exact o2, by rw [upd_ne (ne_of o3 o6 fun z => nomatch z)]; exact o3⟩,
    by rw [upd_ne n3]; exact o4, by rw [upd_ne n4]; exact o5, upd_same, n1, n2, n3, n4, n5, n6, n7⟩
theorem upd_upd {H : Hp} {a : Addr} {o o' : HO} : upd (upd H a o) a o' = upd H a o' := by
  funext b
  by_cases c : b = a
  · rw [c, upd_same, upd_same]
  · rw [upd_ne c, upd_ne c, upd_ne c]
structure TSpaceC (K : Frag) (CP : Addr) : Prop where
  cl : Cls K CP
  store : NoAttr K CP "store"
  pressure : NoAttr K CP "pressure"
  always : NoAttr K CP "always"
  allocations : NoAttr K CP "allocations"
  collections : NoAttr K CP "collections"
  roots : NoAttr K CP "_roots"
  held : NoAttr K CP "_held"
  saved : NoAttr K CP "_saved"
/-- a class whose objects are made by its __init__ -/
structure MKB (P : Program) (w : World) (K : Frag) (mg : Str → Option Value) (base : Heap) (k : Nat) (x : Str) (C : Addr) (ps : List Str) (sp : Sp) : Prop where
  ex : ∃ f fd, FnOk P w K mg base CX0 k f fd ps sp ∧ Mk K C f ∧ L2.Binds K fd ps []
  hm : mg x = some (.ref C)
theorem pe_mkb {X : Cx} {k : Nat} {x : Str} {C : Addr} {ps : List Str} {sp : Sp} {e : Expr} {es : List Expr} {t : TA} {p pos : Pos} (M : MKB X.prog X.w X.K X.mg X.base k x C ps sp) (hr : Room (k + 1) X.A) (ha : PA X (e :: es) t) (hg : Gl X x := by rfl)
    (hdb : (x == ("__debug__" : Str)) = false := by decide) (he : starEach (e :: es) X.env = (false, eval e X.env) :: starEach es X.env := by rfl) (hpl : (backTo pos (starEach es X.env)).any (·.1) = false := by rfl) :
    PE X (.Call (.Name x p) (e :: es) [] pos) (tMake C sp [] EN t) := by
  obtain ⟨f, fd, F, mk, hb⟩ := M.ex
  exact pe_make mk F hr hg M.hm hb .nil (fun _ _ _ _ _ _ _ h => h.elim) ha hdb he hpl
section
variable {P : Program} {w : World} {K : Frag} {mg : Str → Option Value} {base : Heap}
def newP (room ents : Int) : SSp := ⟨newS room ents, [], false, 0, 0, List.replicate 16 0, []⟩
def spInitP (CP CS : Addr) : Sp := fun vs H Q _ => ∃ s1 dx r e, vs = [.ref s1, .int r, .int e] ∧ H s1 = some (.ins CP dx []) ∧
  ∀ A H', SpaceAt CP CS H' s1 A (newP r e) → (∀ b, A.own s1 b → b ≠ s1 → H b = none) → (∀ b o, H b = some o → b ≠ s1 → H' b = some o) → Q .non H'
theorem sc_Space__init_ : FnScope ["self", "room", "entries"] ["self", "room", "entries"] (defScope (inClass (top 21) 0)) := ⟨rfl, rfl, rfl, by decide +kernel, rfl, by decide +kernel, by decide +kernel⟩
theorem ok_Space__init_ {f : Addr} {fd : FuncData} (F : Fun K "__init__" "Space.__init__" (inClass (top 21) 0) f fd) {CP CS : Addr} (TStore : TStoreC K CS) (TSpace : TSpaceC K CP) (T : TxC mg) (K_Store : MKB P w K mg base 1 "Store" CS ["self", "room", "entries"] (spInitS CS)) : FnOk P w K mg base CX0 3 f fd ["self", "room", "entries"] (spInitP CP CS) := by
  refine F.ok sc_Space__init_ (fun vs H Q E h => ?_) (fun cdv A outer s H vs Q E hr h => ?_)
  · obtain ⟨s1, dx, r, e, rfl, _⟩ := h
    rfl
  · obtain ⟨s1, dx, r, e, rfl, ob, q⟩ := h
    have hu := hu_of hr
    refine ⟨_, (pss_cons (ps_fld (pv 0) (pe_mkb K_Store (hr.mono (by decide)) (pa_cons (pv 1) (pa_cons (pv 2) pa_nil))) rfl)
    (pss_cons (ps_fld (pv 0) (pe_lst pa_nil) rfl)
    (pss_cons (ps_fld (pv 0) pe_bl rfl)
    (pss_cons (ps_fld (pv 0) pe_int rfl)
    (pss_cons (ps_fld (pv 0) pe_int rfl)
    (pss_cons (ps_fld (pv 0) (pe_op op_rep (pe_lst (pa_cons (pe_glob (v := .int 0) rfl T.NIL.choose_spec ⟨_, rfl⟩) pa_nil)) (pe_glob (v := .int 16) rfl T.ROOTS.choose_spec ⟨_, rfl⟩)) rfl)
    (pss_cons (ps_fld (pv 0) (pe_lst pa_nil) rfl)
    (pss_one (ps_fld (pv 0) pe_non rfl))))))))), ?_⟩
    -- self.store = Store(room, entries)
    refine ⟨_, rfl, _, rfl, fun x dy nx ndx nex => ?_⟩
    have nxs : x ≠ s1 := fun z => by rw [z, ob] at nx; cases nx
    have nds : dy ≠ s1 := fun z => by rw [z, ob] at ndx; cases ndx
    refine ⟨x, dy, r, e, rfl, upd_same, fun wd pd H1 hw hd SA kp => ⟨rfl, ?_⟩⟩
    have k1 : ∀ b o, H b = some o → H1 b = some o := fun b o e => kp b o (by rw [upd_ne (ne_of_none e nx), upd_ne (ne_of_none e ndx)]; exact e) (ne_of_none e nx)
    have f1 : ∀ b, H1 b = none → H b = none := fun b h => Same.free (H := H) (H' := H1) k1 h
    have ob1 := k1 _ _ ob
    refine ⟨_, rfl, s1, CP, dx, _, rfl, ob1, TSpace.cl, TSpace.store, (by show 0 < 1000; decide), ?_⟩
    -- self.pressure = []
    obtain ⟨H2, e2⟩ : ∃ H2, H2 = upd H1 s1 (.ins CP dx (putF "store" (V.ref x) [])) := ⟨_, rfl⟩
    rw [← e2]
    have k2 : ∀ b o, H1 b = some o → b ≠ s1 → H2 b = some o := fun b o e n => by rw [e2, upd_ne n]; exact e
    have ob2 : H2 s1 = some (.ins CP dx [("store", .ref x)]) := by rw [e2]; exact upd_same
    refine ⟨by show 0 ≤ sizeLine; decide, fun pr hpr => ?_⟩
    have npr : s1 ≠ pr := ne_of_none ob2 hpr
    refine ⟨_, rfl, s1, CP, dx, _, rfl, (by rw [upd_ne npr]; exact ob2), TSpace.cl, TSpace.pressure, (by show 1 < 1000; decide), ?_⟩
    refine ⟨_, rfl, s1, CP, dx, _, rfl, upd_same, TSpace.cl, TSpace.always, (by show 2 < 1000; decide), ?_⟩
    refine ⟨_, rfl, s1, CP, dx, _, rfl, upd_same, TSpace.cl, TSpace.allocations, (by show 3 < 1000; decide), ?_⟩
    refine ⟨_, rfl, s1, CP, dx, _, rfl, upd_same, TSpace.cl, TSpace.collections, (by show 4 < 1000; decide), ?_⟩
    rw [upd_upd, upd_upd, upd_upd]
    obtain ⟨H3, e3⟩ : ∃ H3, H3 = upd (upd H2 pr (.lst [])) s1 (.ins CP dx [("store", .ref x), ("pressure", .ref pr), ("always", .bl false), ("allocations", .int 0), ("collections", .int 0)]) := ⟨_, rfl⟩
    show tSeq _ _ _ _ (upd (upd H2 pr (.lst [])) s1 (.ins CP dx [("store", .ref x), ("pressure", .ref pr), ("always", .bl false), ("allocations", .int 0), ("collections", .int 0)]))
    rw [← e3]
    have k3 : ∀ b o, H2 b = some o → b ≠ s1 → H3 b = some o := fun b o e n => by rw [e3, upd_ne n, upd_ne (ne_of_none e hpr)]; exact e
    have ob3 : H3 s1 = some (.ins CP dx [("store", .ref x), ("pressure", .ref pr), ("always", .bl false), ("allocations", .int 0), ("collections", .int 0)]) := by rw [e3, upd_same]
    have pr3 : H3 pr = some (.lst []) := by rw [e3, upd_ne npr.symm, upd_same]
    have kH : ∀ b o, H b = some o → b ≠ s1 → H3 b = some o := fun b o e n => k3 b o (k2 b o (k1 b o e) n) n
    -- self._roots = [NIL] * ROOTS
    refine ⟨by show 1 ≤ sizeLine; decide, fun a ha => ⟨a, 16, _, rfl, rfl, upd_same, by decide, by decide, by decide, fun rt hrt => ?_⟩⟩
    have nrt : s1 ≠ rt := ne_of_none (same_new ha _ _ ob3) hrt
    have nsa : s1 ≠ a := ne_of_none ob3 ha
    refine ⟨_, rfl, s1, CP, dx, _, rfl, (by rw [upd_ne nrt, upd_ne nsa]; exact ob3), TSpace.cl, TSpace.roots, (by show 5 < 1000; decide), ?_⟩
    -- self._held = []
    refine ⟨by show 0 ≤ sizeLine; decide, fun hl hhl => ?_⟩
    have nhl : s1 ≠ hl := ne_of_none upd_same hhl
    refine ⟨_, rfl, s1, CP, dx, _, rfl, (by rw [upd_ne nhl]; exact upd_same), TSpace.cl, TSpace.held, (by show 6 < 1000; decide), ?_⟩
    -- self._saved = None
    refine ⟨_, rfl, s1, CP, dx, _, rfl, upd_same, TSpace.cl, TSpace.saved, (by show 7 < 1000; decide), ?_⟩
    rw [upd_upd]
    have hrt3 : H3 rt = none := (same_new ha).free hrt
    have nhr : hl ≠ rt := fun z => by rw [z, upd_ne nrt.symm, upd_same] at hhl; cases hhl
    have hhl3 : H3 hl = none := by
      rw [upd_ne nhl.symm, upd_ne nhr] at hhl
      exact (same_new ha).free hhl
    have old : ∀ b o, H3 b = some o → b ≠ s1 → ∀ u v, (upd (upd (upd (upd (upd H3 a (.lst [V.int 0])) rt (.lst (List.replicate (16 : Int).toNat [V.int 0]).flatten)) s1 u) hl (.lst [])) s1 v) b = some o := fun b o e n u v => by
      rw [upd_ne n, upd_ne (ne_of_none e hhl3), upd_ne n, upd_ne (ne_of_none e hrt3), upd_ne (ne_of_none e ha)]
      exact e
    have fr3 : ∀ b, b ≠ s1 → H3 b = none → H b = none := fun b n h => by
      cases q : H b with
      | none => rfl
      | some o => rw [kH b o q n] at h; cases h
    have fx : ∀ b, (upd (upd H dy (.own x)) x (.ins CS dy [])) b = none → b ≠ x ∧ H b = none := fun b h => by
      have n1 : b ≠ x := fun z => by rw [z, upd_same] at h; cases h
      have n2 : b ≠ dy := fun z => by rw [z, upd_ne nex, upd_same] at h; cases h
      rw [upd_ne n1, upd_ne n2] at h
      exact ⟨n1, h⟩
    obtain ⟨⟨ds, o1⟩, o2, o3⟩ := id SA
    have nws : wd ≠ s1 := fun z => by have := (fx _ hw).2; rw [z, ob] at this; cases this
    have nps : pd ≠ s1 := fun z => by have := (fx _ hd).2; rw [z, ob] at this; cases this
    have x3 := k3 _ _ (k2 _ _ o1 nxs) nxs
    have w3 := k3 _ _ (k2 _ _ o2 nws) nws
    have d3 := k3 _ _ (k2 _ _ o3 nps) nps
    have hpr1 : H1 pr = none := by rw [e2, upd_ne npr.symm] at hpr; exact hpr
    refine q ⟨x, wd, pd, pr, rt, hl⟩ _ ⟨⟨dx, upd_same⟩, ⟨⟨ds, ?_⟩, ?_, ?_⟩, ?_, ?_, ?_, nxs, ?_, ?_, ?_, ?_, ?_, ?_⟩ (fun b hb n => ?_) fun b o e n => ?_
    · exact old _ _ x3 nxs _ _
    · exact old _ _ w3 nws _ _
    · exact old _ _ d3 nps _ _
    · exact old _ _ pr3 npr.symm _ _
    · show upd _ s1 _ rt = _
      rw [upd_ne nrt.symm, upd_ne nhr.symm, upd_ne nrt.symm, upd_same]
      rfl
    · show upd _ s1 _ hl = _
      rw [upd_ne nhl.symm, upd_same]
      rfl
    · exact ne_of_none pr3 hrt3
    · exact ne_of_none pr3 hhl3
    · exact nhr.symm
    · exact fun z => by have z : pr = wd := z; rw [z, o2] at hpr1; cases hpr1
    · exact fun z => by have z : rt = wd := z; rw [z, w3] at hrt3; cases hrt3
    · exact fun z => by have z : hl = wd := z; rw [z, w3] at hhl3; cases hhl3
    · rcases hb with z | z | z | z | z | z | z
      · exact absurd z n
      · rw [z]; exact f1 _ hpr1
      · rw [z] at n ⊢; exact fr3 _ n hrt3
      · rw [z] at n ⊢; exact fr3 _ n hhl3
      · rw [z]; exact nx
      · rw [z]; exact (fx _ hw).2
      · rw [z]; exact (fx _ hd).2
    · exact old _ _ (kH b o e n) n _ _
end
end Sg

/-! SgP9: the space's methods that raise nothing. -/
namespace Sg
open PySem PySem.W PySem.Spec PyProof.Rows L2 L2H HotX
def SSp.allRoots (Z : SSp) : List Int := 0 :: (Z.roots ++ Z.held)
section
variable {P : Program} {w : World} {K : Frag} {mg : Str → Option Value} {base : Heap}
def spRoot (CP CS : Addr) : Sp := fun vs H Q _ => ∃ s1 A Z k v, vs = [.ref s1, .int (k : Nat)] ∧ SpaceAt CP CS H s1 A Z ∧ Z.roots[k]? = some v ∧ Q (.int v) H
theorem sc_Space_root : FnScope ["self", "k"] ["self", "k"] (defScope (inClass (top 21) 2)) := ⟨rfl, rfl, rfl, by decide +kernel, rfl, by decide +kernel, by decide +kernel⟩
theorem ok_Space_root {f : Addr} {fd : FuncData} (F : Fun K "root" "Space.root" (inClass (top 21) 2) f fd) {CP CS : Addr} (TStore : TStoreC K CS) (TSpace : TSpaceC K CP) (T : TxC mg) : FnB P w K mg base 1 f fd ["self", "k"] (spRoot CP CS) := by
  refine okB F sc_Space_root (fun vs H Q E h => ?_) (fun cdv A outer s H vs Q E o hr cool h => ?_)
  · obtain ⟨s1, A1, Z, k, v, rfl, _⟩ := h
    rfl
  · obtain ⟨s1, A1, Z, k, v, rfl, XA, hk, q⟩ := h
    have hu := huH hr
    refine ⟨_, (pss_one (ps_ret (pe_ix ix_list (pe_fld (pv 0) rfl) (pv 1) (fun _ _ => rfl)))), ?_⟩
    obtain ⟨dx, ob⟩ := XA.ob
    exact ⟨_, rfl, s1, CP, _, _, _, rfl, ob, TSpace.cl, TSpace.roots, rfl, _, rfl, A1.rt, _, _, _, rfl, rfl, SqL.of XA.rts, atI_nat (map_int hk), q⟩
def spSetRoot (CP CS : Addr) : Sp := fun vs H Q _ => ∃ s1 A Z k v, vs = [.ref s1, .int (k : Nat), .int v] ∧ SpaceAt CP CS H s1 A Z ∧ k < Z.roots.length ∧
  ∀ H', SpaceAt CP CS H' s1 A { Z with roots := Z.roots.set k v } → (∀ T, Mv T (A.own s1) (A.own s1) H H') → Q .non H'
theorem sc_Space_set_root : FnScope ["self", "k", "word"] ["self", "k", "word"] (defScope (inClass (top 21) 3)) := ⟨rfl, rfl, rfl, by decide +kernel, rfl, by decide +kernel, by decide +kernel⟩
theorem ok_Space_set_root {f : Addr} {fd : FuncData} (F : Fun K "set_root" "Space.set_root" (inClass (top 21) 3) f fd) {CP CS : Addr} (TStore : TStoreC K CS) (TSpace : TSpaceC K CP) (T : TxC mg) : FnB P w K mg base 1 f fd ["self", "k", "word"] (spSetRoot CP CS) := by
  refine okB F sc_Space_set_root (fun vs H Q E h => ?_) (fun cdv A outer s H vs Q E o hr cool h => ?_)
  · obtain ⟨s1, A1, Z, k, v, rfl, _⟩ := h
    rfl
  · obtain ⟨s1, A1, Z, k, v, rfl, XA, hk, q⟩ := h
    have hu := huH hr
    refine ⟨_, (pss_one (ps_asg (pv 2) (pg_sub (pe_fld (pv 0) rfl) (pv 1) set_list))), ?_⟩
    obtain ⟨dx, ob⟩ := XA.ob
    have hx : ixN (Z.roots.map V.int).length (k : Int) = some k := by
      rw [List.length_map]
      unfold ixN
      rw [if_pos (by omega), if_pos (by omega)]
      rfl
    refine ⟨_, rfl, _, rfl, s1, CP, _, _, _, rfl, ob, TSpace.cl, TSpace.roots, rfl, _, rfl, A1.rt, _, _, k, rfl, rfl, XA.rts, hx, ?_⟩
    have e : (Z.roots.map V.int).set k (V.int v) = (Z.roots.set k v).map V.int := by rw [List.map_set]
    rw [e]
    exact q _ (XA.rt_upd _) fun T => Mv.upd XA.rts nt_lst (.inr (.inr (.inl rfl)))
def spHold (CP CS : Addr) : Sp := fun vs H Q _ => ∃ s1 A Z v, vs = [.ref s1, .int v] ∧ SpaceAt CP CS H s1 A Z ∧ Z.held.length ≤ 100000 ∧
  ∀ H', SpaceAt CP CS H' s1 A { Z with held := Z.held ++ [v] } → (∀ T, Mv T (A.own s1) (A.own s1) H H') → Q (.int v) H'
theorem sc_Space_hold : FnScope ["self", "word"] ["self", "word"] (defScope (inClass (top 21) 4)) := ⟨rfl, rfl, rfl, by decide +kernel, rfl, by decide +kernel, by decide +kernel⟩
theorem ok_Space_hold {f : Addr} {fd : FuncData} (F : Fun K "hold" "Space.hold" (inClass (top 21) 4) f fd) {CP CS : Addr} (TStore : TStoreC K CS) (TSpace : TSpaceC K CP) (T : TxC mg) : FnB P w K mg base 1 f fd ["self", "word"] (spHold CP CS) := by
  refine okB F sc_Space_hold (fun vs H Q E h => ?_) (fun cdv A outer s H vs Q E o hr cool h => ?_)
  · obtain ⟨s1, A1, Z, v, rfl, _⟩ := h
    rfl
  · obtain ⟨s1, A1, Z, v, rfl, XA, hk, q⟩ := h
    have hu := huH hr
    refine ⟨_, (pss_cons (ps_expr (pe_bm PySem.F.plainAttrs_list PySem.F.slot_list_append PySem.F.type_list_append mt_append (pe_fld (pv 0) rfl) (pa_cons (pv 1) pa_nil)))
    (pss_one (ps_ret (pv 1)))), ?_⟩
    obtain ⟨dx, ob⟩ := XA.ob
    refine ⟨_, rfl, s1, CP, _, _, _, rfl, ob, TSpace.cl, TSpace.held, rfl, .inl ⟨rfl, _, SqL.of XA.hld⟩, _, rfl, A1.hl, _, _, rfl, rfl, XA.hld, by rw [List.length_map, sizeLine_eq]; omega, ?_⟩
    have e : Z.held.map V.int ++ [V.int v] = (Z.held ++ [v]).map V.int := by simp
    rw [e]
    exact ⟨_, rfl, q _ (XA.hl_upd _) fun T => Mv.upd XA.hld nt_lst (.inr (.inr (.inr (.inl rfl))))⟩
def spHeld (CP CS : Addr) : Sp := fun vs H Q _ => ∃ s1 A Z, vs = [.ref s1] ∧ SpaceAt CP CS H s1 A Z ∧ Q (.int (Z.held.length : Nat)) H
theorem sc_Space_held : FnScope ["self"] ["self"] (defScope (inClass (top 21) 6)) := ⟨rfl, rfl, rfl, by decide +kernel, rfl, by decide +kernel, by decide +kernel⟩
theorem ok_Space_held {f : Addr} {fd : FuncData} (F : Fun K "held" "Space.held" (inClass (top 21) 6) f fd) {CP CS : Addr} (TStore : TStoreC K CS) (TSpace : TSpaceC K CP) (T : TxC mg) : FnB P w K mg base 1 f fd ["self"] (spHeld CP CS) := by
  refine okB F sc_Space_held (fun vs H Q E h => ?_) (fun cdv A outer s H vs Q E o hr cool h => ?_)
  · obtain ⟨s1, A1, Z, rfl, _⟩ := h
    rfl
  · obtain ⟨s1, A1, Z, rfl, XA, q⟩ := h
    have hu := huH hr
    refine ⟨_, (pss_one (ps_ret (pe_callB call_len_seq (by rfl) T.len PySem.boot_len (pa_cons (pe_fld (pv 0) rfl) pa_nil)))), ?_⟩
    obtain ⟨dx, ob⟩ := XA.ob
    refine ⟨_, rfl, s1, CP, _, _, _, rfl, ob, TSpace.cl, TSpace.held, rfl, A1.hl, _, rfl, .inl (SqL.of XA.hld), ?_⟩
    rw [List.length_map]
    exact q
def spDropP (CP CS : Addr) : Sp := fun vs H Q _ => ∃ s1 A Z n, vs = [.ref s1, .int (n : Nat)] ∧ SpaceAt CP CS H s1 A Z ∧ n ≤ Z.held.length ∧
  ∀ H', SpaceAt CP CS H' s1 A { Z with held := Z.held.take (Z.held.length - n) } → (∀ T, Mv T (A.own s1) (A.own s1) H H') → Q .non H'
theorem sc_Space_drop : FnScope ["self", "count"] ["self", "count"] (defScope (inClass (top 21) 5)) := ⟨rfl, rfl, rfl, by decide +kernel, rfl, by decide +kernel, by decide +kernel⟩
theorem ok_Space_drop {f : Addr} {fd : FuncData} (F : Fun K "drop" "Space.drop" (inClass (top 21) 5) f fd) {CP CS : Addr} (TStore : TStoreC K CS) (TSpace : TSpaceC K CP) (T : TxC mg) : FnB P w K mg base 1 f fd ["self", "count"] (spDropP CP CS) := by
  refine okB F sc_Space_drop (fun vs H Q E h => ?_) (fun cdv A outer s H vs Q E o hr cool h => ?_)
  · obtain ⟨s1, A1, Z, n, rfl, _⟩ := h
    rfl
  · obtain ⟨s1, A1, Z, n, rfl, XA, hn, q⟩ := h
    have hu := huH hr
    refine ⟨_, (pss_one (ps_delFrom (pe_fld (pv 0) rfl) (pe_op op_sub (pe_callB call_len_seq (by rfl) T.len PySem.boot_len (pa_cons (pe_fld (pv 0) rfl) pa_nil)) (pv 1)))), ?_⟩
    obtain ⟨dx, ob⟩ := XA.ob
    refine ⟨_, rfl, s1, CP, _, _, _, rfl, ob, TSpace.cl, TSpace.held, rfl, _, rfl, s1, CP, _, _, _, rfl, ob, TSpace.cl, TSpace.held, rfl, A1.hl, _, rfl, .inl (SqL.of XA.hld), _, rfl, _, _, rfl, rfl, A1.hl, _, Z.held.length - n, rfl, ?_, XA.hld, ?_, ?_⟩
    · rw [List.length_map]
      exact congrArg V.int (by show ((Z.held.length : Nat) : Int) - (n : Int) = ((Z.held.length - n : Nat) : Int); omega)
    · rw [List.length_map]; omega
    rw [← List.map_take]
    exact q _ (XA.hl_upd _) fun T => Mv.upd XA.hld nt_lst (.inr (.inr (.inr (.inl rfl))))
def spAllRoots (CP CS : Addr) : Sp := fun vs H Q _ => ∃ s1 A Z, vs = [.ref s1] ∧ SpaceAt CP CS H s1 A Z ∧ Z.roots.length + Z.held.length ≤ 150000 ∧
  ∀ a H', Same H H' → H a = none → H' a = some (.lst (Z.allRoots.map V.int)) → Q (.ref a) H'
theorem sc_Space_all_roots : FnScope ["self"] ["self"] (defScope (inClass (top 21) 7)) := ⟨rfl, rfl, rfl, by decide +kernel, rfl, by decide +kernel, by decide +kernel⟩
theorem ok_Space_all_roots {f : Addr} {fd : FuncData} (F : Fun K "all_roots" "Space.all_roots" (inClass (top 21) 7) f fd) {CP CS : Addr} (TStore : TStoreC K CS) (TSpace : TSpaceC K CP) (T : TxC mg) : FnB P w K mg base 1 f fd ["self"] (spAllRoots CP CS) := by
  refine okB F sc_Space_all_roots (fun vs H Q E h => ?_) (fun cdv A outer s H vs Q E o hr cool h => ?_)
  · obtain ⟨s1, A1, Z, rfl, _⟩ := h
    rfl
  · obtain ⟨s1, A1, Z, rfl, XA, hl, q⟩ := h
    have hu := huH hr
    refine ⟨_, (pss_one (ps_ret (pe_op op_cat (pe_op op_cat (pe_lst (pa_cons (pe_glob (v := .int 0) rfl T.NIL.choose_spec ⟨_, rfl⟩) pa_nil)) (pe_fld (pv 0) rfl)) (pe_fld (pv 0) rfl)))), ?_⟩
    refine ⟨by show 1 ≤ sizeLine; decide, fun a ha => ?_⟩
    have x1 := XA.same (same_new (o := .lst [V.int 0]) ha)
    obtain ⟨d1, ob1⟩ := x1.ob
    refine ⟨_, rfl, s1, CP, _, _, _, rfl, ob1, TSpace.cl, TSpace.roots, rfl, a, A1.rt, _, _, rfl, rfl, upd_same, x1.rts, by rw [List.length_map, sizeLine_eq]; show 1 + _ ≤ _; omega, fun b hb => ?_⟩
    have x2 := x1.same (same_new (o := .lst ([V.int 0] ++ Z.roots.map V.int)) hb)
    obtain ⟨d2, ob2⟩ := x2.ob
    refine ⟨_, rfl, s1, CP, _, _, _, rfl, ob2, TSpace.cl, TSpace.held, rfl, b, A1.hl, _, _, rfl, rfl, upd_same, x2.hld, by simp only [List.length_append, List.length_map, List.length_cons, List.length_nil, sizeLine_eq]; omega, fun c hc => ?_⟩
    refine q c _ ((same_new ha).trans ((same_new hb).trans (same_new hc))) (((same_new ha).trans (same_new hb)).free hc) ?_
    rw [upd_same]
    simp [SSp.allRoots]
def spPress (CP CS : Addr) : Sp := fun vs H Q _ => ∃ s1 A Z m ms b, vs = [.ref s1, .ref m, .bl b] ∧ SpaceAt CP CS H s1 A Z ∧ H m = some (.lst (ms.map V.int)) ∧
  ∀ pr H', H pr = none → SpaceAt CP CS H' s1 { A with pr := pr } { Z with pressure := ms, always := b } → (∀ T, Mv T (A.own s1) (PAd.own { A with pr := pr } s1) H H') → Q .non H'
theorem sc_Space_press : FnScope ["self", "moments", "always"] ["self", "moments", "always"] (defScope (inClass (top 21) 1)) := ⟨rfl, rfl, rfl, by decide +kernel, rfl, by decide +kernel, by decide +kernel⟩
theorem ok_Space_press {f : Addr} {fd : FuncData} (F : Fun K "press" "Space.press" (inClass (top 21) 1) f fd) {CP CS : Addr} (TStore : TStoreC K CS) (TSpace : TSpaceC K CP) (T : TxC mg) : FnOk P w K mg base CX0 1 f fd ["self", "moments", "always"] (spPress CP CS) := by
  refine F.ok sc_Space_press (fun vs H Q E h => ?_) (fun cdv A outer s H vs Q E hr h => ?_)
  · obtain ⟨s1, A1, Z, m, ms, b, rfl, _⟩ := h
    rfl
  · obtain ⟨s1, A1, Z, m, ms, b, rfl, XA, hm, q⟩ := h
    have hu := hu_of hr
    refine ⟨_, (pss_cons (ps_fld (pv 0) (pe_callTy call_list_of (by rfl) T.list (by decide +kernel) (pa_cons (pv 1) pa_nil)) rfl)
    (pss_one (ps_fld (pv 0) (pv 2) rfl))), ?_⟩
    refine ⟨_, rfl, m, _, rfl, .inl (SqL.of hm), fun l hl => ?_⟩
    have x1 := XA.same (same_new (o := .lst (ms.map V.int)) hl)
    obtain ⟨d1, ob1⟩ := x1.ob
    refine ⟨_, rfl, s1, CP, d1, _, rfl, ob1, TSpace.cl, TSpace.pressure, (by show 8 < 1000; decide), ?_⟩
    refine ⟨_, rfl, _, rfl, s1, CP, d1, _, rfl, upd_same, TSpace.cl, TSpace.always, (by show 8 < 1000; decide), ?_⟩
    rw [upd_upd]
    have hn := XA.notOwn hl
    have mv : ∀ T, Mv T (A1.own s1) (A1.own s1) H (upd (upd H l (.lst (ms.map V.int))) s1 (.ins CP d1 (pfl A1.st l b Z.allocs Z.colls A1.rt A1.hl))) := fun T => (Mv.new hl).trans (x1.self_mv _)
    refine q l _ hl ?_ fun T => (mv T).own fun c hc => ?_
    · obtain ⟨⟨dx0, o0⟩, ⟨⟨dy, o1⟩, o2, o3⟩, o4, o5, o6, n1, n2, n3, n4, n5, n6, n7⟩ := x1
      have q1 : A1.st ≠ s1 := n1
      refine ⟨⟨d1, upd_same⟩, ⟨⟨dy, by rw [upd_ne n1]; exact o1⟩, by rw [upd_ne (ne_of o2 o0 fun z => nomatch z)]; exact o2, by rw [upd_ne (ne_of o3 o0 fun z => nomatch z)]; exact o3⟩, ?_, by rw [upd_ne (ne_of o5 o0 fun z => nomatch z)]; exact o5, by rw [upd_ne (ne_of o6 o0 fun z => nomatch z)]; exact o6, n1, ?_, ?_, n4, ?_, n6, n7⟩
      · show upd _ s1 _ l = _
        rw [upd_ne (fun z => hn (.inl z)), upd_same]
      · exact fun z => hn (.inr (.inr (.inl z)))
      · exact fun z => hn (.inr (.inr (.inr (.inl z))))
      · exact fun z => hn (.inr (.inr (.inr (.inr (.inr (.inl z))))))
    · rcases hc with z | z | z | z | z
      · exact .inl (.inl z)
      · exact .inr (by rw [z]; exact hl)
      · exact .inl (.inr (.inr (.inl z)))
      · exact .inl (.inr (.inr (.inr (.inl z))))
      · exact .inl (.inr (.inr (.inr (.inr z))))
def spCollectW (T : List (Addr × Str)) (CP CS : Addr) : Sp := fun vs H Q _ => ∃ s1 A Z v, vs = [.ref s1, .int v] ∧ SpaceAt CP CS H s1 A Z ∧ Whole Z.store ∧ Z.roots.length + Z.held.length ≤ 150000 ∧ LamX.Tabs T H ∧
  ∀ A' S' H' (n : Int), SpaceAt CP CS H' s1 A' { Z with store := S', colls := Z.colls + 1 } → Coll Z.store (Z.allRoots ++ [v]) S' → Mv T (A.own s1) (A'.own s1) H H' → n + (S'.objs.length : Int) = (Z.store.objs.length : Int) → Q (.int n) H'
theorem sc_Space_collect_with : FnScope ["self", "word"] ["self", "word"] (defScope (inClass (top 21) 9)) := ⟨rfl, rfl, rfl, by decide +kernel, rfl, by decide +kernel, by decide +kernel⟩
theorem ok_Space_collect_with {f : Addr} {fd : FuncData} (F : Fun K "collect_with" "Space.collect_with" (inClass (top 21) 9) f fd) {CP CS : Addr} (TStore : TStoreC K CS) (TSpace : TSpaceC K CP) (T : TxC mg) {Pt : Addr} (G_collect_collecting : GB P w K mg base 4 "collect_collecting" ["store", "roots"] (spCollect (Tb1 Pt) CS)) (M_Space_all_roots : MB P w K mg base 1 CP "all_roots" ["self"] (spAllRoots CP CS)) : FnB P w K mg base 5 f fd ["self", "word"] (spCollectW (Tb1 Pt) CP CS) := by
  refine okB F sc_Space_collect_with (fun vs H Q E h => ?_) (fun cdv A outer s H vs Q E o hr cool h => ?_)
  · obtain ⟨s1, A1, Z, v, rfl, _⟩ := h
    rfl
  · obtain ⟨s1, A1, Z, v, rfl, XA, W, hl, Tt, q⟩ := h
    have hu := huH hr
    refine ⟨_, (pss_cons (ps_fld (pv 0) (pe_op op_add (pe_fld (pv 0) rfl) pe_int) rfl)
    (pss_one (ps_ret (pe_gb G_collect_collecting (hr.mono (by decide)) cool (pa_cons (pe_fld (pv 0) rfl) (pa_cons (pe_op op_cat (pe_mbb0 (pv 0) TSpace.cl M_Space_all_roots (hr.mono (by decide)) cool) (pe_lst (pa_cons (pv 1) pa_nil))) pa_nil)))))), ?_⟩
    obtain ⟨dx, ob⟩ := XA.ob
    -- self.collections = self.collections + 1
    refine ⟨_, rfl, s1, CP, _, _, _, rfl, ob, TSpace.cl, TSpace.collections, rfl, _, _, rfl, rfl, _, rfl, s1, CP, dx, _, rfl, ob, TSpace.cl, TSpace.collections, (by show 8 < 1000; decide), ?_⟩
    have x1 := XA.self_upd dx Z.always Z.allocs (Z.colls + 1)
    have m1 : Mv (Tb1 Pt) (A1.own s1) (A1.own s1) H (upd H s1 (.ins CP dx (pfl A1.st A1.pr Z.always Z.allocs (Z.colls + 1) A1.rt A1.hl))) := XA.self_mv _
    obtain ⟨H1, e1⟩ : ∃ H1, H1 = upd H s1 (.ins CP dx (pfl A1.st A1.pr Z.always Z.allocs (Z.colls + 1) A1.rt A1.hl)) := ⟨_, rfl⟩
    rw [← e1] at x1 m1
    show Ends.nx _ _ (upd H s1 (.ins CP dx (pfl A1.st A1.pr Z.always Z.allocs (Z.colls + 1) A1.rt A1.hl)))
    rw [← e1]
    obtain ⟨d1, ob1⟩ := x1.ob
    refine ⟨_, rfl, s1, CP, _, _, _, rfl, ob1, TSpace.cl, TSpace.store, rfl, _, rfl, s1, d1, _, rfl, ob1, rfl, s1, A1, _, rfl, x1, hl, fun a H2 s2 ha2 ha => ?_⟩
    refine ⟨_, rfl, by show 1 ≤ sizeLine; decide, fun b hb => ⟨a, b, _, _, rfl, rfl, by rw [upd_ne (ne_of_none ha hb)]; exact ha, upd_same, by simp only [SSp.allRoots, List.length_map, List.length_append, List.length_cons, List.length_nil, sizeLine_eq]; omega, fun c hc => ?_⟩⟩
    have s3 : Same H1 _ := s2.trans ((same_new (o := .lst [V.int v]) hb).trans (same_new (o := .lst (Z.allRoots.map V.int ++ [V.int v])) hc))
    have x3 := x1.same s3
    refine ⟨A1.st, A1.w, A1.d, Z.store, c, Z.allRoots ++ [v], rfl, x3.sto, W, (m1.tb Tt).ext s3, by rw [upd_same]; show some (HO.lst (Z.allRoots.map V.int ++ [V.int v])) = _; simp, by simp only [SSp.allRoots, List.length_append, List.length_cons, List.length_nil]; omega, fun w' d' S' H' n SA' C' mv hn => ?_⟩
    obtain ⟨y1, y2⟩ := x3.store_to SA' mv
    exact q _ S' H' n y1 C' (m1.trans ((Mv.same s3).trans y2)) hn
def spLive (CP CS : Addr) : Sp := fun vs H Q _ => ∃ s1 A Z, vs = [.ref s1] ∧ SpaceAt CP CS H s1 A Z ∧ Whole Z.store ∧ Z.roots.length + Z.held.length ≤ 150000 ∧
  ∀ os H', (os.map Ob.num).Nodup → (∀ n, n ∈ os.map Ob.num ↔ Reach Z.store Z.allRoots n) → (∀ o ∈ os, Z.store.ob o.num o) → Same H H' → Q (.int (total os)) H'
theorem sc_Space_live_words : FnScope ["self"] ["self"] (defScope (inClass (top 21) 10)) := ⟨rfl, rfl, rfl, by decide +kernel, rfl, by decide +kernel, by decide +kernel⟩
theorem ok_Space_live_words {f : Addr} {fd : FuncData} (F : Fun K "live_words" "Space.live_words" (inClass (top 21) 10) f fd) {CP CS : Addr} (TStore : TStoreC K CS) (TSpace : TSpaceC K CP) (T : TxC mg) (G_words_of : GO P w K mg base 3 "words_of" ["store", "numbers"] (spWordsOf CS)) (G_reached : GB P w K mg base 3 "reached" ["store", "roots"] (spReached CS)) (M_Space_all_roots : MB P w K mg base 1 CP "all_roots" ["self"] (spAllRoots CP CS)) : FnOk P w K mg base CX0 4 f fd ["self"] (spLive CP CS) := by
  refine F.ok sc_Space_live_words (fun vs H Q E h => ?_) (fun cdv A outer s H vs Q E hr h => ?_)
  · obtain ⟨s1, A1, Z, rfl, _⟩ := h
    rfl
  · obtain ⟨s1, A1, Z, rfl, XA, W, hl, q⟩ := h
    have hu := hu_of hr
    refine ⟨_, (pss_one (ps_ret (pe_go G_words_of (hr.mono (by decide)) (pa_cons (pe_fld (pv 0) rfl) (pa_cons (pe_gb G_reached ((roomH_of hr).mono (by decide)) (Or.inl rfl) (pa_cons (pe_fld (pv 0) rfl) (pa_cons (pe_mbb0 (pv 0) TSpace.cl M_Space_all_roots ((roomH_of hr).mono (by decide)) (Or.inl rfl)) pa_nil))) pa_nil))))), ?_⟩
    obtain ⟨dx, ob⟩ := XA.ob
    refine ⟨_, rfl, s1, CP, _, _, _, rfl, ob, TSpace.cl, TSpace.store, rfl, _, rfl, s1, CP, _, _, _, rfl, ob, TSpace.cl, TSpace.store, rfl, _, rfl, s1, dx, _, rfl, ob, rfl, s1, A1, Z, rfl, XA, hl, fun a H1 s2 ha2 ha => ?_⟩
    have x1 := XA.same s2
    refine ⟨A1.st, A1.w, A1.d, Z.store, a, Z.allRoots, rfl, x1.sto, W.toLay, ha, by simp only [SSp.allRoots, List.length_append, List.length_cons]; omega, fun ks d H2 nd hk s3 hd hdk => ?_⟩
    obtain ⟨os, eos, hos⟩ : ∃ os : List Ob, ks = os.map Ob.num ∧ ∀ o ∈ os, Z.store.ob o.num o := by
      have hlv : ∀ n ∈ ks, Z.store.live n := fun n hn => ((hk n).mp hn).live
      clear hk hdk nd
      induction ks with
      | nil => exact ⟨[], rfl, by simp⟩
      | cons k ks ih =>
        obtain ⟨os, e, h⟩ := ih fun n hn => hlv n (List.mem_cons_of_mem _ hn)
        obtain ⟨o, ho⟩ := W.toLay.live_ob (hlv k List.mem_cons_self)
        have hn : o.num = k := ho.2.1
        refine ⟨o :: os, by rw [List.map_cons, hn, e], fun x hx => ?_⟩
        rcases List.mem_cons.mp hx with rfl | hx
        · rw [hn]; exact ho
        · exact h x hx
    subst eos
    have x2 := x1.same s3
    have dpd : d ≠ A1.d := fun z => by rw [z, x1.sto.pc] at hd; cases hd
    refine ⟨A1.st, A1.w, A1.d, Z.store, d, os, rfl, x2.sto, W.toLay, hdk, dpd, ?_, hos, fun H3 s4 => q os H3 nd hk hos (s2.trans (s3.trans s4))⟩
    have := ks_le W.toLay nd fun n hn => ((hk n).mp hn).live
    rw [List.length_map] at this
    omega
end
end Sg

/-! SgP10: fitted, new. -/
namespace Sg
open PySem PySem.W PySem.Spec PyProof.Rows L2 L2H HotX
inductive Res where
  | made (m : Int)
  | room (n : Int)
  | num (n : Int)
def SSt.full (S : SSt) (size : Int) : Prop := ((flat S.objs).length : Int) + 3 + size > S.room
structure SSt.Free (S : SSt) (m : Int) : Prop where
  ge : 0 ≤ m
  no : ¬ S.live m
  lt : ∀ j, 0 ≤ j → j < m → S.live j
/-- what allocate does -/
inductive AllocR (S : SSt) (kind size : Int) : Res → SSt → Prop
  | made {m : Int} : ¬ S.full size → S.Free m → m < S.ents → AllocR S kind size (.made m) (S.added m kind size)
  | room : S.full size → AllocR S kind size (.room (3 + size)) S
  | num {m : Int} : ¬ S.full size → S.Free m → S.ents ≤ m → AllocR S kind size (.num S.ents) { S with least := m }
/-- what fitted does -/
inductive FitR (Z : SSp) (kind size : Int) : Res → SSp → Prop
  | at_once {m : Int} {S' : SSt} : AllocR Z.store kind size (.made m) S' → FitR Z kind size (.made m) { Z with store := S' }
  | after {r0 r : Res} {S0 S1 S2 : SSt} : AllocR Z.store kind size r0 S0 → (∀ m, r0 ≠ .made m) → Coll S0 (Z.allRoots ++ [kind]) S1 → AllocR S1 kind size r S2 → FitR Z kind size r { Z with store := S2, colls := Z.colls + 1 }
/-- what new does -/
inductive NewR (Z : SSp) (kind size : Int) : Res → SSp → Prop
  | forced {r : Res} {S1 : SSt} {Z' : SSp} : (Z.always = true ∨ Z.allocs + 1 ∈ Z.pressure) → Coll Z.store (Z.allRoots ++ [kind]) S1 → FitR { Z with store := S1, allocs := Z.allocs + 1, colls := Z.colls + 1 } kind size r Z' → NewR Z kind size r Z'
  | free {r : Res} {Z' : SSp} : ¬ (Z.always = true ∨ Z.allocs + 1 ∈ Z.pressure) → FitR { Z with allocs := Z.allocs + 1 } kind size r Z' → NewR Z kind size r Z'
def Out (CR CN : Addr) (Q : VK) (E : XK) (H' : Hp) : Res → Prop
  | .made m => Q (.int m) H'
  | .room n => ∀ d, H' d = some (.xd [("need", V.int n)]) → E (.ref CR) (some d) H'
  | .num n => ∀ d, H' d = some (.xd [("limit", V.int n)]) → E (.ref CN) (some d) H'
theorem alloc_intro {CS CR CN : Addr} {H : Hp} {Q : VK} {E : XK} {p wd pd : Addr} {S : SSt} {kind size : Int} (SA : StoreAt CS H p wd pd S)
    (h : ∀ r S' H', AllocR S kind size r S' → StoreAt CS H' p wd pd S' → (∀ T, Mv T (own3 p wd pd) (own3 p wd pd) H H') → Out CR CN Q E H' r) :
    (((flat S.objs).length : Int) + 3 + size > S.room → ∀ d H', H d = none → Same H H' → H' d = some (.xd [("need", V.int (3 + size))]) → E (.ref CR) (some d) H') ∧
    (¬ ((flat S.objs).length : Int) + 3 + size > S.room → ∀ m, 0 ≤ m → ¬ S.live m → (∀ j, 0 ≤ j → j < m → S.live j) →
      (S.ents ≤ m → ∀ d H1 H'', StoreAt CS H1 p wd pd { S with least := m } → (∀ T, Mv T (own3 p wd pd) (own3 p wd pd) H H1) → H1 d = none → Same H1 H'' → H'' d = some (.xd [("limit", V.int S.ents)]) → E (.ref CN) (some d) H'') ∧
      (m < S.ents → ∀ H', StoreAt CS H' p wd pd (S.added m kind size) → (∀ T, Mv T (own3 p wd pd) (own3 p wd pd) H H') → Q (.int m) H')) :=
  ⟨fun hf d H' _ s hd => h _ S H' (.room hf) (SA.same s) (fun T => Mv.same s) d hd,
   fun hf m m0 m1 m2 => ⟨fun hm d H1 H'' S1 mv _ s hd => h _ _ H'' (.num hf ⟨m0, m1, m2⟩ hm) (S1.same s) (fun T => (mv T).trans (Mv.same s)) d hd, fun hm H' S1 mv => h _ _ H' (.made hf ⟨m0, m1, m2⟩ hm) S1 mv⟩⟩
theorem AllocR.whole {S S' : SSt} {kind size : Int} {r : Res} (h : AllocR S kind size r S') (W : Whole S) (hs : 0 ≤ size) : Whole S' := by
  cases h with
  | made a b c => exact W.added b.ge b.no b.lt c hs (by unfold SSt.full at a; omega)
  | room a => exact W
  | num a b c => exact W.least_set b.ge b.lt
theorem cool_suite {X : Cx} {a : Addr} {oe : Obj} {cls : Value} {d : Option Addr} {pn : List (Addr × Obj)} (hz : L2N.Zn cls d oe) (hf : ∃ vs, oe.data = .fields vs) : CoolC (X.suite a ((a, oe) :: pn)) := by
  obtain ⟨vs, hv⟩ := hf
  exact .inr ⟨(a, oe), ⟨rfl, vs, hv, hz.2.2 vs hv⟩, List.mem_cons_self⟩
section
variable {P : Program} {w : World} {K : Frag} {mg : Str → Option Value} {base : Heap}
/-- which except clause takes which error -/
structure XmC (K : Frag) (CR CN : Addr) : Prop where
  rr : exmOne K (.ref CR) (.ref CR) = some true
  nr : exmOne K (.ref CN) (.ref CR) = some false
  nn : exmOne K (.ref CN) (.ref CN) = some true
def spFitted (T : List (Addr × Str)) (CP CS CR CN : Addr) : Sp := fun vs H Q E => ∃ s1 A Z kind size, vs = [.ref s1, .int kind, .int size] ∧ SpaceAt CP CS H s1 A Z ∧ Whole Z.store ∧ Z.roots.length + Z.held.length ≤ 150000 ∧ 0 ≤ size ∧ size ≤ 100000 ∧ LamX.Tabs T H ∧
  ∀ r A' Z' H', FitR Z kind size r Z' → SpaceAt CP CS H' s1 A' Z' → Mv T (A.own s1) (A'.own s1) H H' → Out CR CN Q E H' r
theorem sc_Space_fitted : FnScope ["self", "kind", "size"] ["self", "kind", "size"] (defScope (inClass (top 21) 12)) := ⟨rfl, rfl, rfl, by decide +kernel, rfl, by decide +kernel, by decide +kernel⟩
theorem ok_Space_fitted {f : Addr} {fd : FuncData} (F : Fun K "fitted" "Space.fitted" (inClass (top 21) 12) f fd) {CP CS : Addr} (TStore : TStoreC K CS) (TSpace : TSpaceC K CP) (T : TxC mg) {CR CN Pt : Addr} (XM : XmC K CR CN) (E_NoRoom : EB P w K mg base "NoRoom" CR "need" "need") (E_NoNumber : EB P w K mg base "NoNumber" CN "limit" "limit")
    (M_Store_allocate : MX P w K mg base 4 CS "allocate" ["self", "kind", "size"] (spAlloc CS CR CN)) (M_Space_collect_with : MB P w K mg base 5 CP "collect_with" ["self", "word"] (spCollectW (Tb1 Pt) CP CS)) : FnOk P w K mg base (L2N.CX P w) 6 f fd ["self", "kind", "size"] (spFitted (Tb1 Pt) CP CS CR CN) := by
  refine okXN F sc_Space_fitted (fun vs H Q E h => ?_) (fun cdv A outer s H vs Q E hr h => ?_)
  · obtain ⟨s1, A1, Z, kind, size, rfl, _⟩ := h
    rfl
  · obtain ⟨s1, A1, Z, kind, size, rfl, XA, W, hl, hs0, hs1, Tt, q⟩ := h
    have hu := hu_of hr
    refine ⟨_, (pss_cons (L2N.ps_try_many (tb := fun W => tRet (tMethH CS "allocate" (spAlloc CS CR CN) (WE W) (tFld K (tVar 0) "store") (tCons (tVar 1) (tCons (tVar 2) tNil)))) rfl rfl (L2N.takes_of rfl rfl rfl rfl) (fun W pn xe tk _ => pss_one (ps_ret (pe_mx (pe_fld (pv 0) rfl) TStore.cl M_Store_allocate (hr.mono (by decide)) tk (pa_cons (pv 1) (pa_cons (pv 2) pa_nil)))))
      (.cons ⟨rfl, by decide, .inl E_NoRoom.hm⟩ (fun a oe cls d pn hz hf => (pss_one (ps_expr (pe_mbb (pv 0) TSpace.cl M_Space_collect_with ((roomH_mark hr _).mono (by decide)) (cool_suite hz hf) (pa_cons (pv 1) pa_nil))))) (.cons ⟨rfl, by decide, .inl E_NoNumber.hm⟩ (fun a oe cls d pn hz hf => (pss_one (ps_expr (pe_mbb (pv 0) TSpace.cl M_Space_collect_with ((roomH_mark hr _).mono (by decide)) (cool_suite hz hf) (pa_cons (pv 1) pa_nil))))) .nil)))
    (pss_one (ps_ret (pe_mx (pe_fld (pv 0) rfl) TStore.cl M_Store_allocate (hr.mono (by decide)) (L2N.takes_of rfl rfl rfl rfl) (pa_cons (pv 1) (pa_cons (pv 2) pa_nil)))))), ?_⟩
    obtain ⟨dx, ob⟩ := XA.ob
    obtain ⟨dy, oy⟩ := XA.sto.ob
    refine ⟨_, rfl, s1, CP, _, _, _, rfl, ob, TSpace.cl, TSpace.store, rfl, A1.st, dy, _, rfl, oy, rfl, _, rfl, _, rfl, A1.st, A1.w, A1.d, Z.store, kind, size, rfl, XA.sto, W, hs0, hs1, alloc_intro XA.sto fun r S' H' hA SA mv => ?_⟩
    obtain ⟨X1, m1⟩ := XA.store_to SA (mv (Tb1 Pt))
    have ok := hA.whole W hs0
    rcases r with m | n | n
    · exact q (.made m) _ _ H' (.at_once hA) X1 m1
    · intro d hd
      refine ⟨true, XM.rr, fun _ a ha => ?_, fun z => nomatch z⟩
      obtain ⟨dx1, ob1⟩ := X1.ob
      refine ⟨_, rfl, s1, dx1, _, rfl, ob1, rfl, _, rfl, s1, _, _, kind, rfl, X1, ok, hl, m1.tb Tt, fun A2 S2 H2 k X2 C2 m2 hk => ?_⟩
      obtain ⟨dx2, ob2⟩ := X2.ob
      obtain ⟨dy2, oy2⟩ := X2.sto.ob
      refine ⟨_, rfl, s1, CP, _, _, _, rfl, ob2, TSpace.cl, TSpace.store, rfl, A2.st, dy2, _, rfl, oy2, rfl, _, rfl, _, rfl, A2.st, A2.w, A2.d, S2, kind, size, rfl, X2.sto, C2.whole, hs0, hs1, alloc_intro X2.sto fun r3 S3 H3 hA3 SA3 mv3 => ?_⟩
      obtain ⟨X3, m3⟩ := X2.store_to SA3 (mv3 (Tb1 Pt))
      exact q r3 _ _ H3 (.after hA (fun m z => nomatch z) C2 hA3) X3 (m1.trans (m2.trans m3))
    · intro d hd
      refine ⟨false, XM.nr, fun z => (nomatch z), fun _ => ⟨true, XM.nn, fun _ a ha => ?_, fun z => nomatch z⟩⟩
      obtain ⟨dx1, ob1⟩ := X1.ob
      refine ⟨_, rfl, s1, dx1, _, rfl, ob1, rfl, _, rfl, s1, _, _, kind, rfl, X1, ok, hl, m1.tb Tt, fun A2 S2 H2 k X2 C2 m2 hk => ?_⟩
      obtain ⟨dx2, ob2⟩ := X2.ob
      obtain ⟨dy2, oy2⟩ := X2.sto.ob
      refine ⟨_, rfl, s1, CP, _, _, _, rfl, ob2, TSpace.cl, TSpace.store, rfl, A2.st, dy2, _, rfl, oy2, rfl, _, rfl, _, rfl, A2.st, A2.w, A2.d, S2, kind, size, rfl, X2.sto, C2.whole, hs0, hs1, alloc_intro X2.sto fun r3 S3 H3 hA3 SA3 mv3 => ?_⟩
      obtain ⟨X3, m3⟩ := X2.store_to SA3 (mv3 (Tb1 Pt))
      exact q r3 _ _ H3 (.after hA (fun m z => nomatch z) C2 hA3) X3 (m1.trans (m2.trans m3))
def spNew (T : List (Addr × Str)) (CP CS CR CN : Addr) : Sp := fun vs H Q E => ∃ s1 A Z kind size, vs = [.ref s1, .int kind, .int size] ∧ SpaceAt CP CS H s1 A Z ∧ Whole Z.store ∧ Z.roots.length + Z.held.length ≤ 150000 ∧ 0 ≤ size ∧ size ≤ 100000 ∧ LamX.Tabs T H ∧
  ∀ r A' Z' H', NewR Z kind size r Z' → SpaceAt CP CS H' s1 A' Z' → Mv T (A.own s1) (A'.own s1) H H' → Out CR CN Q E H' r
theorem flat_ints (xs : List Int) : (xs.map V.int).all flatV = true := by
  rw [List.all_map, List.all_eq_true]
  intro x _
  rfl
theorem inV_ints (n : Int) (xs : List Int) : inV (V.int n) (xs.map V.int) = decide (n ∈ xs) := by
  induction xs with
  | nil => rfl
  | cons x xs ih =>
    show (eqV (V.int x) (V.int n) || inV (V.int n) (xs.map V.int)) = _
    rw [ih]
    have e : eqV (V.int x) (V.int n) = decide (x = n) := by
      first
      | rfl
      | (unfold eqV; simp [dec_int])
    rw [e]
    by_cases h : x = n
    · simp [h]
    · have h' : ¬ n = x := fun z => h z.symm
      simp [h, h']
theorem sc_Space_new : FnScope ["self", "kind", "size"] ["self", "kind", "size"] (defScope (inClass (top 21) 11)) := ⟨rfl, rfl, rfl, by decide +kernel, rfl, by decide +kernel, by decide +kernel⟩
theorem ok_Space_new {f : Addr} {fd : FuncData} (F : Fun K "new" "Space.new" (inClass (top 21) 11) f fd) {CP CS : Addr} (TStore : TStoreC K CS) (TSpace : TSpaceC K CP) (T : TxC mg) {CR CN Pt : Addr} (M_Store_allocate : MX P w K mg base 4 CS "allocate" ["self", "kind", "size"] (spAlloc CS CR CN)) (M_Space_collect_with : MB P w K mg base 5 CP "collect_with" ["self", "word"] (spCollectW (Tb1 Pt) CP CS))
    (M_Space_fitted : MX P w K mg base 6 CP "fitted" ["self", "kind", "size"] (spFitted (Tb1 Pt) CP CS CR CN)) : FnOk P w K mg base (L2N.CX P w) 7 f fd ["self", "kind", "size"] (spNew (Tb1 Pt) CP CS CR CN) := by
  refine okXN F sc_Space_new (fun vs H Q E h => ?_) (fun cdv A outer s H vs Q E hr h => ?_)
  · obtain ⟨s1, A1, Z, kind, size, rfl, _⟩ := h
    rfl
  · obtain ⟨s1, A1, Z, kind, size, rfl, XA, W, hl, hs0, hs1, Tt, q⟩ := h
    have hu := hu_of hr
    refine ⟨_, (pss_cons (ps_fld (pv 0) (pe_op op_add (pe_fld (pv 0) rfl) pe_int) rfl)
    (pss_cons (ps_if (pt_cmpR op_notN (pe_fld (pv 0) rfl) pe_non (nomark _))
      (pss_one (ps_ret (pe_mx (pe_fld (pv 0) rfl) TStore.cl M_Store_allocate (hr.mono (by decide)) (L2N.takes_of rfl rfl rfl rfl) (pa_cons (pv 1) (pa_cons (pv 2) pa_nil))))) pss_nil)
    (pss_cons (ps_if (PW.pt (pw_or (pt_val (pe_fld (pv 0) rfl)) (pw_or1 (pt_cmpR op_in_seq (pe_fld (pv 0) rfl) (pe_fld (pv 0) rfl) (by rfl)))))
      (pss_one (ps_expr (pe_mbb (pv 0) TSpace.cl M_Space_collect_with ((roomH_of hr).mono (by decide)) (Or.inl rfl) (pa_cons (pv 1) pa_nil)))) pss_nil)
    (pss_one (ps_ret (pe_mx (pv 0) TSpace.cl M_Space_fitted (hr.mono (by decide)) (L2N.takes_of rfl rfl rfl rfl) (pa_cons (pv 1) (pa_cons (pv 2) pa_nil)))))))), ?_⟩
    obtain ⟨dx, ob⟩ := XA.ob
    refine ⟨_, rfl, s1, CP, _, _, _, rfl, ob, TSpace.cl, TSpace.allocations, rfl, _, _, rfl, rfl, _, rfl, s1, CP, dx, _, rfl, ob, TSpace.cl, TSpace.allocations, (by show 8 < 1000; decide), ?_⟩
    have x1 := XA.self_upd dx Z.always (Z.allocs + 1) Z.colls
    have m1 : Mv (Tb1 Pt) (A1.own s1) (A1.own s1) H (upd H s1 (.ins CP dx (pfl A1.st A1.pr Z.always (Z.allocs + 1) Z.colls A1.rt A1.hl))) := XA.self_mv _
    obtain ⟨H1, e1⟩ : ∃ H1, H1 = upd H s1 (.ins CP dx (pfl A1.st A1.pr Z.always (Z.allocs + 1) Z.colls A1.rt A1.hl)) := ⟨_, rfl⟩
    rw [← e1] at x1 m1
    show Ends.nx _ _ (upd H s1 (.ins CP dx (pfl A1.st A1.pr Z.always (Z.allocs + 1) Z.colls A1.rt A1.hl)))
    rw [← e1]
    obtain ⟨d1, ob1⟩ := x1.ob
    refine ⟨_, rfl, s1, CP, _, _, _, rfl, ob1, TSpace.cl, TSpace.saved, rfl, rfl, _, rfl, ?_⟩
    refine iteF ?_
    refine ⟨_, rfl, s1, CP, _, _, _, rfl, ob1, TSpace.cl, TSpace.always, rfl, _, rfl, ?_⟩
    cases ha : Z.always with
    | true =>
      refine iteT ?_
      refine iteT ?_
      refine ⟨_, rfl, s1, d1, _, rfl, ob1, rfl, _, rfl, s1, _, _, kind, rfl, x1, W, hl, m1.tb Tt, fun A2 S2 H2 k X2 C2 m2 hk => ?_⟩
      obtain ⟨d5, ob5⟩ := X2.ob
      refine ⟨_, rfl, s1, d5, _, rfl, ob5, rfl, _, rfl, _, rfl, s1, _, _, kind, size, rfl, X2, C2.whole, hl, hs0, hs1, ((m1.trans m2).tb Tt), fun r A5 Z5 H5 hF X5 m5 => ?_⟩
      exact q r A5 Z5 H5 (.forced (.inl ha) C2 hF) X5 ((m1.trans m2).trans m5)
    | false =>
      refine iteF ?_
      refine ⟨_, rfl, s1, CP, _, _, _, rfl, ob1, TSpace.cl, TSpace.allocations, rfl, _, rfl, s1, CP, _, _, _, rfl, ob1, TSpace.cl, TSpace.pressure, rfl, A1.pr, _, rfl, .inl (SqL.of x1.prs), rfl, flat_ints _, _, rfl, ?_⟩
      rw [inV_ints, if_neg Bool.false_ne_true]
      by_cases hp : Z.allocs + 1 ∈ Z.pressure
      · rw [decide_eq_true hp]
        refine iteT ?_
        refine ⟨_, rfl, s1, d1, _, rfl, ob1, rfl, _, rfl, s1, _, _, kind, rfl, x1, W, hl, m1.tb Tt, fun A2 S2 H2 k X2 C2 m2 hk => ?_⟩
        obtain ⟨d5, ob5⟩ := X2.ob
        refine ⟨_, rfl, s1, d5, _, rfl, ob5, rfl, _, rfl, _, rfl, s1, _, _, kind, size, rfl, X2, C2.whole, hl, hs0, hs1, ((m1.trans m2).tb Tt), fun r A5 Z5 H5 hF X5 m5 => ?_⟩
        exact q r A5 Z5 H5 (.forced (.inr hp) C2 hF) X5 ((m1.trans m2).trans m5)
      · rw [decide_eq_false hp]
        refine iteF ?_
        obtain ⟨d5, ob5⟩ := x1.ob
        refine ⟨_, rfl, s1, d5, _, rfl, ob5, rfl, _, rfl, _, rfl, s1, _, _, kind, size, rfl, x1, W, hl, hs0, hs1, (m1.tb Tt), fun r A5 Z5 H5 hF X5 m5 => ?_⟩
        exact q r A5 Z5 H5 (.free (fun z => z.elim (fun y => by rw [ha] at y; cases y) hp) hF) X5 (m1.trans m5)
end
end Sg

/-! SgP11: the law's small defs. -/
namespace Sg
open PySem PySem.W PySem.Spec PyProof.Rows L2 L2H HotX
section
variable {P : Program} {w : World} {K : Frag} {mg : Str → Option Value} {base : Heap}
/-- a number of a script, or what is made of it -/
def BigOk (n : Int) : Prop := ∃ a : Nat, a ≤ 2000000 ∧ n.natAbs < 2 ^ a
theorem BigOk.div {n : Int} (h : BigOk n) (k : Int) : BigOk (n / k) := by
  obtain ⟨a, h1, h2⟩ := h
  exact ⟨a, h1, Nat.lt_of_le_of_lt (Int.natAbs_ediv_le_natAbs n k) h2⟩
theorem BigOk.small {n : Int} (h0 : -(2 ^ 64) ≤ n) (h1 : n ≤ 2 ^ 64) : BigOk n := ⟨65, by decide, by omega⟩
theorem BigOk.mul {n j : Int} (h : BigOk n) (hj : j.natAbs < 2 ^ 64) : CMulX n j := by
  obtain ⟨a, h1, h2⟩ := h
  exact mulx_ok h2 hj (by omega)
def spNumber : Sp := fun vs H Q _ => ∃ c k : Int, vs = [.int c, .int k] ∧ BigOk c ∧ 0 ≤ k ∧ k ≤ 1000 ∧ ∀ r, BigOk r → Q (.int r) H
theorem sc__law_number : FnScope ["_law_cell", "_law_k", "_law_mixed"] ["_law_cell", "_law_k"] (defScope (top 23)) := ⟨rfl, rfl, rfl, by decide +kernel, rfl, by decide +kernel, by decide +kernel⟩
theorem ok__law_number {f : Addr} {fd : FuncData} (F : Fun K "_law_number" "_law_number" (top 23) f fd) (T : TxC mg) : FnOk P w K mg base CX0 1 f fd ["_law_cell", "_law_k"] spNumber := by
  refine F.ok sc__law_number (fun vs H Q E h => ?_) (fun cdv A outer s H vs Q E hr h => ?_)
  · obtain ⟨c, k, rfl, _⟩ := h
    rfl
  · obtain ⟨c, k, rfl, hc, k0, k1, q⟩ := h
    have hu := hu_of hr
    refine ⟨_, (pss_cons (ps_if (pt_cmpR op_ge (pv 0) (pe_op op_pow pe_int pe_int) (nomark _))
      (pss_one (ps_ret (pv 0))) pss_nil)
    (pss_cons (ps_set (i := 2) sc__law_number.nd rfl (Or.inl rfl) (pe_op op_mod (pe_callTy call_int1 (by rfl) T.int (by decide +kernel) (pa_cons (pe_op op_add (pe_op op_add (pe_op op_mulX (pv 0) pe_int) (pe_op op_mul (pv 1) pe_int)) pe_int) pa_nil)) pe_int))
    (pss_one (ps_ret (pe_op op_mod (pe_callTy call_int1 (by rfl) T.int (by decide +kernel) (pa_cons (pe_op op_add (pe_op op_mul (pv 2) (pv 2)) (pe_op op_mul (pv 1) pe_int)) pa_nil)) pe_int))))), ?_⟩
    refine ⟨_, rfl, _, _, rfl, rfl, ⟨by decide, by decide, by decide⟩, _, _, rfl, rfl, _, rfl, ?_⟩
    by_cases hb : (10 : Int) ^ (18 : Int).toNat ≤ c
    · rw [decide_eq_true hb]
      refine iteT ?_
      exact ⟨_, rfl, q c hc⟩
    · rw [decide_eq_false hb]
      refine iteF ?_
      refine ⟨_, rfl, _, _, rfl, rfl, hc.mul (by decide), _, rfl, _, _, rfl, rfl, .inl ⟨by omega, by omega⟩, _, _, rfl, rfl, _, _, rfl, rfl, .inl ⟨_, rfl, _, _, rfl, rfl, by show (0 : Int) < 2147483647; decide, ?_⟩⟩
      obtain ⟨m, em⟩ : ∃ m, m = (c * 48271 + k * 69621 + 11) % 2147483647 := ⟨_, rfl⟩
      have m0 : 0 ≤ m := by rw [em]; exact Int.emod_nonneg _ (by decide)
      have m1 : m < 2147483647 := by rw [em]; exact Int.emod_lt_of_pos _ (by decide)
      refine ⟨_, rfl, _, rfl, _, _, rfl, rfl, .inl ⟨by show _ < (c * 48271 + k * 69621 + 11) % 2147483647; omega, by show (c * 48271 + k * 69621 + 11) % 2147483647 < _; omega⟩, _, rfl, _, _, rfl, rfl, .inl ⟨by omega, by omega⟩, _, _, rfl, rfl, .inl ⟨_, rfl, _, _, rfl, rfl, by show (0 : Int) < 2147483399; decide, ?_⟩⟩
      refine q _ (.small ?_ ?_)
      · exact Int.le_trans (by decide) (Int.emod_nonneg _ (by decide))
      · exact Int.le_trans (Int.le_of_lt (Int.emod_lt_of_pos _ (by decide))) (by decide)
def spIs : Sp := fun vs H Q _ => ∃ a b : Int, vs = [.int a, .int b] ∧ Q (.bl (decide (a = b))) H
theorem sc__law_is : FnScope ["_law_actual", "_law_due"] ["_law_actual", "_law_due"] (defScope (top 25)) := ⟨rfl, rfl, rfl, by decide +kernel, rfl, by decide +kernel, by decide +kernel⟩
theorem ok__law_is {f : Addr} {fd : FuncData} (F : Fun K "_law_is" "_law_is" (top 25) f fd) (T : TxC mg) : FnOk P w K mg base CX0 1 f fd ["_law_actual", "_law_due"] spIs := by
  refine F.ok sc__law_is (fun vs H Q E h => ?_) (fun cdv A outer s H vs Q E hr h => ?_)
  · obtain ⟨a, b, rfl, _⟩ := h
    rfl
  · obtain ⟨a, b, rfl, q⟩ := h
    have hu := hu_of hr
    refine ⟨_, (pss_one (ps_ret (pe_and (pe_callB call_isi (by rfl) T.isinstance (by decide +kernel) (pa_cons (pv 0) (pa_cons (pe_bltn (v := .ty "int") (by rfl) T.int (by decide +kernel) rfl) pa_nil))) (pe_and (pe_not (pe_callB call_isi (by rfl) T.isinstance (by decide +kernel) (pa_cons (pv 0) (pa_cons (pe_bltn (v := .ty "bool") (by rfl) T.bool (by decide +kernel) rfl) pa_nil)))) (pe_one (pe_cmpR op_eq (pv 0) (pv 1) (nomark _))))))), ?_⟩
    refine ⟨_, rfl, _, _, _, _, true, rfl, .ty "int", .base (.int a), kit_ty (by decide +kernel), _, rfl, ?_⟩
    refine iteT ?_
    refine ⟨_, rfl, _, _, _, _, false, rfl, .ty "bool", .base (.int a), kit_ty (by decide +kernel), _, rfl, _, rfl, ?_⟩
    refine iteT ?_
    refine ⟨_, rfl, _, rfl, rfl, ?_⟩
    have e : decide (V.int a = V.int b) = decide (a = b) := by rw [dec_int]; rfl
    show Q (.bl (decide (V.int a = V.int b))) H
    rw [e]
    exact q
def spDeeds : Sp := fun vs H Q _ => ∃ c k : Int, vs = [.int c, .int k] ∧ BigOk c ∧ 0 ≤ k ∧ k ≤ 100 ∧ ∀ (xs : List Int) (a : Addr), xs.length = 2 → (∀ x ∈ xs, BigOk x) → H a = none → Q (.ref a) (upd H a (.lst (xs.map V.int)))
theorem sc__law_deeds : FnScope ["_law_cell", "_law_k"] ["_law_cell", "_law_k"] (defScope (top 24)) := ⟨rfl, rfl, rfl, by decide +kernel, rfl, by decide +kernel, by decide +kernel⟩
theorem ok__law_deeds {f : Addr} {fd : FuncData} (F : Fun K "_law_deeds" "_law_deeds" (top 24) f fd) (T : TxC mg) (G_law_number : GO P w K mg base 1 "_law_number" ["_law_cell", "_law_k"] spNumber) : FnOk P w K mg base CX0 2 f fd ["_law_cell", "_law_k"] spDeeds := by
  refine F.ok sc__law_deeds (fun vs H Q E h => ?_) (fun cdv A outer s H vs Q E hr h => ?_)
  · obtain ⟨c, k, rfl, _⟩ := h
    rfl
  · obtain ⟨c, k, rfl, hc, k0, k1, q⟩ := h
    have hu := hu_of hr
    refine ⟨_, (pss_cons (ps_if (pt_cmpR op_ge (pv 0) (pe_op op_pow pe_int pe_int) (nomark _))
      (pss_one (ps_ret (pe_lst (pa_cons (pe_op op_mod (pe_callTy call_int1 (by rfl) T.int (by decide +kernel) (pa_cons (pv 0) pa_nil)) (pe_op op_pow pe_int pe_int)) (pa_cons (pe_op op_fdivW (pv 0) (pe_op op_pow pe_int pe_int)) pa_nil))))) pss_nil)
    (pss_one (ps_ret (pe_lst (pa_cons (pe_go G_law_number (hr.mono (by decide)) (pa_cons (pv 0) (pa_cons (pv 1) pa_nil))) (pa_cons (pe_go G_law_number (hr.mono (by decide)) (pa_cons (pv 0) (pa_cons (pe_op op_add (pv 1) pe_int) pa_nil))) pa_nil)))))), ?_⟩
    refine ⟨_, rfl, _, _, rfl, rfl, ⟨by decide, by decide, by decide⟩, _, _, rfl, rfl, _, rfl, ?_⟩
    by_cases hb : (10 : Int) ^ (18 : Int).toNat ≤ c
    · rw [decide_eq_true hb]
      refine iteT ?_
      refine ⟨_, rfl, .inl ⟨_, rfl, _, _, rfl, rfl, ⟨by decide, by decide, by decide⟩, _, _, rfl, rfl, by show (0 : Int) < 10 ^ (15 : Int).toNat; decide, _, rfl, _, _, rfl, rfl, ⟨by decide, by decide, by decide⟩, _, _, rfl, rfl, ⟨by decide, by decide⟩, by show 2 ≤ sizeLine; decide, fun a ha => ?_⟩⟩
      refine q [c % 10 ^ (15 : Int).toNat, c / 10 ^ (15 : Int).toNat] a rfl (fun x hx => ?_) ha
      rcases List.mem_cons.mp hx with rfl | hx
      · refine .small (Int.le_trans (by decide) (Int.emod_nonneg _ (by decide))) (Int.le_trans (Int.le_of_lt (Int.emod_lt_of_pos _ (by decide))) (by decide))
      · rw [List.mem_singleton.mp hx]
        exact hc.div _
    · rw [decide_eq_false hb]
      refine iteF ?_
      refine ⟨_, rfl, _, rfl, c, k, rfl, hc, k0, by omega, fun r1 h1 => ⟨_, rfl, _, rfl, _, _, rfl, rfl, c, k + 100, rfl, hc, by omega, by omega, fun r2 h2 => ⟨by show 2 ≤ sizeLine; decide, fun a ha => ?_⟩⟩⟩
      refine q [r1, r2] a rfl (fun x hx => ?_) ha
      rcases List.mem_cons.mp hx with rfl | hx
      · exact h1
      · rw [List.mem_singleton.mp hx]
        exact h2
def spPlace : Sp := fun vs H Q _ => ∃ x : Int, vs = [.int x] ∧ ∀ p : Nat, p < 16 → Q (.int (p : Nat)) H
theorem sc__law_place : FnScope ["_law_x", "_law_place_here"] ["_law_x"] (defScope (top 27)) := ⟨rfl, rfl, rfl, by decide +kernel, rfl, by decide +kernel, by decide +kernel⟩
theorem ok__law_place {f : Addr} {fd : FuncData} (F : Fun K "_law_place" "_law_place" (top 27) f fd) (T : TxC mg) : FnOk P w K mg base CX0 1 f fd ["_law_x"] spPlace := by
  refine F.ok sc__law_place (fun vs H Q E h => ?_) (fun cdv A outer s H vs Q E hr h => ?_)
  · obtain ⟨x, rfl, _⟩ := h
    rfl
  · obtain ⟨x, rfl, q⟩ := h
    have hu := hu_of hr
    refine ⟨_, (pss_cons (ps_set (i := 1) sc__law_place.nd rfl (Or.inl rfl) (pe_op op_mod (pe_callTy call_int1 (by rfl) T.int (by decide +kernel) (pa_cons (pv 0) pa_nil)) pe_int))
    (pss_cons (ps_if (pt_cmpR op_lt (pv 1) pe_int (nomark _))
      (pss_one (ps_ret (pv 1))) pss_nil)
    (pss_one (ps_ret (pe_op op_mod (pv 1) pe_int))))), ?_⟩
    refine ⟨_, rfl, .inl ⟨_, rfl, _, _, rfl, rfl, by show (0 : Int) < 32; decide, ?_⟩⟩
    have p0 : 0 ≤ x % 32 := Int.emod_nonneg _ (by decide)
    have p1 : x % 32 < 32 := Int.emod_lt_of_pos _ (by decide)
    refine ⟨_, rfl, _, _, rfl, rfl, _, rfl, ?_⟩
    by_cases hb : x % 32 < 16
    · rw [decide_eq_true hb]
      refine iteT ?_
      have := q (x % 32).toNat (by omega)
      rw [Int.toNat_of_nonneg p0] at this
      exact ⟨_, rfl, this⟩
    · rw [decide_eq_false hb]
      refine iteF ?_
      have h0 : 0 ≤ x % 32 % 3 := Int.emod_nonneg _ (by decide)
      have h1 : x % 32 % 3 < 3 := Int.emod_lt_of_pos _ (by decide)
      have := q (x % 32 % 3).toNat (by omega)
      rw [Int.toNat_of_nonneg h0] at this
      exact ⟨_, rfl, _, _, rfl, rfl, by show (0 : Int) < 3; decide, this⟩
def spWord (CP CS : Addr) : Sp := fun vs H Q _ => ∃ s1 A Z x, vs = [.ref s1, .int x] ∧ SpaceAt CP CS H s1 A Z ∧ Z.roots.length = 16 ∧ BigOk x ∧ ∀ v : Int, Q (.int v) H
theorem sc__law_word : FnScope ["_law_space_here", "_law_x", "_law_rest"] ["_law_space_here", "_law_x"] (defScope (top 28)) := ⟨rfl, rfl, rfl, by decide +kernel, rfl, by decide +kernel, by decide +kernel⟩
theorem ok__law_word {f : Addr} {fd : FuncData} (F : Fun K "_law_word" "_law_word" (top 28) f fd) {CP CS : Addr} (TSpace : TSpaceC K CP) (T : TxC mg) (G_law_place : GO P w K mg base 1 "_law_place" ["_law_x"] spPlace) (M_Space_root : MB P w K mg base 1 CP "root" ["self", "k"] (spRoot CP CS)) : FnOk P w K mg base CX0 2 f fd ["_law_space_here", "_law_x"] (spWord CP CS) := by
  refine F.ok sc__law_word (fun vs H Q E h => ?_) (fun cdv A outer s H vs Q E hr h => ?_)
  · obtain ⟨s1, A1, Z, x, rfl, _⟩ := h
    rfl
  · obtain ⟨s1, A1, Z, x, rfl, XA, h16, hx, q⟩ := h
    have hu := hu_of hr
    refine ⟨_, (pss_cons (ps_set (i := 2) sc__law_word.nd rfl (Or.inl rfl) (pe_op op_fdiv (pv 1) pe_int))
    (pss_cons (ps_if (pt_cmpR op_eq (pe_op op_mod (pe_callTy call_int1 (by rfl) T.int (by decide +kernel) (pa_cons (pv 1) pa_nil)) pe_int) pe_int (nomark _))
      (pss_one (ps_ret (pe_op op_add (pe_op op_mul pe_int (pe_op op_sub (pe_op op_mod (pe_callTy call_int1 (by rfl) T.int (by decide +kernel) (pa_cons (pe_op op_mulX (pv 2) pe_int) pa_nil)) pe_int) pe_int)) pe_int))) pss_nil)
    (pss_cons (ps_if (pt_cmpR op_eq (pe_op op_mod (pe_callTy call_int1 (by rfl) T.int (by decide +kernel) (pa_cons (pv 1) pa_nil)) pe_int) pe_int (nomark _))
      (pss_one (ps_ret (pe_op op_add (pe_op op_mul pe_int (pe_op op_mod (pe_callTy call_int1 (by rfl) T.int (by decide +kernel) (pa_cons (pe_op op_mulX (pv 2) pe_int) pa_nil)) pe_int)) pe_int))) pss_nil)
    (pss_cons (ps_if (PW.pt (pw_and (pt_cmpR op_eq (pe_op op_mod (pe_callTy call_int1 (by rfl) T.int (by decide +kernel) (pa_cons (pv 1) pa_nil)) pe_int) pe_int (nomark _)) (pw_and1 (pt_cmpR op_eq (pe_op op_mod (pe_callTy call_int1 (by rfl) T.int (by decide +kernel) (pa_cons (pv 2) pa_nil)) pe_int) pe_int (nomark _)))))
      (pss_one (ps_ret pe_int)) pss_nil)
    (pss_one (ps_ret (pe_mbb (pv 0) TSpace.cl M_Space_root ((roomH_of hr).mono (by decide)) (Or.inl rfl) (pa_cons (pe_go G_law_place (hr.mono (by decide)) (pa_cons (pe_op op_fdiv (pv 2) pe_int) pa_nil)) pa_nil)))))))), ?_⟩
    obtain ⟨dx, ob⟩ := XA.ob
    refine ⟨_, rfl, _, _, rfl, rfl, ⟨by decide, by decide⟩, ?_⟩
    refine ⟨_, rfl, .inl ⟨_, rfl, _, _, rfl, rfl, by show (0 : Int) < 4; decide, rfl, _, rfl, ?_⟩⟩
    refine ite2 (fun _ => ?_) (fun _ => ?_)
    · exact ⟨_, rfl, _, _, rfl, rfl, (hx.div 4).mul (by decide), .inl ⟨_, rfl, _, _, rfl, rfl, by show (0 : Int) < 536870912; decide, _, _, rfl, rfl, _, _, rfl, rfl, .inl ⟨by decide, by decide⟩, _, _, rfl, rfl, q _⟩⟩
    refine ⟨_, rfl, .inl ⟨_, rfl, _, _, rfl, rfl, by show (0 : Int) < 4; decide, rfl, _, rfl, ?_⟩⟩
    refine ite2 (fun _ => ?_) (fun _ => ?_)
    · exact ⟨_, rfl, _, _, rfl, rfl, (hx.div 4).mul (by decide), .inl ⟨_, rfl, _, _, rfl, rfl, by show (0 : Int) < 100000; decide, _, _, rfl, rfl, .inl ⟨by decide, by decide⟩, _, _, rfl, rfl, q _⟩⟩
    refine ⟨_, rfl, .inl ⟨_, rfl, _, _, rfl, rfl, by show (0 : Int) < 4; decide, rfl, _, rfl, ?_⟩⟩
    have fin : ∀ p : Nat, p < 16 → ∃ v, Z.roots[p]? = some v := fun p hp => ⟨Z.roots[p]'(by omega), List.getElem?_eq_getElem _⟩
    refine ite2 (fun _ => ?_) (fun _ => ?_)
    · refine ⟨_, rfl, .inl ⟨_, rfl, _, _, rfl, rfl, by show (0 : Int) < 4; decide, rfl, _, rfl, ?_⟩⟩
      refine ite2 (fun _ => ?_) (fun _ => ?_)
      · exact q 0
      · refine ⟨_, rfl, s1, dx, _, rfl, ob, rfl, _, rfl, _, _, rfl, rfl, ⟨by decide, by decide⟩, _, rfl, fun p hp => ?_⟩
        obtain ⟨v, hv⟩ := fin p hp
        exact ⟨s1, A1, Z, p, v, rfl, XA, hv, q v⟩
    · refine iteF ?_
      refine ⟨_, rfl, s1, dx, _, rfl, ob, rfl, _, rfl, _, _, rfl, rfl, ⟨by decide, by decide⟩, _, rfl, fun p hp => ?_⟩
      obtain ⟨v, hv⟩ := fin p hp
      exact ⟨s1, A1, Z, p, v, rfl, XA, hv, q v⟩
end
end Sg

/-! SgP12: the law's same, reached, total. -/
namespace Sg
open PySem PySem.W PySem.Spec PyProof.Rows L2 L2H HotX
section
variable {P : Program} {w : World} {K : Frag} {mg : Str → Option Value} {base : Heap}
def spSame : Sp := fun vs H Q _ => ∃ (a b : Addr) (xs ys : List Int), vs = [.ref a, .ref b] ∧ H a = some (.lst (xs.map V.int)) ∧ H b = some (.lst (ys.map V.int)) ∧ ys.length ≤ 1000000 ∧ Q (.bl (decide (xs = ys))) H
theorem sc__law_same : FnScope ["_law_actual", "_law_due", "_law_k"] ["_law_actual", "_law_due"] (defScope (top 26)) := ⟨rfl, rfl, rfl, by decide +kernel, rfl, by decide +kernel, by decide +kernel⟩
theorem ok__law_same {f : Addr} {fd : FuncData} (F : Fun K "_law_same" "_law_same" (top 26) f fd) (T : TxC mg) (G_law_is : GO P w K mg base 1 "_law_is" ["_law_actual", "_law_due"] spIs) : FnOk P w K mg base CX0 2 f fd ["_law_actual", "_law_due"] spSame := by
  refine F.ok sc__law_same (fun vs H Q E h => ?_) (fun cdv A outer s H vs Q E hr h => ?_)
  · obtain ⟨a, b, xs, ys, rfl, _⟩ := h
    rfl
  · obtain ⟨a, b, xs, ys, rfl, ha, hb, hl, q⟩ := h
    have hu := hu_of hr
    refine ⟨_, (pss_cons (ps_if (PW.pt (pw_or (pt_not (pt_val (pe_callB call_isi (by rfl) T.isinstance (by decide +kernel) (pa_cons (pv 0) (pa_cons (pe_bltn (v := .ty "list") (by rfl) T.list (by decide +kernel) rfl) pa_nil))))) (pw_or1 (pt_cmpR op_ne (pe_callB call_len_seq (by rfl) T.len PySem.boot_len (pa_cons (pv 0) pa_nil)) (pe_callB call_len_seq (by rfl) T.len PySem.boot_len (pa_cons (pv 1) pa_nil)) (nomark _)))))
      (pss_one (ps_ret pe_bl)) pss_nil)
    (pss_cons (ps_for PassesOwn.never rfl (pi_range1 (by rfl) T.range (pa_cons (pe_callB call_len_seq (by rfl) T.len PySem.boot_len (pa_cons (pv 1) pa_nil)) pa_nil)) (pg_name (i := 2) sc__law_same.nd rfl (Or.inl rfl))
      (pss_one (ps_if (pt_not (pt_val (pe_go G_law_is (hr.mono (by decide)) (pa_cons (pe_ix ix_list (pv 0) (pv 2) (fun _ _ => rfl)) (pa_cons (pe_ix ix_list (pv 1) (pv 2) (fun _ _ => rfl)) pa_nil)))))
        (pss_one (ps_ret pe_bl)) pss_nil)))
    (pss_one (ps_ret pe_bl)))), ?_⟩
    refine ⟨_, rfl, _, _, _, _, true, rfl, .ty "list", .base (.lst ha), kit_ty (by decide +kernel), _, rfl, ?_⟩
    refine iteF ?_
    refine ⟨_, rfl, a, _, rfl, .inl (SqL.of ha), _, rfl, b, _, rfl, .inl (SqL.of hb), rfl, _, rfl, ?_⟩
    rw [List.length_map, List.length_map]
    by_cases he : xs.length = ys.length
    · refine iteNS (by rw [he]) ?_
      refine ⟨_, rfl, b, _, rfl, .inl (SqL.of hb), ?_⟩
      rw [List.length_map]
      refine ⟨_, rfl, by omega, by omega, for_range (lo := 0) (n := ys.length) (fun i σ H' => ∃ v, σ = [some (.ref a), some (.ref b), v] ∧ H' = H ∧ xs.take i = ys.take i) ⟨_, rfl, rfl, rfl⟩ ?_ ?_⟩
      · rintro i σ H' hi ⟨v, rfl, rfl, ht⟩
        obtain ⟨x, hx⟩ : ∃ x, xs[i]? = some x := ⟨_, List.getElem?_eq_getElem (by omega)⟩
        obtain ⟨y, hy⟩ : ∃ y, ys[i]? = some y := ⟨_, List.getElem?_eq_getElem (by omega)⟩
        have ax : atI (xs.map V.int) (0 + (i : Int)) = some (V.int x) := by rw [Int.zero_add]; exact atI_nat (map_int hx)
        have ay : atI (ys.map V.int) (0 + (i : Int)) = some (V.int y) := by rw [Int.zero_add]; exact atI_nat (map_int hy)
        refine ⟨_, rfl, _, rfl, a, _, _, _, rfl, rfl, SqL.of ha, ax, _, rfl, _, rfl, b, _, _, _, rfl, rfl, SqL.of hb, ay, x, y, rfl, _, rfl, ?_⟩
        by_cases hxy : x = y
        · rw [decide_eq_true hxy]
          refine iteF ?_
          refine ⟨_, rfl, rfl, ?_⟩
          rw [List.take_add_one, List.take_add_one, ht, hx, hy, hxy]
        · rw [decide_eq_false hxy]
          refine iteT ?_
          have ne : xs ≠ ys := fun e => by rw [e, hy] at hx; exact hxy (Option.some.inj hx).symm
          rw [decide_eq_false ne] at q
          exact q
      · rintro σ H' ⟨v, rfl, rfl, ht⟩
        have e : xs = ys := by rw [← List.take_length (l := ys), ← ht, ← he, List.take_length]
        rw [decide_eq_true e] at q
        exact q
    · have ne : xs ≠ ys := fun e => he (by rw [e])
      rw [decide_eq_false ne] at q
      have e1 : (!decide (V.int ((xs.length : Nat) : Int) = V.int ((ys.length : Nat) : Int))) = true := by
        rw [dec_int]
        simp only [Bool.not_eq_true']
        exact beq_eq_false_iff_ne.mpr (by omega)
      rw [e1]
      refine iteT ?_
      exact q
/-- what the law's own walk has found -/
abbrev kvF (es : List (Ob × Addr × Addr)) : List (Key × V) := es.map fun e => ((Sum.inl e.1.num : Key), V.ref e.2.1)
structure FoundAt (H : Hp) (d : Addr) (es : List (Ob × Addr × Addr)) : Prop where
  dk : H d = some (.dK (kvF es))
  at1 : ∀ e ∈ es, H e.2.1 = some (.lst [.int e.1.kind, .ref e.2.2]) ∧ H e.2.2 = some (.lst (e.1.slots.map V.int))
structure Found (S : SSt) (ws : List Int) (es : List (Ob × Addr × Addr)) : Prop where
  nd : (es.map fun e => e.1.num).Nodup
  mem : ∀ n, n ∈ es.map (fun e => e.1.num) ↔ Reach S ws n
  ob : ∀ e ∈ es, S.ob e.1.num e.1
/-- none of it stood in H -/
def Newer (H : Hp) (d : Addr) (es : List (Ob × Addr × Addr)) : Prop := H d = none ∧ ∀ e ∈ es, H e.2.1 = none ∧ H e.2.2 = none
theorem kvF_is {es : List (Ob × Addr × Addr)} {n : Int} : (valV (kvF es) (Sum.inl n)).isSome = decide (n ∈ es.map fun e => e.1.num) := by
  induction es with
  | nil => simp [kvF, valV]
  | cons e es ih =>
    show (valV ((Sum.inl e.1.num, V.ref e.2.1) :: kvF es) (Sum.inl n)).isSome = _
    by_cases c : e.1.num = n
    · rw [valV_pos (by rw [c])]
      simp [c]
    · rw [valV_neg (fun z => c (Sum.inl.inj z)), ih]
      have c' : ¬ n = e.1.num := fun z => c z.symm
      simp [c']
theorem kvF_none {es : List (Ob × Addr × Addr)} {n : Int} (h : n ∉ es.map fun e => e.1.num) : valV (kvF es) (Sum.inl n) = none := by
  have e := kvF_is (es := es) (n := n)
  rw [decide_eq_false h] at e
  cases q : valV (kvF es) (Sum.inl n) with
  | none => rfl
  | some v => rw [q] at e; cases e
theorem kvF_some : ∀ {es : List (Ob × Addr × Addr)}, (es.map fun e => e.1.num).Nodup → ∀ e ∈ es, valV (kvF es) (Sum.inl e.1.num) = some (V.ref e.2.1)
  | [], _, e, h => by cases h
  | x :: es, nd, e, h => by
    obtain ⟨n1, n2⟩ := List.nodup_cons.mp (show (x.1.num :: es.map fun e => e.1.num).Nodup from nd)
    show valV ((Sum.inl x.1.num, V.ref x.2.1) :: kvF es) (Sum.inl e.1.num) = _
    rcases List.mem_cons.mp h with rfl | h
    · rw [valV_pos rfl]
    · rw [valV_neg (fun z => n1 (List.mem_map.mpr ⟨e, h, (Sum.inl.inj z).symm⟩)), kvF_some n2 e h]
theorem rmu_start2 {S : SSt} (ps : List Int) : rmu S [] ps ≤ ps.length + (flat S.objs).length := by
  have h1 := sum_le S.objs fun o => decide (o.num ∉ ([] : List Int))
  unfold rmu
  omega
theorem evens_le_row (o : Ob) : (evens (o.kind :: o.slots)).length ≤ (o.kind :: o.slots).length := evens_le _
theorem RIn.enter_all {S : SSt} {ws ks ps : List Int} {p : Int} {o : Ob} (L : Lay S) (h : RIn S ws ks (ps ++ [p]) none [] 0) (hp : p ∉ ks) (ho : S.ob p o) : RIn S ws (ks ++ [p]) (ps ++ evens (o.kind :: o.slots)) none [] 0 := by
  have h1 := h.enter hp ho
  have hr : Reach S ws p := h.wt p (by simp) ho.2.2
  have go : ∀ q, q ∈ ks ++ [p] ∨ q ∈ ps → q ∈ ks ++ [p] ∨ q ∈ ps ++ evens (o.kind :: o.slots) := fun q z => z.imp id fun y => List.mem_append_left _ y
  refine ⟨h1.nd, h1.snd, fun q hq l => ?_, fun v a b c => go _ (h1.rt v a b c), fun m a _ o' d v e f l => ?_, by simp⟩
  · rcases List.mem_append.mp hq with z | z
    · exact h1.wt q z l
    · obtain ⟨v, a, b, rfl⟩ := mem_evens.mp z
      exact .step hr ho a b l
  · by_cases c : m = p
    · subst c
      obtain rfl := SSt.ob_uniq L d ho
      exact .inr (List.mem_append_right _ (mem_evens.mpr ⟨v, e, f, rfl⟩))
    · exact go _ (h1.cl m a (fun z => c (Option.some.inj z).symm) o' d v e f l)
def spLReached (CP CS : Addr) : Sp := fun vs H Q _ => ∃ s1 A Z r ws, vs = [.ref s1, .ref r] ∧ SpaceAt CP CS H s1 A Z ∧ Whole Z.store ∧ H r = some (.lst (ws.map V.int)) ∧ ws.length + (flat Z.store.objs).length < 20000 ∧
  ∀ d es H', Found Z.store ws es → FoundAt H' d es → Newer H d es → Same H H' → Q (.ref d) H'
theorem sc__law_reached : FnScope ["_law_space_here", "_law_words", "_law_store", "_law_found", "_law_waiting", "_law_turn", "_law_number_here", "_law_row", "_law_word_here"] ["_law_space_here", "_law_words"] (defScope (top 29)) := ⟨rfl, rfl, rfl, by decide +kernel, rfl, by decide +kernel, by decide +kernel⟩
theorem ok__law_reached {f : Addr} {fd : FuncData} (F : Fun K "_law_reached" "_law_reached" (top 29) f fd) {CP CS : Addr} (TStore : TStoreC K CS) (TSpace : TSpaceC K CP) (T : TxC mg) (M_Store_exists : MB P w K mg base 1 CS "exists" ["self", "number"] (spExists CS)) (M_Store_kind : MB P w K mg base 1 CS "kind" ["self", "number"] (spKind CS)) (M_Store_slots : MB P w K mg base 2 CS "slots" ["self", "number"] (spSlots CS)) : FnOk P w K mg base CX0 3 f fd ["_law_space_here", "_law_words"] (spLReached CP CS) := by
  refine F.ok sc__law_reached (fun vs H Q E h => ?_) (fun cdv A outer s H vs Q E hr h => ?_)
  · obtain ⟨sp0, A1, Z, r, ws, rfl, _⟩ := h
    rfl
  · obtain ⟨sp0, A1, Z, r, ws, rfl, XA, W, hr0, hlen, q⟩ := h
    have hu := hu_of hr
    refine ⟨_, (pss_cons (ps_set (i := 2) sc__law_reached.nd rfl (Or.inl rfl) (pe_fld (pv 0) rfl))
    (pss_cons (ps_set (i := 3) sc__law_reached.nd rfl (Or.inl rfl) pe_dnewK)
    (pss_cons (ps_setLc (i := 4) (own := [("_law_word_here", 8)]) (g := gName 8) rfl sc__law_reached.nd rfl rfl (sw_true rfl rfl rfl (by decide +kernel)) (pi_list (pv 1)) (blkOk_by (own := [("_law_word_here", 8)]) (N := ["_law_space_here", "_law_words", "_law_store", "_law_found", "_law_waiting", "_law_turn", "_law_number_here", "_law_row", "_law_word_here"]) (sc := defScope (top 29)) (by decide +kernel)) (fun _ _ _ _ _ => pg_name (i := 8) sc__law_reached.nd rfl (Or.inl rfl)) (fun _ _ _ _ _ => (pts_one (pt_cmpR op_eq (pe_op op_mod (pe_callTy call_int1 (by rfl) T.int (by decide +kernel) (pa_cons (pv 8) pa_nil)) pe_int) pe_int (nomark _)))) (fun _ _ _ _ _ => (pe_op op_fdiv (pv 8) pe_int)))
    (pss_cons (ps_for PassesOwn.never rfl (pi_range1 (by rfl) T.range (pa_cons pe_int pa_nil)) (pg_name (i := 5) sc__law_reached.nd rfl (Or.inl rfl))
      (pss_cons (ps_if (pt_not (pt_truth (pv 4) (by intro _; rfl)))
        (pss_one ps_break) pss_nil)
      (pss_cons (ps_set (i := 6) sc__law_reached.nd rfl (Or.inl rfl) (pe_bm0 PySem.F.plainAttrs_list PySem.F.slot_list_pop PySem.F.type_list_pop mt_pop (pv 4)))
      (pss_one (ps_if (PW.pt (pw_and (pt_cmp (pc_dnotin hu (pv 6) (pv 3))) (pw_and1 (pt_val (pe_mbb (pv 2) TStore.cl M_Store_exists ((roomH_of hr).mono (by decide)) (Or.inl rfl) (pa_cons (pv 6) pa_nil))))))
        (pss_cons (ps_dput hu (pv 3) (pv 6) (pe_lst (pa_cons (pe_mbb (pv 2) TStore.cl M_Store_kind ((roomH_of hr).mono (by decide)) (Or.inl rfl) (pa_cons (pv 6) pa_nil)) (pa_cons (pe_callTy call_list_of (by rfl) T.list (by decide +kernel) (pa_cons (pe_mbb (pv 2) TStore.cl M_Store_slots ((roomH_of hr).mono (by decide)) (Or.inl rfl) (pa_cons (pv 6) pa_nil)) pa_nil)) pa_nil))) rfl)
        (pss_cons (ps_set (i := 7) sc__law_reached.nd rfl (Or.inl rfl) (pe_op op_cat (pe_lst (pa_cons (pe_ix ix_list (pe_dget hu (pv 3) (pv 6) (fun _ _ => rfl)) pe_int (fun _ _ => rfl)) pa_nil)) (pe_ix ix_list (pe_dget hu (pv 3) (pv 6) (fun _ _ => rfl)) pe_int (fun _ _ => rfl))))
        (pss_one (ps_expr (pe_bm PySem.F.plainAttrs_list PySem.F.slot_list_extend PySem.F.type_list_extend mt_extend (pv 4) (pa_cons (pe_lc (own := [("_law_word_here", 8)]) (g := gName 8) rfl sc__law_reached.nd (pi_list (pv 7)) (blkOk_by (own := [("_law_word_here", 8)]) (N := ["_law_space_here", "_law_words", "_law_store", "_law_found", "_law_waiting", "_law_turn", "_law_number_here", "_law_row", "_law_word_here"]) (sc := defScope (top 29)) (by decide +kernel)) (fun _ _ _ _ _ => pg_name (i := 8) sc__law_reached.nd rfl (Or.inl rfl)) (fun _ _ _ _ _ => (pts_one (pt_cmpR op_eq (pe_op op_mod (pe_callTy call_int1 (by rfl) T.int (by decide +kernel) (pa_cons (pv 8) pa_nil)) pe_int) pe_int (nomark _)))) (fun _ _ _ _ _ => (pe_op op_fdiv (pv 8) pe_int))) pa_nil)))))) pss_nil)))))
    (pss_one (ps_ret (pv 3))))))), ?_⟩
    obtain ⟨dx0, ob0⟩ := XA.ob
    have L := W.toLay
    obtain ⟨S, eS⟩ : ∃ S, S = Z.store := ⟨_, rfl⟩
    rw [← eS] at hlen L q
    -- store = space.store; found = {}
    refine ⟨_, rfl, sp0, CP, _, _, _, rfl, ob0, TSpace.cl, TSpace.store, rfl, ?_⟩
    intro d hd
    refine ⟨_, rfl, r, rfl, ⟨_, SqL.of (by rw [upd_ne (ne_of_none hr0 hd)]; exact hr0)⟩, fun D hD => lc_list (K := K) (a := r) (xs := (ws).map V.int) (fun i H1 => (∀ b o, (upd H d (.dK [])) b = some o → H1 b = some o) ∧ H1 D = some (.lst ((evens ((ws).take i)).map V.int)))
      ⟨fun b o e => by rw [upd_ne (ne_of_none e hD)]; exact e, by rw [upd_same]; rfl⟩ (fun i H1 _ ⟨s1, _⟩ => SqL.of (s1 _ _ (by rw [upd_ne (ne_of_none hr0 hd)]; exact hr0))) ?_ ?_⟩
    · rintro i x H1 hi ⟨s1, h1⟩
      obtain ⟨v, hv, rfl⟩ : ∃ v, (ws)[i]? = some v ∧ x = V.int v := by
        rw [List.getElem?_map] at hi
        cases e : (ws)[i]? with
        | none => rw [e] at hi; cases hi
        | some z => rw [e] at hi; exact ⟨z, rfl, (Option.some.inj hi).symm⟩
      have ht : (ws).take (i + 1) = (ws).take i ++ [v] := by rw [List.take_add_one, hv]; rfl
      refine ⟨rfl, _, rfl, .inl ⟨_, rfl, _, _, rfl, rfl, by show (0 : Int) < 2; decide, rfl, _, rfl, ?_⟩⟩
      have ed : decide (V.int (v % 2) = V.int 0) = decide (v % 2 = 0) := by rw [dec_int]; rfl
      by_cases hv2 : v % 2 = 0
      · rw [show decide (V.int (v % 2) = V.int 0) = true by rw [ed]; exact decide_eq_true hv2]
        refine iteT ?_
        refine ⟨_, rfl, _, _, rfl, rfl, ⟨by decide, by decide⟩, _, h1, ?_, fun b o e => ?_, ?_⟩
        · rw [List.length_map]
          have z1 := evens_le ((ws).take i)
          have z2 := List.length_take_le' i (ws)
          rw [sizeLine_eq]
          omega
        · rw [upd_ne (ne_of_none e hD)]
          exact s1 b o e
        · rw [upd_same, ht, evens_app, List.map_append, show evens [v] = [v / 2] by simp [evens, hv2]]
          rfl
      · rw [show decide (V.int (v % 2) = V.int 0) = false by rw [ed]; exact decide_eq_false hv2]
        refine iteF ?_
        refine ⟨s1, ?_⟩
        rw [ht, evens_app, show evens [v] = [] by simp [evens, hv2], List.append_nil]
        exact h1
    · rintro H1 ⟨s1, h1⟩
      rw [List.length_map, List.take_length] at h1
      have sH : Same H H1 := fun b o e => s1 b o (by rw [upd_ne (ne_of_none e hd)]; exact e)
      have hd1 : H1 d = some (.dK (kvF [])) := s1 _ _ upd_same
      have ndD : d ≠ D := fun z => by rw [← z, upd_same] at hD; cases hD
      have hD0 : H D = none := by rw [← hD, upd_ne ndD.symm]
      refine ⟨20000, rfl, by decide, by decide, for_range (lo := 0) (n := 20000) (fun i σ H2 => ∃ es ps t5 n6 r7, σ = [some (.ref sp0), some (.ref r), some (.ref A1.st), some (.ref d), some (.ref D), t5, n6, r7, none] ∧ Same H H2 ∧ FoundAt H2 d es ∧ Newer H d es ∧ H2 D = some (.lst (ps.map V.int)) ∧
          RIn S ws (es.map fun e => e.1.num) ps none [] 0 ∧ (∀ e ∈ es, S.ob e.1.num e.1 ∧ e.2.1 ≠ D ∧ e.2.2 ≠ D ∧ e.2.1 ≠ d ∧ e.2.2 ≠ d) ∧ rmu S (es.map fun e => e.1.num) ps + i < 20000)
        ⟨[], evens ws, _, _, _, rfl, sH, ⟨hd1, by simp⟩, ⟨hd, by simp⟩, h1, .start, by simp, ?_⟩ ?_ ?_⟩
      · have z1 := rmu_start2 (S := S) (evens ws)
        have z2 := evens_le ws
        show rmu S [] (evens ws) + 0 < 20000
        omega
      · rintro i σ H2 hi ⟨es, ps, t5, n6, r7, rfl, s2, F2, N2, hD2, R, hes, hmu⟩
        refine ⟨_, rfl, !(ps.map V.int).isEmpty, .inl ⟨_, SqL.of hD2, rfl⟩, ?_⟩
        have obj : ∀ e ∈ es, S.ob e.1.num e.1 := fun e he => (hes e he).1
        rcases List.eq_nil_or_concat ps with rfl | ⟨l, a, rfl⟩
        · refine iteT ?_
          refine ⟨_, rfl, q d es H2 ⟨R.nd, R.done L, obj⟩ F2 N2 s2⟩
        · rw [List.concat_eq_append] at *
          have e0 : (!(List.map V.int (l ++ [a])).isEmpty) = true := by simp
          rw [e0]
          refine iteF ?_
          -- number = waiting.pop()
          refine ⟨_, rfl, .inl ⟨rfl, _, SqL.of hD2⟩, D, _, V.int a, rfl, rfl, hD2, by simp, ?_⟩
          rw [show (List.map V.int (l ++ [a])).dropLast = l.map V.int by simp]
          obtain ⟨H3, eH3⟩ : ∃ H3, H3 = upd H2 D (.lst (l.map V.int)) := ⟨_, rfl⟩
          rw [← eH3]
          have s3 : Same H H3 := fun b o e => by rw [eH3, upd_ne (ne_of_none e hD0)]; exact s2 b o e
          have F3 : FoundAt H3 d es := ⟨by rw [eH3, upd_ne ndD]; exact F2.dk, fun e he => ⟨by rw [eH3, upd_ne (hes e he).2.1]; exact (F2.at1 e he).1, by rw [eH3, upd_ne (hes e he).2.2.1]; exact (F2.at1 e he).2⟩⟩
          have hD3 : H3 D = some (.lst (l.map V.int)) := by rw [eH3, upd_same]
          have X3 := XA.same s3
          have SA3 := X3.sto
          rw [← eS] at SA3
          obtain ⟨dy, oy⟩ := SA3.ob
          have out : (a ∈ es.map (fun e => e.1.num) ∨ ¬ S.live a) → ∃ es' ps' t5' n6' r7', [some (V.ref sp0), some (V.ref r), some (V.ref A1.st), some (V.ref d), some (V.ref D), some (V.int (0 + (i : Int))), some (V.int a), r7, none] = [some (V.ref sp0), some (V.ref r), some (V.ref A1.st), some (V.ref d), some (V.ref D), t5', n6', r7', none] ∧ Same H H3 ∧ FoundAt H3 d es' ∧ Newer H d es' ∧
              H3 D = some (.lst (ps'.map V.int)) ∧ RIn S ws (es'.map fun e => e.1.num) ps' none [] 0 ∧ (∀ e ∈ es', S.ob e.1.num e.1 ∧ e.2.1 ≠ D ∧ e.2.2 ≠ D ∧ e.2.1 ≠ d ∧ e.2.2 ≠ d) ∧ rmu S (es'.map fun e => e.1.num) ps' + (i + 1) < 20000 := fun z =>
            ⟨es, l, _, _, _, rfl, s3, F3, N2, hD3, R.skip z, hes, by have := rmu_skip (S := S) (ks := es.map fun e => e.1.num) (ps := l) (p := a); omega⟩
          -- if number not in found and store.exists(number)
          refine ⟨_, rfl, _, rfl, d, _, rfl, DGet.k (k := Sum.inl a) F3.dk, _, rfl, ?_⟩
          rw [kvF_is]
          by_cases hk : a ∈ es.map fun e => e.1.num
          · rw [decide_eq_true hk]
            refine iteF ?_
            exact out (.inl hk)
          · rw [decide_eq_false hk]
            refine iteT ?_
            refine ⟨_, rfl, A1.st, dy, _, rfl, oy, rfl, _, rfl, A1.st, A1.w, A1.d, S, a, rfl, SA3, _, rfl, ?_⟩
            by_cases hlv : S.live a
            · rw [decide_eq_true hlv]
              refine iteT ?_
              obtain ⟨o1, ho⟩ := L.live_ob hlv
              have hnum : o1.num = a := ho.2.1
              have sz := ob_le L ho
              have klen := ks_le L R.nd fun m hm => (R.snd m hm).live
              -- found[number] = [store.kind(number), list(store.slots(number))]
              refine ⟨_, rfl, A1.st, dy, _, rfl, oy, rfl, _, rfl, A1.st, A1.w, A1.d, S, a, o1, rfl, SA3, L, ho, _, rfl, A1.st, dy, _, rfl, oy, rfl, _, rfl, A1.st, A1.w, A1.d, S, a, o1, rfl, SA3, L, ho, fun m0 hm0 => ⟨m0, _, rfl, .inl (SqL.of upd_same), fun m1 hm1 => ⟨by show 2 ≤ sizeLine; decide, fun l1 hl1 => ?_⟩⟩⟩
              have t3 := (same_new (o := .lst (o1.slots.map V.int)) hm0).trans ((same_new (o := .lst (o1.slots.map V.int)) hm1).trans (same_new (o := .lst [V.int o1.kind, V.ref m1]) hl1))
              have hm1' : H3 m1 = none := (same_new hm0).free hm1
              have hl1' : H3 l1 = none := ((same_new hm0).trans (same_new hm1)).free hl1
              have d5 := t3 _ _ F3.dk
              refine ⟨_, rfl, _, rfl, d, _, rfl, DPut.k (k := Sum.inl a) d5 (by rw [List.length_map, sizeLine_eq]; rw [List.length_map] at klen; omega), ?_⟩
              rw [putK_new _ (kvF_none hk)]
              have enew : kvF es ++ [((Sum.inl a : Key), V.ref l1)] = kvF (es ++ [(o1, l1, m1)]) := by simp [kvF, hnum]
              rw [enew]
              have n1d : l1 ≠ d := fun z => by rw [z, F3.dk] at hl1'; cases hl1'
              have n1D : l1 ≠ D := fun z => by rw [z, hD3] at hl1'; cases hl1'
              have nmd : m1 ≠ d := fun z => by rw [z, F3.dk] at hm1'; cases hm1'
              have nmD : m1 ≠ D := fun z => by rw [z, hD3] at hm1'; cases hm1'
              have nml : m1 ≠ l1 := fun z => by rw [← z, upd_same] at hl1; cases hl1
              obtain ⟨H4, eH4⟩ : ∃ H4, H4 = upd (upd (upd (upd H3 m0 (.lst (o1.slots.map V.int))) m1 (.lst (o1.slots.map V.int))) l1 (.lst [V.int o1.kind, V.ref m1])) d (.dK (kvF (es ++ [(o1, l1, m1)]))) := ⟨_, rfl⟩
              rw [← eH4]
              have k4 : ∀ b o, b ≠ d → H3 b = some o → H4 b = some o := fun b o n e => by rw [eH4, upd_ne n]; exact t3 _ _ e
              have s4 : Same H H4 := fun b o e => k4 b o (ne_of_none e hd) (s3 b o e)
              have d4 : H4 d = some (.dK (kvF (es ++ [(o1, l1, m1)]))) := by rw [eH4, upd_same]
              have l4 : H4 l1 = some (.lst [V.int o1.kind, V.ref m1]) := by rw [eH4, upd_ne n1d, upd_same]
              have m4 : H4 m1 = some (.lst (o1.slots.map V.int)) := by rw [eH4, upd_ne nmd, upd_ne nml, upd_same]
              have D4 := k4 _ _ ndD.symm hD3
              have nd4 : ((es ++ [(o1, l1, m1)]).map fun e => e.1.num) = (es.map fun e => e.1.num) ++ [a] := by simp [hnum]
              have F4 : FoundAt H4 d (es ++ [(o1, l1, m1)]) := ⟨d4, fun e he => by
                rcases List.mem_append.mp he with h | h
                · exact ⟨k4 _ _ (hes e h).2.2.2.1 (F3.at1 e h).1, k4 _ _ (hes e h).2.2.2.2 (F3.at1 e h).2⟩
                · rw [List.mem_singleton.mp h]; exact ⟨l4, m4⟩⟩
              have nodup4 : ((es ++ [(o1, l1, m1)]).map fun e => e.1.num).Nodup := by rw [nd4]; exact (R.enter_all L hk ho).nd
              have get4 : ∀ Hx, Hx d = some (.dK (kvF (es ++ [(o1, l1, m1)]))) → DGet Hx d (.int a) (some (.ref l1)) := fun Hx h => by
                have := kvF_some nodup4 (o1, l1, m1) (by simp)
                rw [show ((o1, l1, m1) : Ob × Addr × Addr).1.num = a from hnum] at this
                exact dget_of h this
              -- row = [found[number][0]] + found[number][1]
              refine ⟨_, rfl, _, rfl, d, _, rfl, get4 _ d4, l1, _, _, _, rfl, rfl, SqL.of l4, atI_nat (j := 0) rfl, by show 1 ≤ sizeLine; decide, fun a1 ha1 => ?_⟩
              have u1 := same_new (o := .lst [V.int o1.kind]) ha1
              refine ⟨_, rfl, _, rfl, d, _, rfl, get4 _ (u1 _ _ d4), l1, _, _, _, rfl, rfl, SqL.of (u1 _ _ l4), atI_nat (j := 1) rfl, a1, m1, _, _, rfl, rfl, upd_same, u1 _ _ m4, by rw [List.length_map, sizeLine_eq]; show 1 + _ ≤ _; omega, fun r1 hr1 => ?_⟩
              have u2 : Same H4 (upd (upd H4 a1 (.lst [V.int o1.kind])) r1 (.lst ([V.int o1.kind] ++ o1.slots.map V.int))) := u1.trans (same_new hr1)
              obtain ⟨H5, eH5⟩ : ∃ H5, H5 = upd (upd H4 a1 (.lst [V.int o1.kind])) r1 (.lst ([V.int o1.kind] ++ o1.slots.map V.int)) := ⟨_, rfl⟩
              have hr5 : H5 r1 = some (.lst ((o1.kind :: o1.slots).map V.int)) := by rw [eH5, upd_same]; rfl
              rw [← eH5] at u2
              refine (?_ : _)
              rw [← eH5]
              -- waiting.extend([..])
              refine ⟨_, rfl, .inl ⟨rfl, _, SqL.of (u2 _ _ D4)⟩, _, rfl, r1, rfl, ⟨_, SqL.of hr5⟩, fun D2 hD2' => ?_⟩
              refine lc_list (K := K) (a := r1) (xs := (o1.kind :: o1.slots).map V.int) (fun i H1 => (∀ b o, H5 b = some o → H1 b = some o) ∧ H1 D2 = some (.lst ((evens ((o1.kind :: o1.slots).take i)).map V.int)))
                ⟨fun b o e => by rw [upd_ne (ne_of_none e hD2')]; exact e, by rw [upd_same]; rfl⟩ (fun i H1 _ ⟨s1, _⟩ => SqL.of (s1 _ _ hr5)) ?_ ?_
              · have hD := hD2'
                have hlen : (o1.kind :: o1.slots).length ≤ 200000 := by rw [List.length_cons]; omega
                revert hD
                generalize D2 = D2'
                intro hD
                rintro i x H1 hi ⟨s1, h1⟩
                obtain ⟨v, hv, rfl⟩ : ∃ v, (o1.kind :: o1.slots)[i]? = some v ∧ x = V.int v := by
                  rw [List.getElem?_map] at hi
                  cases e : (o1.kind :: o1.slots)[i]? with
                  | none => rw [e] at hi; cases hi
                  | some z => rw [e] at hi; exact ⟨z, rfl, (Option.some.inj hi).symm⟩
                have ht : (o1.kind :: o1.slots).take (i + 1) = (o1.kind :: o1.slots).take i ++ [v] := by rw [List.take_add_one, hv]; rfl
                refine ⟨rfl, _, rfl, .inl ⟨_, rfl, _, _, rfl, rfl, by show (0 : Int) < 2; decide, rfl, _, rfl, ?_⟩⟩
                have ed : decide (V.int (v % 2) = V.int 0) = decide (v % 2 = 0) := by rw [dec_int]; rfl
                by_cases hv2 : v % 2 = 0
                · rw [show decide (V.int (v % 2) = V.int 0) = true by rw [ed]; exact decide_eq_true hv2]
                  refine iteT ?_
                  refine ⟨_, rfl, _, _, rfl, rfl, ⟨by decide, by decide⟩, _, h1, ?_, fun b o e => ?_, ?_⟩
                  · rw [List.length_map]
                    have z1 := evens_le ((o1.kind :: o1.slots).take i)
                    have z2 := List.length_take_le' i (o1.kind :: o1.slots)
                    rw [sizeLine_eq]
                    omega
                  · rw [upd_ne (ne_of_none e hD)]
                    exact s1 b o e
                  · rw [upd_same, ht, evens_app, List.map_append, show evens [v] = [v / 2] by simp [evens, hv2]]
                    rfl
                · rw [show decide (V.int (v % 2) = V.int 0) = false by rw [ed]; exact decide_eq_false hv2]
                  refine iteF ?_
                  refine ⟨s1, ?_⟩
                  rw [ht, evens_app, show evens [v] = [] by simp [evens, hv2], List.append_nil]
                  exact h1
              · rintro H6 ⟨s6, h6⟩
                rw [List.length_map, List.take_length] at h6
                have u6 : Same H4 H6 := u2.trans s6
                have z3 := evens_le (o1.kind :: o1.slots)
                have z4 := rmu_le (S := S) (ks := es.map fun e => e.1.num) (ps := l ++ [a])
                simp only [List.length_append, List.length_cons, List.length_nil] at z3 z4
                have nDD : D ≠ D2 := fun z => by rw [← z, u2 _ _ D4] at hD2'; cases hD2'
                refine ⟨D, D2, _, _, rfl, rfl, u6 _ _ D4, h6, by rw [List.length_map, List.length_map, sizeLine_eq]; omega, ?_⟩
                have hl0 : H l1 = none := s3.free hl1'
                have hm0' : H m1 = none := s3.free hm1'
                have v6 : ∀ b o, b ≠ D → H4 b = some o → (upd H6 D (.lst (l.map V.int ++ (evens (o1.kind :: o1.slots)).map V.int))) b = some o := fun b o n e => by rw [upd_ne n]; exact u6 _ _ e
                refine ⟨es ++ [(o1, l1, m1)], l ++ evens (o1.kind :: o1.slots), _, _, _, rfl, fun b o e => v6 b o (ne_of_none e hD0) (s4 b o e), ⟨v6 _ _ ndD d4, fun e he => ?_⟩, ⟨hd, fun e he => ?_⟩, by rw [upd_same, List.map_append], by rw [nd4]; exact R.enter_all L hk ho, fun e he => ?_, ?_⟩
                · have := F4.at1 e he
                  rcases List.mem_append.mp he with h | h
                  · exact ⟨v6 _ _ (hes e h).2.1 this.1, v6 _ _ (hes e h).2.2.1 this.2⟩
                  · rw [List.mem_singleton.mp h] at this ⊢
                    exact ⟨v6 _ _ n1D this.1, v6 _ _ nmD this.2⟩
                · rcases List.mem_append.mp he with h | h
                  · exact N2.2 e h
                  · rw [List.mem_singleton.mp h]; exact ⟨hl0, hm0'⟩
                · rcases List.mem_append.mp he with h | h
                  · exact hes e h
                  · rw [List.mem_singleton.mp h]
                    exact ⟨by rw [show ((o1, l1, m1) : Ob × Addr × Addr).1.num = a from hnum]; exact ho, n1D, nmD, n1d, nmd⟩
                · rw [nd4]
                  have := rmu_enter (ks := es.map fun e => e.1.num) (ps := l) (ps' := l ++ evens (o1.kind :: o1.slots)) L ho hk (by rw [List.length_append]; simp only [List.length_cons] at *; omega)
                  omega
            · rw [decide_eq_false hlv]
              refine iteF ?_
              exact out (.inr hlv)
      · rintro σ H2 ⟨es, ps, t5, n6, r7, rfl, s2, F2, N2, hD2, R, hes, hmu⟩
        omega
end
end Sg

/-! SgP13: the law's total, collections, kept, held, fresh. -/
namespace Sg
open PySem PySem.W PySem.Spec PyProof.Rows L2 L2H HotX
def rLn (K : Frag) : List V → Hp → VK → Prop := fun xs H Q => ∃ p ys, xs = [V.ref p] ∧ (SqL K H p ys ∨ SqT K H p ys) ∧ Q (.int (ys.length : Nat)) H
section
variable {P : Program} {w : World} {K : Frag} {mg : Str → Option Value} {base : Heap}
def spTotal : Sp := fun vs H Q _ => ∃ d es, vs = [.ref d] ∧ FoundAt H d es ∧ (es.map fun e => e.1.num).Nodup ∧ es.length ≤ 200000 ∧ ∀ H', Same H H' → Q (.int (total (es.map fun e => e.1))) H'
theorem sc__law_total : FnScope ["_law_found", "_law_number_here"] ["_law_found"] (defScope (top 30)) := ⟨rfl, rfl, rfl, by decide +kernel, rfl, by decide +kernel, by decide +kernel⟩
theorem ok__law_total {f : Addr} {fd : FuncData} (F : Fun K "_law_total" "_law_total" (top 30) f fd) (T : TxC mg) : FnOk P w K mg base CX0 1 f fd ["_law_found"] spTotal := by
  refine F.ok sc__law_total (fun vs H Q E h => ?_) (fun cdv A outer s H vs Q E hr h => ?_)
  · obtain ⟨d, es, rfl, _⟩ := h
    rfl
  · obtain ⟨d, es, rfl, Fd, nd, hl, q⟩ := h
    have hu := hu_of hr
    refine ⟨_, (pss_one (ps_ret (pe_callB (cr_sum rfl) (by rfl) T.sum (by decide +kernel) (pa_cons (pe_lock (pe_lc (own := [("_law_number_here", 1)]) (g := gName 1) (tt := tYes) rfl sc__law_total.nd (pi_keys (pv 0)) (blkOk_by (own := [("_law_number_here", 1)]) (N := ["_law_found", "_law_number_here"]) (sc := defScope (top 30)) (by decide +kernel)) (fun _ _ _ _ _ => pg_name (i := 1) sc__law_total.nd rfl (Or.inl rfl)) (fun _ _ _ _ _ => pts_nil) (fun _ _ _ _ _ => (pe_op op_add pe_int (pe_callB (show CallR _ (.builtin "len") (rLn K) from call_len_seq) (by rfl) T.len PySem.boot_len (pa_cons (pe_ix (show IxR _ (rIxL K) from ix_list) (pe_dget hu (pv 0) (pv 1) (fun _ _ => rfl)) pe_int (fun _ _ => rfl)) pa_nil)))))) pa_nil)))), ?_⟩
    refine ⟨d, _, Fd.dk, trivial, fun od => ?_⟩
    obtain ⟨L1, eL1⟩ : ∃ L1, L1 = upd H d (.frz od (.dK (kvF es))) := ⟨_, rfl⟩
    rw [← eL1]
    have fz : L1 d = some (.frz od (.dK (kvF es))) := by rw [eL1, upd_same]
    have back : ∀ b o, b ≠ d → H b = some o → L1 b = some o := fun b o n e => by rw [eL1, upd_ne n]; exact e
    have at1 : ∀ e ∈ es, L1 e.2.1 = some (.lst [.int e.1.kind, .ref e.2.2]) ∧ L1 e.2.2 = some (.lst (e.1.slots.map V.int)) := fun e he => by
      obtain ⟨h1, h2⟩ := Fd.at1 e he
      exact ⟨back _ _ (ne_of h1 Fd.dk fun z => nomatch z) h1, back _ _ (ne_of h2 Fd.dk fun z => nomatch z) h2⟩
    refine ⟨_, rfl, d, od, rfl, .inl ⟨_, fz, fun D hD => lc_it (walk_keys (d := d) (o := od) (kvs := kvF es)) (fun i Hx => Same L1 Hx ∧ Hx D = some (.lst (((es.take i).map fun e => 3 + (e.1.slots.length : Int)).map V.int)))
      ⟨same_new hD, by rw [upd_same]; rfl⟩ (fun i Hx _ ⟨h, _⟩ => h _ _ fz) ?_ ?_⟩⟩
    · rintro i x Hx _ hi ⟨sx, hDx⟩ ⟨rfl, k, v, hk, rfl⟩
      obtain ⟨e1, he, rfl⟩ : ∃ e1, es[i]? = some e1 ∧ k = Sum.inl e1.1.num := by
        rw [kvF, List.getElem?_map] at hk
        cases e : es[i]? with
        | none => rw [e] at hk; cases hk
        | some z => rw [e] at hk; exact ⟨z, rfl, (congrArg Prod.fst (Option.some.inj hk)).symm⟩
      have ht : es.take (i + 1) = es.take i ++ [e1] := by rw [List.take_add_one, he]; rfl
      have hm := List.mem_of_getElem? he
      obtain ⟨h1, h2⟩ := at1 e1 hm
      have h1 := sx _ _ h1
      have h2 := sx _ _ h2
      refine ⟨rfl, ?_⟩
      unfold tYes
      refine iteT ?_
      refine ⟨_, rfl, _, rfl, d, _, rfl, .inl ⟨kvF es, Sum.inl e1.1.num, .inr ⟨od, sx _ _ fz⟩, rfl, (kvF_some nd e1 hm).symm⟩, e1.2.1, _, _, _, rfl, rfl, SqL.of h1, atI_nat (j := 1) rfl, e1.2.2, _, rfl, .inl (SqL.of h2), _, _, rfl, rfl, _, hDx, ?_, fun b o e => ?_, ?_⟩
      · rw [List.length_map, List.length_map, sizeLine_eq]
        have := List.length_take_le' i es
        omega
      · rw [upd_ne (ne_of_none e hD)]
        exact sx b o e
      · rw [upd_same, ht, List.map_append, List.map_append, List.length_map]
        rfl
    · rintro Hx ⟨sx, hDx⟩
      rw [show (kvF es).length = es.length by simp [kvF], List.take_length] at hDx
      have nDd : D ≠ d := fun z => by rw [z, fz] at hD; cases hD
      refine ⟨sx _ _ fz, D, _, rfl, SqL.of (by rw [upd_ne nDd]; exact hDx), ?_⟩
      have et : (es.map fun e => 3 + (e.1.slots.length : Int)).sum = total (es.map fun e => e.1) := by unfold total; rw [List.map_map]; rfl
      rw [et]
      refine q _ fun b o e => ?_
      by_cases c : b = d
      · subst c
        rw [upd_same, ← e, Fd.dk]
      · rw [upd_ne c]
        exact sx b o (back b o c e)
structure Lims (H : Hp) (lim ms : Addr) (room ents : Int) (moments : List Int) (every : Bool) : Prop where
  tp : H lim = some (.tup [.int room, .int ents, .ref ms, .bl every])
  ls : H ms = some (.lst (moments.map V.int))
theorem Lims.same {H H' : Hp} {lim ms : Addr} {room ents : Int} {moments : List Int} {every : Bool} (h : Lims H lim ms room ents moments every) (e : Same H H') : Lims H' lim ms room ents moments every := ⟨e _ _ h.tp, e _ _ h.ls⟩
/-- is a collection due ahead of the allocation -/
def SSp.force (Z : SSp) : Bool := Z.always || decide (Z.allocs + 1 ∈ Z.pressure)
/-- how often the law says that the space collects -/
def lawColl (Z : SSp) (os : List Ob) (size : Int) : Int :=
  (if Z.force then 1 else 0) + (if (if Z.force then total os else ((flat Z.store.objs).length : Int)) + 3 + size > Z.store.room ∨ (if Z.force then (os.length : Int) else (Z.store.pl.length : Int)) ≥ Z.store.ents then 1 else 0)
def spColls (CP CS : Addr) : Sp := fun vs H Q _ => ∃ s1 A Z d es lim ms size, vs = [.ref s1, .ref d, .ref lim, .int size] ∧ SpaceAt CP CS H s1 A Z ∧ FoundAt H d es ∧ (es.map fun e => e.1.num).Nodup ∧ es.length ≤ 200000 ∧ Lims H lim ms Z.store.room Z.store.ents Z.pressure Z.always ∧
  ∀ H', Same H H' → Q (.int (lawColl Z (es.map fun e => e.1) size)) H'
theorem sc__law_collections : FnScope ["_law_space_here", "_law_found", "_law_limits", "_law_size", "_law_count", "_law_used", "_law_forced"] ["_law_space_here", "_law_found", "_law_limits", "_law_size"] (defScope (top 31)) := ⟨rfl, rfl, rfl, by decide +kernel, rfl, by decide +kernel, by decide +kernel⟩
theorem ok__law_collections {f : Addr} {fd : FuncData} (F : Fun K "_law_collections" "_law_collections" (top 31) f fd) {CP CS : Addr} (TStore : TStoreC K CS) (TSpace : TSpaceC K CP) (T : TxC mg) (G_law_total : GO P w K mg base 1 "_law_total" ["_law_found"] spTotal) (M_Store_numbers : MB P w K mg base 1 CS "numbers" ["self"] (spNumbers CS)) (M_Store_used : MB P w K mg base 1 CS "used" ["self"] (spUsed CS)) : FnOk P w K mg base CX0 2 f fd ["_law_space_here", "_law_found", "_law_limits", "_law_size"] (spColls CP CS) := by
  refine F.ok sc__law_collections (fun vs H Q E h => ?_) (fun cdv A outer s H vs Q E hr h => ?_)
  · obtain ⟨sp0, A1, Z, d, es, lim, ms, size, rfl, _⟩ := h
    rfl
  · obtain ⟨sp0, A1, Z, d, es, lim, ms, size, rfl, XA, Fd, nd, hl, Lm, q⟩ := h
    have hu := hu_of hr
    refine ⟨_, (pss_cons (ps_set (i := 4) sc__law_collections.nd rfl (Or.inl rfl) (pe_callB call_len_seq (by rfl) T.len PySem.boot_len (pa_cons (pe_mbb0 (pe_fld (pv 0) rfl) TStore.cl M_Store_numbers ((roomH_of hr).mono (by decide)) (Or.inl rfl)) pa_nil)))
    (pss_cons (ps_set (i := 5) sc__law_collections.nd rfl (Or.inl rfl) (pe_mbb0 (pe_fld (pv 0) rfl) TStore.cl M_Store_used ((roomH_of hr).mono (by decide)) (Or.inl rfl)))
    (pss_cons (ps_set (i := 6) sc__law_collections.nd rfl (Or.inl rfl) pe_int)
    (pss_cons (ps_if (PW.pt (pw_or (pt_val (pe_ix ix_tup (pv 2) pe_int (fun _ _ => rfl))) (pw_or1 (pt_cmpR op_in_seq (pe_op op_add (pe_fld (pv 0) rfl) pe_int) (pe_ix ix_tup (pv 2) pe_int (fun _ _ => rfl)) (by rfl)))))
      (pss_cons (ps_set (i := 6) sc__law_collections.nd rfl (Or.inl rfl) pe_int)
      (pss_cons (ps_set (i := 4) sc__law_collections.nd rfl (Or.inl rfl) (pe_callB call_lenD (by rfl) T.len PySem.boot_len (pa_cons (pv 1) pa_nil)))
      (pss_one (ps_set (i := 5) sc__law_collections.nd rfl (Or.inl rfl) (pe_go G_law_total (hr.mono (by decide)) (pa_cons (pv 1) pa_nil)))))) pss_nil)
    (pss_cons (ps_if (PW.pt (pw_or (pt_cmpR op_gt (pe_op op_add (pe_op op_add (pv 5) pe_int) (pv 3)) (pe_ix ix_tup (pv 2) pe_int (fun _ _ => rfl)) (nomark _)) (pw_or1 (pt_cmpR op_ge (pv 4) (pe_ix ix_tup (pv 2) pe_int (fun _ _ => rfl)) (nomark _)))))
      (pss_one (ps_ret (pe_op op_add (pv 6) pe_int))) pss_nil)
    (pss_one (ps_ret (pv 6)))))))), ?_⟩
    obtain ⟨dx0, ob0⟩ := XA.ob
    obtain ⟨dy0, oy0⟩ := XA.sto.ob
    -- count, used, forced
    refine ⟨_, rfl, sp0, CP, _, _, _, rfl, ob0, TSpace.cl, TSpace.store, rfl, A1.st, dy0, _, rfl, oy0, rfl, A1.st, A1.w, A1.d, Z.store, rfl, XA.sto, fun ys a hp1 hp2 ha => ?_⟩
    have s1 : Same H (upd H a (.lst (ys.map V.int))) := same_new ha
    obtain ⟨H1, e1⟩ : ∃ H1, H1 = upd H a (.lst (ys.map V.int)) := ⟨_, rfl⟩
    have ha1 : H1 a = some (.lst (ys.map V.int)) := by rw [e1, upd_same]
    rw [← e1] at s1 ⊢
    refine ⟨a, _, rfl, .inl (SqL.of ha1), ?_⟩
    rw [List.length_map, hp1.length_eq, List.length_map]
    have x1 := XA.same s1
    obtain ⟨dx1, ob1⟩ := x1.ob
    obtain ⟨dy1, oy1⟩ := x1.sto.ob
    have L1 := Lm.same s1
    refine ⟨_, rfl, sp0, CP, _, _, _, rfl, ob1, TSpace.cl, TSpace.store, rfl, A1.st, dy1, _, rfl, oy1, rfl, A1.st, A1.w, A1.d, Z.store, rfl, x1.sto, ?_⟩
    -- the end: what is known of count, used, forced
    have fin : ∀ (c u f : Int) (H2 : Hp), Same H1 H2 → (f = if Z.force then 1 else 0) → (u = if Z.force then total (es.map fun e => e.1) else ((flat Z.store.objs).length : Int)) → (c = if Z.force then ((es.map fun e => e.1).length : Int) else (Z.store.pl.length : Int)) →
        (decide (Z.store.room < u + 3 + size) = true → Q (.int (f + 1)) H2) ∧ (decide (Z.store.ents ≤ c) = true → Q (.int (f + 1)) H2) ∧ (decide (Z.store.room < u + 3 + size) = false → decide (Z.store.ents ≤ c) = false → Q (.int f) H2) := fun c u f H2 s2 hf hu hc => by
      have q2 := q H2 (s1.trans s2)
      unfold lawColl at q2
      rw [← hf, ← hu, ← hc] at q2
      refine ⟨fun h => ?_, fun h => ?_, fun h1 h2 => ?_⟩
      · rw [if_pos (.inl (of_decide_eq_true h))] at q2; exact q2
      · rw [if_pos (.inr (of_decide_eq_true h))] at q2; exact q2
      · rw [if_neg (fun z => z.elim (of_decide_eq_false h1) (of_decide_eq_false h2)), Int.add_zero] at q2; exact q2
    refine ⟨_, rfl, lim, _, _, _, rfl, rfl, SqT.of L1.tp, atI_nat (j := 3) rfl, _, rfl, ?_⟩
    cases hal : Z.always with
    | true =>
      have hf : Z.force = true := by unfold SSp.force; rw [hal]; rfl
      refine iteT ?_
      refine iteT ?_
      have F1 : FoundAt H1 d es := ⟨s1 _ _ Fd.dk, fun e he => ⟨s1 _ _ (Fd.at1 e he).1, s1 _ _ (Fd.at1 e he).2⟩⟩
      refine ⟨_, rfl, d, _, rfl, F1.dk, _, rfl, d, es, rfl, F1, nd, hl, fun H2 s2 => ?_⟩
      have L2' := L1.same s2
      refine ⟨_, rfl, _, _, rfl, rfl, _, rfl, _, _, rfl, rfl, _, rfl, lim, _, _, _, rfl, rfl, SqT.of L2'.tp, atI_nat (j := 0) rfl, _, _, rfl, rfl, _, rfl, ?_⟩
      have fn := fin ((kvF es).length : Nat) (total (es.map fun e => e.1)) 1 H2 s2 (by simp [hf]) (by simp [hf]) (by simp [hf, kvF])
      cases hr1 : decide (Z.store.room < _ + 3 + size) with
      | true =>
        refine iteT ?_
        refine iteT ?_
        exact ⟨_, rfl, _, _, rfl, rfl, fn.1 hr1⟩
      | false =>
        refine iteF ?_
        refine ⟨_, rfl, _, rfl, lim, _, _, _, rfl, rfl, SqT.of L2'.tp, atI_nat (j := 1) rfl, _, _, rfl, rfl, _, rfl, ?_⟩
        cases hr2 : decide (Z.store.ents ≤ _) with
        | true =>
          refine iteT ?_
          exact ⟨_, rfl, _, _, rfl, rfl, fn.2.1 hr2⟩
        | false =>
          refine iteF ?_
          exact ⟨_, rfl, fn.2.2 hr1 hr2⟩
    | false =>
      refine iteF ?_
      refine ⟨_, rfl, sp0, CP, _, _, _, rfl, ob1, TSpace.cl, TSpace.allocations, rfl, _, _, rfl, rfl, _, rfl, lim, _, _, _, rfl, rfl, SqT.of L1.tp, atI_nat (j := 2) rfl, ms, _, rfl, .inl (SqL.of L1.ls), rfl, flat_ints _, _, rfl, ?_⟩
      rw [inV_ints, if_neg Bool.false_ne_true]
      by_cases hp : Z.allocs + 1 ∈ Z.pressure
      · have hf : Z.force = true := by unfold SSp.force; rw [decide_eq_true hp]; simp
        rw [decide_eq_true hp]
        refine iteT ?_
        have F1 : FoundAt H1 d es := ⟨s1 _ _ Fd.dk, fun e he => ⟨s1 _ _ (Fd.at1 e he).1, s1 _ _ (Fd.at1 e he).2⟩⟩
        refine ⟨_, rfl, d, _, rfl, F1.dk, _, rfl, d, es, rfl, F1, nd, hl, fun H2 s2 => ?_⟩
        have L2' := L1.same s2
        refine ⟨_, rfl, _, _, rfl, rfl, _, rfl, _, _, rfl, rfl, _, rfl, lim, _, _, _, rfl, rfl, SqT.of L2'.tp, atI_nat (j := 0) rfl, _, _, rfl, rfl, _, rfl, ?_⟩
        have fn := fin ((kvF es).length : Nat) (total (es.map fun e => e.1)) 1 H2 s2 (by simp [hf]) (by simp [hf]) (by simp [hf, kvF])
        cases hr1 : decide (Z.store.room < _ + 3 + size) with
        | true =>
          refine iteT ?_
          refine iteT ?_
          exact ⟨_, rfl, _, _, rfl, rfl, fn.1 hr1⟩
        | false =>
          refine iteF ?_
          refine ⟨_, rfl, _, rfl, lim, _, _, _, rfl, rfl, SqT.of L2'.tp, atI_nat (j := 1) rfl, _, _, rfl, rfl, _, rfl, ?_⟩
          cases hr2 : decide (Z.store.ents ≤ _) with
          | true =>
            refine iteT ?_
            exact ⟨_, rfl, _, _, rfl, rfl, fn.2.1 hr2⟩
          | false =>
            refine iteF ?_
            exact ⟨_, rfl, fn.2.2 hr1 hr2⟩
      · have hf : Z.force = false := by unfold SSp.force; rw [decide_eq_false hp, hal]; rfl
        rw [decide_eq_false hp]
        refine iteF ?_
        refine ⟨_, rfl, _, _, rfl, rfl, _, rfl, _, _, rfl, rfl, _, rfl, lim, _, _, _, rfl, rfl, SqT.of L1.tp, atI_nat (j := 0) rfl, _, _, rfl, rfl, _, rfl, ?_⟩
        have fn := fin (Z.store.pl.length : Nat) ((flat Z.store.objs).length : Nat) 0 H1 (Same.refl H1) (by simp [hf]) (by simp [hf]) (by simp [hf])
        cases hr1 : decide (Z.store.room < _ + 3 + size) with
        | true =>
          refine iteT ?_
          refine iteT ?_
          exact ⟨_, rfl, _, _, rfl, rfl, fn.1 hr1⟩
        | false =>
          refine iteF ?_
          refine ⟨_, rfl, _, rfl, lim, _, _, _, rfl, rfl, SqT.of L1.tp, atI_nat (j := 1) rfl, _, _, rfl, rfl, _, rfl, ?_⟩
          cases hr2 : decide (Z.store.ents ≤ _) with
          | true =>
            refine iteT ?_
            exact ⟨_, rfl, _, _, rfl, rfl, fn.2.1 hr2⟩
          | false =>
            refine iteF ?_
            exact ⟨_, rfl, fn.2.2 hr1 hr2⟩
end
end Sg

/-! SgP14: the law's kept, held, fresh: what they say where the space is right. -/
namespace Sg
open PySem PySem.W PySem.Spec PyProof.Rows L2 L2H HotX
section
variable {P : Program} {w : World} {K : Frag} {mg : Str → Option Value} {base : Heap}
theorem dget_frz {H : Hp} {a : Addr} {od : Obj} {kvs : List (Key × V)} {n : Int} {o : Option V} (h : H a = some (.frz od (.dK kvs))) (e : valV kvs (Sum.inl n) = o) : DGet H a (.int n) o :=
  .inl ⟨kvs, Sum.inl n, .inr ⟨od, h⟩, rfl, e.symm⟩
theorem sorted_eq {xs ys : List Int} (p : xs.Perm ys) (h1 : xs.Pairwise (· ≤ ·)) (h2 : ys.Pairwise (· ≤ ·)) : xs = ys :=
  p.eq_of_pairwise (le := fun (a b : Int) => a ≤ b) (fun a b _ _ h h' => Int.le_antisymm h h') h1 h2
def spKept (CP CS : Addr) : Sp := fun vs H Q _ => ∃ s1 A Z d es, vs = [.ref s1, .ref d] ∧ SpaceAt CP CS H s1 A Z ∧ Lay Z.store ∧ FoundAt H d es ∧ (es.map fun e => e.1.num).Nodup ∧ ¬ A.own s1 d ∧ (∀ e ∈ es, Z.store.ob e.1.num e.1) ∧ ∀ H', Same H H' → Q (.bl true) H'
theorem sc__law_kept : FnScope ["_law_space_here", "_law_found", "_law_store", "_law_number_here"] ["_law_space_here", "_law_found"] (defScope (top 33)) := ⟨rfl, rfl, rfl, by decide +kernel, rfl, by decide +kernel, by decide +kernel⟩
theorem ok__law_kept {f : Addr} {fd : FuncData} (F : Fun K "_law_kept" "_law_kept" (top 33) f fd) {CP CS : Addr} (TStore : TStoreC K CS) (TSpace : TSpaceC K CP) (T : TxC mg) (M_Store_exists : MB P w K mg base 1 CS "exists" ["self", "number"] (spExists CS)) (M_Store_kind : MB P w K mg base 1 CS "kind" ["self", "number"] (spKind CS)) (M_Store_slots : MB P w K mg base 2 CS "slots" ["self", "number"] (spSlots CS)) (G_law_is : GO P w K mg base 1 "_law_is" ["_law_actual", "_law_due"] spIs) (G_law_same : GO P w K mg base 2 "_law_same" ["_law_actual", "_law_due"] spSame) : FnOk P w K mg base CX0 3 f fd ["_law_space_here", "_law_found"] (spKept CP CS) := by
  refine F.ok sc__law_kept (fun vs H Q E h => ?_) (fun cdv A outer s H vs Q E hr h => ?_)
  · obtain ⟨sp0, A1, Z, d, es, rfl, _⟩ := h
    rfl
  · obtain ⟨sp0, A1, Z, d, es, rfl, XA, L, Fd, nd, hd0, hob, q⟩ := h
    have hu := hu_of hr
    refine ⟨_, (pss_cons (ps_set (i := 2) sc__law_kept.nd rfl (Or.inl rfl) (pe_fld (pv 0) rfl))
    (pss_cons (ps_lock (ps_for PassesOwn.never rfl (pi_keys (pv 1)) (pg_name (i := 3) sc__law_kept.nd rfl (Or.inl rfl))
      (pss_cons (ps_if (PW.pt (pw_or (pt_cmpR op_notBl (pe_mbb (pv 2) TStore.cl M_Store_exists ((roomH_of hr).mono (by decide)) (Or.inl rfl) (pa_cons (pv 3) pa_nil)) pe_bl (nomark _)) (pw_or1 (pt_not (pt_val (pe_go G_law_is (hr.mono (by decide)) (pa_cons (pe_mbb (pv 2) TStore.cl M_Store_kind ((roomH_of hr).mono (by decide)) (Or.inl rfl) (pa_cons (pv 3) pa_nil)) (pa_cons (pe_ix ix_list (pe_dget hu (pv 1) (pv 3) (fun _ _ => rfl)) pe_int (fun _ _ => rfl)) pa_nil))))))))
        (pss_one (ps_ret pe_bl)) pss_nil)
      (pss_one (ps_if (pt_not (pt_val (pe_go G_law_same (hr.mono (by decide)) (pa_cons (pe_mbb (pv 2) TStore.cl M_Store_slots ((roomH_of hr).mono (by decide)) (Or.inl rfl) (pa_cons (pv 3) pa_nil)) (pa_cons (pe_ix ix_list (pe_dget hu (pv 1) (pv 3) (fun _ _ => rfl)) pe_int (fun _ _ => rfl)) pa_nil)))))
        (pss_one (ps_ret pe_bl)) pss_nil)))))
    (pss_one (ps_ret pe_bl)))), ?_⟩
    obtain ⟨dx0, ob0⟩ := XA.ob
    refine ⟨_, rfl, sp0, CP, _, _, _, rfl, ob0, TSpace.cl, TSpace.store, rfl, ?_⟩
    refine ⟨d, _, Fd.dk, trivial, fun od => ?_⟩
    obtain ⟨L1, eL1⟩ : ∃ L1, L1 = upd H d (.frz od (.dK (kvF es))) := ⟨_, rfl⟩
    rw [← eL1]
    have fz : L1 d = some (.frz od (.dK (kvF es))) := by rw [eL1, upd_same]
    have back : ∀ b o, b ≠ d → H b = some o → L1 b = some o := fun b o n e => by rw [eL1, upd_ne n]; exact e
    have at1 : ∀ e ∈ es, L1 e.2.1 = some (.lst [.int e.1.kind, .ref e.2.2]) ∧ L1 e.2.2 = some (.lst (e.1.slots.map V.int)) := fun e he => by
      obtain ⟨h1, h2⟩ := Fd.at1 e he
      exact ⟨back _ _ (ne_of h1 Fd.dk fun z => nomatch z) h1, back _ _ (ne_of h2 Fd.dk fun z => nomatch z) h2⟩
    have SL : StoreAt CS L1 A1.st A1.w A1.d Z.store := by
      obtain ⟨⟨dx, ob⟩, ws, pc⟩ := XA.sto
      exact ⟨⟨dx, back _ _ (ne_of ob Fd.dk fun z => nomatch z) ob⟩, back _ _ (ne_of ws Fd.dk fun z => nomatch z) ws, back _ _ (fun z => hd0 (.inr (.inr (.inr (.inr (.inr (.inr z.symm))))))) pc⟩
    have unlock : ∀ Hx, Same L1 Hx → Same H (upd Hx d (.dK (kvF es))) := fun Hx sx b o e => by
      by_cases c : b = d
      · subst c
        rw [upd_same, ← e, Fd.dk]
      · rw [upd_ne c]
        exact sx b o (back b o c e)
    refine ⟨_, rfl, d, od, rfl, .inl ⟨_, fz, for_it (walk_keys (d := d) (o := od) (kvs := kvF es)) (fun i σ Hx => ∃ v, σ = [some (.ref sp0), some (.ref d), some (.ref A1.st), v] ∧ Same L1 Hx) ⟨_, rfl, Same.refl _⟩ (fun i σ Hx _ ⟨_, _, h⟩ => h _ _ fz) ?_ ?_⟩⟩
    · rintro i x σ Hx0 Hx hi ⟨v0, rfl, sx⟩ ⟨rfl, k, v, hk, rfl⟩
      obtain ⟨e1, he, rfl⟩ : ∃ e1, es[i]? = some e1 ∧ k = Sum.inl e1.1.num := by
        rw [kvF, List.getElem?_map] at hk
        cases e : es[i]? with
        | none => rw [e] at hk; cases hk
        | some z => rw [e] at hk; exact ⟨z, rfl, (congrArg Prod.fst (Option.some.inj hk)).symm⟩
      have hm := List.mem_of_getElem? he
      have ho := hob e1 hm
      obtain ⟨h1, h2⟩ := at1 e1 hm
      have h1 := sx _ _ h1
      have h2 := sx _ _ h2
      have SX := SL.same sx
      obtain ⟨dy, oy⟩ := SX.ob
      have sz := ob_le L ho
      have gt : ∀ Hy, Same L1 Hy → DGet Hy d (.int e1.1.num) (some (.ref e1.2.1)) := fun Hy sy => dget_frz (sy _ _ fz) (kvF_some nd e1 hm)
      refine ⟨_, rfl, A1.st, dy, _, rfl, oy, rfl, _, rfl, A1.st, A1.w, A1.d, Z.store, e1.1.num, rfl, SX, ?_⟩
      rw [decide_eq_true ho.2.2]
      refine ⟨_, _, rfl, rfl, _, rfl, ?_⟩
      refine iteF ?_
      refine ⟨_, rfl, A1.st, dy, _, rfl, oy, rfl, _, rfl, A1.st, A1.w, A1.d, Z.store, e1.1.num, e1.1, rfl, SX, L, ho, _, rfl, _, rfl, d, _, rfl, gt _ sx, e1.2.1, _, _, _, rfl, rfl, SqL.of h1, atI_nat (j := 0) rfl, _, _, rfl, ?_⟩
      rw [decide_eq_true rfl]
      refine ⟨_, rfl, ?_⟩
      refine iteF ?_
      refine ⟨_, rfl, A1.st, dy, _, rfl, oy, rfl, _, rfl, A1.st, A1.w, A1.d, Z.store, e1.1.num, e1.1, rfl, SX, L, ho, fun a ha => ?_⟩
      have sy : Same L1 (upd Hx a (.lst (e1.1.slots.map V.int))) := sx.trans (same_new ha)
      refine ⟨_, rfl, _, rfl, d, _, rfl, gt _ sy, e1.2.1, _, _, _, rfl, rfl, SqL.of (same_new ha _ _ h1), atI_nat (j := 1) rfl, a, e1.2.2, _, _, rfl, upd_same, same_new ha _ _ h2, by omega, ?_⟩
      rw [decide_eq_true rfl]
      refine ⟨_, rfl, ?_⟩
      refine iteF ?_
      exact ⟨_, rfl, sy⟩
    · rintro σ Hx ⟨v0, rfl, sx⟩
      exact ⟨sx _ _ fz, q _ (unlock Hx sx)⟩
def dueOf (ns : List Int) (m : Int) : List Int := if 0 ≤ m then ns ++ [m] else ns
def spHeldL (CP CS : Addr) : Sp := fun vs H Q _ => ∃ s1 A Z a ns u m size, vs = [.ref s1, .ref a, .int u, .int m, .int size] ∧ SpaceAt CP CS H s1 A Z ∧ Lay Z.store ∧ H a = some (.lst (ns.map V.int)) ∧ ns.length ≤ 200000 ∧
  (dueOf ns m).Perm (Z.store.pl.map (·.1)) ∧ ((flat Z.store.objs).length : Int) = (if 0 ≤ m then u + 3 + size else u) ∧ ∀ H', Same H H' → Q (.bl true) H'
theorem sc__law_held : FnScope ["_law_space_here", "_law_numbers", "_law_used", "_law_number_here", "_law_size", "_law_due"] ["_law_space_here", "_law_numbers", "_law_used", "_law_number_here", "_law_size"] (defScope (top 34)) := ⟨rfl, rfl, rfl, by decide +kernel, rfl, by decide +kernel, by decide +kernel⟩
theorem ok__law_held {f : Addr} {fd : FuncData} (F : Fun K "_law_held" "_law_held" (top 34) f fd) {CP CS : Addr} (TStore : TStoreC K CS) (TSpace : TSpaceC K CP) (T : TxC mg) (M_Store_numbers : MB P w K mg base 1 CS "numbers" ["self"] (spNumbers CS)) (M_Store_used : MB P w K mg base 1 CS "used" ["self"] (spUsed CS)) (G_law_is : GO P w K mg base 1 "_law_is" ["_law_actual", "_law_due"] spIs) (G_law_same : GO P w K mg base 2 "_law_same" ["_law_actual", "_law_due"] spSame) : FnOk P w K mg base CX0 3 f fd ["_law_space_here", "_law_numbers", "_law_used", "_law_number_here", "_law_size"] (spHeldL CP CS) := by
  refine F.ok sc__law_held (fun vs H Q E h => ?_) (fun cdv A outer s H vs Q E hr h => ?_)
  · obtain ⟨sp0, A1, Z, a, ns, u, m, size, rfl, _⟩ := h
    rfl
  · obtain ⟨sp0, A1, Z, a, ns, u, m, size, rfl, XA, L, ha, hn, hp, hu2, q⟩ := h
    have hu := hu_of hr
    refine ⟨_, (pss_cons (ps_set (i := 5) sc__law_held.nd rfl (Or.inl rfl) (pe_callTy call_list_of (by rfl) T.list (by decide +kernel) (pa_cons (pv 1) pa_nil)))
    (pss_cons (ps_if (pt_cmpR op_ge (pv 3) pe_int (nomark _))
      (pss_cons (ps_expr (pe_bm PySem.F.plainAttrs_list PySem.F.slot_list_append PySem.F.type_list_append mt_append (pv 5) (pa_cons (pv 3) pa_nil)))
      (pss_one (ps_set (i := 2) sc__law_held.nd rfl (Or.inl rfl) (pe_op op_add (pe_op op_add (pv 2) pe_int) (pv 4))))) pss_nil)
    (pss_one (ps_ret (pe_and (pe_go G_law_same (hr.mono (by decide)) (pa_cons (pe_mbb0 (pe_fld (pv 0) rfl) TStore.cl M_Store_numbers ((roomH_of hr).mono (by decide)) (Or.inl rfl)) (pa_cons (pe_callB cr_sortedI (by rfl) T.sorted (by decide +kernel) (pa_cons (pv 5) pa_nil)) pa_nil))) (pe_one (pe_go G_law_is (hr.mono (by decide)) (pa_cons (pe_mbb0 (pe_fld (pv 0) rfl) TStore.cl M_Store_used ((roomH_of hr).mono (by decide)) (Or.inl rfl)) (pa_cons (pv 2) pa_nil))))))))), ?_⟩
    -- due = list(numbers)
    refine ⟨_, rfl, a, _, rfl, .inl (SqL.of ha), fun l hl => ?_⟩
    have s1 : Same H (upd H l (.lst (ns.map V.int))) := same_new hl
    refine ⟨_, rfl, _, _, rfl, rfl, _, rfl, ?_⟩
    by_cases hm : 0 ≤ m
    · rw [decide_eq_true hm]
      refine iteT ?_
      unfold dueOf at hp
      rw [if_pos hm] at hp hu2
      refine ⟨_, rfl, .inl ⟨rfl, _, SqL.of upd_same⟩, _, rfl, l, _, _, rfl, rfl, upd_same, by rw [List.length_map, sizeLine_eq]; omega, ?_⟩
      rw [upd_upd, show ns.map V.int ++ [V.int m] = (ns ++ [m]).map V.int by simp]
      have sH2 : Same H (upd H l (.lst ((ns ++ [m]).map V.int))) := same_new hl
      have X2 := XA.same sH2
      have hl2 : (upd H l (.lst ((ns ++ [m]).map V.int))) l = some (.lst ((ns ++ [m]).map V.int)) := upd_same
      refine ⟨_, rfl, _, _, rfl, rfl, _, rfl, _, _, rfl, rfl, ?_⟩
      obtain ⟨dx2, ob2⟩ := X2.ob
      obtain ⟨dy2, oy2⟩ := X2.sto.ob
      refine ⟨_, rfl, sp0, CP, _, _, _, rfl, ob2, TSpace.cl, TSpace.store, rfl, A1.st, dy2, _, rfl, oy2, rfl, A1.st, A1.w, A1.d, Z.store, rfl, X2.sto, fun ys b hp1 hp2 hb => ?_⟩
      have s3 := same_new (o := .lst (ys.map V.int)) hb
      refine ⟨_, rfl, l, _, rfl, SqL.of (s3 _ _ hl2), fun zs c hz1 hz2 hc => ?_⟩
      have s4 := same_new (o := .lst (zs.map V.int)) hc
      have ylen : 3 * ys.length ≤ 100000 := by rw [hp1.length_eq, List.length_map]; exact pl_le L
      have eyz : ys = zs := sorted_eq (hp1.trans (hz1.trans hp).symm) hp2 hz2
      refine ⟨b, c, ys, zs, rfl, s4 _ _ upd_same, upd_same, by rw [← eyz]; omega, ?_⟩
      rw [decide_eq_true eyz]
      refine ⟨_, rfl, ?_⟩
      refine iteT ?_
      have X4 := X2.same (s3.trans s4)
      obtain ⟨dx4, ob4⟩ := X4.ob
      obtain ⟨dy4, oy4⟩ := X4.sto.ob
      refine ⟨_, rfl, sp0, CP, _, _, _, rfl, ob4, TSpace.cl, TSpace.store, rfl, A1.st, dy4, _, rfl, oy4, rfl, A1.st, A1.w, A1.d, Z.store, rfl, X4.sto, _, rfl, _, _, rfl, ?_⟩
      rw [decide_eq_true hu2]
      exact q _ (sH2.trans (s3.trans s4))
    · rw [decide_eq_false hm]
      refine iteF ?_
      unfold dueOf at hp
      rw [if_neg hm] at hp hu2
      have sH2 := s1
      have X2 := XA.same sH2
      have hl2 : (upd H l (.lst (ns.map V.int))) l = some (.lst (ns.map V.int)) := upd_same
      obtain ⟨dx2, ob2⟩ := X2.ob
      obtain ⟨dy2, oy2⟩ := X2.sto.ob
      refine ⟨_, rfl, sp0, CP, _, _, _, rfl, ob2, TSpace.cl, TSpace.store, rfl, A1.st, dy2, _, rfl, oy2, rfl, A1.st, A1.w, A1.d, Z.store, rfl, X2.sto, fun ys b hp1 hp2 hb => ?_⟩
      have s3 := same_new (o := .lst (ys.map V.int)) hb
      refine ⟨_, rfl, l, _, rfl, SqL.of (s3 _ _ hl2), fun zs c hz1 hz2 hc => ?_⟩
      have s4 := same_new (o := .lst (zs.map V.int)) hc
      have ylen : 3 * ys.length ≤ 100000 := by rw [hp1.length_eq, List.length_map]; exact pl_le L
      have eyz : ys = zs := sorted_eq (hp1.trans (hz1.trans hp).symm) hp2 hz2
      refine ⟨b, c, ys, zs, rfl, s4 _ _ upd_same, upd_same, by rw [← eyz]; omega, ?_⟩
      rw [decide_eq_true eyz]
      refine ⟨_, rfl, ?_⟩
      refine iteT ?_
      have X4 := X2.same (s3.trans s4)
      obtain ⟨dx4, ob4⟩ := X4.ob
      obtain ⟨dy4, oy4⟩ := X4.sto.ob
      refine ⟨_, rfl, sp0, CP, _, _, _, rfl, ob4, TSpace.cl, TSpace.store, rfl, A1.st, dy4, _, rfl, oy4, rfl, A1.st, A1.w, A1.d, Z.store, rfl, X4.sto, _, rfl, _, _, rfl, ?_⟩
      rw [decide_eq_true hu2]
      exact q _ (sH2.trans (s3.trans s4))
def spFresh (CP CS : Addr) : Sp := fun vs H Q _ => ∃ s1 A Z d es n kind size, vs = [.ref s1, .ref d, .int n, .int kind, .int size] ∧ SpaceAt CP CS H s1 A Z ∧ Lay Z.store ∧ FoundAt H d es ∧ 0 ≤ n ∧ n ∉ (es.map fun e => e.1.num) ∧ 0 ≤ size ∧ size ≤ 100000 ∧ Z.store.ob n ⟨n, kind, List.replicate size.toNat 0⟩ ∧ ∀ H', Same H H' → Q (.bl true) H'
theorem sc__law_fresh : FnScope ["_law_space_here", "_law_found", "_law_number_here", "_law_kind", "_law_size"] ["_law_space_here", "_law_found", "_law_number_here", "_law_kind", "_law_size"] (defScope (top 35)) := ⟨rfl, rfl, rfl, by decide +kernel, rfl, by decide +kernel, by decide +kernel⟩
theorem ok__law_fresh {f : Addr} {fd : FuncData} (F : Fun K "_law_fresh" "_law_fresh" (top 35) f fd) {CP CS : Addr} (TStore : TStoreC K CS) (TSpace : TSpaceC K CP) (T : TxC mg) (M_Store_exists : MB P w K mg base 1 CS "exists" ["self", "number"] (spExists CS)) (M_Store_size : MB P w K mg base 1 CS "size" ["self", "number"] (spSize CS)) (M_Store_kind : MB P w K mg base 1 CS "kind" ["self", "number"] (spKind CS)) (M_Store_slots : MB P w K mg base 2 CS "slots" ["self", "number"] (spSlots CS)) (G_law_is : GO P w K mg base 1 "_law_is" ["_law_actual", "_law_due"] spIs) (G_law_same : GO P w K mg base 2 "_law_same" ["_law_actual", "_law_due"] spSame) : FnOk P w K mg base CX0 3 f fd ["_law_space_here", "_law_found", "_law_number_here", "_law_kind", "_law_size"] (spFresh CP CS) := by
  refine F.ok sc__law_fresh (fun vs H Q E h => ?_) (fun cdv A outer s H vs Q E hr h => ?_)
  · obtain ⟨sp0, A1, Z, d, es, n, kind, size, rfl, _⟩ := h
    rfl
  · obtain ⟨sp0, A1, Z, d, es, n, kind, size, rfl, XA, L, Fd, n0, hn, hs0, hs1, ho, q⟩ := h
    have hu := hu_of hr
    refine ⟨_, (pss_cons (ps_if (PW.pt (pw_or (pt_not (pt_val (pe_callB call_isi (by rfl) T.isinstance (by decide +kernel) (pa_cons (pv 2) (pa_cons (pe_bltn (v := .ty "int") (by rfl) T.int (by decide +kernel) rfl) pa_nil))))) (pw_or (pt_val (pe_callB call_isi (by rfl) T.isinstance (by decide +kernel) (pa_cons (pv 2) (pa_cons (pe_bltn (v := .ty "bool") (by rfl) T.bool (by decide +kernel) rfl) pa_nil)))) (pw_or (pt_cmpR op_lt (pv 2) pe_int (nomark _)) (pw_or1 (pt_cmp (pc_din hu (pv 2) (pv 1))))))))
      (pss_one (ps_ret pe_bl)) pss_nil)
    (pss_cons (ps_if (PW.pt (pw_or (pt_cmpR op_notBl (pe_mbb (pe_fld (pv 0) rfl) TStore.cl M_Store_exists ((roomH_of hr).mono (by decide)) (Or.inl rfl) (pa_cons (pv 2) pa_nil)) pe_bl (nomark _)) (pw_or1 (pt_not (pt_val (pe_go G_law_is (hr.mono (by decide)) (pa_cons (pe_mbb (pe_fld (pv 0) rfl) TStore.cl M_Store_size ((roomH_of hr).mono (by decide)) (Or.inl rfl) (pa_cons (pv 2) pa_nil)) (pa_cons (pv 4) pa_nil))))))))
      (pss_one (ps_ret pe_bl)) pss_nil)
    (pss_one (ps_ret (pe_and (pe_go G_law_is (hr.mono (by decide)) (pa_cons (pe_mbb (pe_fld (pv 0) rfl) TStore.cl M_Store_kind ((roomH_of hr).mono (by decide)) (Or.inl rfl) (pa_cons (pv 2) pa_nil)) (pa_cons (pv 3) pa_nil))) (pe_one (pe_go G_law_same (hr.mono (by decide)) (pa_cons (pe_mbb (pe_fld (pv 0) rfl) TStore.cl M_Store_slots ((roomH_of hr).mono (by decide)) (Or.inl rfl) (pa_cons (pv 2) pa_nil)) (pa_cons (pe_op op_rep (pe_lst (pa_cons pe_int pa_nil)) (pv 4)) pa_nil))))))))), ?_⟩
    obtain ⟨dx0, ob0⟩ := XA.ob
    obtain ⟨dy0, oy0⟩ := XA.sto.ob
    refine ⟨_, rfl, _, _, _, _, true, rfl, .ty "int", .base (.int n), kit_ty (by decide +kernel), _, rfl, ?_⟩
    refine iteF ?_
    refine ⟨_, rfl, _, _, _, _, false, rfl, .ty "bool", .base (.int n), kit_ty (by decide +kernel), _, rfl, ?_⟩
    refine iteF ?_
    refine ⟨_, rfl, _, _, rfl, rfl, _, rfl, ?_⟩
    rw [decide_eq_false (show ¬ n < 0 by omega)]
    refine iteF ?_
    refine ⟨_, rfl, _, rfl, d, _, rfl, DGet.k (k := Sum.inl n) Fd.dk, _, rfl, ?_⟩
    rw [kvF_is, decide_eq_false hn]
    refine iteF ?_
    refine ⟨_, rfl, sp0, CP, _, _, _, rfl, ob0, TSpace.cl, TSpace.store, rfl, A1.st, dy0, _, rfl, oy0, rfl, _, rfl, A1.st, A1.w, A1.d, Z.store, n, rfl, XA.sto, ?_⟩
    rw [decide_eq_true ho.2.2]
    refine ⟨_, _, rfl, rfl, _, rfl, ?_⟩
    refine iteF ?_
    refine ⟨_, rfl, sp0, CP, _, _, _, rfl, ob0, TSpace.cl, TSpace.store, rfl, A1.st, dy0, _, rfl, oy0, rfl, _, rfl, A1.st, A1.w, A1.d, Z.store, n, _, rfl, XA.sto, L, ho, _, rfl, _, _, rfl, ?_⟩
    rw [decide_eq_true (show (((⟨n, kind, List.replicate size.toNat 0⟩ : Ob).slots.length : Nat) : Int) = size by simp only [List.length_replicate]; omega)]
    refine ⟨_, rfl, ?_⟩
    refine iteF ?_
    refine ⟨_, rfl, sp0, CP, _, _, _, rfl, ob0, TSpace.cl, TSpace.store, rfl, A1.st, dy0, _, rfl, oy0, rfl, _, rfl, A1.st, A1.w, A1.d, Z.store, n, _, rfl, XA.sto, L, ho, _, rfl, _, _, rfl, ?_⟩
    rw [decide_eq_true rfl]
    refine ⟨_, rfl, ?_⟩
    refine iteT ?_
    refine ⟨_, rfl, sp0, CP, _, _, _, rfl, ob0, TSpace.cl, TSpace.store, rfl, A1.st, dy0, _, rfl, oy0, rfl, _, rfl, A1.st, A1.w, A1.d, Z.store, n, _, rfl, XA.sto, L, ho, fun a ha => ⟨by show 1 ≤ sizeLine; decide, fun b hb => ⟨_, rfl, b, size, _, rfl, rfl, upd_same, by omega, by omega, by show 1 * size.toNat ≤ _; rw [sizeLine_eq]; omega, fun c hc => ?_⟩⟩⟩
    have erep : (List.replicate size.toNat [V.int 0]).flatten = (List.replicate size.toNat (0 : Int)).map V.int := by
      rw [List.map_replicate]
      induction size.toNat with
      | zero => rfl
      | succ n ih => rw [List.replicate_succ, List.flatten_cons, ih]; rfl
    have t := (same_new (o := .lst [V.int 0]) hb).trans (same_new (o := .lst (List.replicate size.toNat [V.int 0]).flatten) hc)
    refine ⟨a, c, List.replicate size.toNat 0, List.replicate size.toNat 0, rfl, t _ _ upd_same, by rw [upd_same, erep], by rw [List.length_replicate]; omega, ?_⟩
    rw [decide_eq_true rfl]
    exact q _ ((same_new ha).trans t)
end
end Sg

/-! SgP15: the law's call of new. -/
namespace Sg
open PySem PySem.W PySem.Spec PyProof.Rows L2 L2H HotX
theorem takes0N {X : Cx} : L2N.Takes X (fun _ _ _ _ => False) := fun _ _ x => by
  obtain ⟨_, _, _, _, _, _, _, _, _, _, _, _, _, _, _, _, w⟩ := x
  exact w.elim
section
variable {P : Program} {w : World} {K : Frag} {mg : Str → Option Value} {base : Heap}
/-- what the three error classes are to one another -/
structure XkC (K : Frag) (mg : Str → Option Value) (CE CR CN : Addr) : Prop where
  mE : mg "SaggarError" = some (.ref CE)
  er : exmOne K (.ref CR) (.ref CE) = some true
  en : exmOne K (.ref CN) (.ref CE) = some true
  xr : XisC K CR
  xn : XisC K CN
  krr : kitOne K (.ref CR) (.ref CR) = some true
  krn : kitOne K (.ref CR) (.ref CN) = some false
  knr : kitOne K (.ref CN) (.ref CR) = some false
  knn : kitOne K (.ref CN) (.ref CN) = some true
  fr : XfC K CR
  fn : XfC K CN
  nr : findIn K (.ref CR) "need" = some none
  nn : findIn K (.ref CN) "limit" = some none
def told : Res → List V
  | .made m => [.str "made", .int m]
  | .room n => [.str "room", .int n]
  | .num n => [.str "number", .int n]
def spCalled (T : List (Addr × Str)) (CP CS : Addr) : Sp := fun vs H Q _ => ∃ s1 A Z kind size, vs = [.ref s1, .int kind, .int size] ∧ SpaceAt CP CS H s1 A Z ∧ Whole Z.store ∧ Z.roots.length + Z.held.length ≤ 150000 ∧ 0 ≤ size ∧ size ≤ 100000 ∧ LamX.Tabs T H ∧
  ∀ r A' Z' H' t, NewR Z kind size r Z' → SpaceAt CP CS H' s1 A' Z' → Mv T (A.own s1) (A'.own s1) H H' → H' t = some (.tup (told r)) → Q (.ref t) H'
theorem sc__law_called : FnScope ["_law_space_here", "_law_kind", "_law_size", "e"] ["_law_space_here", "_law_kind", "_law_size"] (defScope (top 32)) := ⟨rfl, rfl, rfl, by decide +kernel, rfl, by decide +kernel, by decide +kernel⟩
theorem ok__law_called {f : Addr} {fd : FuncData} (F : Fun K "_law_called" "_law_called" (top 32) f fd) {CP CS : Addr} (TStore : TStoreC K CS) (TSpace : TSpaceC K CP) (T : TxC mg) {CE CR CN Pt : Addr} (XK : XkC K mg CE CR CN) (E_NoRoom : EB P w K mg base "NoRoom" CR "need" "need") (E_NoNumber : EB P w K mg base "NoNumber" CN "limit" "limit") (M_Space_new : MX P w K mg base 7 CP "new" ["self", "kind", "size"] (spNew (Tb1 Pt) CP CS CR CN)) : FnOk P w K mg base CX0 8 f fd ["_law_space_here", "_law_kind", "_law_size"] (spCalled (Tb1 Pt) CP CS) := by
  refine F.ok sc__law_called (fun vs H Q E h => ?_) (fun cdv A outer s H vs Q E hr h => ?_)
  · obtain ⟨s1, A1, Z, kind, size, rfl, _⟩ := h
    rfl
  · obtain ⟨s1, A1, Z, kind, size, rfl, XA, W, hl, hs0, hs1, Tt, q⟩ := h
    have hu := hu_of hr
    refine ⟨_, (pss_one (L2N.ps_try_as (i := 3) (tb := fun W => tRet (tTup (tCons (tC (.str "made")) (tCons (tMethH CP "new" (spNew (Tb1 Pt) CP CS CR CN) (WE W) (tVar 0) (tCons (tVar 1) (tCons (tVar 2) tNil))) tNil)))) rfl rfl sc__law_called.nd rfl rfl ⟨rfl, by decide, .inl XK.mE⟩ takes0N
      (fun W pn xe tk _ => pss_one (ps_ret (pe_tup (pa_cons pe_str (pa_cons (pe_mx (pv 0) TSpace.cl M_Space_new (hr.mono (by decide)) tk (pa_cons (pv 1) (pa_cons (pv 2) pa_nil))) pa_nil)))))
      (fun a oe cls d pn hz hf => (pss_cons (ps_if (PW.pt (pw_and (pt_val (pe_callB (call_isX hz.zc hf) (by rfl) T.isinstance (by decide +kernel) (pa_cons (pv 3) (pa_cons (pe_glob (v := .ref CR) rfl E_NoRoom.hm rfl) pa_nil)))) (pw_and1 (pt_not (pt_val (pe_callB (call_isX hz.zc hf) (by rfl) T.isinstance (by decide +kernel) (pa_cons (pv 3) (pa_cons (pe_glob (v := .ref CN) rfl E_NoNumber.hm rfl) pa_nil)))))))) (pss_one (ps_ret (pe_tup (pa_cons pe_str (pa_cons (pe_xf XK.fr XK.nr hz.zc hf (pv 3)) pa_nil))))) pss_nil)
        (pss_cons (ps_if (PW.pt (pw_and (pt_val (pe_callB (call_isX hz.zc hf) (by rfl) T.isinstance (by decide +kernel) (pa_cons (pv 3) (pa_cons (pe_glob (v := .ref CN) rfl E_NoNumber.hm rfl) pa_nil)))) (pw_and1 (pt_not (pt_val (pe_callB (call_isX hz.zc hf) (by rfl) T.isinstance (by decide +kernel) (pa_cons (pv 3) (pa_cons (pe_glob (v := .ref CR) rfl E_NoRoom.hm rfl) pa_nil)))))))) (pss_one (ps_ret (pe_tup (pa_cons pe_str (pa_cons (pe_xf XK.fn XK.nn hz.zc hf (pv 3)) pa_nil))))) pss_nil)
        (pss_one (ps_ret (pe_tup (pa_cons pe_str (pa_cons pe_int pa_nil)))))))))), ?_⟩
    obtain ⟨dx, ob⟩ := XA.ob
    refine ⟨_, rfl, s1, dx, _, rfl, ob, rfl, _, rfl, _, rfl, s1, A1, Z, kind, size, rfl, XA, W, hl, hs0, hs1, Tt, fun r A' Z' H' hN X' m' => ?_⟩
    have fin : ∀ t, H' t = none → Q (.ref t) (upd H' t (.tup (told r))) := fun t ht => q r A' Z' _ t hN (X'.same (same_new ht)) (m'.trans (Mv.same (same_new ht))) upd_same
    rcases r with m | n | n
    · exact ⟨by show 2 ≤ sizeLine; decide, fun t ht => fin t ht⟩
    · intro d hd
      refine ⟨true, XK.er, fun _ a ha => ?_, fun z => nomatch z⟩
      refine ⟨_, rfl, CR, d, _, .ref CR, .ref CR, true, rfl, rfl, XK.xr, rfl, hd, fun u h => h, XK.krr, _, rfl, ?_⟩
      refine iteT ?_
      refine ⟨_, rfl, CR, d, _, .ref CN, .ref CN, false, rfl, rfl, XK.xr, rfl, hd, fun u h => h, XK.krn, _, rfl, ?_⟩
      refine iteT ?_
      exact ⟨_, rfl, rfl, rfl, d, _, _, rfl, hd, rfl, by show 2 ≤ sizeLine; decide, fun t ht => fin t ht⟩
    · intro d hd
      refine ⟨true, XK.en, fun _ a ha => ?_, fun z => nomatch z⟩
      refine ⟨_, rfl, CN, d, _, .ref CR, .ref CR, false, rfl, rfl, XK.xn, rfl, hd, fun u h => h, XK.knr, _, rfl, ?_⟩
      refine iteF ?_
      refine iteF ?_
      refine ⟨_, rfl, CN, d, _, .ref CN, .ref CN, true, rfl, rfl, XK.xn, rfl, hd, fun u h => h, XK.knn, _, rfl, ?_⟩
      refine iteT ?_
      refine ⟨_, rfl, CN, d, _, .ref CR, .ref CR, false, rfl, rfl, XK.xn, rfl, hd, fun u h => h, XK.knr, _, rfl, ?_⟩
      refine iteT ?_
      exact ⟨_, rfl, rfl, rfl, d, _, _, rfl, hd, rfl, by show 2 ≤ sizeLine; decide, fun t ht => fin t ht⟩
end
end Sg

/-! SgM3: what new does, as the law tells it. -/
namespace Sg
open PySem L2
theorem flat_total : ∀ os : List Ob, ((flat os).length : Int) = total os
  | [] => rfl
  | o :: os => by
    have ih := flat_total os
    have e : total (o :: os) = (3 + (o.slots.length : Int)) + total os := by simp [total]
    rw [e, ← ih, flat_cons, List.length_append, Ob.flat_len]
    omega
theorem total_perm {a b : List Ob} (p : a.Perm b) : total a = total b := by
  induction p with
  | nil => rfl
  | cons x _ ih =>
    have e : ∀ l, total (x :: l) = (3 + (x.slots.length : Int)) + total l := fun l => by simp [total]
    rw [e, e, ih]
  | swap x y l =>
    have e : ∀ (x : Ob) l, total (x :: l) = (3 + (x.slots.length : Int)) + total l := fun x l => by simp [total]
    rw [e, e, e, e]
    omega
  | trans _ _ h1 h2 => rw [h1, h2]
theorem Coll.ob {S S' : SSt} {ws : List Int} (W : Whole S) (C : Coll S ws S') {n : Int} {o : Ob} : S'.ob n o ↔ S.ob n o ∧ Reach S ws n := by
  obtain ⟨ks, _, hk, eo⟩ := C.ks
  constructor
  · rintro ⟨h1, h2, h3⟩
    rw [eo, List.mem_filter] at h1
    have h4 : Reach S ws n := (hk n).mp (by rw [← h2]; exact of_decide_eq_true h1.2)
    exact ⟨⟨h1.1, h2, h4.live⟩, h4⟩
  · rintro ⟨⟨h1, h2, h3⟩, h4⟩
    have h5 : o ∈ S'.objs := by
      rw [eo, List.mem_filter]
      exact ⟨h1, decide_eq_true (by rw [h2]; exact (hk n).mpr h4)⟩
    exact ⟨h5, h2, by rw [← h2]; exact C.whole.live_num h5⟩
theorem Coll.live {S S' : SSt} {ws : List Int} (W : Whole S) (C : Coll S ws S') {n : Int} : S'.live n ↔ Reach S ws n := by
  constructor
  · intro h
    obtain ⟨o, ho⟩ := C.whole.toLay.live_ob h
    exact ((C.ob W).mp ho).2
  · intro h
    obtain ⟨o, ho⟩ := W.toLay.live_ob h.live
    exact ((C.ob W).mpr ⟨ho, h⟩).2.2
theorem Coll.reach {S S' : SSt} {ws : List Int} (W : Whole S) (C : Coll S ws S') {n : Int} : Reach S' ws n ↔ Reach S ws n := by
  constructor
  · intro h
    exact (C.live W).mp h.live
  · intro h
    induction h with
    | root a b c => exact .root a b ((C.live W).mpr (.root a b c))
    | step a b c d e ih => exact .step ih ((C.ob W).mpr ⟨b, a⟩) c d ((C.live W).mpr (.step a b c d e))
/-- the least number does not matter -/
theorem reach_least {S : SSt} {ws : List Int} {l n : Int} : Reach { S with least := l } ws n ↔ Reach S ws n := by
  constructor
  · intro h
    induction h with
    | root a b c => exact .root a b c
    | step a b c d e ih => exact .step ih b c d e
  · intro h
    induction h with
    | root a b c => exact .root a b c
    | step a b c d e ih => exact .step ih b c d e
theorem Coll.least {S S' : SSt} {ws : List Int} {l : Int} (C : Coll { S with least := l } ws S') : Coll S ws S' := by
  obtain ⟨⟨ks, a, b, c⟩, d, e, f⟩ := C
  exact ⟨⟨ks, a, fun n => (b n).trans reach_least, c⟩, d, e, f⟩
theorem nodup_of_map {os : List Ob} (h : (os.map Ob.num).Nodup) : os.Nodup := (List.pairwise_map.mp h).imp fun h e => h (congrArg _ e)
theorem Found.perm {S S' : SSt} {ws : List Int} {es : List (Ob × Addr × Addr)} (W : Whole S) (F : Found S ws es) (C : Coll S ws S') : (es.map fun e => e.1).Perm S'.objs := by
  have nd1 : ((es.map fun e => e.1).map Ob.num).Nodup := by rw [List.map_map]; exact F.nd
  refine (List.perm_ext_iff_of_nodup (nodup_of_map nd1) (nodup_of_map C.whole.nd)).mpr fun o => ?_
  constructor
  · intro h
    obtain ⟨e, he, rfl⟩ := List.mem_map.mp h
    exact ((C.ob W).mpr ⟨F.ob e he, (F.mem _).mp (List.mem_map.mpr ⟨e, he, rfl⟩)⟩).1
  · intro h
    have h1 := (C.ob W).mp ⟨h, rfl, C.whole.live_num h⟩
    obtain ⟨e, he, en⟩ := List.mem_map.mp ((F.mem o.num).mpr h1.2)
    have h2 := F.ob e he
    rw [en] at h2
    rw [← SSt.ob_uniq W.toLay h2 h1.1]
    exact List.mem_map.mpr ⟨e, he, rfl⟩
theorem found_total_le {S : SSt} {ws : List Int} {es : List (Ob × Addr × Addr)} (W : Whole S) (F : Found S ws es) : total (es.map fun e => e.1) ≤ ((flat S.objs).length : Int) ∧ (es.map fun e => e.1).length ≤ S.objs.length := by
  have nd1 : ((es.map fun e => e.1).map Ob.num).Nodup := by rw [List.map_map]; exact F.nd
  have sub : ∀ o ∈ es.map (fun e => e.1), o ∈ S.objs := fun o h => by
    obtain ⟨e, he, rfl⟩ := List.mem_map.mp h
    exact (F.ob e he).1
  have p : (S.objs.filter fun o => decide (o.num ∈ es.map fun e => e.1.num)).Perm (es.map fun e => e.1) := by
    refine (List.perm_ext_iff_of_nodup ((nodup_of_map W.nd).sublist List.filter_sublist) (nodup_of_map nd1)).mpr fun o => ?_
    rw [List.mem_filter]
    constructor
    · rintro ⟨h1, h2⟩
      obtain ⟨e, he, en⟩ := List.mem_map.mp (of_decide_eq_true h2)
      have h3 := F.ob e he
      have en : e.1.num = o.num := en
      rw [split_uniq W.nd h1 h3.1 en.symm]
      exact List.mem_map.mpr ⟨e, he, rfl⟩
    · intro h
      obtain ⟨e, he, rfl⟩ := List.mem_map.mp h
      exact ⟨sub _ (List.mem_map.mpr ⟨e, he, rfl⟩), decide_eq_true (List.mem_map.mpr ⟨e, he, rfl⟩)⟩
  refine ⟨?_, ?_⟩
  · rw [← total_perm p, ← flat_total]
    have := flat_filter_le (fun o => decide (o.num ∈ es.map fun e => e.1.num)) S.objs
    omega
  · rw [← p.length_eq]
    exact List.length_filter_le _ _
theorem Free.count {S : SSt} (W : Whole S) {m : Int} (F : S.Free m) : m < S.ents ↔ (S.objs.length : Int) < S.ents := by
  have e0 := W.ents0
  have rangeND : ((List.range S.ents.toNat).map fun (j : Nat) => (j : Int)).Nodup := List.pairwise_map.mpr (List.nodup_range.imp fun h e => h (by omega))
  constructor
  · intro hm
    have nd : (m :: S.objs.map Ob.num).Nodup := List.nodup_cons.mpr ⟨fun h => by
      obtain ⟨o, ho, e⟩ := List.mem_map.mp h
      exact F.no (e ▸ W.live_num ho), W.nd⟩
    have := nd.length_le_of_subset (l₂ := (List.range S.ents.toNat).map fun (j : Nat) => (j : Int)) fun x hx => by
      have hb : 0 ≤ x ∧ x < S.ents := by
        rcases List.mem_cons.mp hx with rfl | hx
        · exact ⟨F.ge, hm⟩
        · obtain ⟨o, ho, rfl⟩ := List.mem_map.mp hx
          exact W.rng o ho
      exact List.mem_map.mpr ⟨x.toNat, List.mem_range.mpr (by omega), by omega⟩
    simp only [List.length_cons, List.length_map, List.length_range] at this
    omega
  · intro hl
    refine Classical.byContradiction fun z => ?_
    have := rangeND.length_le_of_subset (l₂ := S.objs.map Ob.num) fun x hx => by
      obtain ⟨j, hj, rfl⟩ := List.mem_map.mp hx
      have := List.mem_range.mp hj
      exact W.toLay.keys (F.lt j (by omega) (by omega))
    simp only [List.length_map, List.length_range] at this
    omega
theorem pl_len {S : SSt} (W : Whole S) : S.pl.length = S.objs.length := by
  have := W.perm.length_eq
  simpa using this
def Res.post : Res → List Int → List Int
  | .made m, ns => ns ++ [m]
  | _, ns => ns
def Res.use : Res → Int → Int → Int
  | .made _, u, size => u + 3 + size
  | _, u, _ => u
/-- what allocate finds behind a collection -/
theorem AllocR.says {S1 S2 : SSt} {kind size : Int} {r : Res} (W : Whole S1) (h0 : 0 ≤ size) (h : AllocR S1 kind size r S2) :
    (∀ m, r = .made m → ¬ (((flat S1.objs).length : Int) + 3 + size > S1.room) ∧ ¬ ((S1.objs.length : Int) ≥ S1.ents) ∧ 0 ≤ m ∧ m < S1.ents ∧ ¬ S1.live m ∧ S2.ob m ⟨m, kind, List.replicate size.toNat 0⟩) ∧
    (∀ n, r = .room n → ((flat S1.objs).length : Int) + 3 + size > S1.room ∧ n = 3 + size) ∧
    (∀ n, r = .num n → ¬ (((flat S1.objs).length : Int) + 3 + size > S1.room) ∧ (S1.objs.length : Int) ≥ S1.ents ∧ n = S1.ents) ∧
    (∀ n o, S1.ob n o → S2.ob n o) ∧ (r.post (S1.pl.map (·.1))) = S2.pl.map (·.1) ∧ ((flat S2.objs).length : Int) = r.use ((flat S1.objs).length : Int) size ∧ S2.room = S1.room ∧ S2.ents = S1.ents := by
  cases h with
  | @made m a b c =>
    have lv : ∀ n, S1.live n → (S1.added m kind size).live n := fun n h => by
      show n ∈ (S1.pl ++ [(m, ((flat S1.objs).length : Int))]).map (·.1)
      rw [List.map_append]
      exact List.mem_append_left _ h
    refine ⟨fun k e => ?_, fun n e => (by cases e), fun n e => (by cases e), fun n o h => ⟨List.mem_append_left _ h.1, h.2.1, lv _ h.2.2⟩, ?_, ?_, rfl, rfl⟩
    · cases e
      have hc := (Free.count W b).mp c
      refine ⟨a, by omega, b.ge, c, b.no, List.mem_append_right _ (List.mem_singleton.mpr rfl), rfl, ?_⟩
      show m ∈ (S1.pl ++ [(m, ((flat S1.objs).length : Int))]).map (·.1)
      rw [List.map_append]
      exact List.mem_append_right _ (List.mem_singleton.mpr rfl)
    · show _ = (S1.pl ++ [(m, ((flat S1.objs).length : Int))]).map (·.1)
      rw [List.map_append]
      rfl
    · rw [flat_added]
      simp only [List.length_append, List.length_cons, List.length_replicate, Res.use]
      omega
  | room a => exact ⟨fun k e => (by cases e), fun n e => (by cases e; exact ⟨a, rfl⟩), fun n e => (by cases e), fun n o h => h, rfl, rfl, rfl, rfl⟩
  | @num m a b c =>
    have hc := Free.count W b
    have he : (S1.objs.length : Int) ≥ S1.ents := by omega
    exact ⟨fun k e => (by cases e), fun n e => (by cases e), fun n e => (by cases e; exact ⟨a, he, rfl⟩), fun n o h => h, rfl, rfl, rfl, rfl⟩
/-- all that the law asks of one new -/
structure LawNew (Z : SSp) (os : List Ob) (kind size : Int) (r : Res) (Z' : SSp) : Prop where
  made : ∀ m, r = .made m → ¬ (total os + 3 + size > Z.store.room) ∧ ¬ ((os.length : Int) ≥ Z.store.ents) ∧ 0 ≤ m ∧ m < Z.store.ents ∧ m ∉ os.map Ob.num ∧ Z'.store.ob m ⟨m, kind, List.replicate size.toNat 0⟩
  room : ∀ n, r = .room n → total os + 3 + size > Z.store.room ∧ n = 3 + size
  num : ∀ n, r = .num n → ¬ (total os + 3 + size > Z.store.room) ∧ (os.length : Int) ≥ Z.store.ents ∧ n = Z.store.ents
  allocs : Z'.allocs = Z.allocs + 1
  colls : Z'.colls = Z.colls + lawColl Z os size
  roots : Z'.roots = Z.roots
  held : Z'.held = Z.held
  pressure : Z'.pressure = Z.pressure
  always : Z'.always = Z.always
  sroom : Z'.store.room = Z.store.room
  sents : Z'.store.ents = Z.store.ents
  kept : ∀ o ∈ os, Z'.store.ob o.num o
  whole : Whole Z'.store
  keys : (r.post (if lawColl Z os size > 0 then os.map Ob.num else Z.store.pl.map (·.1))).Perm (Z'.store.pl.map (·.1))
  used : ((flat Z'.store.objs).length : Int) = r.use (if lawColl Z os size > 0 then total os else ((flat Z.store.objs).length : Int)) size
theorem Res.post_perm {a b : List Int} (r : Res) (p : a.Perm b) : (r.post a).Perm (r.post b) := by
  cases r with
  | made m => exact p.append_right _
  | room n => exact p
  | num n => exact p
/-- behind a collection that leaves just what is reached -/
theorem law_after {Z Zx : SSp} {ws : List Int} {es : List (Ob × Addr × Addr)} {S S1 S2 : SSt} {kind size : Int} {r : Res} (W : Whole Z.store) (h0 : 0 ≤ size) (F : Found Z.store ws es) (WS : Whole S) (FS : Found S ws es) (C : Coll S ws S1) (er : S.room = Z.store.room) (ee : S.ents = Z.store.ents)
    (hA : AllocR S1 kind size r S2) (e1 : Zx.allocs = Z.allocs + 1) (e2 : Zx.colls = Z.colls + lawColl Z (es.map fun e => e.1) size) (hc : lawColl Z (es.map fun e => e.1) size > 0) (e3 : Zx.roots = Z.roots) (e4 : Zx.held = Z.held) (e5 : Zx.pressure = Z.pressure) (e6 : Zx.always = Z.always) :
    LawNew Z (es.map fun e => e.1) kind size r { Zx with store := S2 } := by
  have p := FS.perm WS C
  have et : total (es.map fun e => e.1) = ((flat S1.objs).length : Int) := by rw [total_perm p, flat_total]
  have el : ((es.map fun e => e.1).length : Int) = (S1.objs.length : Int) := by rw [p.length_eq]
  have r1 : S1.room = Z.store.room := C.room.trans er
  have r2 : S1.ents = Z.store.ents := C.ents.trans ee
  obtain ⟨a1, a2, a3, a4, a5, a6, a7, a8⟩ := hA.says C.whole h0
  have key : ∀ o ∈ es.map (fun e => e.1), S1.ob o.num o := fun o h => by
    have := p.mem_iff.mp h
    exact ⟨this, rfl, C.whole.live_num this⟩
  refine { made := fun m hm => ?_, room := fun n hn => ?_, num := fun n hn => ?_, allocs := e1, colls := e2, roots := e3, held := e4, pressure := e5, always := e6, sroom := a7.trans r1, sents := a8.trans r2, kept := fun o ho => a4 _ _ (key o ho), whole := hA.whole C.whole h0, keys := ?_, used := ?_ }
  · obtain ⟨b1, b2, b3, b4, b5, b6⟩ := a1 m hm
    rw [et, ← r1, ← r2, el]
    refine ⟨b1, b2, b3, b4, fun z => b5 ?_, b6⟩
    obtain ⟨o, ho, e⟩ := List.mem_map.mp z
    rw [← e]
    exact (key o ho).2.2
  · obtain ⟨b1, b2⟩ := a2 n hn
    rw [et, ← r1]
    exact ⟨b1, b2⟩
  · obtain ⟨b1, b2, b3⟩ := a3 n hn
    rw [et, ← r1, ← r2, el]
    exact ⟨b1, b2, b3⟩
  · rw [if_pos hc]
    show (r.post ((es.map fun e => e.1).map Ob.num)).Perm (S2.pl.map (·.1))
    rw [← a5]
    exact r.post_perm ((p.map Ob.num).trans C.whole.perm.symm)
  · rw [if_pos hc, et]
    exact a6
theorem Found.coll {S S1 : SSt} {ws : List Int} {es : List (Ob × Addr × Addr)} (W : Whole S) (F : Found S ws es) (C : Coll S ws S1) : Found S1 ws es :=
  ⟨F.nd, fun n => (F.mem n).trans (C.reach W).symm, fun e he => (C.ob W).mpr ⟨F.ob e he, (F.mem _).mp (List.mem_map.mpr ⟨e, he, rfl⟩)⟩⟩
/-- an allocation that fails leaves the store, but for its least number -/
theorem AllocR.failed {S S0 S1 : SSt} {kind size : Int} {r : Res} {ws : List Int} (W : Whole S) (h : AllocR S kind size r S0) (hne : ∀ m, r ≠ .made m) (C : Coll S0 ws S1) :
    Coll S ws S1 ∧ ((((flat S.objs).length : Int) + 3 + size > S.room) ∨ (S.objs.length : Int) ≥ S.ents) := by
  cases h with
  | made a b c => exact absurd rfl (hne _)
  | room a => exact ⟨C, .inl a⟩
  | @num m a b c =>
    have hc := Free.count W b
    exact ⟨C.least, .inr (by omega)⟩
theorem law_new {Z Z' : SSp} {es : List (Ob × Addr × Addr)} {kind size : Int} {r : Res} (W : Whole Z.store) (h0 : 0 ≤ size) (F : Found Z.store (Z.allRoots ++ [kind]) es) (h : NewR Z kind size r Z') : LawNew Z (es.map fun e => e.1) kind size r Z' := by
  cases h with
  | forced hf C1 hF =>
    rename_i S1
    have hforce : Z.force = true := by
      unfold SSp.force
      rcases hf with h | h
      · rw [h]; rfl
      · rw [decide_eq_true h]; simp
    have F1 := F.coll W C1
    have p := F.perm W C1
    have et : total (es.map fun e => e.1) = ((flat S1.objs).length : Int) := by rw [total_perm p, flat_total]
    have el : ((es.map fun e => e.1).length : Int) = (S1.objs.length : Int) := by rw [p.length_eq]
    cases hF with
    | @at_once m S' hA =>
      obtain ⟨a1, _⟩ := hA.says C1.whole h0
      obtain ⟨b1, b2, _⟩ := a1 m rfl
      rw [C1.room] at b1
      rw [C1.ents] at b2
      have hc : lawColl Z (es.map fun e => e.1) size = 1 := by
        unfold lawColl
        rw [hforce, if_pos rfl, if_pos rfl, if_pos rfl, et, el, if_neg (fun z => z.elim b1 b2)]
        rfl
      exact law_after (Zx := { Z with allocs := Z.allocs + 1, colls := Z.colls + 1 }) W h0 F W F C1 rfl rfl hA rfl (by rw [hc]) (by rw [hc]; decide) rfl rfl rfl rfl
    | after hA0 hne C2 hA2 =>
      obtain ⟨C3, hx⟩ := hA0.failed C1.whole hne C2
      rw [C1.room, C1.ents] at hx
      have hc : lawColl Z (es.map fun e => e.1) size = 2 := by
        unfold lawColl
        rw [hforce, if_pos rfl, if_pos rfl, if_pos rfl, et, el, if_pos hx]
        rfl
      exact law_after (Zx := { Z with allocs := Z.allocs + 1, colls := Z.colls + 1 + 1 }) W h0 F C1.whole F1 C3 C1.room C1.ents hA2 rfl (by rw [hc]; show Z.colls + 1 + 1 = _; omega) (by rw [hc]; decide) rfl rfl rfl rfl
  | free hf hF =>
    have hforce : Z.force = false := by
      unfold SSp.force
      cases ha : Z.always with
      | true => exact absurd (.inl ha) hf
      | false => rw [decide_eq_false fun z => hf (.inr z)]; rfl
    have hpl := pl_len W
    cases hF with
    | @at_once m S' hA =>
      obtain ⟨a1, a2, a3, a4, a5, a6, a7, a8⟩ := hA.says W h0
      obtain ⟨b1, b2, b3, b4, b5, b6⟩ := a1 m rfl
      have hc : lawColl Z (es.map fun e => e.1) size = 0 := by
        unfold lawColl
        rw [hforce, if_neg Bool.false_ne_true, if_neg Bool.false_ne_true, if_neg Bool.false_ne_true, hpl, if_neg (fun z => z.elim b1 b2)]
        rfl
      obtain ⟨t1, t2⟩ := found_total_le W F
      have b1' : ¬ (((flat Z.store.objs).length : Int) + 3 + size > Z.store.room) := b1
      have b2' : ¬ ((Z.store.objs.length : Int) ≥ Z.store.ents) := b2
      have hz : ¬ lawColl Z (es.map fun e => e.1) size > 0 := by rw [hc]; decide
      refine { made := fun k hk => ?_, room := fun n hn => (by cases hn), num := fun n hn => (by cases hn), allocs := rfl, colls := by rw [hc]; show Z.colls = _; omega, roots := rfl, held := rfl, pressure := rfl, always := rfl, sroom := a7, sents := a8, kept := fun o ho => ?_, whole := hA.whole W h0, keys := ?_, used := ?_ }
      · cases hk
        refine ⟨by omega, by omega, b3, b4, fun z => ?_, b6⟩
        obtain ⟨o, ho, e⟩ := List.mem_map.mp z
        obtain ⟨x, hx, rfl⟩ := List.mem_map.mp ho
        exact b5 (e ▸ (F.ob x hx).2.2)
      · obtain ⟨x, hx, rfl⟩ := List.mem_map.mp ho
        exact a4 _ _ (F.ob x hx)
      · rw [if_neg hz]
        show (Res.post _ (Z.store.pl.map (·.1))).Perm (S'.pl.map (·.1))
        rw [← a5]
      · rw [if_neg hz]
        exact a6
    | after hA0 hne C2 hA2 =>
      obtain ⟨C3, hx⟩ := hA0.failed W hne C2
      have hc : lawColl Z (es.map fun e => e.1) size = 1 := by
        unfold lawColl
        rw [hforce, if_neg Bool.false_ne_true, if_neg Bool.false_ne_true, if_neg Bool.false_ne_true, hpl, if_pos hx]
        rfl
      exact law_after (Zx := { Z with allocs := Z.allocs + 1, colls := Z.colls + 1 }) W h0 F W F C3 rfl rfl hA2 rfl (by rw [hc]) (by rw [hc]; decide) rfl rfl rfl rfl
end Sg

/-! SgP16: the law's new. -/
namespace Sg
open PySem PySem.W PySem.Spec PyProof.Rows L2 L2H HotX
theorem g_split {i : Nat} {v : V} {σ : L2.St} {H : Hp} {t u : TS} {D : Ends} {r : VK} {bk ct : L2.St → Hp → Prop} (Pm : L2.St → Hp → Prop) (h1 : ∀ nx, (∀ σ' H', Pm σ' H' → nx σ' H') → t { D with nx := nx } (σ.set i (some v)) H) (h2 : ∀ σ' H', Pm σ' H' → u D σ' H') :
    gName i v σ H (Ends.nx { nx := tSeq t u D, rt := r, bk := bk, ct := ct }) := h1 (u D) h2
theorem a_split {i : Nat} {v : V} {σ : L2.St} {H : Hp} {t u : TS} {D : Ends} (Pm : L2.St → Hp → Prop) (h1 : ∀ nx, (∀ σ' H', Pm σ' H' → nx σ' H') → t { D with nx := nx } (σ.set i (some v)) H) (h2 : ∀ σ' H', Pm σ' H' → u D σ' H') :
    tSeq (tAsg (tC v) (gName i)) (tSeq t u) D σ H := h1 (u D) h2
theorem ne_self (x : V) : (!decide (x = x)) = false := by simp
theorem str_mr : decide (V.str "made" = V.str "room") = false := by decide +kernel
theorem str_mn : decide (V.str "made" = V.str "number") = false := by decide +kernel
theorem str_rn : decide (V.str "room" = V.str "number") = false := by decide +kernel
theorem str_rm : decide (V.str "room" = V.str "made") = false := by decide +kernel
theorem str_nr : decide (V.str "number" = V.str "room") = false := by decide +kernel
theorem str_nm : decide (V.str "number" = V.str "made") = false := by decide +kernel
theorem FoundAt.mv {T : List (Addr × Str)} {O O' : Addr → Prop} {H H' : Hp} {d : Addr} {es : List (Ob × Addr × Addr)} (F : FoundAt H d es) (m : Mv T O O' H H') (n0 : ¬ O d) (n : ∀ e ∈ es, ¬ O e.2.1 ∧ ¬ O e.2.2) : FoundAt H' d es ∧ ¬ O' d :=
  ⟨⟨(m.kp _ _ F.dk n0 (fun _ z => nomatch z)).1, fun e he => ⟨(m.kp _ _ (F.at1 e he).1 (n e he).1 (fun _ z => nomatch z)).1, (m.kp _ _ (F.at1 e he).2 (n e he).2 (fun _ z => nomatch z)).1⟩⟩, (m.kp _ _ F.dk n0 (fun _ z => nomatch z)).2⟩
theorem FoundAt.same {H H' : Hp} {d : Addr} {es : List (Ob × Addr × Addr)} (F : FoundAt H d es) (s : Same H H') : FoundAt H' d es := ⟨s _ _ F.dk, fun e he => ⟨s _ _ (F.at1 e he).1, s _ _ (F.at1 e he).2⟩⟩
def dueS : Res → Str
  | .made _ => "made"
  | .room _ => "room"
  | .num _ => "number"
def numOf : Res → Int
  | .made m => m
  | _ => -1
section
variable {P : Program} {w : World} {K : Frag} {mg : Str → Option Value} {base : Heap}
def spNewL (T : List (Addr × Str)) (CP CS : Addr) : Sp := fun vs H Q _ => ∃ s1 A Z lim ms kind size, vs = [.ref s1, .ref lim, .int kind, .int size] ∧ SpaceAt CP CS H s1 A Z ∧ Whole Z.store ∧ Z.roots.length + Z.held.length + (flat Z.store.objs).length ≤ 15000 ∧ 0 ≤ size ∧ size ≤ 100000 ∧ LamX.Tabs T H ∧
  Lims H lim ms Z.store.room Z.store.ents Z.pressure Z.always ∧ ¬ A.own s1 lim ∧ ¬ A.own s1 ms ∧
  ∀ r es A' Z' H', NewR Z kind size r Z' → LawNew Z (es : List Ob) kind size r Z' → SpaceAt CP CS H' s1 A' Z' → Mv T (A.own s1) (A'.own s1) H H' → Q (.int (numOf r)) H'
theorem sc__law_new : FnScope ["_law_space_here", "_law_limits", "_law_kind", "_law_size", "_law_found", "_law_roots", "_law_counts", "_law_collections_here", "_law_numbers", "_law_used", "_law_due", "_law_told", "_law_number_here"] ["_law_space_here", "_law_limits", "_law_kind", "_law_size"] (defScope (top 36)) := ⟨rfl, rfl, rfl, by decide +kernel, rfl, by decide +kernel, by decide +kernel⟩
theorem ok__law_new {f : Addr} {fd : FuncData} (F : Fun K "_law_new" "_law_new" (top 36) f fd) {CP CS : Addr} (TStore : TStoreC K CS) (TSpace : TSpaceC K CP) (T : TxC mg) {Pt : Addr} (M_Store_numbers : MB P w K mg base 1 CS "numbers" ["self"] (spNumbers CS)) (M_Store_used : MB P w K mg base 1 CS "used" ["self"] (spUsed CS)) (M_Space_all_roots : MB P w K mg base 1 CP "all_roots" ["self"] (spAllRoots CP CS)) (G_law_is : GO P w K mg base 1 "_law_is" ["_law_actual", "_law_due"] spIs) (G_law_same : GO P w K mg base 2 "_law_same" ["_law_actual", "_law_due"] spSame) (G_law_reached : GO P w K mg base 3 "_law_reached" ["_law_space_here", "_law_words"] (spLReached CP CS)) (G_law_total : GO P w K mg base 1 "_law_total" ["_law_found"] spTotal) (G_law_collections : GO P w K mg base 2 "_law_collections" ["_law_space_here", "_law_found", "_law_limits", "_law_size"] (spColls CP CS)) (G_law_called : GO P w K mg base 8 "_law_called" ["_law_space_here", "_law_kind", "_law_size"] (spCalled (Tb1 Pt) CP CS)) (G_law_kept : GO P w K mg base 3 "_law_kept" ["_law_space_here", "_law_found"] (spKept CP CS)) (G_law_held : GO P w K mg base 3 "_law_held" ["_law_space_here", "_law_numbers", "_law_used", "_law_number_here", "_law_size"] (spHeldL CP CS)) (G_law_fresh : GO P w K mg base 3 "_law_fresh" ["_law_space_here", "_law_found", "_law_number_here", "_law_kind", "_law_size"] (spFresh CP CS)) : FnOk P w K mg base CX0 9 f fd ["_law_space_here", "_law_limits", "_law_kind", "_law_size"] (spNewL (Tb1 Pt) CP CS) := by
  refine F.ok sc__law_new (fun vs H Q E h => ?_) (fun cdv A outer s H vs Q E hr h => ?_)
  · obtain ⟨s1, A1, Z, lim, ms, kind, size, rfl, _⟩ := h
    rfl
  · obtain ⟨s1, A1, Z, lim, ms, kind, size, rfl, XA, W, hl, hs0, hs1, Tt, Lm, nlim, nms, q⟩ := h
    have hu := hu_of hr
    refine ⟨_, (pss_cons (ps_set (i := 4) sc__law_new.nd rfl (Or.inl rfl) (pe_go G_law_reached (hr.mono (by decide)) (pa_cons (pv 0) (pa_cons (pe_op op_cat (pe_mbb0 (pv 0) TSpace.cl M_Space_all_roots ((roomH_of hr).mono (by decide)) (Or.inl rfl)) (pe_lst (pa_cons (pv 2) pa_nil))) pa_nil))))
    (pss_cons (ps_set (i := 5) sc__law_new.nd rfl (Or.inl rfl) (pe_mbb0 (pv 0) TSpace.cl M_Space_all_roots ((roomH_of hr).mono (by decide)) (Or.inl rfl)))
    (pss_cons (ps_set (i := 6) sc__law_new.nd rfl (Or.inl rfl) (pe_tup (pa_cons (pe_fld (pv 0) rfl) (pa_cons (pe_fld (pv 0) rfl) pa_nil))))
    (pss_cons (ps_set (i := 7) sc__law_new.nd rfl (Or.inl rfl) (pe_go G_law_collections (hr.mono (by decide)) (pa_cons (pv 0) (pa_cons (pv 4) (pa_cons (pv 1) (pa_cons (pv 3) pa_nil))))))
    (pss_cons (ps_set (i := 8) sc__law_new.nd rfl (Or.inl rfl) (pe_mbb0 (pe_fld (pv 0) rfl) TStore.cl M_Store_numbers ((roomH_of hr).mono (by decide)) (Or.inl rfl)))
    (pss_cons (ps_set (i := 9) sc__law_new.nd rfl (Or.inl rfl) (pe_mbb0 (pe_fld (pv 0) rfl) TStore.cl M_Store_used ((roomH_of hr).mono (by decide)) (Or.inl rfl)))
    (pss_cons (ps_if (pt_cmpR op_gt (pv 7) pe_int (nomark _))
      (pss_cons (ps_lock (ps_setLc (i := 8) (own := [("_law_number_here", 12)]) (g := gName 12) (tt := tYes) rfl sc__law_new.nd rfl rfl (sw_true rfl rfl rfl (by decide +kernel)) (pi_keys (pv 4)) (blkOk_by (own := [("_law_number_here", 12)]) (N := ["_law_space_here", "_law_limits", "_law_kind", "_law_size", "_law_found", "_law_roots", "_law_counts", "_law_collections_here", "_law_numbers", "_law_used", "_law_due", "_law_told", "_law_number_here"]) (sc := defScope (top 36)) (by decide +kernel)) (fun _ _ _ _ _ => pg_name (i := 12) sc__law_new.nd rfl (Or.inl rfl)) (fun _ _ _ _ _ => pts_nil) (fun _ _ _ _ _ => (pv 12))))
      (pss_one (ps_set (i := 9) sc__law_new.nd rfl (Or.inl rfl) (pe_go G_law_total (hr.mono (by decide)) (pa_cons (pv 4) pa_nil))))) pss_nil)
    (pss_cons (ps_set (i := 10) sc__law_new.nd rfl (Or.inl rfl) pe_str)
    (pss_cons (ps_if (pt_cmpR op_gt (pe_op op_add (pe_op op_add (pe_go G_law_total (hr.mono (by decide)) (pa_cons (pv 4) pa_nil)) pe_int) (pv 3)) (pe_ix ix_tup (pv 1) pe_int (fun _ _ => rfl)) (nomark _))
      (pss_one (ps_set (i := 10) sc__law_new.nd rfl (Or.inl rfl) pe_str)) (pss_one (ps_if (pt_cmpR op_ge (pe_callB call_lenD (by rfl) T.len PySem.boot_len (pa_cons (pv 4) pa_nil)) (pe_ix ix_tup (pv 1) pe_int (fun _ _ => rfl)) (nomark _))
        (pss_one (ps_set (i := 10) sc__law_new.nd rfl (Or.inl rfl) pe_str)) pss_nil)))
    (pss_cons (ps_set (i := 11) sc__law_new.nd rfl (Or.inl rfl) (pe_go G_law_called (hr.mono (by decide)) (pa_cons (pv 0) (pa_cons (pv 2) (pa_cons (pv 3) pa_nil)))))
    (pss_cons (ps_if (PW.pt (pw_or (pt_cmpR op_ne (pe_ix ix_tup (pv 11) pe_int (fun _ _ => rfl)) (pv 10) (nomark _)) (pw_or1 (PW.pt (pw_and (pt_cmpR op_eq (pv 10) pe_str (nomark _)) (pw_and1 (pt_not (pt_val (pe_go G_law_is (hr.mono (by decide)) (pa_cons (pe_ix ix_tup (pv 11) pe_int (fun _ _ => rfl)) (pa_cons (pe_op op_add pe_int (pv 3)) pa_nil)))))))))))
      (pss_one (ps_ret pe_non)) pss_nil)
    (pss_cons (ps_if (PW.pt (pw_and (pt_cmpR op_eq (pv 10) pe_str (nomark _)) (pw_and1 (pt_not (pt_val (pe_go G_law_is (hr.mono (by decide)) (pa_cons (pe_ix ix_tup (pv 11) pe_int (fun _ _ => rfl)) (pa_cons (pe_ix ix_tup (pv 1) pe_int (fun _ _ => rfl)) pa_nil))))))))
      (pss_one (ps_ret pe_non)) pss_nil)
    (pss_cons (ps_if (PW.pt (pw_and (pt_cmpR op_eq (pv 10) pe_str (nomark _)) (pw_and1 (PW.pt (pw_or (pt_not (pt_val (pe_go G_law_fresh (hr.mono (by decide)) (pa_cons (pv 0) (pa_cons (pv 4) (pa_cons (pe_ix ix_tup (pv 11) pe_int (fun _ _ => rfl)) (pa_cons (pv 2) (pa_cons (pv 3) pa_nil)))))))) (pw_or1 (pt_cmpR op_ge (pe_ix ix_tup (pv 11) pe_int (fun _ _ => rfl)) (pe_ix ix_tup (pv 1) pe_int (fun _ _ => rfl)) (nomark _))))))))
      (pss_one (ps_ret pe_non)) pss_nil)
    (pss_cons (ps_set (i := 12) sc__law_new.nd rfl (Or.inl rfl) (pe_un un_neg pe_int))
    (pss_cons (ps_if (pt_cmpR op_eq (pv 10) pe_str (nomark _))
      (pss_one (ps_set (i := 12) sc__law_new.nd rfl (Or.inl rfl) (pe_ix ix_tup (pv 11) pe_int (fun _ _ => rfl)))) pss_nil)
    (pss_cons (ps_if (PW.pt (pw_or (pt_not (pt_val (pe_go G_law_is (hr.mono (by decide)) (pa_cons (pe_fld (pv 0) rfl) (pa_cons (pe_op op_add (pe_ix ix_tup (pv 6) pe_int (fun _ _ => rfl)) pe_int) pa_nil))))) (pw_or1 (pt_not (pt_val (pe_go G_law_is (hr.mono (by decide)) (pa_cons (pe_fld (pv 0) rfl) (pa_cons (pe_op op_add (pe_ix ix_tup (pv 6) pe_int (fun _ _ => rfl)) (pv 7)) pa_nil))))))))
      (pss_one (ps_ret pe_non)) pss_nil)
    (pss_cons (ps_if (PW.pt (pw_or (pt_not (pt_val (pe_go G_law_same (hr.mono (by decide)) (pa_cons (pe_mbb0 (pv 0) TSpace.cl M_Space_all_roots ((roomH_of hr).mono (by decide)) (Or.inl rfl)) (pa_cons (pv 5) pa_nil))))) (pw_or1 (pt_not (pt_val (pe_go G_law_kept (hr.mono (by decide)) (pa_cons (pv 0) (pa_cons (pv 4) pa_nil))))))))
      (pss_one (ps_ret pe_non)) pss_nil)
    (pss_cons (ps_if (pt_not (pt_val (pe_go G_law_held (hr.mono (by decide)) (pa_cons (pv 0) (pa_cons (pv 8) (pa_cons (pv 9) (pa_cons (pv 12) (pa_cons (pv 3) pa_nil))))))))
      (pss_one (ps_ret pe_non)) pss_nil)
    (pss_one (ps_ret (pv 12))))))))))))))))))))), ?_⟩
    obtain ⟨dx, ob⟩ := XA.ob
    -- found
    refine ⟨_, rfl, _, rfl, s1, dx, _, rfl, ob, rfl, s1, A1, Z, rfl, XA, by omega, fun a H1 sa ha0 ha => ?_⟩
    refine ⟨_, rfl, by show 1 ≤ sizeLine; decide, fun b hb => ⟨a, b, _, _, rfl, rfl, by rw [upd_ne (ne_of_none ha hb)]; exact ha, upd_same, by simp only [SSp.allRoots, List.length_map, List.length_append, List.length_cons, List.length_nil, sizeLine_eq]; omega, fun c hc => ?_⟩⟩
    have s2 : Same H _ := sa.trans ((same_new (o := .lst [V.int kind]) hb).trans (same_new (o := .lst (Z.allRoots.map V.int ++ [V.int kind])) hc))
    obtain ⟨H2, e2⟩ : ∃ H2, H2 = upd (upd H1 b (.lst [V.int kind])) c (.lst (Z.allRoots.map V.int ++ [V.int kind])) := ⟨_, rfl⟩
    rw [← e2] at s2 ⊢
    have X2 := XA.same s2
    refine ⟨s1, A1, Z, c, Z.allRoots ++ [kind], rfl, X2, W, by rw [e2, upd_same]; simp, by simp only [SSp.allRoots, List.length_append, List.length_cons, List.length_nil]; omega, fun d es H3 F Fd3 Nd s3 => ?_⟩
    have nown : ¬ A1.own s1 d ∧ ∀ e ∈ es, ¬ A1.own s1 e.2.1 ∧ ¬ A1.own s1 e.2.2 := ⟨X2.notOwn Nd.1, fun e he => ⟨X2.notOwn (Nd.2 e he).1, X2.notOwn (Nd.2 e he).2⟩⟩
    have X3 := X2.same s3
    obtain ⟨dx3, ob3⟩ := X3.ob
    have t3 : Same H H3 := s2.trans s3
    -- roots
    refine ⟨_, rfl, s1, dx3, _, rfl, ob3, rfl, s1, A1, Z, rfl, X3, by omega, fun ra H4 s4 hra0 hra => ?_⟩
    have X4 := X3.same s4
    obtain ⟨dx4, ob4⟩ := X4.ob
    have nra := X3.notOwn hra0
    -- counts
    refine ⟨_, rfl, s1, CP, _, _, _, rfl, ob4, TSpace.cl, TSpace.allocations, rfl, _, rfl, s1, CP, _, _, _, rfl, ob4, TSpace.cl, TSpace.collections, rfl, by show 2 ≤ sizeLine; decide, fun ct hct => ?_⟩
    obtain ⟨H5, e5⟩ : ∃ H5, H5 = upd H4 ct (.tup [V.int Z.allocs, V.int Z.colls]) := ⟨_, rfl⟩
    have s5 : Same H4 H5 := by rw [e5]; exact same_new hct
    have ct5 : H5 ct = some (.tup [V.int Z.allocs, V.int Z.colls]) := by rw [e5, upd_same]
    have nct := X4.notOwn hct
    refine (?_ : _)
    rw [← e5]
    have X5 := X4.same s5
    -- collections_here
    have Fd5 := (Fd3.same s4).same s5
    have elen : es.length ≤ 100000 := by
      have h1 := (found_total_le W F).2
      rw [List.length_map] at h1
      have h2 := objs_le Z.store.objs
      omega
    refine ⟨_, rfl, _, rfl, _, rfl, _, rfl, s1, A1, Z, d, es, lim, ms, size, rfl, X5, Fd5, F.nd, by omega, Lm.same (t3.trans (s4.trans s5)), fun H6 s6 => ?_⟩
    have X6 := X5.same s6
    obtain ⟨dx6, ob6⟩ := X6.ob
    obtain ⟨dy6, oy6⟩ := X6.sto.ob
    obtain ⟨os, eos⟩ : ∃ os, os = es.map fun e => e.1 := ⟨_, rfl⟩
    obtain ⟨cn, ecn⟩ : ∃ cn, cn = lawColl Z os size := ⟨_, rfl⟩
    rw [← eos, ← ecn]
    -- numbers, used
    refine ⟨_, rfl, s1, CP, _, _, _, rfl, ob6, TSpace.cl, TSpace.store, rfl, A1.st, dy6, _, rfl, oy6, rfl, A1.st, A1.w, A1.d, Z.store, rfl, X6.sto, fun ys na hp1 hp2 hna => ?_⟩
    obtain ⟨H7, e7⟩ : ∃ H7, H7 = upd H6 na (.lst (ys.map V.int)) := ⟨_, rfl⟩
    have s7 : Same H6 H7 := by rw [e7]; exact same_new hna
    have na7 : H7 na = some (.lst (ys.map V.int)) := by rw [e7, upd_same]
    have nna := X6.notOwn hna
    refine (?_ : _)
    rw [← e7]
    have X7 := X6.same s7
    obtain ⟨dx7, ob7⟩ := X7.ob
    obtain ⟨dy7, oy7⟩ := X7.sto.ob
    refine ⟨_, rfl, s1, CP, _, _, _, rfl, ob7, TSpace.cl, TSpace.store, rfl, A1.st, dy7, _, rfl, oy7, rfl, A1.st, A1.w, A1.d, Z.store, rfl, X7.sto, ?_⟩
    refine g_split (fun σ' H' => ∃ (nb : Addr) (ns : List Int) (u : Int) (n12 : Option V), σ' = [some (.ref s1), some (.ref lim), some (.int kind), some (.int size), some (.ref d), some (.ref ra), some (.ref ct), some (.int cn), some (.ref nb), some (.int u), none, none, n12] ∧ Same H7 H' ∧ H' nb = some (.lst (ns.map V.int)) ∧ ¬ A1.own s1 nb ∧
        ns.Perm (if cn > 0 then os.map Ob.num else Z.store.pl.map (·.1)) ∧ u = (if cn > 0 then total os else ((flat Z.store.objs).length : Int))) (fun nx hnx => ?_) ?_
    · refine ⟨_, rfl, _, _, rfl, rfl, _, rfl, ?_⟩
      have Fd7 := (Fd5.same s6).same s7
      by_cases hc : 0 < cn
      · rw [decide_eq_true hc]
        refine iteT ?_
        refine ⟨d, _, Fd7.dk, trivial, fun od => ?_⟩
        obtain ⟨L1, eL1⟩ : ∃ L1, L1 = upd H7 d (.frz od (.dK (kvF es))) := ⟨_, rfl⟩
        rw [← eL1]
        have fz : L1 d = some (.frz od (.dK (kvF es))) := by rw [eL1, upd_same]
        have back : ∀ b o, b ≠ d → H7 b = some o → L1 b = some o := fun b o n e => by rw [eL1, upd_ne n]; exact e
        refine ⟨_, rfl, d, od, rfl, .inl ⟨_, fz, fun D hD => lc_it (walk_keys (d := d) (o := od) (kvs := kvF es)) (fun i Hx => Same L1 Hx ∧ Hx D = some (.lst (((es.take i).map fun e => e.1.num).map V.int)))
          ⟨same_new hD, by rw [upd_same]; rfl⟩ (fun i Hx _ ⟨h, _⟩ => h _ _ fz) ?_ ?_⟩⟩
        · rintro i x Hx0 Hx hi ⟨sx, hDx⟩ ⟨rfl, k, v, hk, rfl⟩
          obtain ⟨e1, he, rfl⟩ : ∃ e1, es[i]? = some e1 ∧ k = Sum.inl e1.1.num := by
            rw [kvF, List.getElem?_map] at hk
            cases e : es[i]? with
            | none => rw [e] at hk; cases hk
            | some z => rw [e] at hk; exact ⟨z, rfl, (congrArg Prod.fst (Option.some.inj hk)).symm⟩
          have ht : es.take (i + 1) = es.take i ++ [e1] := by rw [List.take_add_one, he]; rfl
          refine ⟨rfl, ?_⟩
          unfold tYes
          refine iteT ?_
          refine ⟨_, rfl, _, hDx, ?_, fun b o e => ?_, ?_⟩
          · rw [List.length_map, List.length_map, sizeLine_eq]
            have := List.length_take_le' i es
            omega
          · rw [upd_ne (ne_of_none e hD)]
            exact sx b o e
          · rw [upd_same, ht, List.map_append, List.map_append]
            rfl
        · rintro Hx ⟨sx, hDx⟩
          rw [show (kvF es).length = es.length by simp [kvF], List.take_length] at hDx
          have nDd : D ≠ d := fun z => by rw [z, fz] at hD; cases hD
          have ul : Same H7 (upd Hx d (.dK (kvF es))) := fun b o e => by
            by_cases c : b = d
            · subst c
              rw [upd_same, ← e, Fd7.dk]
            · rw [upd_ne c]
              exact sx b o (back b o c e)
          have hD7 : H7 D = none := by rw [← hD, eL1, upd_ne nDd]
          refine ⟨sx _ _ fz, ?_⟩
          refine ⟨_, rfl, d, es, rfl, Fd7.same ul, F.nd, by omega, fun H9 s9 => ?_⟩
          rw [← eos]
          refine hnx _ _ ⟨D, es.map (fun e => e.1.num), _, _, rfl, ul.trans s9, s9 _ _ (by rw [upd_ne nDd]; exact hDx), X7.notOwn hD7, ?_, ?_⟩
          · rw [if_pos hc, eos, List.map_map]
            exact List.Perm.refl _
          · rw [if_pos hc]
      · rw [decide_eq_false hc]
        refine iteF ?_
        exact hnx _ _ ⟨na, ys, _, _, rfl, Same.refl _, na7, nna, by rw [if_neg hc]; exact hp1, by rw [if_neg hc]⟩
    · rintro σ' H8 ⟨nb, ns, u, n12, rfl, s8, hnb, nnb, hns, hu8⟩
      have u8 : Same H H8 := t3.trans (s4.trans (s5.trans (s6.trans (s7.trans s8))))
      have w8 : Same H5 H8 := s6.trans (s7.trans s8)
      have Fd8 := Fd5.same w8
      have nslen : ns.length ≤ 200000 := by
        rw [hns.length_eq]
        have p1 := pl_le W.toLay
        split
        · rw [List.length_map, eos, List.length_map]; omega
        · rw [List.length_map]; omega
      -- due
      refine a_split (fun σ' H' => ∃ D : Str, σ' = [some (.ref s1), some (.ref lim), some (.int kind), some (.int size), some (.ref d), some (.ref ra), some (.ref ct), some (.int cn), some (.ref nb), some (.int u), some (.str D), none, n12] ∧ Same H8 H' ∧ ∀ r Z', LawNew Z os kind size r Z' → dueS r = D) (fun nx hnx => ?_) ?_
      · refine ⟨_, rfl, d, es, rfl, Fd8, F.nd, by omega, fun H9 s9 => ?_⟩
        rw [← eos]
        have Lm9 := Lm.same (u8.trans s9)
        refine ⟨_, _, rfl, rfl, _, rfl, _, _, rfl, rfl, _, rfl, lim, _, _, _, rfl, rfl, SqT.of Lm9.tp, atI_nat (j := 0) rfl, _, _, rfl, rfl, _, rfl, ?_⟩
        by_cases h1 : Z.store.room < total os + 3 + size
        · rw [decide_eq_true h1]
          refine iteT ?_
          refine hnx _ _ ⟨"room", rfl, s9, fun r Z' L => ?_⟩
          cases r with
          | made m => exact absurd h1 (L.made m rfl).1
          | room n => rfl
          | num n => exact absurd h1 (L.num n rfl).1
        · rw [decide_eq_false h1]
          refine iteF ?_
          refine ⟨_, rfl, d, _, rfl, (Fd8.same s9).dk, _, rfl, lim, _, _, _, rfl, rfl, SqT.of Lm9.tp, atI_nat (j := 1) rfl, _, _, rfl, rfl, _, rfl, ?_⟩
          have elen2 : (((kvF es).length : Nat) : Int) = (os.length : Int) := by rw [eos]; simp [kvF]
          rw [elen2]
          by_cases h2 : Z.store.ents ≤ (os.length : Int)
          · rw [decide_eq_true h2]
            refine iteT ?_
            refine hnx _ _ ⟨"number", rfl, s9, fun r Z' L => ?_⟩
            cases r with
            | made m => exact absurd h2 (L.made m rfl).2.1
            | room n => exact absurd (L.room n rfl).1 h1
            | num n => rfl
          · rw [decide_eq_false h2]
            refine iteF ?_
            refine hnx _ _ ⟨"made", rfl, s9, fun r Z' L => ?_⟩
            cases r with
            | made m => rfl
            | room n => exact absurd (L.room n rfl).1 h1
            | num n => exact absurd (L.num n rfl).2.1 h2
      · rintro σ' H9 ⟨D, rfl, s9, hD⟩
        have u9 : Same H H9 := u8.trans s9
        have X9 := XA.same u9
        have Lm9 := Lm.same u9
        -- told
        refine ⟨_, rfl, _, rfl, _, rfl, s1, A1, Z, kind, size, rfl, X9, W, by omega, hs0, hs1, Tt.ext u9, fun r A' Z' H10 t hN X10 mv ht => ?_⟩
        have L := law_new W hs0 F hN
        rw [← eos] at L
        have hDr := hD r Z' L
        have Fd10 := (Fd8.same s9).mv mv nown.1 nown.2
        have ct10 := (mv.kp _ _ ((w8.trans s9) _ _ ct5) nct (fun _ z => nomatch z)).1
        have ra10 := (mv.kp _ _ ((s5.trans (w8.trans s9)) _ _ hra) nra (fun _ z => nomatch z)).1
        have nb10 := (mv.kp _ _ (s9 _ _ hnb) nnb (fun _ z => nomatch z)).1
        have Lm10 : Lims H10 lim ms Z.store.room Z.store.ents Z.pressure Z.always := ⟨(mv.kp _ _ Lm9.tp nlim (fun _ z => nomatch z)).1, (mv.kp _ _ Lm9.ls nms (fun _ z => nomatch z)).1⟩
        rcases r with m | n | n
        · have hDm : D = "made" := hDr.symm
          subst hDm
          obtain ⟨b1, b2, b3, b4, b5, b6⟩ := L.made m rfl
          refine ⟨_, rfl, t, _, _, _, rfl, rfl, SqT.of ht, atI_nat (j := 0) rfl, _, rfl, rfl, _, rfl, ?_⟩
          rw [ne_self]
          refine iteF ?_
          refine ⟨_, rfl, rfl, _, rfl, ?_⟩
          rw [str_mr]
          refine iteF ?_
          refine iteF ?_
          refine ⟨_, rfl, rfl, _, rfl, ?_⟩
          rw [str_mn]
          refine iteF ?_
          refine iteF ?_
          refine ⟨_, rfl, rfl, _, rfl, ?_⟩
          rw [decide_eq_true rfl]
          refine iteT ?_
          refine ⟨_, rfl, _, rfl, _, rfl, t, _, _, _, rfl, rfl, SqT.of ht, atI_nat (j := 1) rfl, _, rfl, _, rfl, s1, A', Z', d, es, m, kind, size, rfl, X10, L.whole.toLay, Fd10.1, b3, by rw [eos, List.map_map] at b5; exact b5, hs0, hs1, b6, fun H11 sk => ⟨_, rfl, ?_⟩⟩
          refine iteF ?_
          refine ⟨_, rfl, t, _, _, _, rfl, rfl, SqT.of (sk _ _ ht), atI_nat (j := 1) rfl, _, rfl, lim, _, _, _, rfl, rfl, SqT.of (Lm10.same sk).tp, atI_nat (j := 1) rfl, _, _, rfl, rfl, _, rfl, ?_⟩
          rw [decide_eq_false (show ¬ Z.store.ents ≤ m by omega)]
          refine iteF ?_
          -- number_here
          refine ⟨_, rfl, ?_⟩
          refine ⟨_, rfl, rfl, _, rfl, ?_⟩
          rw [decide_eq_true rfl]
          refine iteT ?_
          refine ⟨_, rfl, t, _, _, _, rfl, rfl, SqT.of (sk _ _ ht), atI_nat (j := 1) rfl, ?_⟩
          -- allocations and collections
          have Xk := X10.same sk
          obtain ⟨dxk, obk⟩ := Xk.ob
          refine ⟨_, rfl, s1, CP, _, _, _, rfl, obk, TSpace.cl, TSpace.allocations, rfl, _, rfl, ct, _, _, _, rfl, rfl, SqT.of (sk _ _ ct10), atI_nat (j := 0) rfl, _, _, rfl, rfl, _, _, rfl, ?_⟩
          rw [decide_eq_true L.allocs]
          refine ⟨_, rfl, ?_⟩
          refine iteF ?_
          refine ⟨_, rfl, s1, CP, _, _, _, rfl, obk, TSpace.cl, TSpace.collections, rfl, _, rfl, ct, _, _, _, rfl, rfl, SqT.of (sk _ _ ct10), atI_nat (j := 1) rfl, _, rfl, _, _, rfl, rfl, _, _, rfl, ?_⟩
          rw [decide_eq_true (show Z'.colls = Z.colls + cn by rw [ecn]; exact L.colls)]
          refine ⟨_, rfl, ?_⟩
          refine iteF ?_
          -- roots, what is kept
          refine ⟨_, rfl, s1, dxk, _, rfl, obk, rfl, s1, A', Z', rfl, Xk, by rw [L.roots, L.held]; omega, fun rb Hm sm h0 hrb => ?_⟩
          refine ⟨_, rfl, rb, ra, _, _, rfl, hrb, sm _ _ (sk _ _ ra10), by simp only [SSp.allRoots, List.length_cons, List.length_append]; omega, ?_⟩
          rw [decide_eq_true (show Z'.allRoots = Z.allRoots by unfold SSp.allRoots; rw [L.roots, L.held])]
          refine ⟨_, rfl, ?_⟩
          refine iteF ?_
          have Xm := Xk.same sm
          have km := sk.trans sm
          refine ⟨_, rfl, _, rfl, s1, A', Z', d, es, rfl, Xm, L.whole.toLay, Fd10.1.same km, F.nd, Fd10.2, fun e he => L.kept e.1 (by rw [eos]; exact List.mem_map.mpr ⟨e, he, rfl⟩), fun Hn sn => ⟨_, rfl, ?_⟩⟩
          refine iteF ?_
          -- what the store holds
          have Xn := Xm.same sn
          have kn := km.trans sn
          have keys : (Res.post (.made m) ns).Perm (Z'.store.pl.map (·.1)) := (Res.post_perm _ hns).trans (by rw [ecn]; exact L.keys)
          have used := L.used
          rw [← ecn, ← hu8] at used
          refine ⟨_, rfl, _, rfl, _, rfl, _, rfl, _, rfl, s1, A', Z', nb, ns, u, _, size, rfl, Xn, L.whole.toLay, kn _ _ nb10, nslen, ?_, ?_, fun Ho so => ⟨_, rfl, ?_⟩⟩
          · unfold dueOf
            rw [if_pos b3]
            exact keys
          · rw [if_pos b3]
            exact used
          refine iteF ?_
          exact ⟨_, rfl, q _ os A' Z' Ho hN L (Xn.same so) ((Mv.same u9).trans (mv.trans (Mv.same (kn.trans so))))⟩
        · have hDm : D = "room" := hDr.symm
          subst hDm
          obtain ⟨b1, b2⟩ := L.room n rfl
          have sk := Same.refl H10
          refine ⟨_, rfl, t, _, _, _, rfl, rfl, SqT.of ht, atI_nat (j := 0) rfl, _, rfl, rfl, _, rfl, ?_⟩
          rw [ne_self]
          refine iteF ?_
          refine ⟨_, rfl, rfl, _, rfl, ?_⟩
          rw [decide_eq_true rfl]
          refine iteT ?_
          refine ⟨_, rfl, t, _, _, _, rfl, rfl, SqT.of ht, atI_nat (j := 1) rfl, _, rfl, _, _, rfl, rfl, _, _, rfl, ?_⟩
          rw [decide_eq_true b2]
          refine ⟨_, rfl, ?_⟩
          refine iteF ?_
          refine ⟨_, rfl, rfl, _, rfl, ?_⟩
          rw [str_rn]
          refine iteF ?_
          refine iteF ?_
          refine ⟨_, rfl, rfl, _, rfl, ?_⟩
          rw [str_rm]
          refine iteF ?_
          refine iteF ?_
          refine ⟨_, rfl, ?_⟩
          refine ⟨_, rfl, rfl, _, rfl, ?_⟩
          rw [str_rm]
          refine iteF ?_
          -- allocations and collections
          have Xk := X10.same sk
          obtain ⟨dxk, obk⟩ := Xk.ob
          refine ⟨_, rfl, s1, CP, _, _, _, rfl, obk, TSpace.cl, TSpace.allocations, rfl, _, rfl, ct, _, _, _, rfl, rfl, SqT.of (sk _ _ ct10), atI_nat (j := 0) rfl, _, _, rfl, rfl, _, _, rfl, ?_⟩
          rw [decide_eq_true L.allocs]
          refine ⟨_, rfl, ?_⟩
          refine iteF ?_
          refine ⟨_, rfl, s1, CP, _, _, _, rfl, obk, TSpace.cl, TSpace.collections, rfl, _, rfl, ct, _, _, _, rfl, rfl, SqT.of (sk _ _ ct10), atI_nat (j := 1) rfl, _, rfl, _, _, rfl, rfl, _, _, rfl, ?_⟩
          rw [decide_eq_true (show Z'.colls = Z.colls + cn by rw [ecn]; exact L.colls)]
          refine ⟨_, rfl, ?_⟩
          refine iteF ?_
          -- roots, what is kept
          refine ⟨_, rfl, s1, dxk, _, rfl, obk, rfl, s1, A', Z', rfl, Xk, by rw [L.roots, L.held]; omega, fun rb Hm sm h0 hrb => ?_⟩
          refine ⟨_, rfl, rb, ra, _, _, rfl, hrb, sm _ _ (sk _ _ ra10), by simp only [SSp.allRoots, List.length_cons, List.length_append]; omega, ?_⟩
          rw [decide_eq_true (show Z'.allRoots = Z.allRoots by unfold SSp.allRoots; rw [L.roots, L.held])]
          refine ⟨_, rfl, ?_⟩
          refine iteF ?_
          have Xm := Xk.same sm
          have km := sk.trans sm
          refine ⟨_, rfl, _, rfl, s1, A', Z', d, es, rfl, Xm, L.whole.toLay, Fd10.1.same km, F.nd, Fd10.2, fun e he => L.kept e.1 (by rw [eos]; exact List.mem_map.mpr ⟨e, he, rfl⟩), fun Hn sn => ⟨_, rfl, ?_⟩⟩
          refine iteF ?_
          -- what the store holds
          have Xn := Xm.same sn
          have kn := km.trans sn
          have keys : (Res.post (.room n) ns).Perm (Z'.store.pl.map (·.1)) := (Res.post_perm _ hns).trans (by rw [ecn]; exact L.keys)
          have used := L.used
          rw [← ecn, ← hu8] at used
          refine ⟨_, rfl, _, rfl, _, rfl, _, rfl, _, rfl, s1, A', Z', nb, ns, u, _, size, rfl, Xn, L.whole.toLay, kn _ _ nb10, nslen, ?_, ?_, fun Ho so => ⟨_, rfl, ?_⟩⟩
          · exact keys
          · exact used
          refine iteF ?_
          exact ⟨_, rfl, q _ os A' Z' Ho hN L (Xn.same so) ((Mv.same u9).trans (mv.trans (Mv.same (kn.trans so))))⟩
        · have hDm : D = "number" := hDr.symm
          subst hDm
          obtain ⟨b1, b2, b3⟩ := L.num n rfl
          have sk := Same.refl H10
          refine ⟨_, rfl, t, _, _, _, rfl, rfl, SqT.of ht, atI_nat (j := 0) rfl, _, rfl, rfl, _, rfl, ?_⟩
          rw [ne_self]
          refine iteF ?_
          refine ⟨_, rfl, rfl, _, rfl, ?_⟩
          rw [str_nr]
          refine iteF ?_
          refine iteF ?_
          refine ⟨_, rfl, rfl, _, rfl, ?_⟩
          rw [decide_eq_true rfl]
          refine iteT ?_
          refine ⟨_, rfl, t, _, _, _, rfl, rfl, SqT.of ht, atI_nat (j := 1) rfl, _, rfl, lim, _, _, _, rfl, rfl, SqT.of Lm10.tp, atI_nat (j := 1) rfl, _, _, rfl, ?_⟩
          rw [decide_eq_true b3]
          refine ⟨_, rfl, ?_⟩
          refine iteF ?_
          refine ⟨_, rfl, rfl, _, rfl, ?_⟩
          rw [str_nm]
          refine iteF ?_
          refine iteF ?_
          refine ⟨_, rfl, ?_⟩
          refine ⟨_, rfl, rfl, _, rfl, ?_⟩
          rw [str_nm]
          refine iteF ?_
          -- allocations and collections
          have Xk := X10.same sk
          obtain ⟨dxk, obk⟩ := Xk.ob
          refine ⟨_, rfl, s1, CP, _, _, _, rfl, obk, TSpace.cl, TSpace.allocations, rfl, _, rfl, ct, _, _, _, rfl, rfl, SqT.of (sk _ _ ct10), atI_nat (j := 0) rfl, _, _, rfl, rfl, _, _, rfl, ?_⟩
          rw [decide_eq_true L.allocs]
          refine ⟨_, rfl, ?_⟩
          refine iteF ?_
          refine ⟨_, rfl, s1, CP, _, _, _, rfl, obk, TSpace.cl, TSpace.collections, rfl, _, rfl, ct, _, _, _, rfl, rfl, SqT.of (sk _ _ ct10), atI_nat (j := 1) rfl, _, rfl, _, _, rfl, rfl, _, _, rfl, ?_⟩
          rw [decide_eq_true (show Z'.colls = Z.colls + cn by rw [ecn]; exact L.colls)]
          refine ⟨_, rfl, ?_⟩
          refine iteF ?_
          -- roots, what is kept
          refine ⟨_, rfl, s1, dxk, _, rfl, obk, rfl, s1, A', Z', rfl, Xk, by rw [L.roots, L.held]; omega, fun rb Hm sm h0 hrb => ?_⟩
          refine ⟨_, rfl, rb, ra, _, _, rfl, hrb, sm _ _ (sk _ _ ra10), by simp only [SSp.allRoots, List.length_cons, List.length_append]; omega, ?_⟩
          rw [decide_eq_true (show Z'.allRoots = Z.allRoots by unfold SSp.allRoots; rw [L.roots, L.held])]
          refine ⟨_, rfl, ?_⟩
          refine iteF ?_
          have Xm := Xk.same sm
          have km := sk.trans sm
          refine ⟨_, rfl, _, rfl, s1, A', Z', d, es, rfl, Xm, L.whole.toLay, Fd10.1.same km, F.nd, Fd10.2, fun e he => L.kept e.1 (by rw [eos]; exact List.mem_map.mpr ⟨e, he, rfl⟩), fun Hn sn => ⟨_, rfl, ?_⟩⟩
          refine iteF ?_
          -- what the store holds
          have Xn := Xm.same sn
          have kn := km.trans sn
          have keys : (Res.post (.num n) ns).Perm (Z'.store.pl.map (·.1)) := (Res.post_perm _ hns).trans (by rw [ecn]; exact L.keys)
          have used := L.used
          rw [← ecn, ← hu8] at used
          refine ⟨_, rfl, _, rfl, _, rfl, _, rfl, _, rfl, s1, A', Z', nb, ns, u, _, size, rfl, Xn, L.whole.toLay, kn _ _ nb10, nslen, ?_, ?_, fun Ho so => ⟨_, rfl, ?_⟩⟩
          · exact keys
          · exact used
          refine iteF ?_
          exact ⟨_, rfl, q _ os A' Z' Ho hN L (Xn.same so) ((Mv.same u9).trans (mv.trans (Mv.same (kn.trans so))))⟩
end
end Sg

/-! SgP17: the law's deed. -/
namespace Sg
open PySem PySem.W PySem.Spec PyProof.Rows L2 L2H HotX
/-- a space between two deeds, and what the law holds besides -/
structure SG (T : List (Addr × Str)) (CP CS : Addr) (H : Hp) (s1 lim ms : Addr) (room ents : Int) (mo : List Int) (ev : Bool) (k : Nat) (A : PAd) (Z : SSp) : Prop where
  sp : SpaceAt CP CS H s1 A Z
  wh : Whole Z.store
  rt : Z.roots.length = 16
  hd : Z.held.length ≤ k
  rm : Z.store.room = room
  en : Z.store.ents = ents
  pr : Z.pressure = mo
  al : Z.always = ev
  small : room ≤ 1000
  lm : Lims H lim ms room ents mo ev
  nl : ¬ A.own s1 lim
  nm : ¬ A.own s1 ms
  tb : LamX.Tabs T H
theorem SG.same {T : List (Addr × Str)} {CP CS : Addr} {H H' : Hp} {s1 lim ms : Addr} {room ents : Int} {mo : List Int} {ev : Bool} {k : Nat} {A : PAd} {Z : SSp} (G : SG T CP CS H s1 lim ms room ents mo ev k A Z) (s : Same H H') : SG T CP CS H' s1 lim ms room ents mo ev k A Z :=
  { G with sp := G.sp.same s, lm := G.lm.same s, tb := G.tb.ext s }
theorem SG.flat {T : List (Addr × Str)} {CP CS : Addr} {H : Hp} {s1 lim ms : Addr} {room ents : Int} {mo : List Int} {ev : Bool} {k : Nat} {A : PAd} {Z : SSp} (G : SG T CP CS H s1 lim ms room ents mo ev k A Z) : (flat Z.store.objs).length ≤ 1000 := by
  have h1 := G.wh.fits
  have h2 := G.rm
  have h3 := G.small
  omega
theorem SG.to {T : List (Addr × Str)} {CP CS : Addr} {H H' : Hp} {s1 lim ms : Addr} {room ents : Int} {mo : List Int} {ev : Bool} {k k' : Nat} {A A' : PAd} {Z Z' : SSp} (G : SG T CP CS H s1 lim ms room ents mo ev k A Z) (m : Mv T (A.own s1) (A'.own s1) H H')
    (sp : SpaceAt CP CS H' s1 A' Z') (wh : Whole Z'.store) (rt : Z'.roots.length = 16) (hd : Z'.held.length ≤ k') (e1 : Z'.store.room = Z.store.room) (e2 : Z'.store.ents = Z.store.ents) (e3 : Z'.pressure = Z.pressure) (e4 : Z'.always = Z.always) : SG T CP CS H' s1 lim ms room ents mo ev k' A' Z' :=
  have a := m.kp _ _ G.lm.tp G.nl (fun _ z => nomatch z)
  have b := m.kp _ _ G.lm.ls G.nm (fun _ z => nomatch z)
  ⟨sp, wh, rt, hd, e1.trans G.rm, e2.trans G.en, e3.trans G.pr, e4.trans G.al, G.small, ⟨a.1, b.1⟩, a.2, b.2, m.tb G.tb⟩
theorem n_split {t u : TS} {D : Ends} {σ : L2.St} {H : Hp} {r : VK} {bk ct : L2.St → Hp → Prop} (Pm : L2.St → Hp → Prop) (h1 : ∀ nx, (∀ σ' H', Pm σ' H' → nx σ' H') → t { D with nx := nx } σ H) (h2 : ∀ σ' H', Pm σ' H' → u D σ' H') :
    tNext { nx := tSeq t u D, rt := r, bk := bk, ct := ct } σ H := h1 (u D) h2
theorem s_split {t u : TS} {D : Ends} {σ : L2.St} {H : Hp} (Pm : L2.St → Hp → Prop) (h1 : ∀ nx, (∀ σ' H', Pm σ' H' → nx σ' H') → t { D with nx := nx } σ H) (h2 : ∀ σ' H', Pm σ' H' → u D σ' H') : tSeq t u D σ H := h1 (u D) h2
theorem int_non (n : Int) : decide (V.int n = V.non) = false := by simp
theorem SG.more {T : List (Addr × Str)} {CP CS : Addr} {H : Hp} {s1 lim ms : Addr} {room ents : Int} {mo : List Int} {ev : Bool} {k k' : Nat} {A : PAd} {Z : SSp} (G : SG T CP CS H s1 lim ms room ents mo ev k A Z) (h : k ≤ k') : SG T CP CS H s1 lim ms room ents mo ev k' A Z := { G with hd := Nat.le_trans G.hd h }
theorem SG.lims {T : List (Addr × Str)} {CP CS : Addr} {H : Hp} {s1 lim ms : Addr} {room ents : Int} {mo : List Int} {ev : Bool} {k : Nat} {A : PAd} {Z : SSp} (G : SG T CP CS H s1 lim ms room ents mo ev k A Z) : Lims H lim ms Z.store.room Z.store.ents Z.pressure Z.always := by
  rw [G.rm, G.en, G.pr, G.al]
  exact G.lm
theorem reach_total {S : SSt} {ws : List Int} {os : List Ob} {es : List (Ob × Addr × Addr)} (W : Whole S) (nd : (os.map Ob.num).Nodup) (hm : ∀ n, n ∈ os.map Ob.num ↔ Reach S ws n) (ho : ∀ o ∈ os, S.ob o.num o) (F : Found S ws es) : total os = total (es.map fun e => e.1) := by
  refine total_perm ((List.perm_ext_iff_of_nodup (nodup_of_map nd) (nodup_of_map (by rw [List.map_map]; exact F.nd))).mpr fun o => ?_)
  constructor
  · intro h
    have h1 := (F.mem o.num).mpr ((hm _).mp (List.mem_map.mpr ⟨o, h, rfl⟩))
    obtain ⟨e, he, en⟩ := List.mem_map.mp h1
    have h2 := F.ob e he
    rw [en] at h2
    rw [← SSt.ob_uniq W.toLay h2 (ho o h)]
    exact List.mem_map.mpr ⟨e, he, rfl⟩
  · intro h
    obtain ⟨e, he, rfl⟩ := List.mem_map.mp h
    obtain ⟨o, h1, h2⟩ := List.mem_map.mp ((hm e.1.num).mpr ((F.mem _).mp (List.mem_map.mpr ⟨e, he, rfl⟩)))
    have h3 := ho o h1
    rw [h2] at h3
    rw [← SSt.ob_uniq W.toLay h3 (F.ob e he)]
    exact h1
section
variable {P : Program} {w : World} {K : Frag} {mg : Str → Option Value} {base : Heap}
def spDeed (T : List (Addr × Str)) (CP CS : Addr) : Sp := fun vs H Q _ => ∃ s1 lim ms room ents mo ev k A Z x, vs = [.ref s1, .ref lim, .int x] ∧ SG T CP CS H s1 lim ms room ents mo ev k A Z ∧ k ≤ 10000 ∧ BigOk x ∧
  ∀ A' Z' H', SG T CP CS H' s1 lim ms room ents mo ev (k + 1) A' Z' → Mv T (A.own s1) (A'.own s1) H H' → Q (.bl true) H'
theorem sc__law_deed : FnScope ["_law_space_here", "_law_limits", "_law_x", "_law_deed_here", "_law_rest", "_law_place_here", "_law_size", "_law_number_here", "_law_word_here", "_law_at"] ["_law_space_here", "_law_limits", "_law_x"] (defScope (top 37)) := ⟨rfl, rfl, rfl, by decide +kernel, rfl, by decide +kernel, by decide +kernel⟩
theorem ok__law_deed {f : Addr} {fd : FuncData} (F : Fun K "_law_deed" "_law_deed" (top 37) f fd) {CP CS : Addr} (TStore : TStoreC K CS) (TSpace : TSpaceC K CP) (T : TxC mg) {Pt : Addr} (M_Store_exists : MB P w K mg base 1 CS "exists" ["self", "number"] (spExists CS)) (M_Store_size : MB P w K mg base 1 CS "size" ["self", "number"] (spSize CS)) (M_Store_put : MB P w K mg base 1 CS "put" ["self", "number", "at", "word"] (spPut CS)) (M_Space_root : MB P w K mg base 1 CP "root" ["self", "k"] (spRoot CP CS)) (M_Space_set_root : MB P w K mg base 1 CP "set_root" ["self", "k", "word"] (spSetRoot CP CS)) (M_Space_hold : MB P w K mg base 1 CP "hold" ["self", "word"] (spHold CP CS)) (M_Space_drop : MB P w K mg base 1 CP "drop" ["self", "count"] (spDropP CP CS)) (M_Space_held : MB P w K mg base 1 CP "held" ["self"] (spHeld CP CS)) (M_Space_all_roots : MB P w K mg base 1 CP "all_roots" ["self"] (spAllRoots CP CS)) (M_Space_live_words : MO P w K mg base 4 CP "live_words" ["self"] (spLive CP CS)) (G_law_is : GO P w K mg base 1 "_law_is" ["_law_actual", "_law_due"] spIs) (G_law_place : GO P w K mg base 1 "_law_place" ["_law_x"] spPlace) (G_law_word : GO P w K mg base 2 "_law_word" ["_law_space_here", "_law_x"] (spWord CP CS)) (G_law_reached : GO P w K mg base 3 "_law_reached" ["_law_space_here", "_law_words"] (spLReached CP CS)) (G_law_total : GO P w K mg base 1 "_law_total" ["_law_found"] spTotal) (G_law_new : GO P w K mg base 9 "_law_new" ["_law_space_here", "_law_limits", "_law_kind", "_law_size"] (spNewL (Tb1 Pt) CP CS)) : FnOk P w K mg base CX0 10 f fd ["_law_space_here", "_law_limits", "_law_x"] (spDeed (Tb1 Pt) CP CS) := by
  refine F.ok sc__law_deed (fun vs H Q E h => ?_) (fun cdv A outer s H vs Q E hr h => ?_)
  · obtain ⟨s1, lim, ms, room, ents, mo, ev, k, A1, Z, x, rfl, _⟩ := h
    rfl
  · obtain ⟨s1, lim, ms, room, ents, mo, ev, k, A1, Z, x, rfl, SG0, hk, hx, q⟩ := h
    have hu := hu_of hr
    refine ⟨_, (pss_cons (ps_set (i := 3) sc__law_deed.nd rfl (Or.inl rfl) (pe_op op_mod (pe_callTy call_int1 (by rfl) T.int (by decide +kernel) (pa_cons (pv 2) pa_nil)) pe_int))
    (pss_cons (ps_set (i := 4) sc__law_deed.nd rfl (Or.inl rfl) (pe_op op_fdiv (pv 2) pe_int))
    (pss_cons (ps_set (i := 5) sc__law_deed.nd rfl (Or.inl rfl) (pe_go G_law_place (hr.mono (by decide)) (pa_cons (pe_op op_fdiv (pv 2) pe_int) pa_nil)))
    (pss_cons (ps_if (pt_cmpR op_lt (pv 3) pe_int (nomark _))
      (pss_cons (ps_set (i := 6) sc__law_deed.nd rfl (Or.inl rfl) (pe_op op_mod (pe_callTy call_int1 (by rfl) T.int (by decide +kernel) (pa_cons (pv 4) pa_nil)) pe_int))
      (pss_cons (ps_if (pt_cmpR op_eq (pe_op op_mod (pe_op op_fdiv (pv 4) pe_int) pe_int) pe_int (nomark _))
        (pss_one (ps_set (i := 6) sc__law_deed.nd rfl (Or.inl rfl) (pe_op op_mod (pe_op op_fdiv (pv 4) pe_int) pe_int))) pss_nil)
      (pss_cons (ps_set (i := 7) sc__law_deed.nd rfl (Or.inl rfl) (pe_go G_law_new (hr.mono (by decide)) (pa_cons (pv 0) (pa_cons (pv 1) (pa_cons (pe_go G_law_word (hr.mono (by decide)) (pa_cons (pv 0) (pa_cons (pe_op op_fdiv (pv 4) pe_int) pa_nil))) (pa_cons (pv 6) pa_nil))))))
      (pss_cons (ps_if (pt_cmpR op_isN (pv 7) pe_non (nomark _))
        (pss_one (ps_ret pe_bl)) pss_nil)
      (pss_cons (ps_if (PW.pt (pw_and (pt_cmpR op_ge (pv 7) pe_int (nomark _)) (pw_and1 (pt_cmpR op_eq (pv 3) pe_int (nomark _)))))
        (pss_cons (ps_set (i := 7) sc__law_deed.nd rfl (Or.inl rfl) (pe_go G_law_new (hr.mono (by decide)) (pa_cons (pv 0) (pa_cons (pv 1) (pa_cons (pe_op op_mul pe_int (pv 7)) (pa_cons (pe_op op_mod (pe_op op_fdiv (pv 4) pe_int) pe_int) pa_nil))))))
        (pss_one (ps_if (pt_cmpR op_isN (pv 7) pe_non (nomark _))
          (pss_one (ps_ret pe_bl)) pss_nil))) pss_nil)
      (pss_cons (ps_if (PW.pt (pw_and (pt_cmpR op_ge (pv 7) pe_int (nomark _)) (pw_and1 (pt_cmpR op_ne (pv 3) pe_int (nomark _)))))
        (pss_one (ps_expr (pe_mbb (pv 0) TSpace.cl M_Space_set_root ((roomH_of hr).mono (by decide)) (Or.inl rfl) (pa_cons (pv 5) (pa_cons (pe_op op_mul pe_int (pv 7)) pa_nil))))) pss_nil)
      (pss_one (ps_if (PW.pt (pw_and (pt_cmpR op_ge (pv 7) pe_int (nomark _)) (pw_and1 (pt_cmpR op_eq (pv 3) pe_int (nomark _)))))
        (pss_one (ps_expr (pe_mbb (pv 0) TSpace.cl M_Space_hold ((roomH_of hr).mono (by decide)) (Or.inl rfl) (pa_cons (pe_op op_mul pe_int (pv 7)) pa_nil)))) pss_nil)))))))) (pss_one (ps_if (pt_cmpR op_eq (pv 3) pe_int (nomark _))
        (pss_one (ps_expr (pe_mbb (pv 0) TSpace.cl M_Space_set_root ((roomH_of hr).mono (by decide)) (Or.inl rfl) (pa_cons (pv 5) (pa_cons (pe_go G_law_word (hr.mono (by decide)) (pa_cons (pv 0) (pa_cons (pv 4) pa_nil))) pa_nil))))) (pss_one (ps_if (pt_cmpR op_lt (pv 3) pe_int (nomark _))
          (pss_cons (ps_set (i := 8) sc__law_deed.nd rfl (Or.inl rfl) (pe_mbb (pv 0) TSpace.cl M_Space_root ((roomH_of hr).mono (by decide)) (Or.inl rfl) (pa_cons (pv 5) pa_nil)))
          (pss_one (ps_if (PW.pt (pw_and (pt_cmpR op_eq (pe_op op_mod (pe_callTy call_int1 (by rfl) T.int (by decide +kernel) (pa_cons (pv 8) pa_nil)) pe_int) pe_int (nomark _)) (pw_and (pt_val (pe_mbb (pe_fld (pv 0) rfl) TStore.cl M_Store_exists ((roomH_of hr).mono (by decide)) (Or.inl rfl) (pa_cons (pe_op op_fdiv (pv 8) pe_int) pa_nil))) (pw_and1 (pt_cmpR op_gt (pe_mbb (pe_fld (pv 0) rfl) TStore.cl M_Store_size ((roomH_of hr).mono (by decide)) (Or.inl rfl) (pa_cons (pe_op op_fdiv (pv 8) pe_int) pa_nil)) pe_int (nomark _))))))
            (pss_cons (ps_set (i := 9) sc__law_deed.nd rfl (Or.inl rfl) (pe_op op_modN (pe_op op_mod (pe_callTy call_int1 (by rfl) T.int (by decide +kernel) (pa_cons (pv 4) pa_nil)) pe_int) (pe_mbb (pe_fld (pv 0) rfl) TStore.cl M_Store_size ((roomH_of hr).mono (by decide)) (Or.inl rfl) (pa_cons (pe_op op_fdiv (pv 8) pe_int) pa_nil))))
            (pss_one (ps_expr (pe_mbb (pe_fld (pv 0) rfl) TStore.cl M_Store_put ((roomH_of hr).mono (by decide)) (Or.inl rfl) (pa_cons (pe_op op_fdiv (pv 8) pe_int) (pa_cons (pv 9) (pa_cons (pe_go G_law_word (hr.mono (by decide)) (pa_cons (pv 0) (pa_cons (pe_op op_fdiv (pv 4) pe_int) pa_nil))) pa_nil))))))) pss_nil))) (pss_one (ps_if (pt_cmpR op_gt (pe_mbb0 (pv 0) TSpace.cl M_Space_held ((roomH_of hr).mono (by decide)) (Or.inl rfl)) pe_int (nomark _))
            (pss_one (ps_expr (pe_mbb (pv 0) TSpace.cl M_Space_drop ((roomH_of hr).mono (by decide)) (Or.inl rfl) (pa_cons pe_int pa_nil)))) pss_nil)))))))
    (pss_one (ps_ret (pe_go G_law_is (hr.mono (by decide)) (pa_cons (pe_mo0 (pv 0) TSpace.cl M_Space_live_words (hr.mono (by decide))) (pa_cons (pe_go G_law_total (hr.mono (by decide)) (pa_cons (pe_go G_law_reached (hr.mono (by decide)) (pa_cons (pv 0) (pa_cons (pe_mbb0 (pv 0) TSpace.cl M_Space_all_roots ((roomH_of hr).mono (by decide)) (Or.inl rfl)) pa_nil))) pa_nil)) pa_nil))))))))), ?_⟩
    have fl := SG0.flat
    have h16 := SG0.rt
    have hhd := SG0.hd
    have XA := SG0.sp
    obtain ⟨dx, ob⟩ := XA.ob
    refine ⟨_, rfl, .inl ⟨_, rfl, _, _, rfl, rfl, by show (0 : Int) < 8; decide, ?_⟩⟩
    refine ⟨_, rfl, _, _, rfl, rfl, ⟨by decide, by decide⟩, ?_⟩
    refine ⟨_, rfl, _, _, rfl, rfl, ⟨by decide, by decide⟩, _, rfl, fun pc hpc => ?_⟩
    refine g_split (fun σ' H' => ∃ (A' : PAd) (Z' : SSp) (v6 v7 v8 v9 : Option V), σ' = [some (.ref s1), some (.ref lim), some (.int x), some (.int (x % 8)), some (.int (x / 256)), some (.int (pc : Nat)), v6, v7, v8, v9] ∧ SG (Tb1 Pt) CP CS H' s1 lim ms room ents mo ev (k + 1) A' Z' ∧ Mv (Tb1 Pt) (A1.own s1) (A'.own s1) H H') (fun nx hnx => ?_) ?_
    · have hpl : pc < Z.roots.length := by omega
      have hx2 : BigOk (x / 256) := hx.div 256
      have hnx1 : ∀ (A' : PAd) (Z' : SSp) (v6 v7 v8 v9 : Option V) (H' : Hp), SG (Tb1 Pt) CP CS H' s1 lim ms room ents mo ev (k + 1) A' Z' → Mv (Tb1 Pt) (A1.own s1) (A'.own s1) H H' → nx [some (.ref s1), some (.ref lim), some (.int x), some (.int (x % 8)), some (.int (x / 256)), some (.int (pc : Nat)), v6, v7, v8, v9] H' := fun A' Z' v6 v7 v8 v9 H' a b => hnx _ _ ⟨A', Z', v6, v7, v8, v9, rfl, a, b⟩
      refine ⟨_, rfl, _, _, rfl, rfl, _, rfl, ?_⟩
      refine ite2 (fun _ => ?_) (fun _ => ?_)
      · -- a new object
        refine ⟨_, rfl, .inl ⟨_, rfl, _, _, rfl, rfl, by show (0 : Int) < 5; decide, ?_⟩⟩
        refine g_split (fun σ' H' => ∃ sz : Int, 0 ≤ sz ∧ sz ≤ 100 ∧ σ' = [some (.ref s1), some (.ref lim), some (.int x), some (.int (x % 8)), some (.int (x / 256)), some (.int (pc : Nat)), some (.int sz), none, none, none] ∧ H = H') (fun nx2 hnx2 => ?_) ?_
        · have e0 : 0 ≤ x / 256 % 5 := Int.emod_nonneg _ (by decide)
          have e1 : x / 256 % 5 < 5 := Int.emod_lt_of_pos _ (by decide)
          have e2 : 0 ≤ x / 256 / 80 % 60 := Int.emod_nonneg _ (by decide)
          have e3 : x / 256 / 80 % 60 < 60 := Int.emod_lt_of_pos _ (by decide)
          refine ⟨_, rfl, _, _, rfl, rfl, ⟨by decide, by decide⟩, _, _, rfl, rfl, by show (0 : Int) < 16; decide, rfl, _, rfl, ?_⟩
          refine ite2 (fun _ => ?_) (fun _ => ?_)
          · exact ⟨_, rfl, _, _, rfl, rfl, ⟨by decide, by decide⟩, _, _, rfl, rfl, by show (0 : Int) < 60; decide, hnx2 _ _ ⟨x / 256 / 80 % 60, e2, by omega, rfl, rfl⟩⟩
          · exact hnx2 _ _ ⟨x / 256 % 5, e0, by omega, rfl, rfl⟩
        rintro σ' H' ⟨sz, sz0, sz1, rfl, rfl⟩
        refine ⟨_, rfl, _, rfl, _, rfl, _, rfl, _, _, rfl, rfl, ⟨by decide, by decide⟩, s1, A1, Z, _, rfl, XA, h16, hx2.div 80, fun v => ⟨_, rfl, s1, A1, Z, lim, ms, _, _, rfl, SG0.sp, SG0.wh, by have := SG0.flat; have := SG0.rt; have := SG0.hd; omega, by omega, by omega, SG0.tb, SG0.lims, SG0.nl, SG0.nm, fun r os A2 Z2 H2 hN L2' X2 mv2 => ?_⟩⟩
        have G2 := SG0.to (k' := k) mv2 X2 L2'.whole (by rw [L2'.roots]; exact SG0.rt) (by rw [L2'.held]; exact SG0.hd) L2'.sroom L2'.sents L2'.pressure L2'.always
        -- if number is None
        refine ⟨_, rfl, rfl, _, rfl, ?_⟩
        rw [int_non]
        refine iteF ?_
        refine n_split (fun σ' H' => ∃ (n : Int) (A' : PAd) (Z' : SSp), σ' = [some (.ref s1), some (.ref lim), some (.int x), some (.int (x % 8)), some (.int (x / 256)), some (.int (pc : Nat)), some (.int sz), some (.int n), none, none] ∧ SG (Tb1 Pt) CP CS H' s1 lim ms room ents mo ev k A' Z' ∧ Mv (Tb1 Pt) (A1.own s1) (A'.own s1) H H') (fun nx3 hnx3 => ?_) ?_
        · have stay := hnx3 _ _ ⟨numOf r, A2, Z2, rfl, G2, mv2⟩
          refine ⟨_, rfl, _, _, rfl, rfl, _, rfl, ?_⟩
          by_cases hn : 0 ≤ numOf r
          case neg =>
            rw [decide_eq_false hn]
            refine iteF ?_
            refine iteF ?_
            exact stay
          rw [decide_eq_true hn]
          refine iteT ?_
          refine ⟨_, rfl, rfl, _, rfl, ?_⟩
          refine ite2 (fun _ => ?_) (fun _ => stay)
          refine ⟨_, rfl, _, rfl, _, rfl, _, _, rfl, rfl, .inl ⟨by decide, by decide⟩, _, rfl, _, _, rfl, rfl, ⟨by decide, by decide⟩, _, _, rfl, rfl, by show (0 : Int) < 3; decide, s1, A2, Z2, lim, ms, _, _, rfl, G2.sp, G2.wh, by have := G2.flat; have := G2.rt; have := G2.hd; omega, by omega, by omega, G2.tb, G2.lims, G2.nl, G2.nm, fun r3 os3 A3 Z3 H3 hN3 L3 X3 mv3 => ?_⟩
          have G3 := G2.to (k' := k) mv3 X3 L3.whole (by rw [L3.roots]; exact G2.rt) (by rw [L3.held]; exact G2.hd) L3.sroom L3.sents L3.pressure L3.always
          refine ⟨_, rfl, rfl, _, rfl, ?_⟩
          rw [int_non]
          refine iteF ?_
          exact hnx3 _ _ ⟨numOf r3, A3, Z3, rfl, G3, mv2.trans mv3⟩
        rintro σ' H3 ⟨n, A3, Z3, rfl, G3, mv3⟩
        have hpl3 : pc < Z3.roots.length := by have := G3.rt; omega
        refine s_split (fun σ' H' => ∃ (n : Int) (A' : PAd) (Z' : SSp), σ' = [some (.ref s1), some (.ref lim), some (.int x), some (.int (x % 8)), some (.int (x / 256)), some (.int (pc : Nat)), some (.int sz), some (.int n), none, none] ∧ SG (Tb1 Pt) CP CS H' s1 lim ms room ents mo ev k A' Z' ∧ Mv (Tb1 Pt) (A1.own s1) (A'.own s1) H H') (fun nx4 hnx4 => ?_) ?_
        · have stay := hnx4 _ _ ⟨n, A3, Z3, rfl, G3, mv3⟩
          obtain ⟨dx3, ob3⟩ := G3.sp.ob
          refine ⟨_, rfl, _, _, rfl, rfl, _, rfl, ?_⟩
          by_cases hn : 0 ≤ n
          case neg =>
            rw [decide_eq_false hn]
            refine iteF ?_
            refine iteF ?_
            exact stay
          rw [decide_eq_true hn]
          refine iteT ?_
          refine ⟨_, rfl, rfl, _, rfl, ?_⟩
          refine ite2 (fun _ => ?_) (fun _ => stay)
          refine ⟨_, rfl, s1, dx3, _, rfl, ob3, rfl, _, rfl, _, rfl, _, _, rfl, rfl, .inl ⟨by decide, by decide⟩, s1, A3, Z3, pc, _, rfl, G3.sp, hpl3, fun H4 X4 mv4 => ?_⟩
          exact hnx4 _ _ ⟨n, A3, _, rfl, G3.to (mv4 _) X4 G3.wh (by show (Z3.roots.set pc _).length = 16; rw [List.length_set]; exact G3.rt) G3.hd rfl rfl rfl rfl, mv3.trans (mv4 _)⟩
        rintro σ' H4 ⟨n, A4, Z4, rfl, G4, mv4⟩
        have stay := hnx1 A4 Z4 (some (.int sz)) (some (.int n)) none none H4 (G4.more (Nat.le_succ k)) mv4
        obtain ⟨dx4, ob4⟩ := G4.sp.ob
        refine ⟨_, rfl, _, _, rfl, rfl, _, rfl, ?_⟩
        by_cases hn : 0 ≤ n
        case neg =>
          rw [decide_eq_false hn]
          refine iteF ?_
          refine iteF ?_
          exact stay
        rw [decide_eq_true hn]
        refine iteT ?_
        refine ⟨_, rfl, rfl, _, rfl, ?_⟩
        refine ite2 (fun _ => ?_) (fun _ => stay)
        have h4 := G4.hd
        refine ⟨_, rfl, s1, dx4, _, rfl, ob4, rfl, _, rfl, _, _, rfl, rfl, .inl ⟨by decide, by decide⟩, s1, A4, Z4, _, rfl, G4.sp, by omega, fun H5 X5 mv5 => ?_⟩
        exact hnx1 _ _ _ _ _ _ _ (G4.to (mv5 _) X5 G4.wh G4.rt (by show (Z4.held ++ [_]).length ≤ k + 1; rw [List.length_append]; simp only [List.length_cons, List.length_nil]; omega) rfl rfl rfl rfl) (mv4.trans (mv5 _))
      refine ⟨_, rfl, rfl, _, rfl, ?_⟩
      refine ite2 (fun _ => ?_) (fun _ => ?_)
      · -- a word into a root
        refine ⟨_, rfl, s1, dx, _, rfl, ob, rfl, _, rfl, _, rfl, _, rfl, s1, A1, Z, _, rfl, XA, h16, hx2, fun v => ⟨s1, A1, Z, pc, v, rfl, XA, hpl, fun H2 X2 mv2 => ?_⟩⟩
        exact hnx1 _ _ _ _ _ _ _ (SG0.to (mv2 _) X2 SG0.wh (by show (Z.roots.set pc v).length = 16; rw [List.length_set]; exact h16) (by show Z.held.length ≤ k + 1; omega) rfl rfl rfl rfl) (mv2 _)
      refine ⟨_, rfl, _, _, rfl, rfl, _, rfl, ?_⟩
      refine ite2 (fun _ => ?_) (fun _ => ?_)
      · -- a word into a slot
        obtain ⟨v, hv⟩ : ∃ v, Z.roots[pc]? = some v := ⟨_, List.getElem?_eq_getElem hpl⟩
        obtain ⟨dy, oy⟩ := XA.sto.ob
        have L := SG0.wh.toLay
        refine ⟨_, rfl, s1, dx, _, rfl, ob, rfl, _, rfl, s1, A1, Z, pc, v, rfl, XA, hv, ?_⟩
        have same0 := fun a b c d => hnx1 A1 Z a b c d H (SG0.more (Nat.le_succ k)) (Mv.refl _ _ _)
        refine ⟨_, rfl, .inl ⟨_, rfl, _, _, rfl, rfl, by show (0 : Int) < 2; decide, rfl, _, rfl, ?_⟩⟩
        refine ite2 (fun _ => ?_) (fun _ => ?_)
        case refine_2 =>
          refine iteF ?_
          exact same0 _ _ _ _
        refine ⟨_, rfl, s1, CP, _, _, _, rfl, ob, TSpace.cl, TSpace.store, rfl, A1.st, dy, _, rfl, oy, rfl, _, rfl, _, _, rfl, rfl, ⟨by decide, by decide⟩, A1.st, A1.w, A1.d, Z.store, _, rfl, XA.sto, _, rfl, ?_⟩
        by_cases hlv : Z.store.live (v / 2)
        case neg =>
          rw [decide_eq_false hlv]
          refine iteF ?_
          refine iteF ?_
          exact same0 _ _ _ _
        rw [decide_eq_true hlv]
        refine iteT ?_
        obtain ⟨o1, ho⟩ := L.live_ob hlv
        have size : ∀ {Q2 : VK}, Q2 (.int (o1.slots.length : Nat)) H → spSize CS [.ref A1.st, .int (v / 2)] H Q2 (fun _ _ _ => False) := fun {Q2} h => ⟨A1.st, A1.w, A1.d, Z.store, _, o1, rfl, XA.sto, L, ho, h⟩
        refine ⟨_, rfl, s1, CP, _, _, _, rfl, ob, TSpace.cl, TSpace.store, rfl, A1.st, dy, _, rfl, oy, rfl, _, rfl, _, _, rfl, rfl, ⟨by decide, by decide⟩, A1.st, A1.w, A1.d, Z.store, _, o1, rfl, XA.sto, L, ho, _, _, rfl, rfl, _, rfl, ?_⟩
        by_cases hz : 0 < (o1.slots.length : Int)
        case neg =>
          rw [decide_eq_false hz]
          refine iteF ?_
          exact same0 _ _ _ _
        rw [decide_eq_true hz]
        refine iteT ?_
        refine ⟨_, rfl, .inl ⟨_, rfl, _, _, rfl, rfl, by show (0 : Int) < 64; decide, _, rfl, s1, CP, _, _, _, rfl, ob, TSpace.cl, TSpace.store, rfl, A1.st, dy, _, rfl, oy, rfl, _, rfl, _, _, rfl, rfl, ⟨by decide, by decide⟩, A1.st, A1.w, A1.d, Z.store, _, o1, rfl, XA.sto, L, ho, _, _, rfl, rfl, by omega, ?_⟩⟩
        obtain ⟨at1, eat, hat⟩ : ∃ i : Nat, (x / 256 % 64).fmod (o1.slots.length : Nat) = (i : Int) ∧ i < o1.slots.length := by
          rw [Int.fmod_eq_emod_of_nonneg _ (by omega)]
          have e0 : 0 ≤ x / 256 % 64 % (o1.slots.length : Int) := Int.emod_nonneg _ (by omega)
          have e1 : x / 256 % 64 % (o1.slots.length : Int) < (o1.slots.length : Int) := Int.emod_lt_of_pos _ hz
          exact ⟨(x / 256 % 64 % (o1.slots.length : Int)).toNat, by omega, by omega⟩
        refine ⟨_, rfl, s1, CP, _, _, _, rfl, ob, TSpace.cl, TSpace.store, rfl, A1.st, dy, _, rfl, oy, rfl, _, rfl, _, _, rfl, rfl, ⟨by decide, by decide⟩, _, rfl, _, rfl, _, rfl, _, _, rfl, rfl, ⟨by decide, by decide⟩, s1, A1, Z, _, rfl, XA, h16, hx2.div 64, fun u => ⟨A1.st, A1.w, A1.d, Z.store, v / 2, o1, at1, u, ?_, XA.sto, L, ho, hat, fun H2 SA2 mv2 => ?_⟩⟩
        · show ([V.ref A1.st, V.int (v / 2), V.int ((x / 256 % 64).fmod (o1.slots.length : Nat)), V.int u] : List V) = _
          rw [eat]
        · obtain ⟨X2, m2⟩ := XA.store_to SA2 (mv2 (Tb1 Pt))
          exact hnx1 _ _ _ _ _ _ _ (SG0.to m2 X2 (SG0.wh.wrote _ _ _) h16 (by show Z.held.length ≤ k + 1; omega) rfl rfl rfl rfl) m2
      · -- the last held word
        refine ⟨_, rfl, s1, dx, _, rfl, ob, rfl, s1, A1, Z, rfl, XA, _, _, rfl, rfl, _, rfl, ?_⟩
        by_cases hz : 0 < ((Z.held.length : Nat) : Int)
        · rw [decide_eq_true hz]
          refine iteT ?_
          refine ⟨_, rfl, s1, dx, _, rfl, ob, rfl, s1, A1, Z, 1, rfl, XA, by omega, fun H2 X2 mv2 => ?_⟩
          exact hnx1 _ _ _ _ _ _ _ (SG0.to (mv2 _) X2 SG0.wh h16 (by show (Z.held.take _).length ≤ k + 1; rw [List.length_take]; omega) rfl rfl rfl rfl) (mv2 _)
        · rw [decide_eq_false hz]
          refine iteF ?_
          exact hnx1 A1 Z _ _ _ _ H (SG0.more (Nat.le_succ k)) (Mv.refl _ _ _)
    · rintro σ' H1 ⟨A', Z', v6, v7, v8, v9, rfl, G1, mv⟩
      have f1 := G1.flat
      have r1 := G1.rt
      have d1 := G1.hd
      have X1 := G1.sp
      obtain ⟨dx1, ob1⟩ := X1.ob
      refine ⟨_, rfl, s1, dx1, _, rfl, ob1, rfl, s1, A', Z', rfl, X1, G1.wh, by omega, fun os H2 nd hm ho s2 => ?_⟩
      have X2 := X1.same s2
      obtain ⟨dx2, ob2⟩ := X2.ob
      refine ⟨_, rfl, _, rfl, s1, dx2, _, rfl, ob2, rfl, s1, A', Z', rfl, X2, by omega, fun a H3 s3 ha0 ha => ?_⟩
      have X3 := X2.same s3
      refine ⟨s1, A', Z', a, Z'.allRoots, rfl, X3, G1.wh, ha, by simp only [SSp.allRoots, List.length_cons, List.length_append]; omega, fun d es H4 F Fd Nd s4 => ?_⟩
      have elen : es.length ≤ 200000 := by
        have h1 := (found_total_le G1.wh F).2
        rw [List.length_map] at h1
        have h2 := objs_le Z'.store.objs
        omega
      refine ⟨d, es, rfl, Fd, F.nd, elen, fun H5 s5 => ⟨_, _, rfl, ?_⟩⟩
      rw [decide_eq_true (reach_total G1.wh nd hm ho F)]
      have sA := s2.trans (s3.trans (s4.trans s5))
      exact q A' Z' H5 (G1.same sA) (mv.trans (Mv.same sA))
end
end Sg

/-! SgP18: the law's space. -/
namespace Sg
open PySem PySem.W PySem.Spec PyProof.Rows L2 L2H HotX
/-- the method press, called with always = .. -/
structure MN (P : Program) (w : World) (K : Frag) (mg : Str → Option Value) (base : Heap) (k : Nat) (C : Addr) (sp : Sp) : Prop where
  ex : ∃ f fd, FnOk P w K mg base CX0 k f fd ["self", "moments", "always"] sp ∧ Meth K C "press" f ∧ KBn K fd ["self", "moments", "always"] 2 ["always"] (fun us ws => us ++ ws) (fun vs zs => vs ++ zs)
theorem press_binds {K : Frag} {f : Addr} {fd : FuncData} {qual : Str} (F : Fun K "press" qual (inClass (top 21) 1) f fd) : KBn K fd ["self", "moments", "always"] 2 ["always"] (fun us ws => us ++ ws) (fun vs zs => vs ++ zs) := by
  obtain ⟨oc, od, kV, doc, pm, an, cdv, ct, osl, rfl, lk, hcd⟩ := F.ex
  refine ⟨fun s us ws _ h1 h2 => BindsTo.of_eq ?_, fun r1 r2 => r1.append r2⟩
  match us, ws, h1, h2 with
  | [a, b], [c], _, _ => rfl
theorem pe_mn {X : Cx} {k : Nat} {C : Addr} {sp : Sp} {e o : Expr} {to : TE} {t tk : TA} {kws : List Keyword} {apos pos : Pos} {pl : Sem Bool} (ho : PE X o to) (c : Cls X.K C) (M : MN X.prog X.w X.K X.mg X.base k C sp) (hr : Room k X.A)
    (ha : PA X [e] t) (hkw : PK X kws tk) (hall : (backToKw pos (keywordEach kws X.env)).all (·.1.isSome) = true := by rfl) (hks : (backToKw pos (keywordEach kws X.env)).filterMap (·.1) = (["always"] : List Str) := by rfl)
    (he : starEach [e] X.env = (false, eval e X.env) :: starEach [] X.env := by rfl)
    (hpl : ((backTo pos (starEach [e] X.env)).any (·.1) || (backToKw pos (keywordEach kws X.env)).any (·.1.isNone)) = false := by rfl)
    (ht : eval (.Call (.Attribute o "press" apos) [e] kws pos) X.env = (do
      let w ← eval o X.env
      standAt apos.atName
      let (f, first) ← holding [w] (getMethod w "press" pl)
      callWith pos f first (backTo pos (starEach [e] X.env)) (backToKw pos (keywordEach kws X.env))) := by rfl) :
    PE X (.Call (.Attribute o "press" apos) [e] kws pos) (tMethN C "press" 2 1 sp (fun vs zs => vs ++ zs) EN to t tk) := by
  obtain ⟨f, fd, F, hm, hb⟩ := M.ex
  exact pe_methN ho c hm F hr hb (fun _ _ _ _ _ _ _ h => h.elim) ha hkw hall hks he hpl ht
theorem SpaceAt.other {CP CS : Addr} {H : Hp} {s : Addr} {A : PAd} {Z : SSp} (X : SpaceAt CP CS H s A Z) {a : Addr} {o : HO} (n : ¬ A.own s a) : SpaceAt CP CS (upd H a o) s A Z := by
  obtain ⟨⟨dx, o0⟩, ⟨⟨dy, o1⟩, o2, o3⟩, o4, o5, o6, n1, n2⟩ := X
  have q0 : s ≠ a := fun z => n (.inl z.symm)
  have q1 : A.pr ≠ a := fun z => n (.inr (.inl z.symm))
  have q2 : A.rt ≠ a := fun z => n (.inr (.inr (.inl z.symm)))
  have q3 : A.hl ≠ a := fun z => n (.inr (.inr (.inr (.inl z.symm))))
  have q4 : A.st ≠ a := fun z => n (.inr (.inr (.inr (.inr (.inl z.symm)))))
  have q5 : A.w ≠ a := fun z => n (.inr (.inr (.inr (.inr (.inr (.inl z.symm))))))
  have q6 : A.d ≠ a := fun z => n (.inr (.inr (.inr (.inr (.inr (.inr z.symm))))))
  exact ⟨⟨dx, by rw [upd_ne q0]; exact o0⟩, ⟨⟨dy, by rw [upd_ne q4]; exact o1⟩, by rw [upd_ne q5]; exact o2, by rw [upd_ne q6]; exact o3⟩, by rw [upd_ne q1]; exact o4, by rw [upd_ne q2]; exact o5, by rw [upd_ne q3]; exact o6, n1, n2⟩
def newZ (room ents : Int) (mo : List Int) (ev : Bool) : SSp := { newP room ents with pressure := mo, always := ev }
section
variable {P : Program} {w : World} {K : Frag} {mg : Str → Option Value} {base : Heap}
def spSpace (T : List (Addr × Str)) (CP CS : Addr) : Sp := fun vs H Q _ => ∃ (c : Addr) (ns : List Int), vs = [.ref c] ∧ H c = some (.lst (ns.map V.int)) ∧ 2 ≤ ns.length ∧ ns.length ≤ 100 ∧ (∀ n ∈ ns, BigOk n) ∧ LamX.Tabs T H ∧
  ∀ (s1 lim ms t : Addr) (room ents : Int) (mo : List Int) (ev : Bool) (A : PAd) (H' : Hp), SG T CP CS H' s1 lim ms room ents mo ev 0 A (newZ room ents mo ev) → 3 ≤ room → 1 ≤ ents → mo.length ≤ 64 → H' t = some (.tup [.ref s1, .ref lim]) → LamX.ExtN H H' → (∀ b, A.own s1 b → H b = none) → ¬ A.own s1 t → Q (.ref t) H'
theorem sc__law_space : FnScope ["_law_cells", "_law_x", "_law_room", "_law_entries", "_law_space_here", "_law_y", "_law_every", "_law_moments", "_law_k", "_law_passed"] ["_law_cells"] (defScope (top 38)) := ⟨rfl, rfl, rfl, by decide +kernel, rfl, by decide +kernel, by decide +kernel⟩
theorem ok__law_space {f : Addr} {fd : FuncData} (F : Fun K "_law_space" "_law_space" (top 38) f fd) {CP CS : Addr} (TStore : TStoreC K CS) (TSpace : TSpaceC K CP) (T : TxC mg) {Pt : Addr} (G_law_number : GO P w K mg base 1 "_law_number" ["_law_cell", "_law_k"] spNumber) (K_Space : MKB P w K mg base 3 "Space" CP ["self", "room", "entries"] (spInitP CP CS)) (M_Space_press : MN P w K mg base 1 CP (spPress CP CS)) : FnOk P w K mg base CX0 5 f fd ["_law_cells"] (spSpace (Tb1 Pt) CP CS) := by
  refine F.ok sc__law_space (fun vs H Q E h => ?_) (fun cdv A outer s H vs Q E hr h => ?_)
  · obtain ⟨c, ns, rfl, _⟩ := h
    rfl
  · obtain ⟨c, ns, rfl, hc, hl2, hl1, hbig, Tt, q⟩ := h
    have hu := hu_of hr
    refine ⟨_, (pss_cons (ps_set (i := 1) sc__law_space.nd rfl (Or.inl rfl) (pe_go G_law_number (hr.mono (by decide)) (pa_cons (pe_ix ix_list (pv 0) pe_int (fun _ _ => rfl)) (pa_cons pe_int pa_nil))))
    (pss_cons (ps_set (i := 2) sc__law_space.nd rfl (Or.inl rfl) (pe_op op_add pe_int (pe_op op_mod (pe_callTy call_int1 (by rfl) T.int (by decide +kernel) (pa_cons (pv 1) pa_nil)) pe_int)))
    (pss_cons (ps_if (pt_cmpR op_eq (pe_op op_mod (pe_op op_fdiv (pv 1) pe_int) pe_int) pe_int (nomark _))
      (pss_one (ps_set (i := 2) sc__law_space.nd rfl (Or.inl rfl) (pe_op op_add pe_int (pe_op op_mod (pe_op op_fdiv (pv 1) pe_int) pe_int)))) pss_nil)
    (pss_cons (ps_set (i := 3) sc__law_space.nd rfl (Or.inl rfl) pe_int)
    (pss_cons (ps_if (pt_cmpR op_eq (pe_op op_mod (pe_op op_fdiv (pv 1) pe_int) pe_int) pe_int (nomark _))
      (pss_one (ps_set (i := 3) sc__law_space.nd rfl (Or.inl rfl) (pe_op op_add pe_int (pe_op op_mod (pe_op op_fdiv (pv 1) pe_int) pe_int)))) pss_nil)
    (pss_cons (ps_set (i := 4) sc__law_space.nd rfl (Or.inl rfl) (pe_mkb K_Space (hr.mono (by decide)) (pa_cons (pv 2) (pa_cons (pv 3) pa_nil))))
    (pss_cons (ps_set (i := 5) sc__law_space.nd rfl (Or.inl rfl) (pe_go G_law_number (hr.mono (by decide)) (pa_cons (pe_ix ix_list (pv 0) pe_int (fun _ _ => rfl)) (pa_cons pe_int pa_nil))))
    (pss_cons (ps_set (i := 6) sc__law_space.nd rfl (Or.inl rfl) (pe_cmpR op_eq (pe_op op_mod (pe_callTy call_int1 (by rfl) T.int (by decide +kernel) (pa_cons (pv 5) pa_nil)) pe_int) pe_int (nomark _)))
    (pss_cons (ps_set (i := 5) sc__law_space.nd rfl (Or.inl rfl) (pe_op op_fdiv (pv 5) pe_int))
    (pss_cons (ps_set (i := 7) sc__law_space.nd rfl (Or.inl rfl) (pe_lst pa_nil))
    (pss_cons (ps_for PassesOwn.never rfl (pi_range1 (by rfl) T.range (pa_cons pe_int pa_nil)) (pg_name (i := 8) sc__law_space.nd rfl (Or.inl rfl))
      (pss_cons (ps_if (pt_cmpR op_eq (pe_op op_mod (pe_callTy call_int1 (by rfl) T.int (by decide +kernel) (pa_cons (pv 5) pa_nil)) pe_int) pe_int (nomark _))
        (pss_one (ps_expr (pe_bm PySem.F.plainAttrs_list PySem.F.slot_list_append PySem.F.type_list_append mt_append (pv 7) (pa_cons (pe_op op_add (pv 8) pe_int) pa_nil)))) pss_nil)
      (pss_one (ps_set (i := 5) sc__law_space.nd rfl (Or.inl rfl) (pe_op op_fdiv (pv 5) pe_int)))))
    (pss_cons (ps_set (i := 9) sc__law_space.nd rfl (Or.inl rfl) (pe_callTy call_list_of (by rfl) T.list (by decide +kernel) (pa_cons (pv 7) pa_nil)))
    (pss_cons (ps_expr (pe_mn (pv 4) TSpace.cl M_Space_press (hr.mono (by decide)) (pa_cons (pv 9) pa_nil) (pk_cons (pv 6) pk_nil)))
    (pss_cons (ps_expr (pe_bm PySem.F.plainAttrs_list PySem.F.slot_list_append PySem.F.type_list_append mt_append (pv 9) (pa_cons (pe_callB call_len_seq (by rfl) T.len PySem.boot_len (pa_cons (pv 0) pa_nil)) pa_nil)))
    (pss_one (ps_ret (pe_tup (pa_cons (pv 4) (pa_cons (pe_tup (pa_cons (pv 2) (pa_cons (pv 3) (pa_cons (pv 7) (pa_cons (pv 6) pa_nil))))) pa_nil))))))))))))))))))), ?_⟩
    obtain ⟨c0, hc0⟩ : ∃ c0, ns[0]? = some c0 := ⟨_, List.getElem?_eq_getElem (by omega)⟩
    obtain ⟨c1, hc1⟩ : ∃ c1, ns[1]? = some c1 := ⟨_, List.getElem?_eq_getElem (by omega)⟩
    refine ⟨_, rfl, c, _, _, _, rfl, rfl, SqL.of hc, atI_nat (j := 0) (map_int hc0), c0, 0, rfl, hbig _ (List.mem_of_getElem? hc0), by decide, by decide, fun x hx => ?_⟩
    have e0 : 0 ≤ x % 60 := Int.emod_nonneg _ (by decide)
    have e1 : x % 60 < 60 := Int.emod_lt_of_pos _ (by decide)
    refine ⟨_, rfl, .inl ⟨_, rfl, _, _, rfl, rfl, by show (0 : Int) < 60; decide, _, _, rfl, rfl, ?_⟩⟩
    refine g_split (fun σ' H' => ∃ room : Int, 3 ≤ room ∧ room ≤ 1000 ∧ σ' = [some (.ref c), some (.int x), some (.int room), none, none, none, none, none, none, none] ∧ H = H') (fun nx hnx => ?_) ?_
    · refine ⟨_, rfl, _, _, rfl, rfl, ⟨by decide, by decide⟩, _, _, rfl, rfl, by show (0 : Int) < 4; decide, rfl, _, rfl, ?_⟩
      refine ite2 (fun _ => ?_) (fun _ => ?_)
      · have e2 : 0 ≤ x / 240 % 400 := Int.emod_nonneg _ (by decide)
        have e3 : x / 240 % 400 < 400 := Int.emod_lt_of_pos _ (by decide)
        exact ⟨_, rfl, _, _, rfl, rfl, ⟨by decide, by decide⟩, _, _, rfl, rfl, by show (0 : Int) < 400; decide, _, _, rfl, rfl, hnx _ _ ⟨90 + x / 240 % 400, by omega, by omega, rfl, rfl⟩⟩
      · exact hnx _ _ ⟨3 + x % 60, by omega, by omega, rfl, rfl⟩
    rintro σ' H' ⟨room, rm0, rm1, rfl, rfl⟩
    refine a_split (fun σ' H' => ∃ ents : Int, 1 ≤ ents ∧ ents ≤ 100000 ∧ σ' = [some (.ref c), some (.int x), some (.int room), some (.int ents), none, none, none, none, none, none] ∧ H = H') (fun nx hnx => ?_) ?_
    · refine ⟨_, rfl, _, _, rfl, rfl, ⟨by decide, by decide⟩, _, _, rfl, rfl, by show (0 : Int) < 2; decide, rfl, _, rfl, ?_⟩
      refine ite2 (fun _ => ?_) (fun _ => ?_)
      · have e2 : 0 ≤ x / 14 % 9 := Int.emod_nonneg _ (by decide)
        have e3 : x / 14 % 9 < 9 := Int.emod_lt_of_pos _ (by decide)
        exact ⟨_, rfl, _, _, rfl, rfl, ⟨by decide, by decide⟩, _, _, rfl, rfl, by show (0 : Int) < 9; decide, _, _, rfl, rfl, hnx _ _ ⟨1 + x / 14 % 9, by omega, by omega, rfl, rfl⟩⟩
      · exact hnx _ _ ⟨100000, by omega, by omega, rfl, rfl⟩
    rintro σ' H' ⟨ents, en0, en1, rfl, rfl⟩
    -- the space
    refine ⟨_, rfl, _, rfl, fun s1 dx nx ndx nex => ⟨s1, dx, room, ents, rfl, upd_same, fun A1 H1 XA fr kp => ⟨rfl, ?_⟩⟩⟩
    have S1 : Same H H1 := fun b o e => kp b o (by rw [upd_ne (ne_of_none e nx), upd_ne (ne_of_none e ndx)]; exact e) (ne_of_none e nx)
    have frH : ∀ b, A1.own s1 b → H b = none := fun b hb => by
      by_cases z : b = s1
      · rw [z]; exact nx
      · have h1 := fr b hb z
        have n2 : b ≠ dx := fun z2 => by rw [z2, upd_ne nex, upd_same] at h1; cases h1
        rw [upd_ne z, upd_ne n2] at h1
        exact h1
    -- y, every
    refine ⟨_, rfl, c, _, _, _, rfl, rfl, SqL.of (S1 _ _ hc), atI_nat (j := 1) (map_int hc1), c1, 1, rfl, hbig _ (List.mem_of_getElem? hc1), by decide, by decide, fun y hy => ?_⟩
    refine ⟨_, rfl, .inl ⟨_, rfl, _, _, rfl, rfl, by show (0 : Int) < 4; decide, rfl, ?_⟩⟩
    obtain ⟨ev, eev⟩ : ∃ ev, ev = decide (V.int (y % 4) = V.int 1) := ⟨_, rfl⟩
    refine ⟨_, rfl, _, _, rfl, rfl, ⟨by decide, by decide⟩, ?_⟩
    -- moments
    refine ⟨by show 0 ≤ sizeLine; decide, fun mm hmm => ?_⟩
    refine ⟨64, rfl, by decide, by decide, for_range (lo := 0) (n := 64) (fun i σ Hx => ∃ (yi : Int) (mo : List Int) (kk : Option V), σ = [some (.ref c), some (.int x), some (.int room), some (.int ents), some (.ref s1), some (.int yi), some (.bl (decide (V.int (y % 4) = V.int 1))), some (.ref mm), kk, none] ∧ Same H1 Hx ∧ Hx mm = some (.lst (mo.map V.int)) ∧ mo.length ≤ i ∧ (LamX.Tabs (Tb1 Pt) Hx))
      ⟨y / 4, [], _, rfl, same_new hmm, by rw [upd_same]; rfl, Nat.le_refl _, (Tt.ext S1).ext (same_new hmm)⟩ ?_ ?_⟩
    · rintro i σ Hx hi ⟨yi, mo, kk, rfl, sx, hmx, hl, Tx⟩
      have keepm : ∀ b o u, H1 b = some o → (upd Hx mm u) b = some o := fun b o u e => by rw [upd_ne (ne_of_none e hmm)]; exact sx b o e
      refine ⟨_, rfl, .inl ⟨_, rfl, _, _, rfl, rfl, by show (0 : Int) < 2; decide, rfl, _, rfl, ?_⟩⟩
      refine ite2 (fun _ => ?_) (fun _ => ?_)
      · refine ⟨_, rfl, .inl ⟨rfl, _, SqL.of hmx⟩, _, rfl, _, _, rfl, rfl, mm, _, _, rfl, rfl, hmx, by rw [List.length_map, sizeLine_eq]; omega, ?_⟩
        refine ⟨_, rfl, _, _, rfl, rfl, ⟨by decide, by decide⟩, yi / 2, mo ++ [0 + (i : Int) + 1], _, rfl, fun b o e => keepm b o _ e, by rw [upd_same, List.map_append]; rfl, by rw [List.length_append]; simp only [List.length_cons, List.length_nil]; omega, tabs_upd Tx fun u hu => by rw [hmx] at hu; cases hu; exact nt_lst⟩
      · exact ⟨_, rfl, _, _, rfl, rfl, ⟨by decide, by decide⟩, yi / 2, mo, _, rfl, sx, hmx, by omega, Tx⟩
    · rintro σ Hx ⟨yi, mo, kk, rfl, sx, hmx, hl, Tx⟩
      have Xx := XA.same sx
      -- passed = list(moments)
      refine ⟨_, rfl, mm, _, rfl, .inl (SqL.of hmx), fun pp hpp => ?_⟩
      have s4 := same_new (o := .lst (mo.map V.int)) hpp
      have X4 := Xx.same s4
      obtain ⟨d4, ob4⟩ := X4.ob
      have npp := Xx.notOwn hpp
      have nmm := XA.notOwn hmm
      have nc : ¬ A1.own s1 c := fun z => by have := frH _ z; rw [hc] at this; cases this
      have sH4 : Same H (upd Hx pp (.lst (mo.map V.int))) := S1.trans (sx.trans s4)
      refine ⟨_, rfl, s1, d4, _, rfl, ob4, rfl, _, rfl, _, rfl, rfl, rfl, s1, A1, _, pp, mo, _, rfl, X4, upd_same, fun pr H5 hpr X5 mv5 => ?_⟩
      have m5 := mv5 (Tb1 Pt)
      obtain ⟨pp5, npp5⟩ := m5.kp _ _ upd_same npp (fun _ z => nomatch z)
      obtain ⟨mm5, nmm5⟩ := m5.kp _ _ (s4 _ _ hmx) nmm (fun _ z => nomatch z)
      obtain ⟨c5, nc5⟩ := m5.kp _ _ (sH4 _ _ hc) nc (fun _ z => nomatch z)
      have T5 := m5.tb (Tx.ext s4)
      have nmp : mm ≠ pp := ne_of_none hmx hpp
      -- passed.append(len(cells))
      refine ⟨_, rfl, .inl ⟨rfl, _, SqL.of pp5⟩, _, rfl, c, _, rfl, .inl (SqL.of c5), pp, _, _, rfl, rfl, pp5, by rw [List.length_map, sizeLine_eq]; omega, ?_⟩
      have X6 := X5.other (o := .lst (mo.map V.int ++ [V.int ((ns.map V.int).length : Nat)])) npp5
      have T6 : LamX.Tabs (Tb1 Pt) (upd H5 pp (.lst (mo.map V.int ++ [V.int ((ns.map V.int).length : Nat)]))) := tabs_upd T5 fun u hu => by rw [pp5] at hu; cases hu; exact nt_lst
      refine ⟨_, rfl, _, rfl, _, rfl, _, rfl, _, rfl, by show 4 ≤ sizeLine; decide, fun lim hlim => ⟨by show 2 ≤ sizeLine; decide, fun t ht => ?_⟩⟩
      have X7 := X6.same (same_new (o := .tup [V.int room, V.int ents, V.ref mm, V.bl (decide (V.int (y % 4) = V.int 1))]) hlim)
      have X8 := X7.same (same_new (o := .tup [V.ref s1, V.ref lim]) ht)
      have s78 := (same_new (o := .tup [V.int room, V.int ents, V.ref mm, V.bl (decide (V.int (y % 4) = V.int 1))]) hlim).trans (same_new (o := .tup [V.ref s1, V.ref lim]) ht)
      refine q s1 lim mm t room ents mo (decide (V.int (y % 4) = V.int 1)) _ _ ⟨X8, ?_, rfl, Nat.le_refl 0, rfl, rfl, rfl, rfl, rm1, ⟨?_, s78 _ _ (by rw [upd_ne nmp]; exact mm5)⟩, X6.notOwn hlim, nmm5, T6.ext s78⟩ rm0 en0 hl upd_same (fun b o e n => ?_) (fun b hb => ?_) (X7.notOwn ht)
      · exact whole_new (by omega) (by omega) (by omega) (by omega)
      · rw [upd_ne (ne_of_none upd_same ht), upd_same]
      · have nb : ¬ A1.own s1 b := fun z => by have := frH _ z; rw [this] at e; cases e
        have e5 := (m5.kp _ _ (sH4 b o e) nb n).1
        have nbp : b ≠ pp := fun z => by rw [z] at e; rw [(S1.trans sx).free hpp] at e; cases e
        exact s78 _ _ (by rw [upd_ne nbp]; exact e5)
      · rcases hb with z | z | z | z | z
        · exact frH _ (.inl z)
        · rw [z]; exact sH4.free hpr
        · exact frH _ (.inr (.inr (.inl z)))
        · exact frH _ (.inr (.inr (.inr (.inl z))))
        · exact frH _ (.inr (.inr (.inr (.inr z))))
end
end Sg

/-! SgP19: the law. -/
namespace Sg
open PySem PySem.W PySem.Spec PyProof.Rows L2 L2H HotX
theorem alloc_zero {S S' : SSt} {r : Res} (W : Whole S) (he : S.objs = []) (hr : 3 ≤ S.room) (hn : 1 ≤ S.ents) (h : AllocR S 0 0 r S') : r = .made 0 := by
  have no : ∀ n, ¬ S.live n := fun n h => by
    have := W.toLay.keys h
    rw [he] at this
    cases this
  have nf : ¬ S.full 0 := by
    unfold SSt.full
    rw [he]
    show ¬ (((0 : Nat) : Int) + 3 + 0 > S.room)
    omega
  cases h with
  | @made m a b c =>
    by_cases h0 : m = 0
    · rw [h0]
    · exact absurd (b.lt 0 (Int.le_refl _) (by have := b.ge; omega)) (no 0)
  | room a => exact absurd a nf
  | num a b c => exact absurd (b.lt 0 (Int.le_refl _) (by omega)) (no 0)
theorem new_zero {Z Z' : SSp} {r : Res} (W : Whole Z.store) (he : Z.store.objs = []) (hr : 3 ≤ Z.store.room) (hn : 1 ≤ Z.store.ents) (h : NewR Z 0 0 r Z') : r = .made 0 := by
  cases h with
  | forced hf C1 hF =>
    rename_i S1
    have he1 : S1.objs = [] := by
      obtain ⟨ks, _, _, e⟩ := C1.ks
      rw [e, he]
      rfl
    have h1 : 3 ≤ S1.room := by rw [C1.room]; exact hr
    have h2 : 1 ≤ S1.ents := by rw [C1.ents]; exact hn
    cases hF with
    | at_once hA => exact alloc_zero C1.whole he1 h1 h2 hA
    | after hA0 hne _ _ => exact absurd (alloc_zero C1.whole he1 h1 h2 hA0) (hne 0)
  | free hf hF =>
    cases hF with
    | at_once hA => exact alloc_zero W he hr hn hA
    | after hA0 hne _ _ => exact absurd (alloc_zero W he hr hn hA0) (hne 0)
section
variable {P : Program} {w : World} {K : Frag} {mg : Str → Option Value} {base : Heap}
def spLaw (T : List (Addr × Str)) (K : Frag) : Sp := fun vs H Q _ => ∃ (a : Addr) (ns : List Int), vs = [.ref a] ∧ SqL K H a (ns.map V.int) ∧ ns.length ≤ 63 ∧ (∀ n ∈ ns, BigOk n) ∧ LamX.Tabs T H ∧ ∀ H', Q (.bl true) H'
theorem sc_law : FnScope ["_law_script", "_law_cells", "_law_made", "_law_space_here", "_law_fresh_here", "_law_k", "_law_x", "_law_cell"] ["_law_script"] (defScope (top 39)) := ⟨rfl, rfl, rfl, by decide +kernel, rfl, by decide +kernel, by decide +kernel⟩
theorem ok_law {f : Addr} {fd : FuncData} (F : Fun K "law" "law" (top 39) f fd) {CP CS : Addr} (TStore : TStoreC K CS) (TSpace : TSpaceC K CP) (T : TxC mg) {Pt : Addr} (M_Space_all_roots : MB P w K mg base 1 CP "all_roots" ["self"] (spAllRoots CP CS)) (G_law_is : GO P w K mg base 1 "_law_is" ["_law_actual", "_law_due"] spIs) (G_law_same : GO P w K mg base 2 "_law_same" ["_law_actual", "_law_due"] spSame) (G_law_deeds : GO P w K mg base 2 "_law_deeds" ["_law_cell", "_law_k"] spDeeds) (G_law_new : GO P w K mg base 9 "_law_new" ["_law_space_here", "_law_limits", "_law_kind", "_law_size"] (spNewL (Tb1 Pt) CP CS)) (G_law_deed : GO P w K mg base 10 "_law_deed" ["_law_space_here", "_law_limits", "_law_x"] (spDeed (Tb1 Pt) CP CS)) (G_law_space : GO P w K mg base 5 "_law_space" ["_law_cells"] (spSpace (Tb1 Pt) CP CS)) (K_Space : MKB P w K mg base 3 "Space" CP ["self", "room", "entries"] (spInitP CP CS)) : FnOk P w K mg base CX0 11 f fd ["_law_script"] (spLaw (Tb1 Pt) K) := by
  refine F.ok sc_law (fun vs H Q E h => ?_) (fun cdv A outer s H vs Q E hr h => ?_)
  · obtain ⟨a, ns, rfl, _⟩ := h
    rfl
  · obtain ⟨a, ns, rfl, hS, hlen, hbig, Tt, q⟩ := h
    have hu := hu_of hr
    refine ⟨_, (pss_cons (ps_setLc (i := 1) (own := [("_law_cell", 7)]) (g := gName 7) (tt := tYes) rfl sc_law.nd rfl rfl (sw_true rfl rfl rfl (by decide +kernel)) (pi_list (pv 0)) (blkOk_by (own := [("_law_cell", 7)]) (N := ["_law_script", "_law_cells", "_law_made", "_law_space_here", "_law_fresh_here", "_law_k", "_law_x", "_law_cell"]) (sc := defScope (top 39)) (by decide +kernel)) (fun _ _ _ _ _ => pg_name (i := 7) sc_law.nd rfl (Or.inl rfl)) (fun _ _ _ _ _ => pts_nil) (fun _ _ _ _ _ => (pe_callTy call_int1 (by rfl) T.int (by decide +kernel) (pa_cons (pv 7) pa_nil))))
    (pss_cons (ps_while PassesOwn.never (pt_cmpR op_lt (pe_callB call_len_seq (by rfl) T.len PySem.boot_len (pa_cons (pv 1) pa_nil)) pe_int (nomark _))
      (pss_one (ps_expr (pe_bm PySem.F.plainAttrs_list PySem.F.slot_list_append PySem.F.type_list_append mt_append (pv 1) (pa_cons pe_int pa_nil)))))
    (pss_cons (ps_set (i := 2) sc_law.nd rfl (Or.inl rfl) (pe_go G_law_space (hr.mono (by decide)) (pa_cons (pv 1) pa_nil)))
    (pss_cons (ps_set (i := 3) sc_law.nd rfl (Or.inl rfl) (pe_ix ix_tup (pv 2) pe_int (fun _ _ => rfl)))
    (pss_cons (ps_set (i := 4) sc_law.nd rfl (Or.inl rfl) (pe_mkb K_Space (hr.mono (by decide)) (pa_cons pe_int (pa_cons pe_int pa_nil))))
    (pss_cons (ps_if (PW.pt (pw_or (pt_not (pt_val (pe_go G_law_same (hr.mono (by decide)) (pa_cons (pe_fld (pv 4) rfl) (pa_cons (pe_lst pa_nil) pa_nil))))) (pw_or (pt_cmpR op_notBl (pe_fld (pv 4) rfl) pe_bl (nomark _)) (pw_or1 (pt_not (pt_val (pe_go G_law_same (hr.mono (by decide)) (pa_cons (pe_fld (pv 3) rfl) (pa_cons (pe_ix ix_tup (pe_ix ix_tup (pv 2) pe_int (fun _ _ => rfl)) pe_int (fun _ _ => rfl)) pa_nil)))))))))
      (pss_one (ps_ret pe_bl)) pss_nil)
    (pss_cons (ps_if (PW.pt (pw_or (pt_not (pt_val (pe_callB call_isi (by rfl) T.isinstance (by decide +kernel) (pa_cons (pe_fld (pv 3) rfl) (pa_cons (pe_bltn (v := .ty "bool") (by rfl) T.bool (by decide +kernel) rfl) pa_nil))))) (pw_or1 (pt_cmpR op_ne (pe_fld (pv 3) rfl) (pe_ix ix_tup (pe_ix ix_tup (pv 2) pe_int (fun _ _ => rfl)) pe_int (fun _ _ => rfl)) (nomark _)))))
      (pss_one (ps_ret pe_bl)) pss_nil)
    (pss_cons (ps_if (PW.pt (pw_or (pt_not (pt_val (pe_go G_law_is (hr.mono (by decide)) (pa_cons (pe_glob (v := .int 16) rfl T.ROOTS.choose_spec ⟨_, rfl⟩) (pa_cons pe_int pa_nil))))) (pw_or (pt_not (pt_val (pe_go G_law_same (hr.mono (by decide)) (pa_cons (pe_mbb0 (pv 3) TSpace.cl M_Space_all_roots ((roomH_of hr).mono (by decide)) (Or.inl rfl)) (pa_cons (pe_op op_rep (pe_lst (pa_cons pe_int pa_nil)) pe_int) pa_nil))))) (pw_or1 (pt_not (pt_val (pe_go G_law_is (hr.mono (by decide)) (pa_cons (pe_fld (pv 3) rfl) (pa_cons pe_int pa_nil)))))))))
      (pss_one (ps_ret pe_bl)) pss_nil)
    (pss_cons (ps_if (pt_not (pt_val (pe_go G_law_is (hr.mono (by decide)) (pa_cons (pe_go G_law_new (hr.mono (by decide)) (pa_cons (pv 3) (pa_cons (pe_ix ix_tup (pv 2) pe_int (fun _ _ => rfl)) (pa_cons pe_int (pa_cons pe_int pa_nil))))) (pa_cons pe_int pa_nil)))))
      (pss_one (ps_ret pe_bl)) pss_nil)
    (pss_cons (ps_for PassesOwn.never rfl (pi_range2 (by rfl) T.range (pa_cons pe_int (pa_cons (pe_callB call_len_seq (by rfl) T.len PySem.boot_len (pa_cons (pv 1) pa_nil)) pa_nil))) (pg_name (i := 5) sc_law.nd rfl (Or.inl rfl))
      (pss_one (ps_for PassesOwn.never rfl (pi_list (pe_go G_law_deeds (hr.mono (by decide)) (pa_cons (pe_ix ix_list (pv 1) (pv 5) (fun _ _ => rfl)) (pa_cons (pv 5) pa_nil)))) (pg_name (i := 6) sc_law.nd rfl (Or.inl rfl))
        (pss_one (ps_if (pt_not (pt_val (pe_go G_law_deed (hr.mono (by decide)) (pa_cons (pv 3) (pa_cons (pe_ix ix_tup (pv 2) pe_int (fun _ _ => rfl)) (pa_cons (pv 6) pa_nil))))))
          (pss_one (ps_ret pe_bl)) pss_nil)))))
    (pss_one (ps_ret pe_bl)))))))))))), ?_⟩
    -- cells
    refine ⟨_, rfl, a, rfl, ⟨_, hS⟩, fun D hD => lc_list (K := K) (a := a) (xs := ns.map V.int) (fun i Hx => Same H Hx ∧ Hx D = some (.lst ((ns.take i).map V.int)))
      ⟨same_new hD, by rw [upd_same]; rfl⟩ (fun i Hx _ ⟨s, _⟩ => s.seq hS) ?_ ?_⟩
    · rintro i x Hx hi ⟨sx, hDx⟩
      obtain ⟨v, hv, rfl⟩ : ∃ v, ns[i]? = some v ∧ x = V.int v := by
        rw [List.getElem?_map] at hi
        cases e : ns[i]? with
        | none => rw [e] at hi; cases hi
        | some z => rw [e] at hi; exact ⟨z, rfl, (Option.some.inj hi).symm⟩
      have ht : ns.take (i + 1) = ns.take i ++ [v] := by rw [List.take_add_one, hv]; rfl
      refine ⟨rfl, ?_⟩
      unfold tYes
      refine iteT ?_
      refine ⟨_, rfl, .inl ⟨_, rfl, _, hDx, ?_, fun b o e => ?_, ?_⟩⟩
      · rw [List.length_map, sizeLine_eq]
        have := List.length_take_le' i ns
        omega
      · rw [upd_ne (ne_of_none e hD)]
        exact sx b o e
      · rw [upd_same, ht, List.map_append]
        rfl
    rintro H1 ⟨sx1, hD1⟩
    rw [List.length_map, List.take_length] at hD1
    -- while len(cells) < 2
    refine g_while ?_
    refine while_m (fun m σ Hx => ∃ cs : List Int, σ = [some (.ref a), some (.ref D), none, none, none, none, none, none] ∧ Same H Hx ∧ Hx D = some (.lst (cs.map V.int)) ∧ (∀ n ∈ cs, BigOk n) ∧ cs.length ≤ 63 ∧ m = 2 - cs.length)
      ⟨_, ns, rfl, sx1, hD1, hbig, hlen, rfl⟩ ?_
    rintro m σ Hx ⟨cs, rfl, sx, hDx, hb, hl, rfl⟩
    refine ⟨_, rfl, D, _, rfl, .inl (SqL.of hDx), _, _, rfl, rfl, _, rfl, ?_⟩
    rw [List.length_map]
    by_cases hc : (cs.length : Int) < 2
    · rw [decide_eq_true hc]
      refine iteT ?_
      refine ⟨_, fun _ _ h => h, ?_⟩
      refine ⟨_, rfl, .inl ⟨rfl, _, SqL.of hDx⟩, D, _, _, rfl, rfl, hDx, by rw [List.length_map, sizeLine_eq]; omega, ?_⟩
      refine ⟨_, ?_, cs ++ [4], rfl, fun b o e => by rw [upd_ne (ne_of_none e hD)]; exact sx b o e, by rw [upd_same, List.map_append]; rfl, fun n hn => ?_, ?_, rfl⟩
      · simp only [List.length_append, List.length_cons, List.length_nil]; omega
      · rcases List.mem_append.mp hn with h | h
        · exact hb n h
        · rw [List.mem_singleton.mp h]; exact .small (by decide) (by decide)
      · simp only [List.length_append, List.length_cons, List.length_nil]; omega
    rw [decide_eq_false hc]
    refine iteF ?_
    -- made, space, fresh
    refine ⟨_, rfl, D, cs, rfl, hDx, by omega, by omega, hb, Tt.ext sx, fun s1 lim ms t room ents mo ev A1 H2 G rm0 en0 hmo ht ex fr nt => ?_⟩
    have D2 := ex _ _ hDx (fun _ z => nomatch z)
    have nD : ¬ A1.own s1 D := fun z => by have := fr _ z; rw [hDx] at this; cases this
    refine ⟨_, rfl, t, _, _, _, rfl, rfl, SqT.of ht, atI_nat (j := 0) rfl, ?_⟩
    refine fun x dx nx ndx nex => ⟨x, dx, 3, 1, rfl, upd_same, fun A2 H3 X2 fr2 kp2 => ⟨rfl, ?_⟩⟩
    have s3 : Same H2 H3 := fun b o e => kp2 b o (by rw [upd_ne (ne_of_none e nx), upd_ne (ne_of_none e ndx)]; exact e) (ne_of_none e nx)
    have G3 := G.same s3
    have t3 := s3 _ _ ht
    obtain ⟨d2, ob2⟩ := X2.ob
    -- fresh.pressure, fresh.always, space.pressure
    refine ⟨_, rfl, x, CP, _, _, _, rfl, ob2, TSpace.cl, TSpace.pressure, rfl, by show 0 ≤ sizeLine; decide, fun e1 he1 => ⟨A2.pr, e1, [], [], rfl, same_new he1 _ _ X2.prs, upd_same, by decide, _, rfl, ?_⟩⟩
    refine iteF ?_
    have s4 := same_new (o := .lst []) he1
    have G4 := G3.same s4
    have t4 := s4 _ _ t3
    obtain ⟨d4, ob4⟩ := G4.sp.ob
    have ob2' := s4 _ _ ob2
    refine ⟨_, rfl, x, CP, _, _, _, rfl, ob2', TSpace.cl, TSpace.always, rfl, _, _, rfl, rfl, _, rfl, ?_⟩
    refine iteF ?_
    refine ⟨_, rfl, s1, CP, _, _, _, rfl, ob4, TSpace.cl, TSpace.pressure, rfl, _, rfl, t, _, _, _, rfl, rfl, SqT.of t4, atI_nat (j := 1) rfl, lim, _, _, _, rfl, rfl, SqT.of G4.lm.tp, atI_nat (j := 2) rfl, A1.pr, ms, mo, mo, rfl, G4.sp.prs, G4.lm.ls, ?_, ?_⟩
    · omega
    rw [decide_eq_true rfl]
    refine ⟨_, rfl, ?_⟩
    refine iteF ?_
    -- space.always
    refine ⟨_, rfl, s1, CP, _, _, _, rfl, ob4, TSpace.cl, TSpace.always, rfl, _, _, _, _, true, rfl, .ty "bool", .base (.bl _), kit_ty (by decide +kernel), _, rfl, ?_⟩
    refine iteF ?_
    refine ⟨_, rfl, s1, CP, _, _, _, rfl, ob4, TSpace.cl, TSpace.always, rfl, _, rfl, t, _, _, _, rfl, rfl, SqT.of t4, atI_nat (j := 1) rfl, lim, _, _, _, rfl, rfl, SqT.of G4.lm.tp, atI_nat (j := 3) rfl, rfl, _, rfl, ?_⟩
    rw [show (!decide (V.bl (newZ room ents mo ev).always = V.bl ev)) = false from ne_self (V.bl ev)]
    refine iteF ?_
    -- ROOTS, all_roots, allocations
    refine ⟨16, 16, rfl, _, rfl, ?_⟩
    refine iteF ?_
    refine ⟨_, rfl, s1, d4, _, rfl, ob4, rfl, s1, A1, _, rfl, G4.sp, by show 16 + 0 ≤ 150000; decide, fun ra H5 s5 hra0 hra => ?_⟩
    refine ⟨by show 1 ≤ sizeLine; decide, fun b1 hb1 => ⟨b1, 17, _, rfl, rfl, upd_same, by decide, by decide, by decide, fun b2 hb2 => ?_⟩⟩
    have s6 := (same_new (o := .lst [V.int 0]) hb1).trans (same_new (o := .lst (List.replicate (17 : Int).toNat [V.int 0]).flatten) hb2)
    refine ⟨ra, b2, _, List.replicate 17 0, rfl, s6 _ _ hra, by rw [upd_same]; rfl, by decide, ?_⟩
    rw [decide_eq_true (show (newZ room ents mo ev).allRoots = List.replicate 17 0 from rfl)]
    refine ⟨_, rfl, ?_⟩
    refine iteF ?_
    have s7 := s5.trans s6
    have G7 := G4.same s7
    obtain ⟨d7, ob7⟩ := G7.sp.ob
    have t7 := s7 _ _ t4
    refine ⟨_, rfl, s1, CP, _, _, _, rfl, ob7, TSpace.cl, TSpace.allocations, rfl, _, _, rfl, ?_⟩
    refine ⟨_, rfl, ?_⟩
    refine iteF ?_
    -- the first object
    refine ⟨_, rfl, _, rfl, t, _, _, _, rfl, rfl, SqT.of t7, atI_nat (j := 1) rfl, s1, A1, _, lim, ms, 0, 0, rfl, G7.sp, G7.wh, by show 16 + 0 + 0 ≤ 15000; decide, by decide, by decide, G7.tb, G7.lims, G7.nl, G7.nm, fun r os A3 Z3 H8 hN L X8 mv => ?_⟩
    have hr0 : r = .made 0 := new_zero G7.wh rfl rm0 en0 hN
    subst hr0
    refine ⟨_, _, rfl, ?_⟩
    rw [decide_eq_true (show numOf (.made 0) = 0 from rfl)]
    refine ⟨_, rfl, ?_⟩
    refine iteF ?_
    have G8 : SG (Tb1 Pt) CP CS H8 s1 lim ms room ents mo ev 0 A3 Z3 := G7.to mv X8 L.whole (by rw [L.roots]; rfl) (by rw [L.held]; exact Nat.le_refl 0) L.sroom L.sents L.pressure L.always
    have D7 := s7 _ _ (s4 _ _ (s3 _ _ D2))
    obtain ⟨D8, nD8⟩ := mv.kp _ _ D7 nD (fun _ z => nomatch z)
    obtain ⟨t8, nt8⟩ := mv.kp _ _ t7 nt (fun _ z => nomatch z)
    -- for k in range(2, len(cells))
    refine ⟨_, rfl, D, _, rfl, .inl (SqL.of D8), ?_⟩
    rw [List.length_map]
    refine ⟨2, _, rfl, ⟨by decide, by decide, by omega, by omega⟩, for_range (lo := 2) (n := (((cs.length : Nat) : Int) - 2).toNat) (fun i σ Hy => ∃ (A' : PAd) (Z' : SSp) (v5 v6 : Option V), σ = [some (.ref a), some (.ref D), some (.ref t), some (.ref s1), some (.ref x), v5, v6, none] ∧ SG (Tb1 Pt) CP CS Hy s1 lim ms room ents mo ev (2 * i) A' Z' ∧
        Hy D = some (.lst (cs.map V.int)) ∧ ¬ A'.own s1 D ∧ Hy t = some (.tup [.ref s1, .ref lim]) ∧ ¬ A'.own s1 t)
      ⟨A3, Z3, _, _, rfl, G8, D8, nD8, t8, nt8⟩ ?_ ?_⟩
    · rintro i σ Hy hi ⟨A', Z', v5, v6, rfl, Gy, Dy, nDy, ty, nty⟩
      obtain ⟨c, hc⟩ : ∃ c, cs[2 + i]? = some c := ⟨_, List.getElem?_eq_getElem (by omega)⟩
      have ac : atI (cs.map V.int) (2 + (i : Int)) = some (V.int c) := by
        rw [show (2 + (i : Int)) = ((2 + i : Nat) : Int) by omega]
        exact atI_nat (map_int hc)
      -- for x in deeds(cells[k], k)
      refine ⟨_, rfl, _, rfl, D, _, _, _, rfl, rfl, SqL.of Dy, ac, _, rfl, c, 2 + (i : Int), rfl, hb c (List.mem_of_getElem? hc), by omega, by omega, fun xs dl hxl hxb hdl => ?_⟩
      have sy := same_new (o := .lst (xs.map V.int)) hdl
      have ndl := Gy.sp.notOwn hdl
      refine ⟨dl, rfl, ⟨_, SqL.of upd_same⟩, for_list (K := K) (a := dl) (xs := xs.map V.int) (fun j σ Hz => ∃ (A' : PAd) (Z' : SSp) (v6 : Option V), σ = [some (.ref a), some (.ref D), some (.ref t), some (.ref s1), some (.ref x), some (.int (2 + (i : Int))), v6, none] ∧ SG (Tb1 Pt) CP CS Hz s1 lim ms room ents mo ev (2 * i + j) A' Z' ∧
          Hz D = some (.lst (cs.map V.int)) ∧ ¬ A'.own s1 D ∧ Hz t = some (.tup [.ref s1, .ref lim]) ∧ ¬ A'.own s1 t ∧ Hz dl = some (.lst (xs.map V.int)) ∧ ¬ A'.own s1 dl)
        ⟨A', Z', _, rfl, Gy.same sy, sy _ _ Dy, nDy, sy _ _ ty, nty, upd_same, ndl⟩ (fun j σ Hz _ ⟨_, _, _, _, _, _, _, _, _, h, _⟩ => SqL.of h) ?_ ?_⟩
      · rintro j x1 σ Hz hj ⟨A4, Z4, v6, rfl, Gz, Dz, nDz, tz, ntz, dz, ndz⟩
        obtain ⟨v, hv, rfl⟩ : ∃ v, xs[j]? = some v ∧ x1 = V.int v := by
          rw [List.getElem?_map] at hj
          cases e : xs[j]? with
          | none => rw [e] at hj; cases hj
          | some z => rw [e] at hj; exact ⟨z, rfl, (Option.some.inj hj).symm⟩
        have hjl := (List.getElem?_eq_some_iff.mp hv).1
        refine ⟨_, rfl, _, rfl, t, _, _, _, rfl, rfl, SqT.of tz, atI_nat (j := 1) rfl, _, rfl, s1, lim, ms, room, ents, mo, ev, _, A4, Z4, v, rfl, Gz, by omega, hxb v (List.mem_of_getElem? hv), fun A5 Z5 H9 G9 mv9 => ⟨_, rfl, ?_⟩⟩
        refine iteF ?_
        obtain ⟨a1, a2⟩ := mv9.kp _ _ Dz nDz (fun _ z => nomatch z)
        obtain ⟨b1, b2⟩ := mv9.kp _ _ tz ntz (fun _ z => nomatch z)
        obtain ⟨c1, c2⟩ := mv9.kp _ _ dz ndz (fun _ z => nomatch z)
        exact ⟨A5, Z5, _, rfl, G9, a1, a2, b1, b2, c1, c2⟩
      · rintro σ Hz ⟨A4, Z4, v6, rfl, Gz, Dz, nDz, tz, ntz, dz, ndz⟩
        rw [List.length_map, hxl] at Gz
        exact ⟨A4, Z4, _, _, rfl, Gz, Dz, nDz, tz, ntz⟩
    · rintro σ Hy ⟨A', Z', v5, v6, rfl, Gy, Dy, nDy, ty, nty⟩
      exact q Hy
end
end Sg

/-! SgP20: what the top has written, put together. -/
namespace Sg
open PySem PySem.W PySem.Spec PyProof.Rows L2 L2H HotX
theorem big_bits {n : Int} (h : Builtin.Int.intBits n ≤ 1048576) : BigOk n := by
  unfold Builtin.Int.intBits at h
  refine ⟨1048577, by decide, ?_⟩
  by_cases z : n = 0
  · rw [z]; exact Nat.two_pow_pos _
  · have h1 : ¬ (n == 0) = true := by simp [z]
    rw [if_neg h1] at h
    exact (Nat.log2_lt (by omega)).mp (by omega)
/-- the facts that the two errors share -/
structure ErrF (K : Frag) (C : Addr) : Prop where
  sa : findIn K (.ref C) "__setattr__" = some (some (.builtin "object.__setattr__"))
  exC : subIn K (.ref C) (.type "BaseException") = some true
  tyC : typeIn K (.ref C) = some (.type "type")
  kC : keepIn K (.ref C) = true
  self : mroIn K C (.ref C) = some true
  sup : ks_superIn K C C "__init__" = some (some (.builtin "ValueError.__init__"))
  subV : subIn K (.ref C) (.type "ValueError") = some true
theorem all_mk {l : OpenLaw} {w : World} {K : Frag} {h : Heap} {mg : Str → Option Value} {fa : Addr} (X : K.In h) (G : h.Ns mainGlobals mg) (hfa : mg "law" = some (.ref fa))
    {tNIL tHEADER tROOTS : Tok} {CP CS CE CR CN cc Pt : Addr} {nmCR qCR : Str} {NCR : Addr} {bsCR bmCR : List Value} {snCR : List Str} {subCR : List Value} {abCR : Bool} {colCR : Option Bool} {ddCR : Option Addr} {m0CR m1CR m2CR m3CR m5CR : Option Value} {fiCR clCR cdCR : Addr} {oiCR diCR piCR tiCR ccCR cqCR : Value} {odiCR ceCR crCR : Option Addr} {siCR csCR cs2CR : Array (Option Value)} {vsCR : Array Value} {flCR : Str} {tfCR : Tok} {nmCN qCN : Str} {NCN : Addr} {bsCN bmCN : List Value} {snCN : List Str} {subCN : List Value} {abCN : Bool} {colCN : Option Bool} {ddCN : Option Addr} {m0CN m1CN m2CN m3CN m5CN : Option Value} {fiCN clCN cdCN : Addr} {oiCN diCN piCN tiCN ccCN cqCN : Value} {odiCN ceCN crCN : Option Addr} {siCN csCN cs2CN : Array (Option Value)} {vsCN : Array Value} {flCN : Str} {tfCN : Tok}
    {f1 : Addr} {od1 an1 : Option Addr} {sl1 : Array (Option Value)} {oc1 kV1 dc1 pm1 cd1 ct1 : Value}
    {f2 : Addr} {od2 an2 : Option Addr} {sl2 : Array (Option Value)} {oc2 kV2 dc2 pm2 cd2 ct2 : Value}
    {f3 : Addr} {od3 an3 : Option Addr} {sl3 : Array (Option Value)} {oc3 kV3 dc3 pm3 cd3 ct3 : Value}
    {f4 : Addr} {od4 an4 : Option Addr} {sl4 : Array (Option Value)} {oc4 kV4 dc4 pm4 cd4 ct4 : Value}
    {f5 : Addr} {od5 an5 : Option Addr} {sl5 : Array (Option Value)} {oc5 kV5 dc5 pm5 cd5 ct5 : Value}
    {f6 : Addr} {od6 an6 : Option Addr} {sl6 : Array (Option Value)} {oc6 kV6 dc6 pm6 cd6 ct6 : Value}
    {f7 : Addr} {od7 an7 : Option Addr} {sl7 : Array (Option Value)} {oc7 kV7 dc7 pm7 cd7 ct7 : Value}
    {f8 : Addr} {od8 an8 : Option Addr} {sl8 : Array (Option Value)} {oc8 kV8 dc8 pm8 cd8 ct8 : Value}
    {f9 : Addr} {od9 an9 : Option Addr} {sl9 : Array (Option Value)} {oc9 kV9 dc9 pm9 cd9 ct9 : Value}
    {f10 : Addr} {od10 an10 : Option Addr} {sl10 : Array (Option Value)} {oc10 kV10 dc10 pm10 cd10 ct10 : Value}
    {f11 : Addr} {od11 an11 : Option Addr} {sl11 : Array (Option Value)} {oc11 kV11 dc11 pm11 cd11 ct11 : Value}
    {f12 : Addr} {od12 an12 : Option Addr} {sl12 : Array (Option Value)} {oc12 kV12 dc12 pm12 cd12 ct12 : Value}
    {f13 : Addr} {od13 an13 : Option Addr} {sl13 : Array (Option Value)} {oc13 kV13 dc13 pm13 cd13 ct13 : Value}
    {f14 : Addr} {od14 an14 : Option Addr} {sl14 : Array (Option Value)} {oc14 kV14 dc14 pm14 cd14 ct14 : Value}
    {f15 : Addr} {od15 an15 : Option Addr} {sl15 : Array (Option Value)} {oc15 kV15 dc15 pm15 cd15 ct15 : Value}
    {f16 : Addr} {od16 an16 : Option Addr} {sl16 : Array (Option Value)} {oc16 kV16 dc16 pm16 cd16 ct16 : Value}
    {f17 : Addr} {od17 an17 : Option Addr} {sl17 : Array (Option Value)} {oc17 kV17 dc17 pm17 cd17 ct17 : Value}
    {f18 : Addr} {od18 an18 : Option Addr} {sl18 : Array (Option Value)} {oc18 kV18 dc18 pm18 cd18 ct18 : Value}
    {f19 : Addr} {od19 an19 : Option Addr} {sl19 : Array (Option Value)} {oc19 kV19 dc19 pm19 cd19 ct19 : Value}
    {f20 : Addr} {od20 an20 : Option Addr} {sl20 : Array (Option Value)} {oc20 kV20 dc20 pm20 cd20 ct20 : Value}
    {f21 : Addr} {od21 an21 : Option Addr} {sl21 : Array (Option Value)} {oc21 kV21 dc21 pm21 cd21 ct21 : Value}
    {f22 : Addr} {od22 an22 : Option Addr} {sl22 : Array (Option Value)} {oc22 kV22 dc22 pm22 cd22 ct22 : Value}
    {f23 : Addr} {od23 an23 : Option Addr} {sl23 : Array (Option Value)} {oc23 kV23 dc23 pm23 cd23 ct23 : Value}
    {f24 : Addr} {od24 an24 : Option Addr} {sl24 : Array (Option Value)} {oc24 kV24 dc24 pm24 cd24 ct24 : Value}
    {f25 : Addr} {od25 an25 : Option Addr} {sl25 : Array (Option Value)} {oc25 kV25 dc25 pm25 cd25 ct25 : Value}
    {f26 : Addr} {od26 an26 : Option Addr} {sl26 : Array (Option Value)} {oc26 kV26 dc26 pm26 cd26 ct26 : Value}
    {f27 : Addr} {od27 an27 : Option Addr} {sl27 : Array (Option Value)} {oc27 kV27 dc27 pm27 cd27 ct27 : Value}
    {f28 : Addr} {od28 an28 : Option Addr} {sl28 : Array (Option Value)} {oc28 kV28 dc28 pm28 cd28 ct28 : Value}
    {f29 : Addr} {od29 an29 : Option Addr} {sl29 : Array (Option Value)} {oc29 kV29 dc29 pm29 cd29 ct29 : Value}
    {f30 : Addr} {od30 an30 : Option Addr} {sl30 : Array (Option Value)} {oc30 kV30 dc30 pm30 cd30 ct30 : Value}
    {f31 : Addr} {od31 an31 : Option Addr} {sl31 : Array (Option Value)} {oc31 kV31 dc31 pm31 cd31 ct31 : Value}
    {f32 : Addr} {od32 an32 : Option Addr} {sl32 : Array (Option Value)} {oc32 kV32 dc32 pm32 cd32 ct32 : Value}
    {f33 : Addr} {od33 an33 : Option Addr} {sl33 : Array (Option Value)} {oc33 kV33 dc33 pm33 cd33 ct33 : Value}
    {f34 : Addr} {od34 an34 : Option Addr} {sl34 : Array (Option Value)} {oc34 kV34 dc34 pm34 ct34 : Value}
    {f35 : Addr} {od35 an35 : Option Addr} {sl35 : Array (Option Value)} {oc35 kV35 dc35 pm35 cd35 ct35 : Value}
    {f36 : Addr} {od36 an36 : Option Addr} {sl36 : Array (Option Value)} {oc36 kV36 dc36 pm36 cd36 ct36 : Value}
    {f37 : Addr} {od37 an37 : Option Addr} {sl37 : Array (Option Value)} {oc37 kV37 dc37 pm37 cd37 ct37 : Value}
    {f38 : Addr} {od38 an38 : Option Addr} {sl38 : Array (Option Value)} {oc38 kV38 dc38 pm38 cd38 ct38 : Value}
    {f39 : Addr} {od39 an39 : Option Addr} {sl39 : Array (Option Value)} {oc39 kV39 dc39 pm39 cd39 ct39 : Value}
    {f40 : Addr} {od40 an40 : Option Addr} {sl40 : Array (Option Value)} {oc40 kV40 dc40 pm40 cd40 ct40 : Value}
    {f41 : Addr} {od41 an41 : Option Addr} {sl41 : Array (Option Value)} {oc41 kV41 dc41 pm41 cd41 ct41 : Value}
    {f42 : Addr} {od42 an42 : Option Addr} {sl42 : Array (Option Value)} {oc42 kV42 dc42 pm42 cd42 ct42 : Value}
    {f43 : Addr} {od43 an43 : Option Addr} {sl43 : Array (Option Value)} {oc43 kV43 dc43 pm43 cd43 ct43 : Value}
    {f44 : Addr} {od44 an44 : Option Addr} {sl44 : Array (Option Value)} {oc44 kV44 dc44 pm44 cd44 ct44 : Value}
    {f45 : Addr} {od45 an45 : Option Addr} {sl45 : Array (Option Value)} {oc45 kV45 dc45 pm45 cd45 ct45 : Value}
    {f46 : Addr} {od46 an46 : Option Addr} {sl46 : Array (Option Value)} {oc46 kV46 dc46 pm46 cd46 ct46 : Value}
    (a1 : nsIn K mainGlobals "is_ref" = some (some (.ref f1)))
    (l1 : K.lookup f1 = some ⟨oc1, od1, .func (fnOf "is_ref" "is_ref" (defArgs (top 9)) (defBody (top 9)) (defScope (top 9)) .none kV1 dc1 pm1 an1 (cd1) ct1), sl1⟩) (c1 : codeIn K (cd1) "is_ref" = true) (k1 : keepIn K (.ref f1) = true)
    (a2 : nsIn K mainGlobals "ref_of" = some (some (.ref f2)))
    (l2 : K.lookup f2 = some ⟨oc2, od2, .func (fnOf "ref_of" "ref_of" (defArgs (top 10)) (defBody (top 10)) (defScope (top 10)) .none kV2 dc2 pm2 an2 (cd2) ct2), sl2⟩) (c2 : codeIn K (cd2) "ref_of" = true) (k2 : keepIn K (.ref f2) = true)
    (a3 : nsIn K mainGlobals "reached" = some (some (.ref f3)))
    (l3 : K.lookup f3 = some ⟨oc3, od3, .func (fnOf "reached" "reached" (defArgs (top 12)) (defBody (top 12)) (defScope (top 12)) .none kV3 dc3 pm3 an3 (cd3) ct3), sl3⟩) (c3 : codeIn K (cd3) "reached" = true) (k3 : keepIn K (.ref f3) = true)
    (a4 : nsIn K mainGlobals "words_of" = some (some (.ref f4)))
    (l4 : K.lookup f4 = some ⟨oc4, od4, .func (fnOf "words_of" "words_of" (defArgs (top 13)) (defBody (top 13)) (defScope (top 13)) .none kV4 dc4 pm4 an4 (cd4) ct4), sl4⟩) (c4 : codeIn K (cd4) "words_of" = true) (k4 : keepIn K (.ref f4) = true)
    (a5 : nsIn K mainGlobals "collect" = some (some (.ref f5)))
    (l5 : K.lookup f5 = some ⟨oc5, od5, .func (fnOf "collect" "collect" (defArgs (top 14)) (defBody (top 14)) (defScope (top 14)) .none kV5 dc5 pm5 an5 (cd5) ct5), sl5⟩) (c5 : codeIn K (cd5) "collect" = true) (k5 : keepIn K (.ref f5) = true)
    (a6 : nsIn K mainGlobals "_law_number" = some (some (.ref f6)))
    (l6 : K.lookup f6 = some ⟨oc6, od6, .func (fnOf "_law_number" "_law_number" (defArgs (top 23)) (defBody (top 23)) (defScope (top 23)) .none kV6 dc6 pm6 an6 (cd6) ct6), sl6⟩) (c6 : codeIn K (cd6) "_law_number" = true) (k6 : keepIn K (.ref f6) = true)
    (a7 : nsIn K mainGlobals "_law_deeds" = some (some (.ref f7)))
    (l7 : K.lookup f7 = some ⟨oc7, od7, .func (fnOf "_law_deeds" "_law_deeds" (defArgs (top 24)) (defBody (top 24)) (defScope (top 24)) .none kV7 dc7 pm7 an7 (cd7) ct7), sl7⟩) (c7 : codeIn K (cd7) "_law_deeds" = true) (k7 : keepIn K (.ref f7) = true)
    (a8 : nsIn K mainGlobals "_law_is" = some (some (.ref f8)))
    (l8 : K.lookup f8 = some ⟨oc8, od8, .func (fnOf "_law_is" "_law_is" (defArgs (top 25)) (defBody (top 25)) (defScope (top 25)) .none kV8 dc8 pm8 an8 (cd8) ct8), sl8⟩) (c8 : codeIn K (cd8) "_law_is" = true) (k8 : keepIn K (.ref f8) = true)
    (a9 : nsIn K mainGlobals "_law_same" = some (some (.ref f9)))
    (l9 : K.lookup f9 = some ⟨oc9, od9, .func (fnOf "_law_same" "_law_same" (defArgs (top 26)) (defBody (top 26)) (defScope (top 26)) .none kV9 dc9 pm9 an9 (cd9) ct9), sl9⟩) (c9 : codeIn K (cd9) "_law_same" = true) (k9 : keepIn K (.ref f9) = true)
    (a10 : nsIn K mainGlobals "_law_place" = some (some (.ref f10)))
    (l10 : K.lookup f10 = some ⟨oc10, od10, .func (fnOf "_law_place" "_law_place" (defArgs (top 27)) (defBody (top 27)) (defScope (top 27)) .none kV10 dc10 pm10 an10 (cd10) ct10), sl10⟩) (c10 : codeIn K (cd10) "_law_place" = true) (k10 : keepIn K (.ref f10) = true)
    (a11 : nsIn K mainGlobals "_law_word" = some (some (.ref f11)))
    (l11 : K.lookup f11 = some ⟨oc11, od11, .func (fnOf "_law_word" "_law_word" (defArgs (top 28)) (defBody (top 28)) (defScope (top 28)) .none kV11 dc11 pm11 an11 (cd11) ct11), sl11⟩) (c11 : codeIn K (cd11) "_law_word" = true) (k11 : keepIn K (.ref f11) = true)
    (a12 : nsIn K mainGlobals "_law_reached" = some (some (.ref f12)))
    (l12 : K.lookup f12 = some ⟨oc12, od12, .func (fnOf "_law_reached" "_law_reached" (defArgs (top 29)) (defBody (top 29)) (defScope (top 29)) .none kV12 dc12 pm12 an12 (cd12) ct12), sl12⟩) (c12 : codeIn K (cd12) "_law_reached" = true) (k12 : keepIn K (.ref f12) = true)
    (a13 : nsIn K mainGlobals "_law_total" = some (some (.ref f13)))
    (l13 : K.lookup f13 = some ⟨oc13, od13, .func (fnOf "_law_total" "_law_total" (defArgs (top 30)) (defBody (top 30)) (defScope (top 30)) .none kV13 dc13 pm13 an13 (cd13) ct13), sl13⟩) (c13 : codeIn K (cd13) "_law_total" = true) (k13 : keepIn K (.ref f13) = true)
    (a14 : nsIn K mainGlobals "_law_collections" = some (some (.ref f14)))
    (l14 : K.lookup f14 = some ⟨oc14, od14, .func (fnOf "_law_collections" "_law_collections" (defArgs (top 31)) (defBody (top 31)) (defScope (top 31)) .none kV14 dc14 pm14 an14 (cd14) ct14), sl14⟩) (c14 : codeIn K (cd14) "_law_collections" = true) (k14 : keepIn K (.ref f14) = true)
    (a15 : nsIn K mainGlobals "_law_called" = some (some (.ref f15)))
    (l15 : K.lookup f15 = some ⟨oc15, od15, .func (fnOf "_law_called" "_law_called" (defArgs (top 32)) (defBody (top 32)) (defScope (top 32)) .none kV15 dc15 pm15 an15 (cd15) ct15), sl15⟩) (c15 : codeIn K (cd15) "_law_called" = true) (k15 : keepIn K (.ref f15) = true)
    (a16 : nsIn K mainGlobals "_law_kept" = some (some (.ref f16)))
    (l16 : K.lookup f16 = some ⟨oc16, od16, .func (fnOf "_law_kept" "_law_kept" (defArgs (top 33)) (defBody (top 33)) (defScope (top 33)) .none kV16 dc16 pm16 an16 (cd16) ct16), sl16⟩) (c16 : codeIn K (cd16) "_law_kept" = true) (k16 : keepIn K (.ref f16) = true)
    (a17 : nsIn K mainGlobals "_law_held" = some (some (.ref f17)))
    (l17 : K.lookup f17 = some ⟨oc17, od17, .func (fnOf "_law_held" "_law_held" (defArgs (top 34)) (defBody (top 34)) (defScope (top 34)) .none kV17 dc17 pm17 an17 (cd17) ct17), sl17⟩) (c17 : codeIn K (cd17) "_law_held" = true) (k17 : keepIn K (.ref f17) = true)
    (a18 : nsIn K mainGlobals "_law_fresh" = some (some (.ref f18)))
    (l18 : K.lookup f18 = some ⟨oc18, od18, .func (fnOf "_law_fresh" "_law_fresh" (defArgs (top 35)) (defBody (top 35)) (defScope (top 35)) .none kV18 dc18 pm18 an18 (cd18) ct18), sl18⟩) (c18 : codeIn K (cd18) "_law_fresh" = true) (k18 : keepIn K (.ref f18) = true)
    (a19 : nsIn K mainGlobals "_law_new" = some (some (.ref f19)))
    (l19 : K.lookup f19 = some ⟨oc19, od19, .func (fnOf "_law_new" "_law_new" (defArgs (top 36)) (defBody (top 36)) (defScope (top 36)) .none kV19 dc19 pm19 an19 (cd19) ct19), sl19⟩) (c19 : codeIn K (cd19) "_law_new" = true) (k19 : keepIn K (.ref f19) = true)
    (a20 : nsIn K mainGlobals "_law_deed" = some (some (.ref f20)))
    (l20 : K.lookup f20 = some ⟨oc20, od20, .func (fnOf "_law_deed" "_law_deed" (defArgs (top 37)) (defBody (top 37)) (defScope (top 37)) .none kV20 dc20 pm20 an20 (cd20) ct20), sl20⟩) (c20 : codeIn K (cd20) "_law_deed" = true) (k20 : keepIn K (.ref f20) = true)
    (a21 : nsIn K mainGlobals "_law_space" = some (some (.ref f21)))
    (l21 : K.lookup f21 = some ⟨oc21, od21, .func (fnOf "_law_space" "_law_space" (defArgs (top 38)) (defBody (top 38)) (defScope (top 38)) .none kV21 dc21 pm21 an21 (cd21) ct21), sl21⟩) (c21 : codeIn K (cd21) "_law_space" = true) (k21 : keepIn K (.ref f21) = true)
    (a22 : nsIn K mainGlobals "law" = some (some (.ref f22)))
    (l22 : K.lookup f22 = some ⟨oc22, od22, .func (fnOf "law" "law" (defArgs (top 39)) (defBody (top 39)) (defScope (top 39)) .none kV22 dc22 pm22 an22 (cd22) ct22), sl22⟩) (c22 : codeIn K (cd22) "law" = true) (k22 : keepIn K (.ref f22) = true)
    (a23 : findIn K (.ref CS) "__init__" = some (some (.ref f23))) (i23 : isFn K (.ref f23) = true)
    (l23 : K.lookup f23 = some ⟨oc23, od23, .func (fnOf "__init__" "Store.__init__" (defArgs (inClass (top 18) 0)) (defBody (inClass (top 18) 0)) (defScope (inClass (top 18) 0)) .none kV23 dc23 pm23 an23 (cd23) ct23), sl23⟩) (c23 : codeIn K (cd23) "Store.__init__" = true) (k23 : keepIn K (.ref f23) = true)
    (a24 : findIn K (.ref CS) "used" = some (some (.ref f24))) (i24 : isFn K (.ref f24) = true)
    (l24 : K.lookup f24 = some ⟨oc24, od24, .func (fnOf "used" "Store.used" (defArgs (inClass (top 18) 1)) (defBody (inClass (top 18) 1)) (defScope (inClass (top 18) 1)) .none kV24 dc24 pm24 an24 (cd24) ct24), sl24⟩) (c24 : codeIn K (cd24) "Store.used" = true) (k24 : keepIn K (.ref f24) = true)
    (a25 : findIn K (.ref CS) "exists" = some (some (.ref f25))) (i25 : isFn K (.ref f25) = true)
    (l25 : K.lookup f25 = some ⟨oc25, od25, .func (fnOf "exists" "Store.exists" (defArgs (inClass (top 18) 2)) (defBody (inClass (top 18) 2)) (defScope (inClass (top 18) 2)) .none kV25 dc25 pm25 an25 (cd25) ct25), sl25⟩) (c25 : codeIn K (cd25) "Store.exists" = true) (k25 : keepIn K (.ref f25) = true)
    (a26 : findIn K (.ref CS) "numbers" = some (some (.ref f26))) (i26 : isFn K (.ref f26) = true)
    (l26 : K.lookup f26 = some ⟨oc26, od26, .func (fnOf "numbers" "Store.numbers" (defArgs (inClass (top 18) 3)) (defBody (inClass (top 18) 3)) (defScope (inClass (top 18) 3)) .none kV26 dc26 pm26 an26 (cd26) ct26), sl26⟩) (c26 : codeIn K (cd26) "Store.numbers" = true) (k26 : keepIn K (.ref f26) = true)
    (a27 : findIn K (.ref CS) "free_number" = some (some (.ref f27))) (i27 : isFn K (.ref f27) = true)
    (l27 : K.lookup f27 = some ⟨oc27, od27, .func (fnOf "free_number" "Store.free_number" (defArgs (inClass (top 18) 4)) (defBody (inClass (top 18) 4)) (defScope (inClass (top 18) 4)) .none kV27 dc27 pm27 an27 (cd27) ct27), sl27⟩) (c27 : codeIn K (cd27) "Store.free_number" = true) (k27 : keepIn K (.ref f27) = true)
    (a28 : findIn K (.ref CS) "allocate" = some (some (.ref f28))) (i28 : isFn K (.ref f28) = true)
    (l28 : K.lookup f28 = some ⟨oc28, od28, .func (fnOf "allocate" "Store.allocate" (defArgs (inClass (top 18) 5)) (defBody (inClass (top 18) 5)) (defScope (inClass (top 18) 5)) .none kV28 dc28 pm28 an28 (cd28) ct28), sl28⟩) (c28 : codeIn K (cd28) "Store.allocate" = true) (k28 : keepIn K (.ref f28) = true)
    (a29 : findIn K (.ref CS) "size" = some (some (.ref f29))) (i29 : isFn K (.ref f29) = true)
    (l29 : K.lookup f29 = some ⟨oc29, od29, .func (fnOf "size" "Store.size" (defArgs (inClass (top 18) 6)) (defBody (inClass (top 18) 6)) (defScope (inClass (top 18) 6)) .none kV29 dc29 pm29 an29 (cd29) ct29), sl29⟩) (c29 : codeIn K (cd29) "Store.size" = true) (k29 : keepIn K (.ref f29) = true)
    (a30 : findIn K (.ref CS) "kind" = some (some (.ref f30))) (i30 : isFn K (.ref f30) = true)
    (l30 : K.lookup f30 = some ⟨oc30, od30, .func (fnOf "kind" "Store.kind" (defArgs (inClass (top 18) 7)) (defBody (inClass (top 18) 7)) (defScope (inClass (top 18) 7)) .none kV30 dc30 pm30 an30 (cd30) ct30), sl30⟩) (c30 : codeIn K (cd30) "Store.kind" = true) (k30 : keepIn K (.ref f30) = true)
    (a31 : findIn K (.ref CS) "put" = some (some (.ref f31))) (i31 : isFn K (.ref f31) = true)
    (l31 : K.lookup f31 = some ⟨oc31, od31, .func (fnOf "put" "Store.put" (defArgs (inClass (top 18) 10)) (defBody (inClass (top 18) 10)) (defScope (inClass (top 18) 10)) .none kV31 dc31 pm31 an31 (cd31) ct31), sl31⟩) (c31 : codeIn K (cd31) "Store.put" = true) (k31 : keepIn K (.ref f31) = true)
    (a32 : findIn K (.ref CS) "slots" = some (some (.ref f32))) (i32 : isFn K (.ref f32) = true)
    (l32 : K.lookup f32 = some ⟨oc32, od32, .func (fnOf "slots" "Store.slots" (defArgs (inClass (top 18) 11)) (defBody (inClass (top 18) 11)) (defScope (inClass (top 18) 11)) .none kV32 dc32 pm32 an32 (cd32) ct32), sl32⟩) (c32 : codeIn K (cd32) "Store.slots" = true) (k32 : keepIn K (.ref f32) = true)
    (a33 : findIn K (.ref CS) "drop" = some (some (.ref f33))) (i33 : isFn K (.ref f33) = true)
    (l33 : K.lookup f33 = some ⟨oc33, od33, .func (fnOf "drop" "Store.drop" (defArgs (inClass (top 18) 12)) (defBody (inClass (top 18) 12)) (defScope (inClass (top 18) 12)) .none kV33 dc33 pm33 an33 (cd33) ct33), sl33⟩) (c33 : codeIn K (cd33) "Store.drop" = true) (k33 : keepIn K (.ref f33) = true)
    (a34 : findIn K (.ref CS) "close_up" = some (some (.ref f34))) (i34 : isFn K (.ref f34) = true)
    (l34 : K.lookup f34 = some ⟨oc34, od34, .func (fnOf "close_up" "Store.close_up" (defArgs (inClass (top 18) 13)) (defBody (inClass (top 18) 13)) (defScope (inClass (top 18) 13)) .none kV34 dc34 pm34 an34 (.ref cc) ct34), sl34⟩) (c34 : codeIn K (.ref cc) "Store.close_up" = true) (k34 : keepIn K (.ref f34) = true)
    (a35 : findIn K (.ref CP) "__init__" = some (some (.ref f35))) (i35 : isFn K (.ref f35) = true)
    (l35 : K.lookup f35 = some ⟨oc35, od35, .func (fnOf "__init__" "Space.__init__" (defArgs (inClass (top 21) 0)) (defBody (inClass (top 21) 0)) (defScope (inClass (top 21) 0)) .none kV35 dc35 pm35 an35 (cd35) ct35), sl35⟩) (c35 : codeIn K (cd35) "Space.__init__" = true) (k35 : keepIn K (.ref f35) = true)
    (a36 : findIn K (.ref CP) "press" = some (some (.ref f36))) (i36 : isFn K (.ref f36) = true)
    (l36 : K.lookup f36 = some ⟨oc36, od36, .func (fnOf "press" "Space.press" (defArgs (inClass (top 21) 1)) (defBody (inClass (top 21) 1)) (defScope (inClass (top 21) 1)) .none kV36 dc36 pm36 an36 (cd36) ct36), sl36⟩) (c36 : codeIn K (cd36) "Space.press" = true) (k36 : keepIn K (.ref f36) = true)
    (a37 : findIn K (.ref CP) "root" = some (some (.ref f37))) (i37 : isFn K (.ref f37) = true)
    (l37 : K.lookup f37 = some ⟨oc37, od37, .func (fnOf "root" "Space.root" (defArgs (inClass (top 21) 2)) (defBody (inClass (top 21) 2)) (defScope (inClass (top 21) 2)) .none kV37 dc37 pm37 an37 (cd37) ct37), sl37⟩) (c37 : codeIn K (cd37) "Space.root" = true) (k37 : keepIn K (.ref f37) = true)
    (a38 : findIn K (.ref CP) "set_root" = some (some (.ref f38))) (i38 : isFn K (.ref f38) = true)
    (l38 : K.lookup f38 = some ⟨oc38, od38, .func (fnOf "set_root" "Space.set_root" (defArgs (inClass (top 21) 3)) (defBody (inClass (top 21) 3)) (defScope (inClass (top 21) 3)) .none kV38 dc38 pm38 an38 (cd38) ct38), sl38⟩) (c38 : codeIn K (cd38) "Space.set_root" = true) (k38 : keepIn K (.ref f38) = true)
    (a39 : findIn K (.ref CP) "hold" = some (some (.ref f39))) (i39 : isFn K (.ref f39) = true)
    (l39 : K.lookup f39 = some ⟨oc39, od39, .func (fnOf "hold" "Space.hold" (defArgs (inClass (top 21) 4)) (defBody (inClass (top 21) 4)) (defScope (inClass (top 21) 4)) .none kV39 dc39 pm39 an39 (cd39) ct39), sl39⟩) (c39 : codeIn K (cd39) "Space.hold" = true) (k39 : keepIn K (.ref f39) = true)
    (a40 : findIn K (.ref CP) "drop" = some (some (.ref f40))) (i40 : isFn K (.ref f40) = true)
    (l40 : K.lookup f40 = some ⟨oc40, od40, .func (fnOf "drop" "Space.drop" (defArgs (inClass (top 21) 5)) (defBody (inClass (top 21) 5)) (defScope (inClass (top 21) 5)) .none kV40 dc40 pm40 an40 (cd40) ct40), sl40⟩) (c40 : codeIn K (cd40) "Space.drop" = true) (k40 : keepIn K (.ref f40) = true)
    (a41 : findIn K (.ref CP) "held" = some (some (.ref f41))) (i41 : isFn K (.ref f41) = true)
    (l41 : K.lookup f41 = some ⟨oc41, od41, .func (fnOf "held" "Space.held" (defArgs (inClass (top 21) 6)) (defBody (inClass (top 21) 6)) (defScope (inClass (top 21) 6)) .none kV41 dc41 pm41 an41 (cd41) ct41), sl41⟩) (c41 : codeIn K (cd41) "Space.held" = true) (k41 : keepIn K (.ref f41) = true)
    (a42 : findIn K (.ref CP) "all_roots" = some (some (.ref f42))) (i42 : isFn K (.ref f42) = true)
    (l42 : K.lookup f42 = some ⟨oc42, od42, .func (fnOf "all_roots" "Space.all_roots" (defArgs (inClass (top 21) 7)) (defBody (inClass (top 21) 7)) (defScope (inClass (top 21) 7)) .none kV42 dc42 pm42 an42 (cd42) ct42), sl42⟩) (c42 : codeIn K (cd42) "Space.all_roots" = true) (k42 : keepIn K (.ref f42) = true)
    (a43 : findIn K (.ref CP) "collect_with" = some (some (.ref f43))) (i43 : isFn K (.ref f43) = true)
    (l43 : K.lookup f43 = some ⟨oc43, od43, .func (fnOf "collect_with" "Space.collect_with" (defArgs (inClass (top 21) 9)) (defBody (inClass (top 21) 9)) (defScope (inClass (top 21) 9)) .none kV43 dc43 pm43 an43 (cd43) ct43), sl43⟩) (c43 : codeIn K (cd43) "Space.collect_with" = true) (k43 : keepIn K (.ref f43) = true)
    (a44 : findIn K (.ref CP) "live_words" = some (some (.ref f44))) (i44 : isFn K (.ref f44) = true)
    (l44 : K.lookup f44 = some ⟨oc44, od44, .func (fnOf "live_words" "Space.live_words" (defArgs (inClass (top 21) 10)) (defBody (inClass (top 21) 10)) (defScope (inClass (top 21) 10)) .none kV44 dc44 pm44 an44 (cd44) ct44), sl44⟩) (c44 : codeIn K (cd44) "Space.live_words" = true) (k44 : keepIn K (.ref f44) = true)
    (a45 : findIn K (.ref CP) "new" = some (some (.ref f45))) (i45 : isFn K (.ref f45) = true)
    (l45 : K.lookup f45 = some ⟨oc45, od45, .func (fnOf "new" "Space.new" (defArgs (inClass (top 21) 11)) (defBody (inClass (top 21) 11)) (defScope (inClass (top 21) 11)) .none kV45 dc45 pm45 an45 (cd45) ct45), sl45⟩) (c45 : codeIn K (cd45) "Space.new" = true) (k45 : keepIn K (.ref f45) = true)
    (a46 : findIn K (.ref CP) "fitted" = some (some (.ref f46))) (i46 : isFn K (.ref f46) = true)
    (l46 : K.lookup f46 = some ⟨oc46, od46, .func (fnOf "fitted" "Space.fitted" (defArgs (inClass (top 21) 12)) (defBody (inClass (top 21) 12)) (defScope (inClass (top 21) 12)) .none kV46 dc46 pm46 an46 (cd46) ct46), sl46⟩) (c46 : codeIn K (cd46) "Space.fitted" = true) (k46 : keepIn K (.ref f46) = true)
    (aS : nsIn K mainGlobals "Store" = some (some (.ref CS)))
    (aP : nsIn K mainGlobals "Space" = some (some (.ref CP)))
    (pgCS : plainGet K CS Str.empty = true)
    (hdCS : hasDictIn K CS = true)
    (poCS : plainOver K CS = true)
    (saCS : findIn K (.ref CS) "__setattr__" = some (some (.builtin "object.__setattr__")))
    (mkCS : makesIn K CS = true)
    (kcCS : keepIn K (.ref CS) = true)
    (nCSroom : findIn K (.ref CS) "room" = some none)
    (nCSentries : findIn K (.ref CS) "entries" = some none)
    (nCSwords : findIn K (.ref CS) "words" = some none)
    (nCS_places : findIn K (.ref CS) "_places" = some none)
    (nCS_least : findIn K (.ref CS) "_least" = some none)
    (pgCP : plainGet K CP Str.empty = true)
    (hdCP : hasDictIn K CP = true)
    (poCP : plainOver K CP = true)
    (saCP : findIn K (.ref CP) "__setattr__" = some (some (.builtin "object.__setattr__")))
    (mkCP : makesIn K CP = true)
    (kcCP : keepIn K (.ref CP) = true)
    (nCPstore : findIn K (.ref CP) "store" = some none)
    (nCPpressure : findIn K (.ref CP) "pressure" = some none)
    (nCPalways : findIn K (.ref CP) "always" = some none)
    (nCPallocations : findIn K (.ref CP) "allocations" = some none)
    (nCPcollections : findIn K (.ref CP) "collections" = some none)
    (nCP_roots : findIn K (.ref CP) "_roots" = some none)
    (nCP_held : findIn K (.ref CP) "_held" = some none)
    (nCP_saved : findIn K (.ref CP) "_saved" = some none)
    (zlen : nsIn K mainGlobals "len" = some none)
    (zsorted : nsIn K mainGlobals "sorted" = some none)
    (zmin : nsIn K mainGlobals "min" = some none)
    (zsum : nsIn K mainGlobals "sum" = some none)
    (zint : nsIn K mainGlobals "int" = some none)
    (zlist : nsIn K mainGlobals "list" = some none)
    (zisinstance : nsIn K mainGlobals "isinstance" = some none)
    (zbool : nsIn K mainGlobals "bool" = some none)
    (zrange : nsIn K mainGlobals "range" = some none)
    (zstr : nsIn K mainGlobals "str" = some none)
    (zsuper : nsIn K mainGlobals "super" = some none)
    (gNIL : nsIn K mainGlobals "NIL" = some (some (.int 0 tNIL)))
    (gHEADER : nsIn K mainGlobals "HEADER" = some (some (.int 3 tHEADER)))
    (gROOTS : nsIn K mainGlobals "ROOTS" = some (some (.int 16 tROOTS)))
    (acc : nsIn K mainGlobals "collect_collecting" = some (some (.ref f5)))
    (aCR : nsIn K mainGlobals "NoRoom" = some (some (.ref CR)))
    (xCR : K.lookup CR = some (excClassObj nmCR qCR CR NCR bsCR bmCR true snCR subCR abCR colCR ddCR m0CR m1CR m2CR m3CR m5CR "ValueError.__new__"))
    (bmCR_ : HandSPX.refsVE bmCR = true)
    (saCR : findIn K (.ref CR) "__setattr__" = some (some (.builtin "object.__setattr__")))
    (ebCR : subIn K (.ref CR) (.type "BaseException") = some true)
    (tyCR : typeIn K (.ref CR) = some (.type "type"))
    (kkCR : keepIn K (.ref CR) = true)
    (seCR : mroIn K CR (.ref CR) = some true)
    (suCR : ks_superIn K CR CR "__init__" = some (some (.builtin "ValueError.__init__")))
    (svCR : subIn K (.ref CR) (.type "ValueError") = some true)
    (aiCR : findIn K (.ref CR) "__init__" = some (some (.ref fiCR)))
    (tiCR_ : typeIn K (.ref fiCR) = some (.type "function"))
    (liCR : K.lookup fiCR = some ⟨oiCR, odiCR, .func ((nf_NoRoom clCR cdCR).fd diCR piCR tiCR), siCR⟩)
    (ciCR : codeIn K (.ref cdCR) "NoRoom.__init__" = true)
    (fi1CR : K.lookup cdCR = some ⟨ccCR, ceCR, .fields vsCR, csCR⟩)
    (fi2CR : vsCR[2]? = some (.str flCR tfCR))
    (fi3CR : ((l.prog.main.file : Str) == flCR) = true)
    (ceCR_ : K.lookup clCR = some ⟨cqCR, crCR, .cell (some (.ref CR)), cs2CR⟩)
    (gaCR : findIn K (.ref CR) "__getattribute__" = some (some (.builtin "BaseException.__getattribute__")))
    (ggCR : findIn K (.ref CR) "__getattr__" = some none)
    (hdCR : hasDictIn K CR = true)
    (nfCR : findIn K (.ref CR) "need" = some none)
    (isCR : (clsIn K CR).isSome = true)
    (csCR_ : findIn K (.ref CR) "__class__" = some (some (.builtin "object.__class__")))
    (moCR : mroIn K CR (.type "object") = some true)
    (aCN : nsIn K mainGlobals "NoNumber" = some (some (.ref CN)))
    (xCN : K.lookup CN = some (excClassObj nmCN qCN CN NCN bsCN bmCN true snCN subCN abCN colCN ddCN m0CN m1CN m2CN m3CN m5CN "ValueError.__new__"))
    (bmCN_ : HandSPX.refsVE bmCN = true)
    (saCN : findIn K (.ref CN) "__setattr__" = some (some (.builtin "object.__setattr__")))
    (ebCN : subIn K (.ref CN) (.type "BaseException") = some true)
    (tyCN : typeIn K (.ref CN) = some (.type "type"))
    (kkCN : keepIn K (.ref CN) = true)
    (seCN : mroIn K CN (.ref CN) = some true)
    (suCN : ks_superIn K CN CN "__init__" = some (some (.builtin "ValueError.__init__")))
    (svCN : subIn K (.ref CN) (.type "ValueError") = some true)
    (aiCN : findIn K (.ref CN) "__init__" = some (some (.ref fiCN)))
    (tiCN_ : typeIn K (.ref fiCN) = some (.type "function"))
    (liCN : K.lookup fiCN = some ⟨oiCN, odiCN, .func ((nf_NoNumber clCN cdCN).fd diCN piCN tiCN), siCN⟩)
    (ciCN : codeIn K (.ref cdCN) "NoNumber.__init__" = true)
    (fi1CN : K.lookup cdCN = some ⟨ccCN, ceCN, .fields vsCN, csCN⟩)
    (fi2CN : vsCN[2]? = some (.str flCN tfCN))
    (fi3CN : ((l.prog.main.file : Str) == flCN) = true)
    (ceCN_ : K.lookup clCN = some ⟨cqCN, crCN, .cell (some (.ref CN)), cs2CN⟩)
    (gaCN : findIn K (.ref CN) "__getattribute__" = some (some (.builtin "BaseException.__getattribute__")))
    (ggCN : findIn K (.ref CN) "__getattr__" = some none)
    (hdCN : hasDictIn K CN = true)
    (nfCN : findIn K (.ref CN) "limit" = some none)
    (isCN : (clsIn K CN).isSome = true)
    (csCN_ : findIn K (.ref CN) "__class__" = some (some (.builtin "object.__class__")))
    (moCN : mroIn K CN (.type "object") = some true)
    (opq : nsIn K cStatics "thirdparty.any" = some none)
    (top1 : (l.prog.main.scope.names.lookup ("super" : Str)).isSome = false)
    (sp1 : specialIn K (.builtin "object.__class__") "__get__" = some (some (.builtin "getset_descriptor.__get__")))
    (tk1 : takesIn K (.builtin "object.__class__") = some true)
    (aE : nsIn K mainGlobals "SaggarError" = some (some (.ref CE)))
    (er : exmOne K (.ref CR) (.ref CE) = some true)
    (en : exmOne K (.ref CN) (.ref CE) = some true)
    (err : exmOne K (.ref CR) (.ref CR) = some true)
    (enr : exmOne K (.ref CN) (.ref CR) = some false)
    (enn : exmOne K (.ref CN) (.ref CN) = some true)
    (krr : kitOne K (.ref CR) (.ref CR) = some true)
    (krn : kitOne K (.ref CR) (.ref CN) = some false)
    (knr : kitOne K (.ref CN) (.ref CR) = some false)
    (knn : kitOne K (.ref CN) (.ref CN) = some true)
    (hd1 : codeHdIn K cc Pt = true)
    (tb1 : h.get? Pt = some { cls := .none, data := .fields #[] })
    (tb2 : K.lookup Pt = none) : LamX.LawAtS l w K CX0 11 63 "_law_script" mg fa h := by
  have e := hfa.symm.trans (mg_of X G a22)
  cases e
  have F1 := fun_mk (st := top 9) l1 c1 k1
  have b1 := F1.binds (ps := ["word"]) fun _ _ _ _ _ _ us hl => match us, hl with | [_], _ => rfl
  have F2 := fun_mk (st := top 10) l2 c2 k2
  have b2 := F2.binds (ps := ["word"]) fun _ _ _ _ _ _ us hl => match us, hl with | [_], _ => rfl
  have F3 := fun_mk (st := top 12) l3 c3 k3
  have b3 := F3.binds (ps := ["store", "roots"]) fun _ _ _ _ _ _ us hl => match us, hl with | [_, _], _ => rfl
  have F4 := fun_mk (st := top 13) l4 c4 k4
  have b4 := F4.binds (ps := ["store", "numbers"]) fun _ _ _ _ _ _ us hl => match us, hl with | [_, _], _ => rfl
  have F5 := fun_mk (st := top 14) l5 c5 k5
  have b5 := F5.binds (ps := ["store", "roots"]) fun _ _ _ _ _ _ us hl => match us, hl with | [_, _], _ => rfl
  have F6 := fun_mk (st := top 23) l6 c6 k6
  have b6 := F6.binds (ps := ["_law_cell", "_law_k"]) fun _ _ _ _ _ _ us hl => match us, hl with | [_, _], _ => rfl
  have F7 := fun_mk (st := top 24) l7 c7 k7
  have b7 := F7.binds (ps := ["_law_cell", "_law_k"]) fun _ _ _ _ _ _ us hl => match us, hl with | [_, _], _ => rfl
  have F8 := fun_mk (st := top 25) l8 c8 k8
  have b8 := F8.binds (ps := ["_law_actual", "_law_due"]) fun _ _ _ _ _ _ us hl => match us, hl with | [_, _], _ => rfl
  have F9 := fun_mk (st := top 26) l9 c9 k9
  have b9 := F9.binds (ps := ["_law_actual", "_law_due"]) fun _ _ _ _ _ _ us hl => match us, hl with | [_, _], _ => rfl
  have F10 := fun_mk (st := top 27) l10 c10 k10
  have b10 := F10.binds (ps := ["_law_x"]) fun _ _ _ _ _ _ us hl => match us, hl with | [_], _ => rfl
  have F11 := fun_mk (st := top 28) l11 c11 k11
  have b11 := F11.binds (ps := ["_law_space_here", "_law_x"]) fun _ _ _ _ _ _ us hl => match us, hl with | [_, _], _ => rfl
  have F12 := fun_mk (st := top 29) l12 c12 k12
  have b12 := F12.binds (ps := ["_law_space_here", "_law_words"]) fun _ _ _ _ _ _ us hl => match us, hl with | [_, _], _ => rfl
  have F13 := fun_mk (st := top 30) l13 c13 k13
  have b13 := F13.binds (ps := ["_law_found"]) fun _ _ _ _ _ _ us hl => match us, hl with | [_], _ => rfl
  have F14 := fun_mk (st := top 31) l14 c14 k14
  have b14 := F14.binds (ps := ["_law_space_here", "_law_found", "_law_limits", "_law_size"]) fun _ _ _ _ _ _ us hl => match us, hl with | [_, _, _, _], _ => rfl
  have F15 := fun_mk (st := top 32) l15 c15 k15
  have b15 := F15.binds (ps := ["_law_space_here", "_law_kind", "_law_size"]) fun _ _ _ _ _ _ us hl => match us, hl with | [_, _, _], _ => rfl
  have F16 := fun_mk (st := top 33) l16 c16 k16
  have b16 := F16.binds (ps := ["_law_space_here", "_law_found"]) fun _ _ _ _ _ _ us hl => match us, hl with | [_, _], _ => rfl
  have F17 := fun_mk (st := top 34) l17 c17 k17
  have b17 := F17.binds (ps := ["_law_space_here", "_law_numbers", "_law_used", "_law_number_here", "_law_size"]) fun _ _ _ _ _ _ us hl => match us, hl with | [_, _, _, _, _], _ => rfl
  have F18 := fun_mk (st := top 35) l18 c18 k18
  have b18 := F18.binds (ps := ["_law_space_here", "_law_found", "_law_number_here", "_law_kind", "_law_size"]) fun _ _ _ _ _ _ us hl => match us, hl with | [_, _, _, _, _], _ => rfl
  have F19 := fun_mk (st := top 36) l19 c19 k19
  have b19 := F19.binds (ps := ["_law_space_here", "_law_limits", "_law_kind", "_law_size"]) fun _ _ _ _ _ _ us hl => match us, hl with | [_, _, _, _], _ => rfl
  have F20 := fun_mk (st := top 37) l20 c20 k20
  have b20 := F20.binds (ps := ["_law_space_here", "_law_limits", "_law_x"]) fun _ _ _ _ _ _ us hl => match us, hl with | [_, _, _], _ => rfl
  have F21 := fun_mk (st := top 38) l21 c21 k21
  have b21 := F21.binds (ps := ["_law_cells"]) fun _ _ _ _ _ _ us hl => match us, hl with | [_], _ => rfl
  have F22 := fun_mk (st := top 39) l22 c22 k22
  have b22 := F22.binds (ps := ["_law_script"]) fun _ _ _ _ _ _ us hl => match us, hl with | [_], _ => rfl
  have F23 := fun_mk (st := inClass (top 18) 0) l23 c23 k23
  have b23 := F23.binds (ps := ["self", "room", "entries"]) fun _ _ _ _ _ _ us hl => match us, hl with | [_, _, _], _ => rfl
  have F24 := fun_mk (st := inClass (top 18) 1) l24 c24 k24
  have b24 := F24.binds (ps := ["self"]) fun _ _ _ _ _ _ us hl => match us, hl with | [_], _ => rfl
  have F25 := fun_mk (st := inClass (top 18) 2) l25 c25 k25
  have b25 := F25.binds (ps := ["self", "number"]) fun _ _ _ _ _ _ us hl => match us, hl with | [_, _], _ => rfl
  have F26 := fun_mk (st := inClass (top 18) 3) l26 c26 k26
  have b26 := F26.binds (ps := ["self"]) fun _ _ _ _ _ _ us hl => match us, hl with | [_], _ => rfl
  have F27 := fun_mk (st := inClass (top 18) 4) l27 c27 k27
  have b27 := F27.binds (ps := ["self"]) fun _ _ _ _ _ _ us hl => match us, hl with | [_], _ => rfl
  have F28 := fun_mk (st := inClass (top 18) 5) l28 c28 k28
  have b28 := F28.binds (ps := ["self", "kind", "size"]) fun _ _ _ _ _ _ us hl => match us, hl with | [_, _, _], _ => rfl
  have F29 := fun_mk (st := inClass (top 18) 6) l29 c29 k29
  have b29 := F29.binds (ps := ["self", "number"]) fun _ _ _ _ _ _ us hl => match us, hl with | [_, _], _ => rfl
  have F30 := fun_mk (st := inClass (top 18) 7) l30 c30 k30
  have b30 := F30.binds (ps := ["self", "number"]) fun _ _ _ _ _ _ us hl => match us, hl with | [_, _], _ => rfl
  have F31 := fun_mk (st := inClass (top 18) 10) l31 c31 k31
  have b31 := F31.binds (ps := ["self", "number", "at", "word"]) fun _ _ _ _ _ _ us hl => match us, hl with | [_, _, _, _], _ => rfl
  have F32 := fun_mk (st := inClass (top 18) 11) l32 c32 k32
  have b32 := F32.binds (ps := ["self", "number"]) fun _ _ _ _ _ _ us hl => match us, hl with | [_, _], _ => rfl
  have F33 := fun_mk (st := inClass (top 18) 12) l33 c33 k33
  have b33 := F33.binds (ps := ["self", "number"]) fun _ _ _ _ _ _ us hl => match us, hl with | [_, _], _ => rfl
  have F34 : FunC K "close_up" "Store.close_up" (inClass (top 18) 13) f34 _ cc := ⟨⟨oc34, od34, kV34, dc34, pm34, an34, ct34, sl34, rfl, l34, c34⟩⟩
  have b34 : L2.Binds K (fnOf "close_up" "Store.close_up" (defArgs (inClass (top 18) 13)) (defBody (inClass (top 18) 13)) (defScope (inClass (top 18) 13)) .none kV34 dc34 pm34 an34 (.ref cc) ct34) ["self"] [] := .all fun us hl => match us, hl with | [_], _ => rfl
  have F35 := fun_mk (st := inClass (top 21) 0) l35 c35 k35
  have b35 := F35.binds (ps := ["self", "room", "entries"]) fun _ _ _ _ _ _ us hl => match us, hl with | [_, _, _], _ => rfl
  have F36 := fun_mk (st := inClass (top 21) 1) l36 c36 k36
  have F37 := fun_mk (st := inClass (top 21) 2) l37 c37 k37
  have b37 := F37.binds (ps := ["self", "k"]) fun _ _ _ _ _ _ us hl => match us, hl with | [_, _], _ => rfl
  have F38 := fun_mk (st := inClass (top 21) 3) l38 c38 k38
  have b38 := F38.binds (ps := ["self", "k", "word"]) fun _ _ _ _ _ _ us hl => match us, hl with | [_, _, _], _ => rfl
  have F39 := fun_mk (st := inClass (top 21) 4) l39 c39 k39
  have b39 := F39.binds (ps := ["self", "word"]) fun _ _ _ _ _ _ us hl => match us, hl with | [_, _], _ => rfl
  have F40 := fun_mk (st := inClass (top 21) 5) l40 c40 k40
  have b40 := F40.binds (ps := ["self", "count"]) fun _ _ _ _ _ _ us hl => match us, hl with | [_, _], _ => rfl
  have F41 := fun_mk (st := inClass (top 21) 6) l41 c41 k41
  have b41 := F41.binds (ps := ["self"]) fun _ _ _ _ _ _ us hl => match us, hl with | [_], _ => rfl
  have F42 := fun_mk (st := inClass (top 21) 7) l42 c42 k42
  have b42 := F42.binds (ps := ["self"]) fun _ _ _ _ _ _ us hl => match us, hl with | [_], _ => rfl
  have F43 := fun_mk (st := inClass (top 21) 9) l43 c43 k43
  have b43 := F43.binds (ps := ["self", "word"]) fun _ _ _ _ _ _ us hl => match us, hl with | [_, _], _ => rfl
  have F44 := fun_mk (st := inClass (top 21) 10) l44 c44 k44
  have b44 := F44.binds (ps := ["self"]) fun _ _ _ _ _ _ us hl => match us, hl with | [_], _ => rfl
  have F45 := fun_mk (st := inClass (top 21) 11) l45 c45 k45
  have b45 := F45.binds (ps := ["self", "kind", "size"]) fun _ _ _ _ _ _ us hl => match us, hl with | [_, _, _], _ => rfl
  have F46 := fun_mk (st := inClass (top 21) 12) l46 c46 k46
  have b46 := F46.binds (ps := ["self", "kind", "size"]) fun _ _ _ _ _ _ us hl => match us, hl with | [_, _, _], _ => rfl
  have TStore : TStoreC K CS := ⟨⟨pgCS, hdCS, poCS, saCS⟩, nCSroom, nCSentries, nCSwords, nCS_places, nCS_least⟩
  have TSpace : TSpaceC K CP := ⟨⟨pgCP, hdCP, poCP, saCP⟩, nCPstore, nCPpressure, nCPalways, nCPallocations, nCPcollections, nCP_roots, nCP_held, nCP_saved⟩
  have zz1 := mg_none_of X G zlen
  have zz2 := mg_none_of X G zsorted
  have zz3 := mg_none_of X G zmin
  have zz4 := mg_none_of X G zsum
  have zz5 := mg_none_of X G zint
  have zz6 := mg_none_of X G zlist
  have zz7 := mg_none_of X G zisinstance
  have zz8 := mg_none_of X G zbool
  have zz9 := mg_none_of X G zrange
  have TN : TxN mg := ⟨zz1, zz2, zz3, zz4, zz5, zz6, zz7, zz8, zz9⟩
  have gg1 := mg_of X G gNIL
  have gg2 := mg_of X G gHEADER
  have gg3 := mg_of X G gROOTS
  have T : TxC mg := ⟨TN, ⟨_, gg1⟩, ⟨_, gg2⟩, ⟨_, gg3⟩⟩
  have oexR : OexC K CR := ⟨⟨nmCR, qCR, NCR, bsCR, bmCR, snCR, subCR, abCR, colCR, ddCR, m0CR, m1CR, m2CR, m3CR, m5CR, xCR, bmCR_⟩, saCR, ebCR, tyCR, kkCR⟩
  have oexN : OexC K CN := ⟨⟨nmCN, qCN, NCN, bsCN, bmCN, snCN, subCN, abCN, colCN, ddCN, m0CN, m1CN, m2CN, m3CN, m5CN, xCN, bmCN_⟩, saCN, ebCN, tyCN, kkCN⟩
  have supR : SupC K l.prog CR fiCR clCR (nf_NoRoom clCR cdCR) := ⟨oexR, ⟨_, _, _, _, _, _, liCR⟩, ciCR, ⟨_, _, _, _, _, _, fi1CR, fi2CR, fi3CR⟩, ⟨_, _, _, ceCR_⟩, rfl, seCR, opq, suCR, svCR, top1⟩
  have supN : SupC K l.prog CN fiCN clCN (nf_NoNumber clCN cdCN) := ⟨oexN, ⟨_, _, _, _, _, _, liCN⟩, ciCN, ⟨_, _, _, _, _, _, fi1CN, fi2CN, fi3CN⟩, ⟨_, _, _, ceCN_⟩, rfl, seCN, opq, suCN, svCN, top1⟩
  have XM : XmC K CR CN := ⟨err, enr, enn⟩
  have xisR : XisC K CR := ⟨isCR, gaCR, ggCR, ebCR, csCR_, sp1, tk1, moCR⟩
  have xisN : XisC K CN := ⟨isCN, gaCN, ggCN, ebCN, csCN_, sp1, tk1, moCN⟩
  have XK : XkC K mg CE CR CN := ⟨mg_of X G aE, er, en, xisR, xisN, krr, krn, knr, knn, ⟨gaCR, ggCR, ebCR, hdCR⟩, ⟨gaCN, ggCN, ebCN, hdCN⟩, nfCR, nfCN⟩
  refine ⟨fnOf "law" "law" (defArgs (top 39)) (defBody (top 39)) (defScope (top 39)) .none kV22 dc22 pm22 an22 cd22 ct22, [(cc, Pt)], spLaw (Tb1 Pt) K, fun p hp => ?_, fun p hp => ?_, fun p hp => ?_, fun s v => .of_eq rfl, fun H a ns hl hbits htab hS => ?_, fun base hK hN hTB => ?_⟩
  · rw [List.mem_singleton.mp hp]; exact tb1
  · rw [List.mem_singleton.mp hp]; exact tb2
  · rw [List.mem_singleton.mp hp]; exact codeHd_of_K X hd1
  · refine ⟨a, ns, rfl, hS, hl, fun n hn => big_bits (hbits n hn), fun p hp => ?_, fun _ => rfl⟩
    rw [List.mem_singleton.mp hp]
    exact LamX.TabS.nil (htab (cc, Pt) (List.mem_singleton.mpr rfl))
  have TB : LamX.TabB base mg cc Pt := hTB (cc, Pt) (List.mem_singleton.mpr rfl)
  have E_NoRoom : EB l.prog w K mg base "NoRoom" CR "need" "need" := ⟨oexR, ⟨fiCR, _, ok_NoRoom supR liCR (mg_none_of X G zsuper) (mg_none_of X G zstr) nfCR, aiCR, tiCR_, .all fun us hl => match us, hl with | [_, _], _ => rfl⟩, mg_of X G aCR⟩
  have E_NoNumber : EB l.prog w K mg base "NoNumber" CN "limit" "limit" := ⟨oexN, ⟨fiCN, _, ok_NoNumber supN liCN (mg_none_of X G zsuper) (mg_none_of X G zstr) nfCN, aiCN, tiCN_, .all fun us hl => match us, hl with | [_, _], _ => rfl⟩, mg_of X G aCN⟩
  have G_is_ref : GB l.prog w K mg base 1 "is_ref" ["word"] spIsRef := ⟨f1, _, ok_is_ref F1, mg_of X G a1, k1, b1⟩
  have G_ref_of : GB l.prog w K mg base 2 "ref_of" ["word"] spRefOf := ⟨f2, _, ok_ref_of F2 G_is_ref, mg_of X G a2, k2, b2⟩
  have M_Store_used : MB l.prog w K mg base 1 CS "used" ["self"] (spUsed CS) := ⟨f24, _, ok_Store_used F24 TStore T, ⟨a24, i24, k24⟩, b24⟩
  have M_Store_exists : MB l.prog w K mg base 1 CS "exists" ["self", "number"] (spExists CS) := ⟨f25, _, ok_Store_exists F25 TStore, ⟨a25, i25, k25⟩, b25⟩
  have M_Store_numbers : MB l.prog w K mg base 1 CS "numbers" ["self"] (spNumbers CS) := ⟨f26, _, ok_Store_numbers F26 TStore T, ⟨a26, i26, k26⟩, b26⟩
  have M_Store_size : MB l.prog w K mg base 1 CS "size" ["self", "number"] (spSize CS) := ⟨f29, _, ok_Store_size F29 TStore, ⟨a29, i29, k29⟩, b29⟩
  have M_Store_kind : MB l.prog w K mg base 1 CS "kind" ["self", "number"] (spKind CS) := ⟨f30, _, ok_Store_kind F30 TStore, ⟨a30, i30, k30⟩, b30⟩
  have M_Store_slots : MB l.prog w K mg base 2 CS "slots" ["self", "number"] (spSlots CS) := ⟨f32, _, ok_Store_slots F32 TStore T M_Store_size, ⟨a32, i32, k32⟩, b32⟩
  have M_Store_drop : MB l.prog w K mg base 1 CS "drop" ["self", "number"] (spDropS (Tb1 Pt) CS) := ⟨f33, _, ok_Store_drop F33 TStore T, ⟨a33, i33, k33⟩, b33⟩
  have M_Store_close_up : MB l.prog w K mg base 2 CS "close_up" ["self"] (spClose (Tb1 Pt) CS) := ⟨f34, _, ok_Store_close_up F34 TStore T TB, ⟨a34, i34, k34⟩, b34⟩
  have M_Store_put : MB l.prog w K mg base 1 CS "put" ["self", "number", "at", "word"] (spPut CS) := ⟨f31, _, ok_Store_put F31 TStore T, ⟨a31, i31, k31⟩, b31⟩
  have G_reached : GB l.prog w K mg base 3 "reached" ["store", "roots"] (spReached CS) := ⟨f3, _, ok_reached F3 TStore G_is_ref G_ref_of M_Store_exists M_Store_kind M_Store_slots, mg_of X G a3, k3, b3⟩
  have G_collect_collecting : GB l.prog w K mg base 4 "collect_collecting" ["store", "roots"] (spCollect (Tb1 Pt) CS) := ⟨f5, _, ok_collect F5 TStore T G_reached M_Store_numbers M_Store_drop M_Store_close_up, mg_of X G acc, k5, b5⟩
  have G_words_of : GO l.prog w K mg base 3 "words_of" ["store", "numbers"] (spWordsOf CS) := ⟨f4, _, ok_words_of F4 TStore T M_Store_size, mg_of X G a4, k4, b4⟩
  have M_Store_free_number : MX l.prog w K mg base 3 CS "free_number" ["self"] (spFree CS CN) := ⟨f27, _, ok_Store_free_number F27 TStore T E_NoNumber, ⟨a27, i27, k27⟩, b27⟩
  have M_Store_allocate : MX l.prog w K mg base 4 CS "allocate" ["self", "kind", "size"] (spAlloc CS CR CN) := ⟨f28, _, ok_Store_allocate F28 TStore T E_NoRoom M_Store_free_number, ⟨a28, i28, k28⟩, b28⟩
  have K_Store : MKB l.prog w K mg base 1 "Store" CS ["self", "room", "entries"] (spInitS CS) := ⟨⟨f23, _, ok_Store__init_ F23 TStore T, ⟨mkCS, a23, i23, kcCS⟩, b23⟩, mg_of X G aS⟩
  have K_Space : MKB l.prog w K mg base 3 "Space" CP ["self", "room", "entries"] (spInitP CP CS) := ⟨⟨f35, _, ok_Space__init_ F35 TStore TSpace T K_Store, ⟨mkCP, a35, i35, kcCP⟩, b35⟩, mg_of X G aP⟩
  have M_Space_root : MB l.prog w K mg base 1 CP "root" ["self", "k"] (spRoot CP CS) := ⟨f37, _, ok_Space_root F37 TStore TSpace T, ⟨a37, i37, k37⟩, b37⟩
  have M_Space_set_root : MB l.prog w K mg base 1 CP "set_root" ["self", "k", "word"] (spSetRoot CP CS) := ⟨f38, _, ok_Space_set_root F38 TStore TSpace T, ⟨a38, i38, k38⟩, b38⟩
  have M_Space_hold : MB l.prog w K mg base 1 CP "hold" ["self", "word"] (spHold CP CS) := ⟨f39, _, ok_Space_hold F39 TStore TSpace T, ⟨a39, i39, k39⟩, b39⟩
  have M_Space_drop : MB l.prog w K mg base 1 CP "drop" ["self", "count"] (spDropP CP CS) := ⟨f40, _, ok_Space_drop F40 TStore TSpace T, ⟨a40, i40, k40⟩, b40⟩
  have M_Space_held : MB l.prog w K mg base 1 CP "held" ["self"] (spHeld CP CS) := ⟨f41, _, ok_Space_held F41 TStore TSpace T, ⟨a41, i41, k41⟩, b41⟩
  have M_Space_all_roots : MB l.prog w K mg base 1 CP "all_roots" ["self"] (spAllRoots CP CS) := ⟨f42, _, ok_Space_all_roots F42 TStore TSpace T, ⟨a42, i42, k42⟩, b42⟩
  have M_Space_collect_with : MB l.prog w K mg base 5 CP "collect_with" ["self", "word"] (spCollectW (Tb1 Pt) CP CS) := ⟨f43, _, ok_Space_collect_with F43 TStore TSpace T G_collect_collecting M_Space_all_roots, ⟨a43, i43, k43⟩, b43⟩
  have M_Space_live_words : MO l.prog w K mg base 4 CP "live_words" ["self"] (spLive CP CS) := ⟨f44, _, ok_Space_live_words F44 TStore TSpace T G_words_of G_reached M_Space_all_roots, ⟨a44, i44, k44⟩, b44⟩
  have M_Space_fitted : MX l.prog w K mg base 6 CP "fitted" ["self", "kind", "size"] (spFitted (Tb1 Pt) CP CS CR CN) := ⟨f46, _, ok_Space_fitted F46 TStore TSpace T XM E_NoRoom E_NoNumber M_Store_allocate M_Space_collect_with, ⟨a46, i46, k46⟩, b46⟩
  have M_Space_new : MX l.prog w K mg base 7 CP "new" ["self", "kind", "size"] (spNew (Tb1 Pt) CP CS CR CN) := ⟨f45, _, ok_Space_new F45 TStore TSpace T M_Store_allocate M_Space_collect_with M_Space_fitted, ⟨a45, i45, k45⟩, b45⟩
  have M_Space_press : MN l.prog w K mg base 1 CP (spPress CP CS) := ⟨f36, _, ok_Space_press F36 TStore TSpace T, ⟨a36, i36, k36⟩, press_binds F36⟩
  have G_law_number : GO l.prog w K mg base 1 "_law_number" ["_law_cell", "_law_k"] spNumber := ⟨f6, _, ok__law_number F6 T, mg_of X G a6, k6, b6⟩
  have G_law_deeds : GO l.prog w K mg base 2 "_law_deeds" ["_law_cell", "_law_k"] spDeeds := ⟨f7, _, ok__law_deeds F7 T G_law_number, mg_of X G a7, k7, b7⟩
  have G_law_is : GO l.prog w K mg base 1 "_law_is" ["_law_actual", "_law_due"] spIs := ⟨f8, _, ok__law_is F8 T, mg_of X G a8, k8, b8⟩
  have G_law_same : GO l.prog w K mg base 2 "_law_same" ["_law_actual", "_law_due"] spSame := ⟨f9, _, ok__law_same F9 T G_law_is, mg_of X G a9, k9, b9⟩
  have G_law_place : GO l.prog w K mg base 1 "_law_place" ["_law_x"] spPlace := ⟨f10, _, ok__law_place F10 T, mg_of X G a10, k10, b10⟩
  have G_law_word : GO l.prog w K mg base 2 "_law_word" ["_law_space_here", "_law_x"] (spWord CP CS) := ⟨f11, _, ok__law_word F11 TSpace T G_law_place M_Space_root, mg_of X G a11, k11, b11⟩
  have G_law_reached : GO l.prog w K mg base 3 "_law_reached" ["_law_space_here", "_law_words"] (spLReached CP CS) := ⟨f12, _, ok__law_reached F12 TStore TSpace T M_Store_exists M_Store_kind M_Store_slots, mg_of X G a12, k12, b12⟩
  have G_law_total : GO l.prog w K mg base 1 "_law_total" ["_law_found"] spTotal := ⟨f13, _, ok__law_total F13 T, mg_of X G a13, k13, b13⟩
  have G_law_collections : GO l.prog w K mg base 2 "_law_collections" ["_law_space_here", "_law_found", "_law_limits", "_law_size"] (spColls CP CS) := ⟨f14, _, ok__law_collections F14 TStore TSpace T G_law_total M_Store_numbers M_Store_used, mg_of X G a14, k14, b14⟩
  have G_law_called : GO l.prog w K mg base 8 "_law_called" ["_law_space_here", "_law_kind", "_law_size"] (spCalled (Tb1 Pt) CP CS) := ⟨f15, _, ok__law_called F15 TStore TSpace T XK E_NoRoom E_NoNumber M_Space_new, mg_of X G a15, k15, b15⟩
  have G_law_kept : GO l.prog w K mg base 3 "_law_kept" ["_law_space_here", "_law_found"] (spKept CP CS) := ⟨f16, _, ok__law_kept F16 TStore TSpace T M_Store_exists M_Store_kind M_Store_slots G_law_is G_law_same, mg_of X G a16, k16, b16⟩
  have G_law_held : GO l.prog w K mg base 3 "_law_held" ["_law_space_here", "_law_numbers", "_law_used", "_law_number_here", "_law_size"] (spHeldL CP CS) := ⟨f17, _, ok__law_held F17 TStore TSpace T M_Store_numbers M_Store_used G_law_is G_law_same, mg_of X G a17, k17, b17⟩
  have G_law_fresh : GO l.prog w K mg base 3 "_law_fresh" ["_law_space_here", "_law_found", "_law_number_here", "_law_kind", "_law_size"] (spFresh CP CS) := ⟨f18, _, ok__law_fresh F18 TStore TSpace T M_Store_exists M_Store_size M_Store_kind M_Store_slots G_law_is G_law_same, mg_of X G a18, k18, b18⟩
  have G_law_new : GO l.prog w K mg base 9 "_law_new" ["_law_space_here", "_law_limits", "_law_kind", "_law_size"] (spNewL (Tb1 Pt) CP CS) := ⟨f19, _, ok__law_new F19 TStore TSpace T M_Store_numbers M_Store_used M_Space_all_roots G_law_is G_law_same G_law_reached G_law_total G_law_collections G_law_called G_law_kept G_law_held G_law_fresh, mg_of X G a19, k19, b19⟩
  have G_law_deed : GO l.prog w K mg base 10 "_law_deed" ["_law_space_here", "_law_limits", "_law_x"] (spDeed (Tb1 Pt) CP CS) := ⟨f20, _, ok__law_deed F20 TStore TSpace T M_Store_exists M_Store_size M_Store_put M_Space_root M_Space_set_root M_Space_hold M_Space_drop M_Space_held M_Space_all_roots M_Space_live_words G_law_is G_law_place G_law_word G_law_reached G_law_total G_law_new, mg_of X G a20, k20, b20⟩
  have G_law_space : GO l.prog w K mg base 5 "_law_space" ["_law_cells"] (spSpace (Tb1 Pt) CP CS) := ⟨f21, _, ok__law_space F21 TStore TSpace T G_law_number K_Space M_Space_press, mg_of X G a21, k21, b21⟩
  exact ok_law F22 TStore TSpace T M_Space_all_roots G_law_is G_law_same G_law_deeds G_law_new G_law_deed G_law_space K_Space
end Sg

open PySem PySem.W PyProof.Rows
set_option maxRecDepth 100000 in
set_option maxHeartbeats 0 in
theorem PySem.Challenge.cw_saggar_k06_new_harms_nothing_reached_holds : PySem.Challenge.rw_saggar_k06_new_harms_nothing_reached.Holds := by
  w_on; o_law; k_head; (case hw => w_witness2)
  k_fill
  refine LamX.walk_ofTs (l := PySem.Challenge.rw_saggar_k06_new_harms_nothing_reached) (n := 63) (k := 11) (CX := fun _ => L2.CX0) (x := "_law_script") rfl (by decide) rfl ⟨rfl, by decide, by decide⟩ (fun w h Y => PySem.W.km_in_of Y) ?F ?C
  case C => intro w H s e s' h; exact h
  case F =>
    intro w mg fa h Y X G hfa
    have Y2 := PySem.W.km_tabs_of Y
    refine' Sg.all_mk X G hfa ?a1 ?l1 ?c1 ?k1 ?a2 ?l2 ?c2 ?k2 ?a3 ?l3 ?c3 ?k3 ?a4 ?l4 ?c4 ?k4 ?a5 ?l5 ?c5 ?k5 ?a6 ?l6 ?c6 ?k6 ?a7 ?l7 ?c7 ?k7 ?a8 ?l8 ?c8 ?k8 ?a9 ?l9 ?c9 ?k9 ?a10 ?l10 ?c10 ?k10 ?a11 ?l11 ?c11 ?k11 ?a12 ?l12 ?c12 ?k12 ?a13 ?l13 ?c13 ?k13 ?a14 ?l14 ?c14 ?k14 ?a15 ?l15 ?c15 ?k15 ?a16 ?l16 ?c16 ?k16 ?a17 ?l17 ?c17 ?k17 ?a18 ?l18 ?c18 ?k18 ?a19 ?l19 ?c19 ?k19 ?a20 ?l20 ?c20 ?k20 ?a21 ?l21 ?c21 ?k21 ?a22 ?l22 ?c22 ?k22 ?a23 ?i23 ?l23 ?c23 ?k23 ?a24 ?i24 ?l24 ?c24 ?k24 ?a25 ?i25 ?l25 ?c25 ?k25 ?a26 ?i26 ?l26 ?c26 ?k26 ?a27 ?i27 ?l27 ?c27 ?k27 ?a28 ?i28 ?l28 ?c28 ?k28 ?a29 ?i29 ?l29 ?c29 ?k29 ?a30 ?i30 ?l30 ?c30 ?k30 ?a31 ?i31 ?l31 ?c31 ?k31 ?a32 ?i32 ?l32 ?c32 ?k32 ?a33 ?i33 ?l33 ?c33 ?k33 ?a34 ?i34 ?l34 ?c34 ?k34 ?a35 ?i35 ?l35 ?c35 ?k35 ?a36 ?i36 ?l36 ?c36 ?k36 ?a37 ?i37 ?l37 ?c37 ?k37 ?a38 ?i38 ?l38 ?c38 ?k38 ?a39 ?i39 ?l39 ?c39 ?k39 ?a40 ?i40 ?l40 ?c40 ?k40 ?a41 ?i41 ?l41 ?c41 ?k41 ?a42 ?i42 ?l42 ?c42 ?k42 ?a43 ?i43 ?l43 ?c43 ?k43 ?a44 ?i44 ?l44 ?c44 ?k44 ?a45 ?i45 ?l45 ?c45 ?k45 ?a46 ?i46 ?l46 ?c46 ?k46 ?aS ?aP ?pgCS ?hdCS ?poCS ?saCS ?mkCS ?kcCS ?nCSroom ?nCSentries ?nCSwords ?nCS_places ?nCS_least ?pgCP ?hdCP ?poCP ?saCP ?mkCP ?kcCP ?nCPstore ?nCPpressure ?nCPalways ?nCPallocations ?nCPcollections ?nCP_roots ?nCP_held ?nCP_saved ?zlen ?zsorted ?zmin ?zsum ?zint ?zlist ?zisinstance ?zbool ?zrange ?zstr ?zsuper ?gNIL ?gHEADER ?gROOTS ?acc ?aCR ?xCR ?bmCR_ ?saCR ?ebCR ?tyCR ?kkCR ?seCR ?suCR ?svCR ?aiCR ?tiCR_ ?liCR ?ciCR ?fi1CR ?fi2CR ?fi3CR ?ceCR_ ?gaCR ?ggCR ?hdCR ?nfCR ?isCR ?csCR_ ?moCR ?aCN ?xCN ?bmCN_ ?saCN ?ebCN ?tyCN ?kkCN ?seCN ?suCN ?svCN ?aiCN ?tiCN_ ?liCN ?ciCN ?fi1CN ?fi2CN ?fi3CN ?ceCN_ ?gaCN ?ggCN ?hdCN ?nfCN ?isCN ?csCN_ ?moCN ?opq ?top1 ?sp1 ?tk1 ?aE ?er ?en ?err ?enr ?enn ?krr ?krn ?knr ?knn ?hd1 ?tb1 ?tb2
    (case tb1 => exact (Y2 _ (List.mem_singleton.mpr rfl)))
    (case aS => first | k_is | rfl | decide +kernel)
    (case aP => first | k_is | rfl | decide +kernel)
    (case aCR => first | k_is | rfl | decide +kernel)
    (case aCN => first | k_is | rfl | decide +kernel)
    (case aE => first | k_is | rfl | decide +kernel)
    (case xCR => first | k_is | rfl | decide +kernel)
    (case xCN => first | k_is | rfl | decide +kernel)
    (case aiCR => first | k_is | rfl | decide +kernel)
    (case aiCN => first | k_is | rfl | decide +kernel)
    (case liCR => first | k_is | rfl | decide +kernel)
    (case liCN => first | k_is | rfl | decide +kernel)
    (case fi1CR => first | k_is | rfl | decide +kernel)
    (case fi1CN => first | k_is | rfl | decide +kernel)
    (case a1 => first | k_is | rfl | decide +kernel)
    (case l1 => first | k_is | rfl | decide +kernel)
    (case c1 => first | k_is | rfl | decide +kernel)
    (case k1 => first | k_is | rfl | decide +kernel)
    (case a2 => first | k_is | rfl | decide +kernel)
    (case l2 => first | k_is | rfl | decide +kernel)
    (case c2 => first | k_is | rfl | decide +kernel)
    (case k2 => first | k_is | rfl | decide +kernel)
    (case a3 => first | k_is | rfl | decide +kernel)
    (case l3 => first | k_is | rfl | decide +kernel)
    (case c3 => first | k_is | rfl | decide +kernel)
    (case k3 => first | k_is | rfl | decide +kernel)
    (case a4 => first | k_is | rfl | decide +kernel)
    (case l4 => first | k_is | rfl | decide +kernel)
    (case c4 => first | k_is | rfl | decide +kernel)
    (case k4 => first | k_is | rfl | decide +kernel)
    (case a5 => first | k_is | rfl | decide +kernel)
    (case l5 => first | k_is | rfl | decide +kernel)
    (case c5 => first | k_is | rfl | decide +kernel)
    (case k5 => first | k_is | rfl | decide +kernel)
    (case a6 => first | k_is | rfl | decide +kernel)
    (case l6 => first | k_is | rfl | decide +kernel)
    (case c6 => first | k_is | rfl | decide +kernel)
    (case k6 => first | k_is | rfl | decide +kernel)
    (case a7 => first | k_is | rfl | decide +kernel)
    (case l7 => first | k_is | rfl | decide +kernel)
    (case c7 => first | k_is | rfl | decide +kernel)
    (case k7 => first | k_is | rfl | decide +kernel)
    (case a8 => first | k_is | rfl | decide +kernel)
    (case l8 => first | k_is | rfl | decide +kernel)
    (case c8 => first | k_is | rfl | decide +kernel)
    (case k8 => first | k_is | rfl | decide +kernel)
    (case a9 => first | k_is | rfl | decide +kernel)
    (case l9 => first | k_is | rfl | decide +kernel)
    (case c9 => first | k_is | rfl | decide +kernel)
    (case k9 => first | k_is | rfl | decide +kernel)
    (case a10 => first | k_is | rfl | decide +kernel)
    (case l10 => first | k_is | rfl | decide +kernel)
    (case c10 => first | k_is | rfl | decide +kernel)
    (case k10 => first | k_is | rfl | decide +kernel)
    (case a11 => first | k_is | rfl | decide +kernel)
    (case l11 => first | k_is | rfl | decide +kernel)
    (case c11 => first | k_is | rfl | decide +kernel)
    (case k11 => first | k_is | rfl | decide +kernel)
    (case a12 => first | k_is | rfl | decide +kernel)
    (case l12 => first | k_is | rfl | decide +kernel)
    (case c12 => first | k_is | rfl | decide +kernel)
    (case k12 => first | k_is | rfl | decide +kernel)
    (case a13 => first | k_is | rfl | decide +kernel)
    (case l13 => first | k_is | rfl | decide +kernel)
    (case c13 => first | k_is | rfl | decide +kernel)
    (case k13 => first | k_is | rfl | decide +kernel)
    (case a14 => first | k_is | rfl | decide +kernel)
    (case l14 => first | k_is | rfl | decide +kernel)
    (case c14 => first | k_is | rfl | decide +kernel)
    (case k14 => first | k_is | rfl | decide +kernel)
    (case a15 => first | k_is | rfl | decide +kernel)
    (case l15 => first | k_is | rfl | decide +kernel)
    (case c15 => first | k_is | rfl | decide +kernel)
    (case k15 => first | k_is | rfl | decide +kernel)
    (case a16 => first | k_is | rfl | decide +kernel)
    (case l16 => first | k_is | rfl | decide +kernel)
    (case c16 => first | k_is | rfl | decide +kernel)
    (case k16 => first | k_is | rfl | decide +kernel)
    (case a17 => first | k_is | rfl | decide +kernel)
    (case l17 => first | k_is | rfl | decide +kernel)
    (case c17 => first | k_is | rfl | decide +kernel)
    (case k17 => first | k_is | rfl | decide +kernel)
    (case a18 => first | k_is | rfl | decide +kernel)
    (case l18 => first | k_is | rfl | decide +kernel)
    (case c18 => first | k_is | rfl | decide +kernel)
    (case k18 => first | k_is | rfl | decide +kernel)
    (case a19 => first | k_is | rfl | decide +kernel)
    (case l19 => first | k_is | rfl | decide +kernel)
    (case c19 => first | k_is | rfl | decide +kernel)
    (case k19 => first | k_is | rfl | decide +kernel)
    (case a20 => first | k_is | rfl | decide +kernel)
    (case l20 => first | k_is | rfl | decide +kernel)
    (case c20 => first | k_is | rfl | decide +kernel)
    (case k20 => first | k_is | rfl | decide +kernel)
    (case a21 => first | k_is | rfl | decide +kernel)
    (case l21 => first | k_is | rfl | decide +kernel)
    (case c21 => first | k_is | rfl | decide +kernel)
    (case k21 => first | k_is | rfl | decide +kernel)
    (case a22 => first | k_is | rfl | decide +kernel)
    (case l22 => first | k_is | rfl | decide +kernel)
    (case c22 => first | k_is | rfl | decide +kernel)
    (case k22 => first | k_is | rfl | decide +kernel)
    (case a23 => first | k_is | rfl | decide +kernel)
    (case i23 => first | k_is | rfl | decide +kernel)
    (case l23 => first | k_is | rfl | decide +kernel)
    (case c23 => first | k_is | rfl | decide +kernel)
    (case k23 => first | k_is | rfl | decide +kernel)
    (case a24 => first | k_is | rfl | decide +kernel)
    (case i24 => first | k_is | rfl | decide +kernel)
    (case l24 => first | k_is | rfl | decide +kernel)
    (case c24 => first | k_is | rfl | decide +kernel)
    (case k24 => first | k_is | rfl | decide +kernel)
    (case a25 => first | k_is | rfl | decide +kernel)
    (case i25 => first | k_is | rfl | decide +kernel)
    (case l25 => first | k_is | rfl | decide +kernel)
    (case c25 => first | k_is | rfl | decide +kernel)
    (case k25 => first | k_is | rfl | decide +kernel)
    (case a26 => first | k_is | rfl | decide +kernel)
    (case i26 => first | k_is | rfl | decide +kernel)
    (case l26 => first | k_is | rfl | decide +kernel)
    (case c26 => first | k_is | rfl | decide +kernel)
    (case k26 => first | k_is | rfl | decide +kernel)
    (case a27 => first | k_is | rfl | decide +kernel)
    (case i27 => first | k_is | rfl | decide +kernel)
    (case l27 => first | k_is | rfl | decide +kernel)
    (case c27 => first | k_is | rfl | decide +kernel)
    (case k27 => first | k_is | rfl | decide +kernel)
    (case a28 => first | k_is | rfl | decide +kernel)
    (case i28 => first | k_is | rfl | decide +kernel)
    (case l28 => first | k_is | rfl | decide +kernel)
    (case c28 => first | k_is | rfl | decide +kernel)
    (case k28 => first | k_is | rfl | decide +kernel)
    (case a29 => first | k_is | rfl | decide +kernel)
    (case i29 => first | k_is | rfl | decide +kernel)
    (case l29 => first | k_is | rfl | decide +kernel)
    (case c29 => first | k_is | rfl | decide +kernel)
    (case k29 => first | k_is | rfl | decide +kernel)
    (case a30 => first | k_is | rfl | decide +kernel)
    (case i30 => first | k_is | rfl | decide +kernel)
    (case l30 => first | k_is | rfl | decide +kernel)
    (case c30 => first | k_is | rfl | decide +kernel)
    (case k30 => first | k_is | rfl | decide +kernel)
    (case a31 => first | k_is | rfl | decide +kernel)
    (case i31 => first | k_is | rfl | decide +kernel)
    (case l31 => first | k_is | rfl | decide +kernel)
    (case c31 => first | k_is | rfl | decide +kernel)
    (case k31 => first | k_is | rfl | decide +kernel)
    (case a32 => first | k_is | rfl | decide +kernel)
    (case i32 => first | k_is | rfl | decide +kernel)
    (case l32 => first | k_is | rfl | decide +kernel)
    (case c32 => first | k_is | rfl | decide +kernel)
    (case k32 => first | k_is | rfl | decide +kernel)
    (case a33 => first | k_is | rfl | decide +kernel)
    (case i33 => first | k_is | rfl | decide +kernel)
    (case l33 => first | k_is | rfl | decide +kernel)
    (case c33 => first | k_is | rfl | decide +kernel)
    (case k33 => first | k_is | rfl | decide +kernel)
    (case a34 => first | k_is | rfl | decide +kernel)
    (case i34 => first | k_is | rfl | decide +kernel)
    (case l34 => first | k_is | rfl | decide +kernel)
    (case c34 => first | k_is | rfl | decide +kernel)
    (case k34 => first | k_is | rfl | decide +kernel)
    (case a35 => first | k_is | rfl | decide +kernel)
    (case i35 => first | k_is | rfl | decide +kernel)
    (case l35 => first | k_is | rfl | decide +kernel)
    (case c35 => first | k_is | rfl | decide +kernel)
    (case k35 => first | k_is | rfl | decide +kernel)
    (case a36 => first | k_is | rfl | decide +kernel)
    (case i36 => first | k_is | rfl | decide +kernel)
    (case l36 => first | k_is | rfl | decide +kernel)
    (case c36 => first | k_is | rfl | decide +kernel)
    (case k36 => first | k_is | rfl | decide +kernel)
    (case a37 => first | k_is | rfl | decide +kernel)
    (case i37 => first | k_is | rfl | decide +kernel)
    (case l37 => first | k_is | rfl | decide +kernel)
    (case c37 => first | k_is | rfl | decide +kernel)
    (case k37 => first | k_is | rfl | decide +kernel)
    (case a38 => first | k_is | rfl | decide +kernel)
    (case i38 => first | k_is | rfl | decide +kernel)
    (case l38 => first | k_is | rfl | decide +kernel)
    (case c38 => first | k_is | rfl | decide +kernel)
    (case k38 => first | k_is | rfl | decide +kernel)
    (case a39 => first | k_is | rfl | decide +kernel)
    (case i39 => first | k_is | rfl | decide +kernel)
    (case l39 => first | k_is | rfl | decide +kernel)
    (case c39 => first | k_is | rfl | decide +kernel)
    (case k39 => first | k_is | rfl | decide +kernel)
    (case a40 => first | k_is | rfl | decide +kernel)
    (case i40 => first | k_is | rfl | decide +kernel)
    (case l40 => first | k_is | rfl | decide +kernel)
    (case c40 => first | k_is | rfl | decide +kernel)
    (case k40 => first | k_is | rfl | decide +kernel)
    (case a41 => first | k_is | rfl | decide +kernel)
    (case i41 => first | k_is | rfl | decide +kernel)
    (case l41 => first | k_is | rfl | decide +kernel)
    (case c41 => first | k_is | rfl | decide +kernel)
    (case k41 => first | k_is | rfl | decide +kernel)
    (case a42 => first | k_is | rfl | decide +kernel)
    (case i42 => first | k_is | rfl | decide +kernel)
    (case l42 => first | k_is | rfl | decide +kernel)
    (case c42 => first | k_is | rfl | decide +kernel)
    (case k42 => first | k_is | rfl | decide +kernel)
    (case a43 => first | k_is | rfl | decide +kernel)
    (case i43 => first | k_is | rfl | decide +kernel)
    (case l43 => first | k_is | rfl | decide +kernel)
    (case c43 => first | k_is | rfl | decide +kernel)
    (case k43 => first | k_is | rfl | decide +kernel)
    (case a44 => first | k_is | rfl | decide +kernel)
    (case i44 => first | k_is | rfl | decide +kernel)
    (case l44 => first | k_is | rfl | decide +kernel)
    (case c44 => first | k_is | rfl | decide +kernel)
    (case k44 => first | k_is | rfl | decide +kernel)
    (case a45 => first | k_is | rfl | decide +kernel)
    (case i45 => first | k_is | rfl | decide +kernel)
    (case l45 => first | k_is | rfl | decide +kernel)
    (case c45 => first | k_is | rfl | decide +kernel)
    (case k45 => first | k_is | rfl | decide +kernel)
    (case a46 => first | k_is | rfl | decide +kernel)
    (case i46 => first | k_is | rfl | decide +kernel)
    (case l46 => first | k_is | rfl | decide +kernel)
    (case c46 => first | k_is | rfl | decide +kernel)
    (case k46 => first | k_is | rfl | decide +kernel)
    (case pgCS => first | k_is | rfl | decide +kernel)
    (case hdCS => first | k_is | rfl | decide +kernel)
    (case poCS => first | k_is | rfl | decide +kernel)
    (case saCS => first | k_is | rfl | decide +kernel)
    (case mkCS => first | k_is | rfl | decide +kernel)
    (case kcCS => first | k_is | rfl | decide +kernel)
    (case nCSroom => first | k_is | rfl | decide +kernel)
    (case nCSentries => first | k_is | rfl | decide +kernel)
    (case nCSwords => first | k_is | rfl | decide +kernel)
    (case nCS_places => first | k_is | rfl | decide +kernel)
    (case nCS_least => first | k_is | rfl | decide +kernel)
    (case pgCP => first | k_is | rfl | decide +kernel)
    (case hdCP => first | k_is | rfl | decide +kernel)
    (case poCP => first | k_is | rfl | decide +kernel)
    (case saCP => first | k_is | rfl | decide +kernel)
    (case mkCP => first | k_is | rfl | decide +kernel)
    (case kcCP => first | k_is | rfl | decide +kernel)
    (case nCPstore => first | k_is | rfl | decide +kernel)
    (case nCPpressure => first | k_is | rfl | decide +kernel)
    (case nCPalways => first | k_is | rfl | decide +kernel)
    (case nCPallocations => first | k_is | rfl | decide +kernel)
    (case nCPcollections => first | k_is | rfl | decide +kernel)
    (case nCP_roots => first | k_is | rfl | decide +kernel)
    (case nCP_held => first | k_is | rfl | decide +kernel)
    (case nCP_saved => first | k_is | rfl | decide +kernel)
    (case zlen => first | k_is | rfl | decide +kernel)
    (case zsorted => first | k_is | rfl | decide +kernel)
    (case zmin => first | k_is | rfl | decide +kernel)
    (case zsum => first | k_is | rfl | decide +kernel)
    (case zint => first | k_is | rfl | decide +kernel)
    (case zlist => first | k_is | rfl | decide +kernel)
    (case zisinstance => first | k_is | rfl | decide +kernel)
    (case zbool => first | k_is | rfl | decide +kernel)
    (case zrange => first | k_is | rfl | decide +kernel)
    (case zstr => first | k_is | rfl | decide +kernel)
    (case zsuper => first | k_is | rfl | decide +kernel)
    (case gNIL => first | k_is | rfl | decide +kernel)
    (case gHEADER => first | k_is | rfl | decide +kernel)
    (case gROOTS => first | k_is | rfl | decide +kernel)
    (case acc => first | k_is | rfl | decide +kernel)
    (case bmCR_ => first | k_is | rfl | decide +kernel)
    (case saCR => first | k_is | rfl | decide +kernel)
    (case ebCR => first | k_is | rfl | decide +kernel)
    (case tyCR => first | k_is | rfl | decide +kernel)
    (case kkCR => first | k_is | rfl | decide +kernel)
    (case seCR => first | k_is | rfl | decide +kernel)
    (case suCR => first | k_is | rfl | decide +kernel)
    (case svCR => first | k_is | rfl | decide +kernel)
    (case tiCR_ => first | k_is | rfl | decide +kernel)
    (case ciCR => first | k_is | rfl | decide +kernel)
    (case fi2CR => first | k_is | rfl | decide +kernel)
    (case fi3CR => first | k_is | rfl | decide +kernel)
    (case ceCR_ => first | k_is | rfl | decide +kernel)
    (case gaCR => first | k_is | rfl | decide +kernel)
    (case ggCR => first | k_is | rfl | decide +kernel)
    (case hdCR => first | k_is | rfl | decide +kernel)
    (case nfCR => first | k_is | rfl | decide +kernel)
    (case isCR => first | k_is | rfl | decide +kernel)
    (case csCR_ => first | k_is | rfl | decide +kernel)
    (case moCR => first | k_is | rfl | decide +kernel)
    (case bmCN_ => first | k_is | rfl | decide +kernel)
    (case saCN => first | k_is | rfl | decide +kernel)
    (case ebCN => first | k_is | rfl | decide +kernel)
    (case tyCN => first | k_is | rfl | decide +kernel)
    (case kkCN => first | k_is | rfl | decide +kernel)
    (case seCN => first | k_is | rfl | decide +kernel)
    (case suCN => first | k_is | rfl | decide +kernel)
    (case svCN => first | k_is | rfl | decide +kernel)
    (case tiCN_ => first | k_is | rfl | decide +kernel)
    (case ciCN => first | k_is | rfl | decide +kernel)
    (case fi2CN => first | k_is | rfl | decide +kernel)
    (case fi3CN => first | k_is | rfl | decide +kernel)
    (case ceCN_ => first | k_is | rfl | decide +kernel)
    (case gaCN => first | k_is | rfl | decide +kernel)
    (case ggCN => first | k_is | rfl | decide +kernel)
    (case hdCN => first | k_is | rfl | decide +kernel)
    (case nfCN => first | k_is | rfl | decide +kernel)
    (case isCN => first | k_is | rfl | decide +kernel)
    (case csCN_ => first | k_is | rfl | decide +kernel)
    (case moCN => first | k_is | rfl | decide +kernel)
    (case opq => first | k_is | rfl | decide +kernel)
    (case top1 => first | k_is | rfl | decide +kernel)
    (case sp1 => first | k_is | rfl | decide +kernel)
    (case tk1 => first | k_is | rfl | decide +kernel)
    (case er => first | k_is | rfl | decide +kernel)
    (case en => first | k_is | rfl | decide +kernel)
    (case err => first | k_is | rfl | decide +kernel)
    (case enr => first | k_is | rfl | decide +kernel)
    (case enn => first | k_is | rfl | decide +kernel)
    (case krr => first | k_is | rfl | decide +kernel)
    (case krn => first | k_is | rfl | decide +kernel)
    (case knr => first | k_is | rfl | decide +kernel)
    (case knn => first | k_is | rfl | decide +kernel)
    (case hd1 => first | k_is | rfl | decide +kernel)
    (case tb2 => first | k_is | rfl | decide +kernel)
#print axioms PySem.Challenge.cw_saggar_k06_new_harms_nothing_reached_holds
